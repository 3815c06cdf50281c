import PyProof.Rows.All
import Wide.All
import OpenK.AllK
import Wide.FinOn
import HandS.Walk
import HandS.Words
import HandS.Defaults
import HandS.HeadHook4
import HandS.HeadWalk
import HandS.Head3
import HandS.ForMost
import HandS.ForExc
import HandS.AnyAll
import HandS.Wide
import HandS.Gcd
import HandS.Evl
import HandS.Lambda
import HandS.Zip
import HandS.Style
import HandS.TupAny
import HandS.SortInts
import HandS.More
import HandS.Conv
import HandS.GenOver
import HandS.Comp
import PyProof.GenCompD
import HandS.Iter
import PyProof.Draws
import HandS.IsInst
import KE.SortKeyHeap
import KE.DataCmp
import PyProof.StrHeap
import HandS.RaiseMore
import PyProof.ReprLen
import KE.KDictPairs
import KE.KDictCopyH
import KE.KDictSum
import KE.KLam
import PySem.Challenge.RW_firmcolumns_k73_whole_prices_by_own_path
set_option Elab.async false
set_option linter.all false
set_option maxRecDepth 100000
set_option maxHeartbeats 2000000
/-! T0: the top's statements. -/
namespace Fm
open PySem PySem.Spec PyProof.Rows L2
def top (i : Nat) : Stmt := PySem.Challenge.pw_firmcolumns_k73_whole_prices_by_own_path.main.body.getD i (.Pass ⟨0, 0, 0, 0⟩)
abbrev FnP (K : PySem.W.Frag) (x : Str) (st : Stmt) (f : Addr) (fd : FuncData) : Prop := FunD K x x (defArgs st) (defBody st) (defScope st) [] [] f fd
end Fm
set_option maxHeartbeats 0
/-! H1: the head: what the program's top leaves. -/
namespace Fm
open PySem PySem.Spec PyProof.Rows L2
abbrev Rw : PySem.W.OpenRow := PySem.W.OpenLaw.row PySem.Challenge.rw_firmcolumns_k73_whole_prices_by_own_path
def dd (x : Str) (i : Nat) : He.DefD := ⟨(x, none), x, x, defArgs (top i), defBody (top i), defScope (top i), [], []⟩
def fnL : List He.DefD := [dd "is_whole" 9, dd "is_between" 10, dd "is_below" 11, dd "is_two" 12, dd "common_divisor" 13, dd "reduced" 14, dd "added" 15, dd "taken" 16, dd "multiplied" 17, dd "divided" 18, dd "is_less" 19, dd "greater_of" 20, dd "sum_up" 21, dd "greatest_of" 22, dd "is_rising" 26, dd "order_of" 27, dd "has_form" 28, dd "wrong_span" 29, dd "made_book" 30, dd "made_number" 31, dd "share_columns" 32, dd "lies_in" 34, dd "do_cross" 35, dd "crossing_in" 36, dd "within_in" 37, dd "outermost_in" 38, dd "children_in" 39, dd "tops_in" 40, dd "crossing" 41, dd "made_nest" 42, dd "falling" 44, dd "level_of" 45, dd "prices_in" 46, dd "active_in" 47, dd "page_price_in" 48, dd "price" 49, dd "page_price" 50, dd "dear_in" 51, dd "dear_top" 52, dd "tree_in" 54, dd "tree_shares" 55, dd "scripts_from" 57, dd "scripts" 58, dd "_law_pool" 60, dd "_law_take" 61, dd "_law_one" 62, dd "_law_mixed" 63, dd "_law_is_number" 64, dd "_law_gcd" 65, dd "_law_frac" 66, dd "_law_plus" 67, dd "_law_times" 68, dd "_law_over_by" 69, dd "_law_below" 70, dd "_law_greatest" 71, dd "_law_sum_all" 72, dd "_law_is_fraction" 73, dd "_law_is_row" 74, dd "_law_in_order" 75, dd "_law_make_book" 76, dd "_law_within" 77, dd "_law_tree" 78, dd "_law_roots" 79, dd "_law_live_kids" 80, dd "_law_felt_at" 81, dd "_law_own_texts" 82, dd "_law_cut_ends" 83, dd "_law_nest_over" 84, dd "_law_any_nest" 85, dd "_law_shape_nest" 86, dd "_law_some_nest" 87, dd "_law_any_share" 88, dd "_law_any_shares" 89, dd "_law_lots_of" 90, dd "_law_lot_worth" 91, dd "_law_prices_by_lots" 92, dd "_law_paths_by" 93, dd "_law_mean_worth" 94, dd "_law_scripts_right" 95, dd "_law_picked_right" 96, dd "_law_worst_of" 97, dd "_law_are_shares" 98, dd "_law_shares_right" 99, dd "_law_nest_right" 100, dd "law" 101]
def faL : List He.Fa := [.glo "is_whole", .glo "is_between", .glo "is_below", .glo "is_two", .glo "common_divisor", .glo "reduced", .glo "added", .glo "taken", .glo "multiplied", .glo "divided", .glo "is_less", .glo "greater_of", .glo "sum_up", .glo "greatest_of", .glo "is_rising", .glo "order_of", .glo "has_form", .glo "wrong_span", .glo "made_book", .glo "made_number", .glo "share_columns", .glo "lies_in", .glo "do_cross", .glo "crossing_in", .glo "within_in", .glo "outermost_in", .glo "children_in", .glo "tops_in", .glo "crossing", .glo "made_nest", .glo "falling", .glo "level_of", .glo "prices_in", .glo "active_in", .glo "page_price_in", .glo "price", .glo "page_price", .glo "dear_in", .glo "dear_top", .glo "tree_in", .glo "tree_shares", .glo "scripts_from", .glo "scripts", .glo "_law_pool", .glo "_law_take", .glo "_law_one", .glo "_law_mixed", .glo "_law_is_number", .glo "_law_gcd", .glo "_law_frac", .glo "_law_plus", .glo "_law_times", .glo "_law_over_by", .glo "_law_below", .glo "_law_greatest", .glo "_law_sum_all", .glo "_law_is_fraction", .glo "_law_is_row", .glo "_law_in_order", .glo "_law_make_book", .glo "_law_within", .glo "_law_tree", .glo "_law_roots", .glo "_law_live_kids", .glo "_law_felt_at", .glo "_law_own_texts", .glo "_law_cut_ends", .glo "_law_nest_over", .glo "_law_any_nest", .glo "_law_shape_nest", .glo "_law_some_nest", .glo "_law_any_share", .glo "_law_any_shares", .glo "_law_lots_of", .glo "_law_lot_worth", .glo "_law_prices_by_lots", .glo "_law_paths_by", .glo "_law_mean_worth", .glo "_law_scripts_right", .glo "_law_picked_right", .glo "_law_worst_of", .glo "_law_are_shares", .glo "_law_shares_right", .glo "_law_nest_right", .glo "law", .free "len", .free "range", .free "tuple", .free "list", .free "sorted", .free "max", .free "min", .free "sum", .free "int", .free "isinstance", .free "repr", .free "any", .free "all", .free "enumerate", .free "dict", .free "zip", .free "bool", .free "str", .glo "NOUGHT", .glo "ONE", .int "MOST_COLUMNS" 16, .int "MOST_SPANS" 40]
def tfL : List He.Defn := [("share_columns", none), ("lies_in", none), ("outermost_in", none), ("_law_in_order", none)]
def exB (K : PySem.W.Frag) : Bool := He.eqO (PySem.W.nsIn K mainGlobals "gcd") (some (some (.builtin "math.gcd"))) && (He.tupB K "NOUGHT" [.int 0, .int 1] && (He.tupB K "ONE" [.int 1, .int 1] &&
  (!decide ((He.cT K ("share_columns", none)).2 = (He.cT K ("_law_in_order", none)).2) && (!decide ((He.cT K ("lies_in", none)).2 = (He.cT K ("_law_in_order", none)).2) && !decide ((He.cT K ("outermost_in", none)).2 = (He.cT K ("_law_in_order", none)).2)))))
abbrev hkX : PySem.W.Hook := He.hookX 2 faL fnL [] tfL exB
def obL (s : PySem.W.SharedT) : He.AlX := He.obsX 2 faL fnL [] tfL exB (HandSHeadRun.getT s)
theorem obL_eq (s : PySem.W.SharedT) : obL s = hkX.obs s.abs := He.obsX_eq (HandSHeadRun.getT_eq s)
def loose0 : List PySem.Str := [("Refused" : PySem.Str), ("BadBook" : PySem.Str), ("BadSpan" : PySem.Str), ("Crossing" : PySem.Str), ("NOUGHT" : PySem.Str), ("ONE" : PySem.Str), ("is_whole" : PySem.Str), ("is_between" : PySem.Str), ("is_below" : PySem.Str), ("is_two" : PySem.Str), ("common_divisor" : PySem.Str), ("reduced" : PySem.Str), ("added" : PySem.Str), ("taken" : PySem.Str), ("multiplied" : PySem.Str), ("divided" : PySem.Str), ("is_less" : PySem.Str), ("greater_of" : PySem.Str), ("sum_up" : PySem.Str), ("greatest_of" : PySem.Str), ("MOST_COLUMNS" : PySem.Str), ("MOST_SPANS" : PySem.Str), ("is_rising" : PySem.Str), ("order_of" : PySem.Str), ("has_form" : PySem.Str), ("wrong_span" : PySem.Str), ("made_book" : PySem.Str), ("made_number" : PySem.Str), ("share_columns" : PySem.Str), ("lies_in" : PySem.Str), ("do_cross" : PySem.Str), ("crossing_in" : PySem.Str), ("within_in" : PySem.Str), ("outermost_in" : PySem.Str), ("children_in" : PySem.Str), ("tops_in" : PySem.Str), ("crossing" : PySem.Str), ("made_nest" : PySem.Str), ("falling" : PySem.Str), ("level_of" : PySem.Str)]
def loose1 : List PySem.Str := [("prices_in" : PySem.Str), ("active_in" : PySem.Str), ("page_price_in" : PySem.Str), ("price" : PySem.Str), ("page_price" : PySem.Str), ("dear_in" : PySem.Str), ("dear_top" : PySem.Str), ("tree_in" : PySem.Str), ("tree_shares" : PySem.Str), ("scripts_from" : PySem.Str), ("scripts" : PySem.Str), ("_law_pool" : PySem.Str), ("_law_take" : PySem.Str), ("_law_one" : PySem.Str), ("_law_mixed" : PySem.Str), ("_law_is_number" : PySem.Str), ("_law_gcd" : PySem.Str), ("_law_frac" : PySem.Str), ("_law_plus" : PySem.Str), ("_law_times" : PySem.Str), ("_law_over_by" : PySem.Str), ("_law_below" : PySem.Str), ("_law_greatest" : PySem.Str), ("_law_sum_all" : PySem.Str), ("_law_is_fraction" : PySem.Str), ("_law_is_row" : PySem.Str), ("_law_in_order" : PySem.Str), ("_law_make_book" : PySem.Str), ("_law_within" : PySem.Str), ("_law_tree" : PySem.Str), ("_law_roots" : PySem.Str), ("_law_live_kids" : PySem.Str), ("_law_felt_at" : PySem.Str), ("_law_own_texts" : PySem.Str), ("_law_cut_ends" : PySem.Str), ("_law_nest_over" : PySem.Str), ("_law_any_nest" : PySem.Str), ("_law_shape_nest" : PySem.Str), ("_law_some_nest" : PySem.Str), ("_law_any_share" : PySem.Str)]
def loose2 : List PySem.Str := [("_law_any_shares" : PySem.Str), ("_law_lots_of" : PySem.Str), ("_law_lot_worth" : PySem.Str), ("_law_prices_by_lots" : PySem.Str), ("_law_paths_by" : PySem.Str), ("_law_mean_worth" : PySem.Str), ("_law_scripts_right" : PySem.Str), ("_law_picked_right" : PySem.Str), ("_law_worst_of" : PySem.Str), ("_law_are_shares" : PySem.Str), ("_law_shares_right" : PySem.Str), ("_law_nest_right" : PySem.Str)]
def looseL : List PySem.Str := loose0 ++ (loose1 ++ (loose2))
open PySem.W HandSHeadRun in
theorem runA (w : World) : (wholeF (fun p => stepQ (denQ tabQ) p w) fenceQ 4000 Rw.prog).map (fun x => looksF Rw.prog x.1.heap x.2.abs) = some true := by
  kernel_rfl
open PySem.W HandSHeadRun in
theorem runB (w : World) : (wholeF (fun p => stepQ (denQ tabQ) p w) fenceQ 4000 Rw.prog).map (fun x => seenQ (view Rw.prog [0, 101]) looseL (importedModules Rw.prog.main.body) (fun s => xlAt (view Rw.prog [0, 101]) [] s && recOk Rw.toRowW.records s) x.2.abs) = some (openGood (view Rw.prog [0, 101]) looseL) := by
  kernel_rfl
open PySem.W HandSHeadRun in
theorem runC (w : World) : (wholeF (fun p => stepQ (denQ tabQ) p w) fenceQ 4000 Rw.prog).map (fun x => obL x.2) = some (hkX.val w) := by
  kernel_rfl
/-- three looks at one thing -/
theorem look3 {α β γ δ : Type} {t : Option α} {f : α → β} {g : α → γ} {h : α → δ} {x : β} {y : γ} {z : δ} (e1 : t.map f = some x) (e2 : t.map g = some y) (e3 : t.map h = some z) : t.map (fun a => (f a, g a, h a)) = some (x, y, z) := by
  cases t with
  | none => cases e1
  | some a =>
    have e1 := Option.some.inj e1
    have e2 := Option.some.inj e2
    have e3 := Option.some.inj e3
    show some (f a, g a, h a) = _
    rw [e1, e2, e3]
theorem runL (w : World) : HandSHeadRun.RunEqI Rw (PySem.W.view Rw.prog [0, 101]) hkX obL 4000 looseL w := by
  unfold HandSHeadRun.RunEqI
  exact look3 (runA w) (runB w) (runC w)
end Fm
set_option maxHeartbeats 0
/-! F1: the row, but for the law's walk. -/
namespace Fm
open PySem PySem.W PySem.Calls PyProof.Rows
theorem fin_row (hc : WalkO (view Rw.prog [0, 101]) looseL (XL (view Rw.prog [0, 101]) []) hkX.says Rw.toRowW (HandSHeadRun.topDef Rw.prog 101) [] (fun f vs => PySem.call f vs)) : PySem.Challenge.rw_firmcolumns_k73_whole_prices_by_own_path.Holds := by
  w_on; o_law
  refine HandSHeadRun.head_imp (r := Rw) (q := view Rw.prog [0, 101]) (H := hkX) (ob := obL) (M := 4000) (loose := looseL) (d := HandSHeadRun.topDef Rw.prog 101) (kwd := []) obL_eq
    runL (by kernel_rfl) (by kernel_rfl) (by kernel_rfl) (by rfl) (by first | assumption | decide +kernel) (by decide +kernel) ⟨rfl, rfl, rfl, rfl, rfl, by decide +kernel⟩ ?hw hc
  case hw => w_witness2
end Fm
set_option maxHeartbeats 2000000
/-! Fm1: data read off the heap, worlds, slots; what an expression is worth. -/
namespace Fm
open PySem PySem.Spec PyProof.Rows L2

/-! ### heaps -/
def Sub (S S' : Hp) : Prop := ∀ a o, S a = some o → S' a = some o
theorem Sub.refl (S : Hp) : Sub S S := fun _ _ h => h
theorem Sub.trans {S S1 S2 : Hp} (a : Sub S S1) (b : Sub S1 S2) : Sub S S2 := fun x o h => b x o (a x o h)
theorem Sub.rd {S S' : Hp} {a : Addr} {u : HO} (e : Sub S S') (h : Rd S a u) : Rd S' a u := by
  rcases h with h | ⟨o, h⟩
  · exact Or.inl (e a _ h)
  · exact Or.inr ⟨o, e a _ h⟩
theorem Sub.l {K : PySem.W.Frag} {S S' : Hp} {a : Addr} {xs : List V} (e : Sub S S') (h : SqL K S a xs) : SqL K S' a xs := by
  rcases h with h | h
  · exact Or.inl (e.rd h)
  · exact Or.inr h
theorem Sub.t {K : PySem.W.Frag} {S S' : Hp} {a : Addr} {xs : List V} (e : Sub S S') (h : SqT K S a xs) : SqT K S' a xs := by
  rcases h with h | h
  · exact Or.inl (e.rd h)
  · exact Or.inr h
theorem sub_new {S : Hp} {p : Addr} {o : HO} (h : S p = none) : Sub S (upd S p o) := fun a u e => by
  rw [upd_ne (ne_of_none e h)]
  exact e
theorem sub_mut {S H : Hp} {p : Addr} {o : HO} (e : Sub S H) (h : S p = none) : Sub S (upd H p o) := fun a u ha => by
  rw [upd_ne (ne_of_none ha h)]
  exact e a u ha
theorem sub_upd {S H : Hp} {p : Addr} {o : HO} (e : Sub S H) (h : H p = some o) : Sub (upd S p o) H := fun a u ha => by
  by_cases z : a = p
  · rw [z, upd_same] at ha
    rw [z, h, ← Option.some.inj ha]
  · rw [upd_ne z] at ha
    exact e a u ha

/-! ### data -/
/-- how a kind of data is read off the heap -/
structure RT (K : PySem.W.Frag) (α : Type) where
  r : Hp → V → α → Prop
  up : ∀ {S S' : Hp} {v : V} {x : α}, Sub S S' → r S v x → r S' v x
section
variable {K : PySem.W.Frag} {α β γ : Type}
/-- a row of data -/
def Rows (A : RT K α) (S : Hp) : List V → List α → Prop
  | [], [] => True
  | v :: vs, x :: xs => A.r S v x ∧ Rows A S vs xs
  | _, _ => False
theorem Rows.up {A : RT K α} {S S' : Hp} (e : Sub S S') : ∀ {vs : List V} {xs : List α}, Rows A S vs xs → Rows A S' vs xs
  | [], [], _ => trivial
  | _ :: _, _ :: _, h => ⟨A.up e h.1, Rows.up e h.2⟩
  | [], _ :: _, h => h.elim
  | _ :: _, [], h => h.elim
theorem Rows.len {A : RT K α} {S : Hp} : ∀ {vs : List V} {xs : List α}, Rows A S vs xs → vs.length = xs.length
  | [], [], _ => rfl
  | _ :: _, _ :: _, h => congrArg (· + 1) (Rows.len h.2)
  | [], _ :: _, h => h.elim
  | _ :: _, [], h => h.elim
theorem Rows.get {A : RT K α} {S : Hp} : ∀ {vs : List V} {xs : List α} {i : Nat} {x : α}, Rows A S vs xs → xs[i]? = some x → ∃ v, vs[i]? = some v ∧ A.r S v x
  | [], [], _, _, _, e => by simp at e
  | v :: _, _ :: _, 0, _, h, e => ⟨v, rfl, by
    have e2 : _ = _ := Option.some.inj e
    rw [← e2]
    exact h.1⟩
  | _ :: _, _ :: _, i + 1, _, h, e => by
    obtain ⟨v, h1, h2⟩ := Rows.get (i := i) h.2 (by simpa using e)
    exact ⟨v, by simpa using h1, h2⟩
  | [], _ :: _, _, _, h, _ => h.elim
  | _ :: _, [], _, _, h, _ => h.elim
theorem Rows.getV {A : RT K α} {S : Hp} : ∀ {vs : List V} {xs : List α} {i : Nat} {v : V}, Rows A S vs xs → vs[i]? = some v → ∃ x, xs[i]? = some x ∧ A.r S v x
  | [], [], _, _, _, e => by simp at e
  | _ :: _, x :: _, 0, _, h, e => ⟨x, rfl, by
    have e2 : _ = _ := Option.some.inj e
    rw [← e2]
    exact h.1⟩
  | _ :: _, _ :: _, i + 1, _, h, e => by
    obtain ⟨v, h1, h2⟩ := Rows.getV (i := i) h.2 (by simpa using e)
    exact ⟨v, by simpa using h1, h2⟩
  | [], _ :: _, _, _, h, _ => h.elim
  | _ :: _, [], _, _, h, _ => h.elim
theorem Rows.append {A : RT K α} {S : Hp} : ∀ {vs ws : List V} {xs ys : List α}, Rows A S vs xs → Rows A S ws ys → Rows A S (vs ++ ws) (xs ++ ys)
  | [], _, [], _, _, k => k
  | _ :: _, _, _ :: _, _, h, k => ⟨h.1, Rows.append h.2 k⟩
  | [], _, _ :: _, _, h, _ => h.elim
  | _ :: _, _, [], _, h, _ => h.elim
theorem Rows.one {A : RT K α} {S : Hp} {v : V} {x : α} (h : A.r S v x) : Rows A S [v] [x] := ⟨h, trivial⟩
theorem Rows.take {A : RT K α} {S : Hp} : ∀ {vs : List V} {xs : List α} (n : Nat), Rows A S vs xs → Rows A S (vs.take n) (xs.take n)
  | [], [], 0, _ => trivial
  | [], [], _ + 1, _ => trivial
  | _ :: _, _ :: _, 0, _ => trivial
  | _ :: _, _ :: _, n + 1, h => ⟨h.1, Rows.take n h.2⟩
  | [], _ :: _, _, h => h.elim
  | _ :: _, [], _, h => h.elim
theorem Rows.drop {A : RT K α} {S : Hp} : ∀ {vs : List V} {xs : List α} (n : Nat), Rows A S vs xs → Rows A S (vs.drop n) (xs.drop n)
  | [], [], 0, _ => trivial
  | [], [], _ + 1, _ => trivial
  | _ :: _, _ :: _, 0, h => h
  | _ :: _, _ :: _, n + 1, h => Rows.drop n h.2
  | [], _ :: _, _, h => h.elim
  | _ :: _, [], _, h => h.elim
theorem Rows.set {A : RT K α} {S : Hp} {v : V} {x : α} (k : A.r S v x) : ∀ {vs : List V} {xs : List α} (i : Nat), Rows A S vs xs → Rows A S (vs.set i v) (xs.set i x)
  | [], [], _, _ => trivial
  | _ :: _, _ :: _, 0, h => ⟨k, h.2⟩
  | _ :: _, _ :: _, i + 1, h => ⟨h.1, Rows.set k i h.2⟩
  | [], _ :: _, _, h => h.elim
  | _ :: _, [], _, h => h.elim
theorem Rows.erase {A : RT K α} {S : Hp} : ∀ {vs : List V} {xs : List α} (i : Nat), Rows A S vs xs → Rows A S (vs.eraseIdx i) (xs.eraseIdx i)
  | [], [], _, _ => trivial
  | _ :: _, _ :: _, 0, h => h.2
  | _ :: _, _ :: _, i + 1, h => ⟨h.1, Rows.erase i h.2⟩
  | [], _ :: _, _, h => h.elim
  | _ :: _, [], _, h => h.elim
theorem Rows.dropLast {A : RT K α} {S : Hp} {vs : List V} {xs : List α} (h : Rows A S vs xs) : Rows A S vs.dropLast xs.dropLast := by
  rw [List.dropLast_eq_take, List.dropLast_eq_take, ← h.len]
  exact h.take _
theorem Rows.reverse {A : RT K α} {S : Hp} : ∀ {vs : List V} {xs : List α}, Rows A S vs xs → Rows A S vs.reverse xs.reverse
  | [], [], _ => trivial
  | v :: vs, x :: xs, h => by
    rw [List.reverse_cons, List.reverse_cons]
    exact Rows.append (Rows.reverse h.2) (Rows.one h.1)
  | [], _ :: _, h => h.elim
  | _ :: _, [], h => h.elim
theorem Rows.nil_iff {A : RT K α} {S : Hp} {vs : List V} {xs : List α} (h : Rows A S vs xs) : vs = [] ↔ xs = [] := by
  cases vs <;> cases xs <;> simp_all [Rows]

/-! ### kinds of data -/
def rInt : RT K Int := ⟨fun _ v x => v = .int x, fun _ h => h⟩
def rBl : RT K Bool := ⟨fun _ v x => v = .bl x, fun _ h => h⟩
def rStr : RT K Str := ⟨fun _ v x => v = .str x, fun _ h => h⟩
def rNon : RT K Unit := ⟨fun _ v _ => v = .non, fun _ h => h⟩
def rPair (A : RT K α) (B : RT K β) : RT K (α × β) := ⟨fun S v x => ∃ p u w, v = .ref p ∧ SqT K S p [u, w] ∧ A.r S u x.1 ∧ B.r S w x.2,
  fun e ⟨p, u, w, h1, h2, h3, h4⟩ => ⟨p, u, w, h1, e.t h2, A.up e h3, B.up e h4⟩⟩
def rTri (A : RT K α) (B : RT K β) (C : RT K γ) : RT K (α × β × γ) := ⟨fun S v x => ∃ p u w z, v = .ref p ∧ SqT K S p [u, w, z] ∧ A.r S u x.1 ∧ B.r S w x.2.1 ∧ C.r S z x.2.2,
  fun e ⟨p, u, w, z, h1, h2, h3, h4, h5⟩ => ⟨p, u, w, z, h1, e.t h2, A.up e h3, B.up e h4, C.up e h5⟩⟩
def rTup (A : RT K α) : RT K (List α) := ⟨fun S v xs => ∃ p vs, v = .ref p ∧ SqT K S p vs ∧ Rows A S vs xs, fun e ⟨p, vs, h1, h2, h3⟩ => ⟨p, vs, h1, e.t h2, h3.up e⟩⟩
def rLst (A : RT K α) : RT K (List α) := ⟨fun S v xs => ∃ p vs, v = .ref p ∧ SqL K S p vs ∧ Rows A S vs xs, fun e ⟨p, vs, h1, h2, h3⟩ => ⟨p, vs, h1, e.l h2, h3.up e⟩⟩
def rOpt (A : RT K α) : RT K (Option α) := ⟨fun S v o => (o = none ∧ v = .non) ∨ ∃ x, o = some x ∧ v ≠ .non ∧ A.r S v x, fun e h => h.imp id fun ⟨x, h1, h2, h3⟩ => ⟨x, h1, h2, A.up e h3⟩⟩
/-- of the data, those with a property -/
def rSub (A : RT K α) (p : α → Prop) : RT K α := ⟨fun S v x => A.r S v x ∧ p x, fun e h => ⟨A.up e h.1, h.2⟩⟩
theorem Rows.mapI {S : Hp} : ∀ {vs : List V} {xs : List Int}, Rows (rInt (K := K)) S vs xs → vs = xs.map V.int
  | [], [], _ => rfl
  | v :: vs, x :: xs, h => by
    have e : v = .int x := h.1
    rw [e, Rows.mapI h.2] <;> rfl
  | [], _ :: _, h => h.elim
  | _ :: _, [], h => h.elim
theorem Rows.ofI {S : Hp} : ∀ (xs : List Int), Rows (rInt (K := K)) S (xs.map V.int) xs
  | [] => trivial
  | _ :: xs => ⟨rfl, Rows.ofI xs⟩
theorem Rows.mapB {S : Hp} : ∀ {vs : List V} {xs : List Bool}, Rows (rBl (K := K)) S vs xs → vs = xs.map V.bl
  | [], [], _ => rfl
  | v :: vs, x :: xs, h => by
    have e : v = .bl x := h.1
    rw [e, Rows.mapB h.2] <;> rfl
  | [], _ :: _, h => h.elim
  | _ :: _, [], h => h.elim
end

/-! ### worlds -/
/-- S: what stays (data alone), H: all that is tracked, j: the jar's two numbers -/
structure Wd where
  S : Hp
  H : Hp
  j : Int × Int
/-- the tables of code objects: of generator expressions, of lambdas (with the lambda's name) -/
structure Tbs where
  tb : List Addr
  tl : List (Addr × Str)
/-- the tables, the jar's address -/
structure Kx where
  T : Tbs
  jp : Option Addr
theorem tabS_but {H H' : Hp} {P : Addr} {q : Str} (t : LamX.TabS H P q) (e : ∀ b o, H b = some o → (∀ xs, o ≠ .lst xs) → H' b = some o) : LamX.TabS H' P q := by
  obtain ⟨ps, h1, h2, h3⟩ := t
  refine ⟨ps, e _ _ h1 (fun _ z => nomatch z), h2, fun pos cv hc => ?_⟩
  obtain ⟨c, e1, e2⟩ := h3 pos cv hc
  exact ⟨c, e1, e _ _ e2 (fun xs z => by unfold LamX.CodeO at z; cases z)⟩
structure Good (k : Kx) (w : Wd) : Prop where
  sub : Sub w.S w.H
  jar : ∀ p, k.jp = some p → w.H p = some (.lst [.int w.j.1, .int w.j.2]) ∧ w.S p = none
  tabs : ∀ P ∈ k.T.tb, GxR.TabG w.H P ∧ w.S P = none
  lams : ∀ p ∈ k.T.tl, LamX.TabS w.H p.1 p.2 ∧ w.S p.1 = none
structure Le (k : Kx) (w w' : Wd) : Prop where
  keep : ∀ a o, w.H a = some o → (∀ ps, o ≠ .tbl ps) → k.jp ≠ some a → w'.H a = some o
  sub : Sub w.S w'.S
  new : ∀ a, w.S a = none → w.H a ≠ none → w'.S a = none
  there : ∀ a, w.H a ≠ none → w'.H a ≠ none
  sh : Sub w'.S w'.H
theorem Le.refl {k : Kx} {w : Wd} (g : Good k w) : Le k w w := ⟨fun _ _ h _ _ => h, Sub.refl _, fun _ h _ => h, fun _ h => h, g.sub⟩
theorem Le.trans {k : Kx} {w w1 w2 : Wd} (a : Le k w w1) (b : Le k w1 w2) : Le k w w2 :=
  ⟨fun x o h n j => b.keep x o (a.keep x o h n j) n j, a.sub.trans b.sub, fun x h n => b.new x (a.new x h n) (a.there x n), fun x h => b.there x (a.there x h), b.sh⟩
theorem Le.fresh {k : Kx} {w w' : Wd} (a : Le k w w') {p : Addr} (h : w'.H p = none) : w.H p = none := by
  cases e : w.H p with
  | none => rfl
  | some o => exact absurd h (a.there p (by rw [e]; exact fun z => nomatch z))
/-- a list that is to be read from here on, whatever is laid -/
def SqB (K : PySem.W.Frag) (k : Kx) (w : Wd) (p : Addr) (vs : List V) : Prop := ∀ w', Le k w w' → SqL K w'.H p vs
theorem SqB.up {K : PySem.W.Frag} {k : Kx} {w w' : Wd} {p : Addr} {vs : List V} (h : SqB K k w p vs) (e : Le k w w') : SqB K k w' p vs := fun w2 e2 => h w2 (e.trans e2)
theorem SqB.ofS {K : PySem.W.Frag} {k : Kx} {w : Wd} {p : Addr} {vs : List V} (h : SqL K w.S p vs) : SqB K k w p vs := fun _ e => e.sh.l (e.sub.l h)
theorem SqB.ofH {K : PySem.W.Frag} {k : Kx} {w : Wd} {p : Addr} {vs : List V} (h : w.H p = some (.lst vs)) (n : k.jp ≠ some p) : SqB K k w p vs := fun _ e => Or.inl (Or.inl (e.keep p _ h (fun _ z => nomatch z) n))
/-- .. and whatever is done to lists of our own: read off what stays, or it stood at the entry -/
def SqS (K : PySem.W.Frag) (k : Kx) (w0 w : Wd) (p : Addr) (vs : List V) : Prop := SqL K w.S p vs ∨ SqB K k w0 p vs
theorem SqS.b {K : PySem.W.Frag} {k : Kx} {w0 w : Wd} {p : Addr} {vs : List V} (h : SqS K k w0 w p vs) (e : Le k w0 w) : SqB K k w p vs := by
  rcases h with h | h
  · exact .ofS h
  · exact h.up e

/-! ### slots -/
inductive Slot (K : PySem.W.Frag) : Type 1
  /-- nothing known -/
  | un
  /-- data that stay -/
  | im {α : Type} (A : RT K α) (x : α)
  /-- a list of our own -/
  | mu {α : Type} (A : RT K α) (xs : List α)
  /-- a list of the caller's, read alone -/
  | bo {α : Type} (A : RT K α) (xs : List α)
  /-- the jar -/
  | ja
def Slot.isMu {K : PySem.W.Frag} : Slot K → Bool
  | .mu _ _ => true
  | _ => false
def SlotOk (K : PySem.W.Frag) (k : Kx) (w0 w : Wd) : Slot K → Option V → Prop
  | .un, _ => True
  | .im A x, o => ∃ v, o = some v ∧ A.r w.S v x
  | .mu A xs, o => ∃ p vs, o = some (.ref p) ∧ w.H p = some (.lst vs) ∧ Rows A w.S vs xs ∧ w.S p = none ∧ k.jp ≠ some p ∧ w0.H p = none
  | .bo A xs, o => ∃ p vs, o = some (.ref p) ∧ SqB K k w0 p vs ∧ Rows A w.S vs xs
  | .ja, o => ∃ p, k.jp = some p ∧ o = some (.ref p)
structure EnvOk (K : PySem.W.Frag) (k : Kx) (w0 : Wd) (Γ : List (Slot K)) (σ : L2.St) (w : Wd) : Prop where
  len : σ.length = Γ.length
  at_ : ∀ (i : Nat) (s : Slot K), Γ[i]? = some s → ∃ o, σ[i]? = some o ∧ SlotOk K k w0 w s o
  apart : ∀ (i j : Nat) (p : Addr) (s t : Slot K), Γ[i]? = some s → Γ[j]? = some t → s.isMu = true → t.isMu = true → σ[i]? = some (some (.ref p)) → σ[j]? = some (some (.ref p)) → i = j
structure At (K : PySem.W.Frag) (k : Kx) (w0 : Wd) (Γ : List (Slot K)) (σ : L2.St) (w : Wd) (j : Int × Int) : Prop where
  good : Good k w
  jar : w.j = j
  le : Le k w0 w
  env : EnvOk K k w0 Γ σ w
section
variable {K : PySem.W.Frag} {k : Kx} {w0 w w' : Wd} {Γ : List (Slot K)} {σ : L2.St} {j j' : Int × Int} {α : Type}
theorem SlotOk.up {s : Slot K} {o : Option V} (h : SlotOk K k w0 w s o) (e : Le k w w') : SlotOk K k w0 w' s o := by
  cases s with
  | un => trivial
  | im A x =>
    obtain ⟨v, h1, h2⟩ := h
    exact ⟨v, h1, A.up e.sub h2⟩
  | mu A xs =>
    obtain ⟨p, vs, h1, h2, h3, h4, h5, h6⟩ := h
    exact ⟨p, vs, h1, e.keep p _ h2 (fun _ z => nomatch z) h5, h3.up e.sub, e.new p h4 (by rw [h2]; exact fun z => nomatch z), h5, h6⟩
  | bo A xs =>
    obtain ⟨p, vs, h1, h2, h3⟩ := h
    exact ⟨p, vs, h1, h2, h3.up e.sub⟩
  | ja => exact h
theorem At.up (h : At K k w0 Γ σ w j) (e : Le k w w') (g : Good k w') (hj : w'.j = j') : At K k w0 Γ σ w' j' :=
  ⟨g, hj, h.le.trans e, h.env.len, fun i s hs => let ⟨o, h1, h2⟩ := h.env.at_ i s hs; ⟨o, h1, h2.up e⟩, h.env.apart⟩
/-- a slot set to data that stay -/
theorem At.set (h : At K k w0 Γ σ w j) (i : Nat) {A : RT K α} {v : V} {x : α} (hv : A.r w.S v x) : At K k w0 (Γ.set i (.im A x)) (σ.set i (some v)) w j := by
  refine ⟨h.good, h.jar, h.le, ?_, fun m s hs => ?_, fun a b p s t ha hb sa sb pa pb => ?_⟩
  · rw [List.length_set, List.length_set, h.env.len]
  · by_cases e : i = m
    · subst e
      have hl : i < Γ.length := by
        have := (List.getElem?_eq_some_iff.mp hs).1
        rwa [List.length_set] at this
      rw [List.getElem?_set_self hl] at hs
      have es := Option.some.inj hs
      subst es
      exact ⟨some v, List.getElem?_set_self (by rw [h.env.len]; exact hl), v, rfl, hv⟩
    · rw [List.getElem?_set_ne e] at hs
      obtain ⟨o, h1, h2⟩ := h.env.at_ m s hs
      exact ⟨o, by rw [List.getElem?_set_ne e]; exact h1, h2⟩
  · have na : ∀ (m : Nat) (s : Slot K), (Γ.set i (.im A x))[m]? = some s → s.isMu = true → i ≠ m := fun m s hs hm z => by
      subst z
      have hl : i < Γ.length := by
        have := (List.getElem?_eq_some_iff.mp hs).1
        rwa [List.length_set] at this
      rw [List.getElem?_set_self hl] at hs
      rw [← Option.some.inj hs] at hm
      cases hm
    have ea := na a s ha sa
    have eb := na b t hb sb
    rw [List.getElem?_set_ne ea] at ha pa
    rw [List.getElem?_set_ne eb] at hb pb
    exact h.env.apart a b p s t ha hb sa sb pa pb
/-- a slot set to a new list of our own -/
theorem At.setM (h : At K k w0 Γ σ w j) (i : Nat) {A : RT K α} {p : Addr} {vs : List V} {xs : List α} (hp : w.H p = some (.lst vs)) (hr : Rows A w.S vs xs) (hs : w.S p = none) (hj : k.jp ≠ some p) (h0 : w0.H p = none)
    (hn : ∀ (m : Nat) (s : Slot K), Γ[m]? = some s → s.isMu = true → σ[m]? ≠ some (some (.ref p))) : At K k w0 (Γ.set i (.mu A xs)) (σ.set i (some (.ref p))) w j := by
  refine ⟨h.good, h.jar, h.le, ?_, fun m s hs' => ?_, fun a b q s t ha hb sa sb pa pb => ?_⟩
  · rw [List.length_set, List.length_set, h.env.len]
  · by_cases e : i = m
    · subst e
      have hl : i < Γ.length := by
        have := (List.getElem?_eq_some_iff.mp hs').1
        rwa [List.length_set] at this
      rw [List.getElem?_set_self hl] at hs'
      have es := Option.some.inj hs'
      subst es
      exact ⟨some (.ref p), List.getElem?_set_self (by rw [h.env.len]; exact hl), p, vs, rfl, hp, hr, hs, hj, h0⟩
    · rw [List.getElem?_set_ne e] at hs'
      obtain ⟨o, h1, h2⟩ := h.env.at_ m s hs'
      exact ⟨o, by rw [List.getElem?_set_ne e]; exact h1, h2⟩
  · have self : ∀ (m : Nat) (s : Slot K), (Γ.set i (.mu A xs))[m]? = some s → i = m → ∀ z, (σ.set i (some (.ref p)))[m]? = some (some (.ref z)) → z = p := fun m s hs' e z hz => by
      subst e
      have hl : i < Γ.length := by
        have := (List.getElem?_eq_some_iff.mp hs').1
        rwa [List.length_set] at this
      rw [List.getElem?_set_self (by rw [h.env.len]; exact hl)] at hz
      have e3 := Option.some.inj (Option.some.inj hz)
      injection e3 with e4
      exact e4.symm
    by_cases ea : i = a
    · by_cases eb : i = b
      · exact ea.symm.trans eb
      · have eq := self a s ha ea q pa
        rw [List.getElem?_set_ne eb] at hb pb
        rw [eq] at pb
        exact absurd pb (hn b t hb sb)
    · by_cases eb : i = b
      · have eq := self b t hb eb q pb
        rw [List.getElem?_set_ne ea] at ha pa
        rw [eq] at pa
        exact absurd pa (hn a s ha sa)
      · rw [List.getElem?_set_ne ea] at ha pa
        rw [List.getElem?_set_ne eb] at hb pb
        exact h.env.apart a b q s t ha hb sa sb pa pb
/-- a list of our own changed -/
theorem At.chg (h : At K k w0 Γ σ w j) {i : Nat} {A : RT K α} {xs : List α} (hi : Γ[i]? = some (.mu A xs)) {p : Addr} {vs vs' : List V} {xs' : List α} (hσ : σ[i]? = some (some (.ref p))) (hp : w.H p = some (.lst vs)) (hr : Rows A w.S vs' xs') :
    At K k w0 (Γ.set i (.mu A xs')) σ ⟨w.S, upd w.H p (.lst vs'), w.j⟩ j := by
  obtain ⟨o, ho, p', vs1, e1, h2, h3, h4, h5, h6⟩ := h.env.at_ i _ hi
  rw [hσ] at ho
  have eo := Option.some.inj ho
  rw [e1] at eo
  have ep : p = p' := by
    have := Option.some.inj eo
    injection this
  subst ep
  have il : i < Γ.length := (List.getElem?_eq_some_iff.mp hi).1
  refine ⟨⟨sub_mut h.good.sub h4, fun q hq => ⟨?_, (h.good.jar q hq).2⟩, fun P hP => ?_, fun q hq => ⟨tabS_but (h.good.lams q hq).1 fun b o hb hn => by
      show upd w.H p (.lst vs') b = _
      rw [upd_ne (fun z => hn vs (by rw [z, hp] at hb; exact (Option.some.inj hb).symm))]
      exact hb, (h.good.lams q hq).2⟩⟩, h.jar, ⟨fun a o ha hn hj => ?_, h.le.sub, fun a ha hn => h.le.new a ha hn, fun a ha z => ?_, sub_mut h.good.sub h4⟩, ?_, fun m s hs => ?_, fun a b q s t ha hb sa sb pa pb => ?_⟩
  · have nq : q ≠ p := fun z => h5 (by rw [← z]; exact hq)
    show upd w.H p (.lst vs') q = _
    rw [upd_ne nq]
    exact (h.good.jar q hq).1
  · obtain ⟨⟨ps, e, t⟩, hSP⟩ := h.good.tabs P hP
    refine ⟨⟨ps, ?_, t⟩, hSP⟩
    have nP : P ≠ p := fun z => by
      rw [z, hp] at e
      cases e
    show upd w.H p (.lst vs') P = _
    rw [upd_ne nP]
    exact e
  · show upd w.H p (.lst vs') a = _
    rw [upd_ne (ne_of_none ha h6)]
    exact h.le.keep a o ha hn hj
  · have z2 : upd w.H p (.lst vs') a = none := z
    by_cases e : a = p
    · rw [e, upd_same] at z2
      cases z2
    · rw [upd_ne e] at z2
      exact h.le.there a ha z2
  · rw [List.length_set, h.env.len]
  · by_cases e : i = m
    · subst e
      rw [List.getElem?_set_self il] at hs
      have es := Option.some.inj hs
      subst es
      exact ⟨_, hσ, p, vs', rfl, upd_same, hr, h4, h5, h6⟩
    · rw [List.getElem?_set_ne e] at hs
      obtain ⟨o, k1, k2⟩ := h.env.at_ m s hs
      refine ⟨o, k1, ?_⟩
      cases s with
      | un => trivial
      | im B x => exact k2
      | bo B ys => exact k2
      | ja => exact k2
      | mu B ys =>
        obtain ⟨q, us, f1, f2, f3, f4, f5, f6⟩ := k2
        have nq : q ≠ p := fun z => by
          rw [z] at f1
          rw [f1] at k1
          exact e (h.env.apart i m p _ _ hi hs rfl rfl hσ k1)
        exact ⟨q, us, f1, by show upd w.H p (.lst vs') q = _; rw [upd_ne nq]; exact f2, f3, f4, f5, f6⟩
  · have back : ∀ (m : Nat) (s : Slot K), (Γ.set i (.mu A xs'))[m]? = some s → s.isMu = true → ∃ s', Γ[m]? = some s' ∧ s'.isMu = true := fun m s hs hm => by
      by_cases e : i = m
      · subst e
        exact ⟨_, hi, rfl⟩
      · rw [List.getElem?_set_ne e] at hs
        exact ⟨s, hs, hm⟩
    obtain ⟨s1, a1, a2⟩ := back a s ha sa
    obtain ⟨s2, b1, b2⟩ := back b t hb sb
    exact h.env.apart a b q s1 s2 a1 b1 a2 b2 pa pb
/-- less is known -/
inductive Wk {K : PySem.W.Frag} : List (Slot K) → List (Slot K) → Prop
  | nil : Wk [] []
  | keep {s : Slot K} {Γ Γ' : List (Slot K)} : Wk Γ Γ' → Wk (s :: Γ) (s :: Γ')
  | drop {s : Slot K} {Γ Γ' : List (Slot K)} : Wk Γ Γ' → Wk (s :: Γ) (.un :: Γ')
theorem Wk.get {Γ Γ' : List (Slot K)} (h : Wk Γ Γ') : ∀ {i : Nat} {s : Slot K}, Γ'[i]? = some s → s = .un ∨ Γ[i]? = some s := by
  induction h with
  | nil => intro i s e; simp at e
  | keep _ ih =>
    intro i s e
    cases i with
    | zero => exact .inr e
    | succ i => exact ih (i := i) (by simpa using e)
  | drop _ ih =>
    intro i s e
    cases i with
    | zero => exact .inl (Option.some.inj e).symm
    | succ i => exact ih (i := i) (by simpa using e)
theorem Wk.len {Γ Γ' : List (Slot K)} (h : Wk Γ Γ') : Γ.length = Γ'.length := by
  induction h with
  | nil => rfl
  | keep _ ih => rw [List.length_cons, List.length_cons, ih]
  | drop _ ih => rw [List.length_cons, List.length_cons, ih]
theorem Wk.refl : ∀ Γ : List (Slot K), Wk Γ Γ
  | [] => .nil
  | _ :: Γ => .keep (Wk.refl Γ)
theorem At.weak {Γ' : List (Slot K)} (h : At K k w0 Γ σ w j) (k' : Wk Γ Γ') : At K k w0 Γ' σ w j := by
  refine ⟨h.good, h.jar, h.le, ?_, fun i s hs => ?_, fun a b p s t ha hb sa sb pa pb => ?_⟩
  · rw [h.env.len, k'.len]
  · rcases k'.get hs with e | e
    · have il : i < σ.length := by
        rw [h.env.len, k'.len]
        exact (List.getElem?_eq_some_iff.mp hs).1
      rw [e]
      exact ⟨_, List.getElem?_eq_getElem il, trivial⟩
    · exact h.env.at_ i s e
  · rcases k'.get ha with e | e
    · rw [e] at sa
      cases sa
    · rcases k'.get hb with e' | e'
      · rw [e'] at sb
        cases sb
      · exact h.env.apart a b p s t e e' sa sb pa pb
end
end Fm
set_option maxHeartbeats 2000000
/-! Fm2: what an expression is worth. -/
namespace Fm
open PySem PySem.Spec PyProof.Rows L2

/-! ### the weakest readings -/
def WE (X : Cx) (e : Expr) : TE := fun σ H Q => ∀ (pins : List (Addr × Obj)) (s : Shared), Inv X pins σ H s → wpAny (model X.prog X.w) X.A (eval e X.env) (EP X pins σ Q) X.xe s
def WT (X : Cx) (e : Expr) : TT := fun σ H Q => ∀ (pins : List (Addr × Obj)) (s : Shared), Inv X pins σ H s → wpAny (model X.prog X.w) X.A (isTrue e X.env (eval e X.env)) (TP X pins σ Q) X.xe s
def WW (X : Cx) (e : Expr) : TT := fun σ H Q => ∀ (whole : Sem Value) (pins : List (Addr × Obj)) (s : Shared), Inv X pins σ H s → wpAny (model X.prog X.w) X.A (isTrue e X.env whole) (TP X pins σ Q) X.xe s
def WA (X : Cx) (es : List Expr) : TA := fun σ H Q => ∀ (pos : Pos) (pins : List (Addr × Obj)) (s : Shared), Inv X pins σ H s → wpAny (model X.prog X.w) X.A (spliced (backTo pos (starEach es X.env))) (AP X pins σ Q) X.xe s
def WB (X : Cx) (ss : List Stmt) : TS := fun D σ H => ∀ (pins : List (Addr × Obj)) (s : Shared), Inv X pins σ H s → wpAny (model X.prog X.w) X.A (execs ss X.env) (SP X pins D) X.xe s
section
variable {X : Cx} {e : Expr} {es : List Expr} {ss : List Stmt} {σ : L2.St} {H : Hp}
theorem pe_self : PE X e (WE X e) := ⟨fun pins s _ _ _ I h => h pins s I⟩
theorem pt_self : PT X e (WT X e) := ⟨fun pins s _ _ _ I h => h pins s I⟩
theorem pw_self : PW X e (WW X e) := ⟨fun wh pins s _ _ _ I h => h wh pins s I⟩
theorem pa_self : PA X es (WA X es) := ⟨fun pos pins s _ _ _ I h => h pos pins s I⟩
theorem pss_self : PSs X ss (WB X ss) := ⟨fun pins s _ _ _ I h => h pins s I⟩
theorem WE.of {t : TE} {Q : VK} (h : PE X e t) (q : t σ H Q) : WE X e σ H Q := fun pins s I => h.run pins s σ H Q I q
theorem WT.of {t : TT} {Q : Bool → Hp → Prop} (h : PT X e t) (q : t σ H Q) : WT X e σ H Q := fun pins s I => h.run pins s σ H Q I q
theorem WW.of {t : TT} {Q : Bool → Hp → Prop} (h : PW X e t) (q : t σ H Q) : WW X e σ H Q := fun wh pins s I => h.run wh pins s σ H Q I q
theorem WA.of {t : TA} {Q : List V → Hp → Prop} (h : PA X es t) (q : t σ H Q) : WA X es σ H Q := fun pos pins s I => h.run pos pins s σ H Q I q
theorem WB.of {t : TS} {D : Ends} (h : PSs X ss t) (q : t D σ H) : WB X ss D σ H := fun pins s I => h.run pins s σ H D I q
/-- lists and tuples are within the line -/
theorem WE.len {Q : VK} (h : (∀ p vs, SqL X.K H p vs → vs.length ≤ sizeLine) → (∀ p vs, SqT X.K H p vs → vs.length ≤ sizeLine) → WE X e σ H Q) : WE X e σ H Q := fun pins s I =>
  h (fun _ _ hs => (I.list hs).choose_spec.2.2) (fun _ _ hs => (I.tuple hs).choose_spec.2.2) pins s I
theorem WB.len {D : Ends} (h : (∀ p vs, SqL X.K H p vs → vs.length ≤ sizeLine) → (∀ p vs, SqT X.K H p vs → vs.length ≤ sizeLine) → WB X ss D σ H) : WB X ss D σ H := fun pins s I =>
  h (fun _ _ hs => (I.list hs).choose_spec.2.2) (fun _ _ hs => (I.tuple hs).choose_spec.2.2) pins s I
end

/-! ### new objects -/
section
variable {k : Kx} {w w' : Wd} {p : Addr} {o : HO}
theorem Good.non (g : Good k w) (h : w.H p = none) : w.S p = none := by
  cases e : w.S p with
  | none => rfl
  | some u =>
    rw [g.sub p u e] at h
    cases h
theorem Good.newS (g : Good k w) (h : w.H p = none) : Good k ⟨upd w.S p o, upd w.H p o, w.j⟩ ∧ Le k w ⟨upd w.S p o, upd w.H p o, w.j⟩ := by
  have hs := g.non h
  have sb : Sub (upd w.S p o) (upd w.H p o) := fun a u e => by
    by_cases z : a = p
    · rw [z, upd_same] at e
      rw [z, upd_same, ← e]
    · rw [upd_ne z] at e
      rw [upd_ne z]
      exact g.sub a u e
  refine ⟨⟨sb, fun q hq => ?_, fun P hP => ?_, fun q hq => ⟨(g.lams q hq).1.ext fun b u e => by
      show upd w.H p o b = _
      rw [upd_ne (ne_of_none e h)]
      exact e, by
      obtain ⟨⟨ps, e, _⟩, hSP⟩ := g.lams q hq
      show upd w.S p o q.1 = _
      rw [upd_ne (ne_of_none e h)]
      exact hSP⟩⟩, fun a u ha _ _ => ?_, sub_new hs, fun a ha hn => ?_, fun a ha z => ?_, sb⟩
  · obtain ⟨h1, h2⟩ := g.jar q hq
    have nq : q ≠ p := ne_of_none h1 h
    exact ⟨by show upd w.H p o q = _; rw [upd_ne nq]; exact h1, by show upd w.S p o q = _; rw [upd_ne nq]; exact h2⟩
  · obtain ⟨⟨ps, e, t⟩, hSP⟩ := g.tabs P hP
    exact ⟨⟨ps, by show upd w.H p o P = _; rw [upd_ne (ne_of_none e h)]; exact e, t⟩, by show upd w.S p o P = _; rw [upd_ne (ne_of_none e h)]; exact hSP⟩
  · show upd w.H p o a = _
    rw [upd_ne (ne_of_none ha h)]
    exact ha
  · show upd w.S p o a = _
    rw [upd_ne (fun z => hn (by rw [z]; exact h))]
    exact ha
  · have z2 : upd w.H p o a = .none := z
    rw [upd_ne (fun y => ha (by rw [y]; exact h))] at z2
    exact ha z2
theorem Good.newH (g : Good k w) (h : w.H p = none) : Good k ⟨w.S, upd w.H p o, w.j⟩ ∧ Le k w ⟨w.S, upd w.H p o, w.j⟩ := by
  have hs := g.non h
  have sb : Sub w.S (upd w.H p o) := sub_mut g.sub hs
  refine ⟨⟨sb, fun q hq => ?_, fun P hP => ?_, fun q hq => ⟨(g.lams q hq).1.ext fun b u e => by
      show upd w.H p o b = _
      rw [upd_ne (ne_of_none e h)]
      exact e, (g.lams q hq).2⟩⟩, fun a u ha _ _ => ?_, Sub.refl _, fun a ha hn => ha, fun a ha z => ?_, sb⟩
  · obtain ⟨h1, h2⟩ := g.jar q hq
    have nq : q ≠ p := ne_of_none h1 h
    exact ⟨by show upd w.H p o q = _; rw [upd_ne nq]; exact h1, h2⟩
  · obtain ⟨⟨ps, e, t⟩, hSP⟩ := g.tabs P hP
    exact ⟨⟨ps, by show upd w.H p o P = _; rw [upd_ne (ne_of_none e h)]; exact e, t⟩, hSP⟩
  · show upd w.H p o a = _
    rw [upd_ne (ne_of_none ha h)]
    exact ha
  · have z2 : upd w.H p o a = .none := z
    rw [upd_ne (fun y => ha (by rw [y]; exact h))] at z2
    exact ha z2
/-- a list of our own, laid since w, stays from here on -/
theorem Good.frz (g : Good k w') (e : Le k w w') (h : w.H p = none) (hp : w'.H p = some o) (hs : w'.S p = none) (hj : k.jp ≠ some p) (hno : ∀ ps, o ≠ .tbl ps) : Good k ⟨upd w'.S p o, w'.H, w'.j⟩ ∧ Le k w ⟨upd w'.S p o, w'.H, w'.j⟩ := by
  have sb : Sub (upd w'.S p o) w'.H := sub_upd g.sub hp
  refine ⟨⟨sb, fun q hq => ?_, fun P hP => ?_, fun q hq => ⟨(g.lams q hq).1, by
      obtain ⟨⟨ps, e2, _⟩, hSP⟩ := g.lams q hq
      show upd w'.S p o q.1 = _
      rw [upd_ne (fun z => hno ps (by rw [z, hp] at e2; exact Option.some.inj e2))]
      exact hSP⟩⟩, e.keep, e.sub.trans (sub_new hs), fun a ha hn => ?_, e.there, sb⟩
  · obtain ⟨h1, h2⟩ := g.jar q hq
    exact ⟨h1, by show upd w'.S p o q = _; rw [upd_ne (fun z => hj (by rw [← z]; exact hq))]; exact h2⟩
  · obtain ⟨⟨ps, e2, t⟩, hSP⟩ := g.tabs P hP
    refine ⟨⟨ps, e2, t⟩, ?_⟩
    show upd w'.S p o P = _
    rw [upd_ne (fun z => hno ps (by rw [z, hp] at e2; exact Option.some.inj e2))]
    exact hSP
  · show upd w'.S p o a = _
    rw [upd_ne (fun z => hn (by rw [z]; exact h))]
    exact e.new a ha hn
theorem Good.njp (g : Good k w) (h : w.H p = none) : k.jp ≠ some p := fun z => by
  rw [(g.jar p z).1] at h
  cases h
end

/-! ### defs, called where no repr is under way -/
structure FnG (P : Program) (w : World) (K : PySem.W.Frag) (mg : Str → Option Value) (base : Heap) (k : Nat) (f : Addr) (fd : FuncData) (ps : List Str) (sp : Sp) : Prop where
  len : ∀ vs H Q E, sp vs H Q E → vs.length = ps.length
  run : ∀ (A : Around) (outer : List Env) (s : Shared) (H : Hp) (args : Args) (us : List Value) (vs : List V) (Q : VK) (E : XK), Room k A → A.guards = some [] → Env0 P w K mg base A outer s H → BindsTo s fd args (ps.zip us) → Vals vs us → sp vs H Q E →
    codeAny (model P w) A (.call (.ref f) args) (CR CX0 outer P w H s Q E) s
theorem FnG.mono {P : Program} {w : World} {K : PySem.W.Frag} {mg : Str → Option Value} {base : Heap} {j k : Nat} {f : Addr} {fd : FuncData} {ps : List Str} {sp : Sp} (F : FnG P w K mg base j f fd ps sp) (h : j ≤ k) : FnG P w K mg base k f fd ps sp :=
  ⟨F.len, fun A outer s H args us vs Q E hr => F.run A outer s H args us vs Q E (hr.mono h)⟩
theorem pe_callG {X : Cx} {k : Nat} {f : Addr} {fd : FuncData} {ps : List Str} {sp : Sp} {x : Str} {p pos : Pos} {e : Expr} {es : List Expr} {t : TA} (F : FnG X.prog X.w X.K X.mg X.base k f fd ps sp) (hr : Room k X.A) (hgd : X.A.guards = some []) (hg : Gl X x) (hm : X.mg x = some (.ref f)) (hk : PySem.W.keepIn X.K (.ref f) = true) (hb : Binds X.K fd ps [])
    (ha : PA X (e :: es) t) (hdb : (x == ("__debug__" : Str)) = false := by decide) (he : starEach (e :: es) X.env = (false, eval e X.env) :: starEach es X.env := by rfl) (hpl : (backTo pos (starEach es X.env)).any (·.1) = false := by rfl) :
    PE X (.Call (.Name x p) (e :: es) [] pos) (fun σ H Q => t σ H fun vs H1 => sp vs H1 Q E0) := by
  refine ⟨fun pins s σ H Q I h => ?_⟩
  refine wpAny_Call_Name_kw (ld_glob I hg hm ?_ hdb)
  refine PySem.W.callWith_K (h₀ := X.base) I.ok.mod.kin hk (thn (ha.run pos pins s σ H _ I h) fun us s1 ⟨vs, H1, I1, r, q⟩ => ⟨I1.kIn, ?_⟩) he hpl
  have hl : (us ++ ([] : List Value)).length = ps.length := by
    rw [List.append_nil, ← r.length]
    exact F.len _ _ _ _ q
  have hbb := hb s1 us I1.kIn hl
  rw [List.append_nil] at hbb
  refine wpAny_call (codeAny_mono (F.run X.A X.stack s1 H1 ⟨us, []⟩ us vs Q E0 hr hgd I1.env0 hbb r q) fun r s' hq => ?_)
  cases r with
  | error e => exact False.elim hq
  | ok fl =>
    cases fl with
    | ret u => exact I1.after hq
    | next => exact False.elim hq
    | brk => exact False.elim hq
    | cont => exact False.elim hq

/-! ### judgements -/
section
variable (X : Cx) (k : Kx) (w0 : Wd) (Γ : List (Slot X.K)) (j : Int × Int) (e : Expr) {α : Type} (A : RT X.K α) (x : α) (xs : List α) (j' : Int × Int)
/-- e is worth x -/
def EvD : Prop := ∀ σ w, At X.K k w0 Γ σ w j → ∀ Q : VK, (∀ v w', At X.K k w0 Γ σ w' j' → Le k w w' → A.r w'.S v x → Q v w'.H) → WE X e σ w.H Q
/-- e is a list of xs, to be read at once -/
def EvB : Prop := ∀ σ w, At X.K k w0 Γ σ w j → ∀ Q : VK, (∀ p vs w', At X.K k w0 Γ σ w' j' → Le k w w' → SqB X.K k w' p vs → Rows A w'.S vs xs → Q (.ref p) w'.H) → WE X e σ w.H Q
/-- .. to be read while lists of our own change -/
def EvS : Prop := ∀ σ w, At X.K k w0 Γ σ w j → ∀ Q : VK, (∀ p vs w', At X.K k w0 Γ σ w' j' → Le k w w' → SqS X.K k w0 w' p vs → Rows A w'.S vs xs → Q (.ref p) w'.H) → WE X e σ w.H Q
/-- e is a new list of our own -/
def EvM : Prop := ∀ σ w, At X.K k w0 Γ σ w j → ∀ Q : VK, (∀ p vs w', At X.K k w0 Γ σ w' j' → Le k w w' → w'.H p = some (.lst vs) → Rows A w'.S vs xs → w'.S p = none → w.H p = none → Q (.ref p) w'.H) → WE X e σ w.H Q
end
def EvT (X : Cx) (k : Kx) (w0 : Wd) (Γ : List (Slot X.K)) (j : Int × Int) (e : Expr) (b : Bool) (j' : Int × Int) : Prop := ∀ σ w, At X.K k w0 Γ σ w j → ∀ Q : Bool → Hp → Prop, (∀ w', At X.K k w0 Γ σ w' j' → Le k w w' → Q b w'.H) → WT X e σ w.H Q
def EvW (X : Cx) (k : Kx) (w0 : Wd) (Γ : List (Slot X.K)) (j : Int × Int) (e : Expr) (b : Bool) (j' : Int × Int) : Prop := ∀ σ w, At X.K k w0 Γ σ w j → ∀ Q : Bool → Hp → Prop, (∀ w', At X.K k w0 Γ σ w' j' → Le k w w' → Q b w'.H) → WW X e σ w.H Q
/-- arguments -/
def SlotA (K : PySem.W.Frag) (k : Kx) (w : Wd) (s : Slot K) (v : V) : Prop := SlotOk K k w w s (some v)
def ArgsOk (K : PySem.W.Frag) (k : Kx) (w : Wd) : List (Slot K) → List V → Prop
  | [], [] => True
  | s :: ss, v :: vs => SlotA K k w s v ∧ s.isMu = false ∧ ArgsOk K k w ss vs
  | _, _ => False
def EvA (X : Cx) (k : Kx) (w0 : Wd) (Γ : List (Slot X.K)) (j : Int × Int) (es : List Expr) (ss : List (Slot X.K)) (j' : Int × Int) : Prop :=
  ∀ σ w, At X.K k w0 Γ σ w j → ∀ Q : List V → Hp → Prop, (∀ vs w', At X.K k w0 Γ σ w' j' → Le k w w' → ArgsOk X.K k w' ss vs → Q vs w'.H) → WA X es σ w.H Q

section
variable {X : Cx} {k : Kx} {w0 : Wd} {Γ : List (Slot X.K)} {j j1 j2 j3 : Int × Int} {e a b c : Expr} {es : List Expr} {α β γ : Type} {A : RT X.K α} {B : RT X.K β} {C : RT X.K γ} {x : α} {y : β} {z : γ} {xs ys : List α}

theorem SlotA.up {K : PySem.W.Frag} {k : Kx} {w w' : Wd} {s : Slot K} {v : V} (h : SlotA K k w s v) (n : s.isMu = false) (e : Le k w w') : SlotA K k w' s v := by
  cases s with
  | un => trivial
  | im A x =>
    obtain ⟨v, h1, h2⟩ := h
    exact ⟨v, h1, A.up e.sub h2⟩
  | mu A xs => cases n
  | bo A xs =>
    obtain ⟨p, vs, h1, h2, h3⟩ := h
    exact ⟨p, vs, h1, h2.up e, h3.up e.sub⟩
  | ja => exact h
theorem ArgsOk.up {K : PySem.W.Frag} {k : Kx} {w w' : Wd} (e : Le k w w') : ∀ {ss : List (Slot K)} {vs : List V}, ArgsOk K k w ss vs → ArgsOk K k w' ss vs
  | [], [], _ => trivial
  | _ :: _, _ :: _, h => ⟨h.1.up h.2.1 e, h.2.1, ArgsOk.up e h.2.2⟩
  | [], _ :: _, h => h.elim
  | _ :: _, [], h => h.elim

/-! ### from one to another -/
theorem EvM.toD (h : EvM X k w0 Γ j e A xs j1) : EvD X k w0 Γ j e (rLst A) xs j1 := fun σ w a Q q => h σ w a Q fun p vs w' a' le hp hr hs hn => by
  have nj : k.jp ≠ some p := a.good.njp hn
  obtain ⟨g2, le2⟩ := a'.good.frz le hn hp hs nj (fun _ z => nomatch z)
  exact q (.ref p) ⟨upd w'.S p (.lst vs), w'.H, w'.j⟩ (a.up le2 g2 a'.jar) le2 ⟨p, vs, rfl, .inl (.inl upd_same), hr.up (sub_new hs)⟩
theorem EvM.toB (h : EvM X k w0 Γ j e A xs j1) : EvB X k w0 Γ j e A xs j1 := fun σ w a Q q => h σ w a Q fun p vs w' a' le hp hr hs hn =>
  q p vs w' a' le (.ofH hp (a.good.njp hn)) hr
theorem EvD.toS (h : EvD X k w0 Γ j e (rLst A) xs j1) : EvS X k w0 Γ j e A xs j1 := fun σ w a Q q => h σ w a Q fun v w' a' le ⟨p, vs, hv, hs, hr⟩ => by
  rw [hv]
  exact q p vs w' a' le (.inl hs) hr
theorem EvS.toB (h : EvS X k w0 Γ j e A xs j1) : EvB X k w0 Γ j e A xs j1 := fun σ w a Q q => h σ w a Q fun p vs w' a' le hs hr => q p vs w' a' le (hs.b a'.le) hr
theorem EvD.toB (h : EvD X k w0 Γ j e (rLst A) xs j1) : EvB X k w0 Γ j e A xs j1 := h.toS.toB
theorem EvD.is (h : EvD X k w0 Γ j e A x j1) {x' : α} (e1 : x = x') : EvD X k w0 Γ j e A x' j1 := by
  rw [← e1]
  exact h
theorem EvM.is (h : EvM X k w0 Γ j e A xs j1) {xs' : List α} (e1 : xs = xs') : EvM X k w0 Γ j e A xs' j1 := by
  rw [← e1]
  exact h
theorem EvD.sub {p : α → Prop} (h : EvD X k w0 Γ j e A x j1) (hx : p x) : EvD X k w0 Γ j e (rSub A p) x j1 := fun σ w a Q q => h σ w a Q fun v w' a' le hr => q v w' a' le ⟨hr, hx⟩

/-! ### names and constants -/
variable {pos p2 p3 p4 : Pos}
theorem d_var (i : Nat) {n : Str} (hΓ : Γ[i]? = some (.im A x)) (hN : X.N[i]? = some n) (hv : Vis X.env.scope n) (hd : (n == ("__debug__" : Str)) = false := by decide) (hcd : (n == ("__classdict__" : Str)) = false := by decide) :
    EvD X k w0 Γ j (.Name n pos) A x j := fun σ w a Q q => by
  refine WE.of (pe_var hN hv hd hcd) ?_
  obtain ⟨o, h1, v, h2, h3⟩ := a.env.at_ i _ hΓ
  rw [h2] at h1
  exact ⟨v, h1, q v w a (Le.refl a.good) h3⟩
theorem b_mu (i : Nat) {n : Str} (hΓ : Γ[i]? = some (.mu A xs)) (hN : X.N[i]? = some n) (hv : Vis X.env.scope n) (hd : (n == ("__debug__" : Str)) = false := by decide) (hcd : (n == ("__classdict__" : Str)) = false := by decide) :
    EvB X k w0 Γ j (.Name n pos) A xs j := fun σ w a Q q => by
  refine WE.of (pe_var hN hv hd hcd) ?_
  obtain ⟨o, h1, p, vs, h2, h3, h4, h5, h6, h7⟩ := a.env.at_ i _ hΓ
  rw [h2] at h1
  exact ⟨_, h1, q p vs w a (Le.refl a.good) (.ofH h3 h6) h4⟩
theorem s_bo (i : Nat) {n : Str} (hΓ : Γ[i]? = some (.bo A xs)) (hN : X.N[i]? = some n) (hv : Vis X.env.scope n) (hd : (n == ("__debug__" : Str)) = false := by decide) (hcd : (n == ("__classdict__" : Str)) = false := by decide) :
    EvS X k w0 Γ j (.Name n pos) A xs j := fun σ w a Q q => by
  refine WE.of (pe_var hN hv hd hcd) ?_
  obtain ⟨o, h1, p, vs, h2, h3, h4⟩ := a.env.at_ i _ hΓ
  rw [h2] at h1
  exact ⟨_, h1, q p vs w a (Le.refl a.good) (.inr h3) h4⟩
theorem d_int {n : Int} {m : Nat} : EvD X k w0 Γ j (.Constant (.int n) m pos) rInt n j := fun _ w a _ q => WE.of pe_int (q _ w a (Le.refl a.good) rfl)
theorem d_bl {n : Bool} {m : Nat} : EvD X k w0 Γ j (.Constant (.bool n) m pos) rBl n j := fun _ w a _ q => WE.of pe_bl (q _ w a (Le.refl a.good) rfl)
theorem d_non {m : Nat} : EvD X k w0 Γ j (.Constant .none m pos) rNon () j := fun _ w a _ q => WE.of pe_non (q _ w a (Le.refl a.good) rfl)
theorem d_str {n : Str} {m : Nat} : EvD X k w0 Γ j (.Constant (.str n) m pos) rStr n j := fun _ w a _ q => WE.of pe_str (q _ w a (Le.refl a.good) rfl)
theorem d_nonO {m : Nat} : EvD X k w0 Γ j (.Constant .none m pos) (rOpt A) none j := fun _ w a _ q => WE.of pe_non (q _ w a (Le.refl a.good) (.inl ⟨rfl, rfl⟩))
theorem d_some (h : EvD X k w0 Γ j e A x j1) (hn : ∀ S v, A.r S v x → v ≠ .non) : EvD X k w0 Γ j e (rOpt A) (some x) j1 := fun σ w a Q q => h σ w a Q fun v w' a' le hr => q v w' a' le (.inr ⟨x, rfl, hn _ _ hr, hr⟩)
/-- a module's constant -/
theorem d_glob {n : Str} {v : V} {u : Value} (hg : Gl X n) (hm : X.mg n = some u) (hr : RelV v u) (hx : ∀ S, A.r S v x) (hd : (n == ("__debug__" : Str)) = false := by decide) : EvD X k w0 Γ j (.Name n pos) A x j :=
  fun _ w a _ q => WE.of (pe_glob hg hm hr hd) (q _ w a (Le.refl a.good) (hx _))

/-! ### operators by values -/
/-- what a two-place operation makes -/
def RD2 (k : Kx) (r : R2) (A : RT X.K α) (x : α) (B : RT X.K β) (y : β) (C : RT X.K γ) (z : γ) : Prop :=
  ∀ u v w, Good k w → A.r w.S u x → B.r w.S v y → ∀ Q : VK, (∀ c w', Le k w w' → Good k w' → w'.j = w.j → C.r w'.S c z → Q c w'.H) → r u v w.H Q
theorem d_op {op : Operator} {r : R2} (ho : OpR X (binaryOp op) r) (hr : RD2 k r A x B y C z) (ha : EvD X k w0 Γ j a A x j1) (hb : EvD X k w0 Γ j1 b B y j2) : EvD X k w0 Γ j (.BinOp a op b pos) C z j2 := fun σ w at0 Q q =>
  WE.of (pe_op ho pe_self pe_self) (ha σ w at0 _ fun u w1 a1 e1 r1 => hb σ w1 a1 _ fun v w2 a2 e2 r2 => hr u v w2 a2.good (A.up e2.sub r1) r2 Q fun c w3 e3 g3 j3 r3 => q c w3 (a2.up e3 g3 (j3.trans a2.jar)) ((e1.trans e2).trans e3) r3)
theorem d_cmp {op : CmpOp} {r : R2} (ho : OpR X (compareOp op) r) (hr : RD2 k r A x B y C z) (ha : EvD X k w0 Γ j a A x j1) (hb : EvD X k w0 Γ j1 b B y j2) (hm : behindInMarks op b = false) : EvD X k w0 Γ j (.Compare a [op] [b] pos) C z j2 := fun σ w at0 Q q =>
  WE.of (pe_cmpR ho pe_self pe_self hm) (ha σ w at0 _ fun u w1 a1 e1 r1 => hb σ w1 a1 _ fun v w2 a2 e2 r2 => hr u v w2 a2.good (A.up e2.sub r1) r2 Q fun c w3 e3 g3 j3 r3 => q c w3 (a2.up e3 g3 (j3.trans a2.jar)) ((e1.trans e2).trans e3) r3)
theorem rd_I0 {g : Int → Int → V} {i m : Int} (hz : ∀ S, C.r S (g i m) z) : RD2 (X := X) k (rI0 g) rInt i rInt m C z := fun _ _ w gd h1 h2 _ q => ⟨i, m, h1, h2, q _ w (Le.refl gd) gd rfl (hz _)⟩
theorem rd_I {D : Int → Int → Prop} {g : Int → Int → V} {i m : Int} (hc : D i m) (hz : ∀ S, C.r S (g i m) z) : RD2 (X := X) k (rI D g) rInt i rInt m C z := fun _ _ w gd h1 h2 _ q => ⟨i, m, h1, h2, hc, q _ w (Le.refl gd) gd rfl (hz _)⟩
theorem d_add {m n : Int} (ha : EvD X k w0 Γ j a rInt m j1) (hb : EvD X k w0 Γ j1 b rInt n j2) : EvD X k w0 Γ j (.BinOp a .Add b pos) rInt (m + n) j2 := d_op op_add (rd_I0 fun _ => rfl) ha hb
theorem d_sub {m n : Int} (ha : EvD X k w0 Γ j a rInt m j1) (hb : EvD X k w0 Γ j1 b rInt n j2) : EvD X k w0 Γ j (.BinOp a .Sub b pos) rInt (m - n) j2 := d_op op_sub (rd_I0 fun _ => rfl) ha hb
theorem d_mul {m n : Int} (hc : CMulW m n) (ha : EvD X k w0 Γ j a rInt m j1) (hb : EvD X k w0 Γ j1 b rInt n j2) : EvD X k w0 Γ j (.BinOp a .Mult b pos) rInt (m * n) j2 := d_op op_mulW (rd_I hc fun _ => rfl) ha hb
theorem d_fdiv {m n : Int} (hc : CDivW m n) (ha : EvD X k w0 Γ j a rInt m j1) (hb : EvD X k w0 Γ j1 b rInt n j2) : EvD X k w0 Γ j (.BinOp a .FloorDiv b pos) rInt (m / n) j2 := d_op op_fdivW (rd_I hc fun _ => rfl) ha hb
theorem d_mod {m n : Int} (hc : 0 < n) (ha : EvD X k w0 Γ j a rInt m j1) (hb : EvD X k w0 Γ j1 b rInt n j2) : EvD X k w0 Γ j (.BinOp a .Mod b pos) rInt (m % n) j2 := d_op op_mod (rd_I hc fun _ => rfl) ha hb
theorem d_pow {m n : Int} (hc : CPow m n) (ha : EvD X k w0 Γ j a rInt m j1) (hb : EvD X k w0 Γ j1 b rInt n j2) : EvD X k w0 Γ j (.BinOp a .Pow b pos) rInt (m ^ n.toNat) j2 := d_op op_pow (rd_I hc fun _ => rfl) ha hb
theorem d_neg {m : Int} (ha : EvD X k w0 Γ j a rInt m j1) : EvD X k w0 Γ j (.UnaryOp .USub a pos) rInt (-m) j1 := fun σ w at0 Q q =>
  WE.of (pe_un un_neg pe_self) (ha σ w at0 _ fun u w1 a1 e1 r1 => ⟨m, r1, q _ w1 a1 e1 rfl⟩)
theorem d_lt {m n : Int} (ha : EvD X k w0 Γ j a rInt m j1) (hb : EvD X k w0 Γ j1 b rInt n j2) : EvD X k w0 Γ j (.Compare a [.Lt] [b] pos) rBl (decide (m < n)) j2 := d_cmp op_lt (rd_I0 fun _ => rfl) ha hb (nomark _)
theorem d_le {m n : Int} (ha : EvD X k w0 Γ j a rInt m j1) (hb : EvD X k w0 Γ j1 b rInt n j2) : EvD X k w0 Γ j (.Compare a [.LtE] [b] pos) rBl (decide (m ≤ n)) j2 := d_cmp op_le (rd_I0 fun _ => rfl) ha hb (nomark _)
theorem d_gt {m n : Int} (ha : EvD X k w0 Γ j a rInt m j1) (hb : EvD X k w0 Γ j1 b rInt n j2) : EvD X k w0 Γ j (.Compare a [.Gt] [b] pos) rBl (decide (n < m)) j2 := d_cmp op_gt (rd_I0 fun _ => rfl) ha hb (nomark _)
theorem d_ge {m n : Int} (ha : EvD X k w0 Γ j a rInt m j1) (hb : EvD X k w0 Γ j1 b rInt n j2) : EvD X k w0 Γ j (.Compare a [.GtE] [b] pos) rBl (decide (n ≤ m)) j2 := d_cmp op_ge (rd_I0 fun _ => rfl) ha hb (nomark _)
theorem decV {m n : Int} : decide (V.int m = V.int n) = decide (m = n) := by
  by_cases h : m = n
  · rw [h]
    simp
  · rw [decide_eq_false h, decide_eq_false fun z => h (by injection z)]
theorem d_eqI {m n : Int} (ha : EvD X k w0 Γ j a rInt m j1) (hb : EvD X k w0 Γ j1 b rInt n j2) : EvD X k w0 Γ j (.Compare a [.Eq] [b] pos) rBl (decide (m = n)) j2 := d_cmp op_eq (fun u v w gd h1 h2 Q q => by
  have e1 : u = .int m := h1
  have e2 : v = .int n := h2
  subst e1 e2
  exact ⟨rfl, q _ w (Le.refl gd) gd rfl (by rw [decV] <;> rfl)⟩) ha hb (nomark _)
theorem d_neI {m n : Int} (ha : EvD X k w0 Γ j a rInt m j1) (hb : EvD X k w0 Γ j1 b rInt n j2) : EvD X k w0 Γ j (.Compare a [.NotEq] [b] pos) rBl (!decide (m = n)) j2 := d_cmp op_ne (fun u v w gd h1 h2 Q q => by
  have e1 : u = .int m := h1
  have e2 : v = .int n := h2
  subst e1 e2
  exact ⟨rfl, q _ w (Le.refl gd) gd rfl (by rw [decV] <;> rfl)⟩) ha hb (nomark _)
/-- a <= b <= c -/
theorem d_chain {m n o : Int} {op op' : CmpOp} {f g : Int → Int → Bool} (ho : OpR X (compareOp op) (rI0 fun i j => .bl (f i j))) (ho' : OpR X (compareOp op') (rI0 fun i j => .bl (g i j)))
    (ha : EvD X k w0 Γ j a rInt m j1) (hb : EvD X k w0 Γ j1 b rInt n j2) (hc : f m n = true → EvD X k w0 Γ j2 c rInt o j2) (hm : lastMarks [op, op'] [b, c] = false := by with_unfolding_all rfl) : EvD X k w0 Γ j (.Compare a [op, op'] [b, c] pos) rBl (f m n && g n o) j2 := fun σ w at0 Q q =>
  WE.of (pe_chain ho ho' pe_self pe_self pe_self hm) (ha σ w at0 _ fun u w1 a1 e1 r1 => hb σ w1 a1 _ fun v w2 a2 e2 r2 => ⟨m, n, r1, r2, _, rfl, by
    cases h : f m n with
    | true =>
      show WE X c σ w2.H _
      refine hc h σ w2 a2 _ fun u3 w3 a3 e3 r3 => ⟨n, o, r2, r3, ?_⟩
      exact q _ w3 a3 ((e1.trans e2).trans e3) (by rw [h] <;> rfl)
    | false =>
      show Q (.bl false) w2.H
      exact q _ w2 a2 (e1.trans e2) (by rw [h] <;> rfl)⟩)

/-! ### truths -/
theorem t_of {v : Bool} (h : EvD X k w0 Γ j e rBl v j1) (he : ∀ whole, isTrue e X.env whole = (do let v ← whole; standAt e.pos; holding [v] (truthy v)) := by intro _; rfl) : EvT X k w0 Γ j e v j1 := fun σ w at0 Q q =>
  WT.of (pt_val pe_self he) (h σ w at0 _ fun u w1 a1 e1 r1 => ⟨v, r1, q w1 a1 e1⟩)
theorem t_not {u : Bool} (h : EvT X k w0 Γ j e u j1) : EvT X k w0 Γ j (.UnaryOp .Not e pos) (!u) j1 := fun σ w at0 Q q => WT.of (pt_not pt_self) (h σ w at0 _ fun w1 a1 e1 => q w1 a1 e1)
theorem w_t {u : Bool} (h : EvW X k w0 Γ j e u j1) : EvT X k w0 Γ j e u j1 := fun σ w at0 Q q => WT.of pw_self.pt (h σ w at0 Q q)
theorem w_and1 {u : Bool} (h : EvT X k w0 Γ j a u j1) : EvW X k w0 Γ j (.BoolOp .And [a] pos) u j1 := fun σ w at0 Q q => WW.of (pw_and1 pt_self) (h σ w at0 Q q)
theorem w_or1 {u : Bool} (h : EvT X k w0 Γ j a u j1) : EvW X k w0 Γ j (.BoolOp .Or [a] pos) u j1 := fun σ w at0 Q q => WW.of (pw_or1 pt_self) (h σ w at0 Q q)
theorem w_and {u v : Bool} (h : EvT X k w0 Γ j a u j1) (h2 : u = true → EvW X k w0 Γ j1 (.BoolOp .And (b :: es) pos) v j1) : EvW X k w0 Γ j (.BoolOp .And (a :: b :: es) pos) (u && v) j1 := fun σ w at0 Q q =>
  WW.of (pw_and pt_self pw_self) (h σ w at0 _ fun w1 a1 e1 => by
    cases u with
    | true =>
      show WW X _ σ w1.H Q
      exact h2 rfl σ w1 a1 Q fun w2 a2 e2 => q w2 a2 (e1.trans e2)
    | false =>
      show Q false w1.H
      exact q w1 a1 e1)
theorem w_or {u v : Bool} (h : EvT X k w0 Γ j a u j1) (h2 : u = false → EvW X k w0 Γ j1 (.BoolOp .Or (b :: es) pos) v j1) : EvW X k w0 Γ j (.BoolOp .Or (a :: b :: es) pos) (u || v) j1 := fun σ w at0 Q q =>
  WW.of (pw_or pt_self pw_self) (h σ w at0 _ fun w1 a1 e1 => by
    cases u with
    | true =>
      show Q true w1.H
      exact q w1 a1 e1
    | false =>
      show WW X _ σ w1.H Q
      exact h2 rfl σ w1 a1 Q fun w2 a2 e2 => q w2 a2 (e1.trans e2))
/-- the same as values -/
theorem d_one {op : BoolOp} (h : EvD X k w0 Γ j a A x j1) : EvD X k w0 Γ j (.BoolOp op [a] pos) A x j1 := fun σ w at0 Q q => WE.of (pe_one pe_self) (h σ w at0 Q q)
theorem d_and {u v : Bool} (h : EvD X k w0 Γ j a rBl u j1) (h2 : u = true → EvD X k w0 Γ j1 (.BoolOp .And (b :: es) pos) rBl v j1) : EvD X k w0 Γ j (.BoolOp .And (a :: b :: es) pos) rBl (u && v) j1 := fun σ w at0 Q q =>
  WE.of (pe_and pe_self pe_self) (h σ w at0 _ fun z w1 a1 e1 r1 => ⟨u, r1, by
    cases u with
    | true =>
      show WE X _ σ w1.H Q
      exact h2 rfl σ w1 a1 Q fun t w2 a2 e2 r2 => q t w2 a2 (e1.trans e2) r2
    | false =>
      show Q (.bl false) w1.H
      exact q _ w1 a1 e1 rfl⟩)
theorem d_or {u v : Bool} (h : EvD X k w0 Γ j a rBl u j1) (h2 : u = false → EvD X k w0 Γ j1 (.BoolOp .Or (b :: es) pos) rBl v j1) : EvD X k w0 Γ j (.BoolOp .Or (a :: b :: es) pos) rBl (u || v) j1 := fun σ w at0 Q q =>
  WE.of (pe_or pe_self pe_self) (h σ w at0 _ fun z w1 a1 e1 r1 => ⟨u, r1, by
    cases u with
    | true =>
      show Q (.bl true) w1.H
      exact q _ w1 a1 e1 rfl
    | false =>
      show WE X _ σ w1.H Q
      exact h2 rfl σ w1 a1 Q fun t w2 a2 e2 r2 => q t w2 a2 (e1.trans e2) r2⟩)
theorem d_not {u : Bool} (h : EvD X k w0 Γ j a rBl u j1) : EvD X k w0 Γ j (.UnaryOp .Not a pos) rBl (!u) j1 := fun σ w at0 Q q => WE.of (pe_not pe_self) (h σ w at0 _ fun z w1 a1 e1 r1 => ⟨u, r1, q _ w1 a1 e1 rfl⟩)
theorem d_ifx {u : Bool} {x1 x2 : α} (h : EvT X k w0 Γ j c u j1) (h1 : u = true → EvD X k w0 Γ j1 a A x1 j2) (h2 : u = false → EvD X k w0 Γ j1 b A x2 j3) : EvD X k w0 Γ j (.IfExp c a b pos) A (if u = true then x1 else x2) (if u = true then j2 else j3) := fun σ w at0 Q q =>
  WE.of (pe_ifExp pt_self pe_self pe_self) (h σ w at0 _ fun w1 a1 e1 => by
    cases u with
    | true =>
      show WE X a σ w1.H Q
      exact h1 rfl σ w1 a1 Q fun t w2 a2 e2 r2 => q t w2 a2 (e1.trans e2) r2
    | false =>
      show WE X b σ w1.H Q
      exact h2 rfl σ w1 a1 Q fun t w2 a2 e2 r2 => q t w2 a2 (e1.trans e2) r2)
/-- both ways leave the jar alike -/
theorem d_ifP {u : Bool} {x1 x2 : α} (h : EvT X k w0 Γ j c u j1) (h1 : u = true → EvD X k w0 Γ j1 a A x1 j2) (h2 : u = false → EvD X k w0 Γ j1 b A x2 j2) : EvD X k w0 Γ j (.IfExp c a b pos) A (if u = true then x1 else x2) j2 := by
  have := d_ifx (pos := pos) h h1 h2
  cases u <;> exact this
theorem m_ifP {u : Bool} {x1 x2 : List α} (h : EvT X k w0 Γ j c u j1) (h1 : u = true → EvM X k w0 Γ j1 a A x1 j2) (h2 : u = false → EvM X k w0 Γ j1 b A x2 j2) : EvM X k w0 Γ j (.IfExp c a b pos) A (if u = true then x1 else x2) j2 := fun σ w at0 Q q =>
  WE.of (pe_ifExp pt_self pe_self pe_self) (h σ w at0 _ fun w1 a1 e1 => by
    cases u with
    | true =>
      show WE X a σ w1.H Q
      exact h1 rfl σ w1 a1 Q fun t vs w2 a2 e2 r2 r3 r4 r5 => q t vs w2 a2 (e1.trans e2) r2 r3 r4 (e1.fresh r5)
    | false =>
      show WE X b σ w1.H Q
      exact h2 rfl σ w1 a1 Q fun t vs w2 a2 e2 r2 r3 r4 r5 => q t vs w2 a2 (e1.trans e2) r2 r3 r4 (e1.fresh r5))

/-! ### arguments, displays, calls -/
theorem a_nil : EvA X k w0 Γ j [] [] j := fun _ w at0 _ q => WA.of pa_nil (q [] w at0 (Le.refl at0.good) trivial)
theorem a_im {ss : List (Slot X.K)} (h : EvD X k w0 Γ j e A x j1) (hr : EvA X k w0 Γ j1 es ss j2) (hs : starEach (e :: es) X.env = (false, eval e X.env) :: starEach es X.env := by rfl) : EvA X k w0 Γ j (e :: es) (.im A x :: ss) j2 := fun σ w at0 Q q =>
  WA.of (pa_cons pe_self pa_self hs) (h σ w at0 _ fun v w1 a1 e1 r1 => hr σ w1 a1 _ fun vs w2 a2 e2 r2 => q (v :: vs) w2 a2 (e1.trans e2) ⟨⟨v, rfl, A.up e2.sub r1⟩, rfl, r2⟩)
theorem a_bo {ss : List (Slot X.K)} (h : EvB X k w0 Γ j e A xs j1) (hr : EvA X k w0 Γ j1 es ss j2) (hs : starEach (e :: es) X.env = (false, eval e X.env) :: starEach es X.env := by rfl) : EvA X k w0 Γ j (e :: es) (.bo A xs :: ss) j2 := fun σ w at0 Q q =>
  WA.of (pa_cons pe_self pa_self hs) (h σ w at0 _ fun p vs w1 a1 e1 r1 r1' => hr σ w1 a1 _ fun us w2 a2 e2 r2 => q (.ref p :: us) w2 a2 (e1.trans e2) ⟨⟨p, vs, rfl, r1.up e2, r1'.up e2.sub⟩, rfl, r2⟩)
theorem a_ja {ss : List (Slot X.K)} {n : Str} (i : Nat) (hΓ : Γ[i]? = some .ja) (hN : X.N[i]? = some n) (hv : Vis X.env.scope n) (hr : EvA X k w0 Γ j es ss j2) (hs : starEach (.Name n p2 :: es) X.env = (false, eval (.Name n p2) X.env) :: starEach es X.env := by rfl)
    (hd : (n == ("__debug__" : Str)) = false := by decide) (hcd : (n == ("__classdict__" : Str)) = false := by decide) : EvA X k w0 Γ j (.Name n p2 :: es) (.ja :: ss) j2 := fun σ w at0 Q q => by
  refine WA.of (pa_cons (pe_var hN hv hd hcd) pa_self hs) ?_
  obtain ⟨o, h1, p, h2, h3⟩ := at0.env.at_ i _ hΓ
  rw [h3] at h1
  exact ⟨_, h1, hr σ w at0 _ fun us w2 a2 e2 r2 => q (.ref p :: us) w2 a2 e2 ⟨⟨p, h2, rfl⟩, rfl, r2⟩⟩
/-- a def's promise: of arguments like P i, with pre, it hands back f's value and leaves the jar as f says -/
def SpD {K : PySem.W.Frag} {ι : Type} (T : Tbs) (P : ι → List (Slot K)) (pre : ι → Int × Int → Prop) {α : Type} (A : RT K α) (f : ι → Int × Int → α × (Int × Int)) : Sp := fun vs H Q _ =>
  ∃ (i : ι) (k : Kx) (w : Wd), k.T = T ∧ w.H = H ∧ Good k w ∧ ArgsOk K k w (P i) vs ∧ pre i w.j ∧ ∀ v w', Le k w w' → Good k w' → w'.j = (f i w.j).2 → A.r w'.S v (f i w.j).1 → Q v w'.H
/-- .. a new list of the caller's own -/
def SpM {K : PySem.W.Frag} {ι : Type} (T : Tbs) (P : ι → List (Slot K)) (pre : ι → Int × Int → Prop) {α : Type} (A : RT K α) (f : ι → Int × Int → List α × (Int × Int)) : Sp := fun vs H Q _ =>
  ∃ (i : ι) (k : Kx) (w : Wd), k.T = T ∧ w.H = H ∧ Good k w ∧ ArgsOk K k w (P i) vs ∧ pre i w.j ∧ ∀ p us w', Le k w w' → Good k w' → w'.j = (f i w.j).2 → w'.H p = some (.lst us) → Rows A w'.S us (f i w.j).1 → w'.S p = none → w.H p = none → Q (.ref p) w'.H
structure Has (P : Program) (w : World) (K : PySem.W.Frag) (mg : Str → Option Value) (base : Heap) (lev : Nat) (x : Str) (ps : List Str) (sp : Sp) : Prop where
  ex : ∃ f fd, FnG P w K mg base lev f fd ps sp ∧ mg x = some (.ref f) ∧ PySem.W.keepIn K (.ref f) = true ∧ Binds K fd ps []
variable {fn : Str} {ps : List Str} {lev : Nat} {ι : Type} {T : Tbs}
theorem d_call {P : ι → List (Slot X.K)} {pre : ι → Int × Int → Prop} {f : ι → Int × Int → α × (Int × Int)} (G : Has X.prog X.w X.K X.mg X.base lev fn ps (SpD T P pre A f)) (hr : Room lev X.A) (hgd : X.A.guards = some []) (i : ι) (hpre : pre i j1) (ht : k.T = T)
    (ha : EvA X k w0 Γ j (e :: es) (P i) j1) (hg : Gl X fn := by rfl) (hdb : (fn == ("__debug__" : Str)) = false := by decide) (he : starEach (e :: es) X.env = (false, eval e X.env) :: starEach es X.env := by rfl) (hpl : (backTo pos (starEach es X.env)).any (·.1) = false := by rfl) {x : α} {jj : Int × Int} (hx : (f i j1).1 = x := by rfl) (hj : (f i j1).2 = jj := by rfl) :
    EvD X k w0 Γ j (.Call (.Name fn p2) (e :: es) [] pos) A x jj := fun σ w at0 Q q => by
  subst hx hj
  obtain ⟨g, fd, F, hm, hk, hb⟩ := G.ex
  refine WE.of (pe_callG F hr hgd hg hm hk hb pa_self (hdb := hdb) (he := he) (hpl := hpl)) ?_
  refine ha σ w at0 _ fun vs w1 a1 e1 r1 => ?_
  have ej := a1.jar
  refine ⟨i, k, w1, ht, rfl, a1.good, r1, by rw [ej]; exact hpre, fun v w2 le2 g2 j2 r2 => ?_⟩
  rw [ej] at j2 r2
  exact q v w2 (a1.up le2 g2 j2) (e1.trans le2) r2
theorem m_call {P : ι → List (Slot X.K)} {pre : ι → Int × Int → Prop} {f : ι → Int × Int → List α × (Int × Int)} (G : Has X.prog X.w X.K X.mg X.base lev fn ps (SpM T P pre A f)) (hr : Room lev X.A) (hgd : X.A.guards = some []) (i : ι) (hpre : pre i j1) (ht : k.T = T)
    (ha : EvA X k w0 Γ j (e :: es) (P i) j1) (hg : Gl X fn := by rfl) (hdb : (fn == ("__debug__" : Str)) = false := by decide) (he : starEach (e :: es) X.env = (false, eval e X.env) :: starEach es X.env := by rfl) (hpl : (backTo pos (starEach es X.env)).any (·.1) = false := by rfl) {x : List α} {jj : Int × Int} (hx : (f i j1).1 = x := by rfl) (hj : (f i j1).2 = jj := by rfl) :
    EvM X k w0 Γ j (.Call (.Name fn p2) (e :: es) [] pos) A x jj := fun σ w at0 Q q => by
  subst hx hj
  obtain ⟨g, fd, F, hm, hk, hb⟩ := G.ex
  refine WE.of (pe_callG F hr hgd hg hm hk hb pa_self (hdb := hdb) (he := he) (hpl := hpl)) ?_
  refine ha σ w at0 _ fun vs w1 a1 e1 r1 => ?_
  have ej := a1.jar
  refine ⟨i, k, w1, ht, rfl, a1.good, r1, by rw [ej]; exact hpre, fun p us w2 le2 g2 j2 hp r2 hs hn => ?_⟩
  rw [ej] at j2 r2
  exact q p us w2 (a1.up le2 g2 j2) (e1.trans le2) hp r2 hs (e1.fresh hn)
end
end Fm
set_option maxHeartbeats 2000000
/-! Fm3: data compared; displays, places, lengths, calls of built-ins. -/
namespace Fm
open PySem PySem.Spec PyProof.Rows L2

/-! ### data compared -/
structure RD {K : PySem.W.Frag} {α : Type} (A : RT K α) (d : α → PyData) (n : Nat) : Prop where
  dp : ∀ (S : Hp) (v : V) (x : α), A.r S v x → Dp K S v (d x)
  lay : ∀ (S : Hp) (v : V) (x : α), A.r S v x → (d x).canLay0 = true
  dep : ∀ x, (d x).depth ≤ n
  inj : ∀ x y, PyData.eqv (d x) (d y) = true ↔ x = y
section
variable {K : PySem.W.Frag} {α β γ : Type} {A : RT K α} {B : RT K β} {C : RT K γ} {d : α → PyData} {f : β → PyData} {g : γ → PyData} {n m o : Nat}
theorem RD.int : RD (rInt (K := K)) PyData.int 0 := ⟨fun _ _ x h => by
  have e : _ = _ := h
  rw [e]
  exact .int x, fun _ _ _ _ => rfl, fun _ => Nat.le_refl _, fun x y => by
  show (x == y) = true ↔ x = y
  rw [beq_iff_eq]⟩
theorem RD.bl : RD (rBl (K := K)) PyData.bool 0 := ⟨fun _ _ x h => by
  have e : _ = _ := h
  rw [e]
  exact .bl x, fun _ _ _ _ => rfl, fun _ => Nat.le_refl _, fun x y => by
  show (x == y) = true ↔ x = y
  rw [beq_iff_eq]⟩
theorem eqv_tup (xs ys : List PyData) : PyData.eqv (.tuple xs) (.tuple ys) = PyData.eqvAll xs ys := by simp only [PyData.eqv]
theorem eqv_lst (xs ys : List PyData) : PyData.eqv (.list xs) (.list ys) = PyData.eqvAll xs ys := by simp only [PyData.eqv]
theorem eqvAll_cons (x y : PyData) (xs ys : List PyData) : PyData.eqvAll (x :: xs) (y :: ys) = (PyData.eqv x y && PyData.eqvAll xs ys) := by simp only [PyData.eqvAll]
theorem eqvAll_nil : PyData.eqvAll [] [] = true := by simp only [PyData.eqvAll]
theorem eqvAll_inj {d : α → PyData} (h : ∀ x y, PyData.eqv (d x) (d y) = true ↔ x = y) : ∀ xs ys : List α, PyData.eqvAll (xs.map d) (ys.map d) = true ↔ xs = ys
  | [], [] => by simp [eqvAll_nil]
  | [], _ :: _ => by simp [PyData.eqvAll]
  | _ :: _, [] => by simp [PyData.eqvAll]
  | x :: xs, y :: ys => by
    rw [List.map_cons, List.map_cons, eqvAll_cons, Bool.and_eq_true, h, eqvAll_inj h xs ys, List.cons.injEq]
theorem RD.rowsDp (a : RD A d n) {S : Hp} : ∀ {vs : List V} {xs : List α}, Rows A S vs xs → DpAll K S vs (xs.map d)
  | [], [], _ => .nil
  | v :: vs, x :: xs, h => .cons (a.dp S v x h.1) (RD.rowsDp a h.2)
  | [], _ :: _, h => h.elim
  | _ :: _, [], h => h.elim
theorem RD.rowsLay (a : RD A d n) {S : Hp} : ∀ {vs : List V} {xs : List α}, Rows A S vs xs → PyData.canLayAll0 (xs.map d) = true
  | [], [], _ => by simp [PyData.canLayAll0]
  | v :: vs, x :: xs, h => by
    rw [List.map_cons]
    simp only [PyData.canLayAll0, Bool.and_eq_true]
    exact ⟨a.lay S v x h.1, RD.rowsLay a h.2⟩
  | [], _ :: _, h => h.elim
  | _ :: _, [], h => h.elim
theorem depthAll_le {d : α → PyData} (h : ∀ x, (d x).depth ≤ n) : ∀ xs : List α, PyData.depthAll (xs.map d) ≤ n
  | [] => by simp [PyData.depthAll]
  | x :: xs => by
    rw [List.map_cons]
    simp only [PyData.depthAll]
    exact Nat.max_le.mpr ⟨h x, depthAll_le h xs⟩
theorem RD.tup (a : RD A d n) : RD (rTup A) (fun xs => .tuple (xs.map d)) (n + 1) := ⟨fun S v xs ⟨p, vs, h1, h2, h3⟩ => by
  rw [h1]
  exact .tup h2 (a.rowsDp h3), fun S v xs ⟨p, vs, h1, h2, h3⟩ => by
  simp only [PyData.canLay0]
  exact a.rowsLay h3, fun xs => by
  simp only [PyData.depth]
  have := depthAll_le a.dep xs
  omega, fun xs ys => by rw [eqv_tup]; exact eqvAll_inj a.inj xs ys⟩
theorem RD.lst (a : RD A d n) : RD (rLst A) (fun xs => .list (xs.map d)) (n + 1) := ⟨fun S v xs ⟨p, vs, h1, h2, h3⟩ => by
  rw [h1]
  exact .lst h2 (a.rowsDp h3), fun S v xs ⟨p, vs, h1, h2, h3⟩ => by
  simp only [PyData.canLay0]
  exact a.rowsLay h3, fun xs => by
  simp only [PyData.depth]
  have := depthAll_le a.dep xs
  omega, fun xs ys => by rw [eqv_lst]; exact eqvAll_inj a.inj xs ys⟩
theorem RD.pair (a : RD A d n) (b : RD B f m) : RD (rPair A B) (fun x => .tuple [d x.1, f x.2]) (max n m + 1) := ⟨fun S v x ⟨p, u, w, h1, h2, h3, h4⟩ => by
  rw [h1]
  exact .tup h2 (.cons (a.dp S u _ h3) (.cons (b.dp S w _ h4) .nil)), fun S v x ⟨p, u, w, h1, h2, h3, h4⟩ => by
  simp only [PyData.canLay0, PyData.canLayAll0, Bool.and_eq_true, Bool.and_true]
  exact ⟨a.lay S u _ h3, b.lay S w _ h4⟩, fun x => by
  simp only [PyData.depth, PyData.depthAll]
  have h1 := a.dep x.1
  have h2 := b.dep x.2
  omega, fun x y => by
  rw [eqv_tup, eqvAll_cons, eqvAll_cons, eqvAll_nil, Bool.and_true, Bool.and_eq_true, a.inj, b.inj, Prod.ext_iff]⟩
theorem RD.tri (a : RD A d n) (b : RD B f m) (c : RD C g o) : RD (rTri A B C) (fun x => .tuple [d x.1, f x.2.1, g x.2.2]) (max n (max m o) + 1) := ⟨fun S v x ⟨p, u, w, z, h1, h2, h3, h4, h5⟩ => by
  rw [h1]
  exact .tup h2 (.cons (a.dp S u _ h3) (.cons (b.dp S w _ h4) (.cons (c.dp S z _ h5) .nil))), fun S v x ⟨p, u, w, z, h1, h2, h3, h4, h5⟩ => by
  simp only [PyData.canLay0, PyData.canLayAll0, Bool.and_eq_true, Bool.and_true]
  exact ⟨a.lay S u _ h3, b.lay S w _ h4, c.lay S z _ h5⟩, fun x => by
  simp only [PyData.depth, PyData.depthAll]
  have h1 := a.dep x.1
  have h2 := b.dep x.2.1
  have h3 := c.dep x.2.2
  omega, fun x y => by
  rw [eqv_tup, eqvAll_cons, eqvAll_cons, eqvAll_cons, eqvAll_nil, Bool.and_true, Bool.and_eq_true, Bool.and_eq_true, a.inj, b.inj, c.inj, Prod.ext_iff, Prod.ext_iff]⟩
theorem Dp.up {S S' : Hp} (e : Sub S S') : ∀ {d : PyData} {v : V}, Dp K S v d → Dp K S' v d := by
  intro d v h
  induction h using Dp.rec (motive_2 := fun vs ds _ => DpAll K S' vs ds) with
  | non => exact .non
  | bl b => exact .bl b
  | int i => exact .int i
  | str x => exact .str x
  | lst h1 _ ih => exact .lst (e.l h1) ih
  | tup h1 _ ih => exact .tup (e.t h1) ih
  | nil => exact .nil
  | cons _ _ h1 h2 => exact .cons h1 h2
end

section
variable {X : Cx} {k : Kx} {w0 : Wd} {Γ : List (Slot X.K)} {j j1 j2 j3 : Int × Int} {e a b c : Expr} {es : List Expr} {α β γ : Type} {A : RT X.K α} {B : RT X.K β} {C : RT X.K γ} {x y : α} {z : β} {t : γ} {xs ys : List α} {pos p2 p3 p4 : Pos}

theorem shaped_of {d : PyData} {n : Nat} (h : d.canLay0 = true) (hd : d.depth ≤ n) (hn : n ≤ 64) : SeqAt.shaped d = true := by
  unfold SeqAt.shaped
  rw [h, Bool.true_and]
  exact decide_eq_true (Nat.le_trans hd hn)
theorem d_eqD {d : α → PyData} {n : Nat} [DecidableEq α] (hu : X.A.units + 64 < cLine) (r : RD A d n) (hn : n ≤ 64) (ha : EvD X k w0 Γ j a A x j1) (hb : EvD X k w0 Γ j1 b A y j2) : EvD X k w0 Γ j (.Compare a [.Eq] [b] pos) rBl (decide (x = y)) j2 :=
  d_cmp (op_eqD hu) (fun u v w gd h1 h2 Q q => ⟨d x, d y, Dp.up gd.sub (r.dp _ _ _ h1), Dp.up gd.sub (r.dp _ _ _ h2), shaped_of (r.lay _ _ _ h1) (r.dep x) hn, shaped_of (r.lay _ _ _ h2) (r.dep y) hn, by
    refine q _ w (Le.refl gd) gd rfl ?_
    show V.bl _ = V.bl _
    congr 1
    rw [Bool.eq_iff_iff, r.inj, decide_eq_true_iff]⟩) ha hb (nomark _)
theorem d_neD {d : α → PyData} {n : Nat} [DecidableEq α] (hu : X.A.units + 64 < cLine) (r : RD A d n) (hn : n ≤ 64) (ha : EvD X k w0 Γ j a A x j1) (hb : EvD X k w0 Γ j1 b A y j2) : EvD X k w0 Γ j (.Compare a [.NotEq] [b] pos) rBl (!decide (x = y)) j2 :=
  d_cmp (op_neD hu) (fun u v w gd h1 h2 Q q => ⟨d x, d y, Dp.up gd.sub (r.dp _ _ _ h1), Dp.up gd.sub (r.dp _ _ _ h2), shaped_of (r.lay _ _ _ h1) (r.dep x) hn, shaped_of (r.lay _ _ _ h2) (r.dep y) hn, by
    refine q _ w (Le.refl gd) gd rfl ?_
    show V.bl _ = V.bl _
    congr 2
    rw [Bool.eq_iff_iff, r.inj, decide_eq_true_iff]⟩) ha hb (nomark _)
/-- a list read, against data -/
theorem b_dp {S : Hp} {d : α → PyData} {n : Nat} (r : RD A d n) {w : Wd} (gd : Good k w) {p : Addr} {vs : List V} (h : SqL X.K w.H p vs) (hr : Rows A w.S vs xs) : Dp X.K w.H (.ref p) (.list (xs.map d)) := by
  have h2 := r.rowsDp (hr.up gd.sub)
  exact .lst h h2
theorem d_eqB {d : α → PyData} {n : Nat} [DecidableEq α] (hu : X.A.units + 64 < cLine) (r : RD A d n) (hn : n + 1 ≤ 64) (ha : EvB X k w0 Γ j a A xs j1) (hb : EvB X k w0 Γ j1 b A ys j2) : EvD X k w0 Γ j (.Compare a [.Eq] [b] pos) rBl (decide (xs = ys)) j2 := fun σ w at0 Q q =>
  WE.of (pe_cmpR (op_eqD hu) pe_self pe_self (nomark _)) (ha σ w at0 _ fun p vs w1 a1 e1 h1 r1 => hb σ w1 a1 _ fun p' us w2 a2 e2 h2 r2 => by
    have l1 := h1 w2 e2
    have l2 := h2 w2 (Le.refl a2.good)
    have r1' := r1.up e2.sub
    refine ⟨.list (xs.map d), .list (ys.map d), b_dp (S := w2.H) r a2.good l1 r1', b_dp (S := w2.H) r a2.good l2 r2, shaped_of (n := n + 1) ?_ ?_ hn, shaped_of (n := n + 1) ?_ ?_ hn, ?_⟩
    · simp only [PyData.canLay0]
      exact r.rowsLay r1'
    · simp only [PyData.depth]
      have := depthAll_le r.dep xs
      omega
    · simp only [PyData.canLay0]
      exact r.rowsLay r2
    · simp only [PyData.depth]
      have := depthAll_le r.dep ys
      omega
    · refine q _ w2 a2 (e1.trans e2) ?_
      show V.bl _ = V.bl _
      congr 1
      rw [Bool.eq_iff_iff, eqv_lst, eqvAll_inj r.inj, decide_eq_true_iff])
theorem d_neB {d : α → PyData} {n : Nat} [DecidableEq α] (hu : X.A.units + 64 < cLine) (r : RD A d n) (hn : n + 1 ≤ 64) (ha : EvB X k w0 Γ j a A xs j1) (hb : EvB X k w0 Γ j1 b A ys j2) : EvD X k w0 Γ j (.Compare a [.NotEq] [b] pos) rBl (!decide (xs = ys)) j2 := fun σ w at0 Q q =>
  WE.of (pe_cmpR (op_neD hu) pe_self pe_self (nomark _)) (ha σ w at0 _ fun p vs w1 a1 e1 h1 r1 => hb σ w1 a1 _ fun p' us w2 a2 e2 h2 r2 => by
    have l1 := h1 w2 e2
    have l2 := h2 w2 (Le.refl a2.good)
    have r1' := r1.up e2.sub
    refine ⟨.list (xs.map d), .list (ys.map d), b_dp (S := w2.H) r a2.good l1 r1', b_dp (S := w2.H) r a2.good l2 r2, shaped_of (n := n + 1) ?_ ?_ hn, shaped_of (n := n + 1) ?_ ?_ hn, ?_⟩
    · simp only [PyData.canLay0]
      exact r.rowsLay r1'
    · simp only [PyData.depth]
      have := depthAll_le r.dep xs
      omega
    · simp only [PyData.canLay0]
      exact r.rowsLay r2
    · simp only [PyData.depth]
      have := depthAll_le r.dep ys
      omega
    · refine q _ w2 a2 (e1.trans e2) ?_
      show V.bl _ = V.bl _
      congr 2
      rw [Bool.eq_iff_iff, eqv_lst, eqvAll_inj r.inj, decide_eq_true_iff])
/-- x is None, is not None -/
theorem d_isN {o : Option α} {m : Nat} (ha : EvD X k w0 Γ j a (rOpt A) o j1) : EvD X k w0 Γ j (.Compare a [.Is] [.Constant .none m p2] pos) rBl o.isNone j1 := fun σ w at0 Q q =>
  WE.of (pe_cmpR op_isN pe_self pe_non (nomark _)) (ha σ w at0 _ fun v w1 a1 e1 h1 => ⟨rfl, by
    refine q _ w1 a1 e1 ?_
    show V.bl _ = V.bl _
    congr 1
    rcases h1 with ⟨rfl, rfl⟩ | ⟨x, rfl, hn, _⟩
    · rfl
    · exact decide_eq_false hn⟩)
theorem d_notN {o : Option α} {m : Nat} (ha : EvD X k w0 Γ j a (rOpt A) o j1) : EvD X k w0 Γ j (.Compare a [.IsNot] [.Constant .none m p2] pos) rBl o.isSome j1 := fun σ w at0 Q q =>
  WE.of (pe_cmpR op_notN pe_self pe_non (nomark _)) (ha σ w at0 _ fun v w1 a1 e1 h1 => ⟨rfl, by
    refine q _ w1 a1 e1 ?_
    show V.bl _ = V.bl _
    congr 1
    rcases h1 with ⟨rfl, rfl⟩ | ⟨x, rfl, hn, _⟩
    · rfl
    · rw [decide_eq_false hn] <;> rfl⟩)
/-- what is there is x -/
theorem EvD.get {o : Option α} (ha : EvD X k w0 Γ j a (rOpt A) o j1) (ho : o = some x) : EvD X k w0 Γ j a A x j1 := fun σ w at0 Q q => ha σ w at0 Q fun v w1 a1 e1 h1 => q v w1 a1 e1 (by
  rcases h1 with ⟨h, _⟩ | ⟨y, h, _, hr⟩
  · rw [h] at ho
    cases ho
  · rw [h] at ho
    rw [← Option.some.inj ho]
    exact hr)

/-! ### displays -/
theorem WA.two {ta tb : TE} {σ : L2.St} {H : Hp} {Q : List V → Hp → Prop} (ha : PE X a ta) (hb : PE X b tb) (hs : starEach [a, b] X.env = [(false, eval a X.env), (false, eval b X.env)] := by rfl) (hs2 : starEach [b] X.env = [(false, eval b X.env)] := by rfl) (h : ta σ H fun u H1 => tb σ H1 fun v H2 => Q [u, v] H2) : WA X [a, b] σ H Q :=
  WA.of (pa_cons ha (pa_cons hb pa_nil (by rw [hs2] <;> rfl)) (by rw [hs, hs2])) h
theorem d_pair {m : Nat} (ha : EvD X k w0 Γ j a A x j1) (hb : EvD X k w0 Γ j1 b B z j2) (h1 : starEach [a, b] X.env = (false, eval a X.env) :: starEach [b] X.env := by rfl) (h2 : starEach [b] X.env = (false, eval b X.env) :: starEach [] X.env := by rfl) :
    EvD X k w0 Γ j (.Tuple [a, b] m pos) (rPair A B) (x, z) j2 := fun σ w at0 Q q =>
  WE.of (pe_tup (pa_cons pe_self (pa_cons pe_self pa_nil h2) h1)) (ha σ w at0 _ fun u w1 a1 e1 r1 => hb σ w1 a1 _ fun v w2 a2 e2 r2 => ⟨by show 2 ≤ sizeLine; decide, fun p hp => by
    obtain ⟨g3, l3⟩ := a2.good.newS (o := .tup [u, v]) hp
    exact q _ ⟨upd w2.S p (.tup [u, v]), upd w2.H p (.tup [u, v]), w2.j⟩ (a2.up l3 g3 a2.jar) ((e1.trans e2).trans l3) ⟨p, u, v, rfl, .inl (.inl upd_same), A.up (e2.sub.trans l3.sub) r1, B.up l3.sub r2⟩⟩)
theorem d_tri {m : Nat} (ha : EvD X k w0 Γ j a A x j1) (hb : EvD X k w0 Γ j1 b B z j2) (hc : EvD X k w0 Γ j2 c C t j3) (h1 : starEach [a, b, c] X.env = (false, eval a X.env) :: starEach [b, c] X.env := by rfl) (h2 : starEach [b, c] X.env = (false, eval b X.env) :: starEach [c] X.env := by rfl)
    (h3 : starEach [c] X.env = (false, eval c X.env) :: starEach [] X.env := by rfl) : EvD X k w0 Γ j (.Tuple [a, b, c] m pos) (rTri A B C) (x, z, t) j3 := fun σ w at0 Q q =>
  WE.of (pe_tup (pa_cons pe_self (pa_cons pe_self (pa_cons pe_self pa_nil h3) h2) h1)) (ha σ w at0 _ fun u w1 a1 e1 r1 => hb σ w1 a1 _ fun v w2 a2 e2 r2 => hc σ w2 a2 _ fun v3 w3 a3 e3 r3 => ⟨by show 3 ≤ sizeLine; decide, fun p hp => by
    obtain ⟨g4, l4⟩ := a3.good.newS (o := .tup [u, v, v3]) hp
    exact q _ ⟨upd w3.S p (.tup [u, v, v3]), upd w3.H p (.tup [u, v, v3]), w3.j⟩ (a3.up l4 g4 a3.jar) (((e1.trans e2).trans e3).trans l4) ⟨p, u, v, v3, rfl, .inl (.inl upd_same), A.up ((e2.sub.trans e3.sub).trans l4.sub) r1, B.up (e3.sub.trans l4.sub) r2, C.up l4.sub r3⟩⟩)
/-- items of one kind -/
def EvR (X : Cx) (k : Kx) (w0 : Wd) (Γ : List (Slot X.K)) (j : Int × Int) (es : List Expr) {α : Type} (A : RT X.K α) (xs : List α) (j' : Int × Int) : Prop :=
  ∀ σ w, At X.K k w0 Γ σ w j → ∀ Q : List V → Hp → Prop, (∀ vs w', At X.K k w0 Γ σ w' j' → Le k w w' → Rows A w'.S vs xs → Q vs w'.H) → WA X es σ w.H Q
theorem r_nil : EvR X k w0 Γ j [] A [] j := fun _ w at0 _ q => WA.of pa_nil (q [] w at0 (Le.refl at0.good) trivial)
theorem r_cons (h : EvD X k w0 Γ j e A x j1) (hr : EvR X k w0 Γ j1 es A xs j2) (hs : starEach (e :: es) X.env = (false, eval e X.env) :: starEach es X.env := by rfl) : EvR X k w0 Γ j (e :: es) A (x :: xs) j2 := fun σ w at0 Q q =>
  WA.of (pa_cons pe_self pa_self hs) (h σ w at0 _ fun v w1 a1 e1 r1 => hr σ w1 a1 _ fun vs w2 a2 e2 r2 => q (v :: vs) w2 a2 (e1.trans e2) ⟨A.up e2.sub r1, r2⟩)
theorem d_tupR {m : Nat} (h : EvR X k w0 Γ j es A xs j1) (hz : xs.length ≤ 100000) : EvD X k w0 Γ j (.Tuple es m pos) (rTup A) xs j1 := fun σ w at0 Q q =>
  WE.of (pe_tup pa_self) (h σ w at0 _ fun vs w1 a1 e1 r1 => ⟨Evl.sz_of (by rw [r1.len]; exact hz), fun p hp => by
    obtain ⟨g2, l2⟩ := a1.good.newS (o := .tup vs) hp
    exact q _ ⟨upd w1.S p (.tup vs), upd w1.H p (.tup vs), w1.j⟩ (a1.up l2 g2 a1.jar) (e1.trans l2) ⟨p, vs, rfl, .inl (.inl upd_same), r1.up l2.sub⟩⟩)
theorem m_lst (h : EvR X k w0 Γ j es A xs j1) (hz : xs.length ≤ 100000) : EvM X k w0 Γ j (.List es pos) A xs j1 := fun σ w at0 Q q =>
  WE.of (pe_lst pa_self) (h σ w at0 _ fun vs w1 a1 e1 r1 => ⟨Evl.sz_of (by rw [r1.len]; exact hz), fun p hp => by
    obtain ⟨g2, l2⟩ := a1.good.newH (o := .lst vs) hp
    exact q p vs ⟨w1.S, upd w1.H p (.lst vs), w1.j⟩ (a1.up l2 g2 a1.jar) (e1.trans l2) upd_same r1 (a1.good.non hp) (e1.fresh hp)⟩)

/-! ### places -/
theorem d_fst {m : Nat} {y : β} (ha : EvD X k w0 Γ j a (rPair A B) (x, y) j1) : EvD X k w0 Γ j (.Subscript a (.Constant (.int 0) m p2) pos) A x j1 := fun σ w at0 Q q =>
  WE.of (pe_ix ix_tup pe_self pe_int (fun _ _ => rfl)) (ha σ w at0 _ fun v w1 a1 e1 ⟨p, u, z, h1, h2, h3, h4⟩ => ⟨p, [u, z], 0, u, h1, rfl, a1.good.sub.t h2, rfl, q u w1 a1 e1 h3⟩)
theorem d_snd {m : Nat} {y : β} (ha : EvD X k w0 Γ j a (rPair A B) (x, y) j1) : EvD X k w0 Γ j (.Subscript a (.Constant (.int 1) m p2) pos) B y j1 := fun σ w at0 Q q =>
  WE.of (pe_ix ix_tup pe_self pe_int (fun _ _ => rfl)) (ha σ w at0 _ fun v w1 a1 e1 ⟨p, u, z, h1, h2, h3, h4⟩ => ⟨p, [u, z], 1, z, h1, rfl, a1.good.sub.t h2, rfl, q z w1 a1 e1 h4⟩)
theorem d_fst' {m : Nat} {y : α × β} (ha : EvD X k w0 Γ j a (rPair A B) y j1) : EvD X k w0 Γ j (.Subscript a (.Constant (.int 0) m p2) pos) A y.1 j1 := d_fst (x := y.1) (y := y.2) ha
theorem d_snd' {m : Nat} {y : α × β} (ha : EvD X k w0 Γ j a (rPair A B) y j1) : EvD X k w0 Γ j (.Subscript a (.Constant (.int 1) m p2) pos) B y.2 j1 := d_snd (x := y.1) (y := y.2) ha
theorem atI_of {xs : List α} {i : Int} {x : α} (h0 : 0 ≤ i) (hx : xs[i.toNat]? = some x) {S : Hp} {vs : List V} (hr : Rows A S vs xs) : ∃ v, atI vs i = some v ∧ A.r S v x := by
  obtain ⟨v, h1, h2⟩ := hr.get hx
  refine ⟨v, ?_, h2⟩
  have e : i = (i.toNat : Int) := (Int.toNat_of_nonneg h0).symm
  rw [e]
  exact atI_nat h1
theorem d_ixT {i : Int} (ha : EvD X k w0 Γ j a (rTup A) xs j1) (hb : EvD X k w0 Γ j1 b rInt i j2) (h0 : 0 ≤ i) (hx : xs[i.toNat]? = some x) (hs : PlainIx b := by exact fun _ _ => rfl) : EvD X k w0 Γ j (.Subscript a b pos) A x j2 := fun σ w at0 Q q =>
  WE.of (pe_ix ix_tup pe_self pe_self hs) (ha σ w at0 _ fun v w1 a1 e1 ⟨p, vs, h1, h2, h3⟩ => hb σ w1 a1 _ fun u w2 a2 e2 r2 => by
    obtain ⟨z, hz, rz⟩ := atI_of h0 hx (h3.up e2.sub)
    exact ⟨p, vs, i, z, h1, r2, a2.good.sub.t (e2.sub.t h2), hz, q z w2 a2 (e1.trans e2) rz⟩)
theorem d_ixB {i : Int} (ha : EvB X k w0 Γ j a A xs j1) (hb : EvD X k w0 Γ j1 b rInt i j2) (h0 : 0 ≤ i) (hx : xs[i.toNat]? = some x) (hs : PlainIx b := by exact fun _ _ => rfl) : EvD X k w0 Γ j (.Subscript a b pos) A x j2 := fun σ w at0 Q q =>
  WE.of (pe_ix ix_list pe_self pe_self hs) (ha σ w at0 _ fun p vs w1 a1 e1 h1 h3 => hb σ w1 a1 _ fun u w2 a2 e2 r2 => by
    obtain ⟨z, hz, rz⟩ := atI_of h0 hx (h3.up e2.sub)
    exact ⟨p, vs, i, z, rfl, r2, h1 w2 e2, hz, q z w2 a2 (e1.trans e2) rz⟩)
/-- the last one -/
theorem d_lastT {m : Nat} (ha : EvD X k w0 Γ j a (rTup A) (xs ++ [x]) j1) (hs : PlainIx (.UnaryOp .USub (.Constant (.int 1) m p2) p3) := by exact fun _ _ => rfl) : EvD X k w0 Γ j (.Subscript a (.UnaryOp .USub (.Constant (.int 1) m p2) p3) pos) A x j1 := fun σ w at0 Q q =>
  WE.of (pe_ix ix_tup pe_self (pe_un un_neg pe_int) hs) (ha σ w at0 _ fun v w1 a1 e1 ⟨p, vs, h1, h2, h3⟩ => ⟨1, rfl, by
    obtain ⟨z, hz, rz⟩ := h3.get (i := xs.length) (x := x) (by simp)
    have hl := h3.len
    rw [List.length_append, List.length_singleton] at hl
    have e3 : vs = vs.take xs.length ++ [z] := by
      have e4 : vs.drop xs.length = [z] := by
        rw [List.drop_eq_getElem_cons (by omega), List.drop_eq_nil_of_le (by omega)]
        rw [List.getElem?_eq_getElem (by omega)] at hz
        rw [Option.some.inj hz]
      rw [← e4, List.take_append_drop]
    exact ⟨p, vs, -1, z, h1, rfl, a1.good.sub.t h2, by rw [e3]; exact atI_last _ _, q z w1 a1 e1 rz⟩⟩)

/-! ### slices -/
theorem sIx_nn {n d : Nat} {i : Int} (h : 0 ≤ i) : HT.sIx n d (some i) = min i.toNat n := by
  have e : i = (i.toNat : Int) := (Int.toNat_of_nonneg h).symm
  rw [e]
  exact HT.sIx_nat n d i.toNat
/-- a[:i], a[i:], a[i:m] as a new list, a new tuple -/
def cutL {α : Type} (xs : List α) (lo hi : Option Nat) : List α := (xs.drop (lo.getD 0)).take (min (hi.getD xs.length) xs.length - lo.getD 0)
theorem cut_rows {S : Hp} {vs : List V} {xs : List α} (hr : Rows A S vs xs) {lo hi : Option Int} {l h : Option Nat} (hl : ∀ i, lo = some i → 0 ≤ i) (hh : ∀ i, hi = some i → 0 ≤ i) (el : l = lo.map Int.toNat) (eh : h = hi.map Int.toNat) : Rows A S (cutV vs lo hi) (cutL xs l h) := by
  subst el eh
  unfold cutV cutL
  have hn := hr.len
  have e2 : HT.sIx vs.length vs.length hi = min ((hi.map Int.toNat).getD xs.length) xs.length := by
    cases hi with
    | none =>
      show vs.length = min xs.length xs.length
      omega
    | some m =>
      rw [sIx_nn (hh m rfl), hn]
      rfl
  cases lo with
  | none =>
    rw [e2]
    exact (hr.drop 0).take _
  | some i =>
    rw [e2, sIx_nn (hl i rfl)]
    show Rows A S ((vs.drop (min i.toNat vs.length)).take (_ - min i.toNat vs.length)) ((xs.drop i.toNat).take (_ - i.toNat))
    by_cases hi2 : i.toNat ≤ vs.length
    · rw [Nat.min_eq_left hi2]
      exact (hr.drop _).take _
    · have e3 : vs.drop (min i.toNat vs.length) = [] := List.drop_eq_nil_of_le (by omega)
      have e4 : xs.drop i.toNat = [] := List.drop_eq_nil_of_le (by omega)
      rw [e3, e4, List.take_nil, List.take_nil]
      trivial
def EvO (X : Cx) (k : Kx) (w0 : Wd) (Γ : List (Slot X.K)) (j : Int × Int) (o : Option Expr) (l : Option Int) (j' : Int × Int) : Prop :=
  match o, l with
  | none, none => j' = j
  | some e, some i => EvD X k w0 Γ j e rInt i j' ∧ 0 ≤ i
  | _, _ => False
def tO (X : Cx) : Option Expr → TO
  | none => tNoPart
  | some e => tPart (WE X e)
theorem po_self (o : Option Expr) : PO X o (tO X o) := by
  cases o with
  | none => exact po_none
  | some e => exact po_some pe_self
theorem EvO.run {o : Option Expr} {l : Option Int} (h : EvO X k w0 Γ j o l j1) {σ : L2.St} {w : Wd} (at0 : At X.K k w0 Γ σ w j) {Q : Option Int → Hp → Prop} (q : ∀ w', At X.K k w0 Γ σ w' j1 → Le k w w' → Q l w'.H) :
    tO X o σ w.H Q := by
  cases o with
  | none =>
    cases l with
    | none =>
      have e : j1 = j := h
      subst e
      exact q w at0 (Le.refl at0.good)
    | some i => exact h.elim
  | some e =>
    cases l with
    | none => exact h.elim
    | some i => exact h.1 σ w at0 _ fun v w1 a1 e1 r1 => ⟨i, r1, q w1 a1 e1⟩
theorem EvO.nn {o : Option Expr} {l : Option Int} (h : EvO X k w0 Γ j o l j1) : ∀ i, l = some i → 0 ≤ i := fun i e => by
  subst e
  cases o with
  | none => exact h.elim
  | some _ => exact h.2
theorem m_slL {o1 o2 : Option Expr} {l h : Option Int} (ha : EvB X k w0 Γ j a A xs j1) (h1 : EvO X k w0 Γ j1 o1 l j2) (h2 : EvO X k w0 Γ j2 o2 h j3) : EvM X k w0 Γ j (.Subscript a (.Slice o1 o2 none p2) pos) A (cutL xs (l.map Int.toNat) (h.map Int.toNat)) j3 := fun σ w at0 Q q =>
  WE.of (pe_slice sl_list pe_self (po_self o1) (po_self o2)) (ha σ w at0 _ fun p vs w1 a1 e1 s1 r1 => h1.run a1 fun w2 a2 e2 => h2.run a2 fun w3 a3 e3 => ⟨p, vs, rfl, s1 w3 (e2.trans e3), fun d hd => by
    obtain ⟨g4, l4⟩ := a3.good.newH (o := .lst (cutV vs l h)) hd
    exact q d _ ⟨w3.S, upd w3.H d (.lst (cutV vs l h)), w3.j⟩ (a3.up l4 g4 a3.jar) (((e1.trans e2).trans e3).trans l4) upd_same (cut_rows (r1.up (e2.sub.trans e3.sub)) h1.nn h2.nn rfl rfl) (a3.good.non hd) (((e1.trans e2).trans e3).fresh hd)⟩)
end
end Fm
set_option maxHeartbeats 2000000
/-! Fm4: sources, targets, comprehensions; statements. -/
namespace Fm
open PySem PySem.Spec PyProof.Rows L2

/-! ### slots forgotten -/
def wipeG {K : PySem.W.Frag} (Γ : List (Slot K)) : List Nat → List (Slot K)
  | [] => Γ
  | v :: vs => (wipeG Γ vs).set v .un
section
variable {K : PySem.W.Frag} {k : Kx} {w0 w w' w1 : Wd} {Γ : List (Slot K)} {σ : L2.St} {j j' : Int × Int} {α β : Type}
theorem At.setU (h : At K k w0 Γ σ w j) (i : Nat) (o : Option V) : At K k w0 (Γ.set i .un) (σ.set i o) w j := by
  refine ⟨h.good, h.jar, h.le, ?_, fun m s hs => ?_, fun a b p s t ha hb sa sb pa pb => ?_⟩
  · rw [List.length_set, List.length_set, h.env.len]
  · by_cases e : i = m
    · subst e
      have hl : i < Γ.length := by
        have := (List.getElem?_eq_some_iff.mp hs).1
        rwa [List.length_set] at this
      rw [List.getElem?_set_self hl] at hs
      rw [← Option.some.inj hs]
      exact ⟨o, List.getElem?_set_self (by rw [h.env.len]; exact hl), trivial⟩
    · rw [List.getElem?_set_ne e] at hs
      obtain ⟨o, h1, h2⟩ := h.env.at_ m s hs
      exact ⟨o, by rw [List.getElem?_set_ne e]; exact h1, h2⟩
  · have na : ∀ (m : Nat) (s : Slot K), (Γ.set i .un)[m]? = some s → s.isMu = true → i ≠ m := fun m s hs hm z => by
      subst z
      have hl : i < Γ.length := by
        have := (List.getElem?_eq_some_iff.mp hs).1
        rwa [List.length_set] at this
      rw [List.getElem?_set_self hl] at hs
      rw [← Option.some.inj hs] at hm
      cases hm
    have ea := na a s ha sa
    have eb := na b t hb sb
    rw [List.getElem?_set_ne ea] at ha pa
    rw [List.getElem?_set_ne eb] at hb pb
    exact h.env.apart a b p s t ha hb sa sb pa pb
theorem At.wipe (h : At K k w0 Γ σ w j) : ∀ vs : List Nat, At K k w0 (wipeG Γ vs) (L2.wipe σ vs) w j
  | [] => h
  | v :: vs => (At.wipe h vs).setU v none
/-- no list of our own stands at an address that was new -/
theorem At.noMu (h : At K k w0 Γ σ w j) {p : Addr} (hn : w.H p = none) : ∀ (m : Nat) (s : Slot K), Γ[m]? = some s → s.isMu = true → σ[m]? ≠ some (some (.ref p)) := fun m s hs hm z => by
  obtain ⟨o, h1, h2⟩ := h.env.at_ m s hs
  cases s with
  | mu A xs =>
    obtain ⟨q, vs, e1, e2, _⟩ := h2
    rw [e1] at h1
    rw [h1] at z
    have e3 := Option.some.inj (Option.some.inj z)
    injection e3 with e4
    rw [e4, hn] at e2
    cases e2
  | _ => cases hm
/-- a list that is not in a slot changed -/
theorem At.hid (h : At K k w0 Γ σ w j) {p : Addr} {vs vs' : List V} (hp : w.H p = some (.lst vs)) (hs : w.S p = none) (hj : k.jp ≠ some p) (h0 : w0.H p = none) (hn : ∀ (m : Nat) (s : Slot K), Γ[m]? = some s → s.isMu = true → σ[m]? ≠ some (some (.ref p))) :
    At K k w0 Γ σ ⟨w.S, upd w.H p (.lst vs'), w.j⟩ j := by
  refine ⟨⟨sub_mut h.good.sub hs, fun q hq => ⟨?_, (h.good.jar q hq).2⟩, fun P hP => ?_, fun q hq => ⟨tabS_but (h.good.lams q hq).1 fun b o hb hn => by
      show upd w.H p (.lst vs') b = _
      rw [upd_ne (fun z => hn vs (by rw [z, hp] at hb; exact (Option.some.inj hb).symm))]
      exact hb, (h.good.lams q hq).2⟩⟩, h.jar, ⟨fun a o ha hn2 hj2 => ?_, h.le.sub, fun a ha hn2 => h.le.new a ha hn2, fun a ha z => ?_, sub_mut h.good.sub hs⟩, h.env.len, fun m s hs2 => ?_, h.env.apart⟩
  · have nq : q ≠ p := fun z => hj (by rw [← z]; exact hq)
    show upd w.H p (.lst vs') q = _
    rw [upd_ne nq]
    exact (h.good.jar q hq).1
  · obtain ⟨⟨ps, e, t⟩, hSP⟩ := h.good.tabs P hP
    refine ⟨⟨ps, ?_, t⟩, hSP⟩
    have nP : P ≠ p := fun z => by
      rw [z, hp] at e
      cases e
    show upd w.H p (.lst vs') P = _
    rw [upd_ne nP]
    exact e
  · show upd w.H p (.lst vs') a = _
    rw [upd_ne (ne_of_none ha h0)]
    exact h.le.keep a o ha hn2 hj2
  · have z2 : upd w.H p (.lst vs') a = none := z
    by_cases e : a = p
    · rw [e, upd_same] at z2
      cases z2
    · rw [upd_ne e] at z2
      exact h.le.there a ha z2
  · obtain ⟨o, k1, k2⟩ := h.env.at_ m s hs2
    refine ⟨o, k1, ?_⟩
    cases s with
    | un => trivial
    | im B x => exact k2
    | bo B ys => exact k2
    | ja => exact k2
    | mu B ys =>
      obtain ⟨q, us, f1, f2, f3, f4, f5, f6⟩ := k2
      have nq : q ≠ p := fun z => by
        rw [z] at f1
        rw [f1] at k1
        exact hn m _ hs2 rfl k1
      exact ⟨q, us, f1, by show upd w.H p (.lst vs') q = _; rw [upd_ne nq]; exact f2, f3, f4, f5, f6⟩
theorem Le.hid (e : Le k w w') {p : Addr} {vs : List V} (hn : w.H p = none) (hs : w'.S p = none) : Le k w ⟨w'.S, upd w'.H p (.lst vs), w'.j⟩ :=
  ⟨fun a o ha h2 h3 => by
    show upd w'.H p (.lst vs) a = _
    rw [upd_ne (ne_of_none ha hn)]
    exact e.keep a o ha h2 h3, e.sub, e.new, fun a ha z => by
    have z2 : upd w'.H p (.lst vs) a = none := z
    by_cases q : a = p
    · rw [q, upd_same] at z2
      cases z2
    · rw [upd_ne q] at z2
      exact e.there a ha z2, sub_mut e.sh hs⟩
theorem wipe_set {σ : L2.St} {i : Nat} {o : Option V} {vs : List Nat} (h : i ∈ vs) : L2.wipe (σ.set i o) vs = L2.wipe σ vs := by
  induction vs with
  | nil => cases h
  | cons v vs ih =>
    show (L2.wipe (σ.set i o) vs).set v none = (L2.wipe σ vs).set v none
    by_cases hv : i ∈ vs
    · rw [ih hv]
    · have e : i = v := by
        rcases List.mem_cons.mp h with z | z
        · exact z
        · exact absurd z hv
      subst e
      apply List.ext_getElem?
      intro m
      by_cases hm : i = m
      · subst hm
        by_cases hl : i < σ.length
        · rw [List.getElem?_set_self (by rw [L2.wipe_length, List.length_set]; exact hl), List.getElem?_set_self (by rw [L2.wipe_length]; exact hl)]
        · rw [List.getElem?_eq_none (by rw [List.length_set, L2.wipe_length, List.length_set]; omega), List.getElem?_eq_none (by rw [List.length_set, L2.wipe_length]; omega)]
      · rw [List.getElem?_set_ne hm, List.getElem?_set_ne hm]
        by_cases h2 : m ∈ vs
        · have f : ∀ (τ : L2.St) (us : List Nat), m ∈ us → (L2.wipe τ us)[m]? = if m < τ.length then some none else none := by
            intro τ us hu
            induction us with
            | nil => cases hu
            | cons u us ih2 =>
              show ((L2.wipe τ us).set u none)[m]? = _
              by_cases hum : u = m
              · subst hum
                by_cases hl : u < τ.length
                · rw [List.getElem?_set_self (by rw [L2.wipe_length]; exact hl), if_pos hl]
                · rw [List.getElem?_eq_none (by rw [List.length_set, L2.wipe_length]; omega), if_neg hl]
              · rw [List.getElem?_set_ne hum]
                exact ih2 (by
                  rcases List.mem_cons.mp hu with z | z
                  · exact absurd z.symm hum
                  · exact z)
          rw [f _ _ h2, f _ _ h2, List.length_set]
        · rw [L2.wipe_out h2, L2.wipe_out h2, List.getElem?_set_ne hm]
theorem wipe_wipe {σ : L2.St} {vs : List Nat} : L2.wipe (L2.wipe σ vs) vs = L2.wipe σ vs := by
  have f : ∀ us : List Nat, (∀ u ∈ us, u ∈ vs) → L2.wipe (L2.wipe σ us) vs = L2.wipe σ vs := by
    intro us
    induction us with
    | nil => intro _; rfl
    | cons u us ih =>
      intro h
      show L2.wipe ((L2.wipe σ us).set u none) vs = _
      rw [wipe_set (h u List.mem_cons_self), ih fun z hz => h z (List.mem_cons_of_mem _ hz)]
  exact f vs fun _ h => h
end

/-! ### what is walked, and to what it is given -/
/-- iter gives, to a target tg, the xs one behind another, whatever is laid (fo: whatever is done to lists of our own) -/
def Src (fo : Bool) (X : Cx) (k : Kx) (w0 : Wd) (Γ : List (Slot X.K)) (j : Int × Int) (tg iter : Expr) {α : Type} (A : RT X.K α) (xs : List α) (j' : Int × Int) : Prop :=
  ∃ wi, PI X tg iter wi ∧ ∀ σ w, At X.K k w0 Γ σ w j → ∀ R : It → Hp → Prop,
    (∀ J w1 (G : Hp → Prop) (Y : Nat → Hp → V → Hp → Prop), At X.K k w0 Γ σ w1 j' → Le k w w1 → Walk J xs.length G Y → (∀ w', Sub w1.S w'.S → Good k w' → (if fo = true then Le k w0 w' else Le k w1 w') → G w'.H) →
      (∀ i w' x H', i < xs.length → Sub w1.S w'.S → Good k w' → Y i w'.H x H' → ∃ w2, H' = w2.H ∧ Le k w' w2 ∧ Good k w2 ∧ w2.j = w'.j ∧ ∃ a, xs[i]? = some a ∧ A.r w2.S x a) → R J w1.H) → wi σ w.H R
/-- data bound to a target -/
def Tgt (X : Cx) (tg : Expr) {α : Type} (A : RT X.K α) (bind : α → List (Slot X.K) → List (Slot X.K)) : Prop :=
  ∃ g, PG X tg g ∧ ∀ (k : Kx) (w0 : Wd) (Γ : List (Slot X.K)) (j : Int × Int) σ w v x, At X.K k w0 Γ σ w j → A.r w.S v x → ∀ Q : L2.St → Hp → Prop, (∀ σ', At X.K k w0 (bind x Γ) σ' w j → Q σ' w.H) → g v σ w.H Q
/-- .. in a comprehension's block, to its own slots vs -/
def TgtC (X : Cx) (scope : Scope) (vs : List Nat) (tg : Expr) {α : Type} (A : RT X.K α) (bind : α → List (Slot X.K) → List (Slot X.K)) : Prop :=
  ∃ g, (∀ (s : Shared) (H : Hp) (C : Addr) (cl : List (Str × Addr)) (fp : List Addr), PG (X.blk s H scope (compEnvC scope cl C X.env) fp) tg g) ∧
    ∀ (k : Kx) (w0 : Wd) (Γ : List (Slot X.K)) (j : Int × Int) σ w v x, At X.K k w0 Γ σ w j → A.r w.S v x → ∀ Q : L2.St → Hp → Prop, (∀ σ', At X.K k w0 (bind x Γ) σ' w j → L2.wipe σ' vs = L2.wipe σ vs → Q σ' w.H) → g v σ w.H Q

section
variable {X : Cx} {k : Kx} {w0 : Wd} {Γ : List (Slot X.K)} {j j1 j2 j3 : Int × Int} {e a b c tg iter : Expr} {es : List Expr} {α β γ : Type} {A : RT X.K α} {B : RT X.K β} {C : RT X.K γ} {x y : α} {z : β} {t : γ} {xs ys : List α} {pos p2 p3 p4 : Pos} {fo : Bool}

theorem tg_name (i : Nat) {n : Str} (hN : X.N.Nodup) (hi : X.N[i]? = some n) (hx : Loc X.env.scope n) (hf : X.fn n = true ∨ X.env.scope.names.lookup n = some .local := by first | exact .inl rfl | exact .inr rfl) : Tgt X (.Name n pos) A (fun x Γ => Γ.set i (.im A x)) :=
  ⟨gName i, pg_name hN hi hx hf, fun k w0 Γ j σ w v x h hr Q q => q _ (h.set i hr)⟩
theorem tg_pair (i m : Nat) {n n' : Str} {o : Nat} (hc : X.calm = true) (hN : X.N.Nodup) (hi : X.N[i]? = some n) (hm : X.N[m]? = some n') (hx : Loc X.env.scope n) (hx' : Loc X.env.scope n') (hf : X.fn n = true ∨ X.env.scope.names.lookup n = some .local := by first | exact .inl rfl | exact .inr rfl)
    (hf' : X.fn n' = true ∨ X.env.scope.names.lookup n' = some .local := by first | exact .inl rfl | exact .inr rfl) : Tgt X (.Tuple [.Name n p2, .Name n' p3] o pos) (rPair A B) (fun x Γ => (Γ.set i (.im A x.1)).set m (.im B x.2)) :=
  ⟨_, pg_tup hc (pgs_cons (pg_name hN hi hx hf) (pgs_cons (pg_name hN hm hx' hf') pgs_nil)), fun k w0 Γ j σ w v x h hr Q q => by
    obtain ⟨p, u, z, h1, h2, h3, h4⟩ := hr
    exact ⟨p, [u, z], h1, h.good.sub.t h2, rfl, u, [z], rfl, z, [], rfl, rfl, q _ ((h.set i h3).set m h4)⟩⟩
theorem tg_tri (i m l : Nat) {n n' n2 : Str} {o : Nat} (hc : X.calm = true) (hN : X.N.Nodup) (hi : X.N[i]? = some n) (hm : X.N[m]? = some n') (hl : X.N[l]? = some n2) (hx : Loc X.env.scope n) (hx' : Loc X.env.scope n') (hx2 : Loc X.env.scope n2) (hf : X.fn n = true ∨ X.env.scope.names.lookup n = some .local := by first | exact .inl rfl | exact .inr rfl)
    (hf' : X.fn n' = true ∨ X.env.scope.names.lookup n' = some .local := by first | exact .inl rfl | exact .inr rfl) (hf2 : X.fn n2 = true ∨ X.env.scope.names.lookup n2 = some .local := by first | exact .inl rfl | exact .inr rfl) :
    Tgt X (.Tuple [.Name n p2, .Name n' p3, .Name n2 p4] o pos) (rTri A B C) (fun x Γ => ((Γ.set i (.im A x.1)).set m (.im B x.2.1)).set l (.im C x.2.2)) :=
  ⟨_, pg_tup hc (pgs_cons (pg_name hN hi hx hf) (pgs_cons (pg_name hN hm hx' hf') (pgs_cons (pg_name hN hl hx2 hf2) pgs_nil))), fun k w0 Γ j σ w v x h hr Q q => by
    obtain ⟨p, u, z, z2, h1, h2, h3, h4, h5⟩ := hr
    exact ⟨p, [u, z, z2], h1, h.good.sub.t h2, rfl, u, [z, z2], rfl, z, [z2], rfl, z2, [], rfl, rfl, q _ (((h.set i h3).set m h4).set l h5)⟩⟩
variable {scope : Scope} {vs : List Nat}
theorem tc_name (i : Nat) {n : Str} (hN : X.N.Nodup) (hi : X.N[i]? = some n) (hx : (relS scope X.env.scope).names.lookup n = some .local) (hv : i ∈ vs := by exact List.mem_cons_self) : TgtC X scope vs (.Name n pos) A (fun x Γ => Γ.set i (.im A x)) :=
  ⟨gName i, fun s H C cl fp => pg_name hN hi (.inl hx) (.inr hx), fun k w0 Γ j σ w v x h hr Q q => q _ (h.set i hr) (wipe_set hv)⟩
theorem tc_pair (i m : Nat) {n n' : Str} {o : Nat} (hc : X.calm = true) (hN : X.N.Nodup) (hi : X.N[i]? = some n) (hm : X.N[m]? = some n') (hx : (relS scope X.env.scope).names.lookup n = some .local) (hx' : (relS scope X.env.scope).names.lookup n' = some .local) (hv : i ∈ vs := by exact List.mem_cons_self) (hv' : m ∈ vs := by exact List.mem_cons_of_mem _ List.mem_cons_self) :
    TgtC X scope vs (.Tuple [.Name n p2, .Name n' p3] o pos) (rPair A B) (fun x Γ => (Γ.set i (.im A x.1)).set m (.im B x.2)) :=
  ⟨gTup X.K 2 (gCons (gName i) (gCons (gName m) gNil)), fun s H C cl fp => pg_tup (X := X.blk s H scope (compEnvC scope cl C X.env) fp) (n := 2) hc (pgs_cons (pg_name hN hi (.inl hx) (.inr hx)) (pgs_cons (pg_name hN hm (.inl hx') (.inr hx')) pgs_nil)), fun k w0 Γ j σ w v x h hr Q q => by
    obtain ⟨p, u, z, h1, h2, h3, h4⟩ := hr
    exact ⟨p, [u, z], h1, h.good.sub.t h2, rfl, u, [z], rfl, z, [], rfl, rfl, q _ ((h.set i h3).set m h4) (by rw [wipe_set hv', wipe_set hv])⟩⟩
theorem tc_tri (i m l : Nat) {n n' n2 : Str} {o : Nat} (hc : X.calm = true) (hN : X.N.Nodup) (hi : X.N[i]? = some n) (hm : X.N[m]? = some n') (hl : X.N[l]? = some n2) (hx : (relS scope X.env.scope).names.lookup n = some .local) (hx' : (relS scope X.env.scope).names.lookup n' = some .local) (hx2 : (relS scope X.env.scope).names.lookup n2 = some .local)
    (hv : i ∈ vs := by exact List.mem_cons_self) (hv' : m ∈ vs := by exact List.mem_cons_of_mem _ List.mem_cons_self) (hv2 : l ∈ vs := by exact List.mem_cons_of_mem _ (List.mem_cons_of_mem _ List.mem_cons_self)) :
    TgtC X scope vs (.Tuple [.Name n p2, .Name n' p3, .Name n2 p4] o pos) (rTri A B C) (fun x Γ => ((Γ.set i (.im A x.1)).set m (.im B x.2.1)).set l (.im C x.2.2)) :=
  ⟨gTup X.K 3 (gCons (gName i) (gCons (gName m) (gCons (gName l) gNil))), fun s H C cl fp => pg_tup (X := X.blk s H scope (compEnvC scope cl C X.env) fp) (n := 3) hc (pgs_cons (pg_name hN hi (.inl hx) (.inr hx)) (pgs_cons (pg_name hN hm (.inl hx') (.inr hx')) (pgs_cons (pg_name hN hl (.inl hx2) (.inr hx2)) pgs_nil))), fun k w0 Γ j σ w v x h hr Q q => by
    obtain ⟨p, u, z, z2, h1, h2, h3, h4, h5⟩ := hr
    exact ⟨p, [u, z, z2], h1, h.good.sub.t h2, rfl, u, [z, z2], rfl, z, [z2], rfl, z2, [], rfl, rfl, q _ (((h.set i h3).set m h4).set l h5) (by rw [wipe_set hv2, wipe_set hv', wipe_set hv])⟩⟩

/-! ### sources -/
theorem yat_rows {S1 : Hp} {us : List V} (hr : Rows A S1 us xs) : ∀ i w' x H', i < xs.length → Sub S1 w'.S → Good k w' → YAt us i w'.H x H' → ∃ w2 : Wd, H' = w2.H ∧ Le k w' w2 ∧ Good k w2 ∧ w2.j = w'.j ∧ ∃ a, xs[i]? = some a ∧ A.r w2.S x a :=
  fun i w' x H' hi sb g' y => by
    obtain ⟨a, h1, h2⟩ := hr.getV y.2
    exact ⟨w', y.1, Le.refl g', g', rfl, a, h1, A.up sb h2⟩
/-- in comprehensions: a list read -/
theorem i_lst (h : EvB X k w0 Γ j e A xs j1) : Src false X k w0 Γ j tg e A xs j1 := ⟨_, pi_list pe_self, fun σ w a R q => h σ w a _ fun p us w1 a1 e1 hs hr => ⟨p, rfl, ⟨us, hs w1 (Le.refl a1.good)⟩,
  q (Itl X.K p) w1 (fun H => SqL X.K H p us) (YAt us) a1 e1 (by rw [← hr.len]; exact walk_list) (fun w' sb g' l' => hs w' l') (yat_rows hr)⟩⟩
/-- in for: a list that stays -/
theorem f_lst (h : EvS X k w0 Γ j e A xs j1) : Src fo X k w0 Γ j tg e A xs j1 := ⟨_, pi_list pe_self, fun σ w a R q => h σ w a _ fun p us w1 a1 e1 hs hr => ⟨p, rfl, ⟨us, hs.b a1.le w1 (Le.refl a1.good)⟩,
  q (Itl X.K p) w1 (fun H => SqL X.K H p us) (YAt us) a1 e1 (by rw [← hr.len]; exact walk_list) (fun w' sb g' l' => by
    cases fo with
    | true =>
      rcases hs with hs | hs
      · exact g'.sub.l (sb.l hs)
      · exact hs w' l'
    | false => exact hs.b a1.le w' l') (yat_rows hr)⟩⟩
theorem f_tup (h : EvD X k w0 Γ j e (rTup A) xs j1) : Src fo X k w0 Γ j tg e A xs j1 := ⟨_, pi_tup pe_self, fun σ w a R q => h σ w a _ fun v w1 a1 e1 ⟨p, us, hv, hs, hr⟩ => ⟨p, hv, ⟨us, a1.good.sub.t hs⟩,
  q (Itt X.K p) w1 (fun H => SqT X.K H p us) (YAt us) a1 e1 (by rw [← hr.len]; exact walk_tup) (fun w' sb g' l' => g'.sub.t (sb.t hs)) (yat_rows hr)⟩⟩
/-- lo, lo + c, .. -/
def stepsI (lo c : Int) (n : Nat) : List Int := (List.range n).map fun i => lo + (i : Nat) * c
theorem stepsI_len {lo c : Int} {n : Nat} : (stepsI lo c n).length = n := by simp [stepsI]
theorem stepsI_get {lo c : Int} {n i : Nat} (h : i < n) : (stepsI lo c n)[i]? = some (lo + (i : Nat) * c) := by simp [stepsI, h]
/-- lo .. hi - 1 -/
def rangeI (lo hi : Int) : List Int := (List.range (hi - lo).toNat).map fun i => lo + (i : Nat)
theorem rangeI_len {lo hi : Int} : (rangeI lo hi).length = (hi - lo).toNat := by simp [rangeI]
theorem rangeI_get {lo hi : Int} {i : Nat} (h : i < (hi - lo).toNat) : (rangeI lo hi)[i]? = some (lo + (i : Nat)) := by simp [rangeI, h]
theorem yfn_int {f : Nat → Int} {l : List Int} (hl : ∀ i, i < l.length → l[i]? = some (f i)) {S1 : Hp} : ∀ i (w' : Wd) x H', i < l.length → Sub S1 w'.S → Good k w' → YFn (fun i => V.int (f i)) i w'.H x H' → ∃ w2 : Wd, H' = w2.H ∧ Le k w' w2 ∧ Good k w2 ∧ w2.j = w'.j ∧ ∃ a, l[i]? = some a ∧ (rInt (K := X.K)).r w2.S x a :=
  fun i w' x H' hi sb g' y => ⟨w', y.1, Le.refl g', g', rfl, _, hl i hi, y.2⟩
def SmallI (i : Int) : Prop := -(2 ^ 62) ≤ i ∧ i < 2 ^ 62
theorem small_of {i : Int} (h : -1000000 ≤ i) (h2 : i ≤ 1000000) : SmallI i := ⟨by omega, by omega⟩
theorem f_rng1 {m : Int} (hm0 : SmallI m) (h : EvD X k w0 Γ j a rInt m j1) (hg : Gl X "range" := by rfl) (hm : X.mg "range" = none := by rfl) (hs : starEach [a] X.env = (false, eval a X.env) :: starEach [] X.env := by rfl) : Src fo X k w0 Γ j tg (.Call (.Name "range" p2) [a] [] pos) rInt (rangeI 0 m) j1 :=
  ⟨_, pi_range1 hg hm (pa_cons pe_self pa_nil hs) (by rw [hs] <;> rfl), fun σ w at0 R q => h σ w at0 _ fun v w1 a1 e1 r1 => ⟨m, by
    have e2 : v = .int m := r1
    rw [e2] <;> rfl, hm0.1, hm0.2, q (Itr 0 m.toNat) w1 (fun _ => True) _ a1 e1 (by
      rw [rangeI_len]
      have e3 : (m - 0).toNat = m.toNat := by simp
      rw [e3]
      exact walk_range) (fun _ _ _ _ => trivial) (yfn_int (f := fun i => 0 + (i : Nat)) fun i hi => rangeI_get (by rwa [rangeI_len] at hi))⟩⟩
theorem f_rng2 {l m : Int} (hl0 : SmallI l) (hm0 : SmallI m) (h1 : EvD X k w0 Γ j a rInt l j1) (h2 : EvD X k w0 Γ j1 b rInt m j2) (hg : Gl X "range" := by rfl) (hm : X.mg "range" = none := by rfl) (hs : starEach [a, b] X.env = (false, eval a X.env) :: starEach [b] X.env := by rfl) (hs2 : starEach [b] X.env = (false, eval b X.env) :: starEach [] X.env := by rfl) :
    Src fo X k w0 Γ j tg (.Call (.Name "range" p2) [a, b] [] pos) rInt (rangeI l m) j2 :=
  ⟨_, pi_range2 hg hm (pa_cons pe_self (pa_cons pe_self pa_nil hs2) hs) (by rw [hs, hs2] <;> rfl) (by rw [hs2] <;> rfl), fun σ w at0 R q => h1 σ w at0 _ fun v w1 a1 e1 r1 => h2 σ w1 a1 _ fun v2 w2 a2 e2 r2 => ⟨l, m, by
    have f1 : v = .int l := r1
    have f2 : v2 = .int m := r2
    rw [f1, f2] <;> rfl, ⟨hl0.1, hl0.2, hm0.1, hm0.2⟩, q (Itr l (m - l).toNat) w2 (fun _ => True) _ a2 (e1.trans e2) (by rw [rangeI_len]; exact walk_range) (fun _ _ _ _ => trivial) (yfn_int (f := fun i => l + (i : Nat)) fun i hi => rangeI_get (by rwa [rangeI_len] at hi))⟩⟩
theorem f_rng3 {l m s : Int} {n : Nat} (hr : RgC l m s n) (h1 : EvD X k w0 Γ j a rInt l j1) (h2 : EvD X k w0 Γ j1 b rInt m j2) (h3 : EvD X k w0 Γ j2 c rInt s j3) (hg : Gl X "range" := by rfl) (hm : X.mg "range" = none := by rfl)
    (hs : starEach [a, b, c] X.env = (false, eval a X.env) :: starEach [b, c] X.env := by rfl) (hs2 : starEach [b, c] X.env = (false, eval b X.env) :: starEach [c] X.env := by rfl) (hs3 : starEach [c] X.env = (false, eval c X.env) :: starEach [] X.env := by rfl) (hpl : (backTo pos (starEach [b, c] X.env)).any (·.1) = false := by rfl) :
    Src fo X k w0 Γ j tg (.Call (.Name "range" p2) [a, b, c] [] pos) rInt (stepsI l s n) j3 :=
  ⟨_, pi_range3 hg hm (pa_cons pe_self (pa_cons pe_self (pa_cons pe_self pa_nil hs3) hs2) hs) hs hpl, fun σ w at0 R q => h1 σ w at0 _ fun v w1 a1 e1 r1 => h2 σ w1 a1 _ fun v2 w2 a2 e2 r2 => h3 σ w2 a2 _ fun v3 w3 a3 e3 r3 => ⟨l, m, s, n, by
    have f1 : v = .int l := r1
    have f2 : v2 = .int m := r2
    have f3 : v3 = .int s := r3
    rw [f1, f2, f3] <;> rfl, hr, q (Itc l s n) w3 (fun _ => True) _ a3 ((e1.trans e2).trans e3) (by rw [stepsI_len]; exact walk_rangeC) (fun _ _ _ _ => trivial) (yfn_int (f := fun i => l + (i : Nat) * s) fun i hi => stepsI_get (by rwa [stepsI_len] at hi))⟩⟩

/-! ### comprehensions -/
/-- a comprehension's block -/
def BlkX (X : Cx) (scope : Scope) (X' : Cx) : Prop := ∃ (s : Shared) (H : Hp) (C : Addr) (cl : List (Str × Addr)) (fp : List Addr), X' = X.blk s H scope (compEnvC scope cl C X.env) fp
/-- what is worth in each such block -/
def BE (X : Cx) (scope : Scope) (e : Expr) : TE := fun σ H Q => ∀ (s : Shared) (H0 : Hp) (C : Addr) (cl : List (Str × Addr)) (fp : List Addr), WE (X.blk s H0 scope (compEnvC scope cl C X.env) fp) e σ H Q
def BT (X : Cx) (scope : Scope) : List Expr → TT
  | [] => tYes
  | e :: _ => fun σ H Q => ∀ (s : Shared) (H0 : Hp) (C : Addr) (cl : List (Str × Addr)) (fp : List Addr), WT (X.blk s H0 scope (compEnvC scope cl C X.env) fp) e σ H Q
theorem be_pe (s : Shared) (H0 : Hp) (C : Addr) (cl : List (Str × Addr)) (fp : List Addr) : PE (X.blk s H0 scope (compEnvC scope cl C X.env) fp) e (BE X scope e) := ⟨fun pins s' σ H Q I h => h s H0 C cl fp pins s' I⟩
theorem bt_pts0 (s : Shared) (H0 : Hp) (C : Addr) (cl : List (Str × Addr)) (fp : List Addr) : PTs (X.blk s H0 scope (compEnvC scope cl C X.env) fp) [] (BT X scope []) := pts_nil
theorem bt_pts1 (s : Shared) (H0 : Hp) (C : Addr) (cl : List (Str × Addr)) (fp : List Addr) : PTs (X.blk s H0 scope (compEnvC scope cl C X.env) fp) [e] (BT X scope [e]) := pts_one ⟨fun pins s' σ H Q I h => h s H0 C cl fp pins s' I⟩
/-- the tests of a comprehension -/
def EvTs (X : Cx) (scope : Scope) (k : Kx) (w0 : Wd) (Γ : List (Slot X.K)) (j : Int × Int) : List Expr → Bool → (Int × Int) → Prop
  | [], b, j' => b = true ∧ j' = j
  | [e], b, j' => ∀ (s : Shared) (H : Hp) (C : Addr) (cl : List (Str × Addr)) (fp : List Addr), EvT (X.blk s H scope (compEnvC scope cl C X.env) fp) k w0 Γ j e b j'
  | _, _, _ => False
/-- a comprehension's list, whatever it is given to -/
def LcD (X : Cx) (k : Kx) (w0 : Wd) (Γ : List (Slot X.K)) (j : Int × Int) (elt tg iter : Expr) (ifs : List Expr) (scope : Scope) {β : Type} (B : RT X.K β) (zs : List β) (j2 : Int × Int) : Prop :=
  ∃ (own : List (Str × Nat)) (wi : TI) (g : TG) (tt : TT) (te : TE), PI X tg iter wi ∧ BlkOk X.N X.env.scope scope own ∧
    (∀ (s : Shared) (H : Hp) (C : Addr) (cl : List (Str × Addr)) (fp : List Addr), PG (X.blk s H scope (compEnvC scope cl C X.env) fp) tg g) ∧
    (∀ (s : Shared) (H : Hp) (C : Addr) (cl : List (Str × Addr)) (fp : List Addr), PTs (X.blk s H scope (compEnvC scope cl C X.env) fp) ifs tt) ∧
    (∀ (s : Shared) (H : Hp) (C : Addr) (cl : List (Str × Addr)) (fp : List Addr), PE (X.blk s H scope (compEnvC scope cl C X.env) fp) elt te) ∧
    ∀ σ w, At X.K k w0 Γ σ w j → ∀ Q : VK, (∀ p vs w', At X.K k w0 Γ σ w' j2 → Le k w w' → w'.H p = some (.lst vs) → Rows B w'.S vs zs → w'.S p = none → w.H p = none → Q (.ref p) w'.H) → tLc wi g tt te (own.map (·.2)) σ w.H Q
theorem LcD.m {elt : Expr} {ifs : List Expr} {zs : List β} (h : LcD X k w0 Γ j elt tg iter ifs scope B zs j2) (hc : X.calm = true) (hN : X.N.Nodup) (hs : ∀ x, foldedSetIterable iter X.env x = pure x := by intro _; rfl) :
    EvM X k w0 Γ j (.ListComp elt [⟨tg, iter, ifs, 0⟩] scope pos) B zs j2 := by
  obtain ⟨own, wi, g, tt, te, hwi, ok, hg, ht, he, hw⟩ := h
  exact fun σ w a Q q => WE.of (pe_lc hc hN hwi ok hg ht he hs) (hw σ w a Q q)
theorem lc_d {elt : Expr} {ifs : List Expr} {own : List (Str × Nat)} {bind : α → List (Slot X.K) → List (Slot X.K)} {zs : List β} (ok : BlkOk X.N X.env.scope scope own) (hsrc : Src false X k w0 Γ j tg iter A xs j1) (htg : TgtC X scope (own.map (·.2)) tg A bind) (hz : xs.length ≤ 100000)
    (js : Nat → Int × Int) (acc : Nat → List β) (jt : Nat → Int × Int) (tb : Nat → Bool) (h0 : js 0 = j1) (ha0 : acc 0 = []) (hn : js xs.length = j2) (han : acc xs.length = zs)
    (ht : ∀ i x, xs[i]? = some x → EvTs X scope k w0 (bind x (wipeG Γ (own.map (·.2)))) (js i) ifs (tb i) (jt i))
    (hf : ∀ i x, xs[i]? = some x → tb i = false → acc (i + 1) = acc i ∧ js (i + 1) = jt i)
    (he : ∀ i x, xs[i]? = some x → tb i = true → ∃ y, acc (i + 1) = acc i ++ [y] ∧ ∀ (s : Shared) (H : Hp) (C : Addr) (cl : List (Str × Addr)) (fp : List Addr), EvD (X.blk s H scope (compEnvC scope cl C X.env) fp) k w0 (bind x (wipeG Γ (own.map (·.2)))) (jt i) elt B y (js (i + 1)))
    (hlen : ifs.length ≤ 1) :
    LcD X k w0 Γ j elt tg iter ifs scope B zs j2 := by
  obtain ⟨wi, hwi, src⟩ := hsrc
  obtain ⟨g, hg, htgt⟩ := htg
  have hpts : ∀ (s : Shared) (H : Hp) (C : Addr) (cl : List (Str × Addr)) (fp : List Addr), PTs (X.blk s H scope (compEnvC scope cl C X.env) fp) ifs (BT X scope ifs) := by
    match ifs, hlen with
    | [], _ => exact bt_pts0
    | [e], _ => exact bt_pts1
  refine ⟨own, wi, g, _, _, hwi, ok, hg, hpts, be_pe, fun σ w at0 Q q => ?_⟩
  refine src σ w at0 _ fun J w1 G Y a1 e1 wk hG hY D hD => ?_
  have hDS := a1.good.non hD
  have hDj := a1.good.njp hD
  have hD0 := a1.le.fresh hD
  obtain ⟨g2, l2⟩ := a1.good.newH (o := .lst []) hD
  have aw := a1.wipe (own.map (·.2))
  have nm := aw.noMu hD
  refine lc_it wk (Qd := fun H => Q (.ref D) H) (fun i H => ∃ w2 us, w2.H = H ∧ At X.K k w0 (wipeG Γ (own.map (·.2))) (L2.wipe σ (own.map (·.2))) w2 (js i) ∧ Le k w1 w2 ∧ w2.H D = some (.lst us) ∧ Rows B w2.S us (acc i) ∧ w2.S D = none ∧ (acc i).length ≤ i) ?_ ?_ ?_ ?_
  · exact ⟨⟨w1.S, upd w1.H D (.lst []), w1.j⟩, [], rfl, aw.up l2 g2 (by rw [h0]; exact a1.jar), l2, upd_same, by rw [ha0]; exact trivial, hDS, by rw [ha0]; exact Nat.le_refl _⟩
  · rintro i H hi ⟨w2, us, rfl, a2, e2, hus, rus, sD, la⟩
    exact hG w2 e2.sub a2.good e2
  · rintro i v H H' hi ⟨w2, us, rfl, a2, e2, hus, rus, sD, la⟩ hy
    obtain ⟨w3, rfl, e3, g3, j3, x, hx, rx⟩ := hY i w2 v H' hi e2.sub a2.good hy
    have a3 := a2.up e3 g3 (j3.trans a2.jar)
    have step : ∀ {w5 : Wd} {j5 : Int × Int} {us' : List V} {acc' : List β}, Le k w3 w5 → Good k w5 → w5.j = j5 → j5 = js (i + 1) → us' = us' → Rows B w5.S us' acc' → acc' = acc (i + 1) → acc'.length ≤ i + 1 → ∀ (H6 : Hp), H6 = upd w5.H D (.lst us') → ∃ w2 us, w2.H = H6 ∧ At X.K k w0 (wipeG Γ (own.map (·.2))) (L2.wipe σ (own.map (·.2))) w2 (js (i + 1)) ∧ Le k w1 w2 ∧ w2.H D = some (.lst us) ∧ Rows B w2.S us (acc (i + 1)) ∧ w2.S D = none ∧ (acc (i + 1)).length ≤ i + 1 := by
      intro w5 j5 us' acc' e5 g5 hj5 hj6 _ r5 ea la5 H6 eH
      have a5 := a3.up e5 g5 (hj5.trans hj6)
      have hk : w5.H D = some (.lst us) := e5.keep D _ (e3.keep D _ hus (fun _ z => nomatch z) hDj) (fun _ z => nomatch z) hDj
      have hS5 : w5.S D = none := e5.new D (e3.new D sD (by rw [hus]; exact fun z => nomatch z)) (by rw [e3.keep D _ hus (fun _ z => nomatch z) hDj]; exact fun z => nomatch z)
      have a6 := a5.hid (vs' := us') hk hS5 hDj hD0 nm
      exact ⟨⟨w5.S, upd w5.H D (.lst us'), w5.j⟩, us', eH.symm, a6, (e2.trans (e3.trans e5)).hid hD hS5, upd_same, by rw [← ea]; exact r5, hS5, by rw [← ea]; exact la5⟩
    have hkeep : ∀ {w5 : Wd}, Le k w3 w5 → w5.H D = some (.lst us) := fun e5 => e5.keep D _ (e3.keep D _ hus (fun _ z => nomatch z) hDj) (fun _ z => nomatch z) hDj
    refine htgt k w0 _ (js i) _ w3 v x a3 rx _ fun σ' a4 hw4 => ⟨hw4.trans wipe_wipe, ?_⟩
    have ht' := ht i x hx
    have fin : ∀ w5, At X.K k w0 (bind x (wipeG Γ (own.map (·.2)))) σ' w5 (jt i) → Le k w3 w5 → (if tb i = true then BE X scope elt σ' w5.H fun y H4 => ∃ ac, H4 D = some (.lst ac) ∧ ac.length < sizeLine ∧ ∃ w2 us, w2.H = upd H4 D (.lst (ac ++ [y])) ∧ At X.K k w0 (wipeG Γ (own.map (·.2))) (L2.wipe σ (own.map (·.2))) w2 (js (i + 1)) ∧ Le k w1 w2 ∧ w2.H D = some (.lst us) ∧ Rows B w2.S us (acc (i + 1)) ∧ w2.S D = none ∧ (acc (i + 1)).length ≤ i + 1
        else ∃ w2 us, w2.H = w5.H ∧ At X.K k w0 (wipeG Γ (own.map (·.2))) (L2.wipe σ (own.map (·.2))) w2 (js (i + 1)) ∧ Le k w1 w2 ∧ w2.H D = some (.lst us) ∧ Rows B w2.S us (acc (i + 1)) ∧ w2.S D = none ∧ (acc (i + 1)).length ≤ i + 1) := by
      intro w5 a5 e5
      cases hb : tb i with
      | true =>
        rw [if_pos rfl]
        obtain ⟨y, hacc, hev⟩ := he i x hx hb
        intro s H0 C cl fp
        refine hev s H0 C cl fp σ' w5 a5 _ fun v6 w6 a6 e6 r6 => ?_
        have e56 := e5.trans e6
        have rr : Rows B w6.S us (acc i) := rus.up (e3.sub.trans e56.sub)
        refine ⟨us, hkeep e56, ?_, ?_⟩
        · have hl := rus.len
          have hsz : us.length + 1 ≤ 100000 := by omega
          have := Evl.sz_of (n := us.length + 1) hsz
          omega
        · exact step (us' := us ++ [v6]) (acc' := acc i ++ [y]) e56 a6.good a6.jar rfl rfl (rr.append (.one r6)) hacc.symm (by rw [List.length_append, List.length_singleton]; omega) _ rfl
      | false =>
        rw [if_neg (by decide)]
        obtain ⟨f1, f2⟩ := hf i x hx hb
        have a5' := a3.up e5 a5.good (a5.jar.trans f2.symm)
        exact ⟨w5, us, rfl, a5', (e2.trans e3).trans e5, hkeep e5, by rw [f1]; exact rus.up (e3.sub.trans e5.sub), e5.new D (e3.new D sD (by rw [hus]; exact fun z => nomatch z)) (by rw [e3.keep D _ hus (fun _ z => nomatch z) hDj]; exact fun z => nomatch z), by rw [f1]; omega⟩
    match ifs, hlen, ht' with
    | [], _, ht' =>
      obtain ⟨hb, hj⟩ := ht'
      have := fin w3 (by rw [hj]; exact a4) (Le.refl g3)
      rw [hb] at this
      exact this
    | [e], _, ht' =>
      intro s H0 C cl fp
      exact ht' s H0 C cl fp σ' w3 a4 _ fun w5 a5 e5 => fin w5 a5 e5
  · rintro H ⟨w2, us, rfl, a2, e2, hus, rus, sD, la⟩
    have e12 := e1.trans e2
    refine q D us w2 ?_ e12 hus (by rw [← han]; exact rus) sD (e1.fresh hD)
    rw [hn] at a2
    exact at0.up e12 a2.good a2.jar
end
end Fm
set_option maxHeartbeats 2000000
/-! Fm5: statements. -/
namespace Fm
open PySem PySem.Spec PyProof.Rows L2

/-! ### what is given to a name -/
def NewS (K : PySem.W.Frag) (k : Kx) (w0 w : Wd) : Slot K → V → Prop
  | .un, _ => True
  | .im A x, v => A.r w.S v x
  | .mu A xs, v => ∃ p vs, v = .ref p ∧ w.H p = some (.lst vs) ∧ Rows A w.S vs xs ∧ w.S p = none ∧ k.jp ≠ some p ∧ w0.H p = none
  | .bo _ _, _ => False
  | .ja, _ => False
def EvX (X : Cx) (k : Kx) (w0 : Wd) (Γ : List (Slot X.K)) (j : Int × Int) (e : Expr) (s : Slot X.K) (j' : Int × Int) : Prop :=
  ∀ σ w, At X.K k w0 Γ σ w j → ∀ Q : VK, (∀ v w', At X.K k w0 Γ σ w' j' → Le k w w' → NewS X.K k w0 w' s v → (s.isMu = true → ∀ p, v = .ref p → w.H p = none) → Q v w'.H) → WE X e σ w.H Q
section
variable {K : PySem.W.Frag} {k : Kx} {w0 w w' : Wd} {Γ : List (Slot K)} {σ : L2.St} {j j' : Int × Int} {s : Slot K} {v : V}
theorem NewS.up (h : NewS K k w0 w s v) (e : Le k w w') : NewS K k w0 w' s v := by
  cases s with
  | un => trivial
  | im A x => exact A.up e.sub h
  | mu A xs =>
    obtain ⟨p, vs, h1, h2, h3, h4, h5, h6⟩ := h
    exact ⟨p, vs, h1, e.keep p _ h2 (fun _ z => nomatch z) h5, h3.up e.sub, e.new p h4 (by rw [h2]; exact fun z => nomatch z), h5, h6⟩
  | bo _ _ => exact h
  | ja => exact h
/-- an address with no list of our own in the slots -/
def Free (Γ : List (Slot K)) (σ : L2.St) (s : Slot K) (v : V) : Prop := s.isMu = true → ∀ p, v = .ref p → ∀ (m : Nat) (t : Slot K), Γ[m]? = some t → t.isMu = true → σ[m]? ≠ some (some (.ref p))
theorem At.free (h : At K k w0 Γ σ w j) (hn : s.isMu = true → ∀ p, v = .ref p → w.H p = none) : Free Γ σ s v := fun hm p hp => h.noMu (hn hm p hp)
theorem At.setX (h : At K k w0 Γ σ w j) (i : Nat) (hv : NewS K k w0 w s v) (hf : Free Γ σ s v) : At K k w0 (Γ.set i s) (σ.set i (some v)) w j := by
  cases s with
  | un => exact h.setU i (some v)
  | im A x => exact h.set i hv
  | mu A xs =>
    obtain ⟨p, vs, rfl, h2, h3, h4, h5, h6⟩ := hv
    exact h.setM i h2 h3 h4 h5 h6 (hf rfl p rfl)
  | bo _ _ => exact hv.elim
  | ja => exact hv.elim
/-- .. and still none behind another setting -/
theorem Free.set {t : Slot K} {u : V} (h : Free Γ σ s v) (i : Nat) (hne : s.isMu = true → t.isMu = true → ∀ p, v = .ref p → u ≠ .ref p) : Free (Γ.set i t) (σ.set i (some u)) s v := by
  intro hm p hp m t' ht' htm z
  by_cases e : i = m
  · subst e
    have hl : i < Γ.length := by
      have := (List.getElem?_eq_some_iff.mp ht').1
      rwa [List.length_set] at this
    rw [List.getElem?_set_self hl] at ht'
    have et := Option.some.inj ht'
    by_cases hs : i < σ.length
    · rw [List.getElem?_set_self hs] at z
      exact hne hm (by rw [et]; exact htm) p hp (Option.some.inj (Option.some.inj z))
    · rw [List.getElem?_eq_none (by rw [List.length_set]; omega)] at z
      cases z
  · rw [List.getElem?_set_ne e] at ht' z
    exact h hm p hp m t' ht' htm z
end

/-! ### statements -/
structure Po (K : PySem.W.Frag) (α : Type) : Type 1 where
  nx : List (Slot K) → Int × Int → Prop
  rt : α → Int × Int → Prop
  bk : List (Slot K) → Int × Int → Prop
  ct : List (Slot K) → Int × Int → Prop
abbrev RtT (K : PySem.W.Frag) (α : Type) := Wd → Wd → V → α → Prop
def rtD {K : PySem.W.Frag} {α : Type} (A : RT K α) : RtT K α := fun _ w v x => A.r w.S v x
def rtM {K : PySem.W.Frag} {α : Type} (A : RT K α) : RtT K (List α) := fun w0 w v xs => ∃ p vs, v = .ref p ∧ w.H p = some (.lst vs) ∧ Rows A w.S vs xs ∧ w.S p = none ∧ w0.H p = none
structure Lands (K : PySem.W.Frag) (k : Kx) (w0 : Wd) (S : Hp) {α : Type} (R : RtT K α) (P : Po K α) (D : Ends) : Prop where
  nx : ∀ Γ σ w j, At K k w0 Γ σ w j → Sub S w.S → P.nx Γ j → D.nx σ w.H
  rt : ∀ v w x, Good k w → Le k w0 w → R w0 w v x → P.rt x w.j → D.rt v w.H
  bk : ∀ Γ σ w j, At K k w0 Γ σ w j → Sub S w.S → P.bk Γ j → D.bk σ w.H
  ct : ∀ Γ σ w j, At K k w0 Γ σ w j → Sub S w.S → P.ct Γ j → D.ct σ w.H
def HB (X : Cx) (k : Kx) (w0 : Wd) {α : Type} (R : RtT X.K α) (Γ : List (Slot X.K)) (j : Int × Int) (ss : List Stmt) (P : Po X.K α) : Prop :=
  ∀ σ w, At X.K k w0 Γ σ w j → ∀ D, Lands X.K k w0 w.S R P D → WB X ss D σ w.H
/-- the built-in names are not the module's own -/
def bltNames : List Str := ["len", "range", "tuple", "list", "sorted", "max", "min", "sum", "int", "isinstance", "repr", "any", "all", "enumerate", "dict", "zip", "bool", "str"]
/-- what each rule asks of the context -/
structure CxOk (X : Cx) : Prop where
  calm : X.calm = true
  nd : X.N.Nodup
  own : PassesOwn (model X.prog X.w) X.A X.env X.xe
  blt : ∀ n ∈ bltNames, X.mg n = none
  hu : X.A.units + 65 < cLine
  gd : X.A.guards = some []
theorem CxOk.blk {X : Cx} (ok : CxOk X) (s : Shared) (H : Hp) (scope : Scope) (C : Addr) (cl : List (Str × Addr)) (fp : List Addr) : CxOk (X.blk s H scope (compEnvC scope cl C X.env) fp) := ⟨ok.calm, ok.nd, PassesOwn.never, ok.blt, ok.hu, ok.gd⟩
section
variable {X : Cx} {k : Kx} {w0 : Wd} {Γ : List (Slot X.K)} {j j1 j2 j3 : Int × Int} {e a b c tg iter : Expr} {es : List Expr} {α β γ δ : Type} {A : RT X.K α} {B : RT X.K β} {C : RT X.K γ} {x y : α} {z : β} {t : γ} {xs ys : List α} {pos p2 p3 p4 p5 p6 : Pos} {s s1 s2 s3 : Slot X.K}
  {R : RtT X.K δ} {P P' : Po X.K δ} {rest body ss : List Stmt} {st : Stmt}
theorem x_d (h : EvD X k w0 Γ j e A x j1) : EvX X k w0 Γ j e (.im A x) j1 := fun σ w a Q q => h σ w a Q fun v w1 a1 e1 r => q v w1 a1 e1 r fun z => nomatch z
theorem x_m (h : EvM X k w0 Γ j e A xs j1) : EvX X k w0 Γ j e (.mu A xs) j1 := fun σ w a Q q => h σ w a Q fun p vs w1 a1 e1 hp hr hs hn => q (.ref p) w1 a1 e1 ⟨p, vs, rfl, hp, hr, hs, a.good.njp hn, a.le.fresh hn⟩ fun _ p' e => by
  injection e with e
  rw [← e]
  exact hn
theorem Lands.up {K : PySem.W.Frag} {w0 : Wd} {S S' : Hp} {R : RtT K δ} {P : Po K δ} {D : Ends} (h : Lands K k w0 S R P D) (e : Sub S S') : Lands K k w0 S' R P D :=
  ⟨fun Γ σ w j a s => h.nx Γ σ w j a (e.trans s), h.rt, fun Γ σ w j a s => h.bk Γ σ w j a (e.trans s), fun Γ σ w j a s => h.ct Γ σ w j a (e.trans s)⟩
theorem HB.imp (h : HB X k w0 R Γ j ss P) (hn : ∀ Γ j, P.nx Γ j → P'.nx Γ j) (hr : ∀ x j, P.rt x j → P'.rt x j) (hb : ∀ Γ j, P.bk Γ j → P'.bk Γ j) (hc : ∀ Γ j, P.ct Γ j → P'.ct Γ j) : HB X k w0 R Γ j ss P' := fun σ w a D l =>
  h σ w a D ⟨fun Γ σ w j a s q => l.nx Γ σ w j a s (hn Γ j q), fun v w x g e r q => l.rt v w x g e r (hr x _ q), fun Γ σ w j a s q => l.bk Γ σ w j a s (hb Γ j q), fun Γ σ w j a s q => l.ct Γ σ w j a s (hc Γ j q)⟩
/-- one statement's weakest reading -/
def W1 (X : Cx) (st : Stmt) : TS := fun D σ H => ∀ (pins : List (Addr × Obj)) (s : Shared), Inv X pins σ H s → wpAny (model X.prog X.w) X.A (exec st X.env) (SP X pins D) X.xe s
theorem ps_self : PS X st (W1 X st) := ⟨fun pins s _ _ _ I h => h pins s I⟩
theorem W1.of {t : TS} {D : Ends} {σ : L2.St} {H : Hp} (h : PS X st t) (q : t D σ H) : W1 X st D σ H := fun pins s I => h.run pins s σ H D I q
theorem WB.cons {D : Ends} {σ : L2.St} {H : Hp} (h : W1 X st { D with nx := fun σ' H' => WB X rest D σ' H' } σ H) : WB X (st :: rest) D σ H := WB.of (pss_cons ps_self pss_self) h
theorem hb_nil (h : P.nx Γ j) : HB X k w0 R Γ j [] P := fun σ w a D l => WB.of pss_nil (l.nx Γ σ w j a (Sub.refl _) h)
/-- what stands behind a statement -/
def Po.then (P : Po X.K δ) (k : Kx) (w0 : Wd) (R : RtT X.K δ) (rest : List Stmt) : Po X.K δ := { P with nx := fun Γ j => HB X k w0 R Γ j rest P }
def H1 (X : Cx) (k : Kx) (w0 : Wd) {α : Type} (R : RtT X.K α) (Γ : List (Slot X.K)) (j : Int × Int) (st : Stmt) (P : Po X.K α) : Prop :=
  ∀ σ w, At X.K k w0 Γ σ w j → ∀ D, Lands X.K k w0 w.S R P D → W1 X st D σ w.H
theorem hb_cons (h : H1 X k w0 R Γ j st (P.then k w0 R rest)) : HB X k w0 R Γ j (st :: rest) P := fun σ w a D l => WB.cons (h σ w a _ ⟨fun Γ' σ' w' j' a' s' q => q σ' w' a' D (l.up s'), l.rt, l.bk, l.ct⟩)
/-- with what is known between -/
theorem hb_seq {Γ1 : List (Slot X.K)} (h : H1 X k w0 R Γ j st { P with nx := fun Γ' j' => Γ' = Γ1 ∧ j' = j1 }) (h2 : HB X k w0 R Γ1 j1 rest P) : HB X k w0 R Γ j (st :: rest) P :=
  hb_cons fun σ w a D l => h σ w a D ⟨fun Γ' σ' w' j' a' s' q => l.nx Γ' σ' w' j' a' s' (by
    obtain ⟨rfl, rfl⟩ := q
    exact h2), l.rt, l.bk, l.ct⟩

/-! ### returns -/
theorem hb_ret (h : EvD X k w0 Γ j e A x j1) {P : Po X.K α} (hp : P.rt x j1) : HB X k w0 (rtD A) Γ j (.Return (some e) pos :: rest) P := hb_cons fun σ w a D l =>
  W1.of (ps_ret pe_self) (h σ w a D.rt fun v w1 a1 e1 r1 => l.rt v w1 x a1.good a1.le r1 (by rw [a1.jar]; exact hp))
theorem hb_retE (h : EvM X k w0 Γ j e A xs j1) {P : Po X.K (List α)} (hp : P.rt xs j1) : HB X k w0 (rtM A) Γ j (.Return (some e) pos :: rest) P := hb_cons fun σ w a D l =>
  W1.of (ps_ret pe_self) (h σ w a D.rt fun p vs w1 a1 e1 h1 h2 h3 h4 => l.rt (.ref p) w1 xs a1.good a1.le ⟨p, vs, rfl, h1, h2, h3, a.le.fresh h4⟩ (by rw [a1.jar]; exact hp))
theorem hb_retM (i : Nat) {n : Str} (hΓ : Γ[i]? = some (.mu A xs)) (hN : X.N[i]? = some n) (hv : Vis X.env.scope n) {P : Po X.K (List α)} (hp : P.rt xs j) (hd : (n == ("__debug__" : Str)) = false := by decide) (hcd : (n == ("__classdict__" : Str)) = false := by decide) :
    HB X k w0 (rtM A) Γ j (.Return (some (.Name n p2)) pos :: rest) P := hb_cons fun σ w a D l =>
  W1.of (ps_ret (pe_var hN hv hd hcd)) (by
    obtain ⟨o, h1, p, vs, h2, h3, h4, h5, h6, h7⟩ := a.env.at_ i _ hΓ
    rw [h2] at h1
    exact ⟨_, h1, l.rt (.ref p) w xs a.good a.le ⟨p, vs, rfl, h3, h4, h5, h7⟩ (by rw [a.jar]; exact hp)⟩)

/-! ### names given -/
theorem loc_of {n : Str} (h : X.env.scope.names.lookup n = some .local) : Loc X.env.scope n := .inl h
theorem hb_set (ok : CxOk X) (i : Nat) {n : Str} (hN : X.N[i]? = some n) (hl : Loc X.env.scope n) (h : EvX X k w0 Γ j e s j1) (hr : HB X k w0 R (Γ.set i s) j1 rest P)
    (hs : swapsWith e (some (.Name n p2)) pos.line X.env = pure false := by rfl) (hf : X.fn n = true ∨ X.env.scope.names.lookup n = some .local := by first | exact .inl rfl | exact .inr rfl) : HB X k w0 R Γ j (.Assign [.Name n p2] e pos :: rest) P := hb_cons fun σ w a D l =>
  W1.of (ps_set ok.nd hN hl pe_self hs hf) (h σ w a _ fun v w1 a1 e1 ns hm => l.nx _ _ w1 j1 (a1.setX i ns (a.free hm)) e1.sub hr)
/-- name = [..] on one line -/
theorem hb_par (ok : CxOk X) (i m : Nat) {n n' : Str} {k1 k2 : Nat} (hN : X.N[i]? = some n) (hM : X.N[m]? = some n') (hl : X.env.scope.names.lookup n = some .local) (hl' : X.env.scope.names.lookup n' = some .local) (him : i ≠ m)
    (ha : EvX X k w0 Γ j a s j1) (hb : EvX X k w0 Γ j1 b s1 j2) (hr : HB X k w0 R ((Γ.set i s).set m s1) j2 rest P)
    (hw : swappedStores [.Tuple [.Name n p2, .Name n' p3] k1 p4] (.Tuple [a, b] k2 p5) X.env = pure (some [n, n']) := by with_unfolding_all rfl)
    (h1 : starEach [a, b] X.env = (false, eval a X.env) :: starEach [b] X.env := by rfl) (h2 : starEach [b] X.env = (false, eval b X.env) :: starEach [] X.env := by rfl)
    (hs : swapsWithSole [.Tuple [.Name n p2, .Name n' p3] k1 p4] (.Tuple [a, b] k2 p5) pos.line X.env = pure false := by rfl) :
    HB X k w0 R Γ j (.Assign [.Tuple [.Name n p2, .Name n' p3] k1 p4] (.Tuple [a, b] k2 p5) pos :: rest) P := hb_cons fun σ w at0 D l =>
  W1.of (ps_par ok.calm ok.nd hN hM him hl hl' (pa_cons pe_self (pa_cons pe_self pa_nil h2) h1) hw hs) (ha σ w at0 _ fun u w1 a1 e1 ns hm => hb σ w1 a1 _ fun v w2 a2 e2 ns2 hm2 => ⟨u, v, rfl, l.nx _ _ w2 j2
    ((a2.setX i (ns.up e2) (at0.free hm)).setX m ns2 ((a1.free hm2).set i fun q1 q2 p hp z => by
      have n1 := hm2 q1 p hp
      cases s with
      | mu A xs =>
        obtain ⟨p', vs, f1, f2, _⟩ := ns
        rw [f1] at z
        injection z with z
        rw [z, n1] at f2
        cases f2
      | _ => cases q2)) (e1.trans e2).sub hr⟩)
theorem hb_par3 (ok : CxOk X) (i m o : Nat) {n n' n2 : Str} {k1 k2 : Nat} (hN : X.N[i]? = some n) (hM : X.N[m]? = some n') (hO : X.N[o]? = some n2) (hl : X.env.scope.names.lookup n = some .local) (hl' : X.env.scope.names.lookup n' = some .local) (hl2 : X.env.scope.names.lookup n2 = some .local) (him : i ≠ m) (hio : i ≠ o) (hmo : m ≠ o)
    (ha : EvX X k w0 Γ j a s j1) (hb : EvX X k w0 Γ j1 b s1 j2) (hc : EvX X k w0 Γ j2 c s2 j3) (hr : HB X k w0 R (((Γ.set i s).set m s1).set o s2) j3 rest P)
    (hw : swappedStores [.Tuple [.Name n p2, .Name n' p3, .Name n2 p6] k1 p4] (.Tuple [a, b, c] k2 p5) X.env = pure (some [n, n', n2]) := by with_unfolding_all rfl)
    (h1 : starEach [a, b, c] X.env = (false, eval a X.env) :: starEach [b, c] X.env := by rfl) (h2 : starEach [b, c] X.env = (false, eval b X.env) :: starEach [c] X.env := by rfl) (h3 : starEach [c] X.env = (false, eval c X.env) :: starEach [] X.env := by rfl)
    (hs : swapsWithSole [.Tuple [.Name n p2, .Name n' p3, .Name n2 p6] k1 p4] (.Tuple [a, b, c] k2 p5) pos.line X.env = pure false := by rfl) :
    HB X k w0 R Γ j (.Assign [.Tuple [.Name n p2, .Name n' p3, .Name n2 p6] k1 p4] (.Tuple [a, b, c] k2 p5) pos :: rest) P := hb_cons fun σ w at0 D l =>
  W1.of (ps_par3 ok.calm ok.nd hN hM hO him hio hmo hl hl' hl2 (pa_cons pe_self (pa_cons pe_self (pa_cons pe_self pa_nil h3) h2) h1) hw hs) (ha σ w at0 _ fun u w1 a1 e1 ns hm => hb σ w1 a1 _ fun v w2 a2 e2 ns2 hm2 => hc σ w2 a2 _ fun v3 w3 a3 e3 ns3 hm3 => ⟨u, v, v3, rfl, by
    have nm : ∀ {s t : Slot X.K} {u v : V} {w w' : Wd}, NewS X.K k w0 w s u → (∀ p, w.H p ≠ none → w'.H p ≠ none) → (t.isMu = true → ∀ p, v = .ref p → w'.H p = none) → (t.isMu = true → s.isMu = true → ∀ p, v = .ref p → u ≠ .ref p) := by
      intro s t u v w w' ns he hm q1 q2 p hp z
      have n1 := hm q1 p hp
      cases s with
      | mu A xs =>
        obtain ⟨p', vs, f1, f2, _⟩ := ns
        rw [f1] at z
        injection z with z
        rw [z] at f2
        exact he p (by rw [f2]; exact fun y => nomatch y) n1
      | _ => cases q2
    exact l.nx _ _ w3 j3 (((a3.setX i (ns.up (e2.trans e3)) (at0.free hm)).setX m (ns2.up e3) ((a1.free hm2).set i (nm ns (fun _ h => h) hm2))).setX o ns3 (((a2.free hm3).set i (nm ns e2.there hm3)).set m (nm ns2 (fun _ h => h) hm3))) ((e1.trans e2).trans e3).sub hr⟩)
/-- a target given the value -/
theorem hb_tgt {bind : α → List (Slot X.K) → List (Slot X.K)} (htg : Tgt X tg A bind) (h : EvD X k w0 Γ j e A x j1) (hr : HB X k w0 R (bind x Γ) j1 rest P) (hs : swapsWithSole [tg] e pos.line X.env = pure false := by rfl) (hw : swappedStores [tg] e X.env = pure none := by rfl)
    (h1 : (assignEach [tg] X.env).map (·.2) = [assign tg X.env] := by rfl) : HB X k w0 R Γ j (.Assign [tg] e pos :: rest) P := hb_cons fun σ w a D l => by
  obtain ⟨g, hg, htg⟩ := htg
  exact W1.of (ps_asg pe_self hg hs hw h1) (h σ w a _ fun v w1 a1 e1 r1 => htg k w0 Γ j1 σ w1 v x a1 r1 _ fun σ' a2 => l.nx _ _ w1 j1 a2 e1.sub hr)

/-! ### if -/
theorem hb_if {u : Bool} {sa sb : List Stmt} (hc : EvT X k w0 Γ j c u j1) (ha : u = true → HB X k w0 R Γ j1 sa (P.then k w0 R rest)) (hb : u = false → HB X k w0 R Γ j1 sb (P.then k w0 R rest)) : HB X k w0 R Γ j (.If c sa sb pos :: rest) P := hb_cons fun σ w a D l =>
  W1.of (ps_if pt_self pss_self pss_self) (hc σ w a _ fun w1 a1 e1 => by
    cases u with
    | true => exact ha rfl σ w1 a1 D (l.up e1.sub)
    | false => exact hb rfl σ w1 a1 D (l.up e1.sub))
/-- both ways end alike -/
theorem hb_if2 {u : Bool} {sa sb : List Stmt} {Γ1 : List (Slot X.K)} (hc : EvT X k w0 Γ j c u j1) (ha : u = true → HB X k w0 R Γ j1 sa { P with nx := fun Γ' j' => Γ' = Γ1 ∧ j' = j2 }) (hb : u = false → HB X k w0 R Γ j1 sb { P with nx := fun Γ' j' => Γ' = Γ1 ∧ j' = j2 })
    (h : HB X k w0 R Γ1 j2 rest P) : HB X k w0 R Γ j (.If c sa sb pos :: rest) P := by
  refine hb_if hc (fun hu => (ha hu).imp ?_ (fun _ _ q => q) (fun _ _ q => q) (fun _ _ q => q)) fun hu => (hb hu).imp ?_ (fun _ _ q => q) (fun _ _ q => q) (fun _ _ q => q)
  all_goals
    rintro _ _ ⟨rfl, rfl⟩
    exact h
/-- if c: .. that goes out of the block when c holds -/
theorem hb_ifO {u : Bool} {sa : List Stmt} (hc : EvT X k w0 Γ j c u j1) (ha : u = true → HB X k w0 R Γ j1 sa { P with nx := fun _ _ => False }) (h : u = false → HB X k w0 R Γ j1 rest P) : HB X k w0 R Γ j (.If c sa [] pos :: rest) P :=
  hb_if hc (fun hu => (ha hu).imp (fun _ _ q => q.elim) (fun _ _ q => q) (fun _ _ q => q) (fun _ _ q => q)) fun hu => hb_nil (h hu)

/-! ### loops -/
theorem hb_for (ok : CxOk X) {bind : α → List (Slot X.K) → List (Slot X.K)} (I : Nat → List (Slot X.K) → Int × Int → Prop) (hsrc : Src true X k w0 Γ j tg iter A xs j1) (htg : Tgt X tg A bind) (h0 : I 0 Γ j1)
    (hb : ∀ i x Γ' j', xs[i]? = some x → I i Γ' j' → HB X k w0 R (bind x Γ') j' body { nx := I (i + 1), rt := P.rt, bk := fun Γ2 j2 => HB X k w0 R Γ2 j2 rest P, ct := I (i + 1) })
    (he : ∀ Γ' j', I xs.length Γ' j' → HB X k w0 R Γ' j' rest P) (hs : ∀ x, foldedSetIterable iter X.env x = pure x := by intro _; rfl) : HB X k w0 R Γ j (.For tg iter body [] pos :: rest) P := hb_cons fun σ w a D l => by
  obtain ⟨wi, hwi, src⟩ := hsrc
  obtain ⟨g, hg, htg⟩ := htg
  refine W1.of (ps_for ok.own ok.calm hwi hg pss_self hs) ?_
  refine src σ w a _ fun J w1 G Y a1 e1 wk hG hY => ?_
  refine for_it wk (fun i σ H => ∃ w2 Γ' j', w2.H = H ∧ At X.K k w0 Γ' σ w2 j' ∧ Sub w1.S w2.S ∧ I i Γ' j') ⟨w1, Γ, j1, rfl, a1, Sub.refl _, h0⟩ ?_ ?_ ?_
  · rintro i σ' H hi ⟨w2, Γ', j', rfl, a2, s2, _⟩
    exact hG w2 s2 a2.good a2.le
  · rintro i v σ' H H' hi ⟨w2, Γ', j', rfl, a2, s2, hI⟩ hy
    obtain ⟨w3, rfl, e3, g3, j3, x, hx, rx⟩ := hY i w2 v H' hi s2 a2.good hy
    have a3 := a2.up e3 g3 (j3.trans a2.jar)
    refine htg k w0 Γ' j' σ' w3 v x a3 rx _ fun σ2 a4 => ?_
    exact hb i x Γ' j' hx hI σ2 w3 a4 _ ⟨fun Γ2 σ3 w4 j4 a5 s5 q => ⟨w4, Γ2, j4, rfl, a5, (s2.trans e3.sub).trans s5, q⟩, l.rt, fun Γ2 σ3 w4 j4 a5 s5 q => l.nx Γ2 σ3 w4 j4 a5 (((e1.sub.trans s2).trans e3.sub).trans s5) q, fun Γ2 σ3 w4 j4 a5 s5 q => ⟨w4, Γ2, j4, rfl, a5, (s2.trans e3.sub).trans s5, q⟩⟩
  · rintro σ' H ⟨w2, Γ', j', rfl, a2, s2, hI⟩
    exact l.nx Γ' σ' w2 j' a2 (e1.sub.trans s2) (he Γ' j' hI)
theorem hb_while (ok : CxOk X) (I : Nat → List (Slot X.K) → Int × Int → Prop) {m0 : Nat} (h0 : I m0 Γ j)
    (hb : ∀ m Γ' j', I m Γ' j' → ∃ u j2, EvT X k w0 Γ' j' c u j2 ∧ (u = true → HB X k w0 R Γ' j2 body { nx := fun Γ2 j3 => ∃ m', m' < m ∧ I m' Γ2 j3, rt := P.rt, bk := fun Γ2 j3 => HB X k w0 R Γ2 j3 rest P, ct := fun Γ2 j3 => ∃ m', m' < m ∧ I m' Γ2 j3 }) ∧ (u = false → HB X k w0 R Γ' j2 rest P)) :
    HB X k w0 R Γ j (.While c body [] pos :: rest) P := hb_cons fun σ w a D l => by
  refine W1.of (ps_while ok.own pt_self pss_self) ⟨fun m σ H => ∃ w2 Γ' j', w2.H = H ∧ At X.K k w0 Γ' σ w2 j' ∧ Sub w.S w2.S ∧ I m Γ' j', ⟨m0, w, Γ, j, rfl, a, Sub.refl _, h0⟩, ?_⟩
  rintro m σ' H ⟨w2, Γ', j', rfl, a2, s2, hI⟩
  obtain ⟨u, j2, hc, hy, hn⟩ := hb m Γ' j' hI
  refine hc σ' w2 a2 _ fun w3 a3 e3 => ?_
  cases u with
  | true =>
    rw [if_pos rfl]
    refine ⟨fun σ H => ∃ m', m' < m ∧ ∃ w2 Γ' j', w2.H = H ∧ At X.K k w0 Γ' σ w2 j' ∧ Sub w.S w2.S ∧ I m' Γ' j', fun _ _ h => h, ?_⟩
    exact hy rfl σ' w3 a3 _ ⟨fun Γ2 σ3 w4 j4 a5 s5 ⟨m', hm, q⟩ => ⟨m', hm, w4, Γ2, j4, rfl, a5, (s2.trans e3.sub).trans s5, q⟩, l.rt, fun Γ2 σ3 w4 j4 a5 s5 q => l.nx Γ2 σ3 w4 j4 a5 ((s2.trans e3.sub).trans s5) q, fun Γ2 σ3 w4 j4 a5 s5 ⟨m', hm, q⟩ => ⟨m', hm, w4, Γ2, j4, rfl, a5, (s2.trans e3.sub).trans s5, q⟩⟩
  | false =>
    rw [if_neg Bool.false_ne_true]
    exact l.nx Γ' σ' w3 j2 a3 (s2.trans e3.sub) (hn rfl)
theorem hb_brk (h : P.bk Γ j) : HB X k w0 R Γ j (.Break pos :: rest) P := hb_cons fun σ w a D l => W1.of ps_break (l.bk Γ σ w j a (Sub.refl _) h)
theorem hb_cont (h : P.ct Γ j) : HB X k w0 R Γ j (.Continue pos :: rest) P := hb_cons fun σ w a D l => W1.of ps_continue (l.ct Γ σ w j a (Sub.refl _) h)
theorem HB.weak {Γ2 : List (Slot X.K)} (h : HB X k w0 R Γ2 j ss P) (e : Wk Γ Γ2) : HB X k w0 R Γ j ss P := fun σ w a D l => h σ w (a.weak e) D l
/-- the end of a block, less being kept -/
theorem hb_end {Γ2 : List (Slot X.K)} (h : P.nx Γ2 j) (e : Wk Γ Γ2) : HB X k w0 R Γ j [] P := (hb_nil h).weak e
/-- a loop of known states -/
theorem hb_forD (ok : CxOk X) {bind : α → List (Slot X.K) → List (Slot X.K)} (G : Nat → List (Slot X.K)) (J : Nat → Int × Int) (hsrc : Src true X k w0 Γ j tg iter A xs j1) (htg : Tgt X tg A bind) (h0 : Γ = G 0) (hj0 : j1 = J 0)
    (hb : ∀ i x, xs[i]? = some x → HB X k w0 R (bind x (G i)) (J i) body { nx := fun Γ2 j2 => Γ2 = G (i + 1) ∧ j2 = J (i + 1), rt := P.rt, bk := fun Γ2 j2 => HB X k w0 R Γ2 j2 rest P, ct := fun Γ2 j2 => Γ2 = G (i + 1) ∧ j2 = J (i + 1) })
    (he : HB X k w0 R (G xs.length) (J xs.length) rest P) (hs : ∀ x, foldedSetIterable iter X.env x = pure x := by intro _; rfl) : HB X k w0 R Γ j (.For tg iter body [] pos :: rest) P := by
  refine hb_for ok (fun i Γ' j' => Γ' = G i ∧ j' = J i) hsrc htg ⟨h0, hj0⟩ ?_ ?_ hs
  · rintro i x Γ' j' hx ⟨rfl, rfl⟩
    exact hb i x hx
  · rintro Γ' j' ⟨rfl, rfl⟩
    exact he

/-! ### name = [..] on one line -/
theorem hb_setLc (ok : CxOk X) (i : Nat) {n : Str} {elt : Expr} {ifs : List Expr} {scope : Scope} {zs : List β} (hN : X.N[i]? = some n) (hl : X.env.scope.names.lookup n = some .local) (h : LcD X k w0 Γ j elt tg iter ifs scope B zs j1) (hr : HB X k w0 R (Γ.set i (.mu B zs)) j1 rest P)
    (hsw : swapsWith (.ListComp elt [⟨tg, iter, ifs, 0⟩] scope p3) (some (.Name n p2)) pos.line X.env = pure true := by rfl) (hs : ∀ x, foldedSetIterable iter X.env x = pure x := by intro _; rfl) :
    HB X k w0 R Γ j (.Assign [.Name n p2] (.ListComp elt [⟨tg, iter, ifs, 0⟩] scope p3) pos :: rest) P := hb_cons fun σ w a D l => by
  obtain ⟨own, wi, g, tt, te, hwi, bok, hg, ht, he, hw⟩ := h
  refine W1.of (ps_setLc ok.calm ok.nd hN hl hsw hwi bok hg ht he hs) ?_
  refine hw σ w a (fun x H1 => gName i x σ H1 D.nx) fun p vs w1 a1 e1 h1 h2 h3 h4 => ?_
  exact l.nx _ _ w1 j1 (a1.setM i h1 h2 h3 (a.good.njp h4) (a.le.fresh h4) (a.noMu h4)) e1.sub hr
end
end Fm
set_option maxHeartbeats 2000000
/-! Fm6: lists of our own changed; the jar; built-ins. -/
namespace Fm
open PySem PySem.Spec PyProof.Rows L2
section
variable {K : PySem.W.Frag} {k : Kx} {w0 w w' : Wd} {Γ : List (Slot K)} {σ : L2.St} {j j' : Int × Int} {α : Type} {A : RT K α} {xs : List α}
/-- the list in a slot of our own -/
theorem At.own (h : At K k w0 Γ σ w j) {i : Nat} (hi : Γ[i]? = some (.mu A xs)) : ∃ p vs, σ[i]? = some (some (.ref p)) ∧ w.H p = some (.lst vs) ∧ Rows A w.S vs xs := by
  obtain ⟨o, h1, p, vs, h2, h3, h4, h5, h6, h7⟩ := h.env.at_ i _ hi
  rw [h2] at h1
  exact ⟨p, vs, h1, h3, h4⟩
theorem At.ownAt (h : At K k w0 Γ σ w j) {i : Nat} (hi : Γ[i]? = some (.mu A xs)) {p : Addr} (hp : σ[i]? = some (some (.ref p))) : ∃ vs, w.H p = some (.lst vs) ∧ Rows A w.S vs xs := by
  obtain ⟨p', vs, h1, h2, h3⟩ := h.own hi
  rw [h1] at hp
  have e := Option.some.inj (Option.some.inj hp)
  injection e with e
  rw [← e]
  exact ⟨vs, h2, h3⟩
/-- the jar changed -/
theorem At.jset (h : At K k w0 Γ σ w j) {p : Addr} (hp : k.jp = some p) (n : Int × Int) : At K k w0 Γ σ ⟨w.S, upd w.H p (.lst [.int n.1, .int n.2]), n⟩ n := by
  have hj := h.good.jar p hp
  refine ⟨⟨sub_mut h.good.sub hj.2, fun q hq => ?_, fun P hP => ?_, fun q hq => ⟨tabS_but (h.good.lams q hq).1 fun b o hb hn => by
      show upd w.H p (.lst [.int n.1, .int n.2]) b = _
      rw [upd_ne (fun z => hn _ (by rw [z, hj.1] at hb; exact (Option.some.inj hb).symm))]
      exact hb, (h.good.lams q hq).2⟩⟩, rfl, ⟨fun a o ha hn hj2 => ?_, h.le.sub, fun a ha hn => h.le.new a ha hn, fun a ha z => ?_, sub_mut h.good.sub hj.2⟩, h.env.len, fun m s hs => ?_, h.env.apart⟩
  · rw [hp] at hq
    have e := Option.some.inj hq
    subst e
    exact ⟨upd_same, hj.2⟩
  · obtain ⟨⟨ps, e, t⟩, hSP⟩ := h.good.tabs P hP
    refine ⟨⟨ps, ?_, t⟩, hSP⟩
    have nP : P ≠ p := fun z => by
      rw [z, hj.1] at e
      cases e
    show upd w.H p _ P = _
    rw [upd_ne nP]
    exact e
  · have np : a ≠ p := fun z => hj2 (by rw [z]; exact hp)
    show upd w.H p _ a = _
    rw [upd_ne np]
    exact h.le.keep a o ha hn hj2
  · have z2 : upd w.H p (.lst [.int n.1, .int n.2]) a = none := z
    by_cases e : a = p
    · rw [e, upd_same] at z2
      cases z2
    · rw [upd_ne e] at z2
      exact h.le.there a ha z2
  · obtain ⟨o, k1, k2⟩ := h.env.at_ m s hs
    refine ⟨o, k1, ?_⟩
    cases s with
    | un => trivial
    | im B x => exact k2
    | bo B ys => exact k2
    | ja => exact k2
    | mu B ys =>
      obtain ⟨q, us, f1, f2, f3, f4, f5, f6⟩ := k2
      have nq : q ≠ p := fun z => f5 (by rw [z]; exact hp)
      exact ⟨q, us, f1, by show upd w.H p _ q = _; rw [upd_ne nq]; exact f2, f3, f4, f5, f6⟩
end
section
variable {X : Cx} {k : Kx} {w0 : Wd} {Γ : List (Slot X.K)} {j j1 j2 j3 : Int × Int} {e a b c tg iter : Expr} {es : List Expr} {α β γ δ : Type} {A : RT X.K α} {B : RT X.K β} {C : RT X.K γ} {x y : α} {z : β} {t : γ} {xs ys : List α} {pos p2 p3 p4 p5 p6 p7 p8 : Pos} {s s1 s2 s3 : Slot X.K}
  {R : RtT X.K δ} {P P' : Po X.K δ} {rest body ss : List Stmt} {st : Stmt} {n n' n2 : Str}
theorem ty_list {H : Hp} {p : Addr} {vs : List V} (h : SqL X.K H p vs) : tyV X.K "list" (.ref p) H := .inl ⟨rfl, _, h⟩
theorem lt_line {n : Nat} (h : n + 1 ≤ 100000) : n < sizeLine := by
  have := Evl.sz_of h
  omega
/-- x.append(e) -/
theorem hb_append (i : Nat) (hΓ : Γ[i]? = some (.mu A xs)) (hN : X.N[i]? = some n) (hv : Vis X.env.scope n) (h : EvD X k w0 Γ j e A x j1) (hz : xs.length + 1 ≤ 100000) (hr : HB X k w0 R (Γ.set i (.mu A (xs ++ [x]))) j1 rest P)
    (hd : (n == ("__debug__" : Str)) = false := by decide) (hcd : (n == ("__classdict__" : Str)) = false := by decide) (hs : starEach [e] X.env = (false, eval e X.env) :: starEach [] X.env := by rfl)
    (hbase : attributeBase (.Name n p2) "append" X.env (eval (.Name n p2) X.env) = eval (.Name n p2) X.env := by rfl)
    (hfew : ((backTo p4 (starEach [e] X.env)).all (fun x => !x.1) && (backToKw p4 (keywordEach [] X.env)).all (fun x => x.1.isSome)
      && decide (([e] : List Expr).length + ([] : List Keyword).length + (if ([] : List Keyword).isEmpty then 0 else 1) < 30)) = true := by rfl) (hline : (p3.endLine == p4.line) = true := by rfl) (hpl : (backTo p4 (starEach [] X.env)).any (·.1) = false := by rfl)
    (hsw : swapsWith (.Call (.Attribute (.Name n p2) "append" p3) [e] [] p4) none pos.line X.env = pure false := by rfl) : HB X k w0 R Γ j (.Expr (.Call (.Attribute (.Name n p2) "append" p3) [e] [] p4) pos :: rest) P := hb_cons fun σ w at0 D l =>
  W1.of (ps_expr (pe_bm PySem.F.plainAttrs_list PySem.F.slot_list_append PySem.F.type_list_append mt_append (pe_var hN hv hd hcd) (pa_cons pe_self pa_nil hs) hbase hfew hline hs hpl) hsw) (by
    obtain ⟨p, vs, h1, h2, h3⟩ := at0.own hΓ
    refine ⟨_, h1, ty_list (.inl (.inl h2)), h σ w at0 _ fun v w1 a1 e1 r1 => ?_⟩
    obtain ⟨us, f1, f2⟩ := a1.ownAt hΓ h1
    refine ⟨p, us, v, rfl, rfl, f1, lt_line (by rw [f2.len]; exact hz), ?_⟩
    exact l.nx _ _ ⟨w1.S, _, w1.j⟩ j1 (a1.chg hΓ h1 f1 (f2.append (.one r1))) e1.sub hr)
/-- x.insert(i, e) -/
theorem hb_insert (i : Nat) {m : Int} (hΓ : Γ[i]? = some (.mu A xs)) (hN : X.N[i]? = some n) (hv : Vis X.env.scope n) (hi : EvD X k w0 Γ j b rInt m j1) (h : EvD X k w0 Γ j1 e A x j2) (h0 : 0 ≤ m) (hm : m ≤ 100000) (hz : xs.length + 1 ≤ 100000) (hr : HB X k w0 R (Γ.set i (.mu A (xs.take m.toNat ++ [x] ++ xs.drop m.toNat))) j2 rest P)
    (hd : (n == ("__debug__" : Str)) = false := by decide) (hcd : (n == ("__classdict__" : Str)) = false := by decide) (hs0 : starEach [b, e] X.env = (false, eval b X.env) :: starEach [e] X.env := by rfl) (hs : starEach [e] X.env = (false, eval e X.env) :: starEach [] X.env := by rfl)
    (hbase : attributeBase (.Name n p2) "insert" X.env (eval (.Name n p2) X.env) = eval (.Name n p2) X.env := by rfl)
    (hfew : ((backTo p4 (starEach [b, e] X.env)).all (fun x => !x.1) && (backToKw p4 (keywordEach [] X.env)).all (fun x => x.1.isSome)
      && decide (([b, e] : List Expr).length + ([] : List Keyword).length + (if ([] : List Keyword).isEmpty then 0 else 1) < 30)) = true := by rfl) (hline : (p3.endLine == p4.line) = true := by rfl) (hpl : (backTo p4 (starEach [e] X.env)).any (·.1) = false := by rfl)
    (hsw : swapsWith (.Call (.Attribute (.Name n p2) "insert" p3) [b, e] [] p4) none pos.line X.env = pure false := by rfl) : HB X k w0 R Γ j (.Expr (.Call (.Attribute (.Name n p2) "insert" p3) [b, e] [] p4) pos :: rest) P := hb_cons fun σ w at0 D l =>
  W1.of (ps_expr (pe_bm PySem.F.plainAttrs_list PySem.F.slot_list_insert PySem.F.type_list_insert mt_insert (pe_var hN hv hd hcd) (pa_cons pe_self (pa_cons pe_self pa_nil hs) hs0) hbase hfew hline hs0 hpl) hsw) (by
    obtain ⟨p, vs, h1, h2, h3⟩ := at0.own hΓ
    refine ⟨_, h1, ty_list (.inl (.inl h2)), hi σ w at0 _ fun u w1 a1 e1 r1 => h σ w1 a1 _ fun v w2 a2 e2 r2 => ?_⟩
    obtain ⟨us, f1, f2⟩ := a2.ownAt hΓ h1
    refine ⟨p, us, m, v, rfl, by rw [show u = .int m from r1], f1, lt_line (by rw [f2.len]; exact hz), h0, by omega, ?_⟩
    exact l.nx _ _ ⟨w2.S, _, w2.j⟩ j2 (a2.chg hΓ h1 f1 (((f2.take _).append (.one r2)).append (f2.drop _))) (e1.trans e2).sub hr)
/-- x.extend([..]) -/
theorem hb_extend (i : Nat) (hΓ : Γ[i]? = some (.mu A xs)) (hN : X.N[i]? = some n) (hv : Vis X.env.scope n) (h : EvM X k w0 Γ j e A ys j1) (hz : xs.length + ys.length ≤ 100000) (hr : HB X k w0 R (Γ.set i (.mu A (xs ++ ys))) j1 rest P)
    (hd : (n == ("__debug__" : Str)) = false := by decide) (hcd : (n == ("__classdict__" : Str)) = false := by decide) (hs : starEach [e] X.env = (false, eval e X.env) :: starEach [] X.env := by rfl)
    (hbase : attributeBase (.Name n p2) "extend" X.env (eval (.Name n p2) X.env) = eval (.Name n p2) X.env := by rfl)
    (hfew : ((backTo p4 (starEach [e] X.env)).all (fun x => !x.1) && (backToKw p4 (keywordEach [] X.env)).all (fun x => x.1.isSome)
      && decide (([e] : List Expr).length + ([] : List Keyword).length + (if ([] : List Keyword).isEmpty then 0 else 1) < 30)) = true := by rfl) (hline : (p3.endLine == p4.line) = true := by rfl) (hpl : (backTo p4 (starEach [] X.env)).any (·.1) = false := by rfl)
    (hsw : swapsWith (.Call (.Attribute (.Name n p2) "extend" p3) [e] [] p4) none pos.line X.env = pure false := by rfl) : HB X k w0 R Γ j (.Expr (.Call (.Attribute (.Name n p2) "extend" p3) [e] [] p4) pos :: rest) P := hb_cons fun σ w at0 D l =>
  W1.of (ps_expr (pe_bm PySem.F.plainAttrs_list PySem.F.slot_list_extend PySem.F.type_list_extend mt_extend (pe_var hN hv hd hcd) (pa_cons pe_self pa_nil hs) hbase hfew hline hs hpl) hsw) (by
    obtain ⟨p, vs, h1, h2, h3⟩ := at0.own hΓ
    refine ⟨_, h1, ty_list (.inl (.inl h2)), h σ w at0 _ fun q zs w1 a1 e1 g1 g2 g3 g4 => ?_⟩
    obtain ⟨us, f1, f2⟩ := a1.ownAt hΓ h1
    refine ⟨p, q, us, zs, rfl, rfl, f1, g1, Evl.sz_of (by rw [f2.len, g2.len]; exact hz), ?_⟩
    exact l.nx _ _ ⟨w1.S, _, w1.j⟩ j1 (a1.chg hΓ h1 f1 (f2.append g2)) e1.sub hr)
/-- x[i] = e -/
theorem hb_setItem (i : Nat) {m : Int} (hΓ : Γ[i]? = some (.mu A xs)) (hN : X.N[i]? = some n) (hv : Vis X.env.scope n) (h : EvD X k w0 Γ j e A x j1) (hi : EvD X k w0 Γ j1 b rInt m j2) (h0 : 0 ≤ m) (hz : m < xs.length) (hr : HB X k w0 R (Γ.set i (.mu A (xs.set m.toNat x))) j2 rest P)
    (hd : (n == ("__debug__" : Str)) = false := by decide) (hcd : (n == ("__classdict__" : Str)) = false := by decide)
    (ha : ∀ v, assign (.Subscript (.Name n p2) b p3) X.env v = (do
      let ov ← holding [v] (eval (.Name n p2) X.env)
      let iv ← holding [v, ov] (eval b X.env)
      standAt p3
      holding [v, ov, iv] (setItem ov iv v)
      release [v, ov, iv] []) := by intro _; rfl)
    (hs : swapsWithSole [.Subscript (.Name n p2) b p3] e pos.line X.env = pure false := by rfl) (hw : swappedStores [.Subscript (.Name n p2) b p3] e X.env = pure none := by rfl)
    (hq : (assignEach [.Subscript (.Name n p2) b p3] X.env).map (·.2) = [assign (.Subscript (.Name n p2) b p3) X.env] := by rfl) : HB X k w0 R Γ j (.Assign [.Subscript (.Name n p2) b p3] e pos :: rest) P := hb_cons fun σ w at0 D l =>
  W1.of (ps_asg pe_self (pg_sub (pe_var hN hv hd hcd) pe_self set_list ha) hs hw hq) (h σ w at0 _ fun v w1 a1 e1 r1 => by
    obtain ⟨p, vs, h1, h2, h3⟩ := a1.own hΓ
    refine ⟨_, h1, hi σ w1 a1 _ fun u w2 a2 e2 r2 => ?_⟩
    obtain ⟨us, f1, f2⟩ := a2.ownAt hΓ h1
    have em : m = (m.toNat : Int) := (Int.toNat_of_nonneg h0).symm
    refine ⟨p, us, m, m.toNat, rfl, r2, f1, by rw [em]; exact Evl.ixN_nat (by rw [f2.len]; omega), ?_⟩
    exact l.nx _ _ ⟨w2.S, _, w2.j⟩ j2 (a2.chg hΓ h1 f1 (Rows.set (A.up e2.sub r1) _ f2)) (e1.trans e2).sub hr)
/-- target = x.pop() -/
theorem hb_popT {bind : α → List (Slot X.K) → List (Slot X.K)} (i : Nat) (htg : Tgt X tg A bind) (hΓ : Γ[i]? = some (.mu A (xs ++ [x]))) (hN : X.N[i]? = some n) (hv : Vis X.env.scope n) (hr : HB X k w0 R (bind x (Γ.set i (.mu A xs))) j rest P)
    (hd : (n == ("__debug__" : Str)) = false := by decide) (hcd : (n == ("__classdict__" : Str)) = false := by decide)
    (hbase : attributeBase (.Name n p2) "pop" X.env (eval (.Name n p2) X.env) = eval (.Name n p2) X.env := by rfl) (hline : (p3.endLine == p4.line) = true := by rfl)
    (hs : swapsWithSole [tg] (.Call (.Attribute (.Name n p2) "pop" p3) [] [] p4) pos.line X.env = pure false := by rfl) (hw : swappedStores [tg] (.Call (.Attribute (.Name n p2) "pop" p3) [] [] p4) X.env = pure none := by rfl)
    (hq : (assignEach [tg] X.env).map (·.2) = [assign tg X.env] := by rfl) : HB X k w0 R Γ j (.Assign [tg] (.Call (.Attribute (.Name n p2) "pop" p3) [] [] p4) pos :: rest) P := hb_cons fun σ w at0 D l => by
  obtain ⟨g, hg, htg⟩ := htg
  refine W1.of (ps_asg (pe_bm0 PySem.F.plainAttrs_list PySem.F.slot_list_pop PySem.F.type_list_pop mt_pop (pe_var hN hv hd hcd) hbase hline) hg hs hw hq) ?_
  obtain ⟨p, vs, h1, h2, h3⟩ := at0.own hΓ
  have hl := h3.len
  rw [List.length_append, List.length_singleton] at hl
  obtain ⟨u, hu, ru⟩ := h3.get (i := xs.length) (x := x) (by simp)
  refine ⟨_, h1, ty_list (.inl (.inl h2)), p, vs, u, rfl, rfl, h2, by rw [hl]; exact hu, ?_⟩
  have hdl := h3.dropLast
  rw [List.dropLast_concat] at hdl
  exact htg k w0 _ j σ ⟨w.S, _, w.j⟩ u x (at0.chg hΓ h1 h2 hdl) ru _ fun σ' a2 => l.nx _ _ ⟨w.S, _, w.j⟩ j a2 (Sub.refl _) hr
/-- x.append(y.pop(e)) -/
theorem hb_appendPop (i m : Nat) {q : Int} (him : i ≠ m) (hΓ : Γ[i]? = some (.mu A ys)) (hM : Γ[m]? = some (.mu A xs)) (hN : X.N[i]? = some n) (hv : Vis X.env.scope n) (hN' : X.N[m]? = some n') (hv' : Vis X.env.scope n') (h : EvD X k w0 Γ j e rInt q j1) (h0 : 0 ≤ q) (hq : xs[q.toNat]? = some x) (hzz : xs.length ≤ 100000) (hz : ys.length + 1 ≤ 100000)
    (hr : HB X k w0 R ((Γ.set m (.mu A (xs.eraseIdx q.toNat))).set i (.mu A (ys ++ [x]))) j1 rest P)
    (hd : (n == ("__debug__" : Str)) = false := by decide) (hcd : (n == ("__classdict__" : Str)) = false := by decide) (hd' : (n' == ("__debug__" : Str)) = false := by decide) (hcd' : (n' == ("__classdict__" : Str)) = false := by decide)
    (hs : starEach [e] X.env = (false, eval e X.env) :: starEach [] X.env := by rfl) (hs2 : starEach [.Call (.Attribute (.Name n' p5) "pop" p6) [e] [] p7] X.env = (false, eval (.Call (.Attribute (.Name n' p5) "pop" p6) [e] [] p7) X.env) :: starEach [] X.env := by rfl)
    (hbase : attributeBase (.Name n p2) "append" X.env (eval (.Name n p2) X.env) = eval (.Name n p2) X.env := by rfl) (hbase' : attributeBase (.Name n' p5) "pop" X.env (eval (.Name n' p5) X.env) = eval (.Name n' p5) X.env := by rfl)
    (hfew : ((backTo p4 (starEach [.Call (.Attribute (.Name n' p5) "pop" p6) [e] [] p7] X.env)).all (fun x => !x.1) && (backToKw p4 (keywordEach [] X.env)).all (fun x => x.1.isSome)
      && decide (([.Call (.Attribute (.Name n' p5) "pop" p6) [e] [] p7] : List Expr).length + ([] : List Keyword).length + (if ([] : List Keyword).isEmpty then 0 else 1) < 30)) = true := by rfl)
    (hfew' : ((backTo p7 (starEach [e] X.env)).all (fun x => !x.1) && (backToKw p7 (keywordEach [] X.env)).all (fun x => x.1.isSome)
      && decide (([e] : List Expr).length + ([] : List Keyword).length + (if ([] : List Keyword).isEmpty then 0 else 1) < 30)) = true := by rfl)
    (hline : (p3.endLine == p4.line) = true := by rfl) (hline' : (p6.endLine == p7.line) = true := by rfl) (hpl : (backTo p4 (starEach [] X.env)).any (·.1) = false := by rfl) (hpl' : (backTo p7 (starEach [] X.env)).any (·.1) = false := by rfl)
    (hsw : swapsWith (.Call (.Attribute (.Name n p2) "append" p3) [.Call (.Attribute (.Name n' p5) "pop" p6) [e] [] p7] [] p4) none pos.line X.env = pure false := by rfl) :
    HB X k w0 R Γ j (.Expr (.Call (.Attribute (.Name n p2) "append" p3) [.Call (.Attribute (.Name n' p5) "pop" p6) [e] [] p7] [] p4) pos :: rest) P := hb_cons fun σ w at0 D l =>
  W1.of (ps_expr (pe_bm PySem.F.plainAttrs_list PySem.F.slot_list_append PySem.F.type_list_append mt_append (pe_var hN hv hd hcd) (pa_cons (pe_bm PySem.F.plainAttrs_list PySem.F.slot_list_pop PySem.F.type_list_pop mt_popAt (pe_var hN' hv' hd' hcd') (pa_cons pe_self pa_nil hs) hbase' hfew' hline' hs hpl') pa_nil hs2) hbase hfew hline hs2 hpl) hsw) (by
    obtain ⟨p, vs, h1, h2, h3⟩ := at0.own hΓ
    obtain ⟨p', vs', h1', h2', h3'⟩ := at0.own hM
    refine ⟨_, h1, ty_list (.inl (.inl h2)), _, h1', ty_list (.inl (.inl h2')), h σ w at0 _ fun v w1 a1 e1 r1 => ?_⟩
    obtain ⟨us, f1, f2⟩ := a1.ownAt hM h1'
    have em : q = (q.toNat : Int) := (Int.toNat_of_nonneg h0).symm
    obtain ⟨u, hu, ru⟩ := f2.get hq
    have hlt : q.toNat < us.length := (List.getElem?_eq_some_iff.mp hu).1
    have hul := f2.len
    refine ⟨p', us, q, q.toNat, u, rfl, by rw [show v = .int q from r1], f1, by omega, by omega, ?_, hu, ?_⟩
    · exact (ixN_seq (by rw [em]; exact Evl.ixN_nat hlt)).1
    have a2 := a1.chg hM h1' f1 (f2.erase q.toNat)
    have hΓ2 : (Γ.set m (.mu A (xs.eraseIdx q.toNat)))[i]? = some (.mu A ys) := by
      rw [List.getElem?_set_ne (Ne.symm him)]
      exact hΓ
    obtain ⟨us2, f3, f4⟩ := a2.ownAt hΓ2 h1
    refine ⟨p, us2, u, rfl, rfl, f3, lt_line (by rw [f4.len]; exact hz), ?_⟩
    exact l.nx _ _ ⟨w1.S, _, w1.j⟩ j1 (a2.chg hΓ2 h1 f3 (f4.append (.one ru))) e1.sub hr)

/-! ### the jar -/
theorem d_jar0 (i : Nat) {m : Nat} (hΓ : Γ[i]? = some .ja) (hN : X.N[i]? = some n) (hv : Vis X.env.scope n) (hd : (n == ("__debug__" : Str)) = false := by decide) (hcd : (n == ("__classdict__" : Str)) = false := by decide) : EvD X k w0 Γ j (.Subscript (.Name n p2) (.Constant (.int 0) m p3) pos) rInt j.1 j := fun σ w at0 Q q =>
  WE.of (pe_ix ix_list (pe_var hN hv hd hcd) pe_int (fun _ _ => rfl)) (by
    obtain ⟨o, h1, p, h2, h3⟩ := at0.env.at_ i _ hΓ
    rw [h3] at h1
    have hj := (at0.good.jar p h2).1
    rw [at0.jar] at hj
    exact ⟨_, h1, p, _, 0, .int j.1, rfl, rfl, .inl (.inl hj), rfl, q _ w at0 (Le.refl at0.good) rfl⟩)
theorem d_jar1 (i : Nat) {m : Nat} (hΓ : Γ[i]? = some .ja) (hN : X.N[i]? = some n) (hv : Vis X.env.scope n) (hd : (n == ("__debug__" : Str)) = false := by decide) (hcd : (n == ("__classdict__" : Str)) = false := by decide) : EvD X k w0 Γ j (.Subscript (.Name n p2) (.Constant (.int 1) m p3) pos) rInt j.2 j := fun σ w at0 Q q =>
  WE.of (pe_ix ix_list (pe_var hN hv hd hcd) pe_int (fun _ _ => rfl)) (by
    obtain ⟨o, h1, p, h2, h3⟩ := at0.env.at_ i _ hΓ
    rw [h3] at h1
    have hj := (at0.good.jar p h2).1
    rw [at0.jar] at hj
    exact ⟨_, h1, p, _, 1, .int j.2, rfl, rfl, .inl (.inl hj), rfl, q _ w at0 (Le.refl at0.good) rfl⟩)
theorem hb_jar0 (i : Nat) {m : Nat} {v : Int} (hΓ : Γ[i]? = some .ja) (hN : X.N[i]? = some n) (hv : Vis X.env.scope n) (h : EvD X k w0 Γ j e rInt v j1) (hr : HB X k w0 R Γ (v, j1.2) rest P) (hd : (n == ("__debug__" : Str)) = false := by decide) (hcd : (n == ("__classdict__" : Str)) = false := by decide)
    (ha : ∀ v, assign (.Subscript (.Name n p2) (.Constant (.int 0) m p4) p3) X.env v = (do
      let ov ← holding [v] (eval (.Name n p2) X.env)
      let iv ← holding [v, ov] (eval (.Constant (.int 0) m p4) X.env)
      standAt p3
      holding [v, ov, iv] (setItem ov iv v)
      release [v, ov, iv] []) := by intro _; rfl)
    (hs : swapsWithSole [.Subscript (.Name n p2) (.Constant (.int 0) m p4) p3] e pos.line X.env = pure false := by rfl) (hw : swappedStores [.Subscript (.Name n p2) (.Constant (.int 0) m p4) p3] e X.env = pure none := by rfl)
    (hq : (assignEach [.Subscript (.Name n p2) (.Constant (.int 0) m p4) p3] X.env).map (·.2) = [assign (.Subscript (.Name n p2) (.Constant (.int 0) m p4) p3) X.env] := by rfl) : HB X k w0 R Γ j (.Assign [.Subscript (.Name n p2) (.Constant (.int 0) m p4) p3] e pos :: rest) P := hb_cons fun σ w at0 D l =>
  W1.of (ps_asg pe_self (pg_sub (pe_var hN hv hd hcd) pe_int set_list ha) hs hw hq) (h σ w at0 _ fun u w1 a1 e1 r1 => by
    obtain ⟨o, h1, p, h2, h3⟩ := a1.env.at_ i _ hΓ
    rw [h3] at h1
    have hj := (a1.good.jar p h2).1
    rw [a1.jar] at hj
    refine ⟨_, h1, p, _, 0, 0, rfl, rfl, hj, rfl, ?_⟩
    rw [show u = .int v from r1]
    exact l.nx _ _ ⟨w1.S, _, (v, j1.2)⟩ _ (a1.jset h2 (v, j1.2)) e1.sub hr)
theorem hb_jar1 (i : Nat) {m : Nat} {v : Int} (hΓ : Γ[i]? = some .ja) (hN : X.N[i]? = some n) (hv : Vis X.env.scope n) (h : EvD X k w0 Γ j e rInt v j1) (hr : HB X k w0 R Γ (j1.1, v) rest P) (hd : (n == ("__debug__" : Str)) = false := by decide) (hcd : (n == ("__classdict__" : Str)) = false := by decide)
    (ha : ∀ v, assign (.Subscript (.Name n p2) (.Constant (.int 1) m p4) p3) X.env v = (do
      let ov ← holding [v] (eval (.Name n p2) X.env)
      let iv ← holding [v, ov] (eval (.Constant (.int 1) m p4) X.env)
      standAt p3
      holding [v, ov, iv] (setItem ov iv v)
      release [v, ov, iv] []) := by intro _; rfl)
    (hs : swapsWithSole [.Subscript (.Name n p2) (.Constant (.int 1) m p4) p3] e pos.line X.env = pure false := by rfl) (hw : swappedStores [.Subscript (.Name n p2) (.Constant (.int 1) m p4) p3] e X.env = pure none := by rfl)
    (hq : (assignEach [.Subscript (.Name n p2) (.Constant (.int 1) m p4) p3] X.env).map (·.2) = [assign (.Subscript (.Name n p2) (.Constant (.int 1) m p4) p3) X.env] := by rfl) : HB X k w0 R Γ j (.Assign [.Subscript (.Name n p2) (.Constant (.int 1) m p4) p3] e pos :: rest) P := hb_cons fun σ w at0 D l =>
  W1.of (ps_asg pe_self (pg_sub (pe_var hN hv hd hcd) pe_int set_list ha) hs hw hq) (h σ w at0 _ fun u w1 a1 e1 r1 => by
    obtain ⟨o, h1, p, h2, h3⟩ := a1.env.at_ i _ hΓ
    rw [h3] at h1
    have hj := (a1.good.jar p h2).1
    rw [a1.jar] at hj
    refine ⟨_, h1, p, _, 1, 1, rfl, rfl, hj, rfl, ?_⟩
    rw [show u = .int v from r1]
    exact l.nx _ _ ⟨w1.S, _, (j1.1, v)⟩ _ (a1.jset h2 (j1.1, v)) e1.sub hr)

/-! ### built-ins -/
theorem blt_len (ok : CxOk X) {n : Str} (h : n ∈ bltNames := by decide) : X.mg n = none := ok.blt n h
theorem d_lenB (ok : CxOk X) (h : EvB X k w0 Γ j a A xs j1) (hg : Gl X "len" := by rfl) (hs : starEach [a] X.env = (false, eval a X.env) :: starEach [] X.env := by rfl) (hpl : (backTo pos (starEach [] X.env)).any (·.1) = false := by rfl) : EvD X k w0 Γ j (.Call (.Name "len" p2) [a] [] pos) rInt (xs.length : Nat) j1 := fun σ w at0 Q q =>
  WE.of (pe_callB call_len_seq hg (blt_len ok) (by decide +kernel) (pa_cons pe_self pa_nil hs) (he := hs) (hpl := hpl)) (h σ w at0 _ fun p vs w1 a1 e1 h1 h2 => ⟨p, vs, rfl, .inl (h1 w1 (Le.refl a1.good)), by
    rw [h2.len]
    exact q _ w1 a1 e1 rfl⟩)
theorem d_lenT (ok : CxOk X) (h : EvD X k w0 Γ j a (rTup A) xs j1) (hg : Gl X "len" := by rfl) (hs : starEach [a] X.env = (false, eval a X.env) :: starEach [] X.env := by rfl) (hpl : (backTo pos (starEach [] X.env)).any (·.1) = false := by rfl) : EvD X k w0 Γ j (.Call (.Name "len" p2) [a] [] pos) rInt (xs.length : Nat) j1 := fun σ w at0 Q q =>
  WE.of (pe_callB call_len_seq hg (blt_len ok) (by decide +kernel) (pa_cons pe_self pa_nil hs) (he := hs) (hpl := hpl)) (h σ w at0 _ fun v w1 a1 e1 ⟨p, vs, h0, h1, h2⟩ => ⟨p, vs, by rw [h0], .inr (a1.good.sub.t h1), by
    rw [h2.len]
    exact q _ w1 a1 e1 rfl⟩)
/-- tuple(list) -/
theorem d_tupB (ok : CxOk X) (h : EvB X k w0 Γ j a A xs j1) (hg : Gl X "tuple" := by rfl) (hs : starEach [a] X.env = (false, eval a X.env) :: starEach [] X.env := by rfl) : EvD X k w0 Γ j (.Call (.Name "tuple" p2) [a] [] pos) (rTup A) xs j1 := fun σ w at0 Q q =>
  WE.of (pe_tupleOf hg (blt_len ok) pe_self hs) (h σ w at0 _ fun p vs w1 a1 e1 h1 h2 => .inl ⟨p, vs, rfl, h1 w1 (Le.refl a1.good), fun l hl => by
    obtain ⟨g2, l2⟩ := a1.good.newS (o := .tup vs) hl
    exact q _ ⟨upd w1.S l (.tup vs), upd w1.H l (.tup vs), w1.j⟩ (a1.up l2 g2 a1.jar) (e1.trans l2) ⟨l, vs, rfl, .inl (.inl upd_same), h2.up l2.sub⟩⟩)
theorem d_tupT (ok : CxOk X) (h : EvD X k w0 Γ j a (rTup A) xs j1) (hg : Gl X "tuple" := by rfl) (hs : starEach [a] X.env = (false, eval a X.env) :: starEach [] X.env := by rfl) : EvD X k w0 Γ j (.Call (.Name "tuple" p2) [a] [] pos) (rTup A) xs j1 := fun σ w at0 Q q =>
  WE.of (pe_tupleOf hg (blt_len ok) pe_self hs) (h σ w at0 _ fun v w1 a1 e1 ⟨p, vs, h0, h1, h2⟩ => .inr ⟨p, vs, h0, a1.good.sub.t h1, q _ w1 a1 e1 ⟨p, vs, rfl, h1, h2⟩⟩)
/-- list(list), list(tuple) -/
theorem m_listB (ok : CxOk X) (h : EvB X k w0 Γ j a A xs j1) (hg : Gl X "list" := by rfl) (hs : starEach [a] X.env = (false, eval a X.env) :: starEach [] X.env := by rfl) (hpl : (backTo pos (starEach [] X.env)).any (·.1) = false := by rfl) : EvM X k w0 Γ j (.Call (.Name "list" p2) [a] [] pos) A xs j1 := fun σ w at0 Q q =>
  WE.of (pe_callTy call_list_of hg (blt_len ok) (by decide +kernel) (pa_cons pe_self pa_nil hs) (he := hs) (hpl := hpl)) (h σ w at0 _ fun p vs w1 a1 e1 h1 h2 => ⟨p, vs, rfl, .inl (h1 w1 (Le.refl a1.good)), fun l hl => by
    obtain ⟨g2, l2⟩ := a1.good.newH (o := .lst vs) hl
    exact q l vs ⟨w1.S, upd w1.H l (.lst vs), w1.j⟩ (a1.up l2 g2 a1.jar) (e1.trans l2) upd_same h2 (a1.good.non hl) (e1.fresh hl)⟩)
theorem m_listT (ok : CxOk X) (h : EvD X k w0 Γ j a (rTup A) xs j1) (hg : Gl X "list" := by rfl) (hs : starEach [a] X.env = (false, eval a X.env) :: starEach [] X.env := by rfl) (hpl : (backTo pos (starEach [] X.env)).any (·.1) = false := by rfl) : EvM X k w0 Γ j (.Call (.Name "list" p2) [a] [] pos) A xs j1 := fun σ w at0 Q q =>
  WE.of (pe_callTy call_list_of hg (blt_len ok) (by decide +kernel) (pa_cons pe_self pa_nil hs) (he := hs) (hpl := hpl)) (h σ w at0 _ fun v w1 a1 e1 ⟨p, vs, h0, h1, h2⟩ => ⟨p, vs, by rw [h0], .inr (a1.good.sub.t h1), fun l hl => by
    obtain ⟨g2, l2⟩ := a1.good.newH (o := .lst vs) hl
    exact q l vs ⟨w1.S, upd w1.H l (.lst vs), w1.j⟩ (a1.up l2 g2 a1.jar) (e1.trans l2) upd_same h2 (a1.good.non hl) (e1.fresh hl)⟩)
/-- int(int), int(bool) -/
theorem d_intI (ok : CxOk X) {m : Int} (h : EvD X k w0 Γ j a rInt m j1) (hg : Gl X "int" := by rfl) (hs : starEach [a] X.env = (false, eval a X.env) :: starEach [] X.env := by rfl) (hpl : (backTo pos (starEach [] X.env)).any (·.1) = false := by rfl) : EvD X k w0 Γ j (.Call (.Name "int" p2) [a] [] pos) rInt m j1 := fun σ w at0 Q q =>
  WE.of (pe_callTy call_int1 hg (blt_len ok) (by decide +kernel) (pa_cons pe_self pa_nil hs) (he := hs) (hpl := hpl)) (h σ w at0 _ fun v w1 a1 e1 r1 => .inl ⟨m, by rw [show v = .int m from r1], q _ w1 a1 e1 rfl⟩)
theorem d_intB (ok : CxOk X) {m : Bool} (h : EvD X k w0 Γ j a rBl m j1) (hg : Gl X "int" := by rfl) (hs : starEach [a] X.env = (false, eval a X.env) :: starEach [] X.env := by rfl) (hpl : (backTo pos (starEach [] X.env)).any (·.1) = false := by rfl) : EvD X k w0 Γ j (.Call (.Name "int" p2) [a] [] pos) rInt (if m then 1 else 0) j1 := fun σ w at0 Q q =>
  WE.of (pe_callTy call_int1 hg (blt_len ok) (by decide +kernel) (pa_cons pe_self pa_nil hs) (he := hs) (hpl := hpl)) (h σ w at0 _ fun v w1 a1 e1 r1 => .inr ⟨m, by rw [show v = .bl m from r1], q _ w1 a1 e1 rfl⟩)
/-- max(a, b) -/
theorem d_max2 (ok : CxOk X) {m o : Int} (h : EvD X k w0 Γ j a rInt m j1) (h2 : EvD X k w0 Γ j1 b rInt o j2) (hg : Gl X "max" := by rfl) (hs0 : starEach [a, b] X.env = (false, eval a X.env) :: starEach [b] X.env := by rfl) (hs : starEach [b] X.env = (false, eval b X.env) :: starEach [] X.env := by rfl) (hpl : (backTo pos (starEach [b] X.env)).any (·.1) = false := by rfl) :
    EvD X k w0 Γ j (.Call (.Name "max" p2) [a, b] [] pos) rInt (max m o) j2 := fun σ w at0 Q q =>
  WE.of (pe_callB (call_max2 ok.calm) hg (blt_len ok) (by decide +kernel) (pa_cons pe_self (pa_cons pe_self pa_nil hs) hs0) (he := hs0) (hpl := hpl)) (h σ w at0 _ fun v w1 a1 e1 r1 => h2 σ w1 a1 _ fun v2 w2 a2 e2 r2 => ⟨m, o, by rw [show v = .int m from r1, show v2 = .int o from r2], q _ w2 a2 (e1.trans e2) (by
    show V.int _ = V.int _
    congr 1
    split <;> omega)⟩)
/-- sum(list of ints), max(list of ints) -/
theorem d_sumI (ok : CxOk X) {ns : List Int} (h : EvB X k w0 Γ j a rInt ns j1) (hg : Gl X "sum" := by rfl) (hs : starEach [a] X.env = (false, eval a X.env) :: starEach [] X.env := by rfl) (hpl : (backTo pos (starEach [] X.env)).any (·.1) = false := by rfl) : EvD X k w0 Γ j (.Call (.Name "sum" p2) [a] [] pos) rInt ns.sum j1 := fun σ w at0 Q q =>
  WE.of (pe_callB (cr_sum ok.calm) hg (blt_len ok) (by decide +kernel) (pa_cons pe_self pa_nil hs) (he := hs) (hpl := hpl)) (h σ w at0 _ fun p vs w1 a1 e1 h1 h2 => ⟨p, ns, rfl, by
    rw [← h2.mapI]
    exact h1 w1 (Le.refl a1.good), q _ w1 a1 e1 rfl⟩)
theorem d_maxI (ok : CxOk X) {ns : List Int} (h : EvB X k w0 Γ j a rInt ns j1) {m : Int} (hm : ns.max? = some m) (hg : Gl X "max" := by rfl) (hs : starEach [a] X.env = (false, eval a X.env) :: starEach [] X.env := by rfl) (hpl : (backTo pos (starEach [] X.env)).any (·.1) = false := by rfl) : EvD X k w0 Γ j (.Call (.Name "max" p2) [a] [] pos) rInt m j1 := fun σ w at0 Q q =>
  WE.of (pe_callB (cr_max ok.calm) hg (blt_len ok) (by decide +kernel) (pa_cons pe_self pa_nil hs) (he := hs) (hpl := hpl)) (h σ w at0 _ fun p vs w1 a1 e1 h1 h2 => ⟨p, ns, rfl, by
    rw [← h2.mapI]
    exact h1 w1 (Le.refl a1.good), by
    cases ns with
    | nil => cases hm
    | cons _ _ => simp, fun m2 hm2 hle => by
    have e := List.max?_eq_some_iff (α := Int) (xs := ns) (a := m2) |>.mpr ⟨hm2, fun b hb => hle b hb⟩
    rw [hm] at e
    rw [← Option.some.inj e]
    exact q _ w1 a1 e1 rfl⟩)
/-- sorted(list of ints) -/
theorem m_sortB (ok : CxOk X) {ns : List Int} (h : EvB X k w0 Γ j a rInt ns j1) {ms : List Int} (hm : ∀ ms', ms'.Perm ns → ms'.Pairwise (· ≤ ·) → ms' = ms) (hg : Gl X "sorted" := by rfl) (hs : starEach [a] X.env = (false, eval a X.env) :: starEach [] X.env := by rfl) (hpl : (backTo pos (starEach [] X.env)).any (·.1) = false := by rfl) : EvM X k w0 Γ j (.Call (.Name "sorted" p2) [a] [] pos) rInt ms j1 := fun σ w at0 Q q =>
  WE.of (pe_callB cr_sortedI hg (blt_len ok) (by decide +kernel) (pa_cons pe_self pa_nil hs) (he := hs) (hpl := hpl)) (h σ w at0 _ fun p vs w1 a1 e1 h1 h2 => ⟨p, ns, rfl, by
    rw [← h2.mapI]
    exact h1 w1 (Le.refl a1.good), fun ms' l hp ho hl => by
    have e := hm ms' hp ho
    subst e
    obtain ⟨g2, l2⟩ := a1.good.newH (o := .lst (ms'.map V.int)) hl
    exact q l _ ⟨w1.S, upd w1.H l (.lst (ms'.map V.int)), w1.j⟩ (a1.up l2 g2 a1.jar) (e1.trans l2) upd_same (Rows.ofI ms') (a1.good.non hl) (e1.fresh hl)⟩)
end
end Fm
set_option maxHeartbeats 2000000
/-! Fm7: a def. -/
namespace Fm
open PySem PySem.Spec PyProof.Rows L2
section
variable {Pg : Program} {w : World} {K : PySem.W.Frag} {mg : Str → Option Value} {base : Heap} {x qual : Str} {params : Arguments} {body : List Stmt} {scope : Scope} {fa : Addr} {fd : FuncData} {N ps : List Str}
theorem argsOk_len {K : PySem.W.Frag} {k : Kx} {w : Wd} : ∀ {ss : List (Slot K)} {vs : List V}, ArgsOk K k w ss vs → vs.length = ss.length
  | [], [], _ => rfl
  | _ :: _, _ :: _, h => congrArg (· + 1) (argsOk_len h.2.2)
  | [], _ :: _, h => h.elim
  | _ :: _, [], h => h.elim
theorem argsOk_get {K : PySem.W.Frag} {k : Kx} {w : Wd} : ∀ {ss : List (Slot K)} {vs : List V}, ArgsOk K k w ss vs → ∀ (i : Nat) (s : Slot K), ss[i]? = some s → ∃ v, vs[i]? = some v ∧ SlotA K k w s v ∧ s.isMu = false
  | [], [], _, i, s, e => by simp at e
  | s :: _, v :: _, h, 0, _, e => ⟨v, rfl, by
    have e2 := Option.some.inj e
    subst e2
    exact ⟨h.1, h.2.1⟩⟩
  | _ :: _, _ :: _, h, i + 1, s, e => by
    obtain ⟨v, h1, h2⟩ := argsOk_get h.2.2 i s (by simpa using e)
    exact ⟨v, by simpa using h1, h2⟩
  | [], _ :: _, h, _, _, _ => h.elim
  | _ :: _, [], h, _, _, _ => h.elim
/-- the slots at the entry -/
def ent {K : PySem.W.Frag} (N : List Str) (ss : List (Slot K)) : List (Slot K) := ss ++ List.replicate (N.length - ss.length) .un
theorem at_start {k : Kx} {wd : Wd} {ss : List (Slot K)} {vs : List V} (g : Good k wd) (h : ArgsOk K k wd ss vs) (hl : ss.length ≤ N.length) : At K k wd (ent N ss) (L2.start N vs) wd wd.j := by
  have hv := argsOk_len h
  refine ⟨g, rfl, Le.refl g, ?_, fun i s hs => ?_, fun a b p s t ha hb sa sb pa pb => ?_⟩
  · unfold L2.start ent
    rw [List.length_append, List.length_append, List.length_map, List.length_replicate, List.length_replicate, hv]
  · unfold ent at hs
    unfold L2.start
    by_cases hi : i < ss.length
    · rw [List.getElem?_append_left hi] at hs
      obtain ⟨v, h1, h2, _⟩ := argsOk_get h i s hs
      exact ⟨some v, by rw [List.getElem?_append_left (by rw [List.length_map]; omega), List.getElem?_map, h1] <;> rfl, h2⟩
    · rw [List.getElem?_append_right (by omega)] at hs
      have hr := (List.getElem?_eq_some_iff.mp hs)
      obtain ⟨hr1, hr2⟩ := hr
      rw [List.getElem_replicate] at hr2
      rw [List.length_replicate] at hr1
      subst hr2
      refine ⟨none, ?_, trivial⟩
      rw [List.getElem?_append_right (by rw [List.length_map]; omega), List.length_map, List.getElem?_replicate, if_pos (by omega)]
  · have nm : ∀ (i : Nat) (s : Slot K), (ent N ss)[i]? = some s → s.isMu = false := fun i s hs => by
      unfold ent at hs
      by_cases hi : i < ss.length
      · rw [List.getElem?_append_left hi] at hs
        exact (argsOk_get h i s hs).choose_spec.2.2
      · rw [List.getElem?_append_right (by omega)] at hs
        obtain ⟨hr1, hr2⟩ := List.getElem?_eq_some_iff.mp hs
        rw [List.getElem_replicate] at hr2
        rw [← hr2]
        rfl
    rw [nm a s ha] at sa
    cases sa
/-- the context of a def's body -/
abbrev DX (Pg : Program) (w : World) (K : PySem.W.Frag) (mg : Str → Option Value) (base : Heap) (N : List Str) (qual : Str) (scope : Scope) (f : Addr) (cd : Value) (A : Around) (outer : List Env) (s : Shared) (H : Hp) (E : XK) : Cx := (cxOf CX0 Pg w K mg base N qual scope f cd A outer s H E).nox
/-- what a def's body is to end with -/
def Fin (K : PySem.W.Frag) {α : Type} (r : α × (Int × Int)) : Po K α := ⟨fun _ _ => False, fun x j => x = r.1 ∧ j = r.2, fun _ _ => False, fun _ _ => False⟩
/-- THE RULE for a def that hands back data -/
theorem def_ok {T : Tbs} {ι α : Type} {A : RT K α} {P : ι → List (Slot K)} {pre : ι → Int × Int → Prop} {f : ι → Int × Int → α × (Int × Int)} {lev : Nat} (F : FunD K x qual params body scope [] [] fa fd) (S : FnScope N ps scope) (hlen : ∀ i, (P i).length = ps.length) (hle : ps.length ≤ N.length) (hblt : ∀ n ∈ bltNames, mg n = none)
    (hb : ∀ (cdv : Value) (Ar : Around) (outer : List Env) (s : Shared) (H : Hp) (E : XK), fd.code = cdv → CxOk (DX Pg w K mg base N qual scope fa cdv Ar outer s H E) → Room lev (DX Pg w K mg base N qual scope fa cdv Ar outer s H E).A → ∀ (i : ι) (k : Kx) (w0 : Wd) (j : Int × Int), k.T = T → pre i j →
      HB (DX Pg w K mg base N qual scope fa cdv Ar outer s H E) k w0 (rtD A) (ent N (P i)) j body (Fin K (f i j))) : FnG Pg w K mg base (lev + 1) fa fd ps (SpD T P pre A f) := by
  obtain ⟨oc, od, dV, kV, doc, pm, an, cdv, ct, osl, rfl, lk, hcd, _, _⟩ := F.ex
  have len : ∀ vs H Q E, (SpD T P pre A f) vs H Q E → vs.length = ps.length := fun vs H Q E h => ?len
  refine ⟨len, fun Ar outer s H args us vs Q E hr0 hgd e0 hbd r h => LamX.run_ofS lk hcd S hr0 e0 hbd r (len _ _ _ _ h) fun hr => ?_⟩
  case len =>
    obtain ⟨i, k, wd, _, _, _, ha, _⟩ := h
    rw [argsOk_len ha, hlen]
  · refine ⟨_, PSs.nox pss_self, ?_⟩
    obtain ⟨i, k, wd, ht, rfl, g, ha, hp, hq⟩ := h
    refine hb cdv Ar outer s wd.H E rfl ⟨rfl, S.nd, PassesOwn.never, hblt, ?_, hgd⟩ hr i k wd wd.j ht hp _ wd (at_start g ha (Nat.le_trans (Nat.le_of_eq (hlen i)) hle)) _ ⟨fun _ _ _ _ _ _ z => z.elim, fun v w2 y g2 l2 r2 z => ?_, fun _ _ _ _ _ _ z => z.elim, fun _ _ _ _ _ _ z => z.elim⟩
    · have := hr.un
      show (Ar.deeper _).units + 65 < cLine
      omega
    · obtain ⟨z1, z2⟩ := z
      subst z1
      exact hq v w2 l2 g2 z2 r2
/-- .. a new list -/
theorem def_okM {T : Tbs} {ι α : Type} {A : RT K α} {P : ι → List (Slot K)} {pre : ι → Int × Int → Prop} {f : ι → Int × Int → List α × (Int × Int)} {lev : Nat} (F : FunD K x qual params body scope [] [] fa fd) (S : FnScope N ps scope) (hlen : ∀ i, (P i).length = ps.length) (hle : ps.length ≤ N.length) (hblt : ∀ n ∈ bltNames, mg n = none)
    (hb : ∀ (cdv : Value) (Ar : Around) (outer : List Env) (s : Shared) (H : Hp) (E : XK), fd.code = cdv → CxOk (DX Pg w K mg base N qual scope fa cdv Ar outer s H E) → Room lev (DX Pg w K mg base N qual scope fa cdv Ar outer s H E).A → ∀ (i : ι) (k : Kx) (w0 : Wd) (j : Int × Int), k.T = T → pre i j →
      HB (DX Pg w K mg base N qual scope fa cdv Ar outer s H E) k w0 (rtM A) (ent N (P i)) j body (Fin K (f i j))) : FnG Pg w K mg base (lev + 1) fa fd ps (SpM T P pre A f) := by
  obtain ⟨oc, od, dV, kV, doc, pm, an, cdv, ct, osl, rfl, lk, hcd, _, _⟩ := F.ex
  have len : ∀ vs H Q E, (SpM T P pre A f) vs H Q E → vs.length = ps.length := fun vs H Q E h => ?len
  refine ⟨len, fun Ar outer s H args us vs Q E hr0 hgd e0 hbd r h => LamX.run_ofS lk hcd S hr0 e0 hbd r (len _ _ _ _ h) fun hr => ?_⟩
  case len =>
    obtain ⟨i, k, wd, _, _, _, ha, _⟩ := h
    rw [argsOk_len ha, hlen]
  · refine ⟨_, PSs.nox pss_self, ?_⟩
    obtain ⟨i, k, wd, ht, rfl, g, ha, hp, hq⟩ := h
    refine hb cdv Ar outer s wd.H E rfl ⟨rfl, S.nd, PassesOwn.never, hblt, ?_, hgd⟩ hr i k wd wd.j ht hp _ wd (at_start g ha (Nat.le_trans (Nat.le_of_eq (hlen i)) hle)) _ ⟨fun _ _ _ _ _ _ z => z.elim, fun v w2 y g2 l2 r2 z => ?_, fun _ _ _ _ _ _ z => z.elim, fun _ _ _ _ _ _ z => z.elim⟩
    · have := hr.un
      show (Ar.deeper _).units + 65 < cLine
      omega
    · obtain ⟨z1, z2⟩ := z
      subst z1
      obtain ⟨p, us, rfl, h1, h2, h3, h4⟩ := r2
      exact hq p us w2 l2 g2 z2 h1 h2 h3 h4
theorem has_of {sp : Sp} {lev lev' : Nat} (F : FunD K x qual params body scope [] [] fa fd) (G : FnG Pg w K mg base lev fa fd ps sp) (hm : mg x = some (.ref fa)) (hb : Binds K fd ps []) (hl : lev ≤ lev') : Has Pg w K mg base lev' x ps sp := ⟨⟨fa, fd, G.mono hl, hm, F.kp, hb⟩⟩
end
end Fm
set_option maxHeartbeats 2000000
/-! Gx: any, all of a generator expression whose element may be anything that the layer reads (calls too). -/
namespace Gx
open PySem PySem.Spec PyProof.Rows L2 GenW

/-! ### the around of the element -/
theorem over_loopG {A : Around} {elt tg iter : Expr} {ifs : List Expr} {scope : Scope} {pos : Pos} {it acc : Value} {env : Env} : A.over (.compLoop (.GeneratorExp elt [⟨tg, iter, ifs, 0⟩] scope pos) 0 it acc env) [] = A.deeper env := by
  first
    | rfl
    | (obtain ⟨hd, d, fr, gs, u⟩ := A; simp [Around.over, Around.deeper, marksOver, frameCount, unitsOf, envsOf, guardsOf, pushEnvs, pushGuards, Code.envs, Code.env?, Code.isFrame, Code.guards, Code.isGuard, Code.weight, Code.frames, Code.isCreation, Code.isCaller, Code.cUnits])
theorem over_startG {A : Around} {elt tg iter : Expr} {ifs : List Expr} {scope : Scope} {pos : Pos} {it acc : Value} {env : Env} : A.over (.compStart (.GeneratorExp elt [⟨tg, iter, ifs, 0⟩] scope pos) 0 it acc env) [] = A.deeper env := by
  first
    | rfl
    | (obtain ⟨hd, d, fr, gs, u⟩ := A; simp [Around.over, Around.deeper, marksOver, frameCount, unitsOf, envsOf, guardsOf, pushEnvs, pushGuards, Code.envs, Code.env?, Code.isFrame, Code.guards, Code.isGuard, Code.weight, Code.frames, Code.isCreation, Code.isCaller, Code.cUnits])

/-! ### the turns -/
/-- between two turns nothing but the generator's own state has changed -/
structure Woke (g : Nat) (s s' : Shared) : Prop where
  heap : s'.heap = s.heap
  os : s'.os = s.os
  bare : AllBare s'.gens
  gsz : g < s'.gens.size
/-- at the end all items have been seen -/
def EndG (X : Cx) (pg : List (Addr × Obj)) (σ : L2.St) (g : Nat) (Qn : Hp → Prop) (s : Shared) : Prop := ∃ H, Inv X pg σ H s ∧ g < s.gens.size ∧ Qn H
/-- an item is handed out; z: the answer that ends the walk -/
def YG (X : Cx) (pg : List (Addr × Obj)) (g : Nat) (z : Bool) (Qs : Hp → Prop) : Protocol := fun _ _ v s kap =>
  ∃ (b : Bool) (σ : L2.St) (H : Hp), v = .bool b ∧ Inv X pg σ H s ∧ g < s.gens.size ∧ (if b = z then Qs H else ∀ s', Woke g s s' → kap (.send .none) s')
theorem Inv.woke {X : Cx} {pins : List (Addr × Obj)} {σ : L2.St} {H : Hp} {s s' : Shared} {g : Nat} (I : Inv X pins σ H s) (z : Woke g s s') : Inv X pins σ H s' := by
  obtain ⟨h, gs, d, t, o⟩ := s'
  obtain ⟨z1, z2, z3, z4⟩ := z
  have z1 : h = s.heap := z1
  have z2 : o = s.os := z2
  subst z1 z2
  exact I.call (g' := gs) (t' := t) (d' := d) (ch := []) Un.refl I.hok z3 fun _ z => nomatch z
section
variable {X : Cx} {A : Around} {elt tg iter : Expr} {ifs : List Expr} {scope : Scope} {pos : Pos} {it : Addr} {fp : List Addr} {tn : Nat → Heap → Prop} {J : It} {g : TG} {tt : TT} {te : TE} {vs : List Nat} {σ : L2.St} {pg : List (Addr × Obj)} {gN : Nat} {z : Bool} {Qs Qn : Hp → Prop}
/-- a turn's reading -/
def TurnsG (J : It) (g : TG) (tt : TT) (te : TE) (vs : List Nat) (σ : L2.St) (z : Bool) (Qs Qn : Hp → Prop) (W : Nat → Nat → Hp → Prop) : Prop := ∀ i m H, W i m H →
  (J.stop i H ∧ Qn H) ∨ (J.go i H ∧ ∃ Nx : Hp → Prop, (∀ H', Nx H' → ∃ m', m' < m ∧ W (i + 1) m' H') ∧ ∀ x H', J.yld i H x H' → g x (wipe σ vs) H' fun σ2 H2 => wipe σ2 vs = wipe σ vs ∧ tt σ2 H2 fun b H3 =>
    if b = true then te σ2 H3 fun y H4 => ∃ r : Bool, y = .bl r ∧ (if r = z then Qs H4 else Nx H4) else Nx H3)
theorem seg_gx (hA : X.A = A.deeper X.env) (hxe : X.xe = fun _ _ => False) (hc : X.calm = true) (hco : X.env.scope.isCoroutine = false) (T : Turn X.prog X.w X.K tg J fp it tn) (hfp : ∀ b ∈ fp, b ∈ X.ex) (hpnE : X.pn = []) (hpg : ∀ p ∈ pg, p.1 ∉ fp)
    (hg : PG X tg g) (ht : PTs X ifs tt) (he : PE X elt te) {W : Nat → Nat → Hp → Prop} (turn : TurnsG J g tt te vs σ z Qs Qn W) :
    ∀ (m i n : Nat) (s₀ s : Shared) (H : Hp), m < n → Inv X pg (wipe σ vs) H s → tn i s.heap → (∀ b ∈ fp, H b = none) → W i m H → gN < s.gens.size →
      Seg (model X.prog X.w) A (fun _ _ r s₁ => r = .ok .next ∧ EndG X pg (wipe σ vs) gN Qn s₁) (YG X pg gN z Qs) n s₀ (.compLoop (.GeneratorExp elt [⟨tg, iter, ifs, 0⟩] scope pos) 0 (.ref it) .none X.env)
        ((model X.prog X.w).den (.compLoop (.GeneratorExp elt [⟨tg, iter, ifs, 0⟩] scope pos) 0 (.ref it) .none X.env)) [] s := by
  intro m
  induction m using Nat.strongRecOn with
  | ind m ih =>
    intro i n s₀ s H hm I st nf w hgs
    have stat : ∀ {pins : List (Addr × Obj)} {σ' : L2.St} {H' : Hp} {s' : Shared}, pins = pg → Inv X pins σ' H' s' → (∀ b ∈ fp, H' b = none) → ∀ b ∈ fp, FpOk X pins H' b := fun {pins σ' H' s'} hp I' hn b hb =>
      ⟨hn b hb, (I'.ok.exf b (hfp b hb)).1, I'.ok.exfs b (hfp b hb), .inl (hfp b hb), fun x c e => (I'.ok.exf b (hfp b hb)).2 x c e, fun p hp' e => by
        subst hp
        rw [hpnE, List.nil_append] at hp'
        exact hpg p hp' (by rw [e]; exact hb)⟩
    show Seg _ A _ _ n s₀ _ ((compTurn (.GeneratorExp elt [⟨tg, iter, ifs, 0⟩] scope pos) 0 (.ref it) .none X.env).onRaise (leaving X.env)) [] s
    rw [compTurn_gen, Sem.onRaise_eq_wrap]
    refine seg_bind_wrap (wpAny_standAt ?_)
    refine seg_bind_wrap ?_
    rw [over_loopG, ← hA]
    rcases turn i m H w with ⟨stop, qn⟩ | ⟨go, Nx, hNx, step⟩
    · have td := T.done X rfl rfl rfl hc i pg s _ H (fun _ _ => False) I (stat rfl I nf) st stop
      refine wpAny_gsz (n := gN + 1) hgs (wpAny_mono td (fun r s6 h6 hz => ?_) fun _ _ e => e.elim)
      obtain ⟨hr, I6⟩ := h6
      subst hr
      exact seg_end (.ok .next) ⟨rfl, H, I6, hz, qn⟩
    · have ti := T.item X rfl rfl rfl hc i pg s _ H (fun _ _ => False) I (stat rfl I nf) st go
      refine wpAny_gsz (n := gN + 1) hgs (wpAny_mono ti (fun r s6 h6 hz6 => ?_) fun _ _ e => e.elim)
      obtain ⟨u, hr, h6⟩ := h6
      subst hr
      refine seg_bind_wrap ?_
      rw [over_loopG, ← hA]
      refine wpAny_gsz (n := gN + 1) hz6 (wpAny_mono h6 (fun _ s7 h7 hz7 => ?_) fun _ _ e => e.elim)
      obtain ⟨x, H7, I7, r7, y7, st7, n7⟩ := h7
      have I7' := I7.pinned (stat rfl I7 n7) (T.obj _ _ st7)
      refine seg_bind_wrap ?_
      rw [over_loopG, ← hA]
      refine wpAny_gsz (n := gN + 1) hz7 (wpAny_mono (hg.run _ s7 _ H7 x u _ I7' r7 (step x H7 y7)) (fun _ s8 h8 hz8 => ?_) fun _ _ e => (by rw [hxe] at e; exact e.elim))
      obtain ⟨σ8, H8, I8, hw8, q8⟩ := h8
      refine seg_bind_wrap ?_
      rw [over_loopG, ← hA]
      refine wpAny_gsz (n := gN + 1) hz8 (wpAny_mono (ht.run _ s8 σ8 H8 _ I8 q8) (fun b s9 h9 hz9 => ?_) fun _ _ e => (by rw [hxe] at e; exact e.elim))
      obtain ⟨H9, I9, q9⟩ := h9
      have fin : ∀ {s' : Shared} {H' : Hp}, Inv X (pg ++ pinsAt fp s7.heap) σ8 H' s' → Inv X pg (wipe σ vs) H' s' ∧ tn (i + 1) s'.heap ∧ ∀ b ∈ fp, H' b = none := fun {s' H'} I' => by
        have pin' : ∀ b ∈ fp, ∀ o, s7.heap.get? b = some o → s'.heap.get? b = some o ∧ H' b = none := fun b hb o e =>
          let z := I'.pin (b, o) (List.mem_append_right _ (List.mem_append_right _ (mem_pinsAt hb e)))
          ⟨z.1, z.2.1⟩
        have hl : (wipe σ vs).length = σ8.length := by rw [← hw8, wipe_length]
        refine ⟨(I'.unpinned (pins := pg)).weak hl (fun j v e => ?_), T.keep _ _ _ st7 fun b hb o e => (pin' b hb o e).1, fun b hb => ?_⟩
        · rw [← hw8] at e
          exact (wipe_some e).1
        · obtain ⟨o, e, _⟩ := T.obj _ _ st7 b hb
          exact (pin' b hb o e).2
      cases b with
      | false =>
        simp only [Bool.false_eq_true, if_false] at q9 ⊢
        obtain ⟨m', hm', w'⟩ := hNx _ q9
        obtain ⟨J1, J2, J3⟩ := fin I9
        exact seg_again rfl (ih m' hm' (i + 1) n s₀ s9 H9 (by omega) J1 J2 J3 w' hz9)
      | true =>
        simp only [if_true] at q9 ⊢
        have hy : ∀ v, yieldOut X.env v = yieldValue v := fun v => by simp only [yieldOut, hco, Bool.false_eq_true, if_false]
        simp only [hy]
        rw [Sem.bind_eq_wrap', Sem.bind_eq_wrap', Sem.wrap_wrap, Sem.wrap_wrap]
        refine seg_wrap ?_
        rw [over_loopG, ← hA]
        refine wpAny_gsz (n := gN + 1) hz9 (wpAny_mono (he.run _ s9 σ8 H9 _ I9 q9) (fun v s10 h10 hz10 => ?_) fun _ _ e => (by rw [hxe] at e; exact e.elim))
        obtain ⟨yv, H10, I10, r10, r, rfl, q10⟩ := h10
        have ev : v = Value.bool r := r10
        subst ev
        obtain ⟨n', rfl⟩ : ∃ k, n = k + 1 := ⟨n - 1, by omega⟩
        obtain ⟨J1, J2, J3⟩ := fin I10
        refine seg_at (seg_yield rfl rfl rfl ⟨r, wipe σ vs, H10, rfl, J1, hz10, ?_⟩)
        by_cases hr : r = z
        · rw [if_pos hr] at q10 ⊢
          exact q10
        · rw [if_neg hr] at q10 ⊢
          intro s'' wk
          obtain ⟨m', hm', w'⟩ := hNx _ q10
          refine seg_again rfl (ih m' hm' (i + 1) n' s'' s'' H10 (by omega) (Inv.woke J1 wk) ?_ J3 w' wk.gsz)
          rw [wk.heap]
          exact J2
theorem seg_gx0 (hA : X.A = A.deeper X.env) (hxe : X.xe = fun _ _ => False) (hc : X.calm = true) (hco : X.env.scope.isCoroutine = false) (T : Turn X.prog X.w X.K tg J fp it tn) (hfp : ∀ b ∈ fp, b ∈ X.ex) (hpnE : X.pn = []) (hpg : ∀ p ∈ pg, p.1 ∉ fp)
    (hg : PG X tg g) (ht : PTs X ifs tt) (he : PE X elt te) {W : Nat → Nat → Hp → Prop} (turn : TurnsG J g tt te vs σ z Qs Qn W) (m n : Nat) (s₀ s : Shared) (H : Hp) (hm : m < n) (I : Inv X pg (wipe σ vs) H s) (st : tn 0 s.heap) (nf : ∀ b ∈ fp, H b = none) (w : W 0 m H) (hgs : gN < s.gens.size) :
      Seg (model X.prog X.w) A (fun _ _ r s₁ => r = .ok .next ∧ EndG X pg (wipe σ vs) gN Qn s₁) (YG X pg gN z Qs) n s₀ (.compStart (.GeneratorExp elt [⟨tg, iter, ifs, 0⟩] scope pos) 0 (.ref it) .none X.env)
        ((model X.prog X.w).den (.compStart (.GeneratorExp elt [⟨tg, iter, ifs, 0⟩] scope pos) 0 (.ref it) .none X.env)) [] s := by
  have loop := seg_gx (iter := iter) (scope := scope) (pos := pos) hA hxe hc hco T hfp hpnE hpg hg ht he turn m 0 n s₀ s H hm I st nf w hgs
  show Seg _ A _ _ n s₀ _ ((compStart (.GeneratorExp elt [⟨tg, iter, ifs, 0⟩] scope pos) 0 (.ref it) .none X.env).onRaise (leaving X.env)) [] s
  unfold compStart
  rw [Sem.onRaise_eq_wrap]
  show Seg _ A _ _ n s₀ _ ((ask >>= _).wrap _ _ _ _) [] s
  refine seg_bind_wrap (wpAny_askSetting ?_)
  split
  · exact seg_again rfl loop
  · first
      | exact seg_bind_wrap (wpAny_rule (seg_bind_wrap (wpAny_standAt (seg_bind_wrap (T.self _ 0 s _ _ st (seg_again rfl loop))))))
      | (refine seg_bind_wrap (wpAny_rule ?_); show Seg _ A _ _ n s₀ _ ((standAt iter.pos >>= _).wrap _ _ _ _) [] s; exact seg_bind_wrap (wpAny_standAt (seg_bind_wrap (T.self _ 0 s _ _ st (seg_again rfl loop)))))

/-! ### the walk by any, all -/
theorem setGen_at {s : Shared} {k : Nat} {x : GenState} (h : k < s.gens.size) : (s.setGen k x).gens[k]? = some x := by
  show (s.gens.setIfInBounds k x)[k]? = some x
  rw [Array.getElem?_setIfInBounds_self_of_lt h]
theorem woke_set {s : Shared} {k : Nat} {x y : GenState} (h : k < s.gens.size) (b : AllBare s.gens) (hx : x.bare = true) (hy : y.bare = true) : Woke k s ((s.setGen k x).setGen k y) := by
  refine ⟨rfl, rfl, ?_, by rw [setGen_size, setGen_size]; exact h⟩
  have set : ∀ {s : Shared} {x : GenState}, AllBare s.gens → x.bare = true → AllBare (s.setGen k x).gens := fun {s x} hb hx q hq => by
    rcases Array.mem_or_eq_of_mem_setIfInBounds hq with z | z
    · exact hb q z
    · rw [z]
      exact hx
  exact set (set b hx) hy
theorem woke_set1 {s : Shared} {k : Nat} {x : GenState} (h : k < s.gens.size) (b : AllBare s.gens) (hx : x.bare = true) : Woke k s (s.setGen k x) := by
  refine ⟨rfl, rfl, fun q hq => ?_, by rw [setGen_size]; exact h⟩
  rcases Array.mem_or_eq_of_mem_setIfInBounds hq with z | z
  · exact b q z
  · rw [z]
    exact hx
theorem woke_heap {s : Shared} {h' : Heap} : True := trivial
theorem any_gx {B : Around} {a : Addr} {go : Obj} {Rr : Result → Shared → Prop} (hh : B.handled = none) (hroom : B.depth < recursionLimit) (hpa : (a, go) ∈ pg) (hgo : ∀ h : Heap, h.get? a = some go → h.IsGen a gN)
    (hT : ∀ (H : Hp) (σ : L2.St) (s' : Shared), Qs H → Inv X pg σ H s' → Rr (.ok (.ret (.bool true))) s') (hF : ∀ (H : Hp) (s' : Shared), Qn H → Inv X pg (wipe σ vs) H s' → Rr (.ok (.ret (.bool false))) s') :
    ∀ (n : Nat) (s : Shared) (gs : GenState) (σ' : L2.St) (H : Hp), Inv X pg σ' H s → s.gens[gN]? = some gs → gs.Goes (model X.prog X.w) B.in1.in1 (fun _ _ r s₁ => r = .ok .next ∧ EndG X pg (wipe σ vs) gN Qn s₁) (YG X pg gN true Qs) n (.send .none) (s.setGen gN .running) →
      codeAny (model X.prog X.w) B (.builtin "any.loop" ⟨[.ref a], []⟩) Rr s := by
  intro n
  induction n with
  | zero =>
    intro s gs σ' H I hgs hgoes
    refine codeAny_builtin F.entry_any_loop ?_
    rw [Around.under_plainId F.plain_any_loop _]
    show wpAny _ B.in1 (pyNext (.ref a) >>= _) _ _ s
    have hga := hgo s.heap (I.pin _ (List.mem_append_right _ hpa)).1
    refine wpAny_bind (wpAny_pyNext_genexpQ (P := fun _ _ s₁ => EndG X pg (wipe σ vs) gN Qn s₁) hh I.nolimit hroom hga hgs hgoes (fun v s₁ gs' hb hv => ?_) fun s₁ hp h' hk => ?_)
    · obtain ⟨b, σ2, H2, rfl, I2, hz2, q⟩ := hv
      refine wpAny_bind (wpAny_holding (wpAny_truthy_bool ?_))
      refine wpAny_bind (wpAny_letGo ?_)
      by_cases hbz : b = true
      · rw [if_pos hbz] at q
        subst hbz
        simp only [if_true]
        exact wpAny_bind (wpAny_rule (wpAny_pure (hT H2 σ2 _ q (Inv.woke I2 (woke_set1 hz2 I2.bare hb)))))
      · rw [if_neg hbz] at q
        exact (q s₁ ⟨rfl, rfl, I2.bare, hz2⟩).elim
    · obtain ⟨H2, I2, hz2, q⟩ := hp
      refine wpAny_bind (wpAny_rule (wpAny_pure ?_))
      exact hF H2 _ q ((Inv.woke I2 (woke_set1 (x := .finished) hz2 I2.bare rfl)).kept (t' := (s₁.setGen gN .finished).toks) hk)
  | succ n ih =>
    intro s gs σ' H I hgs hgoes
    refine codeAny_builtin F.entry_any_loop ?_
    rw [Around.under_plainId F.plain_any_loop _]
    show wpAny _ B.in1 (pyNext (.ref a) >>= _) _ _ s
    have hga := hgo s.heap (I.pin _ (List.mem_append_right _ hpa)).1
    refine wpAny_bind (wpAny_pyNext_genexpQ (P := fun _ _ s₁ => EndG X pg (wipe σ vs) gN Qn s₁) hh I.nolimit hroom hga hgs hgoes (fun v s₁ gs' hb hv => ?_) fun s₁ hp h' hk => ?_)
    · obtain ⟨b, σ2, H2, rfl, I2, hz2, q⟩ := hv
      refine wpAny_bind (wpAny_holding (wpAny_truthy_bool ?_))
      refine wpAny_bind (wpAny_letGo ?_)
      by_cases hbz : b = true
      · rw [if_pos hbz] at q
        subst hbz
        simp only [if_true]
        exact wpAny_bind (wpAny_rule (wpAny_pure (hT H2 σ2 _ q (Inv.woke I2 (woke_set1 hz2 I2.bare hb)))))
      · rw [if_neg hbz] at q
        have hbf : b = false := by simpa using hbz
        subst hbf
        simp only [Bool.false_eq_true, if_false]
        exact wpAny_pure ⟨plainId_quiet F.plain_any_loop _, ih (s₁.setGen gN gs') gs' σ2 H2 (Inv.woke I2 (woke_set1 hz2 I2.bare hb)) (setGen_at hz2) (q _ (woke_set hz2 I2.bare hb rfl))⟩
    · obtain ⟨H2, I2, hz2, q⟩ := hp
      refine wpAny_bind (wpAny_rule (wpAny_pure ?_))
      exact hF H2 _ q ((Inv.woke I2 (woke_set1 (x := .finished) hz2 I2.bare rfl)).kept (t' := (s₁.setGen gN .finished).toks) hk)
theorem all_gx {B : Around} {a : Addr} {go : Obj} {Rr : Result → Shared → Prop} (hh : B.handled = none) (hroom : B.depth < recursionLimit) (hpa : (a, go) ∈ pg) (hgo : ∀ h : Heap, h.get? a = some go → h.IsGen a gN)
    (hT : ∀ (H : Hp) (σ : L2.St) (s' : Shared), Qs H → Inv X pg σ H s' → Rr (.ok (.ret (.bool false))) s') (hF : ∀ (H : Hp) (s' : Shared), Qn H → Inv X pg (wipe σ vs) H s' → Rr (.ok (.ret (.bool true))) s') :
    ∀ (n : Nat) (s : Shared) (gs : GenState) (σ' : L2.St) (H : Hp), Inv X pg σ' H s → s.gens[gN]? = some gs → gs.Goes (model X.prog X.w) B.in1.in1 (fun _ _ r s₁ => r = .ok .next ∧ EndG X pg (wipe σ vs) gN Qn s₁) (YG X pg gN false Qs) n (.send .none) (s.setGen gN .running) →
      codeAny (model X.prog X.w) B (.builtin "all.loop" ⟨[.ref a], []⟩) Rr s := by
  intro n
  induction n with
  | zero =>
    intro s gs σ' H I hgs hgoes
    refine codeAny_builtin F.entry_all_loop ?_
    rw [Around.under_plainId F.plain_all_loop _]
    show wpAny _ B.in1 (pyNext (.ref a) >>= _) _ _ s
    have hga := hgo s.heap (I.pin _ (List.mem_append_right _ hpa)).1
    refine wpAny_bind (wpAny_pyNext_genexpQ (P := fun _ _ s₁ => EndG X pg (wipe σ vs) gN Qn s₁) hh I.nolimit hroom hga hgs hgoes (fun v s₁ gs' hb hv => ?_) fun s₁ hp h' hk => ?_)
    · obtain ⟨b, σ2, H2, rfl, I2, hz2, q⟩ := hv
      refine wpAny_bind (wpAny_holding (wpAny_truthy_bool ?_))
      refine wpAny_bind (wpAny_letGo ?_)
      by_cases hbz : b = false
      · rw [if_pos hbz] at q
        subst hbz
        simp only [Bool.false_eq_true, if_false]
        exact wpAny_bind (wpAny_rule (wpAny_pure (hT H2 σ2 _ q (Inv.woke I2 (woke_set1 hz2 I2.bare hb)))))
      · rw [if_neg hbz] at q
        exact (q s₁ ⟨rfl, rfl, I2.bare, hz2⟩).elim
    · obtain ⟨H2, I2, hz2, q⟩ := hp
      refine wpAny_bind (wpAny_rule (wpAny_pure ?_))
      exact hF H2 _ q ((Inv.woke I2 (woke_set1 (x := .finished) hz2 I2.bare rfl)).kept (t' := (s₁.setGen gN .finished).toks) hk)
  | succ n ih =>
    intro s gs σ' H I hgs hgoes
    refine codeAny_builtin F.entry_all_loop ?_
    rw [Around.under_plainId F.plain_all_loop _]
    show wpAny _ B.in1 (pyNext (.ref a) >>= _) _ _ s
    have hga := hgo s.heap (I.pin _ (List.mem_append_right _ hpa)).1
    refine wpAny_bind (wpAny_pyNext_genexpQ (P := fun _ _ s₁ => EndG X pg (wipe σ vs) gN Qn s₁) hh I.nolimit hroom hga hgs hgoes (fun v s₁ gs' hb hv => ?_) fun s₁ hp h' hk => ?_)
    · obtain ⟨b, σ2, H2, rfl, I2, hz2, q⟩ := hv
      refine wpAny_bind (wpAny_holding (wpAny_truthy_bool ?_))
      refine wpAny_bind (wpAny_letGo ?_)
      by_cases hbz : b = false
      · rw [if_pos hbz] at q
        subst hbz
        simp only [Bool.false_eq_true, if_false]
        exact wpAny_bind (wpAny_rule (wpAny_pure (hT H2 σ2 _ q (Inv.woke I2 (woke_set1 hz2 I2.bare hb)))))
      · rw [if_neg hbz] at q
        have hbf : b = true := by simpa using hbz
        subst hbf
        simp only [if_true]
        exact wpAny_pure ⟨plainId_quiet F.plain_all_loop _, ih (s₁.setGen gN gs') gs' σ2 H2 (Inv.woke I2 (woke_set1 hz2 I2.bare hb)) (setGen_at hz2) (q _ (woke_set hz2 I2.bare hb rfl))⟩
    · obtain ⟨H2, I2, hz2, q⟩ := hp
      refine wpAny_bind (wpAny_rule (wpAny_pure ?_))
      exact hF H2 _ q ((Inv.woke I2 (woke_set1 (x := .finished) hz2 I2.bare rfl)).kept (t' := (s₁.setGen gN .finished).toks) hk)
end
end Gx
set_option maxHeartbeats 2000000
/-! Gx2: the generator made; the calls of any, all. -/
namespace Gx
open PySem PySem.Spec PyProof.Rows L2 GenW

/-- the context of a generator expression's element -/
abbrev gxp (X : Cx) (s : Shared) (H : Hp) (cenv : Env) (fp : List Addr) : Cx := { X with s_0 := s, H_0 := H, env := cenv, outer := X.stack, stack := cenv :: X.stack, ex := fp, fn := fun _ => false, pn := [], xe := fun _ _ => False, A := X.A.in1.in1.deeper cenv }
/-- the environment -/
abbrev genv (X : Cx) (scope : Scope) (C : Addr) (code : Value) : Env := genEnv scope (cloFrom X.env.cells scope.names []) C code builtinsNs X.env
/-- the expression's own scope, beside BlkOk -/
structure GScp (scope : Scope) : Prop where
  co : scope.isCoroutine = false
  cell : ∀ y ∈ scope.names, y.2 ≠ .cell
  dot : scope.names.lookup (".0" : Str) = some NameKind.local
section
variable {X : Cx} {pins : List (Addr × Obj)} {σ : L2.St} {H : Hp} {s : Shared}
theorem gx_start {scope : Scope} {own : List (Str × Nat)} {fp : List Addr} {code : Value} {it : Value} {h' : Heap} {go : Obj} {gs : GenState} {tk : Nat} (I : Inv X pins σ H s) (ok : BlkOk X.N X.env.scope scope own) (S : GScp scope) (hN : X.N.Nodup) (hfp : ∀ b ∈ fp, FpOk X pins H b ∧ b < s.heap.objs.size)
    (hn' : h'.Ns s.heap.objs.size (fun y => if y = ".0" then some it else none)) (hs' : Heap.SameBut s.heap.objs.size (s.heap.push { cls := .type "frame", data := .dict #[] }) h') (hgo : ∀ v, go.data ≠ .cell v) (hgp : ∀ h : Heap, (h.push go).get? h.objs.size = some go) (hgs : gs.bare = true) :
    Inv (gxp X s H (genv X scope s.heap.objs.size code) fp) [(h'.objs.size, go)] (wipe σ (own.map (·.2))) H { s with gens := s.gens.push gs, toks := tk, heap := h'.push go } := by
  have hfree : ∀ y ∈ scope.names, y.2 = .free → ∃ c, X.env.cells.lookup y.1 = some c := fun y hy e => by
    rcases ok.free y hy e with k | k
    · exact I.ok.has _ (.inl k)
    · exact I.ok.has _ (.inr k)
  generalize hcenv : genv X scope s.heap.objs.size code = cenv
  have hsz : h'.objs.size = s.heap.objs.size + 1 := by rw [hs'.1, Heap.size_push]
  have kp0 : ∀ b o, s.heap.get? b = some o → h'.get? b = some o := fun b o e => hs'.extBut b o (Nat.ne_of_lt (Heap.lt_size e)) (Heap.get?_push_of_some _ e)
  have kp : ∀ b o, s.heap.get? b = some o → (h'.push go).get? b = some o := fun b o e => Heap.get?_push_of_some _ (kp0 b o e)
  have hL : cenv.locals = s.heap.objs.size := by rw [← hcenv]; rfl
  have hcl : cenv.cells = cloFrom X.env.cells scope.names [] := by rw [← hcenv]; rfl
  have hsc : cenv.scope = scope := by rw [← hcenv]; rfl
  have cm : ∀ {y c}, (y, c) ∈ cloFrom X.env.cells scope.names [] → X.env.cells.lookup y = some c ∧ c < s.heap.objs.size := fun {y c} hm => by
    rcases cloFrom_mem hm with hm | ⟨h1, rfl⟩
    · cases hm
    · obtain ⟨c, hc⟩ := hfree _ h1 rfl
      rw [hc]
      obtain ⟨w, z⟩ := I.cell _ _ hc
      exact ⟨rfl, z.lt⟩
  have cl : ∀ {y c}, cenv.cells.lookup y = some c → X.env.cells.lookup y = some c ∧ c < s.heap.objs.size := fun {y c} e => by
    rw [hcl] at e
    exact cm (PySem.mem_of_lookup e)
  have look : ∀ {y}, scope.names.lookup y = some .free → ∃ c, cenv.cells.lookup y = some c ∧ X.env.cells.lookup y = some c := fun {y} hl => by
    have hy : (y, NameKind.free) ∈ scope.names := PySem.mem_of_lookup hl
    obtain ⟨c', e'⟩ := mem_lookup (cloFrom_has (cells := X.env.cells) (acc := []) hy)
    rw [← hcl] at e'
    exact ⟨c', e', (cl e').1⟩
  have okB : (gxp X s H cenv fp).Ok := by
    refine ⟨I.ok.mod, by show cenv.scope.kind = _; rw [hsc]; exact ok.kind, by show cenv.globals = _; rw [← hcenv]; exact I.ok.glob, by show cenv.builtins = builtinsNs; rw [← hcenv]; rfl, by show s.heap.objs.size ≤ cenv.locals; rw [hL]; exact Nat.le_refl _,
      fun y z c e1 e2 => I.ok.inj y z c (cl e1).1 (cl e2).1, fun y hy => ?_, fun y c z e => (nomatch z), I.ok.hd, ?_, .inr ⟨rfl, ?_⟩, fun b hb => ⟨?_, fun y c e z => ?_⟩, I.bs, Nat.le_trans I.ok.bsz I.sz, fun b o e hb => ?_, fun b hb z => ?_, I.stack, I.stkFree⟩
    · show ∃ c, cenv.cells.lookup y = some c
      have hy : cenv.scope.names.lookup y = some .cell ∨ cenv.scope.names.lookup y = some .free := hy
      rw [hsc] at hy
      rcases hy with hy | hy
      · exact absurd rfl (S.cell _ (PySem.mem_of_lookup hy))
      · obtain ⟨c, h1, _⟩ := look hy
        exact ⟨c, h1⟩
    · show (X.A.in1.in1.deeper cenv).frames = some (cenv :: X.stack)
      exact Around.frames_deeper I.ok.frames
    · show cenv.frame = some cenv.locals
      rw [← hcenv]
      rfl
    · show b ≠ cenv.locals
      rw [hL]; exact Nat.ne_of_lt (hfp b hb).2
    · exact (hfp b hb).1.2.2.2.2.1 y c (cl e).1 z
    · rcases (hfp b hb).1.2.2.2.1 with z | z
      · exact I.ok.noex b o e z
      · exact absurd (Nat.lt_of_lt_of_le (Heap.lt_size e) (Nat.le_trans I.ok.bsz z)) (Nat.lt_irrefl _)
    · rcases List.mem_cons.mp (I.stkSub b z) with z | z
      · exact (hfp b hb).1.2.1 z
      · exact (hfp b hb).1.2.2.1 z
  refine ⟨okB, rfl, AllBare.push I.bare hgs, Un.kept kp, ⟨(fun y => if y = ".0" then some it else none), ?_, fun i y av e1 e2 e3 => ?_⟩, fun y c e => ?_, ?_, fun y c e => I.freeC y c (cl e).1, fun p hp => ?_, I.hok.kept kp, by rw [wipe_length]; exact I.len⟩
  · show Heap.Ns _ cenv.locals _
    rw [hL]
    exact hn'.push _
  · obtain ⟨e2, hne⟩ := wipe_some e2
    have hfr : scope.names.lookup y = some .free := by
      have key : ∀ k, scope.names.lookup y = some k → k = .local ∨ k = .cell ∨ k = .free → scope.names.lookup y = some .free := fun k hk hk' => by
        have no : ¬ (k = .local ∨ k = .cell) := fun hh => by
          rcases ok.own _ (PySem.mem_of_lookup hk) hh with e' | e'
          · obtain ⟨p, hp, hpy⟩ := List.mem_map.mp e'
            have e3 := ok.ix p hp
            have : p.1 = y := hpy
            rw [this] at e3
            exact hne (List.mem_map.mpr ⟨p, hp, nodup_ix hN e3 e1⟩)
          · exact e' (List.mem_of_getElem? e1)
        rcases hk' with rfl | rfl | rfl
        · exact absurd (.inl rfl) no
        · exact absurd (.inr rfl) no
        · exact hk
      have e3 : Vis cenv.scope y := e3
      rw [hsc] at e3
      rcases e3 with e3 | e3 | e3
      · exact key _ e3 (.inl rfl)
      · exact key _ e3 (.inr (.inl rfl))
      · exact key _ e3 (.inr (.inr rfl))
    obtain ⟨m, hn, hl⟩ := I.loc
    have hvis : Vis X.env.scope y := (ok.free _ (PySem.mem_of_lookup hfr) rfl).elim (fun k => .inr (.inl k)) (fun k => .inr (.inr k))
    obtain ⟨w, r, q⟩ := hl i y av e1 e2 hvis
    refine ⟨w, r, .inr ⟨.inr (by show cenv.scope.names.lookup y = _; rw [hsc]; exact hfr), ?_⟩⟩
    obtain ⟨c, h1, h2⟩ := look hfr
    rcases q with ⟨k, _⟩ | ⟨_, c', e', z⟩
    · have k : X.env.scope.names.lookup y = some .local := k
      rcases ok.free _ (PySem.mem_of_lookup hfr) rfl with k' | k' <;> rw [show X.env.scope.names.lookup y = _ from k'] at k <;> cases k
    · rw [h2] at e'; cases e'
      exact ⟨c, h1, z.keeps kp⟩
  · obtain ⟨w, z⟩ := I.cell y c (cl e).1
    exact ⟨w, z.keeps kp⟩
  · show H cenv.locals = none
    rw [hL]; exact I.hok.fresh (Nat.le_refl _)
  · have e : p = (h'.objs.size, go) := by
      rcases List.mem_append.mp hp with z | z
      · cases z
      · exact List.mem_singleton.mp z
    subst e
    refine ⟨hgp h', I.hok.fresh (by rw [hsz]; exact Nat.le_succ _), ?_, ?_, hgo⟩
    · show h'.objs.size ≠ cenv.locals
      rw [hL, hsz]
      exact Nat.succ_ne_self _
    · show h'.objs.size ∉ frs X.stack
      intro z
      rcases List.mem_cons.mp (I.stkSub _ z) with z | z
      · have := I.lt
        rw [← z, hsz] at this
        exact absurd this (Nat.not_lt.mpr (Nat.le_succ _))
      · exact I.nofs (a := h'.objs.size) (by rw [hsz]; exact Nat.le_succ _) z

/-- made, ready to be walked -/
def ReadyG (X : Cx) (pins : List (Addr × Obj)) (σ : L2.St) (P : Addr) (elt tg iter : Expr) (ifs : List Expr) (scope : Scope) (gpos : Pos) (vs : List Nat) (R : It → Hp → Prop) (v : Value) (s5 : Shared) : Prop :=
  ∃ (a it C : Addr) (code : Value) (fp : List Addr) (tn : Nat → Heap → Prop) (J : It) (H1 H2 : Hp) (s4 : Shared) (go : Obj), v = .ref a ∧ R J H1 ∧ GxR.Tabbed P H1 H2 ∧ Inv X pins σ H2 s4 ∧ (∀ b ∈ fp, FpOk X pins H2 b ∧ b < s4.heap.objs.size) ∧ C = s4.heap.objs.size ∧ a = C + 1 ∧
    Inv (gxp X s4 H2 (genv X scope C code) fp) [(a, go)] (wipe σ vs) H2 s5 ∧ Turn X.prog X.w X.K tg J fp it tn ∧ tn 0 s5.heap ∧ (∀ h : Heap, h.get? a = some go → h.IsGen a s4.gens.size) ∧
    s5.gens[s4.gens.size]? = some (.fresh (.compStart (.GeneratorExp elt [⟨tg, iter, ifs, 0⟩] scope gpos) 0 (.ref it) .none (genv X scope C code))) ∧ s4.gens.size < s5.gens.size
theorem gen_gx {c P : Addr} {elt tg iter : Expr} {ifs : List Expr} {gpos : Pos} {scope : Scope} {own : List (Str × Nat)} {wi : TI} {k : Nat} {Q' : Value → Shared → Prop} {R : It → Hp → Prop}
    (hr : Room k X.A) (hN : X.N.Nodup) (TB : GxR.TabB X.base X.mg c P) (hcode : X.env.code = .ref c) (ok : BlkOk X.N X.env.scope scope own) (S : GScp scope) (hi : PI X tg iter wi) (hs : ∀ v, genFold iter X.env v = pure v)
    (I : Inv X pins σ H s) (h : wi σ H fun J H1 => GxR.TabG H1 P ∧ R J H1) (hQ : ∀ v s5, ReadyG X pins σ P elt tg iter ifs scope gpos (own.map (·.2)) R v s5 → Q' v s5) :
    wpAny (model X.prog X.w) X.A (eval (.GeneratorExp elt [⟨tg, iter, ifs, 0⟩] scope gpos) X.env) Q' X.xe s := by
  have hfree : ∀ y ∈ scope.names, y.2 = .free → ∃ c, X.env.cells.lookup y.1 = some c := fun y hy e => by
    rcases ok.free y hy e with k | k
    · exact I.ok.has _ (.inl k)
    · exact I.ok.has _ (.inr k)
  refine wpAny_GeneratorExp_make S.co (closure_ok hfree) S.cell S.dot ok.kind (by have := hr.dp; omega) ?_ hs
  refine thn (hi.run pins s σ H _ I h) fun xv s1 h1 => thn h1 fun itv s2 h2 => ?_
  obtain ⟨it, fp, tn, J, H1, rfl, I2, T, st2, f2, ⟨ps, hP, ht⟩, q⟩ := h2
  refine ⟨I2.nolimit, ?_⟩
  have hPs : s2.heap.get? P = some { cls := .none, data := .fields ps } := I2.hok P _ hP
  have cd : PySem.W.CodeHd s2.heap c P := TB.code.keeps fun b u e => I2.bk b u e
  have cont : ∀ (code : Value) (h3 : Heap) (tk : Nat) (ps' : Array Value), Heap.ExtBut P s2.heap h3 → s2.heap.objs.size ≤ h3.objs.size → h3.get? P = some { cls := .none, data := .fields ps' } → (∃ more, ps' = ps ++ more) → TriplesOk ps'.toList →
      wpAny (model X.prog X.w) X.A (builtinsFor X.env.globals X.env.builtins) (fun bi s₄ => ∀ h', h'.Ns s₄.heap.objs.size (fun y => if y = ".0" then some (Value.ref it) else none) → Heap.SameBut s₄.heap.objs.size (s₄.heap.push { cls := .type "frame", data := .dict #[] }) h' →
          Q' (.ref h'.objs.size) { s₄ with
            gens := s₄.gens.push (.fresh (.compStart (.GeneratorExp elt [⟨tg, iter, ifs, 0⟩] scope gpos) 0 (.ref it) .none (genEnv scope (cloFrom X.env.cells scope.names []) s₄.heap.objs.size code bi X.env))),
            toks := s₄.toks + 1 + 1 + 1,
            heap := h'.push { cls := .type "generator", data := .fields #[.int s₄.gens.size 0, .str "<genexpr>" (s₄.toks + 1), .str (X.env.qual ++ "<genexpr>") (s₄.toks + 1 + 1)] } }) X.xe { s2 with heap := h3, toks := tk } := by
    intro code h3 tk ps' hx hsz hP3 hmore ht3
    obtain ⟨more, rfl⟩ := hmore
    have I4 : Inv X pins σ (upd H1 P (.tbl (ps ++ more))) { s2 with heap := h3, gens := s2.gens, drawn := s2.drawn, toks := tk } := GxR.inv_tab I2 hP (fun b o hb e => hx b o hb e) hP3 I2.bare
    obtain ⟨bm, ob, e1, e2, e3, e4, e5, e6, e7, e8⟩ := TB.bm
    refine wpAny_builtinsFor (m := X.mg) (by rw [I2.ok.glob]; exact I4.mod.glob.keeps I4.bk) e1 e2 (I4.bk _ _ e5) e6 e7 e8 ?_
    intro h' hn' hs'
    have hT : GxR.Tabbed P H1 (upd H1 P (.tbl (ps ++ more))) := ⟨⟨ps ++ more, upd_same, ht3⟩, fun b hb => upd_ne hb⟩
    have fpP : ∀ b ∈ fp, b ≠ P := fun b hb z => by
      have := (f2 b hb).1
      rw [z, hP] at this
      cases this
    have f4 : ∀ b ∈ fp, FpOk X pins (upd H1 P (.tbl (ps ++ more))) b ∧ b < h3.objs.size := fun b hb => by
      obtain ⟨o, e, _⟩ := T.obj _ _ st2 b hb
      refine ⟨⟨?_, (f2 b hb).2⟩, Nat.lt_of_lt_of_le (Heap.lt_size e) hsz⟩
      rw [upd_ne (fpP b hb)]
      exact (f2 b hb).1
    have kp0 : ∀ b o, h3.get? b = some o → h'.get? b = some o := fun b o e => hs'.extBut b o (Nat.ne_of_lt (Heap.lt_size e)) (Heap.get?_push_of_some _ e)
    have hsz' : h'.objs.size = h3.objs.size + 1 := by rw [hs'.1, Heap.size_push]
    refine hQ _ _ ⟨h'.objs.size, it, h3.objs.size, code, fp, tn, J, H1, _, { s2 with heap := h3, toks := tk }, _, rfl, q, hT, I4, f4, rfl, hsz', gx_start I4 ok S hN f4 hn' hs' ?_ ?_ ?_, T, ?_, ?_, ?_, ?_⟩
    · intro v z
      cases z
    · intro h
      exact Heap.get?_push_size _ rfl
    · rfl
    · exact T.keep _ _ _ st2 fun b hb o e => Heap.get?_push_of_some _ (kp0 b o (hx b o (fpP b hb) e))
    · exact fun h e => ⟨_, _, _, e, rfl, rfl, rfl⟩
    · exact Array.getElem?_push_size ..
    · show _ < (Array.push _ _).size
      rw [Array.size_push]
      exact Nat.lt_succ_self _
  cases hf : codeAmong gpos ps.toList with
  | none =>
    refine wpAny_genexprCodeX hcode (cd.code hPs ht) (cd.tab hPs) hf fun c' h' tk hx hge hlt hco' _ htab' _ => ?_
    obtain ⟨o1, vs, f1, tf, fl, tg', inF, tx, tt, op, _, _, _, _, _, _, _, _, _, htr, _⟩ := hco'
    exact cont _ h' tk _ hx (Nat.le_trans hge (Nat.le_of_lt hlt)) htab'.2 ⟨_, rfl⟩ htr
  | some cv =>
    refine wpAny_genexprCode_hit hcode (cd.code hPs ht) hf ?_
    exact cont cv s2.heap s2.toks ps (Heap.ExtBut.refl _ _) (Nat.le_refl _) hPs ⟨#[], by simp⟩ ht
end
section
variable {X : Cx} {elt tg iter : Expr} {ifs : List Expr} {p pos gpos : Pos} {scope : Scope} {own : List (Str × Nat)} {wi : TI} {g : TG} {tt : TT} {te : TE} {c P : Addr} {k : Nat}
/-- any([..]); behind it the def's table may have grown -/
def tAnyG (P : Addr) (wi : TI) (g : TG) (tt : TT) (te : TE) (vs : List Nat) (z : Bool) : TE := fun σ H Q => wi σ H fun J H1 => GxR.TabG H1 P ∧ ∀ H2, GxR.Tabbed P H1 H2 → ∃ W : Nat → Nat → Hp → Prop, (∃ m, W 0 m H2) ∧ TurnsG J g tt te vs σ z (fun H => Q (.bl z) H) (fun H => Q (.bl (!z)) H) W
theorem run_gx {pins : List (Addr × Obj)} {σ : L2.St} {Q : VK} {z : Bool} {v : Value} {s5 : Shared} (hr : Room k X.A) (hc : X.calm = true) (hN : X.N.Nodup) (S : GScp scope)
    (hg : ∀ (s : Shared) (H : Hp) (C : Addr) (code : Value) (fp : List Addr), PG (gxp X s H (genv X scope C code) fp) tg g) (ht : ∀ (s : Shared) (H : Hp) (C : Addr) (code : Value) (fp : List Addr), PTs (gxp X s H (genv X scope C code) fp) ifs tt)
    (he : ∀ (s : Shared) (H : Hp) (C : Addr) (code : Value) (fp : List Addr), PE (gxp X s H (genv X scope C code) fp) elt te) {vs : List Nat}
    (h : ReadyG X pins σ P elt tg iter ifs scope gpos vs (fun J H1 => ∀ H2, GxR.Tabbed P H1 H2 → ∃ W : Nat → Nat → Hp → Prop, (∃ m, W 0 m H2) ∧ TurnsG J g tt te vs σ z (fun H => Q (.bl z) H) (fun H => Q (.bl (!z)) H) W) v s5)
    (hf : ∀ (X' : Cx) (a : Addr) (go : Obj) (gN n : Nat) (gs : GenState) (H : Hp), X'.prog = X.prog → X'.w = X.w → v = .ref a → (∀ h : Heap, h.get? a = some go → h.IsGen a gN) → Inv X' [(a, go)] (wipe σ vs) H s5 → s5.gens[gN]? = some gs →
      gs.Goes (model X.prog X.w) X.A.in1.in1 (fun _ _ r s₁ => r = .ok .next ∧ EndG X' [(a, go)] (wipe σ vs) gN (fun H => Q (.bl (!z)) H) s₁) (YG X' [(a, go)] gN z (fun H => Q (.bl z) H)) n (.send .none) (s5.setGen gN .running) →
      (∀ (H : Hp) (σ' : L2.St) (s' : Shared) (pg : List (Addr × Obj)), Inv X' pg σ' H s' → Inv X pins σ H s') → wpAny (model X.prog X.w) X.A (call (.builtin (if z = true then "any" else "all")) [v]) (EP X pins σ Q) X.xe s5) :
    wpAny (model X.prog X.w) X.A (call (.builtin (if z = true then "any" else "all")) [v]) (EP X pins σ Q) X.xe s5 := by
  obtain ⟨a, it, C, code, fp, tn, J, H1, H2, s4, go, rfl, hR, hT, I4, f4, hC, ha, I5, T, st5, hgo, hgs, hlt⟩ := h
  obtain ⟨W, ⟨m, w0⟩, turn⟩ := hR H2 hT
  have haf : ∀ q ∈ [(a, go)], q.1 ∉ fp := fun q hq hm => by
    rw [List.mem_singleton.mp hq] at hm
    have := (f4 a hm).2
    rw [ha, hC] at this
    exact absurd this (by show ¬ (s4.heap.objs.size + 1 < s4.heap.objs.size); omega)
  have wk : Woke s4.gens.size s5 (s5.setGen s4.gens.size .running) := woke_set1 hlt I5.bare rfl
  refine hf (gxp X s4 H2 (genv X scope C code) fp) a go s4.gens.size (m + 1) _ H2 rfl rfl rfl hgo I5 hgs ⟨rfl, ?_⟩ fun H' σ' s' pg I' => ?_
  · exact seg_gx0 (X := gxp X s4 H2 (genv X scope C code) fp) (A := X.A.in1.in1) rfl rfl hc S.co T (fun b hb => hb) rfl haf (hg s4 H2 C code fp) (ht s4 H2 C code fp) (he s4 H2 C code fp) turn m (m + 1) _ _ H2 (Nat.lt_succ_self _) (Inv.woke I5 wk) (by rw [wk.heap]; exact st5) (fun b hb => (f4 b hb).1.1) w0 wk.gsz
  · exact I4.call' (ch := fp) I'.os I'.base I'.hok I'.bare fun b hb => ⟨(f4 b hb).1.2.2.2.1, (f4 b hb).1.2.1, (f4 b hb).1.2.2.2.2.1, (f4 b hb).1.2.2.2.2.2⟩
theorem boot_allG : bootBuiltins ("all" : Str) = some (.builtin "all") := by decide +kernel
theorem pe_anyG (hr : Room k X.A) (hc : X.calm = true) (hN : X.N.Nodup) (hgl : Gl X "any") (hm : X.mg "any" = none) (TB : GxR.TabB X.base X.mg c P) (hcode : X.env.code = .ref c) (ok : BlkOk X.N X.env.scope scope own) (S : GScp scope) (hi : PI X tg iter wi) (hs : ∀ v, genFold iter X.env v = pure v)
    (hg : ∀ (s : Shared) (H : Hp) (C : Addr) (code : Value) (fp : List Addr), PG (gxp X s H (genv X scope C code) fp) tg g) (ht : ∀ (s : Shared) (H : Hp) (C : Addr) (code : Value) (fp : List Addr), PTs (gxp X s H (genv X scope C code) fp) ifs tt)
    (he : ∀ (s : Shared) (H : Hp) (C : Addr) (code : Value) (fp : List Addr), PE (gxp X s H (genv X scope C code) fp) elt te)
    (hst : starEach [.GeneratorExp elt [⟨tg, iter, ifs, 0⟩] scope gpos] X.env = (false, eval (.GeneratorExp elt [⟨tg, iter, ifs, 0⟩] scope gpos) X.env) :: starEach [] X.env := by rfl) :
    PE X (.Call (.Name "any" p) [.GeneratorExp elt [⟨tg, iter, ifs, 0⟩] scope gpos] [] pos) (tAnyG P wi g tt te (own.map (·.2)) true) := by
  refine ⟨fun pins s σ H Q I h => ?_⟩
  refine wpAny_Call_Name_kw (ld_blt I hgl hm boot_any ?_)
  refine PyProof.Rows.callWith_builtin1 ?_ hst (by rfl)
  rw [hst]
  show wpAny _ _ (spliced ((false, eval (.GeneratorExp elt [⟨tg, iter, ifs, 0⟩] scope gpos) X.env) :: backTo pos (starEach [] X.env))) _ _ s
  refine Calls.spliced_cons (gen_gx hr hN TB hcode ok S hi hs I h fun v s5 hG => ?_)
  refine Calls.spliced_nil ?_
  refine run_gx hr hc hN S hg ht he (z := true) hG fun X' a go gN n gs H' e1 e2 ev hgo I5 hgs hgoes back => ?_
  subst ev
  refine call_function_tree F.kind_any F.plain_any F.entry_any (F.args_any1 _) ?_
  unfold Builtin.«any»
  refine wpAny_bind (m := oneArg "any" _) (wpAny_pure ?_)
  have hga := hgo s5.heap (I5.pin _ (List.mem_append_right _ (List.mem_singleton.mpr rfl))).1
  refine wpAny_bind (wpAny_pyIter_gen hga ?_)
  refine wpAny_pure ⟨plainId_quiet F.plain_any_loop _, ?_⟩
  have := any_gx (X := X') (B := X.A) (a := a) (go := go) (pg := [(a, go)]) (gN := gN) (vs := own.map (·.2)) (σ := σ) (Qs := fun H => Q (.bl true) H) (Qn := fun H => Q (.bl false) H) (Rr := fun r s' => match r with | .ok (.ret v) => EP X pins σ Q v s' | .ok _ => False | .error e => X.xe e s')
    (I.ok.hd hc) (by have := hr.dp; omega) (List.mem_singleton.mpr rfl) hgo (fun H σ' s' q I' => ⟨.bl true, H, back H σ' s' _ I', rfl, q⟩) (fun H s' q I' => ⟨.bl false, H, back H _ s' _ I', rfl, q⟩) n s5 gs (wipe σ (own.map (·.2))) H' I5 hgs (by rw [e1, e2]; exact hgoes)
  rw [e1, e2] at this
  exact this
theorem pe_allG (hr : Room k X.A) (hc : X.calm = true) (hN : X.N.Nodup) (hgl : Gl X "all") (hm : X.mg "all" = none) (TB : GxR.TabB X.base X.mg c P) (hcode : X.env.code = .ref c) (ok : BlkOk X.N X.env.scope scope own) (S : GScp scope) (hi : PI X tg iter wi) (hs : ∀ v, genFold iter X.env v = pure v)
    (hg : ∀ (s : Shared) (H : Hp) (C : Addr) (code : Value) (fp : List Addr), PG (gxp X s H (genv X scope C code) fp) tg g) (ht : ∀ (s : Shared) (H : Hp) (C : Addr) (code : Value) (fp : List Addr), PTs (gxp X s H (genv X scope C code) fp) ifs tt)
    (he : ∀ (s : Shared) (H : Hp) (C : Addr) (code : Value) (fp : List Addr), PE (gxp X s H (genv X scope C code) fp) elt te)
    (hst : starEach [.GeneratorExp elt [⟨tg, iter, ifs, 0⟩] scope gpos] X.env = (false, eval (.GeneratorExp elt [⟨tg, iter, ifs, 0⟩] scope gpos) X.env) :: starEach [] X.env := by rfl) :
    PE X (.Call (.Name "all" p) [.GeneratorExp elt [⟨tg, iter, ifs, 0⟩] scope gpos] [] pos) (tAnyG P wi g tt te (own.map (·.2)) false) := by
  refine ⟨fun pins s σ H Q I h => ?_⟩
  refine wpAny_Call_Name_kw (ld_blt I hgl hm boot_allG ?_)
  refine PyProof.Rows.callWith_builtin1 ?_ hst (by rfl)
  rw [hst]
  show wpAny _ _ (spliced ((false, eval (.GeneratorExp elt [⟨tg, iter, ifs, 0⟩] scope gpos) X.env) :: backTo pos (starEach [] X.env))) _ _ s
  refine Calls.spliced_cons (gen_gx hr hN TB hcode ok S hi hs I h fun v s5 hG => ?_)
  refine Calls.spliced_nil ?_
  refine run_gx hr hc hN S hg ht he (z := false) hG fun X' a go gN n gs H' e1 e2 ev hgo I5 hgs hgoes back => ?_
  subst ev
  refine call_function_tree F.kind_all F.plain_all F.entry_all (F.args_all1 _) ?_
  unfold Builtin.«all»
  refine wpAny_bind (m := oneArg "all" _) (wpAny_pure ?_)
  have hga := hgo s5.heap (I5.pin _ (List.mem_append_right _ (List.mem_singleton.mpr rfl))).1
  refine wpAny_bind (wpAny_pyIter_gen hga ?_)
  refine wpAny_pure ⟨plainId_quiet F.plain_all_loop _, ?_⟩
  have := all_gx (X := X') (B := X.A) (a := a) (go := go) (pg := [(a, go)]) (gN := gN) (vs := own.map (·.2)) (σ := σ) (Qs := fun H => Q (.bl false) H) (Qn := fun H => Q (.bl true) H) (Rr := fun r s' => match r with | .ok (.ret v) => EP X pins σ Q v s' | .ok _ => False | .error e => X.xe e s')
    (I.ok.hd hc) (by have := hr.dp; omega) (List.mem_singleton.mpr rfl) hgo (fun H σ' s' q I' => ⟨.bl false, H, back H σ' s' _ I', rfl, q⟩) (fun H s' q I' => ⟨.bl true, H, back H _ s' _ I', rfl, q⟩) n s5 gs (wipe σ (own.map (·.2))) H' I5 hgs (by rw [e1, e2]; exact hgoes)
  rw [e1, e2] at this
  exact this
end
end Gx
set_option maxHeartbeats 2000000
/-! Fm8: any, all of generator expressions; more of lists, tuples, tests. -/
namespace Fm
open PySem PySem.Spec PyProof.Rows L2 Gx

theorem Good.tab {k : Kx} {w : Wd} {P : Addr} {H2 : Hp} (g : Good k w) (hP : P ∈ k.T.tb) (hPl : ∀ p ∈ k.T.tl, p.1 ≠ P) (t : GxR.Tabbed P w.H H2) : Good k ⟨w.S, H2, w.j⟩ ∧ Le k w ⟨w.S, H2, w.j⟩ := by
  obtain ⟨⟨ps, e, _⟩, hSP⟩ := g.tabs P hP
  obtain ⟨tP, tn⟩ := t
  have sb : Sub w.S H2 := fun a u ha => by
    have nP : a ≠ P := fun z => by
      rw [z, hSP] at ha
      cases ha
    rw [tn a nP]
    exact g.sub a u ha
  refine ⟨⟨sb, fun q hq => ?_, fun P' hP' => ?_, fun q hq => ⟨?_, (g.lams q hq).2⟩⟩, fun a u ha hu _ => ?_, Sub.refl _, fun a ha _ => ha, fun a ha z => ?_, sb⟩
  · obtain ⟨h1, h2⟩ := g.jar q hq
    refine ⟨?_, h2⟩
    show H2 q = _
    rw [tn q (fun z => by rw [z, e] at h1; cases h1)]
    exact h1
  · obtain ⟨t', hS'⟩ := g.tabs P' hP'
    refine ⟨?_, hS'⟩
    by_cases z : P' = P
    · rw [z]
      exact tP
    · obtain ⟨ps', e', r'⟩ := t'
      exact ⟨ps', by show H2 P' = _; rw [tn P' z]; exact e', r'⟩
  · obtain ⟨ps', h1, h2, h3⟩ := (g.lams q hq).1
    refine ⟨ps', by show H2 q.1 = _; rw [tn _ (hPl q hq)]; exact h1, h2, fun pos cv hc => ?_⟩
    obtain ⟨c, e1, e2⟩ := h3 pos cv hc
    refine ⟨c, e1, ?_⟩
    show H2 c = _
    rw [tn c (fun z => by rw [z, e] at e2; unfold LamX.CodeO at e2; cases e2)]
    exact e2
  · show H2 a = _
    rw [tn a (fun z => hu ps (by rw [z, e] at ha; exact (Option.some.inj ha).symm))]
    exact ha
  · have z2 : H2 a = none := z
    by_cases y : a = P
    · obtain ⟨ps', e', _⟩ := tP
      rw [y, e'] at z2
      cases z2
    · rw [tn a y] at z2
      exact ha z2

/-- data bound to a target in a generator expression, to its own slots vs -/
def TgtG (X : Cx) (scope : Scope) (vs : List Nat) (tg : Expr) {α : Type} (A : RT X.K α) (bind : α → List (Slot X.K) → List (Slot X.K)) : Prop :=
  ∃ g, (∀ (s : Shared) (H : Hp) (C : Addr) (code : Value) (fp : List Addr), PG (gxp X s H (genv X scope C code) fp) tg g) ∧
    ∀ (k : Kx) (w0 : Wd) (Γ : List (Slot X.K)) (j : Int × Int) σ w v x, At X.K k w0 Γ σ w j → A.r w.S v x → ∀ Q : L2.St → Hp → Prop, (∀ σ', At X.K k w0 (bind x Γ) σ' w j → L2.wipe σ' vs = L2.wipe σ vs → Q σ' w.H) → g v σ w.H Q
def GE (X : Cx) (scope : Scope) (e : Expr) : TE := fun σ H Q => ∀ (s : Shared) (H0 : Hp) (C : Addr) (code : Value) (fp : List Addr), WE (gxp X s H0 (genv X scope C code) fp) e σ H Q
theorem CxOk.gx {X : Cx} (ok : CxOk X) (s : Shared) (H : Hp) (scope : Scope) (C : Addr) (code : Value) (fp : List Addr) (hu : X.A.units + 80 < cLine) : CxOk (gxp X s H (genv X scope C code) fp) := ⟨ok.calm, ok.nd, PassesOwn.never, ok.blt, by
  show X.A.units + 1 + 1 + 3 + 65 < cLine
  omega, ok.gd⟩
theorem room_gx {X : Cx} {lev : Nat} {env : Env} (r : Room (lev + 3) X.A) : Room lev (X.A.in1.in1.deeper env) := Room.deeper (Room.in1 (Room.in1 r)) env
/-- the def's code object has a table that is tracked -/
structure Tabs (X : Cx) (k : Kx) (P : Addr) : Prop where
  ex : ∃ c, X.env.code = .ref c ∧ GxR.TabB X.base X.mg c P
  mem : P ∈ k.T.tb
  ntl : ∀ p ∈ k.T.tl, p.1 ≠ P
section
variable {X : Cx} {k : Kx} {w0 : Wd} {Γ : List (Slot X.K)} {j j1 j2 j3 : Int × Int} {e a b c tg iter elt : Expr} {es : List Expr} {α β γ : Type} {A : RT X.K α} {B : RT X.K β} {C : RT X.K γ} {x y : α} {z : β} {xs ys : List α} {pos p2 p3 p4 gpos : Pos} {scope : Scope} {vs : List Nat} {own : List (Str × Nat)} {P : Addr} {lev : Nat}
theorem tq_name (i : Nat) {n : Str} (hN : X.N.Nodup) (hi : X.N[i]? = some n) (hx : scope.names.lookup n = some .local) (hv : i ∈ vs := by exact List.mem_cons_self) : TgtG X scope vs (.Name n pos) A (fun x Γ => Γ.set i (.im A x)) :=
  ⟨gName i, fun s H C cl fp => pg_name hN hi (.inl hx) (.inr hx), fun k w0 Γ j σ w v x h hr Q q => q _ (h.set i hr) (wipe_set hv)⟩
theorem ge_pe (s : Shared) (H0 : Hp) (C : Addr) (code : Value) (fp : List Addr) : PE (gxp X s H0 (genv X scope C code) fp) e (GE X scope e) := ⟨fun pins s' σ H Q I h => h s H0 C code fp pins s' I⟩
theorem turns_gx {g : TG} {σ : L2.St} {w1 : Wd} {H2 : Hp} {J : It} {G : Hp → Prop} {Y : Nat → Hp → V → Hp → Prop} {p : α → Bool} {zb : Bool} {bind : α → List (Slot X.K) → List (Slot X.K)} {Q : VK}
    (htgt : ∀ (k : Kx) (w0 : Wd) (Γ : List (Slot X.K)) (j : Int × Int) σ w v x, At X.K k w0 Γ σ w j → A.r w.S v x → ∀ Q : L2.St → Hp → Prop, (∀ σ', At X.K k w0 (bind x Γ) σ' w j → L2.wipe σ' vs = L2.wipe σ vs → Q σ' w.H) → g v σ w.H Q)
    (a1 : At X.K k w0 Γ σ w1 j1) (wk : Walk J xs.length G Y) (hG : ∀ w', Sub w1.S w'.S → Good k w' → Le k w1 w' → G w'.H)
    (hY : ∀ i w' x H', i < xs.length → Sub w1.S w'.S → Good k w' → Y i w'.H x H' → ∃ w2, H' = w2.H ∧ Le k w' w2 ∧ Good k w2 ∧ w2.j = w'.j ∧ ∃ a, xs[i]? = some a ∧ A.r w2.S x a)
    (hP : P ∈ k.T.tb) (hPl : ∀ p ∈ k.T.tl, p.1 ≠ P) (ht : GxR.Tabbed P w1.H H2)
    (he : ∀ i x, xs[i]? = some x → (∀ y ∈ xs.take i, p y = !zb) → ∀ (s : Shared) (H : Hp) (C : Addr) (code : Value) (fp : List Addr), EvD (gxp X s H (genv X scope C code) fp) k w0 (bind x (wipeG Γ vs)) j1 elt rBl (p x) j1)
    (q : ∀ b w', At X.K k w0 Γ σ w' j1 → Le k w1 w' → (b = zb ↔ ∃ x ∈ xs, p x = zb) → Q (.bl b) w'.H) :
    ∃ W : Nat → Nat → Hp → Prop, (∃ m, W 0 m H2) ∧ TurnsG J g tYes (GE X scope elt) vs σ zb (fun H => Q (.bl zb) H) (fun H => Q (.bl (!zb)) H) W := by
  obtain ⟨g2, l2⟩ := a1.good.tab hP hPl ht
  have aw := (a1.wipe vs).up l2 g2 a1.jar
  refine ⟨fun i m H => m = xs.length - i ∧ i ≤ xs.length ∧ ∃ w2, w2.H = H ∧ At X.K k w0 (wipeG Γ vs) (L2.wipe σ vs) w2 j1 ∧ Le k w1 w2 ∧ ∀ y ∈ xs.take i, p y = !zb, ⟨xs.length, rfl, Nat.zero_le _, ⟨w1.S, H2, w1.j⟩, rfl, aw, l2, fun y hy => by simp at hy⟩, ?_⟩
  rintro i m H ⟨rfl, hi, w2, rfl, a2, e2, hp⟩
  have qg := hG w2 e2.sub a2.good e2
  have back : ∀ {w' : Wd}, Good k w' → w'.j = j1 → Le k w1 w' → At X.K k w0 Γ σ w' j1 := fun g' hj e' => a1.up e' g' hj
  by_cases hlt : i < xs.length
  · refine .inr ⟨wk.goes i _ hlt qg, fun H => ∃ w2, w2.H = H ∧ At X.K k w0 (wipeG Γ vs) (L2.wipe σ vs) w2 j1 ∧ Le k w1 w2 ∧ ∀ y ∈ xs.take (i + 1), p y = !zb, fun H' h' => ⟨xs.length - (i + 1), by omega, rfl, hlt, h'⟩, fun v H' y => ?_⟩
    obtain ⟨w3, rfl, e3, g3, j3, x, hx, rx⟩ := hY i w2 v H' hlt e2.sub a2.good (wk.yields i _ v H' hlt qg y)
    have a3 := a2.up e3 g3 (j3.trans a2.jar)
    refine htgt k w0 _ j1 _ w3 v x a3 rx _ fun σ' a4 hw4 => ⟨hw4.trans wipe_wipe, ?_⟩
    show GE X scope elt σ' w3.H _
    intro s H0 C code fp
    refine he i x hx hp s H0 C code fp σ' w3 a4 _ fun u w5 a5 e5 r5 => ⟨p x, r5, ?_⟩
    have e15 : Le k w1 w5 := (e2.trans e3).trans e5
    have hxm : x ∈ xs := List.mem_of_getElem? hx
    by_cases hr : p x = zb
    · rw [if_pos hr]
      exact q zb w5 (back a5.good a5.jar e15) e15 ⟨fun _ => ⟨x, hxm, hr⟩, fun _ => rfl⟩
    · rw [if_neg hr]
      refine ⟨w5, rfl, a3.up e5 a5.good a5.jar, e15, fun y hy => ?_⟩
      rw [List.take_add_one, hx] at hy
      rcases List.mem_append.mp hy with h | h
      · exact hp y h
      · have : y = x := by simpa using h
        rw [this]
        cases hpx : p x <;> cases zb <;> simp_all
  · have hin : i = xs.length := by omega
    subst hin
    rw [List.take_length] at hp
    refine .inl ⟨wk.stops _ qg, q (!zb) w2 (back a2.good a2.jar e2) e2 ⟨fun h => ?_, fun ⟨x, hx, hpx⟩ => ?_⟩⟩
    · cases zb <;> cases h
    · rw [hp x hx] at hpx
      exact hpx
theorem d_anyG {p : α → Bool} {bind : α → List (Slot X.K) → List (Slot X.K)} (ok : CxOk X) (hr : Room lev X.A) (T : Tabs X k P) (bok : BlkOk X.N X.env.scope scope own) (S : GScp scope) (hsrc : Src false X k w0 Γ j tg iter A xs j1) (htg : TgtG X scope (own.map (·.2)) tg A bind)
    (he : ∀ i x, xs[i]? = some x → (∀ y ∈ xs.take i, p y = !true) → ∀ (s : Shared) (H : Hp) (C : Addr) (code : Value) (fp : List Addr), EvD (gxp X s H (genv X scope C code) fp) k w0 (bind x (wipeG Γ (own.map (·.2)))) j1 elt rBl (p x) j1)
    (hgl : Gl X "any" := by rfl) (hs : ∀ v, genFold iter X.env v = pure v := by intro _; rfl) (hst : starEach [.GeneratorExp elt [⟨tg, iter, [], 0⟩] scope gpos] X.env = (false, eval (.GeneratorExp elt [⟨tg, iter, [], 0⟩] scope gpos) X.env) :: starEach [] X.env := by rfl) :
    EvD X k w0 Γ j (.Call (.Name "any" p2) [.GeneratorExp elt [⟨tg, iter, [], 0⟩] scope gpos] [] pos) rBl (xs.any p) j1 := by
  obtain ⟨⟨c, hcode, TB⟩, hP, hPl⟩ := T
  obtain ⟨wi, hwi, src⟩ := hsrc
  obtain ⟨g, hg, htgt⟩ := htg
  intro σ w at0 Q q
  refine WE.of (pe_anyG hr ok.calm ok.nd hgl (blt_len ok) TB hcode bok S hwi hs hg (fun _ _ _ _ _ => pts_nil) ge_pe hst) ?_
  refine src σ w at0 _ fun J w1 G Y a1 e1 wk hG hY => ⟨(a1.good.tabs P hP).1, fun H2 ht => ?_⟩
  refine turns_gx htgt a1 wk hG hY hP hPl ht he fun b w' a' e' hb => q _ w' a' (e1.trans e') ?_
  show V.bl b = V.bl (xs.any p)
  congr 1
  rw [Bool.eq_iff_iff, List.any_eq_true]
  exact hb
theorem d_allG {p : α → Bool} {bind : α → List (Slot X.K) → List (Slot X.K)} (ok : CxOk X) (hr : Room lev X.A) (T : Tabs X k P) (bok : BlkOk X.N X.env.scope scope own) (S : GScp scope) (hsrc : Src false X k w0 Γ j tg iter A xs j1) (htg : TgtG X scope (own.map (·.2)) tg A bind)
    (he : ∀ i x, xs[i]? = some x → (∀ y ∈ xs.take i, p y = !false) → ∀ (s : Shared) (H : Hp) (C : Addr) (code : Value) (fp : List Addr), EvD (gxp X s H (genv X scope C code) fp) k w0 (bind x (wipeG Γ (own.map (·.2)))) j1 elt rBl (p x) j1)
    (hgl : Gl X "all" := by rfl) (hs : ∀ v, genFold iter X.env v = pure v := by intro _; rfl) (hst : starEach [.GeneratorExp elt [⟨tg, iter, [], 0⟩] scope gpos] X.env = (false, eval (.GeneratorExp elt [⟨tg, iter, [], 0⟩] scope gpos) X.env) :: starEach [] X.env := by rfl) :
    EvD X k w0 Γ j (.Call (.Name "all" p2) [.GeneratorExp elt [⟨tg, iter, [], 0⟩] scope gpos] [] pos) rBl (xs.all p) j1 := by
  obtain ⟨⟨c, hcode, TB⟩, hP, hPl⟩ := T
  obtain ⟨wi, hwi, src⟩ := hsrc
  obtain ⟨g, hg, htgt⟩ := htg
  intro σ w at0 Q q
  refine WE.of (pe_allG hr ok.calm ok.nd hgl (blt_len ok) TB hcode bok S hwi hs hg (fun _ _ _ _ _ => pts_nil) ge_pe hst) ?_
  refine src σ w at0 _ fun J w1 G Y a1 e1 wk hG hY => ⟨(a1.good.tabs P hP).1, fun H2 ht => ?_⟩
  refine turns_gx htgt a1 wk hG hY hP hPl ht he fun b w' a' e' hb => q _ w' a' (e1.trans e') ?_
  show V.bl b = V.bl (xs.all p)
  congr 1
  cases b with
  | false =>
    obtain ⟨x, hx, hpx⟩ := hb.mp rfl
    symm
    rw [Bool.eq_false_iff]
    intro h
    rw [List.all_eq_true] at h
    rw [h x hx] at hpx
    cases hpx
  | true =>
    symm
    rw [List.all_eq_true]
    intro x hx
    by_cases h : p x = true
    · exact h
    · exact absurd (hb.mpr ⟨x, hx, by simpa using h⟩) (by decide)
end
end Fm
set_option maxHeartbeats 2000000
/-! EnT: enumerate of a tuple. -/
namespace Gx
open PySem PySem.Spec PyProof.Rows L2
open AutoSeq1 (wpAny_loadPart')
theorem meets_enumerate_newT (l : Addr) (items : Array Value) (n : Nat) (dct : Option Addr) (sl : Array (Option Value)) :
    Meets (Builtin.«enumerate.__new__» ⟨[.type "enumerate", .ref l], []⟩) (fun _ R s => s.heap.get? l = some { cls := .type "tuple", dict := dct, data := .seq items n, slots := sl } ∧
      R (.ok (.ret (.ref (s.heap.push { cls := .type "tuple_iterator", data := .fields #[.ref l, .int 0 0] }).objs.size)))
        { s with heap := (s.heap.push { cls := .type "tuple_iterator", data := .fields #[.ref l, .int 0 0] }).push { cls := .type "enumerate", data := .fields #[.none, .bool false, .ref s.heap.objs.size, rawInt 0, .none, .none] } }) :=
  .of_wp fun prog w A R s h => by
    obtain ⟨hp, g, d, tk, os⟩ := s; obtain ⟨hl, h⟩ := h
    have hsub := sub_enumerate
    have hL : Heap.IsTuple (Shared.heap ⟨hp, g, d, tk, os⟩) l items := ⟨_, hl, rfl, n, rfl⟩
    wp_walk using wpAny_loadPart' hl
    refine wpAny_stack_any fun st => wpAny_pure ?_
    split
    · rename_i c _ _ _ _ _
      cases (c == Value.type "enumerate")
      · wp_walk using wpAny_loadPart' hl, wpAny_pyIter_tuple hL
        exact ⟨_, rfl, h⟩
      · wp_walk using wpAny_loadPart' hl, wpAny_pyIter_tuple hL
        exact ⟨_, rfl, h⟩
    · wp_walk using wpAny_loadPart' hl, wpAny_pyIter_tuple hL
      exact ⟨_, rfl, h⟩
section
variable {prog : Program} {w : World} {A : Around} {E : Value → Shared → Prop} {s : Shared}
theorem call_enumerate_tuple {l : Addr} {items : Array Value} {Q : Value → Shared → Prop} (hL : s.heap.IsTuple l items)
    (h : ∀ h', IsEnum h' (s.heap.objs.size + 1) s.heap.objs.size 0 .none → h'.IsTupleIter s.heap.objs.size l 0 → h'.objs.size = s.heap.objs.size + 2 →
      (∀ b o, s.heap.get? b = some o → h'.get? b = some o) → Q (.ref (s.heap.objs.size + 1)) { s with heap := h' }) :
    wpAny (model prog w) A (call (.type "enumerate") [.ref l]) Q E s := by
  obtain ⟨⟨c, dct, dt, sl⟩, hl, hc, n, hd⟩ := hL
  replace hc : c = .type "tuple" := hc
  replace hd : dt = .seq items n := hd
  subst hc hd
  refine callType_new F.called_enumerate (by decide) (F.typeCall_enumerate_1 _) (F.newCall_enumerate_1 _) (fun obj => F.args_object_init_2 obj _) F.entry_enumerate_new
    (meets_enumerate_newT l items n dct sl) ⟨hl, ?_⟩
  have hz : (s.heap.push { cls := .type "tuple_iterator", data := .fields #[.ref l, .int 0 0] }).objs.size = s.heap.objs.size + 1 := Heap.size_push ..
  show _ ∧ _
  rw [hz]
  have he : IsEnum ((s.heap.push { cls := .type "tuple_iterator", data := .fields #[.ref l, .int 0 0] }).push
      { cls := .type "enumerate", data := .fields #[.none, .bool false, .ref s.heap.objs.size, rawInt 0, .none, .none] }) (s.heap.objs.size + 1) s.heap.objs.size 0 .none := by
    have := Heap.get?_push_size (s.heap.push { cls := .type "tuple_iterator", data := .fields #[.ref l, .int 0 0] })
      (o := { cls := .type "enumerate", data := .fields #[.none, .bool false, .ref s.heap.objs.size, rawInt 0, .none, .none] }) rfl
    rw [hz] at this; exact this
  refine ⟨⟨_, he, rfl⟩, h _ he ⟨_, Heap.get?_push_of_some _ (Heap.get?_push_size _ rfl), rfl, rfl⟩ (by rw [Heap.size_push, hz]) fun b o x => Heap.get?_push_of_some _ (Heap.get?_push_of_some _ x)⟩
theorem draws_tup {it a : Addr} {its : Array Value} (hh : A.handled = none) (hne : a ≠ it) : Draws prog w A it [it, a] its.size (fun i x => its[i]? = some x) (fun i h => h.IsTupleIter it a i ∧ h.IsTuple a its) where
  live := fun i h ⟨⟨o, ho, _⟩, _⟩ => ⟨o, ho⟩
  frame := fun i h h' st k => ⟨st.1.at fun o e => k it (by simp) o e, let ⟨o, ho, r⟩ := st.2; ⟨o, k a (by simp) o ho, r⟩⟩
  item := fun i s Q E hi st hQ => RZ.nextOf_tuple_item st.1 st.2 (x := its[i]) (by simp [hi]) fun h' st' sb => hQ _ h' s.toks (by simp [hi]) ⟨st', let ⟨o, ho, r⟩ := st.2; ⟨o, sb.extBut a o hne ho, r⟩⟩ sb
  done := fun s Q E st hE => RZ.nextOf_tuple_end hh st.1 st.2 (by simp) fun h' e he hx => hE h' e he hx
end
/-- the tuple at a as it stands at each turn, each item in a new pair -/
def IteT (K : PySem.W.Frag) (a : Addr) : It :=
  ⟨fun i H => ∃ (xs : List V) (x : V), SqT K H a xs ∧ xs[i]? = some x, fun i H v H' => ∃ T x, v = .ref T ∧ H T = none ∧ H' = upd H T (.tup [.int (i : Nat), x]) ∧ ∀ xs, SqT K H a xs → xs[i]? = some x, fun i H => ∃ xs : List V, SqT K H a xs ∧ xs.length = i⟩
theorem turn_enumT {P : Program} {w : World} {K : PySem.W.Frag} {elts : List Expr} {kk : Nat} {tpos : Pos} (a e it : Addr) (hai : a ≠ it) (hae : a ≠ e) :
    Turn P w K (.Tuple elts kk tpos) (IteT K a) [e, it] e (fun i h => (∃ old, IsEnum h e it ((i : Nat) : Int) old) ∧ h.IsTupleIter it a i ∧ e ≠ it) where
  mem := by simp
  obj := fun i h st b hb => by
    obtain ⟨⟨old, he⟩, ⟨o, ho, hc, hd⟩, _⟩ := st
    have e' : b = e ∨ b = it := by simpa using hb
    rcases e' with z | z
    · rw [z]; exact ⟨_, he, fun v q => nomatch q⟩
    · rw [z]; exact ⟨o, ho, fun v q => by rw [hd] at q; cases q⟩
  keep := fun i h h' st k => let ⟨⟨old, he⟩, hi, hne⟩ := st; ⟨⟨old, k e (by simp) _ he⟩, hi.at fun o q => k it (by simp) o q, hne⟩
  item := by
    intro X hP hw hK hc i pins s σ H E I hf st hg
    subst hP hw hK
    obtain ⟨⟨old, he⟩, hit, hne⟩ := st
    obtain ⟨xs, x, hq, hx⟩ := hg
    obtain ⟨its, rv, p, hz⟩ := I.tuple hq
    obtain ⟨u, hu, ru⟩ := rv.get hx
    have hel : e < s.heap.objs.size := Heap.lt_size he
    have hil : it < s.heap.objs.size := by obtain ⟨_, q, _⟩ := hit; exact Heap.lt_size q
    have hui : its.toArray[i]? = some u := by simpa using hu
    have hlt : i < its.toArray.size := (Array.getElem?_eq_some_iff.mp hui).1
    refine wpAny_pyNext_enum_itemD (draws_tup (its := its.toArray) (I.ok.hd hc) hai) he ⟨hit, show s.heap.IsTuple a its.toArray from p⟩ hlt hne (fun z => ?_) fun u' h' tk hu' ho hit' hT hsz hk => ?_
    · rcases List.mem_cons.mp z with z | z
      · exact hne z
      · exact hae (List.mem_singleton.mp z).symm
    rw [hui] at hu'
    have euu : u = u' := Option.some.inj hu'
    subst euu
    refine ⟨_, rfl, wpAny_letOwnedTupleGo_enum (s := { s with heap := h', toks := tk + 1 }) ho fun h'' he' sb => ?_⟩
    have hT2 : h''.get? s.heap.objs.size = some { cls := .type "tuple", data := .seq #[.int i tk, u] } := (sb.2 _ (Nat.ne_of_gt hel)).trans hT
    have new : ObjOk X.prog X.w (upd H s.heap.objs.size (.tup [.int (i : Nat), x])) h'' s.heap.objs.size (.tup [.int (i : Nat), x]) :=
      ⟨by show 2 ≤ sizeLine; decide, [.int i tk, u], .cons ⟨_, rfl⟩ (.cons ru .nil), ⟨_, hT2, rfl, _, rfl⟩⟩
    have I1 : Inv X pins σ (upd H s.heap.objs.size (.tup [.int (i : Nat), x])) { s with heap := h'', toks := tk + 1 } :=
      I.turnedNew (ch := [e, it]) (fun b ob hb q => (sb.2 b (fun z => hb (by simp [z]))).trans (hk b ob (fun z => hb (by simp [z])) (fun z => hb (by simp [z])) q)) hf (Nat.le_refl _) new
    refine ⟨.ref s.heap.objs.size, _, I1, rfl, ⟨_, x, rfl, I.hok.fresh (Nat.le_refl _), rfl, fun ys hy => by rw [I.tuple_inj hy hq]; exact hx⟩, ⟨⟨u, ?_⟩, hit'.1.at fun o q => (sb.2 it (Ne.symm hne)).trans q, hne⟩, fun b hb => ?_⟩
    · have e1 : ((i + 1 : Nat) : Int) = (i : Int) + 1 := by omega
      rw [e1]; exact he'
    · have hb' : b < s.heap.objs.size := by
        have e' : b = e ∨ b = it := by simpa using hb
        rcases e' with z | z
        · rw [z]; exact hel
        · rw [z]; exact hil
      rw [upd_ne (Nat.ne_of_lt hb')]
      exact (hf b hb).1
  done := by
    intro X hP hw hK hc i pins s σ H E I hf st hg
    subst hP hw hK
    obtain ⟨⟨old, he⟩, hit, hne⟩ := st
    obtain ⟨xs, hq, hx⟩ := hg
    obtain ⟨its, rv, p, hz⟩ := I.tuple hq
    obtain ⟨f0, f1, f2, f3, f4, f5⟩ := hf it (by simp)
    have hl := rv.length
    have hsz : its.toArray.size = i := by simp; omega
    exact wpAny_pyNext_enum_endD (draws_tup (its := its.toArray) (I.ok.hd hc) hai) he (by rw [hsz]; exact ⟨hit, show s.heap.IsTuple a its.toArray from p⟩) fun h' eb => ⟨rfl, I.turned (t' := s.toks) (fun b o hb q => eb b o hb q) f0 f1 f3 f4 f5⟩
  self := fun A i s Q E st h => let ⟨⟨_, he⟩, _⟩ := st; wpAny_pyIter_enum he h
def iEnumT (K : PySem.W.Frag) (ta : TA) : TI := fun σ H R => ta σ H fun vs H1 => ∃ a xs, vs = [.ref a] ∧ SqT K H1 a xs ∧ R (IteT K a) H1
theorem pi_enumT {X : Cx} {e : Expr} {ta : TA} {p pos tpos : Pos} {elts : List Expr} {kk : Nat} (hg : Gl X "enumerate") (hm : X.mg "enumerate" = none) (ha : PA X [e] ta) (hs : starEach [e] X.env = [(false, eval e X.env)] := by rfl) :
    PI X (.Tuple elts kk tpos) (.Call (.Name "enumerate" p) [e] [] pos) (iEnumT X.K ta) := by
  refine ⟨fun pins s σ H R I h => ?_⟩
  refine Call_ (ld_blt I hg hm boot_enumerate (PyProof.Rows.callWith_type1 (thn (ha.run pos pins s σ H _ I h) fun us s1 ⟨vs, H1, I1, r1, q1⟩ => ?_) hs rfl))
  obtain ⟨a, xs, ex, hq, q⟩ := q1
  subst ex
  cases r1 with
  | cons r rr =>
    cases rr
    cases r
    obtain ⟨its, rv, p', hz⟩ := I1.tuple hq
    have hal : a < s1.heap.objs.size := by obtain ⟨_, q, _⟩ := p'; exact Heap.lt_size q
    refine call_enumerate_tuple (show s1.heap.IsTuple a its.toArray from p') fun h' he hit hsz hk => wpAny_pyIter_enum he ?_
    have I2 : Inv X pins σ H1 { s1 with heap := h' } := I1.kept (t' := s1.toks) hk
    refine ⟨s1.heap.objs.size + 1, [s1.heap.objs.size + 1, s1.heap.objs.size], _, _, H1, rfl, I2, turn_enumT a (s1.heap.objs.size + 1) s1.heap.objs.size (Nat.ne_of_lt hal) (Nat.ne_of_lt (Nat.lt_succ_of_lt hal)), ⟨⟨.none, he⟩, hit, Nat.succ_ne_self _⟩, fun b hb => ?_, q⟩
    have e' : b = s1.heap.objs.size + 1 ∨ b = s1.heap.objs.size := by simpa using hb
    have hle : s1.heap.objs.size ≤ b := by
      rcases e' with z | z
      · rw [z]; exact Nat.le_add_right _ _
      · rw [z]; exact Nat.le_refl _
    exact I1.fpOk hle (I1.hok.fresh hle)
theorem walk_enumT {K : PySem.W.Frag} {a : Addr} {xs : List V} : Walk (IteT K a) xs.length (fun H => SqT K H a xs) (YPair (fun i => some (.int (i : Nat))) (fun i => xs[i]?)) := by
  refine ⟨fun i _ hi q => ⟨xs, xs[i], q, by simp [hi]⟩, fun _ q => ⟨xs, q, rfl⟩, fun i H v H' _ q y => ?_⟩
  obtain ⟨T, x, h1, h2, h3, h4⟩ := y
  exact ⟨T, .int (i : Nat), x, h1, h2, h3, rfl, h4 xs q⟩
end Gx
set_option maxHeartbeats 2000000
/-! Fm9: enumerate, order, sorting, repr, isinstance, gcd, in, +. -/
namespace Fm
open PySem PySem.Spec PyProof.Rows L2 Gx

/-! ### repr of a tuple that reads as data -/
theorem call_repr_tup {prog : Program} {w : World} {A : Around} {E : Value → Shared → Prop} {s : Shared} {a : Addr} {ds : List PyData} {as : List Addr} {Q : Value → Shared → Prop} (r : Reads s.heap (.ref a) (.tuple ds) as) (hs : (PyData.tuple ds).showable = true) (hl : (PyData.tuple ds).canLay0 = true) (hz : (PyData.tuple ds).shown.length ≤ sizeLine)
    (hg : A.guards = some []) (hu : A.units + 1 + (PyData.tuple ds).depth + 1 < cLine) (hQ : ∀ h' u tk, (∀ b o, s.heap.get? b = some o → h'.get? b = some o) → Q (.str (PyData.tuple ds).shown u) { s with heap := h', toks := tk }) :
    wpAny (model prog w) A (call (.builtin "repr") [.ref a]) Q E s := by
  have hnd := PyData.hasDict_of_canLay _ hl
  have hz' : (tupleText (PyData.shownAll ds)).length ≤ sizeLine := by simpa only [PyData.shown] using hz
  cases r with
  | tuple h1 h2 h3 h4 =>
    obtain ⟨bs, hb, hk⟩ := ReprAllK.of_readsAll (prog := prog) (w := w) h4 (by simpa [PyData.showable] using hs) (fun hx => by
      have : (PyData.tuple ds).hasDict = true := by simpa [PyData.hasDict] using hx
      rw [hnd] at this
      cases this) (fun t ht => Nat.le_trans (tupleText_mem_le ht) hz')
    have r : Reads s.heap (.ref a) (.tuple ds) _ := .tuple h1 h2 h3 h4
    have hna : a ∉ bs := not_mem_of_deeper r (by simp only [PyData.depth]; omega) hb
    simp only [PyData.depth] at hu
    simp only [PyData.shown] at hQ
    have hTy : s.TypeIs (.ref a) "tuple" := ⟨_, h1, h2⟩
    refine call_repr_slot (by omega) hTy F.slot_tuple_repr ?_
    exact call_tuple_reprK h1 h2 h3 hna hk (show A.in1.guards = some [] from hg) (fun b _ => Clear.nil b) (by show A.units + 1 + (_ + 1) < cLine; omega) (fun _ _ e => e) (fun h' u tk hk' => ⟨_, u, rfl, hQ h' u tk hk'⟩) hz'

/-! ### sorted of any walked thing -/
section
variable {prog : Program} {w : World} {A : Around} {E : Value → Shared → Prop} {s : Shared}
open PySem.W PySem.Calls
theorem sorted_ofG {arg : Value} {vs : List Value} {kw : List (Str × Value)} {Q : Value → Shared → Prop} (hcol : ∀ (A' : Around) (Q' : List Value → Shared → Prop) (E' : Value → Shared → Prop), A'.handled = A.handled → (∀ h', (∀ b o, s.heap.get? b = some o → h'.get? b = some o) → Q' vs { s with heap := h' }) → wpAny (model prog w) A' (collect arg) Q' E' s)
    (hL : vs.length ≤ sizeLine) (ha1 : argsOk "sorted" ⟨[arg], kw⟩) (ha2 : ∀ x, argsOk "list.sort" ⟨[.ref x], kw⟩)
    (body : ∀ (h' : Heap) (E' : Value → Shared → Prop), (∀ b o, s.heap.get? b = some o → h'.get? b = some o) → wpAny (model prog w) A.in1.in1 (Builtin.«list.sort» ⟨[.ref h'.objs.size], kw⟩) (fun f s' => f = .done (.ret .none) ∧ Q (.ref h'.objs.size) s') E' { s with heap := h'.push (seqObj "list" vs.toArray 0) }) :
    wpAny (model prog w) A (call (.builtin "sorted") [arg] kw) Q E s := by
  refine call_function_entry_kw kind_sorted plain_sorted entry_sorted ha1 ?_
  unfold Builtin.«sorted»
  refine wpAny_bind (m := checkCount "sorted" 1 1 _) (wpAny_pure ?_)
  refine wpAny_bind (hcol _ _ _ rfl fun h' hk => ?_)
  refine wpAny_bind (wpAny_newList ?_ hL)
  refine wpAny_bind (wpAny_holding (wpAny_call_entry_kw slot_list_sort ⟨_, Heap.get?_push_size h' rfl, rfl⟩ entry_list_sort ?body (ha2 _)))
  case body =>
    show wpAny (model prog w) A.in1.in1 (Builtin.«list.sort» ⟨[.ref h'.objs.size], kw⟩) _ _ _
    refine wpAny_mono (body h' _ hk) (fun f s' hf => ?_) fun _ _ e => e
    obtain ⟨rfl, hq⟩ := hf
    exact ⟨_, rfl, wpAny_pure ⟨_, rfl, hq⟩⟩
end

/-! ### rows of values and data -/
section
variable {X : Cx} {pins : List (Addr × Obj)} {σ : L2.St} {H S : Hp} {s : Shared} {α : Type} {A : RT X.K α} {d : α → PyData} {n : Nat}
open PySem.W
def VR (A : RT X.K α) (S : Hp) (u : Value) (x : α) : Prop := ∃ v, RelV v u ∧ A.r S v x
theorem each_of {vs : List V} {xs : List α} {us : List Value} (r : Vals vs us) : Rows A S vs xs → EachIs (VR A S) us xs := by
  induction r generalizing xs with
  | nil =>
    intro h
    cases xs with
    | nil => exact .nil
    | cons _ _ => exact h.elim
  | @cons v u vs us h1 h2 ih =>
    intro h
    cases xs with
    | nil => exact h.elim
    | cons x xs => exact .cons ⟨v, h1, h.1⟩ (ih h.2)
theorem rows_of : ∀ {us : List Value} {xs : List α}, EachIs (VR A S) us xs → ∃ vs, Vals vs us ∧ Rows A S vs xs
  | _, _, .nil => ⟨[], .nil, trivial⟩
  | _, _, .cons ⟨v, h1, h2⟩ t => by
    obtain ⟨vs, k1, k2⟩ := rows_of t
    exact ⟨v :: vs, .cons h1 k1, h2, k2⟩
theorem each_reads (rd : RD A d n) (I : Inv X pins σ H s) (sb : Sub S H) {us : List Value} {xs : List α} (h : EachIs (VR A S) us xs) : EachIs (fun v b => ∃ as, Reads s.heap v (d b) as) us xs :=
  h.mono fun u x ⟨v, h1, h2⟩ => Dp.reads I (d x) v u (Dp.up sb (rd.dp S v x h2)) h1
/-- sorted(xs), xs a list or a tuple of data that are alike -/
def rSortD (A : RT X.K α) (d : α → PyData) : List V → Hp → VK → Prop := fun vs H Q => ∃ (a : Addr) (us : List V) (xs : List α) (S : Hp), vs = [.ref a] ∧ (SqL X.K H a us ∨ SqT X.K H a us) ∧ Rows A S us xs ∧ Sub S H ∧ Sortable (xs.map d) ∧
  ∀ us' p, Rows A S us' (xs.mergeSort fun x y => !dataLt (d y) (d x)) → H p = none → Q (.ref p) (upd H p (.lst us'))
theorem cr_sortD (hu : X.A.units + 65 < cLine) (rd : RD A d n) (hn : n ≤ 60) (al : ∀ x y, alike (d x) (d y) = true) : CallR X (.builtin "sorted") (rSortD A d) := by
  intro pins s σ H vs us Q I r h
  obtain ⟨a, ws, xs, S, rfl, hq, hr, sb, hk, q⟩ := h
  obtain ⟨u, rfl, rx⟩ := vals1 r
  obtain rfl : u = .ref a := rx
  obtain ⟨its, rv, hcol, hz⟩ : ∃ its : List Value, Vals ws its ∧ (∀ (A' : Around) (Q' : List Value → Shared → Prop) (E' : Value → Shared → Prop), A'.handled = X.A.handled → (∀ h', (∀ b o, s.heap.get? b = some o → h'.get? b = some o) → Q' its { s with heap := h' }) → wpAny (model X.prog X.w) A' (collect (.ref a)) Q' E' s) ∧ ws.length ≤ sizeLine := by
    rcases hq with hq | hq
    · obtain ⟨its, rv, pl, hz⟩ := I.list hq
      obtain ⟨o, k, ho, hc, _, hd⟩ := pl
      exact ⟨its, rv, fun A' Q' E' _ hQ => wpAny_collect_seq a (.inl rfl) ho hc hd (fun h' hk => by simpa using hQ h' hk) (by rw [List.size_toArray, ← rv.length]; exact hz), hz⟩
    · obtain ⟨its, rv, pl, hz⟩ := I.tuple hq
      obtain ⟨o, ho, hc, k, hd⟩ := pl
      exact ⟨its, rv, fun A' Q' E' _ hQ => wpAny_collect_seq a (.inr rfl) ho hc hd (fun h' hk => by simpa using hQ h' hk) (by rw [List.size_toArray, ← rv.length]; exact hz), hz⟩
  have hlen := rv.length
  have e := each_of rv hr
  have er := each_reads rd I sb e
  refine sorted_ofG (s := s) hcol (by rw [← hlen]; exact hz) (args_sorted1 _) (fun _ => args_list_sort _) fun h' E' hkp => ?_
  have I1 : Inv X pins σ H { s with heap := h' } := I.kept (t' := s.toks) hkp
  have ho : (h'.push (seqObj "list" its.toArray 0)).get? h'.objs.size = some (seqObj "list" its.toArray 0) := Heap.get?_push_size _ rfl
  have keep : ∀ b o, s.heap.get? b = some o → b ≠ h'.objs.size ∧ (h'.push (seqObj "list" its.toArray 0)).get? b = some o := fun b o q => ⟨Nat.ne_of_lt (Heap.lt_size (hkp b o q)), Heap.get?_push_of_some _ (hkp b o q)⟩
  have er' : EachIs (fun v b => ∃ as, Reads (sortingHeap (h'.push (seqObj "list" its.toArray 0)) h'.objs.size its) v (d b) as) its xs := er.mono fun _ _ ⟨as, r⟩ => ⟨as, PyProof.Rows.Reads.keeps (fun b o q => sortingHeap_old (keep b o q).1 (keep b o q).2) r⟩
  have hal : AllAlike (xs.map d) := AllAlike.of al
  refine list_sort_vals (κ := dataKind (sortingHeap (h'.push (seqObj "list" its.toArray 0)) h'.objs.size its) (xs.map d)) (s := { s with heap := h'.push (seqObj "list" its.toArray 0) }) ho
    (SortsAt.data (s := { s with heap := sortingHeap (h'.push (seqObj "list" its.toArray 0)) h'.objs.size its }) (each_map (R := fun v d => ∃ as, Reads (sortingHeap (h'.push (seqObj "list" its.toArray 0)) h'.objs.size its) v d as) d er') hal hk fun y hy => ?_) (by rw [← hlen]; exact hz) ⟨rfl, ?_⟩
  · obtain ⟨x, _, rfl⟩ := List.mem_map.mp hy
    have := rd.dep x
    show X.A.units + 1 + 1 + (d x).depth < cLine
    omega
  · have hout := sortVals_data (h' := sortingHeap (h'.push (seqObj "list" its.toArray 0)) h'.objs.size its) false e er' hal
    obtain ⟨us', k1, k2⟩ := rows_of hout
    obtain ⟨ep, hat⟩ := sortedHeap_at (out := (sortVals (dataKind (sortingHeap (h'.push (seqObj "list" its.toArray 0)) h'.objs.size its) (xs.map d)) false its its).toArray) ho
    have hl2 : us'.length ≤ sizeLine := by
      rw [k1.length, sortVals_length false rfl, ← hlen]
      exact hz
    have I2 : Inv X pins σ (upd H h'.objs.size (.lst us')) { s with heap := sortedHeap (h'.push (seqObj "list" its.toArray 0)) h'.objs.size its (sortVals (dataKind (sortingHeap (h'.push (seqObj "list" its.toArray 0)) h'.objs.size its) (xs.map d)) false its its).toArray } := by
      refine I1.laid (t' := s.toks) (fun b o q => ?_) (Nat.le_refl _) ⟨hl2, _, ep, k1, by simpa using hat⟩
      have hlt := Heap.lt_size q
      have hb : (h'.push (seqObj "list" its.toArray 0)).get? b = some o := Heap.get?_push_of_some _ q
      exact (sortedHeap_old (Nat.ne_of_lt hlt) (Heap.lt_size hb)).trans hb
    exact ⟨.ref h'.objs.size, _, I2, rfl, q us' _ k2 (I1.hok.fresh (Nat.le_refl _))⟩
end
end Fm
set_option maxHeartbeats 2000000
/-! Fm10: those as rules of the calculus. -/
namespace Fm
open PySem PySem.Spec PyProof.Rows L2 Gx
open PySem.W (alike alikeAll dataLt Sortable)
/-- (0, x0), (1, x1), .. -/
def enumL {α : Type} (xs : List α) : List (Int × α) := xs.zipIdx.map fun p => ((p.2 : Nat), p.1)
theorem enumL_len {α : Type} {xs : List α} : (enumL xs).length = xs.length := by simp [enumL]
theorem enumL_get {α : Type} {xs : List α} {i : Nat} {x : α} (h : xs[i]? = some x) : (enumL xs)[i]? = some (((i : Nat) : Int), x) := by
  simp [enumL, List.getElem?_zipIdx, h]
section
variable {X : Cx} {k : Kx} {w0 : Wd} {Γ : List (Slot X.K)} {j j1 j2 j3 : Int × Int} {e a b c tg iter elt : Expr} {es : List Expr} {α β γ : Type} {A : RT X.K α} {B : RT X.K β} {C : RT X.K γ} {x y : α} {z : β} {xs ys : List α} {pos p2 p3 p4 : Pos} {fo : Bool}

theorem f_enumT {els : List Expr} {kk : Nat} (ok : CxOk X) (h : EvD X k w0 Γ j a (rTup A) xs j1) (hg : Gl X "enumerate" := by rfl) (hs : starEach [a] X.env = (false, eval a X.env) :: starEach [] X.env := by rfl) : Src fo X k w0 Γ j (.Tuple els kk p4) (.Call (.Name "enumerate" p2) [a] [] pos) (rPair rInt A) (enumL xs) j1 :=
  ⟨_, pi_enumT hg (blt_len ok) (pa_cons pe_self pa_nil hs) (by rw [hs] <;> rfl), fun σ w at0 R q => h σ w at0 _ fun v w1 a1 e1 ⟨p, us, hv, hsq, hr⟩ => ⟨p, us, by rw [hv], a1.good.sub.t hsq,
    q (IteT X.K p) w1 (fun H => SqT X.K H p us) _ a1 e1 (by rw [enumL_len, ← hr.len]; exact walk_enumT) (fun w' sb g' l' => g'.sub.t (sb.t hsq)) fun i w' x H' hi sb g' y => by
      obtain ⟨T, u1, u2, rfl, hT, rfl, h1, h2⟩ := y
      obtain ⟨x, hx, rx⟩ := hr.getV h2
      obtain ⟨g2, l2⟩ := g'.newS (o := .tup [u1, u2]) hT
      have e1 : u1 = .int (i : Nat) := (Option.some.inj h1).symm
      exact ⟨⟨upd w'.S T (.tup [u1, u2]), upd w'.H T (.tup [u1, u2]), w'.j⟩, rfl, l2, g2, rfl, _, enumL_get hx, T, u1, u2, rfl, .inl (.inl upd_same), e1, A.up (sb.trans l2.sub) rx⟩⟩⟩

/-- tuple(range(n)) -/
theorem d_tupRg {m : Int} (ok : CxOk X) (hm : 0 ≤ m ∧ m ≤ 1000000) (h : EvD X k w0 Γ j a rInt m j1) (hg : Gl X "tuple" := by rfl) (hg2 : Gl X "range" := by rfl) (hs : starEach [a] X.env = (false, eval a X.env) :: starEach [] X.env := by rfl)
    (hs2 : starEach [.Call (.Name "range" p3) [a] [] p4] X.env = (false, eval (.Call (.Name "range" p3) [a] [] p4) X.env) :: starEach [] X.env := by rfl) : EvD X k w0 Γ j (.Call (.Name "tuple" p2) [.Call (.Name "range" p3) [a] [] p4] [] pos) (rTup rInt) (rangeI 0 m) j1 := fun σ w at0 Q q =>
  WE.of (pe_tupRg ok.calm hg (blt_len ok) (prg_1 hg2 (blt_len ok) pe_self hs) hs2) (h σ w at0 _ fun v w1 a1 e1 r1 => ⟨m, r1, .of_le (Int.le_refl 0) (by omega) (by omega) hm.1, fun l hl => by
    obtain ⟨g2, l2⟩ := a1.good.newS (o := .tup (rgV 0 m)) hl
    have er : rgV 0 m = (rangeI 0 m).map V.int := by
      unfold rgV rangeI
      rw [List.map_map]
      rfl
    exact q _ ⟨upd w1.S l (.tup (rgV 0 m)), upd w1.H l (.tup (rgV 0 m)), w1.j⟩ (a1.up l2 g2 a1.jar) (e1.trans l2) ⟨l, rgV 0 m, rfl, .inl (.inl upd_same), by rw [er]; exact Rows.ofI _⟩⟩)

/-! ### order -/
theorem al_int : ∀ x y : Int, alike (.int x) (.int y) = true := fun _ _ => by simp [alike]
theorem al_all {d : α → PyData} (h : ∀ x y, alike (d x) (d y) = true) : ∀ xs ys : List α, alikeAll (xs.map d) (ys.map d) = true
  | [], _ => by simp [alikeAll]
  | _ :: _, [] => by simp [alikeAll]
  | x :: xs, y :: ys => by
    show alikeAll (d x :: xs.map d) (d y :: ys.map d) = true
    rw [alikeAll, al_all h xs ys, h]
    rfl
theorem al_tup {d : α → PyData} (h : ∀ x y, alike (d x) (d y) = true) (xs ys : List α) : alike (.tuple (xs.map d)) (.tuple (ys.map d)) = true := by
  rw [alike]
  exact al_all h xs ys
theorem al_pair {d : α → PyData} {f : β → PyData} (h : ∀ x y, alike (d x) (d y) = true) (h2 : ∀ x y, alike (f x) (f y) = true) (x y : α × β) : alike (.tuple [d x.1, f x.2]) (.tuple [d y.1, f y.2]) = true := by
  simp [alike, alikeAll, h, h2]
theorem al_tri {d : α → PyData} {f : β → PyData} {g : γ → PyData} (h : ∀ x y, alike (d x) (d y) = true) (h2 : ∀ x y, alike (f x) (f y) = true) (h3 : ∀ x y, alike (g x) (g y) = true) (x y : α × β × γ) : alike (.tuple [d x.1, f x.2.1, g x.2.2]) (.tuple [d y.1, f y.2.1, g y.2.2]) = true := by
  simp [alike, alikeAll, h, h2, h3]
/-- x <= y of data that are alike -/
def rLeD (K : PySem.W.Frag) : R2 := fun x y H Q => ∃ d e, Dp K H x d ∧ Dp K H y e ∧ alike d e = true ∧ d ≠ .none ∧ d.depth ≤ 60 ∧ Q (.bl (!dataLt e d)) H
theorem op_leD (hu : X.A.units + 64 < cLine) : OpR X (compareOp .LtE) (rLeD X.K) := by
  intro pins s σ H x y v u Q I rx ry h
  obtain ⟨d, e, h1, h2, h3, h4, h5, q⟩ := h
  obtain ⟨as, r1⟩ := Dp.reads I d x v h1 rx
  obtain ⟨bs, r2⟩ := Dp.reads I e y u h2 ry
  exact PySem.W.le_data r1 r2 h3 h4 (by have := Nat.min_le_left d.depth e.depth; omega) ⟨.bl _, H, I, rfl, q⟩
theorem d_leD {d : α → PyData} {n : Nat} (ok : CxOk X) (r : RD A d n) (hn : n ≤ 60) (al : ∀ x y, alike (d x) (d y) = true) (nn : ∀ x, d x ≠ .none) (ha : EvD X k w0 Γ j a A x j1) (hb : EvD X k w0 Γ j1 b A y j2) : EvD X k w0 Γ j (.Compare a [.LtE] [b] pos) rBl (!dataLt (d y) (d x)) j2 :=
  d_cmp (op_leD (by have := ok.hu; omega)) (fun u v w gd h1 h2 Q q => ⟨d x, d y, Dp.up gd.sub (r.dp _ _ _ h1), Dp.up gd.sub (r.dp _ _ _ h2), al x y, nn x, Nat.le_trans (r.dep x) hn, q _ w (Le.refl gd) gd rfl rfl⟩) ha hb (nomark _)
/-- sorted of a list, of a tuple -/
theorem m_sortDB {d : α → PyData} {n : Nat} (ok : CxOk X) (rd : RD A d n) (hn : n ≤ 60) (al : ∀ x y, alike (d x) (d y) = true) (hk : Sortable (xs.map d)) (h : EvB X k w0 Γ j a A xs j1) (hg : Gl X "sorted" := by rfl) (hs : starEach [a] X.env = (false, eval a X.env) :: starEach [] X.env := by rfl) (hpl : (backTo pos (starEach [] X.env)).any (·.1) = false := by rfl) :
    EvM X k w0 Γ j (.Call (.Name "sorted" p2) [a] [] pos) A (xs.mergeSort fun x y => !dataLt (d y) (d x)) j1 := fun σ w at0 Q q =>
  WE.of (pe_callB (cr_sortD ok.hu rd hn al) hg (blt_len ok) (by decide +kernel) (pa_cons pe_self pa_nil hs) (he := hs) (hpl := hpl)) (h σ w at0 _ fun p vs w1 a1 e1 h1 h2 => ⟨p, vs, xs, w1.S, rfl, .inl (h1 w1 (Le.refl a1.good)), h2, a1.good.sub, hk, fun us' l hr hl => by
    obtain ⟨g2, l2⟩ := a1.good.newH (o := .lst us') hl
    exact q l us' ⟨w1.S, upd w1.H l (.lst us'), w1.j⟩ (a1.up l2 g2 a1.jar) (e1.trans l2) upd_same hr (a1.good.non hl) (e1.fresh hl)⟩)
theorem m_sortDT {d : α → PyData} {n : Nat} (ok : CxOk X) (rd : RD A d n) (hn : n ≤ 60) (al : ∀ x y, alike (d x) (d y) = true) (hk : Sortable (xs.map d)) (h : EvD X k w0 Γ j a (rTup A) xs j1) (hg : Gl X "sorted" := by rfl) (hs : starEach [a] X.env = (false, eval a X.env) :: starEach [] X.env := by rfl) (hpl : (backTo pos (starEach [] X.env)).any (·.1) = false := by rfl) :
    EvM X k w0 Γ j (.Call (.Name "sorted" p2) [a] [] pos) A (xs.mergeSort fun x y => !dataLt (d y) (d x)) j1 := fun σ w at0 Q q =>
  WE.of (pe_callB (cr_sortD ok.hu rd hn al) hg (blt_len ok) (by decide +kernel) (pa_cons pe_self pa_nil hs) (he := hs) (hpl := hpl)) (h σ w at0 _ fun v w1 a1 e1 ⟨p, vs, h0, h1, h2⟩ => ⟨p, vs, xs, w1.S, by rw [h0], .inr (a1.good.sub.t h1), h2, a1.good.sub, hk, fun us' l hr hl => by
    obtain ⟨g2, l2⟩ := a1.good.newH (o := .lst us') hl
    exact q l us' ⟨w1.S, upd w1.H l (.lst us'), w1.j⟩ (a1.up l2 g2 a1.jar) (e1.trans l2) upd_same hr (a1.good.non hl) (e1.fresh hl)⟩)

/-! ### repr -/
def rReprT (K : PySem.W.Frag) : List V → Hp → VK → Prop := fun vs H Q => ∃ (p : Addr) (ds : List PyData), vs = [.ref p] ∧ Dp K H (.ref p) (.tuple ds) ∧ (PyData.tuple ds).showable = true ∧ (PyData.tuple ds).canLay0 = true ∧ (PyData.tuple ds).shown.length ≤ sizeLine ∧ (PyData.tuple ds).depth ≤ 60 ∧ Q (.str (PyData.tuple ds).shown) H
theorem cr_reprT (ok : CxOk X) : CallR X (.builtin "repr") (rReprT X.K) := by
  intro pins s σ H vs us Q I r h
  obtain ⟨p, ds, rfl, hd, h1, h2, h3, h4, q⟩ := h
  obtain ⟨u, rfl, rx⟩ := vals1 r
  obtain ⟨as, rd⟩ := Dp.reads I _ _ _ hd rx
  obtain rfl : u = .ref p := rx
  have hu := ok.hu
  exact call_repr_tup rd h1 h2 h3 ok.gd (by omega) fun h' u tk hk => ⟨.str _, H, I.kept hk, ⟨u, rfl⟩, q⟩
theorem d_reprT {d : α → PyData} {n : Nat} (ok : CxOk X) (r : RD A d n) (hn : n ≤ 60) {ds : List PyData} (hd : d x = .tuple ds) (hr : ∀ S v, A.r S v x → ∃ p, v = .ref p) (hs0 : (d x).showable = true) (hl : (d x).canLay0 = true) (hz : (d x).shown.length ≤ sizeLine) (h : EvD X k w0 Γ j a A x j1) (hg : Gl X "repr" := by rfl) (hs : starEach [a] X.env = (false, eval a X.env) :: starEach [] X.env := by rfl) (hpl : (backTo pos (starEach [] X.env)).any (·.1) = false := by rfl) :
    EvD X k w0 Γ j (.Call (.Name "repr" p2) [a] [] pos) rStr (d x).shown j1 := fun σ w at0 Q q =>
  WE.of (pe_callB (cr_reprT ok) hg (blt_len ok) (by decide +kernel) (pa_cons pe_self pa_nil hs) (he := hs) (hpl := hpl)) (h σ w at0 _ fun v w1 a1 e1 r1 => by
    obtain ⟨p, rfl⟩ := hr _ _ r1
    have hdp := Dp.up a1.good.sub (r.dp _ _ _ r1)
    have hdep := r.dep x
    rw [hd] at hdp hs0 hl hz hdep
    refine ⟨p, ds, rfl, hdp, hs0, hl, hz, Nat.le_trans hdep hn, ?_⟩
    refine q _ w1 a1 e1 ?_
    show V.str _ = V.str (d x).shown
    rw [hd])
theorem d_reprI {m : Int} (ok : CxOk X) (hm : m.natAbs.log2 < 1920) (h : EvD X k w0 Γ j a rInt m j1) (hg : Gl X "repr" := by rfl) (hs : starEach [a] X.env = (false, eval a X.env) :: starEach [] X.env := by rfl) (hpl : (backTo pos (starEach [] X.env)).any (·.1) = false := by rfl) :
    EvD X k w0 Γ j (.Call (.Name "repr" p2) [a] [] pos) rStr (toString m : String) j1 := fun σ w at0 Q q =>
  WE.of (pe_callB SkE.call_repr_int hg (blt_len ok) (by decide +kernel) (pa_cons pe_self pa_nil hs) (he := hs) (hpl := hpl)) (h σ w at0 _ fun v w1 a1 e1 r1 => ⟨m, by rw [show v = .int m from r1], hm, q _ w1 a1 e1 rfl⟩)

/-! ### isinstance -/
theorem tyO_up {K : PySem.W.Frag} {S H : Hp} (e : Sub S H) {v : V} {t : Value} (h : TyOf K S v t) : TyOf K H v t := by
  cases h with
  | non => exact .non
  | bl x => exact .bl x
  | int i => exact .int i
  | str y => exact .str y
  | flt y => exact .flt y
  | lst h => exact .lst (e _ _ h)
  | frz h => exact .frz (e _ _ h)
  | tup h => exact .tup (e _ _ h)
  | dK h => exact .dK (e _ _ h)
  | dT h => exact .dT (e _ _ h)
  | ins h cl ha hn htk hm => exact .ins (e _ _ h) cl ha hn htk hm
theorem tyX_up {K : PySem.W.Frag} {S H : Hp} (e : Sub S H) {v : V} {t : Value} (h : TyX K S v t) : TyX K H v t := by
  cases h with
  | base b => exact .base (tyO_up e b)
  | byt b => exact .byt b
  | set h => exact .set (e _ _ h)
  | kList h c => exact .kList h c
  | kTuple h c => exact .kTuple h c
  | kDict h c => exact .kDict h c
  | fTuple h => exact .fTuple (e _ _ h)
  | fDict h => exact .fDict (e _ _ h)
theorem ty_tup {K : PySem.W.Frag} {S : Hp} {p : Addr} {vs : List V} (h : SqT K S p vs) : TyX K S (.ref p) (.type "tuple") := by
  rcases h with (h | ⟨o, h⟩) | ⟨o, its, n, h1, h2, _⟩
  · exact .base (.tup h)
  · exact .fTuple h
  · exact .kTuple h1 h2
theorem d_isi {T : String} {v0 : Bool} {n2 : Str} (ok : CxOk X) (hA : ∀ S v, A.r S v x → ∃ t : String, TyX X.K S v (.type t) ∧ kitB t T = some v0) (h : EvD X k w0 Γ j a A x j1) (hb : bootBuiltins n2 = some (.type T)) (hn2 : n2 ∈ bltNames) (hg : Gl X "isinstance" := by rfl) (hg2 : Gl X n2 := by rfl) (hdb : (n2 == ("__debug__" : Str)) = false := by decide) (hnn : n2 ≠ "__name__" := by decide)
    (hs0 : starEach [a, .Name n2 p3] X.env = (false, eval a X.env) :: starEach [.Name n2 p3] X.env := by rfl) (hs : starEach [.Name n2 p3] X.env = (false, eval (.Name n2 p3) X.env) :: starEach [] X.env := by rfl) (hpl : (backTo pos (starEach [.Name n2 p3] X.env)).any (·.1) = false := by rfl) :
    EvD X k w0 Γ j (.Call (.Name "isinstance" p2) [a, .Name n2 p3] [] pos) rBl v0 j1 := fun σ w at0 Q q =>
  WE.of (pe_callB call_isi hg (blt_len ok) (by decide +kernel) (pa_cons pe_self (pa_cons (pe_bltn (v := .ty T) hg2 (ok.blt n2 hn2) hb rfl hnn hdb) pa_nil hs) hs0) (he := hs0) (hpl := hpl)) (h σ w at0 _ fun v w1 a1 e1 r1 => by
    obtain ⟨t, h1, h2⟩ := hA _ _ r1
    refine ⟨v, .ty T, .type t, .type T, v0, rfl, .ty T, ?_, kit_ty h2, q _ w1 a1 e1 rfl⟩
    exact tyX_up a1.good.sub h1)
end
end Fm
set_option maxHeartbeats 2000000
/-! Fm11: +, in, gcd, values of own kinds. -/
namespace Fm
open PySem PySem.Spec PyProof.Rows L2 Gx
/-- lists as data that are tracked -/
def rLt {K : PySem.W.Frag} {α : Type} (A : RT K α) : RT K (List α) := ⟨fun S v xs => ∃ p vs, v = .ref p ∧ S p = some (.lst vs) ∧ Rows A S vs xs, fun e ⟨p, vs, h1, h2, h3⟩ => ⟨p, vs, h1, e p _ h2, h3.up e⟩⟩
section
variable {X : Cx} {k : Kx} {w0 : Wd} {Γ : List (Slot X.K)} {j j1 j2 j3 : Int × Int} {e a b c tg iter elt : Expr} {es : List Expr} {α β γ : Type} {A : RT X.K α} {B : RT X.K β} {C : RT X.K γ} {x y : α} {z : β} {xs ys : List α} {pos p2 p3 p4 : Pos} {fo : Bool} {n : Str}
/-- e is a tracked list of xs -/
def EvK (X : Cx) (k : Kx) (w0 : Wd) (Γ : List (Slot X.K)) (j : Int × Int) (e : Expr) {α : Type} (A : RT X.K α) (xs : List α) (j' : Int × Int) : Prop :=
  ∀ σ w, At X.K k w0 Γ σ w j → ∀ Q : VK, (∀ p vs w', At X.K k w0 Γ σ w' j' → Le k w w' → w'.H p = some (.lst vs) → k.jp ≠ some p → Rows A w'.S vs xs → Q (.ref p) w'.H) → WE X e σ w.H Q
theorem EvM.toK (h : EvM X k w0 Γ j e A xs j1) : EvK X k w0 Γ j e A xs j1 := fun σ w a Q q => h σ w a Q fun p vs w1 a1 e1 h1 h2 h3 h4 => q p vs w1 a1 e1 h1 (a.good.njp h4) h2
theorem EvM.toT (h : EvM X k w0 Γ j e A xs j1) : EvD X k w0 Γ j e (rLt A) xs j1 := fun σ w a Q q => h σ w a Q fun p vs w' a' le hp hr hs hn => by
  have nj : k.jp ≠ some p := a.good.njp hn
  obtain ⟨g2, le2⟩ := a'.good.frz le hn hp hs nj (fun _ z => nomatch z)
  exact q (.ref p) ⟨upd w'.S p (.lst vs), w'.H, w'.j⟩ (a.up le2 g2 a'.jar) le2 ⟨p, vs, rfl, upd_same, hr.up (sub_new hs)⟩
theorem EvD.toK (h : EvD X k w0 Γ j e (rLt A) xs j1) : EvK X k w0 Γ j e A xs j1 := fun σ w a Q q => h σ w a Q fun v w1 a1 e1 ⟨p, vs, hv, hs, hr⟩ => by
  rw [hv]
  exact q p vs w1 a1 e1 (a1.good.sub _ _ hs) (fun z => by rw [(a1.good.jar p z).2] at hs; cases hs) hr
theorem EvD.toL (h : EvD X k w0 Γ j e (rLt A) xs j1) : EvD X k w0 Γ j e (rLst A) xs j1 := fun σ w a Q q => h σ w a Q fun v w1 a1 e1 ⟨p, vs, hv, hs, hr⟩ => q v w1 a1 e1 ⟨p, vs, hv, .inl (.inl hs), hr⟩
theorem k_mu (i : Nat) (hΓ : Γ[i]? = some (.mu A xs)) (hN : X.N[i]? = some n) (hv : Vis X.env.scope n) (hd : (n == ("__debug__" : Str)) = false := by decide) (hcd : (n == ("__classdict__" : Str)) = false := by decide) :
    EvK X k w0 Γ j (.Name n pos) A xs j := fun σ w a Q q => by
  refine WE.of (pe_var hN hv hd hcd) ?_
  obtain ⟨o, h1, p, vs, h2, h3, h4, h5, h6, h7⟩ := a.env.at_ i _ hΓ
  rw [h2] at h1
  exact ⟨_, h1, q p vs w a (Le.refl a.good) h3 h6 h4⟩
/-- list + list -/
theorem m_cat (ha : EvK X k w0 Γ j a A xs j1) (hb : EvK X k w0 Γ j1 b A ys j2) (hz : xs.length + ys.length ≤ 100000) : EvM X k w0 Γ j (.BinOp a .Add b pos) A (xs ++ ys) j2 := fun σ w at0 Q q =>
  WE.of (pe_op op_cat pe_self pe_self) (ha σ w at0 _ fun p vs w1 a1 e1 h1 n1 r1 => hb σ w1 a1 _ fun p' us w2 a2 e2 h2 n2 r2 => by
    have h1' := e2.keep p _ h1 (fun _ z => nomatch z) n1
    refine ⟨p, p', vs, us, rfl, rfl, h1', h2, Evl.sz_of (by rw [r1.len, r2.len]; exact hz), fun l hl => ?_⟩
    obtain ⟨g3, l3⟩ := a2.good.newH (o := .lst (vs ++ us)) hl
    exact q l (vs ++ us) ⟨w2.S, upd w2.H l (.lst (vs ++ us)), w2.j⟩ (a2.up l3 g3 a2.jar) ((e1.trans e2).trans l3) upd_same ((r1.up e2.sub).append r2) (a2.good.non hl) ((e1.trans e2).fresh hl))
/-- tuple + tuple -/
theorem d_catT (ha : EvD X k w0 Γ j a (rTup A) xs j1) (hb : EvD X k w0 Γ j1 b (rTup A) ys j2) (hz : xs.length + ys.length ≤ 100000) : EvD X k w0 Γ j (.BinOp a .Add b pos) (rTup A) (xs ++ ys) j2 := fun σ w at0 Q q =>
  WE.of (pe_op op_catA pe_self pe_self) (ha σ w at0 _ fun v w1 a1 e1 ⟨p, vs, h0, h1, r1⟩ => hb σ w1 a1 _ fun v' w2 a2 e2 ⟨p', us, h0', h2, r2⟩ => by
    subst h0 h0'
    have r1' := r1.up e2.sub
    have t1 : SqT X.K w2.S p vs := e2.sub.t h1
    refine ⟨p, p', vs, us, rfl, rfl, a2.good.sub.t t1, a2.good.sub.t h2, Evl.sz_of (by rw [r1.len, r2.len]; exact hz), fun hx => ?_, fun hx hy => ?_, fun hx hy l hl => ?_⟩
    · have hxs : xs = [] := r1.nil_iff.mp hx
      refine q _ w2 a2 (e1.trans e2) ⟨p', us, rfl, h2, ?_⟩
      rw [hxs]
      exact r2
    · have hys : ys = [] := r2.nil_iff.mp hy
      refine q _ w2 a2 (e1.trans e2) ⟨p, vs, rfl, t1, ?_⟩
      rw [hys, List.append_nil]
      exact r1'
    · obtain ⟨g3, l3⟩ := a2.good.newS (o := .tup (vs ++ us)) hl
      exact q _ ⟨upd w2.S l (.tup (vs ++ us)), upd w2.H l (.tup (vs ++ us)), w2.j⟩ (a2.up l3 g3 a2.jar) ((e1.trans e2).trans l3) ⟨l, vs ++ us, rfl, .inl (.inl upd_same), (r1'.append r2).up l3.sub⟩)
/-- i in a tuple, a list of ints -/
theorem inV_int (m : Int) : ∀ ns : List Int, inV (.int m) (ns.map V.int) = decide (m ∈ ns)
  | [] => rfl
  | n :: ns => by
    have ih := inV_int m ns
    unfold inV at ih ⊢
    rw [List.map_cons, List.any_cons, ih]
    show (n == m || decide (m ∈ ns)) = decide (m ∈ n :: ns)
    rw [Bool.eq_iff_iff, Bool.or_eq_true, beq_iff_eq, decide_eq_true_iff, decide_eq_true_iff, List.mem_cons]
    constructor
    · rintro (h | h)
      · exact .inl h.symm
      · exact .inr h
    · rintro (h | h)
      · exact .inl h.symm
      · exact .inr h
theorem flat_ints (ns : List Int) : (ns.map V.int).all flatV = true := by
  rw [List.all_map]
  exact List.all_eq_true.mpr fun _ _ => rfl
theorem d_inT {m : Int} {ns : List Int} (ha : EvD X k w0 Γ j a rInt m j1) (hb : EvD X k w0 Γ j1 b (rTup rInt) ns j2) (hmk : behindInMarks .In b = false := by rfl) : EvD X k w0 Γ j (.Compare a [.In] [b] pos) rBl (decide (m ∈ ns)) j2 := fun σ w at0 Q q =>
  WE.of (pe_cmpR op_in_seq pe_self pe_self hmk) (ha σ w at0 _ fun v w1 a1 e1 r1 => hb σ w1 a1 _ fun v' w2 a2 e2 ⟨p', us, h0', h2, r2⟩ => by
    subst h0'
    have e4 : us = ns.map V.int := r2.mapI
    refine ⟨p', us, rfl, .inr (a2.good.sub.t h2), by rw [show v = .int m from r1] <;> rfl, by rw [e4]; exact flat_ints ns, ?_⟩
    refine q _ w2 a2 (e1.trans e2) ?_
    show V.bl (inV v us) = V.bl _
    rw [show v = .int m from r1, e4, inV_int])
theorem d_notInT {m : Int} {ns : List Int} (ha : EvD X k w0 Γ j a rInt m j1) (hb : EvD X k w0 Γ j1 b (rTup rInt) ns j2) (hmk : behindInMarks .NotIn b = false := by rfl) : EvD X k w0 Γ j (.Compare a [.NotIn] [b] pos) rBl (!decide (m ∈ ns)) j2 := fun σ w at0 Q q =>
  WE.of (pe_cmpR op_notIn_seq pe_self pe_self hmk) (ha σ w at0 _ fun v w1 a1 e1 r1 => hb σ w1 a1 _ fun v' w2 a2 e2 ⟨p', us, h0', h2, r2⟩ => by
    subst h0'
    have e4 : us = ns.map V.int := r2.mapI
    refine ⟨p', us, rfl, .inr (a2.good.sub.t h2), by rw [show v = .int m from r1] <;> rfl, by rw [e4]; exact flat_ints ns, ?_⟩
    refine q _ w2 a2 (e1.trans e2) ?_
    show V.bl (!inV v us) = V.bl _
    rw [show v = .int m from r1, e4, inV_int])
theorem d_inB {m : Int} {ns : List Int} (ha : EvD X k w0 Γ j a rInt m j1) (hb : EvB X k w0 Γ j1 b rInt ns j2) (hmk : behindInMarks .In b = false := by rfl) : EvD X k w0 Γ j (.Compare a [.In] [b] pos) rBl (decide (m ∈ ns)) j2 := fun σ w at0 Q q =>
  WE.of (pe_cmpR op_in_seq pe_self pe_self hmk) (ha σ w at0 _ fun v w1 a1 e1 r1 => hb σ w1 a1 _ fun p' us w2 a2 e2 h2 r2 => by
    have e4 : us = ns.map V.int := r2.mapI
    refine ⟨p', us, rfl, .inl (h2 w2 (Le.refl a2.good)), by rw [show v = .int m from r1] <;> rfl, by rw [e4]; exact flat_ints ns, ?_⟩
    refine q _ w2 a2 (e1.trans e2) ?_
    show V.bl (inV v us) = V.bl _
    rw [show v = .int m from r1, e4, inV_int])
/-- math.gcd -/
theorem d_gcd {m o : Int} {fn : Str} (hm : X.mg fn = some (.builtin "math.gcd")) (ha : EvD X k w0 Γ j a rInt m j1) (hb : EvD X k w0 Γ j1 b rInt o j2) (hg : Gl X fn := by rfl) (hdb : (fn == ("__debug__" : Str)) = false := by decide) (hs0 : starEach [a, b] X.env = (false, eval a X.env) :: starEach [b] X.env := by rfl) (hs : starEach [b] X.env = (false, eval b X.env) :: starEach [] X.env := by rfl) (hpl : (backTo pos (starEach [b] X.env)).any (·.1) = false := by rfl) :
    EvD X k w0 Γ j (.Call (.Name fn p2) [a, b] [] pos) rInt ((Nat.gcd m.natAbs o.natAbs : Nat) : Int) j2 := fun σ w at0 Q q =>
  WE.of (pe_callBfun cr_gcd hg hm (pa_cons pe_self (pa_cons pe_self pa_nil hs) hs0) hdb hs0 hpl) (ha σ w at0 _ fun v w1 a1 e1 r1 => hb σ w1 a1 _ fun v2 w2 a2 e2 r2 => ⟨m, o, by rw [show v = .int m from r1, show v2 = .int o from r2], q _ w2 a2 (e1.trans e2) rfl⟩)
end
section
variable {X : Cx} {k : Kx} {w0 : Wd} {Γ : List (Slot X.K)} {j j1 j2 : Int × Int} {a b : Expr} {pos : Pos}
theorem decVs {m n : Str} : decide (V.str m = V.str n) = decide (m = n) := by
  by_cases h : m = n
  · rw [h]
    simp
  · rw [decide_eq_false h, decide_eq_false fun z => h (by injection z)]
theorem d_neS {m n : Str} (ha : EvD X k w0 Γ j a rStr m j1) (hb : EvD X k w0 Γ j1 b rStr n j2) : EvD X k w0 Γ j (.Compare a [.NotEq] [b] pos) rBl (!decide (m = n)) j2 := d_cmp op_ne (fun u v w gd h1 h2 Q q => by
  have e1 : u = .str m := h1
  have e2 : v = .str n := h2
  subst e1 e2
  exact ⟨rfl, q _ w (Le.refl gd) gd rfl (by rw [decVs] <;> rfl)⟩) ha hb (nomark _)
end
end Fm
set_option maxHeartbeats 2000000
/-! Fm12: list comprehensions, the common shapes. -/
namespace Fm
open PySem PySem.Spec PyProof.Rows L2
/-- a map that carries the jar -/
def mapJ {α β J : Type} (f : J → α → β × J) : J → List α → List β × J
  | j, [] => ([], j)
  | j, x :: xs => ((f j x).1 :: (mapJ f (f j x).2 xs).1, (mapJ f (f j x).2 xs).2)
theorem mapJ_append {α β J : Type} (f : J → α → β × J) : ∀ (xs ys : List α) (j : J), mapJ f j (xs ++ ys) = ((mapJ f j xs).1 ++ (mapJ f (mapJ f j xs).2 ys).1, (mapJ f (mapJ f j xs).2 ys).2)
  | [], ys, j => rfl
  | x :: xs, ys, j => by
    show ((f j x).1 :: (mapJ f (f j x).2 (xs ++ ys)).1, (mapJ f (f j x).2 (xs ++ ys)).2) = _
    rw [mapJ_append f xs ys]
    rfl
theorem mapJ_inv {α β J : Type} {f : J → α → β × J} {I : J → Prop} : ∀ {xs : List α} {j : J}, I j → (∀ x ∈ xs, ∀ j, I j → I (f j x).2) → I (mapJ f j xs).2
  | [], _, h, _ => h
  | x :: xs, j, h, hx => mapJ_inv (xs := xs) (hx x List.mem_cons_self j h) fun y hy => hx y (List.mem_cons_of_mem _ hy)
theorem mapJ_all {α β J : Type} {f : J → α → β × J} {I : J → Prop} {p : β → Prop} : ∀ {xs : List α} {j : J}, I j → (∀ x ∈ xs, ∀ j, I j → I (f j x).2 ∧ p (f j x).1) → ∀ y ∈ (mapJ f j xs).1, p y
  | [], _, _, _, y, hy => nomatch hy
  | x :: xs, j, h, hx, y, hy => by
    rcases List.mem_cons.mp hy with rfl | hy
    · exact (hx x List.mem_cons_self j h).2
    · exact mapJ_all (xs := xs) (hx x List.mem_cons_self j h).1 (fun y hy => hx y (List.mem_cons_of_mem _ hy)) y hy
theorem mapJ_len {α β J : Type} {f : J → α → β × J} : ∀ {xs : List α} {j : J}, (mapJ f j xs).1.length = xs.length
  | [], _ => rfl
  | x :: xs, j => by
    show (_ :: _).length = _
    rw [List.length_cons, List.length_cons, mapJ_len]
theorem take_succ_of {α : Type} {xs : List α} {i : Nat} {x : α} (h : xs[i]? = some x) : xs.take (i + 1) = xs.take i ++ [x] := by
  rw [List.take_add_one, h]
  rfl
theorem mem_of_get {α : Type} {xs : List α} {i : Nat} {x : α} (h : xs[i]? = some x) : x ∈ xs := List.mem_of_getElem? h
section
variable {X : Cx} {k : Kx} {w0 : Wd} {Γ : List (Slot X.K)} {j j1 j2 j3 : Int × Int} {e a b c tg iter elt : Expr} {es : List Expr} {α β γ : Type} {A : RT X.K α} {B : RT X.K β} {C : RT X.K γ} {x y : α} {z : β} {xs ys : List α} {pos p2 p3 p4 : Pos} {scope : Scope} {own : List (Str × Nat)} {bind : α → List (Slot X.K) → List (Slot X.K)}
/-- [g x for x in xs if p x] -/
theorem lc_filt (p : α → Bool) (g : α → β) (ok : BlkOk X.N X.env.scope scope own) (hsrc : Src false X k w0 Γ j tg iter A xs j1) (htg : TgtC X scope (own.map (·.2)) tg A bind) (hz : xs.length ≤ 100000)
    (ht : ∀ x ∈ xs, ∀ (s : Shared) (H : Hp) (C : Addr) (cl : List (Str × Addr)) (fp : List Addr), EvT (X.blk s H scope (compEnvC scope cl C X.env) fp) k w0 (bind x (wipeG Γ (own.map (·.2)))) j1 e (p x) j1)
    (he : ∀ x ∈ xs, p x = true → ∀ (s : Shared) (H : Hp) (C : Addr) (cl : List (Str × Addr)) (fp : List Addr), EvD (X.blk s H scope (compEnvC scope cl C X.env) fp) k w0 (bind x (wipeG Γ (own.map (·.2)))) j1 elt B (g x) j1) :
    LcD X k w0 Γ j elt tg iter [e] scope B ((xs.filter p).map g) j1 := by
  refine lc_d ok hsrc htg hz (fun _ => j1) (fun i => ((xs.take i).filter p).map g) (fun _ => j1) (fun i => match xs[i]? with | some x => p x | none => false) rfl rfl rfl (by rw [List.take_length]) ?_ ?_ ?_ (Nat.le_refl _)
  · intro i x hx s H C cl fp
    simp only [hx]
    exact ht x (mem_of_get hx) s H C cl fp
  · intro i x hx hp
    simp only [hx] at hp
    refine ⟨?_, rfl⟩
    rw [take_succ_of hx, List.filter_append, List.map_append]
    simp [hp]
  · intro i x hx hp
    simp only [hx] at hp
    refine ⟨g x, ?_, he x (mem_of_get hx) hp⟩
    rw [take_succ_of hx, List.filter_append, List.map_append]
    simp [hp]
/-- [g x for x in xs] -/
theorem lc_map (g : α → β) (ok : BlkOk X.N X.env.scope scope own) (hsrc : Src false X k w0 Γ j tg iter A xs j1) (htg : TgtC X scope (own.map (·.2)) tg A bind) (hz : xs.length ≤ 100000)
    (he : ∀ x ∈ xs, ∀ (s : Shared) (H : Hp) (C : Addr) (cl : List (Str × Addr)) (fp : List Addr), EvD (X.blk s H scope (compEnvC scope cl C X.env) fp) k w0 (bind x (wipeG Γ (own.map (·.2)))) j1 elt B (g x) j1) :
    LcD X k w0 Γ j elt tg iter [] scope B (xs.map g) j1 := by
  refine lc_d ok hsrc htg hz (fun _ => j1) (fun i => (xs.take i).map g) (fun _ => j1) (fun _ => true) rfl rfl rfl (by rw [List.take_length]) ?_ ?_ ?_ (Nat.zero_le _)
  · intro i x hx
    exact ⟨rfl, rfl⟩
  · intro i x hx hp
    cases hp
  · intro i x hx hp
    refine ⟨g x, ?_, he x (mem_of_get hx)⟩
    rw [take_succ_of hx, List.map_append]
    rfl
/-- .. that draws from the jar -/
theorem lc_mapJ (I : Int × Int → Prop) (f : Int × Int → α → β × (Int × Int)) (ok : BlkOk X.N X.env.scope scope own) (hsrc : Src false X k w0 Γ j tg iter A xs j1) (htg : TgtC X scope (own.map (·.2)) tg A bind) (hz : xs.length ≤ 100000) (h0 : I j1) (hI : ∀ x ∈ xs, ∀ j, I j → I (f j x).2)
    (he : ∀ x ∈ xs, ∀ j', I j' → ∀ (s : Shared) (H : Hp) (C : Addr) (cl : List (Str × Addr)) (fp : List Addr), EvD (X.blk s H scope (compEnvC scope cl C X.env) fp) k w0 (bind x (wipeG Γ (own.map (·.2)))) j' elt B (f j' x).1 (f j' x).2) :
    LcD X k w0 Γ j elt tg iter [] scope B (mapJ f j1 xs).1 (mapJ f j1 xs).2 := by
  have inv : ∀ i, I (mapJ f j1 (xs.take i)).2 := fun i => mapJ_inv h0 fun x hx => hI x (List.mem_of_mem_take hx)
  refine lc_d ok hsrc htg hz (fun i => (mapJ f j1 (xs.take i)).2) (fun i => (mapJ f j1 (xs.take i)).1) (fun i => (mapJ f j1 (xs.take i)).2) (fun _ => true) rfl rfl (by rw [List.take_length]) (by rw [List.take_length]) ?_ ?_ ?_ (Nat.zero_le _)
  · intro i x hx
    exact ⟨rfl, rfl⟩
  · intro i x hx hp
    cases hp
  · intro i x hx hp
    refine ⟨(f (mapJ f j1 (xs.take i)).2 x).1, ?_, ?_⟩
    · rw [take_succ_of hx, mapJ_append]
      rfl
    · have := he x (mem_of_get hx) _ (inv i)
      rw [take_succ_of hx, mapJ_append]
      exact this
/-- the slots of a loop's names after some turns -/
theorem set_set_same {K : PySem.W.Frag} {Γ : List (Slot K)} {i : Nat} {s t : Slot K} : (Γ.set i s).set i t = Γ.set i t := List.set_set s
end
end Fm
set_option maxHeartbeats 2000000
/-! Fm13: several names given at once through a tuple. -/
namespace Fm
open PySem PySem.Spec PyProof.Rows L2
section
variable {X : Cx} {k : Kx} {w0 : Wd} {Γ : List (Slot X.K)} {j j1 j2 j3 : Int × Int} {a b c : Expr} {pos p2 p3 p4 p5 p6 : Pos} {s s1 s2 : Slot X.K} {δ : Type} {R : RtT X.K δ} {P : Po X.K δ} {rest : List Stmt}
theorem newS_neq {K : PySem.W.Frag} {k : Kx} {w0 w w' : Wd} {s t : Slot K} {u v : V} (ns : NewS K k w0 w s u) (he : ∀ p, w.H p ≠ none → w'.H p ≠ none) (hm : t.isMu = true → ∀ p, v = .ref p → w'.H p = none) : t.isMu = true → s.isMu = true → ∀ p, v = .ref p → u ≠ .ref p := by
  intro q1 q2 p hp z
  have n1 := hm q1 p hp
  cases s with
  | mu A xs =>
    obtain ⟨p', vs, f1, f2, _⟩ := ns
    rw [f1] at z
    injection z with z
    rw [z] at f2
    exact he p (by rw [f2]; exact fun y => nomatch y) n1
  | _ => cases q2
/-- n, n' = a, b where the names are not both plain locals -/
theorem hb_parC (ok : CxOk X) (i m : Nat) {n n' : Str} {k1 k2 : Nat} (ha : EvX X k w0 Γ j a s j1) (hb : EvX X k w0 Γ j1 b s1 j2) (hr : HB X k w0 R ((Γ.set i s).set m s1) j2 rest P)
    (hN : X.N[i]? = some n := by rfl) (hM : X.N[m]? = some n' := by rfl) (hl : Loc X.env.scope n := by first | exact .inl rfl | exact .inr rfl) (hl' : Loc X.env.scope n' := by first | exact .inl rfl | exact .inr rfl) (hf : X.fn n = true ∨ X.env.scope.names.lookup n = some .local := by first | exact .inl rfl | exact .inr rfl) (hf' : X.fn n' = true ∨ X.env.scope.names.lookup n' = some .local := by first | exact .inl rfl | exact .inr rfl)
    (h1 : starEach [a, b] X.env = (false, eval a X.env) :: starEach [b] X.env := by rfl) (h2 : starEach [b] X.env = (false, eval b X.env) :: starEach [] X.env := by rfl)
    (hs : swapsWithSole [.Tuple [.Name n p2, .Name n' p3] k1 p4] (.Tuple [a, b] k2 p5) pos.line X.env = pure false := by rfl) (hw : swappedStores [.Tuple [.Name n p2, .Name n' p3] k1 p4] (.Tuple [a, b] k2 p5) X.env = pure none := by with_unfolding_all rfl)
    (hq : (assignEach [.Tuple [.Name n p2, .Name n' p3] k1 p4] X.env).map (·.2) = [assign (.Tuple [.Name n p2, .Name n' p3] k1 p4) X.env] := by rfl) :
    HB X k w0 R Γ j (.Assign [.Tuple [.Name n p2, .Name n' p3] k1 p4] (.Tuple [a, b] k2 p5) pos :: rest) P := hb_cons fun σ w at0 D l =>
  W1.of (ps_asg (pe_tup (pa_cons pe_self (pa_cons pe_self pa_nil h2) h1)) (pg_tup ok.calm (pgs_cons (pg_name ok.nd hN hl hf) (pgs_cons (pg_name ok.nd hM hl' hf') pgs_nil))) hs hw hq) (ha σ w at0 _ fun u w1 a1 e1 ns hm => hb σ w1 a1 _ fun v w2 a2 e2 ns2 hm2 => ⟨by show 2 ≤ sizeLine; decide, fun p hp => by
    obtain ⟨g3, l3⟩ := a2.good.newS (o := .tup [u, v]) hp
    have a3 := a2.up l3 g3 a2.jar
    refine ⟨p, [u, v], rfl, .inl (.inl upd_same), rfl, u, [v], rfl, v, [], rfl, rfl, ?_⟩
    exact l.nx _ _ _ j2 ((a3.setX i (ns.up (e2.trans l3)) (at0.free hm)).setX m (ns2.up l3) ((a1.free hm2).set i (newS_neq ns (fun _ h => h) hm2))) ((e1.trans e2).trans l3).sub hr⟩)
theorem hb_parC3 (ok : CxOk X) (i m o : Nat) {n n' n2 : Str} {k1 k2 : Nat} (him : i ≠ m) (ha : EvX X k w0 Γ j a s j1) (hb : EvX X k w0 Γ j1 b s1 j2) (hc : EvX X k w0 Γ j2 c s2 j3) (hr : HB X k w0 R (((Γ.set i s).set m s1).set o s2) j3 rest P)
    (hN : X.N[i]? = some n := by rfl) (hM : X.N[m]? = some n' := by rfl) (hO : X.N[o]? = some n2 := by rfl) (hl : Loc X.env.scope n := by first | exact .inl rfl | exact .inr rfl) (hl' : Loc X.env.scope n' := by first | exact .inl rfl | exact .inr rfl) (hl2 : Loc X.env.scope n2 := by first | exact .inl rfl | exact .inr rfl) (hf : X.fn n = true ∨ X.env.scope.names.lookup n = some .local := by first | exact .inl rfl | exact .inr rfl) (hf' : X.fn n' = true ∨ X.env.scope.names.lookup n' = some .local := by first | exact .inl rfl | exact .inr rfl) (hf2 : X.fn n2 = true ∨ X.env.scope.names.lookup n2 = some .local := by first | exact .inl rfl | exact .inr rfl)
    (h1 : starEach [a, b, c] X.env = (false, eval a X.env) :: starEach [b, c] X.env := by rfl) (h2 : starEach [b, c] X.env = (false, eval b X.env) :: starEach [c] X.env := by rfl) (h3 : starEach [c] X.env = (false, eval c X.env) :: starEach [] X.env := by rfl)
    (hs : swapsWithSole [.Tuple [.Name n p2, .Name n' p3, .Name n2 p6] k1 p4] (.Tuple [a, b, c] k2 p5) pos.line X.env = pure false := by rfl) (hw : swappedStores [.Tuple [.Name n p2, .Name n' p3, .Name n2 p6] k1 p4] (.Tuple [a, b, c] k2 p5) X.env = pure none := by with_unfolding_all rfl)
    (hq : (assignEach [.Tuple [.Name n p2, .Name n' p3, .Name n2 p6] k1 p4] X.env).map (·.2) = [assign (.Tuple [.Name n p2, .Name n' p3, .Name n2 p6] k1 p4) X.env] := by rfl) :
    HB X k w0 R Γ j (.Assign [.Tuple [.Name n p2, .Name n' p3, .Name n2 p6] k1 p4] (.Tuple [a, b, c] k2 p5) pos :: rest) P := hb_cons fun σ w at0 D l =>
  W1.of (ps_asg (pe_tup (pa_cons pe_self (pa_cons pe_self (pa_cons pe_self pa_nil h3) h2) h1)) (pg_tup ok.calm (pgs_cons (pg_name ok.nd hN hl hf) (pgs_cons (pg_name ok.nd hM hl' hf') (pgs_cons (pg_name ok.nd hO hl2 hf2) pgs_nil)))) hs hw hq) (ha σ w at0 _ fun u w1 a1 e1 ns hm => hb σ w1 a1 _ fun v w2 a2 e2 ns2 hm2 => hc σ w2 a2 _ fun v3 w3 a3 e3 ns3 hm3 => ⟨by show 3 ≤ sizeLine; decide, fun p hp => by
    obtain ⟨g4, l4⟩ := a3.good.newS (o := .tup [u, v, v3]) hp
    have a4 := a3.up l4 g4 a3.jar
    refine ⟨p, [u, v, v3], rfl, .inl (.inl upd_same), rfl, u, [v, v3], rfl, v, [v3], rfl, v3, [], rfl, rfl, ?_⟩
    exact l.nx _ _ _ j3 (((a4.setX i (ns.up ((e2.trans e3).trans l4)) (at0.free hm)).setX m (ns2.up (e3.trans l4)) ((a1.free hm2).set i (newS_neq ns (fun _ h => h) hm2))).setX o (ns3.up l4) (((a2.free hm3).set i (newS_neq ns e2.there hm3)).set m (newS_neq ns2 (fun _ h => h) hm3))) (((e1.trans e2).trans e3).trans l4).sub hr⟩)
end
end Fm
/-! Rq: fractions in lowest terms are Lean's rationals; their sizes. -/
namespace Rq
theorem red_num {p q : Int} (h : 0 < q) : p / ((Nat.gcd p.natAbs q.natAbs : Nat) : Int) = (Rat.divInt p q).num := by
  have e : Int.gcd q p = Nat.gcd p.natAbs q.natAbs := by
    unfold Int.gcd
    exact Nat.gcd_comm _ _
  rw [Rat.num_divInt, e, Int.sign_eq_one_of_pos h, Int.one_mul]
theorem red_den {p q : Int} (h : 0 < q) : q / ((Nat.gcd p.natAbs q.natAbs : Nat) : Int) = ((Rat.divInt p q).den : Int) := by
  have e : Int.gcd q p = Nat.gcd p.natAbs q.natAbs := by
    unfold Int.gcd
    exact Nat.gcd_comm _ _
  rw [Rat.den_divInt, e, if_neg (by omega)]
  have hq : q = (q.natAbs : Int) := by omega
  rw [Int.natCast_ediv, ← hq]
theorem gcd_pos {p q : Int} (h : 0 < q) : 0 < ((Nat.gcd p.natAbs q.natAbs : Nat) : Int) := by
  have : 0 < Nat.gcd p.natAbs q.natAbs := Nat.gcd_pos_of_pos_right _ (by omega)
  omega
theorem gcd_le {p q : Int} (h : 0 < q) : Nat.gcd p.natAbs q.natAbs ≤ q.natAbs := Nat.gcd_le_right _ (by omega)
theorem add_eq (a b : Rat) : Rat.divInt (a.num * b.den + b.num * a.den) ((a.den : Int) * b.den) = a + b := by
  rw [Rat.add_def', ← Int.natCast_mul, Rat.divInt_ofNat]
theorem sub_eq (a b : Rat) : Rat.divInt (a.num * b.den - b.num * a.den) ((a.den : Int) * b.den) = a - b := by
  rw [Rat.sub_def', ← Int.natCast_mul, Rat.divInt_ofNat]
theorem mul_eq (a b : Rat) : Rat.divInt (a.num * b.num) ((a.den : Int) * b.den) = a * b := by
  rw [Rat.mul_def', ← Int.natCast_mul, Rat.divInt_ofNat]
theorem div_eq (a b : Rat) : Rat.divInt (a.num * b.den) ((a.den : Int) * b.num) = a / b := by
  rw [Rat.div_def, Rat.inv_def, ← Rat.divInt_mul_divInt, Rat.num_divInt_den]

/-! ### sizes -/
def Sz (b : Nat) (q : Rat) : Prop := q.num.natAbs < 2 ^ b ∧ q.den < 2 ^ b
theorem Sz.up {b c : Nat} {q : Rat} (h : Sz b q) (hb : b ≤ c) : Sz c q := ⟨Nat.lt_of_lt_of_le h.1 (Nat.pow_le_pow_right (by decide) hb), Nat.lt_of_lt_of_le h.2 (Nat.pow_le_pow_right (by decide) hb)⟩
/-- the least common multiple of 1 .. 16 -/
abbrev L : Nat := 720720
/-- the denominator divides L ^ e, the value is at most c -/
def Ok (e c : Nat) (q : Rat) : Prop := q.den ∣ L ^ e ∧ q.num.natAbs ≤ c * q.den
theorem Ok.up {e e' c c' : Nat} {q : Rat} (h : Ok e c q) (he : e ≤ e') (hc : c ≤ c') : Ok e' c' q := ⟨Nat.dvd_trans h.1 (Nat.pow_dvd_pow _ he), Nat.le_trans h.2 (Nat.mul_le_mul_right _ hc)⟩
theorem pow_L (e : Nat) : L ^ e ≤ 2 ^ (20 * e) := by
  rw [Nat.pow_mul]
  exact Nat.pow_le_pow_left (by decide) e
theorem Ok.sz {e c b : Nat} {q : Rat} (h : Ok e c q) (hb : 20 * e + c.log2 + 1 < b) : Sz b q := by
  have hL : 0 < L ^ e := Nat.pow_pos (by decide)
  have h1 : q.den ≤ 2 ^ (20 * e) := Nat.le_trans (Nat.le_of_dvd hL h.1) (pow_L e)
  have h2 : c < 2 ^ (c.log2 + 1) := Nat.lt_log2_self
  refine ⟨Nat.lt_of_le_of_lt h.2 ?_, Nat.lt_of_le_of_lt h1 (Nat.pow_lt_pow_right (by decide) (by omega))⟩
  have h3 : c * q.den ≤ 2 ^ (c.log2 + 1) * 2 ^ (20 * e) := Nat.mul_le_mul (Nat.le_of_lt h2) h1
  rw [← Nat.pow_add] at h3
  exact Nat.lt_of_le_of_lt h3 (Nat.pow_lt_pow_right (by decide) (by omega))
theorem den_divInt_dvd {n : Int} {d m : Nat} (hd : d ≠ 0) (h : d ∣ m) : (mkRat n d).den ∣ m := by
  rw [Rat.den_mkRat, if_neg hd]
  exact Nat.dvd_trans (Nat.div_dvd_of_dvd (Nat.gcd_dvd_left _ _)) h
/-- over a common denominator -/
theorem as_div {q : Rat} {m : Nat} (hm : m ≠ 0) (h : q.den ∣ m) : ∃ n : Int, q = mkRat n m := by
  obtain ⟨k, rfl⟩ := h
  refine ⟨q.num * k, ?_⟩
  have hk : k ≠ 0 := fun z => hm (by rw [z, Nat.mul_zero])
  rw [Rat.mkRat_mul_right hk, Rat.mkRat_self]
theorem natAbs_le_iff {q : Rat} {c : Nat} : q.num.natAbs ≤ c * q.den ↔ -(c : Rat) ≤ q ∧ q ≤ (c : Rat) := by
  rw [Rat.le_iff, Rat.le_iff]
  simp only [Rat.neg_num, Rat.neg_den, Rat.num_natCast, Rat.den_natCast]
  have e : ((c * q.den : Nat) : Int) = (c : Int) * (q.den : Int) := Int.natCast_mul _ _
  constructor
  · intro h
    have h2 : (q.num.natAbs : Int) ≤ (c : Int) * q.den := by rw [← e]; exact_mod_cast h
    constructor
    · have : -(c : Int) * q.den = -((c : Int) * q.den) := Int.neg_mul _ _
      omega
    · omega
  · rintro ⟨h1, h2⟩
    have : -(c : Int) * q.den = -((c : Int) * q.den) := Int.neg_mul _ _
    have h3 : (q.num.natAbs : Int) ≤ ((c * q.den : Nat) : Int) := by omega
    exact_mod_cast h3
theorem Ok.of {e c : Nat} {q : Rat} (h : q.den ∣ L ^ e) (h1 : -(c : Rat) ≤ q) (h2 : q ≤ (c : Rat)) : Ok e c q := ⟨h, natAbs_le_iff.mpr ⟨h1, h2⟩⟩
theorem Ok.lo {e c : Nat} {q : Rat} (h : Ok e c q) : -(c : Rat) ≤ q := (natAbs_le_iff.mp h.2).1
theorem Ok.hi {e c : Nat} {q : Rat} (h : Ok e c q) : q ≤ (c : Rat) := (natAbs_le_iff.mp h.2).2
theorem L_ne (e : Nat) : L ^ e ≠ 0 := Nat.ne_of_gt (Nat.pow_pos (by decide))
theorem den_add_dvd {a b : Rat} {m : Nat} (hm : m ≠ 0) (ha : a.den ∣ m) (hb : b.den ∣ m) : (a + b).den ∣ m := by
  obtain ⟨n, rfl⟩ := as_div hm ha
  obtain ⟨k, rfl⟩ := as_div hm hb
  have e : mkRat n m + mkRat k m = mkRat (n + k) m := by
    rw [Rat.mkRat_add_mkRat _ _ hm hm, ← Int.add_mul, Rat.mkRat_mul_right hm]
  rw [e]
  exact den_divInt_dvd hm (Nat.dvd_refl _)
theorem den_mul_dvd {a b : Rat} {m k : Nat} (hm : m ≠ 0) (hk : k ≠ 0) (ha : a.den ∣ m) (hb : b.den ∣ k) : (a * b).den ∣ m * k := by
  obtain ⟨n, rfl⟩ := as_div hm ha
  obtain ⟨l, rfl⟩ := as_div hk hb
  rw [Rat.mkRat_mul_mkRat]
  exact den_divInt_dvd (Nat.mul_ne_zero hm hk) (Nat.dvd_refl _)
theorem Ok.zero (e c : Nat) : Ok e c 0 := ⟨Nat.one_dvd _, by simp⟩
theorem Ok.one (e : Nat) {c : Nat} (h : 1 ≤ c) : Ok e c 1 := ⟨Nat.one_dvd _, by simpa using h⟩
theorem Ok.add {e c d : Nat} {a b : Rat} (h : Ok e c a) (k : Ok e d b) : Ok e (c + d) (a + b) := by
  refine .of (den_add_dvd (L_ne e) h.1 k.1) ?_ ?_
  · have h1 := h.lo
    have h2 := k.lo
    have e1 : ((c + d : Nat) : Rat) = (c : Rat) + (d : Rat) := by push_cast; rfl
    rw [e1]
    grind
  · have h1 := h.hi
    have h2 := k.hi
    have e1 : ((c + d : Nat) : Rat) = (c : Rat) + (d : Rat) := by push_cast; rfl
    rw [e1]
    grind
theorem Ok.neg {e c : Nat} {a : Rat} (h : Ok e c a) : Ok e c (-a) := ⟨by rw [Rat.neg_den]; exact h.1, by rw [Rat.neg_num, Rat.neg_den, Int.natAbs_neg]; exact h.2⟩
theorem Ok.sub {e c d : Nat} {a b : Rat} (h : Ok e c a) (k : Ok e d b) : Ok e (c + d) (a - b) := by
  rw [Rat.sub_eq_add_neg]
  exact h.add k.neg
theorem Ok.mul {e e' c d : Nat} {a b : Rat} (h : Ok e c a) (k : Ok e' d b) : Ok (e + e') (c * d) (a * b) := by
  refine ⟨by rw [Nat.pow_add]; exact den_mul_dvd (L_ne e) (L_ne e') h.1 k.1, ?_⟩
  have hn : (a * b).num.natAbs * (a.den * b.den) = (a.num * b.num).natAbs * (a * b).den := by
    have h1 : (a * b) = mkRat (a.num * b.num) (a.den * b.den) := Rat.mul_def' a b
    have h2 : mkRat (a * b).num (a * b).den = mkRat (a.num * b.num) (a.den * b.den) := by rw [Rat.mkRat_self, h1]
    rw [Rat.mkRat_eq_iff (a * b).den_nz (Nat.mul_ne_zero a.den_nz b.den_nz)] at h2
    have h3 := congrArg Int.natAbs h2
    rw [Int.natAbs_mul, Int.natAbs_mul] at h3
    rw [Int.natAbs_mul, Int.natAbs_natCast] at h3
    rw [Int.natAbs_natCast] at h3
    rw [Int.natAbs_mul]
    exact h3
  rw [Int.natAbs_mul] at hn
  have h1 := Nat.mul_le_mul h.2 k.2
  have hp : 0 < a.den * b.den := Nat.mul_pos a.den_pos b.den_pos
  have h4 : a.num.natAbs * b.num.natAbs * (a * b).den ≤ c * a.den * (d * b.den) * (a * b).den := Nat.mul_le_mul_right _ h1
  rw [← hn] at h4
  have e2 : c * a.den * (d * b.den) * (a * b).den = c * d * (a * b).den * (a.den * b.den) := by
    rw [Nat.mul_mul_mul_comm, Nat.mul_right_comm]
  rw [e2] at h4
  exact Nat.le_of_mul_le_mul_right h4 hp
theorem L_all0 : ∀ m, m < 17 → m = 0 ∨ L % m = 0 := by decide
theorem L_all (m : Nat) (h1 : 1 ≤ m) (h2 : m ≤ 16) : m ∣ L := by
  rcases L_all0 m (by omega) with h | h
  · omega
  · exact Nat.dvd_of_mod_eq_zero h
theorem Ok.inv {m : Nat} (h1 : 1 ≤ m) (h2 : m ≤ 16) : Ok 1 1 ((m : Rat)⁻¹) := by
  have hm : (m : Int) ≠ 0 := by omega
  refine ⟨?_, ?_⟩
  · rw [Rat.den_inv, Rat.num_natCast, if_neg hm, Nat.pow_one]
    simpa using L_all m h1 h2
  · rw [Rat.num_inv, Rat.den_inv, Rat.num_natCast, if_neg hm, Rat.den_natCast, Int.sign_eq_one_of_pos (by omega)]
    simp
    omega
theorem Ok.div {e c m : Nat} {a : Rat} (h : Ok e c a) (h1 : 1 ≤ m) (h2 : m ≤ 16) : Ok (e + 1) c (a / (m : Rat)) := by
  rw [Rat.div_def]
  have := h.mul (Ok.inv h1 h2)
  rwa [Nat.mul_one] at this
/-- the same over any denominator -/
def OkD (D c : Nat) (q : Rat) : Prop := q.den ∣ D ∧ q.num.natAbs ≤ c * q.den
theorem OkD.of {D c : Nat} {q : Rat} (h : q.den ∣ D) (h1 : -(c : Rat) ≤ q) (h2 : q ≤ (c : Rat)) : OkD D c q := ⟨h, natAbs_le_iff.mpr ⟨h1, h2⟩⟩
theorem OkD.lo {D c : Nat} {q : Rat} (h : OkD D c q) : -(c : Rat) ≤ q := (natAbs_le_iff.mp h.2).1
theorem OkD.hi {D c : Nat} {q : Rat} (h : OkD D c q) : q ≤ (c : Rat) := (natAbs_le_iff.mp h.2).2
theorem OkD.up {D c c' : Nat} {q : Rat} (h : OkD D c q) (hc : c ≤ c') : OkD D c' q := ⟨h.1, Nat.le_trans h.2 (Nat.mul_le_mul_right _ hc)⟩
theorem OkD.zero (D c : Nat) : OkD D c 0 := ⟨Nat.one_dvd _, by simp⟩
theorem OkD.add {D c d : Nat} {a b : Rat} (hD : D ≠ 0) (h : OkD D c a) (k : OkD D d b) : OkD D (c + d) (a + b) := by
  refine .of (den_add_dvd hD h.1 k.1) ?_ ?_
  · have h1 := h.lo
    have h2 := k.lo
    have e1 : ((c + d : Nat) : Rat) = (c : Rat) + (d : Rat) := by push_cast; rfl
    rw [e1]
    grind
  · have h1 := h.hi
    have h2 := k.hi
    have e1 : ((c + d : Nat) : Rat) = (c : Rat) + (d : Rat) := by push_cast; rfl
    rw [e1]
    grind
theorem OkD.sz {D c b d : Nat} {q : Rat} (h : OkD D c q) (hD : D ≠ 0) (h1 : D < 2 ^ b) (h2 : c < 2 ^ d) : Sz (b + d) q := by
  have hd : q.den ≤ D := Nat.le_of_dvd (Nat.pos_of_ne_zero hD) h.1
  refine ⟨?_, Nat.lt_of_le_of_lt hd (Nat.lt_of_lt_of_le h1 (Nat.pow_le_pow_right (by decide) (by omega)))⟩
  refine Nat.lt_of_le_of_lt h.2 ?_
  rw [Nat.pow_add, Nat.mul_comm]
  exact Nat.lt_of_le_of_lt (Nat.mul_le_mul_right _ hd) (Nat.mul_lt_mul_of_lt_of_le h1 (Nat.le_of_lt h2) (Nat.pow_pos (by decide)))
end Rq
set_option maxHeartbeats 2000000
/-! W0: what all walks of this program use. -/
namespace Fm
open PySem PySem.Spec PyProof.Rows L2
section
variable {X : Cx} {k : Kx} {w0 : Wd} {Γ : List (Slot X.K)} {j j1 j2 j3 : Int × Int} {α β : Type} {A : RT X.K α} {B : RT X.K β} {x : α} {xs : List α} {e : Expr} {pos : Pos}
theorem dv (i : Nat) {n : Str} (hΓ : Γ[i]? = some (.im A x) := by rfl) (hN : X.N[i]? = some n := by rfl) (hv : Vis X.env.scope n := by first | exact Or.inl rfl | exact Or.inr (Or.inl rfl) | exact Or.inr (Or.inr rfl)) (hd : (n == ("__debug__" : Str)) = false := by decide) (hcd : (n == ("__classdict__" : Str)) = false := by decide) :
    EvD X k w0 Γ j (.Name n pos) A x j := d_var i hΓ hN hv hd hcd
theorem bm (i : Nat) {n : Str} (hΓ : Γ[i]? = some (.mu A xs) := by rfl) (hN : X.N[i]? = some n := by rfl) (hv : Vis X.env.scope n := by first | exact Or.inl rfl | exact Or.inr (Or.inl rfl) | exact Or.inr (Or.inr rfl)) (hd : (n == ("__debug__" : Str)) = false := by decide) (hcd : (n == ("__classdict__" : Str)) = false := by decide) :
    EvB X k w0 Γ j (.Name n pos) A xs j := b_mu i hΓ hN hv hd hcd
theorem sb (i : Nat) {n : Str} (hΓ : Γ[i]? = some (.bo A xs) := by rfl) (hN : X.N[i]? = some n := by rfl) (hv : Vis X.env.scope n := by first | exact Or.inl rfl | exact Or.inr (Or.inl rfl) | exact Or.inr (Or.inr rfl)) (hd : (n == ("__debug__" : Str)) = false := by decide) (hcd : (n == ("__classdict__" : Str)) = false := by decide) :
    EvS X k w0 Γ j (.Name n pos) A xs j := s_bo i hΓ hN hv hd hcd
theorem bb (i : Nat) {n : Str} (hΓ : Γ[i]? = some (.bo A xs) := by rfl) (hN : X.N[i]? = some n := by rfl) (hv : Vis X.env.scope n := by first | exact Or.inl rfl | exact Or.inr (Or.inl rfl) | exact Or.inr (Or.inr rfl)) (hd : (n == ("__debug__" : Str)) = false := by decide) (hcd : (n == ("__classdict__" : Str)) = false := by decide) :
    EvB X k w0 Γ j (.Name n pos) A xs j := (s_bo i hΓ hN hv hd hcd).toB
/-- a local set -/
theorem st_ (ok : CxOk X) (i : Nat) {δ : Type} {R : RtT X.K δ} {P : Po X.K δ} {rest : List Stmt} {s : Slot X.K} {n : Str} {p2 : Pos} (h : EvX X k w0 Γ j e s j1) (hr : HB X k w0 R (Γ.set i s) j1 rest P) (hN : X.N[i]? = some n := by rfl) (hl : Loc X.env.scope n := by first | exact .inl rfl | exact .inr rfl)
    (hs : swapsWith e (some (.Name n p2)) pos.line X.env = pure false := by rfl) (hf : X.fn n = true ∨ X.env.scope.names.lookup n = some .local := by first | exact .inl rfl | exact .inr rfl) : HB X k w0 R Γ j (.Assign [.Name n p2] e pos :: rest) P := hb_set ok i hN hl h hr hs hf
end
/-- fractions in lowest terms -/
def rQ {K : PySem.W.Frag} : RT K Rat := ⟨fun S v q => (rPair (K := K) rInt rInt).r S v (q.num, (q.den : Int)), fun e h => (rPair (K := K) rInt rInt).up e h⟩
def dQ (q : Rat) : PyData := .tuple [.int q.num, .int (q.den : Int)]
section
variable {X : Cx} {k : Kx} {w0 : Wd} {Γ : List (Slot X.K)} {j j1 j2 j3 : Int × Int} {e : Expr} {q : Rat}
theorem EvD.pq (h : EvD X k w0 Γ j e rQ q j1) : EvD X k w0 Γ j e (rPair rInt rInt) (q.num, (q.den : Int)) j1 := h
theorem EvD.toQ {x y : Int} (h : EvD X k w0 Γ j e (rPair rInt rInt) (x, y) j1) (h1 : x = q.num) (h2 : y = (q.den : Int)) : EvD X k w0 Γ j e rQ q j1 := by
  subst h1 h2
  exact h
theorem RD.rat {K : PySem.W.Frag} : RD (rQ (K := K)) dQ 1 := by
  have r := RD.pair (K := K) RD.int RD.int
  exact ⟨fun S v x h => r.dp S v _ h, fun S v x h => r.lay S v _ h, fun x => r.dep (x.num, (x.den : Int)), fun x y => by
    rw [show PyData.eqv (dQ x) (dQ y) = true ↔ _ from r.inj (x.num, (x.den : Int)) (y.num, (y.den : Int))]
    constructor
    · intro h
      injection h with h1 h2
      exact Rat.ext h1 (by exact_mod_cast h2)
    · rintro rfl
      rfl⟩
end
open Rq (Sz)
theorem log2_le {n b : Nat} (h : n < 2 ^ b) : n.log2 ≤ b := by
  by_cases h0 : n = 0
  · subst h0
    simp
  · exact Nat.le_of_lt ((Nat.log2_lt h0).mpr h)
theorem mulW_of {m n : Int} {b c : Nat} (h : m.natAbs < 2 ^ b) (h2 : n.natAbs < 2 ^ c) (hb : b + c < 1000000) : CMulW m n := by
  have := log2_le h
  have := log2_le h2
  show m.natAbs.log2 + n.natAbs.log2 < 1000000
  omega
/-- a comparison as a condition -/
theorem isTrue_cmp {M : Model} {A : Around} {env : Env} {l r : Expr} {op : CmpOp} {pos : Pos} {whole : Sem Value} {Q : Bool → Shared → Prop} {E : Value → Shared → Prop} {s : Shared}
    (h : wpAny M A (eval (.Compare l [op] [r] pos) env) (fun c s1 => wpAny M A (truthy c) Q E s1) E s) : wpAny M A (isTrue (.Compare l [op] [r] pos) env whole) Q E s := fun G p hG => by
  have h1 := h G p hG
  simp only [eval_Compare1, Sem.wp_bind', Sem.wp_cmd_standAt, Sem.wp_operate] at h1
  simp only [isTrue_Compare1, Sem.wp_bind', Sem.wp_cmd_standAt, Sem.wp_operate, Sem.wp_holding] at h1 ⊢
  exact Sem.wp_mono M G _ (fun a p1 s1 h1 => Sem.wp_mono M G _ (fun b _ s2 h2 => Sem.wp_mono M G _ (fun c p3 s3 h3 => h3 G p3 hG) (fun _ _ _ h' => h') _ _ h2) (fun _ _ _ h' => h') _ _ h1) (fun _ _ _ h' => h') _ _ h1
theorem t_c {X : Cx} {k : Kx} {w0 : Wd} {Γ : List (Slot X.K)} {j j1 : Int × Int} {a b : Expr} {op : CmpOp} {pos : Pos} {v : Bool} (h : EvD X k w0 Γ j (.Compare a [op] [b] pos) rBl v j1) : EvT X k w0 Γ j (.Compare a [op] [b] pos) v j1 := fun σ w at0 Q q => by
  intro pins s I
  have h1 := h σ w at0 (fun u H' => u = .bl v ∧ Q v H') (fun u w1 a1 e1 r1 => ⟨r1, q w1 a1 e1⟩) pins s I
  refine isTrue_cmp (thn h1 fun u s1 ⟨x, H1, I1, r1, q1⟩ => ?_)
  obtain ⟨rfl, q2⟩ := q1
  cases r1
  exact wpAny_truthy_bool ⟨H1, I1, q2⟩
/-- a loop of known states, up to slots that do not matter -/
theorem hb_forJ {X : Cx} {k : Kx} {w0 : Wd} {Γ : List (Slot X.K)} {j j1 : Int × Int} {tg iter : Expr} {α δ : Type} {A : RT X.K α} {xs : List α} {R : RtT X.K δ} {P : Po X.K δ} {rest body : List Stmt} {pos : Pos} {τ : Type 1} (ok : CxOk X) {bind : α → List (Slot X.K) → List (Slot X.K)} (G : Nat → τ → List (Slot X.K)) (J : Nat → Int × Int) (hsrc : Src true X k w0 Γ j tg iter A xs j1) (htg : Tgt X tg A bind) (h0 : ∃ s, Γ = G 0 s) (hj0 : j1 = J 0)
    (hb : ∀ i x s, xs[i]? = some x → HB X k w0 R (bind x (G i s)) (J i) body { nx := fun Γ2 j2 => (∃ s', Γ2 = G (i + 1) s') ∧ j2 = J (i + 1), rt := P.rt, bk := fun Γ2 j2 => HB X k w0 R Γ2 j2 rest P, ct := fun Γ2 j2 => (∃ s', Γ2 = G (i + 1) s') ∧ j2 = J (i + 1) })
    (he : ∀ s, HB X k w0 R (G xs.length s) (J xs.length) rest P) (hs : ∀ x, foldedSetIterable iter X.env x = pure x := by intro _; rfl) : HB X k w0 R Γ j (.For tg iter body [] pos :: rest) P := by
  refine hb_for ok (fun i Γ' j' => (∃ s, Γ' = G i s) ∧ j' = J i) hsrc htg ⟨h0, hj0⟩ ?_ ?_ hs
  · rintro i x Γ' j' hx ⟨⟨s, rfl⟩, rfl⟩
    exact hb i x s hx
  · rintro Γ' j' ⟨⟨s, rfl⟩, rfl⟩
    exact he s
theorem d_ix0 {X : Cx} {k : Kx} {w0 : Wd} {Γ : List (Slot X.K)} {j j1 : Int × Int} {a : Expr} {m : Nat} {p2 pos : Pos} {α : Type} {A : RT X.K α} {xs : List α} {x : α} {i : Nat} (ha : EvB X k w0 Γ j a A xs j1) (hx : xs[i]? = some x) : EvD X k w0 Γ j (.Subscript a (.Constant (.int i) m p2) pos) A x j1 := d_ixB ha d_int (Int.natCast_nonneg i) hx
theorem EvD.is2 {X : Cx} {k : Kx} {w0 : Wd} {Γ : List (Slot X.K)} {j j1 j2 : Int × Int} {e : Expr} {α : Type} {A : RT X.K α} {x x' : α} (h : EvD X k w0 Γ j e A x j1) (e1 : x = x') (e2 : j1 = j2) : EvD X k w0 Γ j e A x' j2 := by
  subst e1 e2
  exact h
theorem EvT.is2 {X : Cx} {k : Kx} {w0 : Wd} {Γ : List (Slot X.K)} {j j1 j2 : Int × Int} {e : Expr} {x x' : Bool} (h : EvT X k w0 Γ j e x j1) (e1 : x = x') (e2 : j1 = j2) : EvT X k w0 Γ j e x' j2 := by
  subst e1 e2
  exact h
theorem EvM.is2 {X : Cx} {k : Kx} {w0 : Wd} {Γ : List (Slot X.K)} {j j1 j2 : Int × Int} {e : Expr} {α : Type} {A : RT X.K α} {x x' : List α} (h : EvM X k w0 Γ j e A x j1) (e1 : x = x') (e2 : j1 = j2) : EvM X k w0 Γ j e A x' j2 := by
  subst e1 e2
  exact h
theorem blk_at {X : Cx} {scope : Scope} {own : List (Str × Nat)} (N : List Str) (sc : Scope) (h : BlkOk N sc scope own) (hN : X.N = N := by rfl) (hs : X.env.scope = sc := by rfl) : BlkOk X.N X.env.scope scope own := by
  rw [hN, hs]
  exact h
section
variable {X : Cx} {k : Kx} {w0 : Wd} {Γ : List (Slot X.K)} {j j1 j2 j3 : Int × Int} {tg a b c : Expr} {fo : Bool} {p2 pos : Pos}
theorem rg1 (ok : CxOk X) {m : Int} (h : EvD X k w0 Γ j a rInt m j1) (hm : -1000000 ≤ m ∧ m ≤ 1000000) (hg : Gl X "range" := by rfl) (hs : starEach [a] X.env = (false, eval a X.env) :: starEach [] X.env := by rfl) : Src fo X k w0 Γ j tg (.Call (.Name "range" p2) [a] [] pos) rInt (rangeI 0 m) j1 := f_rng1 (small_of hm.1 hm.2) h hg (blt_len ok) hs
theorem rg2 (ok : CxOk X) {l m : Int} (h1 : EvD X k w0 Γ j a rInt l j1) (h2 : EvD X k w0 Γ j1 b rInt m j2) (hm : (-1000000 ≤ l ∧ l ≤ 1000000) ∧ -1000000 ≤ m ∧ m ≤ 1000000) (hg : Gl X "range" := by rfl) (hs : starEach [a, b] X.env = (false, eval a X.env) :: starEach [b] X.env := by rfl) (hs2 : starEach [b] X.env = (false, eval b X.env) :: starEach [] X.env := by rfl) :
    Src fo X k w0 Γ j tg (.Call (.Name "range" p2) [a, b] [] pos) rInt (rangeI l m) j2 := f_rng2 (small_of hm.1.1 hm.1.2) (small_of hm.2.1 hm.2.2) h1 h2 hg (blt_len ok) hs hs2
theorem mem_rangeI {l m x : Int} : x ∈ rangeI l m ↔ l ≤ x ∧ x < m := by
  unfold rangeI
  rw [List.mem_map]
  constructor
  · rintro ⟨i, hi, rfl⟩
    have := List.mem_range.mp hi
    omega
  · rintro ⟨h1, h2⟩
    exact ⟨(x - l).toNat, List.mem_range.mpr (by omega), by omega⟩
end
end Fm
set_option maxHeartbeats 2000000
namespace Fm
open PySem PySem.Spec PyProof.Rows L2
open Rq (Sz)
section
variable {Pg : Program} {w : World} {K : PySem.W.Frag} {mg : Str → Option Value} {base : Heap} {fa : Addr} {fd : FuncData} {T : Tbs} {lev : Nat}
abbrev S_bin {K : PySem.W.Frag} (T : Tbs) {α : Type} (A : RT K α) (pre : Rat → Rat → Prop) (f : Rat → Rat → α) : Sp := SpD (K := K) T (fun i : Rat × Rat => [.im rQ i.1, .im rQ i.2]) (fun i _ => pre i.1 i.2) A (fun i j => (f i.1 i.2, j))
abbrev Sz2 (b : Nat) (p q : Rat) : Prop := Sz b p ∧ Sz b q
theorem sc13 : FnScope ["one", "two"] ["one", "two"] (defScope (top 13)) := ⟨rfl, rfl, rfl, by decide +kernel, rfl, by decide +kernel, by decide +kernel⟩
abbrev S13 {K : PySem.W.Frag} (T : Tbs) : Sp := SpD (K := K) T (fun i : Int × Int => [.im rInt i.1, .im rInt i.2]) (fun i _ => True) rInt (fun i j => ((Nat.gcd i.1.natAbs i.2.natAbs : Nat), j))
theorem ok13 (hblt : ∀ n ∈ bltNames, mg n = none) (hgc : mg "gcd" = some (.builtin "math.gcd")) (F : FnP K "common_divisor" (top 13) fa fd) : FnG Pg w K mg base (lev + 1) fa fd ["one", "two"] (S13 (K := K) T) := by
  refine def_ok F sc13 (fun _ => rfl) (Nat.le_refl _) hblt fun cdv Ar outer s H E hcd ok hr i k w0 j ht _ => ?_
  exact hb_ret (d_gcd hgc (dv 0) (dv 1)) ⟨rfl, rfl⟩
abbrev S14 {K : PySem.W.Frag} (T : Tbs) : Sp := SpD (K := K) T (fun i : Int × Int => [.im rInt i.1, .im rInt i.2]) (fun i _ => 0 < i.2 ∧ i.2.natAbs < 2 ^ 8999) rQ (fun i j => (Rat.divInt i.1 i.2, j))
theorem sc14 : FnScope ["p", "q", "by"] ["p", "q"] (defScope (top 14)) := ⟨rfl, rfl, rfl, by decide +kernel, rfl, by decide +kernel, by decide +kernel⟩
theorem ok14 (hblt : ∀ n ∈ bltNames, mg n = none) (h13 : Has Pg w K mg base lev "common_divisor" ["one", "two"] (S13 (K := K) T)) (F : FnP K "reduced" (top 14) fa fd) : FnG Pg w K mg base (lev + 1) fa fd ["p", "q"] (S14 (K := K) T) := by
  refine def_ok F sc14 (fun _ => rfl) (by decide) hblt fun cdv Ar outer s H E hcd ok hr i k w0 j ht hp => ?_
  obtain ⟨h1, h2⟩ := hp
  refine st_ ok 2 (x_d (d_call h13 hr ok.gd i trivial ht (a_im (dv 0) (a_im (dv 1) a_nil)))) ?_
  refine hb_if (t_c (d_lt (dv 1) d_int)) (fun hu => ?_) (fun _ => hb_nil ?_)
  · simp at hu
    omega
  · have g1 := Rq.gcd_pos (p := i.1) h1
    have g2 := Rq.gcd_le (p := i.1) h1
    have cd : ∀ m : Int, CDivW m ((Nat.gcd i.1.natAbs i.2.natAbs : Nat) : Int) := fun m => ⟨g1, by
      have : (Nat.gcd i.1.natAbs i.2.natAbs) < 2 ^ 8999 := Nat.lt_of_le_of_lt g2 h2
      have := log2_le this
      show (((Nat.gcd i.1.natAbs i.2.natAbs : Nat) : Int)).natAbs.log2 < 9000
      rw [Int.natAbs_natCast]
      omega⟩
    refine hb_ret ((d_pair (d_fdiv (cd _) (dv 0) (dv 2)) (d_fdiv (cd _) (dv 1) (dv 2))).toQ ?_ ?_) ⟨rfl, rfl⟩
    · exact Rq.red_num h1
    · exact Rq.red_den h1

/-- a module's own value of a name -/
def Glob {K : PySem.W.Frag} (mg : Str → Option Value) (n : Str) {α : Type} (A : RT K α) (x : α) : Prop := ∃ u v, mg n = some u ∧ RelV v u ∧ ∀ S, A.r S v x
theorem d_gl {X : Cx} {k : Kx} {w0 : Wd} {Γ : List (Slot X.K)} {j : Int × Int} {α : Type} {A : RT X.K α} {x : α} {n : Str} {pos : Pos} (h : Glob X.mg n A x) (hg : Gl X n := by rfl) (hd : (n == ("__debug__" : Str)) = false := by decide) : EvD X k w0 Γ j (.Name n pos) A x j := by
  obtain ⟨u, v, h1, h2, h3⟩ := h
  exact d_glob hg h1 h2 h3 hd
theorem den_lt {b : Nat} {q : Rat} (h : Sz b q) : ((q.den : Int)).natAbs < 2 ^ b := by
  rw [Int.natAbs_natCast]
  exact h.2
theorem den_pos' (q : Rat) : 0 < (q.den : Int) := by
  have := q.den_pos
  omega
theorem den_mul {p q : Rat} (h : Sz 4000 p) (k : Sz 4000 q) : 0 < (p.den : Int) * q.den ∧ ((p.den : Int) * q.den).natAbs < 2 ^ 8999 := by
  refine ⟨Int.mul_pos (den_pos' p) (den_pos' q), ?_⟩
  rw [Int.natAbs_mul, Int.natAbs_natCast, Int.natAbs_natCast]
  have := Nat.mul_lt_mul_of_lt_of_le h.2 (Nat.le_of_lt k.2) (Nat.pow_pos (by decide))
  rw [← Nat.pow_add] at this
  exact Nat.lt_of_lt_of_le this (Nat.pow_le_pow_right (by decide) (by decide))
theorem ok15 (hblt : ∀ n ∈ bltNames, mg n = none) (h14 : Has Pg w K mg base lev "reduced" ["p", "q"] (S14 (K := K) T)) (F : FnP K "added" (top 15) fa fd) : FnG Pg w K mg base (lev + 1) fa fd ["one", "two"] (S_bin (K := K) T rQ (Sz2 4000) (· + ·)) := by
  refine def_ok F ⟨rfl, rfl, rfl, by decide +kernel, rfl, by decide +kernel, by decide +kernel⟩ (fun _ => rfl) (Nat.le_refl _) hblt fun cdv Ar outer s H E hcd ok hr i k w0 j ht hp => ?_
  obtain ⟨h1, h2⟩ := hp
  refine hb_ret ((d_call h14 hr ok.gd (i.1.num * i.2.den + i.2.num * i.1.den, (i.1.den : Int) * i.2.den) (den_mul h1 h2) ht (a_im (d_add (d_mul (mulW_of h1.1 (den_lt h2) (by decide)) (d_fst (dv 0).pq) (d_snd (dv 1).pq)) (d_mul (mulW_of h2.1 (den_lt h1) (by decide)) (d_fst (dv 1).pq) (d_snd (dv 0).pq))) (a_im (d_mul (mulW_of (den_lt h1) (den_lt h2) (by decide)) (d_snd (dv 0).pq) (d_snd (dv 1).pq)) a_nil)))) ⟨?_, rfl⟩
  exact Rq.add_eq _ _
theorem ok16 (hblt : ∀ n ∈ bltNames, mg n = none) (h14 : Has Pg w K mg base lev "reduced" ["p", "q"] (S14 (K := K) T)) (F : FnP K "taken" (top 16) fa fd) : FnG Pg w K mg base (lev + 1) fa fd ["one", "two"] (S_bin (K := K) T rQ (Sz2 4000) (· - ·)) := by
  refine def_ok F ⟨rfl, rfl, rfl, by decide +kernel, rfl, by decide +kernel, by decide +kernel⟩ (fun _ => rfl) (Nat.le_refl _) hblt fun cdv Ar outer s H E hcd ok hr i k w0 j ht hp => ?_
  obtain ⟨h1, h2⟩ := hp
  refine hb_ret ((d_call h14 hr ok.gd (i.1.num * i.2.den - i.2.num * i.1.den, (i.1.den : Int) * i.2.den) (den_mul h1 h2) ht (a_im (d_sub (d_mul (mulW_of h1.1 (den_lt h2) (by decide)) (d_fst (dv 0).pq) (d_snd (dv 1).pq)) (d_mul (mulW_of h2.1 (den_lt h1) (by decide)) (d_fst (dv 1).pq) (d_snd (dv 0).pq))) (a_im (d_mul (mulW_of (den_lt h1) (den_lt h2) (by decide)) (d_snd (dv 0).pq) (d_snd (dv 1).pq)) a_nil)))) ⟨?_, rfl⟩
  exact Rq.sub_eq _ _
theorem ok17 (hblt : ∀ n ∈ bltNames, mg n = none) (h14 : Has Pg w K mg base lev "reduced" ["p", "q"] (S14 (K := K) T)) (F : FnP K "multiplied" (top 17) fa fd) : FnG Pg w K mg base (lev + 1) fa fd ["one", "two"] (S_bin (K := K) T rQ (Sz2 4000) (· * ·)) := by
  refine def_ok F ⟨rfl, rfl, rfl, by decide +kernel, rfl, by decide +kernel, by decide +kernel⟩ (fun _ => rfl) (Nat.le_refl _) hblt fun cdv Ar outer s H E hcd ok hr i k w0 j ht hp => ?_
  obtain ⟨h1, h2⟩ := hp
  refine hb_ret ((d_call h14 hr ok.gd (i.1.num * i.2.num, (i.1.den : Int) * i.2.den) (den_mul h1 h2) ht (a_im (d_mul (mulW_of h1.1 h2.1 (by decide)) (d_fst (dv 0).pq) (d_fst (dv 1).pq)) (a_im (d_mul (mulW_of (den_lt h1) (den_lt h2) (by decide)) (d_snd (dv 0).pq) (d_snd (dv 1).pq)) a_nil)))) ⟨?_, rfl⟩
  exact Rq.mul_eq _ _
abbrev SzD (p q : Rat) : Prop := Sz 4000 p ∧ Sz 4000 q ∧ 0 < q.num
theorem num_mul {p q : Rat} (h : SzD p q) : 0 < (p.den : Int) * q.num ∧ ((p.den : Int) * q.num).natAbs < 2 ^ 8999 := by
  obtain ⟨h, k, hq⟩ := h
  refine ⟨Int.mul_pos (den_pos' p) hq, ?_⟩
  rw [Int.natAbs_mul, Int.natAbs_natCast]
  have := Nat.mul_lt_mul_of_lt_of_le h.2 (Nat.le_of_lt k.1) (Nat.pow_pos (by decide))
  rw [← Nat.pow_add] at this
  exact Nat.lt_of_lt_of_le this (Nat.pow_le_pow_right (by decide) (by decide))
theorem ok18 (hblt : ∀ n ∈ bltNames, mg n = none) (h14 : Has Pg w K mg base lev "reduced" ["p", "q"] (S14 (K := K) T)) (F : FnP K "divided" (top 18) fa fd) : FnG Pg w K mg base (lev + 1) fa fd ["one", "two"] (S_bin (K := K) T rQ SzD (· / ·)) := by
  refine def_ok F ⟨rfl, rfl, rfl, by decide +kernel, rfl, by decide +kernel, by decide +kernel⟩ (fun _ => rfl) (Nat.le_refl _) hblt fun cdv Ar outer s H E hcd ok hr i k w0 j ht hp => ?_
  have h3 := num_mul hp
  obtain ⟨h1, h2, h0⟩ := hp
  refine hb_ret ((d_call h14 hr ok.gd (i.1.num * i.2.den, (i.1.den : Int) * i.2.num) h3 ht (a_im (d_mul (mulW_of h1.1 (den_lt h2) (by decide)) (d_fst (dv 0).pq) (d_snd (dv 1).pq)) (a_im (d_mul (mulW_of (den_lt h1) h2.1 (by decide)) (d_snd (dv 0).pq) (d_fst (dv 1).pq)) a_nil)))) ⟨?_, rfl⟩
  exact Rq.div_eq _ _
theorem ok19 (hblt : ∀ n ∈ bltNames, mg n = none) (F : FnP K "is_less" (top 19) fa fd) : FnG Pg w K mg base (lev + 1) fa fd ["one", "two"] (S_bin (K := K) T rBl (Sz2 8000) (fun a b => decide (a < b))) := by
  refine def_ok F ⟨rfl, rfl, rfl, by decide +kernel, rfl, by decide +kernel, by decide +kernel⟩ (fun _ => rfl) (Nat.le_refl _) hblt fun cdv Ar outer s H E hcd ok hr i k w0 j ht ⟨h1, h2⟩ => ?_
  refine hb_ret (d_lt (d_mul (mulW_of h1.1 (den_lt h2) (by decide)) (d_fst (dv 0).pq) (d_snd (dv 1).pq)) (d_mul (mulW_of h2.1 (den_lt h1) (by decide)) (d_fst (dv 1).pq) (d_snd (dv 0).pq))) ⟨?_, rfl⟩
  rw [decide_eq_decide]
  exact (Rat.lt_iff _ _).symm
def gt2 (a b : Rat) : Rat := if decide (a < b) = true then b else a
theorem ok20 (hblt : ∀ n ∈ bltNames, mg n = none) (h19 : Has Pg w K mg base lev "is_less" ["one", "two"] (S_bin (K := K) T rBl (Sz2 8000) (fun a b => decide (a < b)))) (F : FnP K "greater_of" (top 20) fa fd) : FnG Pg w K mg base (lev + 1) fa fd ["one", "two"] (S_bin (K := K) T rQ (Sz2 8000) gt2) := by
  refine def_ok F ⟨rfl, rfl, rfl, by decide +kernel, rfl, by decide +kernel, by decide +kernel⟩ (fun _ => rfl) (Nat.le_refl _) hblt fun cdv Ar outer s H E hcd ok hr i k w0 j ht h => ?_
  exact hb_ret (d_ifP (t_of (d_call h19 hr ok.gd i h ht (a_im (dv 0) (a_im (dv 1) a_nil)))) (fun _ => dv 1) (fun _ => dv 0)) ⟨rfl, rfl⟩
/-- sums and greatest ones, from the left -/
def sumQ (xs : List Rat) : Rat := xs.foldl (· + ·) 0
def maxQ (xs : List Rat) : Rat := xs.foldl gt2 (xs.headD 0)
abbrev SumOk (xs : List Rat) : Prop := ∃ D c, D ≠ 0 ∧ D < 2 ^ 3800 ∧ c * xs.length < 2 ^ 200 ∧ ∀ x ∈ xs, Rq.OkD D c x
theorem sum_step {e c : Nat} {xs : List Rat} (h : ∀ x ∈ xs, Rq.Ok e c x) : Rq.Ok e (c * xs.length) (sumQ xs) := by
  suffices hh : ∀ (ys : List Rat) (a : Rat) (d : Nat), (∀ x ∈ ys, Rq.Ok e c x) → Rq.Ok e d a → Rq.Ok e (d + c * ys.length) (ys.foldl (· + ·) a) by
    have := hh xs 0 0 h (Rq.Ok.zero _ _)
    rwa [Nat.zero_add] at this
  intro ys
  induction ys with
  | nil => exact fun a d _ ha => ha
  | cons y ys ih =>
    intro a d hy ha
    have := ih (a + y) (d + c) (fun x hx => hy x (List.mem_cons_of_mem _ hx)) (ha.add (hy y List.mem_cons_self))
    rw [List.length_cons, Nat.mul_add, Nat.mul_one, Nat.add_comm (c * ys.length), ← Nat.add_assoc]
    exact this
theorem log_small {c : Nat} (h : c ≤ 10000000) : c.log2 ≤ 24 := log2_le (Nat.lt_of_le_of_lt h (by decide))
theorem ok_sz {e c : Nat} {q : Rat} (h : Rq.Ok e c q) (he : e ≤ 150) (hc : c ≤ 10000000) : Sz 4000 q := h.sz (by
  have := log_small hc
  omega)
theorem sum_stepD {D c : Nat} (hD : D ≠ 0) {xs : List Rat} (h : ∀ x ∈ xs, Rq.OkD D c x) : Rq.OkD D (c * xs.length) (sumQ xs) := by
  suffices hh : ∀ (ys : List Rat) (a : Rat) (d : Nat), (∀ x ∈ ys, Rq.OkD D c x) → Rq.OkD D d a → Rq.OkD D (d + c * ys.length) (ys.foldl (· + ·) a) by
    have := hh xs 0 0 h (Rq.OkD.zero _ _)
    rwa [Nat.zero_add] at this
  intro ys
  induction ys with
  | nil => exact fun a d _ ha => ha
  | cons y ys ih =>
    intro a d hy ha
    have := ih (a + y) (d + c) (fun x hx => hy x (List.mem_cons_of_mem _ hx)) (ha.add hD (hy y List.mem_cons_self))
    rw [List.length_cons, Nat.mul_add, Nat.mul_one, Nat.add_comm (c * ys.length), ← Nat.add_assoc]
    exact this
theorem sumOk_of {xs : List Rat} (e c : Nat) (he : e ≤ 150) (hc : c * xs.length ≤ 10000000) (h : ∀ x ∈ xs, Rq.Ok e c x) : SumOk xs := by
  refine ⟨Rq.L ^ e, c, Rq.L_ne e, ?_, Nat.lt_of_le_of_lt hc (by decide), h⟩
  exact Nat.lt_of_le_of_lt (Rq.pow_L e) (Nat.pow_lt_pow_right (by decide) (by omega))
theorem sum_sz {xs : List Rat} (h : SumOk xs) (n : Nat) : Sz 4000 (sumQ (xs.take n)) := by
  obtain ⟨D, c, hD, h1, h2, hx⟩ := h
  have := sum_stepD hD fun x hx' => hx x (List.mem_of_mem_take (i := n) hx')
  refine this.sz hD h1 (Nat.lt_of_le_of_lt (Nat.mul_le_mul_left _ ?_) h2)
  rw [List.length_take]
  exact Nat.min_le_right _ _
theorem sumQ_succ {xs : List Rat} {i : Nat} {x : Rat} (h : xs[i]? = some x) : sumQ (xs.take (i + 1)) = sumQ (xs.take i) + x := by
  unfold sumQ
  rw [take_succ_of h, List.foldl_append]
  rfl
theorem sumOk_sz {xs : List Rat} (h : SumOk xs) {x : Rat} (hx : x ∈ xs) : Sz 4000 x := by
  obtain ⟨D, c, hD, h1, h2, hh⟩ := h
  have : 1 ≤ xs.length := List.length_pos_of_mem hx
  have : c * 1 ≤ c * xs.length := Nat.mul_le_mul_left _ this
  exact (hh x hx).sz hD h1 (Nat.lt_of_le_of_lt (by omega) h2)
abbrev S_sum {K : PySem.W.Frag} (T : Tbs) : Sp := SpD (K := K) T (fun i : List Rat => [.bo rQ i]) (fun i _ => SumOk i) rQ (fun i j => (sumQ i, j))
theorem ok21 (hblt : ∀ n ∈ bltNames, mg n = none) (hno : Glob (K := K) mg "NOUGHT" rQ 0) (h15 : Has Pg w K mg base lev "added" ["one", "two"] (S_bin (K := K) T rQ (Sz2 4000) (· + ·))) (F : FnP K "sum_up" (top 21) fa fd) : FnG Pg w K mg base (lev + 1) fa fd ["fractions"] (S_sum (K := K) T) := by
  refine def_ok F (N := ["fractions", "found", "one"]) ⟨rfl, rfl, rfl, by decide +kernel, rfl, by decide +kernel, by decide +kernel⟩ (fun _ => rfl) (by decide) hblt fun cdv Ar outer s H E hcd ok hr i k w0 j ht h => ?_
  refine st_ ok 1 (x_d (d_gl hno)) ?_
  refine hb_forJ ok (fun n s => [.bo rQ i, .im rQ (sumQ (i.take n)), s]) (fun _ => j) (f_lst (sb 0)) (tg_name 2 ok.nd rfl (.inl rfl)) ⟨_, rfl⟩ rfl (fun n x s hx => ?_) fun s => ?_
  · refine st_ ok 1 (x_d (d_call h15 hr ok.gd (_, x) ⟨sum_sz h n, sumOk_sz h (mem_of_get hx)⟩ ht (a_im (dv 1) (a_im (dv 2) a_nil)))) (hb_nil ⟨⟨.im rQ x, ?_⟩, rfl⟩)
    rw [sumQ_succ hx]
    rfl
  · refine hb_ret (dv 1) ⟨?_, rfl⟩
    rw [List.take_length]
theorem gt2_or (a b : Rat) : gt2 a b = a ∨ gt2 a b = b := by
  unfold gt2
  split
  · exact .inr rfl
  · exact .inl rfl
theorem fold_mem (ys : List Rat) : ∀ a : Rat, ys.foldl gt2 a = a ∨ ys.foldl gt2 a ∈ ys := by
  induction ys with
  | nil => exact fun a => .inl rfl
  | cons y ys ih =>
    intro a
    rcases ih (gt2 a y) with h | h
    · rcases gt2_or a y with e | e
      · exact .inl (h.trans e)
      · exact .inr (by rw [List.foldl_cons, h, e]; exact List.mem_cons_self)
    · exact .inr (List.mem_cons_of_mem _ h)
def maxK (xs : List Rat) (n : Nat) : Rat := (xs.take n).foldl gt2 (xs.headD 0)
theorem maxK_mem {xs : List Rat} (h : xs ≠ []) (n : Nat) : maxK xs n ∈ xs := by
  rcases fold_mem (xs.take n) (xs.headD 0) with e | e
  · unfold maxK
    rw [e]
    cases xs with
    | nil => exact absurd rfl h
    | cons x xs => exact List.mem_cons_self
  · exact List.mem_of_mem_take e
theorem maxK_succ {xs : List Rat} {i : Nat} {x : Rat} (h : xs[i]? = some x) : maxK xs (i + 1) = gt2 (maxK xs i) x := by
  unfold maxK
  rw [take_succ_of h, List.foldl_append]
  rfl
theorem maxK_len {xs : List Rat} : maxK xs xs.length = maxQ xs := by
  unfold maxK maxQ
  rw [List.take_length]
theorem maxQ_mem {xs : List Rat} (h : xs ≠ []) : maxQ xs ∈ xs := by
  rw [← maxK_len]
  exact maxK_mem h _
theorem head_get {xs : List Rat} (h : xs ≠ []) : xs[0]? = some (xs.headD 0) := by
  cases xs with
  | nil => exact absurd rfl h
  | cons x xs => rfl
abbrev S_max {K : PySem.W.Frag} (T : Tbs) : Sp := SpD (K := K) T (fun i : List Rat => [.bo rQ i]) (fun i _ => i ≠ [] ∧ ∀ x ∈ i, Sz 4000 x) rQ (fun i j => (maxQ i, j))
theorem ok22 (hblt : ∀ n ∈ bltNames, mg n = none) (h20 : Has Pg w K mg base lev "greater_of" ["one", "two"] (S_bin (K := K) T rQ (Sz2 8000) gt2)) (F : FnP K "greatest_of" (top 22) fa fd) : FnG Pg w K mg base (lev + 1) fa fd ["fractions"] (S_max (K := K) T) := by
  refine def_ok F (N := ["fractions", "found", "one"]) ⟨rfl, rfl, rfl, by decide +kernel, rfl, by decide +kernel, by decide +kernel⟩ (fun _ => rfl) (by decide) hblt fun cdv Ar outer s H E hcd ok hr i k w0 j ht ⟨hn, h⟩ => ?_
  refine st_ ok 1 (x_d (d_ix0 (bb 0) (head_get hn))) ?_
  refine hb_forJ ok (fun n s => [.bo rQ i, .im rQ (maxK i n), s]) (fun _ => j) (f_lst (sb 0)) (tg_name 2 ok.nd rfl (.inl rfl)) ⟨_, rfl⟩ rfl (fun n x s hx => ?_) fun s => ?_
  · refine st_ ok 1 (x_d (d_call h20 hr ok.gd (_, x) ⟨(h _ (maxK_mem hn n)).up (by decide), (h _ (mem_of_get hx)).up (by decide)⟩ ht (a_im (dv 1) (a_im (dv 2) a_nil)))) (hb_nil ⟨⟨.im rQ x, ?_⟩, rfl⟩)
    rw [maxK_succ hx]
    rfl
  · exact hb_ret (dv 1) ⟨maxK_len, rfl⟩
end
end Fm
set_option maxHeartbeats 2000000
namespace Fm
open PySem PySem.Spec PyProof.Rows L2
open PySem.W (alike alikeAll dataLt Sortable)
open Rq (Sz)
/-! ### more rules -/
section
variable {X : Cx} {k : Kx} {w0 : Wd} {Γ : List (Slot X.K)} {j j1 j2 j3 : Int × Int} {a b e : Expr} {α β : Type} {A : RT X.K α} {B : RT X.K β} {x : α} {y : β} {xs : List α} {pos p2 p3 : Pos}
theorem d_len2 (ok : CxOk X) {z : α × β} (h : EvD X k w0 Γ j a (rPair A B) z j1) (hg : Gl X "len" := by rfl) (hs : starEach [a] X.env = (false, eval a X.env) :: starEach [] X.env := by rfl) (hpl : (backTo pos (starEach [] X.env)).any (·.1) = false := by rfl) : EvD X k w0 Γ j (.Call (.Name "len" p2) [a] [] pos) rInt 2 j1 := fun σ w at0 Q q =>
  WE.of (pe_callB call_len_seq hg (blt_len ok) (by decide +kernel) (pa_cons pe_self pa_nil hs) (he := hs) (hpl := hpl)) (h σ w at0 _ fun v w1 a1 e1 ⟨p, u, z, h0, h1, h2, h3⟩ => ⟨p, [u, z], by rw [h0], .inr (a1.good.sub.t h1), q _ w1 a1 e1 rfl⟩)
theorem kit_tup (h : ∀ S v, A.r S v x → ∃ p vs, v = .ref p ∧ SqT X.K S p vs) : ∀ S v, A.r S v x → ∃ t : String, TyX X.K S v (.type t) ∧ kitB t "tuple" = some true := fun S v r => by
  obtain ⟨p, vs, rfl, hs⟩ := h S v r
  exact ⟨"tuple", ty_tup hs, by rfl⟩
theorem tup_is {z : List α} : ∀ S v, (rTup A).r S v z → ∃ p vs, v = .ref p ∧ SqT X.K S p vs := fun _ _ ⟨p, vs, h, h1, _⟩ => ⟨p, vs, h, h1⟩
theorem pair_is {z : α × β} : ∀ S v, (rPair A B).r S v z → ∃ p vs, v = .ref p ∧ SqT X.K S p vs := fun _ _ ⟨p, u, z, h, h1, _⟩ => ⟨p, [u, z], h, h1⟩
theorem d_isTup (ok : CxOk X) (hA : ∀ S v, A.r S v x → ∃ p vs, v = .ref p ∧ SqT X.K S p vs) (h : EvD X k w0 Γ j a A x j1) (hg : Gl X "isinstance" := by rfl) (hg2 : Gl X "tuple" := by rfl)
    (hs0 : starEach [a, .Name "tuple" p3] X.env = (false, eval a X.env) :: starEach [.Name "tuple" p3] X.env := by rfl) (hs : starEach [.Name "tuple" p3] X.env = (false, eval (.Name "tuple" p3) X.env) :: starEach [] X.env := by rfl) (hpl : (backTo pos (starEach [.Name "tuple" p3] X.env)).any (·.1) = false := by rfl) :
    EvD X k w0 Γ j (.Call (.Name "isinstance" p2) [a, .Name "tuple" p3] [] pos) rBl true j1 := d_isi ok (kit_tup hA) h rfl (by decide) hg hg2 (hs0 := hs0) (hs := hs) (hpl := hpl)
theorem int_is {m : Int} {T : String} {v0 : Bool} (h : kitB "int" T = some v0) : ∀ S v, (rInt (K := X.K)).r S v m → ∃ t : String, TyX X.K S v (.type t) ∧ kitB t T = some v0 := fun S v r => by
  have e : v = .int m := r
  subst e
  exact ⟨"int", .base (.int m), h⟩
theorem d_isInt (ok : CxOk X) {m : Int} (h : EvD X k w0 Γ j a rInt m j1) (hg : Gl X "isinstance" := by rfl) (hg2 : Gl X "int" := by rfl)
    (hs0 : starEach [a, .Name "int" p3] X.env = (false, eval a X.env) :: starEach [.Name "int" p3] X.env := by rfl) (hs : starEach [.Name "int" p3] X.env = (false, eval (.Name "int" p3) X.env) :: starEach [] X.env := by rfl) (hpl : (backTo pos (starEach [.Name "int" p3] X.env)).any (·.1) = false := by rfl) :
    EvD X k w0 Γ j (.Call (.Name "isinstance" p2) [a, .Name "int" p3] [] pos) rBl true j1 := d_isi ok (int_is (by rfl)) h rfl (by decide) hg hg2 (hs0 := hs0) (hs := hs) (hpl := hpl)
theorem d_isBool (ok : CxOk X) {m : Int} (h : EvD X k w0 Γ j a rInt m j1) (hg : Gl X "isinstance" := by rfl) (hg2 : Gl X "bool" := by rfl)
    (hs0 : starEach [a, .Name "bool" p3] X.env = (false, eval a X.env) :: starEach [.Name "bool" p3] X.env := by rfl) (hs : starEach [.Name "bool" p3] X.env = (false, eval (.Name "bool" p3) X.env) :: starEach [] X.env := by rfl) (hpl : (backTo pos (starEach [.Name "bool" p3] X.env)).any (·.1) = false := by rfl) :
    EvD X k w0 Γ j (.Call (.Name "isinstance" p2) [a, .Name "bool" p3] [] pos) rBl false j1 := d_isi ok (int_is (by rfl)) h rfl (by decide) hg hg2 (hs0 := hs0) (hs := hs) (hpl := hpl)
end
section
variable {K : PySem.W.Frag}
abbrev rSpn : RT K (List Int) := rTup rInt
abbrev rSps : RT K (List (List Int)) := rTup rSpn
abbrev rBk : RT K (Int × List (List Int)) := rPair rInt rSps
end
def dSpn (s : List Int) : PyData := .tuple (s.map .int)
def dOrd (s : List Int) : PyData := .tuple [.int (s.length : Nat), dSpn s]
/-- which of two spans stands ahead -/
def OrdLt (a b : List Int) : Prop := dataLt (dOrd a) (dOrd b) = true
def Rising (n : Int) (s : List Int) : Prop := s ≠ [] ∧ s.Pairwise (· < ·) ∧ ∀ c ∈ s, 0 ≤ c ∧ c < n
structure Book (n : Int) (sp : List (List Int)) : Prop where
  n1 : 1 ≤ n
  n2 : n ≤ 16
  l1 : 1 ≤ sp.length
  l2 : sp.length ≤ 40
  ris : ∀ s ∈ sp, Rising n s
  ord : sp.Pairwise fun a b => OrdLt a b ∧ dataLt (dOrd b) (dOrd a) = false
structure Nest (n : Int) (sp : List (List Int)) : Prop extends Book n sp where
  lam : ∀ a ∈ sp, ∀ b ∈ sp, (∃ c ∈ a, c ∈ b) → (∀ c ∈ a, c ∈ b) ∨ (∀ c ∈ b, c ∈ a)
section
variable {Pg : Program} {w : World} {K : PySem.W.Frag} {mg : Str → Option Value} {base : Heap} {fa : Addr} {fd : FuncData} {T : Tbs} {lev : Nat}
abbrev S9 {K : PySem.W.Frag} (T : Tbs) : Sp := SpD (K := K) T (fun i : Int => [.im rInt i]) (fun _ _ => True) rBl (fun _ j => (true, j))
theorem ok9 (hblt : ∀ n ∈ bltNames, mg n = none) (F : FnP K "is_whole" (top 9) fa fd) : FnG Pg w K mg base (lev + 1) fa fd ["thing"] (S9 (K := K) T) := by
  refine def_ok F (N := ["thing"]) ⟨rfl, rfl, rfl, by decide +kernel, rfl, by decide +kernel, by decide +kernel⟩ (fun _ => rfl) (by decide) hblt fun cdv Ar outer s H E hcd ok hr i k w0 j ht h => ?_
  exact hb_ret (d_and (d_isInt ok (dv 0)) fun _ => d_one (d_not (d_isBool ok (dv 0)))) ⟨rfl, rfl⟩
abbrev S10 {K : PySem.W.Frag} (T : Tbs) : Sp := SpD (K := K) T (fun i : Int × Int × Int => [.im rInt i.1, .im rInt i.2.1, .im rInt i.2.2]) (fun _ _ => True) rBl (fun i j => (decide (i.2.1 ≤ i.1) && decide (i.1 ≤ i.2.2), j))
theorem ok10 (hblt : ∀ n ∈ bltNames, mg n = none) (h9 : Has Pg w K mg base lev "is_whole" ["thing"] (S9 (K := K) T)) (F : FnP K "is_between" (top 10) fa fd) : FnG Pg w K mg base (lev + 1) fa fd ["thing", "least", "most"] (S10 (K := K) T) := by
  refine def_ok F (N := ["thing", "least", "most"]) ⟨rfl, rfl, rfl, by decide +kernel, rfl, by decide +kernel, by decide +kernel⟩ (fun _ => rfl) (by decide) hblt fun cdv Ar outer s H E hcd ok hr i k w0 j ht h => ?_
  exact hb_ret (d_and (d_call h9 hr ok.gd i.1 trivial ht (a_im (dv 0) a_nil)) fun _ => d_one (d_chain op_le op_le (dv 1) (dv 0) fun _ => dv 2)) ⟨rfl, rfl⟩
abbrev S11 {K : PySem.W.Frag} (T : Tbs) : Sp := SpD (K := K) T (fun i : Int × Int => [.im rInt i.1, .im rInt i.2]) (fun _ _ => True) rBl (fun i j => (decide (0 ≤ i.1) && decide (i.1 ≤ i.2 - 1), j))
theorem ok11 (hblt : ∀ n ∈ bltNames, mg n = none) (h10 : Has Pg w K mg base lev "is_between" ["thing", "least", "most"] (S10 (K := K) T)) (F : FnP K "is_below" (top 11) fa fd) : FnG Pg w K mg base (lev + 1) fa fd ["thing", "bound"] (S11 (K := K) T) := by
  refine def_ok F (N := ["thing", "bound"]) ⟨rfl, rfl, rfl, by decide +kernel, rfl, by decide +kernel, by decide +kernel⟩ (fun _ => rfl) (by decide) hblt fun cdv Ar outer s H E hcd ok hr i k w0 j ht h => ?_
  exact hb_ret (d_call h10 hr ok.gd (i.1, 0, i.2 - 1) trivial ht (a_im (dv 0) (a_im d_int (a_im (d_sub (dv 1) d_int) a_nil)))) ⟨rfl, rfl⟩
abbrev S12 {K : PySem.W.Frag} (T : Tbs) : Sp := SpD (K := K) T (fun i : Int × List (List Int) => [.im rBk i]) (fun _ _ => True) rBl (fun i j => (true, j))
theorem ok12 (hblt : ∀ n ∈ bltNames, mg n = none) (F : FnP K "is_two" (top 12) fa fd) : FnG Pg w K mg base (lev + 1) fa fd ["thing"] (S12 (K := K) T) := by
  refine def_ok F (N := ["thing"]) ⟨rfl, rfl, rfl, by decide +kernel, rfl, by decide +kernel, by decide +kernel⟩ (fun _ => rfl) (by decide) hblt fun cdv Ar outer s H E hcd ok hr i k w0 j ht h => ?_
  exact hb_ret (d_and (d_isTup ok pair_is (dv 0)) fun _ => d_one (d_eqI (d_len2 ok (dv 0)) d_int)) ⟨rfl, rfl⟩
abbrev S26 {K : PySem.W.Frag} (T : Tbs) : Sp := SpD (K := K) T (fun i : Int × List Int => [.im rInt i.1, .im rSpn i.2]) (fun i _ => Rising i.1 i.2) rBl (fun i j => (true, j))
theorem lastI {s : List Int} (h : s.Pairwise (· < ·)) {n : Nat} {x : Int} (hx : s[n]? = some x) (h0 : ∀ c ∈ s, 0 ≤ c) : ¬ x ≤ (if n = 0 then -1 else s.getD (n - 1) 0) := by
  split
  · have := h0 x (mem_of_get hx)
    omega
  · rename_i hn
    have hl := (List.getElem?_eq_some_iff.mp hx).1
    have := List.pairwise_iff_getElem.mp h (n - 1) n (by omega) hl (by omega)
    have e := (List.getElem?_eq_some_iff.mp hx).2
    rw [List.getD_eq_getElem?_getD, List.getElem?_eq_getElem (by omega)]
    simp only [Option.getD_some]
    omega
theorem ok26 (hblt : ∀ n ∈ bltNames, mg n = none) (h11 : Has Pg w K mg base lev "is_below" ["thing", "bound"] (S11 (K := K) T)) (F : FnP K "is_rising" (top 26) fa fd) : FnG Pg w K mg base (lev + 1) fa fd ["n", "thing"] (S26 (K := K) T) := by
  refine def_ok F (N := ["n", "thing", "last", "number"]) ⟨rfl, rfl, rfl, by decide +kernel, rfl, by decide +kernel, by decide +kernel⟩ (fun _ => rfl) (by decide) hblt fun cdv Ar outer s H E hcd ok hr i k w0 j ht ⟨h1, h2, h3⟩ => ?_
  have hu : Ar.units + 3 + 64 < cLine := by
    have : (Ar.deeper _).units + 65 < cLine := ok.hu
    have e : Ar.units + 3 + 65 < cLine := this
    omega
  refine hb_ifO (w_t (w_or (t_not (t_of (d_isTup ok tup_is (dv 1)))) fun _ => w_or1 (t_c (d_eqD hu (RD.tup RD.int) (by decide) (dv 1) (d_tupR r_nil (Nat.zero_le _)))))) (fun hu => ?_) (fun _ => ?_)
  · simp [h1] at hu
  · refine st_ ok 2 (x_d (d_neg d_int)) ?_
    refine hb_forJ ok (fun n s => [.im rInt i.1, .im rSpn i.2, .im rInt (if n = 0 then -1 else i.2.getD (n - 1) 0), s]) (fun _ => j) (f_tup (dv 1)) (tg_name 3 ok.nd rfl (.inl rfl)) ⟨_, rfl⟩ rfl (fun n x s hx => ?_) fun s => ?_
    · have hx3 := h3 x (mem_of_get hx)
      refine hb_ifO (w_t (w_or (t_not (t_of (d_call h11 hr ok.gd (x, i.1) trivial ht (a_im (dv 3) (a_im (dv 0) a_nil))))) fun _ => w_or1 (t_c (d_le (dv 3) (dv 2))))) (fun hu => ?_) (fun _ => ?_)
      · have := lastI h2 hx fun c hc => (h3 c hc).1
        rcases Bool.or_eq_true_iff.mp hu with hu | hu
        · simp at hu
          omega
        · exact absurd (of_decide_eq_true hu) this
      · refine st_ ok 2 (x_d (dv 3)) (hb_nil ⟨⟨.im rInt x, ?_⟩, rfl⟩)
        have e : i.2.getD n 0 = x := by rw [List.getD_eq_getElem?_getD, hx]; rfl
        rw [if_neg (Nat.succ_ne_zero n), Nat.add_sub_cancel, e]
        rfl
    · exact hb_ret d_bl ⟨rfl, rfl⟩
end
end Fm
set_option maxHeartbeats 2000000
namespace Fm
open PySem PySem.Spec PyProof.Rows L2
open PySem.W (alike alikeAll dataLt Sortable)
open Rq (Sz)
def TabH (fd : FuncData) (T : Tbs) (base : Heap) (mg : Str → Option Value) : Prop := ∃ c P, fd.code = .ref c ∧ GxR.TabB base mg c P ∧ P ∈ T.tb ∧ ∀ p ∈ T.tl, p.1 ≠ P
theorem TabH.at {Pg : Program} {w : World} {K : PySem.W.Frag} {mg : Str → Option Value} {base : Heap} {N : List Str} {q : Str} {sc : Scope} {fa : Addr} {fd : FuncData} {T : Tbs} {Ar : Around} {outer : List Env} {s : Shared} {H : Hp} {E : XK} {cdv : Value} {k : Kx} (h : TabH fd T base mg) (hc : fd.code = cdv) (ht : k.T = T) : ∃ P, Tabs (DX Pg w K mg base N q sc fa cdv Ar outer s H E) k P := by
  obtain ⟨c, P, h1, h2, h3, h4⟩ := h
  exact ⟨P, ⟨⟨c, hc.symm.trans h1, h2⟩, by rw [ht]; exact h3, by rw [ht]; exact h4⟩⟩
def liesB (a b : List Int) : Bool := a.all fun c => decide (c ∈ b)
def shareB (a b : List Int) : Bool := a.any fun c => decide (c ∈ b)
theorem liesB_iff {a b : List Int} : liesB a b = true ↔ ∀ c ∈ a, c ∈ b := by simp [liesB]
theorem shareB_iff {a b : List Int} : shareB a b = true ↔ ∃ c ∈ a, c ∈ b := by simp [shareB]
section
variable {Pg : Program} {w : World} {K : PySem.W.Frag} {mg : Str → Option Value} {base : Heap} {fa : Addr} {fd : FuncData} {T : Tbs} {lev : Nat}
abbrev S27 {K : PySem.W.Frag} (T : Tbs) : Sp := SpD (K := K) T (fun i : List Int => [.im rSpn i]) (fun _ _ => True) (rPair rInt rSpn) (fun i j => ((((i.length : Nat) : Int), i), j))
theorem ok27 (hblt : ∀ n ∈ bltNames, mg n = none) (F : FnP K "order_of" (top 27) fa fd) : FnG Pg w K mg base (lev + 1) fa fd ["span"] (S27 (K := K) T) := by
  refine def_ok F (N := ["span"]) ⟨rfl, rfl, rfl, by decide +kernel, rfl, by decide +kernel, by decide +kernel⟩ (fun _ => rfl) (by decide) hblt fun cdv Ar outer s H E hcd ok hr i k w0 j ht h => ?_
  exact hb_ret (d_pair (d_lenT ok (dv 0)) (dv 0)) ⟨rfl, rfl⟩
abbrev S28 {K : PySem.W.Frag} (T : Tbs) : Sp := SpD (K := K) T (fun i : Int × List (List Int) => [.im rBk i]) (fun i _ => Book i.1 i.2) rBl (fun i j => (true, j))
theorem ok28 (hblt : ∀ n ∈ bltNames, mg n = none) (hmc : Glob (K := K) mg "MOST_COLUMNS" rInt 16) (hms : Glob (K := K) mg "MOST_SPANS" rInt 40) (h10 : Has Pg w K mg base lev "is_between" ["thing", "least", "most"] (S10 (K := K) T)) (h12 : Has Pg w K mg base lev "is_two" ["thing"] (S12 (K := K) T)) (F : FnP K "has_form" (top 28) fa fd) : FnG Pg w K mg base (lev + 1) fa fd ["thing"] (S28 (K := K) T) := by
  refine def_ok F (N := ["thing"]) ⟨rfl, rfl, rfl, by decide +kernel, rfl, by decide +kernel, by decide +kernel⟩ (fun _ => rfl) (by decide) hblt fun cdv Ar outer s H E hcd ok hr i k w0 j ht h => ?_
  obtain ⟨i1, i2⟩ := i
  have b1 : 1 ≤ i1 := h.n1
  have b2 : i1 ≤ 16 := h.n2
  have b3 : 1 ≤ i2.length := h.l1
  have b4 : i2.length ≤ 40 := h.l2
  refine hb_ifO (w_t (w_or (t_not (t_of (d_call h12 hr ok.gd (i1, i2) trivial ht (a_im (dv 0) a_nil)))) fun _ => w_or (t_not (t_of (d_call h10 hr ok.gd (i1, 1, 16) trivial ht (a_im (d_fst (dv 0)) (a_im d_int (a_im (d_gl hmc) a_nil)))))) fun _ => w_or1 (t_not (t_of (d_isTup ok tup_is (d_snd (dv 0))))))) (fun hu => ?_) (fun _ => ?_)
  · simp [b1, b2] at hu
  · refine hb_ret (d_call h10 hr ok.gd (((i2.length : Nat) : Int), 1, 40) trivial ht (a_im (d_lenT ok (d_snd (dv 0))) (a_im d_int (a_im (d_gl hms) a_nil)))) ⟨?_, rfl⟩
    have c1 : (1 : Int) ≤ ((i2.length : Nat) : Int) := by omega
    have c2 : ((i2.length : Nat) : Int) ≤ 40 := by omega
    simp only [c1, c2, decide_true, Bool.and_true]
abbrev rPO {K : PySem.W.Frag} : RT K (Int × List Int) := rPair rInt rSpn
def dPO (x : Int × List Int) : PyData := .tuple [.int x.1, dSpn x.2]
theorem rd_PO {K : PySem.W.Frag} : RD (rPO (K := K)) dPO 2 := RD.pair RD.int (RD.tup RD.int)
theorem al_PO (x y : Int × List Int) : alike (dPO x) (dPO y) = true := al_pair (d := PyData.int) (f := dSpn) al_int (al_tup al_int) x y
theorem hu64 {X : Cx} (ok : CxOk X) : X.A.units + 64 < cLine := by
  have := ok.hu
  omega
theorem enumL_iff {α : Type} {xs : List α} {i : Nat} {p : Int × α} (h : (enumL xs)[i]? = some p) : xs[i]? = some p.2 ∧ p.1 = ((i : Nat) : Int) := by
  have hl : i < xs.length := by
    have := (List.getElem?_eq_some_iff.mp h).1
    rwa [enumL_len] at this
  have := enumL_get (List.getElem?_eq_getElem hl)
  rw [this] at h
  have e := Option.some.inj h
  subst e
  exact ⟨List.getElem?_eq_getElem hl, rfl⟩
theorem pw_get {α : Type} {R : α → α → Prop} {xs : List α} (h : xs.Pairwise R) {i m : Nat} (him : i < m) {x y : α} (hx : xs[i]? = some x) (hy : xs[m]? = some y) : R x y := by
  obtain ⟨h1, rfl⟩ := List.getElem?_eq_some_iff.mp hx
  obtain ⟨h2, rfl⟩ := List.getElem?_eq_some_iff.mp hy
  exact List.pairwise_iff_getElem.mp h i m h1 h2 him
abbrev S29 {K : PySem.W.Frag} (T : Tbs) : Sp := SpD (K := K) T (fun i : Int × List (List Int) => [.im rInt i.1, .im rSps i.2]) (fun i _ => Book i.1 i.2) (rOpt rInt) (fun i j => (none, j))
theorem ok29 (hblt : ∀ n ∈ bltNames, mg n = none) (h26 : Has Pg w K mg base lev "is_rising" ["n", "thing"] (S26 (K := K) T)) (h27 : Has Pg w K mg base lev "order_of" ["span"] (S27 (K := K) T)) (F : FnP K "wrong_span" (top 29) fa fd) : FnG Pg w K mg base (lev + 1) fa fd ["n", "spans"] (S29 (K := K) T) := by
  refine def_ok F (N := ["n", "spans", "index", "span"]) ⟨rfl, rfl, rfl, by decide +kernel, rfl, by decide +kernel, by decide +kernel⟩ (fun _ => rfl) (by decide) hblt fun cdv Ar outer s0 H E hcd ok hr i k w0 j ht h => ?_
  refine hb_forJ (τ := Slot K × Slot K) ok (fun n s => [.im rInt i.1, .im rSps i.2, s.1, s.2]) (fun _ => j) (f_enumT ok (dv 1)) (tg_pair 2 3 rfl ok.nd rfl rfl (.inl rfl) (.inl rfl)) ⟨(.un, .un), rfl⟩ rfl (fun n x s hx => ?_) fun s => ?_
  · obtain ⟨hx1, hx2⟩ := enumL_iff hx
    have lt : ∀ m, n = m + 1 → ∃ y, i.2[m]? = some y ∧ OrdLt y x.2 := by
      rintro m rfl
      have hl := (List.getElem?_eq_some_iff.mp hx1).1
      exact ⟨i.2[m], List.getElem?_eq_getElem (by omega), (pw_get h.ord (Nat.lt_succ_self m) (List.getElem?_eq_getElem (by omega)) hx1).1⟩
    refine hb_ifO (u := false) (w_t (w_or (u := false) (v := false) (t_not (u := true) (t_of (d_call h26 hr ok.gd (i.1, x.2) (h.ris _ (mem_of_get hx1)) ht (a_im (dv 0) (a_im (dv 3) a_nil))))) fun _ => w_or1 (w_t ?_))) (fun hu => nomatch hu) (fun _ => hb_nil ⟨⟨(.im rInt x.1, .im rSpn x.2), rfl⟩, rfl⟩)
    have e0 : decide (0 < x.1) = (decide (0 < x.1) && !false) := by simp
    suffices hh : ∀ v, v = false → EvW (DX Pg w K mg base ["n", "spans", "index", "span"] "wrong_span" (defScope (top 29)) fa cdv Ar outer s0 H E) k w0 [.im rInt i.1, .im rSps i.2, .im rInt x.1, .im rSpn x.2] j _ v j from hh _ rfl
    intro v hv
    have e1 : v = (decide (0 < x.1) && false) := by rw [hv, Bool.and_false]
    rw [e1]
    refine w_and (t_c (d_gt (dv 2) d_int)) fun hgt => w_and1 (t_c ?_)
    have hgt := of_decide_eq_true hgt
    obtain ⟨m, rfl⟩ : ∃ m, n = m + 1 := ⟨n - 1, by omega⟩
    obtain ⟨y, hy, hlt⟩ := lt m rfl
    have ey : (x.1 - 1).toNat = m := by omega
    refine EvD.is2 (d_leD ok rd_PO (by decide) al_PO (fun _ => fun z => nomatch z) (d_call h27 hr ok.gd x.2 trivial ht (a_im (dv 3) a_nil)) (d_call h27 hr ok.gd y trivial ht (a_im (d_ixT (dv 1) (d_sub (dv 2) d_int) (by omega) (by rw [ey]; exact hy)) a_nil))) ?_ rfl
    show (!dataLt (dOrd y) (dOrd x.2)) = false
    rw [hlt]
    rfl
  · exact hb_ret d_nonO ⟨rfl, rfl⟩
end
end Fm
set_option maxHeartbeats 1000000
namespace Fm
open PySem PySem.Spec PyProof.Rows L2
open PySem.W (alike alikeAll dataLt Sortable)
open Rq (Sz)
section
variable {Pg : Program} {w : World} {K : PySem.W.Frag} {mg : Str → Option Value} {base : Heap} {fa : Addr} {fd : FuncData} {T : Tbs} {lev : Nat}
abbrev S30 {K : PySem.W.Frag} (T : Tbs) : Sp := SpD (K := K) T (fun i : Int × List (List Int) => [.im rBk i]) (fun i _ => Book i.1 i.2) rBk (fun i j => (i, j))
theorem ok30 (hblt : ∀ n ∈ bltNames, mg n = none) (h28 : Has Pg w K mg base lev "has_form" ["thing"] (S28 (K := K) T)) (h29 : Has Pg w K mg base lev "wrong_span" ["n", "spans"] (S29 (K := K) T)) (F : FnP K "made_book" (top 30) fa fd) : FnG Pg w K mg base (lev + 1) fa fd ["thing"] (S30 (K := K) T) := by
  refine def_ok F (N := ["thing", "index"]) ⟨rfl, rfl, rfl, by decide +kernel, rfl, by decide +kernel, by decide +kernel⟩ (fun _ => rfl) (by decide) hblt fun cdv Ar outer s H E hcd ok hr i k w0 j ht h => ?_
  obtain ⟨i1, i2⟩ := i
  refine hb_ifO (t_not (u := true) (t_of (d_call h28 hr ok.gd (i1, i2) h ht (a_im (dv 0) a_nil)))) (fun hu => nomatch hu) fun _ => ?_
  refine st_ ok 1 (x_d (d_call h29 hr ok.gd (i1, i2) h ht (a_im (d_fst (dv 0)) (a_im (d_snd (dv 0)) a_nil)))) ?_
  exact hb_ifO (t_c (d_notN (dv 1))) (fun hu => by cases hu) fun _ => hb_ret (dv 0) ⟨rfl, rfl⟩
abbrev S31 {K : PySem.W.Frag} (T : Tbs) : Sp := SpD (K := K) T (fun i : (Int × List (List Int)) × Int => [.im rBk i.1, .im rInt i.2]) (fun i _ => 0 ≤ i.2 ∧ i.2 < (i.1.2.length : Nat)) rInt (fun i j => (i.2, j))
theorem ok31 (hblt : ∀ n ∈ bltNames, mg n = none) (h11 : Has Pg w K mg base lev "is_below" ["thing", "bound"] (S11 (K := K) T)) (F : FnP K "made_number" (top 31) fa fd) : FnG Pg w K mg base (lev + 1) fa fd ["book", "number"] (S31 (K := K) T) := by
  refine def_ok F (N := ["book", "number"]) ⟨rfl, rfl, rfl, by decide +kernel, rfl, by decide +kernel, by decide +kernel⟩ (fun _ => rfl) (by decide) hblt fun cdv Ar outer s H E hcd ok hr i k w0 j ht ⟨h1, h2⟩ => ?_
  obtain ⟨⟨i1, i2⟩, i3⟩ := i
  refine hb_ifO (t_not (t_of (d_call h11 hr ok.gd (i3, ((i2.length : Nat) : Int)) trivial ht (a_im (dv 1) (a_im (d_lenT ok (d_snd (dv 0))) a_nil))))) (fun hu => ?_) fun _ => hb_ret (dv 1) ⟨rfl, rfl⟩
  have c1 : 0 ≤ i3 := h1
  have c2 : i3 ≤ ((i2.length : Nat) : Int) - 1 := by
    have : i3 < ((i2.length : Nat) : Int) := h2
    omega
  simp [c1, c2] at hu
abbrev S_ss {K : PySem.W.Frag} (T : Tbs) (f : List Int → List Int → Bool) : Sp := SpD (K := K) T (fun i : List Int × List Int => [.im rSpn i.1, .im rSpn i.2]) (fun _ _ => True) rBl (fun i j => (f i.1 i.2, j))
theorem ok32 (hblt : ∀ n ∈ bltNames, mg n = none) (hT : TabH fd T base mg) (F : FnP K "share_columns" (top 32) fa fd) : FnG Pg w K mg base (lev + 4) fa fd ["one", "two"] (S_ss (K := K) T shareB) := by
  refine def_ok F (N := ["one", "two", "column"]) ⟨rfl, rfl, rfl, by decide +kernel, rfl, by decide +kernel, by decide +kernel⟩ (fun _ => rfl) (by decide) hblt fun cdv Ar outer s H E hcd ok hr i k w0 j ht _ => ?_
  obtain ⟨P, tb⟩ := hT.at hcd ht
  exact hb_ret (d_anyG (own := [("column", 2)]) (p := fun c => decide (c ∈ i.2)) ok hr tb (blk_at ["one", "two", "column"] (defScope (top 32)) ⟨rfl, by decide +kernel, by decide +kernel, by decide +kernel, by decide +kernel⟩) ⟨rfl, by decide +kernel, rfl⟩ (f_tup (dv 0)) (tq_name 2 ok.nd rfl rfl) fun m x hx hp s H C code fp => d_inT (dv 2) (dv 1)) ⟨rfl, rfl⟩
theorem ok34 (hblt : ∀ n ∈ bltNames, mg n = none) (hT : TabH fd T base mg) (F : FnP K "lies_in" (top 34) fa fd) : FnG Pg w K mg base (lev + 4) fa fd ["one", "two"] (S_ss (K := K) T liesB) := by
  refine def_ok F (N := ["one", "two", "column"]) ⟨rfl, rfl, rfl, by decide +kernel, rfl, by decide +kernel, by decide +kernel⟩ (fun _ => rfl) (by decide) hblt fun cdv Ar outer s H E hcd ok hr i k w0 j ht _ => ?_
  obtain ⟨P, tb⟩ := hT.at hcd ht
  exact hb_ret (d_allG (own := [("column", 2)]) (p := fun c => decide (c ∈ i.2)) ok hr tb (blk_at ["one", "two", "column"] (defScope (top 34)) ⟨rfl, by decide +kernel, by decide +kernel, by decide +kernel, by decide +kernel⟩) ⟨rfl, by decide +kernel, rfl⟩ (f_tup (dv 0)) (tq_name 2 ok.nd rfl rfl) fun m x hx hp s H C code fp => d_inT (dv 2) (dv 1)) ⟨rfl, rfl⟩
theorem ok35 (hblt : ∀ n ∈ bltNames, mg n = none) (h32 : Has Pg w K mg base lev "share_columns" ["one", "two"] (S_ss (K := K) T shareB)) (h34 : Has Pg w K mg base lev "lies_in" ["one", "two"] (S_ss (K := K) T liesB)) (F : FnP K "do_cross" (top 35) fa fd) : FnG Pg w K mg base (lev + 1) fa fd ["one", "two"] (S_ss (K := K) T fun a b => shareB a b && (!liesB a b && !liesB b a)) := by
  refine def_ok F (N := ["one", "two"]) ⟨rfl, rfl, rfl, by decide +kernel, rfl, by decide +kernel, by decide +kernel⟩ (fun _ => rfl) (by decide) hblt fun cdv Ar outer s H E hcd ok hr i k w0 j ht _ => ?_
  exact hb_ret (d_and (d_call h32 hr ok.gd (i.1, i.2) trivial ht (a_im (dv 0) (a_im (dv 1) a_nil))) fun _ => d_and (d_not (d_call h34 hr ok.gd (i.1, i.2) trivial ht (a_im (dv 0) (a_im (dv 1) a_nil)))) fun _ => d_one (d_not (d_call h34 hr ok.gd (i.2, i.1) trivial ht (a_im (dv 1) (a_im (dv 0) a_nil))))) ⟨rfl, rfl⟩
abbrev S36 {K : PySem.W.Frag} (T : Tbs) : Sp := SpD (K := K) T (fun i : List (List Int) => [.im rSps i]) (fun i _ => i.length ≤ 40 ∧ ∀ a ∈ i, ∀ b ∈ i, (∃ c ∈ a, c ∈ b) → (∀ c ∈ a, c ∈ b) ∨ (∀ c ∈ b, c ∈ a)) (rOpt (rPair rInt rInt)) (fun i j => (none, j))
theorem ok36 (hblt : ∀ n ∈ bltNames, mg n = none) (h35 : Has Pg w K mg base lev "do_cross" ["one", "two"] (S_ss (K := K) T fun a b => shareB a b && (!liesB a b && !liesB b a))) (F : FnP K "crossing_in" (top 36) fa fd) : FnG Pg w K mg base (lev + 1) fa fd ["spans"] (S36 (K := K) T) := by
  refine def_ok F (N := ["spans", "i", "one", "j"]) ⟨rfl, rfl, rfl, by decide +kernel, rfl, by decide +kernel, by decide +kernel⟩ (fun _ => rfl) (by decide) hblt fun cdv Ar outer s0 H E hcd ok hr i k w0 j ht ⟨hl, h⟩ => ?_
  refine hb_forJ (τ := Slot K × Slot K × Slot K) ok (fun n s => [.im rSps i, s.1, s.2.1, s.2.2]) (fun _ => j) (f_enumT ok (dv 0)) (tg_pair 1 2 rfl ok.nd rfl rfl (.inl rfl) (.inl rfl)) ⟨(.un, .un, .un), rfl⟩ rfl (fun n x s hx => ?_) fun s => hb_ret d_nonO ⟨rfl, rfl⟩
  obtain ⟨hx1, hx2⟩ := enumL_iff hx
  have hn := (List.getElem?_eq_some_iff.mp hx1).1
  refine hb_forJ (τ := Slot K) ok (fun n s => [.im rSps i, .im rInt x.1, .im rSpn x.2, s]) (fun _ => j) (rg2 ok (d_add (dv 1) d_int) (d_lenT ok (dv 0)) (by omega)) (tg_name 3 ok.nd rfl (.inl rfl)) ⟨s.2.2, rfl⟩ rfl (fun m y t hy => ?_) fun t => hb_nil ⟨⟨(.im rInt x.1, .im rSpn x.2, t), rfl⟩, rfl⟩
  have hy2 := mem_rangeI.mp (mem_of_get hy)
  have hyn : y.toNat < i.length := by omega
  refine hb_ifO (u := false) (t_of ?_) (fun hu => nomatch hu) fun _ => hb_nil ⟨⟨.im rInt y, rfl⟩, rfl⟩
  refine EvD.is2 (d_call h35 hr ok.gd (x.2, i[y.toNat]) trivial ht (a_im (dv 2) (a_im (d_ixT (dv 0) (dv 3) (by omega) (List.getElem?_eq_getElem hyn)) a_nil))) ?_ rfl
  show (shareB x.2 i[y.toNat] && (!liesB x.2 i[y.toNat] && !liesB i[y.toNat] x.2)) = false
  cases hs : shareB x.2 i[y.toNat] with
  | false => rfl
  | true =>
    rcases h x.2 (mem_of_get hx1) i[y.toNat] (List.getElem_mem hyn) (shareB_iff.mp hs) with h | h
    · rw [liesB_iff.mpr h]
      rfl
    · rw [liesB_iff.mpr h]
      simp
/-- the numbers of the spans within another one -/
def withinI (sp : List (List Int)) (n : Int) : List Int := ((enumL sp).filter fun p => !decide (p.1 = n) && liesB p.2 (sp.getD n.toNat [])).map (·.1)
abbrev S37 {K : PySem.W.Frag} (T : Tbs) : Sp := SpD (K := K) T (fun i : List (List Int) × Int => [.im rSps i.1, .im rInt i.2]) (fun i _ => i.1.length ≤ 40 ∧ 0 ≤ i.2 ∧ i.2 < ((i.1.length : Nat) : Int)) (rTup rInt) (fun i j => (withinI i.1 i.2, j))
theorem getD_of {α : Type} {xs : List α} {n : Nat} {d : α} (h : n < xs.length) : xs[n]? = some (xs.getD n d) := by
  rw [List.getD_eq_getElem?_getD, List.getElem?_eq_getElem h]
  rfl
theorem ok37 (hblt : ∀ n ∈ bltNames, mg n = none) (h34 : Has Pg w K mg base lev "lies_in" ["one", "two"] (S_ss (K := K) T liesB)) (F : FnP K "within_in" (top 37) fa fd) : FnG Pg w K mg base (lev + 1) fa fd ["spans", "number"] (S37 (K := K) T) := by
  refine def_ok F (N := ["spans", "number", "other", "span"]) ⟨rfl, rfl, rfl, by decide +kernel, rfl, by decide +kernel, by decide +kernel⟩ (fun _ => rfl) (by decide) hblt fun cdv Ar outer s0 H E hcd ok hr i k w0 j ht ⟨hl, h1, h2⟩ => ?_
  obtain ⟨sp, n⟩ := i
  have hn : n.toNat < sp.length := by
    have : n < ((sp.length : Nat) : Int) := h2
    have : 0 ≤ n := h1
    omega
  refine hb_ret (d_tupB ok (LcD.m (lc_filt (A := rPair rInt rSpn) (own := [("other", 2), ("span", 3)]) (fun p : Int × List Int => !decide (p.1 = n) && liesB p.2 (sp.getD n.toNat [])) (·.1) (blk_at ["spans", "number", "other", "span"] (defScope (top 37)) ⟨rfl, by decide +kernel, by decide +kernel, by decide +kernel, by decide +kernel⟩) (f_enumT ok (dv 0)) (tc_pair 2 3 rfl ok.nd rfl rfl rfl rfl) ?_ (fun x hx s H C cl fp => ?_) fun x hx hp s H C cl fp => dv 2) rfl ok.nd).toB) ⟨rfl, rfl⟩
  · rw [enumL_len]
    have : sp.length ≤ 40 := hl
    omega
  · exact w_t (w_and (t_c (d_neI (dv 2) (dv 1))) fun _ => w_and1 (t_of (d_call h34 (by exact hr) (by exact ok.gd) (x.2, sp.getD n.toNat []) trivial ht (a_im (dv 3) (a_im (d_ixT (dv 0) (dv 1) h1 (getD_of hn)) a_nil)))))
/-- those of some spans that lie in no other of them -/
def outerI (sp : List (List Int)) (ns : List Int) : List Int := ns.filter fun n => !ns.any fun o => !decide (o = n) && liesB (sp.getD n.toNat []) (sp.getD o.toNat [])
abbrev S38 {K : PySem.W.Frag} (T : Tbs) : Sp := SpD (K := K) T (fun i : List (List Int) × List Int => [.im rSps i.1, .im (rTup rInt) i.2]) (fun i _ => i.1.length ≤ 40 ∧ i.2.length ≤ 40 ∧ ∀ n ∈ i.2, 0 ≤ n ∧ n < ((i.1.length : Nat) : Int)) (rTup rInt) (fun i j => (outerI i.1 i.2, j))
theorem ok38 (hblt : ∀ n ∈ bltNames, mg n = none) (hT : TabH fd T base mg) (h34 : Has Pg w K mg base lev "lies_in" ["one", "two"] (S_ss (K := K) T liesB)) (F : FnP K "outermost_in" (top 38) fa fd) : FnG Pg w K mg base (lev + 4) fa fd ["spans", "numbers"] (S38 (K := K) T) := by
  refine def_ok F (N := ["spans", "numbers", "found", "number", "other"]) ⟨rfl, rfl, rfl, by decide +kernel, rfl, by decide +kernel, by decide +kernel⟩ (fun _ => rfl) (by decide) hblt fun cdv Ar outer s0 H E hcd ok hr i k w0 j ht ⟨hl, hl2, h⟩ => ?_
  obtain ⟨P, tb⟩ := hT.at hcd ht
  obtain ⟨sp, ns⟩ := i
  let q : Int → Bool := fun n => !ns.any fun o => !decide (o = n) && liesB (sp.getD n.toNat []) (sp.getD o.toNat [])
  have hsp : ∀ n ∈ ns, 0 ≤ n ∧ sp[n.toNat]? = some (sp.getD n.toNat []) := fun n hn => by
    obtain ⟨h1, h2⟩ := h n hn
    have h2 : n < ((sp.length : Nat) : Int) := h2
    exact ⟨h1, getD_of (by omega)⟩
  have hlen : ns.length ≤ 40 := hl2
  refine st_ ok (s := .mu rInt []) 2 (x_m (m_lst r_nil (Nat.zero_le _))) ?_
  refine hb_forJ (τ := Slot K × Slot K) ok (fun n s => [.im rSps sp, .im (rTup rInt) ns, .mu rInt ((ns.take n).filter q), s.1, s.2]) (fun _ => j) (f_tup (dv 1)) (tg_name 3 ok.nd rfl (.inr rfl)) ⟨(.un, .un), rfl⟩ rfl (fun n x s hx => ?_) fun s => ?_
  · have hx1 := hsp x (mem_of_get hx)
    refine hb_if2 (u := q x) (Γ1 := [.im rSps sp, .im (rTup rInt) ns, .mu rInt ((ns.take (n + 1)).filter q), .im rInt x, s.2]) (j2 := j) (t_not (t_of (d_anyG (own := [("other", 4)]) (p := fun o => !decide (o = x) && liesB (sp.getD x.toNat []) (sp.getD o.toNat [])) ok hr tb (blk_at ["spans", "numbers", "found", "number", "other"] (defScope (top 38)) ⟨rfl, by decide +kernel, by decide +kernel, by decide +kernel, by decide +kernel⟩) ⟨rfl, by decide +kernel, rfl⟩ (f_tup (dv 1)) (tq_name 4 ok.nd rfl rfl) fun m y hy hp s H C code fp => ?_))) (fun hu => ?_) (fun hu => ?_) ?_
    · have hy1 := hsp y (mem_of_get hy)
      exact d_and (d_neI (dv 4) (dv 3)) fun _ => d_one (d_call h34 (by exact room_gx hr) (by exact ok.gd) (sp.getD x.toNat [], sp.getD y.toNat []) trivial ht (a_im (d_ixT (dv 0) (dv 3) hx1.1 hx1.2) (a_im (d_ixT (dv 0) (dv 4) hy1.1 hy1.2) a_nil)))
    · refine hb_append 2 rfl rfl (.inl rfl) (dv 3) ?_ (hb_nil ⟨?_, rfl⟩)
      · have := List.length_filter_le q (ns.take n)
        rw [List.length_take] at this
        omega
      · rw [take_succ_of hx, List.filter_append, List.filter_cons_of_pos hu]
        rfl
    · refine hb_nil ⟨?_, rfl⟩
      rw [take_succ_of hx, List.filter_append, List.filter_cons_of_neg (by rw [hu]; exact Bool.false_ne_true)]
      rw [List.filter_nil, List.append_nil]
      rfl
    · exact hb_nil ⟨⟨(.im rInt x, s.2), rfl⟩, rfl⟩
  · refine hb_ret (d_tupB ok (bm 2)) ⟨?_, rfl⟩
    rw [List.take_length]
    rfl
abbrev S39 {K : PySem.W.Frag} (T : Tbs) : Sp := SpD (K := K) T (fun i : List (List Int) × Int => [.im rSps i.1, .im rInt i.2]) (fun i _ => i.1.length ≤ 40 ∧ 0 ≤ i.2 ∧ i.2 < ((i.1.length : Nat) : Int)) (rTup rInt) (fun i j => (outerI i.1 (withinI i.1 i.2), j))
theorem withinI_mem {sp : List (List Int)} {n o : Int} (h : o ∈ withinI sp n) : 0 ≤ o ∧ o < ((sp.length : Nat) : Int) := by
  unfold withinI at h
  obtain ⟨p, hp, rfl⟩ := List.mem_map.mp h
  obtain ⟨i, hi⟩ := List.getElem?_of_mem (List.mem_filter.mp hp).1
  obtain ⟨h1, h2⟩ := enumL_iff hi
  have := (List.getElem?_eq_some_iff.mp h1).1
  show 0 ≤ p.1 ∧ p.1 < _
  omega
theorem withinI_len {sp : List (List Int)} {n : Int} : (withinI sp n).length ≤ sp.length := by
  unfold withinI
  rw [List.length_map]
  refine Nat.le_trans (List.length_filter_le _ _) ?_
  rw [enumL_len]
  exact Nat.le_refl _
theorem ok39 (hblt : ∀ n ∈ bltNames, mg n = none) (h37 : Has Pg w K mg base lev "within_in" ["spans", "number"] (S37 (K := K) T)) (h38 : Has Pg w K mg base lev "outermost_in" ["spans", "numbers"] (S38 (K := K) T)) (F : FnP K "children_in" (top 39) fa fd) : FnG Pg w K mg base (lev + 1) fa fd ["spans", "number"] (S39 (K := K) T) := by
  refine def_ok F (N := ["spans", "number"]) ⟨rfl, rfl, rfl, by decide +kernel, rfl, by decide +kernel, by decide +kernel⟩ (fun _ => rfl) (by decide) hblt fun cdv Ar outer s0 H E hcd ok hr i k w0 j ht h => ?_
  exact hb_ret (d_call h38 hr ok.gd (i.1, withinI i.1 i.2) ⟨h.1, Nat.le_trans withinI_len h.1, fun n hn => withinI_mem hn⟩ ht (a_im (dv 0) (a_im (d_call h37 hr ok.gd (i.1, i.2) h ht (a_im (dv 0) (a_im (dv 1) a_nil))) a_nil))) ⟨rfl, rfl⟩
abbrev S40 {K : PySem.W.Frag} (T : Tbs) : Sp := SpD (K := K) T (fun i : List (List Int) => [.im rSps i]) (fun i _ => i.length ≤ 40) (rTup rInt) (fun i j => (outerI i (rangeI 0 ((i.length : Nat) : Int)), j))
theorem ok40 (hblt : ∀ n ∈ bltNames, mg n = none) (h38 : Has Pg w K mg base lev "outermost_in" ["spans", "numbers"] (S38 (K := K) T)) (F : FnP K "tops_in" (top 40) fa fd) : FnG Pg w K mg base (lev + 1) fa fd ["spans"] (S40 (K := K) T) := by
  refine def_ok F (N := ["spans"]) ⟨rfl, rfl, rfl, by decide +kernel, rfl, by decide +kernel, by decide +kernel⟩ (fun _ => rfl) (by decide) hblt fun cdv Ar outer s0 H E hcd ok hr i k w0 j ht h => ?_
  exact hb_ret (d_call h38 hr ok.gd (i, rangeI 0 ((i.length : Nat) : Int)) ⟨h, by rw [rangeI_len]; exact Nat.le_trans (by omega) h, fun n hn => mem_rangeI.mp hn⟩ ht (a_im (dv 0) (a_im (d_tupRg ok (by omega) (d_lenT ok (dv 0))) a_nil))) ⟨rfl, rfl⟩
abbrev S41 {K : PySem.W.Frag} (T : Tbs) : Sp := SpD (K := K) T (fun i : Int × List (List Int) => [.im rBk i]) (fun i _ => Nest i.1 i.2) (rOpt (rPair rInt rInt)) (fun i j => (none, j))
theorem ok41 (hblt : ∀ n ∈ bltNames, mg n = none) (h30 : Has Pg w K mg base lev "made_book" ["thing"] (S30 (K := K) T)) (h36 : Has Pg w K mg base lev "crossing_in" ["spans"] (S36 (K := K) T)) (F : FnP K "crossing" (top 41) fa fd) : FnG Pg w K mg base (lev + 1) fa fd ["book"] (S41 (K := K) T) := by
  refine def_ok F (N := ["book"]) ⟨rfl, rfl, rfl, by decide +kernel, rfl, by decide +kernel, by decide +kernel⟩ (fun _ => rfl) (by decide) hblt fun cdv Ar outer s0 H E hcd ok hr i k w0 j ht h => ?_
  obtain ⟨i1, i2⟩ := i
  exact hb_ret (d_call h36 hr ok.gd i2 ⟨h.l2, h.lam⟩ ht (a_im (d_snd (d_call h30 hr ok.gd (i1, i2) h.toBook ht (a_im (dv 0) a_nil))) a_nil)) ⟨rfl, rfl⟩
abbrev S42 {K : PySem.W.Frag} (T : Tbs) : Sp := SpD (K := K) T (fun i : Int × List (List Int) => [.im rBk i]) (fun i _ => Nest i.1 i.2) rBk (fun i j => (i, j))
theorem ok42 (hblt : ∀ n ∈ bltNames, mg n = none) (h41 : Has Pg w K mg base lev "crossing" ["book"] (S41 (K := K) T)) (F : FnP K "made_nest" (top 42) fa fd) : FnG Pg w K mg base (lev + 1) fa fd ["thing"] (S42 (K := K) T) := by
  refine def_ok F (N := ["thing", "pair"]) ⟨rfl, rfl, rfl, by decide +kernel, rfl, by decide +kernel, by decide +kernel⟩ (fun _ => rfl) (by decide) hblt fun cdv Ar outer s0 H E hcd ok hr i k w0 j ht h => ?_
  refine st_ ok 1 (x_d (d_call h41 hr ok.gd i h ht (a_im (dv 0) a_nil))) ?_
  exact hb_ifO (t_c (d_notN (dv 1))) (fun hu => by cases hu) fun _ => hb_ret (dv 0) ⟨rfl, rfl⟩
end
end Fm
set_option maxHeartbeats 1000000
namespace Fm
open PySem PySem.Spec PyProof.Rows L2
open PySem.W (alike alikeAll dataLt Sortable)
open Rq (Sz Ok)
/-! ### the plain side -/
/-- a price put in behind those that are not less -/
def putQ (acc : List Rat) (x : Rat) : List Rat := acc.take (acc.filter fun o => !decide (o < x)).length ++ [x] ++ acc.drop (acc.filter fun o => !decide (o < x)).length
def fallQ (xs : List Rat) : List Rat := xs.foldl putQ []
theorem putQ_len (acc : List Rat) (x : Rat) : (putQ acc x).length = acc.length + 1 := by
  unfold putQ
  simp only [List.length_append, List.length_take, List.length_drop, List.length_singleton]
  omega
theorem putQ_mem {acc : List Rat} {x y : Rat} (h : y ∈ putQ acc x) : y ∈ acc ∨ y = x := by
  unfold putQ at h
  rcases List.mem_append.mp h with h | h
  · rcases List.mem_append.mp h with h | h
    · exact .inl (List.mem_of_mem_take h)
    · exact .inr (List.mem_singleton.mp h)
  · exact .inl (List.mem_of_mem_drop h)
def fallK (xs : List Rat) (n : Nat) : List Rat := fallQ (xs.take n)
theorem fallK_succ {xs : List Rat} {n : Nat} {x : Rat} (h : xs[n]? = some x) : fallK xs (n + 1) = putQ (fallK xs n) x := by
  unfold fallK fallQ
  rw [take_succ_of h, List.foldl_append]
  rfl
theorem fallK_len {xs : List Rat} : fallK xs xs.length = fallQ xs := by
  unfold fallK
  rw [List.take_length]
theorem fall_len (xs : List Rat) : (fallQ xs).length = xs.length := by
  suffices h : ∀ (ys acc : List Rat), (ys.foldl putQ acc).length = acc.length + ys.length by
    have := h xs []
    simpa [fallQ] using this
  intro ys
  induction ys with
  | nil => intro acc; rfl
  | cons y ys ih =>
    intro acc
    rw [List.foldl_cons, ih, putQ_len, List.length_cons]
    omega
theorem fall_mem (xs : List Rat) {y : Rat} (h : y ∈ fallQ xs) : y ∈ xs := by
  suffices hh : ∀ (ys acc : List Rat), y ∈ ys.foldl putQ acc → y ∈ acc ∨ y ∈ ys by
    rcases hh xs [] h with h | h
    · cases h
    · exact h
  intro ys
  induction ys with
  | nil => exact fun acc h => .inl h
  | cons z ys ih =>
    intro acc h
    rcases ih _ h with h | h
    · rcases putQ_mem h with h | h
      · exact .inl h
      · exact .inr (h ▸ List.mem_cons_self)
    · exact .inr (List.mem_cons_of_mem _ h)
/-- the mean of the n + 1 greatest and 1 less one over how many -/
def meanQ (xs : List Rat) (n : Nat) : Rat := (sumQ ((fallQ xs).take (n + 1)) + ((n : Nat) : Rat)) / ((n + 1 : Nat) : Rat)
def levelQ (xs : List Rat) : Rat := maxQ ((List.range xs.length).map (meanQ xs))
abbrev LotOk (xs : List Rat) : Prop := xs ≠ [] ∧ xs.length ≤ 16 ∧ ∃ e, e ≤ 60 ∧ ∀ x ∈ xs, Ok e e x
theorem nat_ok (e n : Nat) {c : Nat} (h : n ≤ c) : Ok e c (n : Rat) := ⟨by rw [Rat.den_natCast]; exact Nat.one_dvd _, by rw [Rat.num_natCast, Rat.den_natCast, Int.natAbs_natCast]; omega⟩
theorem mean_sum {xs : List Rat} (h : LotOk xs) (n : Nat) : ∃ e, e ≤ 60 ∧ Ok e (e * 16) (sumQ ((fallQ xs).take (n + 1))) := by
  obtain ⟨h1, h2, e, he, hx⟩ := h
  refine ⟨e, he, (sum_step (e := e) (c := e) fun x hx' => hx x (fall_mem _ (List.mem_of_mem_take hx'))).up (Nat.le_refl _) (Nat.mul_le_mul_left _ ?_)⟩
  rw [List.length_take, fall_len]
  omega
theorem mean_num {xs : List Rat} (h : LotOk xs) {n : Nat} (hn : n < 16) : Sz 4000 (sumQ ((fallQ xs).take (n + 1)) + ((n : Nat) : Rat)) := by
  obtain ⟨e, he, h1⟩ := mean_sum h n
  exact ok_sz (h1.add (nat_ok e n (Nat.le_of_lt hn))) (by omega) (by omega)
theorem mean_sz {xs : List Rat} (h : LotOk xs) {n : Nat} (hn : n < 16) : Sz 4000 (meanQ xs n) := by
  obtain ⟨e, he, h1⟩ := mean_sum h n
  exact ok_sz ((h1.add (nat_ok e n (Nat.le_of_lt hn))).div (by omega) (by omega)) (by omega) (by omega)
section
variable {Pg : Program} {w : World} {K : PySem.W.Frag} {mg : Str → Option Value} {base : Heap} {fa : Addr} {fd : FuncData} {T : Tbs} {lev : Nat}
abbrev S44 {K : PySem.W.Frag} (T : Tbs) : Sp := SpM (K := K) T (fun i : List Rat => [.bo rQ i]) (fun i _ => i.length ≤ 1000 ∧ ∀ x ∈ i, Sz 8000 x) rQ (fun i j => (fallQ i, j))
theorem ok44 (hblt : ∀ n ∈ bltNames, mg n = none) (h19 : Has Pg w K mg base lev "is_less" ["one", "two"] (S_bin (K := K) T rBl (Sz2 8000) (fun a b => decide (a < b)))) (F : FnP K "falling" (top 44) fa fd) : FnG Pg w K mg base (lev + 1) fa fd ["lot"] (S44 (K := K) T) := by
  refine def_okM F (N := ["lot", "found", "one", "other"]) ⟨rfl, rfl, rfl, by decide +kernel, rfl, by decide +kernel, by decide +kernel⟩ (fun _ => rfl) (by decide) hblt fun cdv Ar outer s0 H E hcd ok hr i k w0 j ht ⟨hl, h⟩ => ?_
  refine st_ ok (s := .mu rQ []) 1 (x_m (m_lst r_nil (Nat.zero_le _))) ?_
  refine hb_forJ (τ := Slot K × Slot K) ok (fun n s => [.bo rQ i, .mu rQ (fallK i n), s.1, s.2]) (fun _ => j) (f_lst (sb 0)) (tg_name 2 ok.nd rfl (.inr rfl)) ⟨(.un, .un), rfl⟩ rfl (fun n x s hx => ?_) fun s => hb_retM 1 rfl rfl (.inl rfl) ⟨fallK_len, rfl⟩
  have hn : (fallK i n).length ≤ 1000 := by
    unfold fallK
    rw [fall_len, List.length_take]
    omega
  have hm : ((fallK i n).filter fun o => !decide (o < x)).length ≤ 1000 := Nat.le_trans (List.length_filter_le _ _) hn
  refine hb_insert 1 rfl rfl (.inl rfl) (d_lenB ok (LcD.m (lc_filt (A := rQ) (own := [("other", 3)]) (fun o => !decide (o < x)) (fun o => o) (blk_at ["lot", "found", "one", "other"] (defScope (top 44)) ⟨rfl, by decide +kernel, by decide +kernel, by decide +kernel, by decide +kernel⟩) (i_lst (bm 1)) (tc_name 3 ok.nd rfl rfl) (Nat.le_trans hn (by decide)) (fun y hy s H C cl fp => t_not (t_of (d_call h19 (by exact hr) (by exact ok.gd) (y, x) ⟨h _ (List.mem_of_mem_take (fall_mem _ hy)), h _ (mem_of_get hx)⟩ ht (a_im (dv 3) (a_im (dv 2) a_nil))))) fun x hx hp s H C cl fp => dv 3) rfl ok.nd).toB) (dv 2) (Int.natCast_nonneg _) ?_ (Nat.le_trans (Nat.succ_le_succ hn) (by decide)) (hb_nil ⟨⟨(.im rQ x, s.2), ?_⟩, rfl⟩)
  · have h3 : (((fallK i n).filter fun o => !decide (o < x)).map fun o => o).length ≤ 1000 := by rwa [List.length_map]
    exact Int.le_trans (Int.ofNat_le.mpr h3) (by decide)
  · rw [fallK_succ hx, List.map_id']
    rfl
theorem d_natQ {X : Cx} {k : Kx} {w0 : Wd} {Γ : List (Slot X.K)} {j j1 j2 : Int × Int} {a b : Expr} {m : Nat} {pos : Pos} {n : Nat} {v : Int} (ha : EvD X k w0 Γ j a rInt v j1) (hb : EvD X k w0 Γ j1 b rInt 1 j2) (hv : v = (n : Int)) (h1 : starEach [a, b] X.env = (false, eval a X.env) :: starEach [b] X.env := by rfl) (h2 : starEach [b] X.env = (false, eval b X.env) :: starEach [] X.env := by rfl) :
    EvD X k w0 Γ j (.Tuple [a, b] m pos) rQ (n : Rat) j2 := (d_pair ha hb h1 h2).toQ (by rw [hv, Rat.num_natCast]) (by rw [Rat.den_natCast]; rfl)
theorem m_upto {X : Cx} {k : Kx} {w0 : Wd} {Γ : List (Slot X.K)} {j j1 j2 : Int × Int} {a b : Expr} {α : Type} {A : RT X.K α} {xs : List α} {n : Int} {pos p2 : Pos} (ha : EvB X k w0 Γ j a A xs j1) (hb : EvD X k w0 Γ j1 b rInt n j2) (hn : 0 ≤ n ∧ n ≤ ((xs.length : Nat) : Int)) : EvM X k w0 Γ j (.Subscript a (.Slice none (some b) none p2) pos) A (xs.take n.toNat) j2 := by
  have h := m_slL (p2 := p2) (pos := pos) (o1 := none) (o2 := some b) (l := none) (h := some n) ha rfl ⟨hb, hn.1⟩
  have e : cutL xs ((none : Option Int).map Int.toNat) ((some n).map Int.toNat) = xs.take n.toNat := by
    unfold cutL
    simp only [Option.map_none, Option.map_some, Option.getD_none, Option.getD_some, List.drop_zero, Nat.sub_zero]
    rw [Nat.min_eq_left (by omega)]
  rw [e] at h
  exact h
theorem range_get {n i : Nat} {α : Type} (f : Nat → α) (h : i < n) : ((List.range n).map f)[i]? = some (f i) := by simp [h]
theorem range_succ_map {α : Type} (f : Nat → α) (n : Nat) : (List.range (n + 1)).map f = (List.range n).map f ++ [f n] := by
  rw [List.range_succ, List.map_append]
  rfl
abbrev S45 {K : PySem.W.Frag} (T : Tbs) : Sp := SpD (K := K) T (fun i : List Rat => [.bo rQ i]) (fun i _ => LotOk i) rQ (fun i j => (levelQ i, j))
theorem ok45 (hblt : ∀ n ∈ bltNames, mg n = none) (h15 : Has Pg w K mg base lev "added" ["one", "two"] (S_bin (K := K) T rQ (Sz2 4000) (· + ·))) (h18 : Has Pg w K mg base lev "divided" ["one", "two"] (S_bin (K := K) T rQ SzD (· / ·))) (h21 : Has Pg w K mg base lev "sum_up" ["fractions"] (S_sum (K := K) T)) (h22 : Has Pg w K mg base lev "greatest_of" ["fractions"] (S_max (K := K) T)) (h44 : Has Pg w K mg base lev "falling" ["lot"] (S44 (K := K) T)) (F : FnP K "level_of" (top 45) fa fd) : FnG Pg w K mg base (lev + 1) fa fd ["prices"] (S45 (K := K) T) := by
  refine def_ok F (N := ["prices", "order", "means", "many"]) ⟨rfl, rfl, rfl, by decide +kernel, rfl, by decide +kernel, by decide +kernel⟩ (fun _ => rfl) (by decide) hblt fun cdv Ar outer s0 H E hcd ok hr i k w0 j ht h => ?_
  obtain ⟨h1, h2, e, he, hall⟩ := id h
  refine st_ ok (s := .mu rQ (fallQ i)) 1 (x_m (m_call h44 hr ok.gd i ⟨by omega, fun x hx' => (ok_sz (hall x hx') (by omega) (by omega)).up (by decide)⟩ ht (a_bo (bb 0) a_nil))) ?_
  refine st_ ok (s := .mu rQ []) 2 (x_m (m_lst r_nil (Nat.zero_le _))) ?_
  have hlen := fall_len i
  refine hb_forJ (τ := Slot K) ok (fun n s => [.bo rQ i, .mu rQ (fallQ i), .mu rQ ((List.range n).map (meanQ i)), s]) (fun _ => j) (rg2 ok d_int (d_add (d_lenB ok (bm 1)) d_int) (by rw [hlen]; omega)) (tg_name 3 ok.nd rfl (.inl rfl)) ⟨.un, rfl⟩ rfl (fun n x s hx => ?_) fun s => ?_
  · have hn : n < i.length := by
      have := (List.getElem?_eq_some_iff.mp hx).1
      rw [rangeI_len, hlen] at this
      omega
    rw [rangeI_get (by omega)] at hx
    have ex : 1 + ((n : Nat) : Int) = x := Option.some.inj hx
    have ht' : x.toNat = n + 1 := by omega
    obtain ⟨e2, he2, h4⟩ := mean_sum h n
    have hn16 : n < 16 := by omega
    refine hb_append 2 rfl rfl (.inl rfl) (x := meanQ i n) ?_ ?_ (hb_nil ⟨⟨.im rInt x, ?_⟩, rfl⟩)
    · exact d_call h18 hr ok.gd (sumQ ((fallQ i).take (n + 1)) + ((n : Nat) : Rat), ((n + 1 : Nat) : Rat)) ⟨mean_num h hn16, ok_sz (nat_ok 0 (n + 1) (c := 16) (by omega)) (by decide) (by decide), by rw [Rat.num_natCast]; omega⟩ ht
        (a_im (d_call h15 hr ok.gd (sumQ ((fallQ i).take (n + 1)), ((n : Nat) : Rat)) ⟨ok_sz h4 (by omega) (by omega), ok_sz (nat_ok 0 n (c := 16) (by omega)) (by decide) (by decide)⟩ ht
          (a_im (d_call h21 hr ok.gd ((fallQ i).take (n + 1)) (sumOk_of e e (by omega) (by rw [List.length_take, hlen]; have : e * min (n + 1) i.length ≤ 60 * 16 := Nat.mul_le_mul he (by omega); omega) fun y hy => hall y (fall_mem _ (List.mem_of_mem_take hy))) ht (a_bo (by rw [← ht']; exact (m_upto (bm 1) (dv 3) (by rw [hlen]; omega)).toB) a_nil))
            (a_im (d_natQ (d_sub (dv 3) d_int) d_int (by omega)) a_nil)))
          (a_im (d_natQ (dv 3) d_int (by omega)) a_nil))
    · rw [List.length_map, List.length_range]
      omega
    · rw [range_succ_map]
      rfl
  · have hR : (rangeI 1 (((fallQ i).length : Nat) + 1)).length = i.length := by
      rw [rangeI_len, hlen]
      omega
    rw [hR]
    refine hb_ret (d_call h22 hr ok.gd ((List.range i.length).map (meanQ i)) ⟨fun z => ?_, fun x hx => ?_⟩ ht (a_bo (bm 2) a_nil)) ⟨rfl, rfl⟩
    · have := congrArg List.length z
      rw [List.length_map, List.length_range] at this
      exact h1 (List.eq_nil_of_length_eq_zero this)
    · obtain ⟨n, hn, rfl⟩ := List.mem_map.mp hx
      exact mean_sz h (by have := List.mem_range.mp hn; omega)
end
end Fm
set_option maxHeartbeats 1000000
namespace Fm
open PySem PySem.Spec PyProof.Rows L2
open PySem.W (alike alikeAll dataLt Sortable)
open Rq (Sz Ok)
/-! ### the plain side -/
def kidsI (sp : List (List Int)) (n : Int) : List Int := outerI sp (withinI sp n)
def topsI (sp : List (List Int)) : List Int := outerI sp (rangeI 0 ((sp.length : Nat) : Int))
/-- what the walks ask of a nest's tree -/
def lenI (sp : List (List Int)) (k : Int) : Nat := (sp.getD k.toNat []).length
structure KidsOk (sp : List (List Int)) : Prop where
  low : ∀ k o, 0 ≤ k → k < ((sp.length : Nat) : Int) → o ∈ kidsI sp k → lenI sp o < lenI sp k
  l16 : ∀ k, 0 ≤ k → k < ((sp.length : Nat) : Int) → 1 ≤ lenI sp k ∧ lenI sp k ≤ 16
  len : sp.length ≤ 40
  pos : 1 ≤ sp.length
  lt : ∀ k o, 0 ≤ k → k < ((sp.length : Nat) : Int) → o ∈ kidsI sp k → 0 ≤ o ∧ o < k
  few : ∀ k, 0 ≤ k → k < ((sp.length : Nat) : Int) → (kidsI sp k).length ≤ 16
  top : topsI sp ≠ []
def priceOf (acc : List Rat) (ks : List Int) : Rat := if ks ≠ [] then levelQ (ks.map fun c => acc.getD c.toNat 0) else 1
def pricesK (sp : List (List Int)) : Nat → List Rat
  | 0 => []
  | n + 1 => pricesK sp n ++ [priceOf (pricesK sp n) (kidsI sp ((n : Nat) : Int))]
def pricesI (sp : List (List Int)) : List Rat := pricesK sp sp.length
theorem pricesK_len (sp : List (List Int)) : ∀ n, (pricesK sp n).length = n
  | 0 => rfl
  | n + 1 => by
    show (_ ++ [_]).length = _
    rw [List.length_append, pricesK_len sp n]
    rfl
theorem pricesI_len (sp : List (List Int)) : (pricesI sp).length = sp.length := pricesK_len sp _
theorem mean_ok {e : Nat} {xs : List Rat} (h2 : xs.length ≤ 16) (he : ∀ x ∈ xs, 0 ≤ x ∧ Ok e e x) (n : Nat) (hn : n < xs.length) : 0 ≤ meanQ xs n ∧ Ok (e + 1) (e + 1) (meanQ xs n) := by
  have hl := fall_len xs
  have hs : 0 ≤ sumQ ((fallQ xs).take (n + 1)) ∧ Ok e (e * (n + 1)) (sumQ ((fallQ xs).take (n + 1))) := by
    refine ⟨?_, ?_⟩
    · suffices hh : ∀ (ys : List Rat) (a : Rat), (∀ x ∈ ys, 0 ≤ x) → 0 ≤ a → 0 ≤ ys.foldl (· + ·) a by
        exact hh _ 0 (fun x hx => (he x (fall_mem _ (List.mem_of_mem_take hx))).1) (by decide)
      intro ys
      induction ys with
      | nil => exact fun a _ h => h
      | cons y ys ih => exact fun a hy ha => ih (a + y) (fun x hx => hy x (List.mem_cons_of_mem _ hx)) (Rat.add_nonneg ha (hy y List.mem_cons_self))
    · have := sum_step (e := e) (c := e) (xs := (fallQ xs).take (n + 1)) fun x hx => (he x (fall_mem _ (List.mem_of_mem_take hx))).2
      rw [List.length_take, hl, Nat.min_eq_left (by omega)] at this
      exact this
  have hn0 : (0 : Rat) ≤ ((n : Nat) : Rat) := by exact_mod_cast Nat.zero_le n
  have hp : (0 : Rat) < ((n + 1 : Nat) : Rat) := by exact_mod_cast Nat.succ_pos n
  have h0 : 0 ≤ meanQ xs n := by
    unfold meanQ
    rw [Rat.div_def]
    exact Rat.mul_nonneg (Rat.add_nonneg hs.1 hn0) (Rat.le_of_lt (Rat.inv_pos.mpr hp))
  refine ⟨h0, ?_⟩
  have hd := ((hs.2.add (nat_ok e n (Nat.le_refl n))).div (m := n + 1) (by omega) (by omega)).1
  refine Rq.Ok.of hd ?_ ?_
  · have : (0 : Rat) ≤ ((e + 1 : Nat) : Rat) := by exact_mod_cast Nat.zero_le _
    grind
  · have h3 := hs.2.hi
    have h4 : meanQ xs n * ((n + 1 : Nat) : Rat) = sumQ ((fallQ xs).take (n + 1)) + ((n : Nat) : Rat) := by
      unfold meanQ
      exact Rat.div_mul_cancel (by grind)
    have e1 : ((e * (n + 1) : Nat) : Rat) = (e : Rat) * ((n + 1 : Nat) : Rat) := by push_cast; grind
    have e2 : ((e + 1 : Nat) : Rat) = (e : Rat) + 1 := by push_cast; grind
    have e3 : ((n : Nat) : Rat) ≤ ((n + 1 : Nat) : Rat) := by exact_mod_cast Nat.le_succ n
    rw [e1] at h3
    rw [e2]
    have h5 : meanQ xs n * ((n + 1 : Nat) : Rat) ≤ ((e : Rat) + 1) * ((n + 1 : Nat) : Rat) := by
      rw [h4, Rat.add_mul, Rat.one_mul]
      grind
    exact Rat.le_of_mul_le_mul_right h5 hp
theorem level_ok {e : Nat} {xs : List Rat} (h1 : xs ≠ []) (h2 : xs.length ≤ 16) (he : ∀ x ∈ xs, 0 ≤ x ∧ Ok e e x) : 0 ≤ levelQ xs ∧ Ok (e + 1) (e + 1) (levelQ xs) := by
  have hm : levelQ xs ∈ (List.range xs.length).map (meanQ xs) := maxQ_mem (fun z => h1 (by
    have := congrArg List.length z
    rw [List.length_map, List.length_range] at this
    exact List.eq_nil_of_length_eq_zero this))
  obtain ⟨n, hn, e'⟩ := List.mem_map.mp hm
  rw [← e']
  exact mean_ok h2 he n (List.mem_range.mp hn)
theorem price_ok {sp : List (List Int)} (h : KidsOk sp) : ∀ n, n ≤ sp.length → ∀ x ∈ pricesK sp n, 0 ≤ x ∧ Ok n n x
  | 0, _, x, hx => nomatch hx
  | n + 1, hn, x, hx => by
    have ih := price_ok h n (by omega)
    rcases List.mem_append.mp hx with hx | hx
    · exact ⟨(ih x hx).1, (ih x hx).2.up (by omega) (by omega)⟩
    · rw [List.mem_singleton.mp hx]
      unfold priceOf
      split
      · rename_i hk
        refine level_ok (fun z => hk (List.map_eq_nil_iff.mp z)) (by rw [List.length_map]; exact h.few _ (by omega) (by omega)) fun y hy => ?_
        obtain ⟨c, hc, rfl⟩ := List.mem_map.mp hy
        obtain ⟨c1, c2⟩ := h.lt _ c (by omega) (by omega) hc
        have hl := pricesK_len sp n
        exact ih _ (mem_of_get (getD_of (d := 0) (by omega)))
      · exact ⟨by decide, Ok.one _ (by omega)⟩
section
variable {Pg : Program} {w : World} {K : PySem.W.Frag} {mg : Str → Option Value} {base : Heap} {fa : Addr} {fd : FuncData} {T : Tbs} {lev : Nat}
abbrev S46 {K : PySem.W.Frag} (T : Tbs) : Sp := SpD (K := K) T (fun i : List (List Int) => [.im rSps i]) (fun i _ => KidsOk i) (rTup rQ) (fun i j => (pricesI i, j))
theorem ok46 (hblt : ∀ n ∈ bltNames, mg n = none) (hone : Glob (K := K) mg "ONE" rQ 1) (h39 : Has Pg w K mg base lev "children_in" ["spans", "number"] (S39 (K := K) T)) (h45 : Has Pg w K mg base lev "level_of" ["prices"] (S45 (K := K) T)) (F : FnP K "prices_in" (top 46) fa fd) : FnG Pg w K mg base (lev + 1) fa fd ["spans"] (S46 (K := K) T) := by
  refine def_ok F (N := ["spans", "prices", "number", "children", "child"]) ⟨rfl, rfl, rfl, by decide +kernel, rfl, by decide +kernel, by decide +kernel⟩ (fun _ => rfl) (by decide) hblt fun cdv Ar outer s0 H E hcd ok hr i k w0 j ht h => ?_
  have hl := h.len
  refine st_ ok (s := .mu rQ []) 1 (x_m (m_lst r_nil (Nat.zero_le _))) ?_
  refine hb_forJ (τ := Slot K × Slot K × Slot K) ok (fun n s => [.im rSps i, .mu rQ (pricesK i n), s.1, s.2.1, s.2.2]) (fun _ => j) (rg1 ok (d_lenT ok (dv 0)) (by omega)) (tg_name 2 ok.nd rfl (.inl rfl)) ⟨(.un, .un, .un), rfl⟩ rfl (fun n x s hx => ?_) fun s => ?_
  · have hn : n < i.length := by
      have := (List.getElem?_eq_some_iff.mp hx).1
      rw [rangeI_len] at this
      omega
    rw [rangeI_get (by omega)] at hx
    have ex : 0 + ((n : Nat) : Int) = x := Option.some.inj hx
    have ex' : ((n : Nat) : Int) = x := by omega
    subst ex'
    have hn1 : (0 : Int) ≤ ((n : Nat) : Int) := by omega
    have hn2 : ((n : Nat) : Int) < ((i.length : Nat) : Int) := by omega
    refine st_ ok 3 (x_d (d_call h39 hr ok.gd (i, ((n : Nat) : Int)) ⟨hl, hn1, hn2⟩ ht (a_im (dv 0) (a_im (dv 2) a_nil)))) ?_
    refine hb_append 1 rfl rfl (.inr (.inl rfl)) (x := priceOf (pricesK i n) (kidsI i n)) ?_ ?_ (hb_nil ⟨⟨(.im rInt ((n : Nat) : Int), .im (rTup rInt) (kidsI i n), s.2.2), rfl⟩, rfl⟩)
    · have hlk := pricesK_len i n
      have hlt : ∀ c ∈ kidsI i ((n : Nat) : Int), 0 ≤ c ∧ (pricesK i n)[c.toNat]? = some ((pricesK i n).getD c.toNat 0) := fun c hc => by
        obtain ⟨c1, c2⟩ := h.lt _ c (by omega) (by omega) hc
        exact ⟨c1, getD_of (by omega)⟩
      refine EvD.is2 (d_ifP (u := !decide (kidsI i ((n : Nat) : Int) = [])) (x1 := levelQ ((kidsI i ((n : Nat) : Int)).map fun c => (pricesK i n).getD c.toNat 0)) (x2 := 1) (t_c (d_neD (hu64 ok) (RD.tup RD.int) (by decide) (dv 3) (d_tupR r_nil (Nat.zero_le _)))) (fun hu => ?_) fun _ => d_gl hone) ?_ rfl
      · have hne : kidsI i ((n : Nat) : Int) ≠ [] := by simpa using hu
        refine d_call h45 hr ok.gd ((kidsI i ((n : Nat) : Int)).map fun c => (pricesK i n).getD c.toNat 0) ⟨fun z => hne (List.map_eq_nil_iff.mp z), by rw [List.length_map]; exact h.few _ (by omega) (by omega), n, by omega, fun y hy => ?_⟩ ht (a_bo (LcD.m (lc_map (A := rInt) (own := [("child", 4)]) (fun c : Int => (pricesK i n).getD c.toNat 0) (blk_at ["spans", "prices", "number", "children", "child"] (defScope (top 46)) ⟨rfl, by decide +kernel, by decide +kernel, by decide +kernel, by decide +kernel⟩) (f_tup (dv 3)) (tc_name 4 ok.nd rfl rfl) ?_ fun c hc s H C cl fp => d_ixB (bm 1) (dv 4) (hlt c hc).1 (hlt c hc).2) rfl ok.nd).toB a_nil)
        · exact Nat.le_trans (h.few _ (by omega) (by omega)) (by decide)
        · obtain ⟨c, hc, rfl⟩ := List.mem_map.mp hy
          exact (price_ok h n (by omega) _ (mem_of_get (hlt c hc).2)).2
      · unfold priceOf
        by_cases hk : kidsI i ((n : Nat) : Int) = []
        · simp [hk]
        · simp [hk]
    · rw [pricesK_len]
      omega
  · have hR : (rangeI 0 ((i.length : Nat) : Int)).length = i.length := by
      rw [rangeI_len]
      omega
    rw [hR]
    exact hb_ret (d_tupB ok (bm 1)) ⟨rfl, rfl⟩
/-- a price of the list -/
theorem priceI_ok {sp : List (List Int)} (h : KidsOk sp) {x : Rat} (hx : x ∈ pricesI sp) : 0 ≤ x ∧ Ok 40 40 x := by
  have := price_ok h sp.length (Nat.le_refl _) x hx
  have hl := h.len
  exact ⟨this.1, this.2.up hl hl⟩
theorem priceI_at {sp : List (List Int)} {c : Int} (h0 : 0 ≤ c) (h : c < ((sp.length : Nat) : Int)) : (pricesI sp)[c.toNat]? = some ((pricesI sp).getD c.toNat 0) := getD_of (by rw [pricesI_len]; omega)
theorem Ok.sz4 {q : Rat} (h : Ok 40 40 q) : Sz 4000 q := ok_sz h (by decide) (by decide)
def activeI (sp : List (List Int)) (pr : List Rat) (n : Int) : List Int := (kidsI sp n).filter fun c => decide (pr.getD n.toNat 0 < pr.getD c.toNat 0 + 1)
abbrev rIx {K : PySem.W.Frag} : RT K (List (List Int)) := rSps
abbrev S47 {K : PySem.W.Frag} (T : Tbs) : Sp := SpD (K := K) T (fun i : List (List Int) × Int => [.im rSps i.1, .im (rTup rQ) (pricesI i.1), .im rInt i.2]) (fun i _ => KidsOk i.1 ∧ 0 ≤ i.2 ∧ i.2 < ((i.1.length : Nat) : Int)) (rTup rInt) (fun i j => (activeI i.1 (pricesI i.1) i.2, j))
theorem ok47 (hblt : ∀ n ∈ bltNames, mg n = none) (hone : Glob (K := K) mg "ONE" rQ 1) (h15 : Has Pg w K mg base lev "added" ["one", "two"] (S_bin (K := K) T rQ (Sz2 4000) (· + ·))) (h19 : Has Pg w K mg base lev "is_less" ["one", "two"] (S_bin (K := K) T rBl (Sz2 8000) (fun a b => decide (a < b)))) (h39 : Has Pg w K mg base lev "children_in" ["spans", "number"] (S39 (K := K) T)) (F : FnP K "active_in" (top 47) fa fd) : FnG Pg w K mg base (lev + 1) fa fd ["spans", "prices", "number"] (S47 (K := K) T) := by
  refine def_ok F (N := ["spans", "prices", "number", "child"]) ⟨rfl, rfl, rfl, by decide +kernel, rfl, by decide +kernel, by decide +kernel⟩ (fun _ => rfl) (by decide) hblt fun cdv Ar outer s0 H E hcd ok hr i k w0 j ht ⟨h, h0, h1⟩ => ?_
  obtain ⟨sp, n⟩ := i
  have h : KidsOk sp := h
  have h0 : 0 ≤ n := h0
  have h1 : n < ((sp.length : Nat) : Int) := h1
  have at0 : ∀ c, 0 ≤ c → c < ((sp.length : Nat) : Int) → Sz 4000 ((pricesI sp).getD c.toNat 0) ∧ Sz 4000 ((pricesI sp).getD c.toNat 0 + 1) := fun c c0 c1 => by
    have := (priceI_ok h (mem_of_get (priceI_at c0 c1))).2
    exact ⟨Ok.sz4 this, ok_sz (this.add (Ok.one 40 (Nat.le_refl 1))) (by decide) (by decide)⟩
  refine hb_ret (d_tupB ok (LcD.m (lc_filt (A := rInt) (own := [("child", 3)]) (fun c => decide ((pricesI sp).getD n.toNat 0 < (pricesI sp).getD c.toNat 0 + 1)) (fun c => c) (blk_at ["spans", "prices", "number", "child"] (defScope (top 47)) ⟨rfl, by decide +kernel, by decide +kernel, by decide +kernel, by decide +kernel⟩) (f_tup (d_call h39 hr ok.gd (sp, n) ⟨h.len, h0, h1⟩ ht (a_im (dv 0) (a_im (dv 2) a_nil)))) (tc_name 3 ok.nd rfl rfl) ?_ (fun c hc s H C cl fp => ?_) fun c hc hp s H C cl fp => dv 3) rfl ok.nd).toB) ⟨?_, rfl⟩
  · exact Nat.le_trans (h.few n h0 h1) (by decide)
  · obtain ⟨c0, c1⟩ := h.lt n c h0 h1 hc
    have a1 := at0 n h0 h1
    have a2 := at0 c c0 (by omega)
    exact t_of (d_call h19 (by exact hr) (by exact ok.gd) ((pricesI sp).getD n.toNat 0, (pricesI sp).getD c.toNat 0 + 1) ⟨a1.1.up (by decide), a2.2.up (by decide)⟩ ht (a_im (d_ixT (dv 1) (dv 2) h0 (priceI_at h0 h1)) (a_im (d_call h15 (by exact hr) (by exact ok.gd) ((pricesI sp).getD c.toNat 0, 1) ⟨a2.1, ok_sz (Ok.one 0 (Nat.le_refl 1)) (by decide) (by decide)⟩ ht (a_im (d_ixT (dv 1) (dv 3) c0 (priceI_at c0 (by omega))) (a_im (d_gl hone) a_nil))) a_nil)))
  · rw [List.map_id']
    rfl
def pageI (sp : List (List Int)) : Rat := maxQ ((topsI sp).map fun c => (pricesI sp).getD c.toNat 0)
abbrev S48 {K : PySem.W.Frag} (T : Tbs) : Sp := SpD (K := K) T (fun i : List (List Int) => [.im rSps i]) (fun i _ => KidsOk i) rQ (fun i j => (pageI i, j))
theorem tops_at {sp : List (List Int)} {c : Int} (h : c ∈ topsI sp) : 0 ≤ c ∧ c < ((sp.length : Nat) : Int) := mem_rangeI.mp (List.mem_filter.mp h).1
theorem tops_len {sp : List (List Int)} (h : KidsOk sp) : (topsI sp).length ≤ 40 := by
  refine Nat.le_trans (List.length_filter_le _ _) ?_
  rw [rangeI_len]
  have := h.len
  omega
theorem ok48 (hblt : ∀ n ∈ bltNames, mg n = none) (h22 : Has Pg w K mg base lev "greatest_of" ["fractions"] (S_max (K := K) T)) (h40 : Has Pg w K mg base lev "tops_in" ["spans"] (S40 (K := K) T)) (h46 : Has Pg w K mg base lev "prices_in" ["spans"] (S46 (K := K) T)) (F : FnP K "page_price_in" (top 48) fa fd) : FnG Pg w K mg base (lev + 1) fa fd ["spans"] (S48 (K := K) T) := by
  refine def_ok F (N := ["spans", "prices", "top"]) ⟨rfl, rfl, rfl, by decide +kernel, rfl, by decide +kernel, by decide +kernel⟩ (fun _ => rfl) (by decide) hblt fun cdv Ar outer s0 H E hcd ok hr i k w0 j ht h => ?_
  refine st_ ok 1 (x_d (d_call h46 hr ok.gd i h ht (a_im (dv 0) a_nil))) ?_
  refine hb_ret (d_call h22 hr ok.gd ((topsI i).map fun c => (pricesI i).getD c.toNat 0) ⟨fun z => h.top (List.map_eq_nil_iff.mp z), fun x hx => ?_⟩ ht (a_bo (LcD.m (lc_map (A := rInt) (own := [("top", 2)]) (fun c : Int => (pricesI i).getD c.toNat 0) (blk_at ["spans", "prices", "top"] (defScope (top 48)) ⟨rfl, by decide +kernel, by decide +kernel, by decide +kernel, by decide +kernel⟩) (f_tup (d_call h40 hr ok.gd i h.len ht (a_im (dv 0) a_nil))) (tc_name 2 ok.nd rfl rfl) (Nat.le_trans (tops_len h) (by decide)) fun c hc s H C cl fp => d_ixT (dv 1) (dv 2) (tops_at hc).1 (priceI_at (tops_at hc).1 (tops_at hc).2)) rfl ok.nd).toB a_nil)) ⟨rfl, rfl⟩
  obtain ⟨c, hc, rfl⟩ := List.mem_map.mp hx
  exact Ok.sz4 (priceI_ok h (mem_of_get (priceI_at (tops_at hc).1 (tops_at hc).2))).2
structure NestK (n : Int) (sp : List (List Int)) : Prop extends Nest n sp, KidsOk sp
abbrev S49 {K : PySem.W.Frag} (T : Tbs) : Sp := SpD (K := K) T (fun i : (Int × List (List Int)) × Int => [.im rBk i.1, .im rInt i.2]) (fun i _ => NestK i.1.1 i.1.2 ∧ 0 ≤ i.2 ∧ i.2 < ((i.1.2.length : Nat) : Int)) rQ (fun i j => ((pricesI i.1.2).getD i.2.toNat 0, j))
theorem ok49 (hblt : ∀ n ∈ bltNames, mg n = none) (h31 : Has Pg w K mg base lev "made_number" ["book", "number"] (S31 (K := K) T)) (h42 : Has Pg w K mg base lev "made_nest" ["thing"] (S42 (K := K) T)) (h46 : Has Pg w K mg base lev "prices_in" ["spans"] (S46 (K := K) T)) (F : FnP K "price" (top 49) fa fd) : FnG Pg w K mg base (lev + 1) fa fd ["nest", "number"] (S49 (K := K) T) := by
  refine def_ok F (N := ["nest", "number", "spans"]) ⟨rfl, rfl, rfl, by decide +kernel, rfl, by decide +kernel, by decide +kernel⟩ (fun _ => rfl) (by decide) hblt fun cdv Ar outer s0 H E hcd ok hr i k w0 j ht ⟨h, h0, h1⟩ => ?_
  obtain ⟨⟨n, sp⟩, c⟩ := i
  have h1 : c < ((sp.length : Nat) : Int) := h1
  refine st_ ok 2 (x_d (d_snd (d_call h42 hr ok.gd (n, sp) h.toNest ht (a_im (dv 0) a_nil)))) ?_
  exact hb_ret (d_ixT (d_call h46 hr ok.gd sp h.toKidsOk ht (a_im (dv 2) a_nil)) (d_call h31 hr ok.gd ((n, sp), c) ⟨h0, h1⟩ ht (a_im (dv 0) (a_im (dv 1) a_nil))) h0 (priceI_at h0 h1)) ⟨rfl, rfl⟩
abbrev S50 {K : PySem.W.Frag} (T : Tbs) : Sp := SpD (K := K) T (fun i : Int × List (List Int) => [.im rBk i]) (fun i _ => NestK i.1 i.2) rQ (fun i j => (pageI i.2, j))
theorem ok50 (hblt : ∀ n ∈ bltNames, mg n = none) (h42 : Has Pg w K mg base lev "made_nest" ["thing"] (S42 (K := K) T)) (h48 : Has Pg w K mg base lev "page_price_in" ["spans"] (S48 (K := K) T)) (F : FnP K "page_price" (top 50) fa fd) : FnG Pg w K mg base (lev + 1) fa fd ["nest"] (S50 (K := K) T) := by
  refine def_ok F (N := ["nest"]) ⟨rfl, rfl, rfl, by decide +kernel, rfl, by decide +kernel, by decide +kernel⟩ (fun _ => rfl) (by decide) hblt fun cdv Ar outer s0 H E hcd ok hr i k w0 j ht h => ?_
  obtain ⟨n, sp⟩ := i
  exact hb_ret (d_call h48 hr ok.gd sp h.toKidsOk ht (a_im (d_snd (d_call h42 hr ok.gd (n, sp) h.toNest ht (a_im (dv 0) a_nil))) a_nil)) ⟨rfl, rfl⟩
/-- the first of the tops whose price is the greatest -/
def dearL (sp : List (List Int)) : List Int := (topsI sp).filter fun c => decide ((pricesI sp).getD c.toNat 0 = pageI sp)
def dearI (sp : List (List Int)) : Int := (dearL sp).headD 0
theorem dear_ne {sp : List (List Int)} (h : KidsOk sp) : (dearL sp)[0]? = some (dearI sp) := by
  have hm : pageI sp ∈ _ := maxQ_mem (xs := (topsI sp).map fun c => (pricesI sp).getD c.toNat 0) fun z => h.top (List.map_eq_nil_iff.mp z)
  obtain ⟨c, hc, e⟩ := List.mem_map.mp hm
  have : c ∈ dearL sp := List.mem_filter.mpr ⟨hc, decide_eq_true e⟩
  unfold dearI
  cases hd : dearL sp with
  | nil =>
    rw [hd] at this
    cases this
  | cons x xs => rfl
abbrev S51 {K : PySem.W.Frag} (T : Tbs) : Sp := SpD (K := K) T (fun i : List (List Int) => [.im rSps i]) (fun i _ => KidsOk i) rInt (fun i j => (dearI i, j))
theorem ok51 (hblt : ∀ n ∈ bltNames, mg n = none) (h40 : Has Pg w K mg base lev "tops_in" ["spans"] (S40 (K := K) T)) (h46 : Has Pg w K mg base lev "prices_in" ["spans"] (S46 (K := K) T)) (h48 : Has Pg w K mg base lev "page_price_in" ["spans"] (S48 (K := K) T)) (F : FnP K "dear_in" (top 51) fa fd) : FnG Pg w K mg base (lev + 1) fa fd ["spans"] (S51 (K := K) T) := by
  refine def_ok F (N := ["spans", "prices", "most", "top"]) ⟨rfl, rfl, rfl, by decide +kernel, rfl, by decide +kernel, by decide +kernel⟩ (fun _ => rfl) (by decide) hblt fun cdv Ar outer s0 H E hcd ok hr i k w0 j ht h => ?_
  refine st_ ok 1 (x_d (d_call h46 hr ok.gd i h ht (a_im (dv 0) a_nil))) ?_
  refine st_ ok 2 (x_d (d_call h48 hr ok.gd i h ht (a_im (dv 0) a_nil))) ?_
  refine hb_ret (d_ix0 (i := 0) (xs := (dearL i).map fun c => c) (LcD.m (lc_filt (A := rInt) (own := [("top", 3)]) (fun c => decide ((pricesI i).getD c.toNat 0 = pageI i)) (fun c => c) (blk_at ["spans", "prices", "most", "top"] (defScope (top 51)) ⟨rfl, by decide +kernel, by decide +kernel, by decide +kernel, by decide +kernel⟩) (f_tup (d_call h40 hr ok.gd i h.len ht (a_im (dv 0) a_nil))) (tc_name 3 ok.nd rfl rfl) (Nat.le_trans (tops_len h) (by decide)) (fun c hc s H C cl fp => t_c (d_eqD (by have hu := hu64 ok; exact hu) RD.rat (by decide) (d_ixT (dv 1) (dv 3) (tops_at hc).1 (priceI_at (tops_at hc).1 (tops_at hc).2)) (dv 2))) fun c hc hp s H C cl fp => dv 3) rfl ok.nd).toB (by rw [List.map_id']; exact dear_ne h)) ⟨rfl, rfl⟩
abbrev S52 {K : PySem.W.Frag} (T : Tbs) : Sp := SpD (K := K) T (fun i : Int × List (List Int) => [.im rBk i]) (fun i _ => NestK i.1 i.2) rInt (fun i j => (dearI i.2, j))
theorem ok52 (hblt : ∀ n ∈ bltNames, mg n = none) (h42 : Has Pg w K mg base lev "made_nest" ["thing"] (S42 (K := K) T)) (h51 : Has Pg w K mg base lev "dear_in" ["spans"] (S51 (K := K) T)) (F : FnP K "dear_top" (top 52) fa fd) : FnG Pg w K mg base (lev + 1) fa fd ["nest"] (S52 (K := K) T) := by
  refine def_ok F (N := ["nest"]) ⟨rfl, rfl, rfl, by decide +kernel, rfl, by decide +kernel, by decide +kernel⟩ (fun _ => rfl) (by decide) hblt fun cdv Ar outer s0 H E hcd ok hr i k w0 j ht h => ?_
  obtain ⟨n, sp⟩ := i
  exact hb_ret (d_call h51 hr ok.gd sp h.toKidsOk ht (a_im (d_snd (d_call h42 hr ok.gd (n, sp) h.toNest ht (a_im (dv 0) a_nil))) a_nil)) ⟨rfl, rfl⟩
end
end Fm
set_option maxHeartbeats 1000000
namespace Fm
open PySem PySem.Spec PyProof.Rows L2
open PySem.W (alike alikeAll dataLt Sortable)
open Rq (Sz Ok)
/-! ### prices again -/
theorem pricesK_pre (sp : List (List Int)) (m : Nat) : ∀ n, ∃ r, pricesK sp (m + n) = pricesK sp m ++ r
  | 0 => ⟨[], by simp⟩
  | n + 1 => by
    obtain ⟨r, h⟩ := pricesK_pre sp m n
    exact ⟨r ++ [_], by rw [← List.append_assoc, ← h]; rfl⟩
theorem pricesK_get {sp : List (List Int)} {k m : Nat} (h : k < m) : ∀ {n : Nat}, m ≤ n → (pricesK sp n)[k]? = (pricesK sp m)[k]? := fun {n} hn => by
  obtain ⟨r, e⟩ := pricesK_pre sp m (n - m)
  rw [show m + (n - m) = n by omega] at e
  rw [e, List.getElem?_append_left (by rw [pricesK_len]; exact h)]
/-- the recursion of the prices -/
theorem price_eq {sp : List (List Int)} (h : KidsOk sp) {k : Nat} (hk : k < sp.length) : (pricesI sp).getD k 0 = priceOf (pricesI sp) (kidsI sp ((k : Nat) : Int)) := by
  have e : (pricesI sp)[k]? = some (priceOf (pricesK sp k) (kidsI sp ((k : Nat) : Int))) := by
    show (pricesK sp sp.length)[k]? = _
    rw [pricesK_get (m := k + 1) (Nat.lt_succ_self k) hk]
    show (pricesK sp k ++ [_])[k]? = _
    rw [List.getElem?_append_right (by rw [pricesK_len]; exact Nat.le_refl _), pricesK_len, Nat.sub_self]
    rfl
  rw [List.getD_eq_getElem?_getD, e]
  show priceOf (pricesK sp k) _ = priceOf (pricesI sp) _
  unfold priceOf
  congr 1
  congr 1
  apply List.map_congr_left
  intro c hc
  obtain ⟨c0, c1⟩ := h.lt _ c (by omega) (by omega) hc
  rw [List.getD_eq_getElem?_getD, List.getD_eq_getElem?_getD]
  congr 1
  exact (pricesK_get (m := k) (by omega) (Nat.le_of_lt hk)).symm
def prI (sp : List (List Int)) (k : Int) : Rat := (pricesI sp).getD k.toNat 0
theorem prI_eq {sp : List (List Int)} (h : KidsOk sp) {k : Int} (h0 : 0 ≤ k) (h1 : k < ((sp.length : Nat) : Int)) : prI sp k = if kidsI sp k ≠ [] then levelQ ((kidsI sp k).map (prI sp)) else 1 := by
  have := price_eq h (k := k.toNat) (by omega)
  rw [Int.toNat_of_nonneg h0] at this
  exact this
theorem prI_ok {sp : List (List Int)} (h : KidsOk sp) : ∀ (m : Nat) (k : Int), k.toNat < m → 0 ≤ k → k < ((sp.length : Nat) : Int) → 0 ≤ prI sp k ∧ Ok (lenI sp k) (lenI sp k) (prI sp k)
  | 0, k, hm, _, _ => by omega
  | m + 1, k, hm, h0, h1 => by
    rw [prI_eq h h0 h1]
    obtain ⟨l1, l2⟩ := h.l16 k h0 h1
    split
    · rename_i hk
      have := level_ok (e := lenI sp k - 1) (xs := (kidsI sp k).map (prI sp)) (fun z => hk (List.map_eq_nil_iff.mp z)) (by rw [List.length_map]; exact h.few k h0 h1) fun x hx => by
        obtain ⟨c, hc, rfl⟩ := List.mem_map.mp hx
        obtain ⟨c0, c1⟩ := h.lt k c h0 h1 hc
        have hl := h.low k c h0 h1 hc
        have ih := prI_ok h m c (by omega) c0 (by omega)
        exact ⟨ih.1, ih.2.up (by omega) (by omega)⟩
      rw [show lenI sp k - 1 + 1 = lenI sp k by omega] at this
      exact this
    · exact ⟨by decide, Ok.one _ l1⟩
theorem prI_ok' {sp : List (List Int)} (h : KidsOk sp) {k : Int} (h0 : 0 ≤ k) (h1 : k < ((sp.length : Nat) : Int)) : 0 ≤ prI sp k ∧ Ok (lenI sp k) (lenI sp k) (prI sp k) := prI_ok h _ k (Nat.lt_succ_self _) h0 h1
/-! ### shares -/
def tri : Nat → Nat
  | 0 => 0
  | n + 1 => tri n + (n + 1)
theorem tri_mono {m n : Nat} (h : m ≤ n) : tri m ≤ tri n := by
  induction n with
  | zero =>
    rw [show m = 0 by omega]
    exact Nat.le_refl _
  | succ n ih =>
    rcases Nat.lt_or_ge m (n + 1) with g | g
    · exact Nat.le_trans (ih (by omega)) (Nat.le_add_right _ _)
    · rw [show m = n + 1 by omega]
      exact Nat.le_refl _
abbrev ShOk (l : Nat) (x : Rat) : Prop := Ok (tri l) (41 ^ l) x
theorem ShOk.sz {l : Nat} {x : Rat} (h : ShOk l x) (hl : l ≤ 16) : Sz 4000 x := by
  have h1 : tri l ≤ 136 := tri_mono hl
  have h2 : 41 ^ l ≤ 41 ^ 16 := Nat.pow_le_pow_right (by decide) hl
  have h3 : Ok 136 (41 ^ 16) x := h.up h1 h2
  exact Rq.Ok.sz h3 (by decide)
def dealCol (part : Rat) (sh dealt : List Rat) (c : Int) : List Rat := dealt.set c.toNat (part * sh.getD c.toNat 0)
def partI (sp : List (List Int)) (n c : Int) : Rat := prI sp c + 1 - prI sp n
def dealKid (sp : List (List Int)) (sh : List (List Rat)) (n : Int) (dealt : List Rat) (c : Int) : List Rat := (sp.getD c.toNat []).foldl (dealCol (partI sp n c) (sh.getD c.toNat [])) dealt
def dealStart (n0 : Nat) (sp : List (List Int)) (n : Int) : List Rat := if kidsI sp n = [] then (List.replicate n0 0).set ((sp.getD n.toNat []).headD 0).toNat 1 else List.replicate n0 0
def shareOf (n0 : Nat) (sp : List (List Int)) (sh : List (List Rat)) (n : Int) : List Rat := (activeI sp (pricesI sp) n).foldl (dealKid sp sh n) (dealStart n0 sp n)
def sharesK (n0 : Nat) (sp : List (List Int)) : Nat → List (List Rat)
  | 0 => []
  | m + 1 => sharesK n0 sp m ++ [shareOf n0 sp (sharesK n0 sp m) ((m : Nat) : Int)]
def sharesI (n0 : Nat) (sp : List (List Int)) : List (List Rat) := sharesK n0 sp sp.length
theorem sharesK_len (n0 : Nat) (sp : List (List Int)) : ∀ n, (sharesK n0 sp n).length = n
  | 0 => rfl
  | n + 1 => by
    show (_ ++ [_]).length = _
    rw [List.length_append, sharesK_len n0 sp n]
    rfl
theorem fold_inv {α β : Type} {P : α → Prop} {f : α → β → α} : ∀ {xs : List β} {a : α}, P a → (∀ a x, x ∈ xs → P a → P (f a x)) → P (xs.foldl f a)
  | [], _, h, _ => h
  | x :: xs, a, h, hs => fold_inv (xs := xs) (hs a x List.mem_cons_self h) fun a y hy => hs a y (List.mem_cons_of_mem _ hy)
/-- a dealt row: so long, and of such parts -/
def RowOk (n0 l : Nat) (r : List Rat) : Prop := r.length = n0 ∧ ∀ x ∈ r, ShOk l x
theorem RowOk.set {n0 l : Nat} {r : List Rat} (h : RowOk n0 l r) (i : Nat) {x : Rat} (hx : ShOk l x) : RowOk n0 l (r.set i x) := by
  refine ⟨by rw [List.length_set]; exact h.1, fun y hy => ?_⟩
  rcases List.mem_or_eq_of_mem_set hy with hy | hy
  · exact h.2 y hy
  · exact hy ▸ hx
theorem sh_zero (l : Nat) : ShOk l 0 := Ok.zero _ _
theorem sh_one (l : Nat) : ShOk l 1 := Ok.one _ (Nat.pos_of_ne_zero (by exact Nat.ne_of_gt (Nat.pow_pos (by decide))))
theorem start_ok (n0 l : Nat) (sp : List (List Int)) (n : Int) : RowOk n0 l (dealStart n0 sp n) := by
  have h : RowOk n0 l (List.replicate n0 0) := ⟨List.length_replicate, fun x hx => by rw [List.eq_of_mem_replicate hx]; exact sh_zero l⟩
  unfold dealStart
  split
  · exact h.set _ (sh_one l)
  · exact h
theorem part_ok {sp : List (List Int)} (h : KidsOk sp) {n c : Int} (h0 : 0 ≤ n) (h1 : n < ((sp.length : Nat) : Int)) (hc : c ∈ kidsI sp n) : Ok (lenI sp n) 41 (partI sp n c) := by
  obtain ⟨c0, c1⟩ := h.lt n c h0 h1 hc
  have a := (prI_ok' h c0 (by omega)).2
  have b := (prI_ok' h h0 h1).2
  have hl := h.low n c h0 h1 hc
  have h16 := h.l16 n h0 h1
  have := ((a.up (e' := lenI sp n) (Nat.le_of_lt hl) (Nat.le_refl _)).add (Ok.one _ (Nat.le_refl 1))).sub b
  exact this.up (Nat.le_refl _) (by omega)
/-- the shares of the spans ahead are well sized -/
def ShsOk (n0 : Nat) (sp : List (List Int)) (sh : List (List Rat)) (n : Int) : Prop := ∀ c, 0 ≤ c → c < n → RowOk n0 (lenI sp c) (sh.getD c.toNat [])
theorem mul_ok {sp : List (List Int)} {n0 : Nat} {sh : List (List Rat)} (h : KidsOk sp) {n c : Int} (h0 : 0 ≤ n) (h1 : n < ((sp.length : Nat) : Int)) (hc : c ∈ kidsI sp n) (hs : ShsOk n0 sp sh n) {i : Nat} (hi : i < n0) : ShOk (lenI sp c) ((sh.getD c.toNat []).getD i 0) ∧ (sh.getD c.toNat [])[i]? = some ((sh.getD c.toNat []).getD i 0) ∧ ShOk (lenI sp n) (partI sp n c * (sh.getD c.toNat []).getD i 0) := by
  obtain ⟨c0, c1⟩ := h.lt n c h0 h1 hc
  have r := hs c c0 c1
  have g := getD_of (xs := sh.getD c.toNat []) (d := 0) (n := i) (by rw [r.1]; exact hi)
  have e := r.2 _ (mem_of_get g)
  refine ⟨e, g, ?_⟩
  have p := part_ok h h0 h1 hc
  have hl := h.low n c h0 h1 hc
  obtain ⟨m, hm⟩ : ∃ m, lenI sp n = m + 1 := ⟨lenI sp n - 1, by omega⟩
  have := p.mul e
  rw [hm] at this ⊢
  refine this.up ?_ ?_
  · show m + 1 + tri (lenI sp c) ≤ tri m + (m + 1)
    have := tri_mono (m := lenI sp c) (n := m) (by omega)
    omega
  · rw [Nat.pow_succ, Nat.mul_comm]
    exact Nat.mul_le_mul_right _ (Nat.pow_le_pow_right (by decide) (by omega))
theorem col_ok {sp : List (List Int)} {n0 : Nat} {sh : List (List Rat)} (h : KidsOk sp) {n c : Int} (h0 : 0 ≤ n) (h1 : n < ((sp.length : Nat) : Int)) (hc : c ∈ kidsI sp n) (hs : ShsOk n0 sp sh n) {cs : List Int} (hcs : ∀ x ∈ cs, 0 ≤ x ∧ x.toNat < n0) {r : List Rat} (hr : RowOk n0 (lenI sp n) r) : RowOk n0 (lenI sp n) (cs.foldl (dealCol (partI sp n c) (sh.getD c.toNat [])) r) :=
  fold_inv (P := RowOk n0 (lenI sp n)) hr fun a x hx ha => ha.set _ (mul_ok h h0 h1 hc hs (hcs x hx).2).2.2
theorem kid_ok {sp : List (List Int)} {n0 : Nat} {sh : List (List Rat)} (h : KidsOk sp) (hcols : ∀ s ∈ sp, ∀ x ∈ s, 0 ≤ x ∧ x.toNat < n0) {n : Int} (h0 : 0 ≤ n) (h1 : n < ((sp.length : Nat) : Int)) (hs : ShsOk n0 sp sh n) {cs : List Int} (hcs : ∀ c ∈ cs, c ∈ kidsI sp n) {r : List Rat} (hr : RowOk n0 (lenI sp n) r) : RowOk n0 (lenI sp n) (cs.foldl (dealKid sp sh n) r) :=
  fold_inv (P := RowOk n0 (lenI sp n)) hr fun a c hc ha => by
    obtain ⟨c0, c1⟩ := h.lt n c h0 h1 (hcs c hc)
    exact col_ok h h0 h1 (hcs c hc) hs (hcols _ (mem_of_get (getD_of (d := []) (by omega)))) ha
theorem active_kid {sp : List (List Int)} {pr : List Rat} {n c : Int} (h : c ∈ activeI sp pr n) : c ∈ kidsI sp n := (List.mem_filter.mp h).1
theorem shares_ok {sp : List (List Int)} {n0 : Nat} (h : KidsOk sp) (hcols : ∀ s ∈ sp, ∀ x ∈ s, 0 ≤ x ∧ x.toNat < n0) : ∀ m, m ≤ sp.length → ShsOk n0 sp (sharesK n0 sp m) ((m : Nat) : Int)
  | 0, _, c, c0, c1 => by omega
  | m + 1, hm, c, c0, c1 => by
    have ih := shares_ok h hcols m (by omega)
    have hl := sharesK_len n0 sp m
    show RowOk n0 _ ((sharesK n0 sp m ++ [shareOf n0 sp (sharesK n0 sp m) ((m : Nat) : Int)]).getD c.toNat [])
    rcases Int.lt_or_le c ((m : Nat) : Int) with g | g
    · have := ih c c0 g
      rw [List.getD_eq_getElem?_getD, List.getElem?_append_left (by omega), ← List.getD_eq_getElem?_getD]
      exact this
    · have e : c = ((m : Nat) : Int) := by omega
      subst e
      rw [List.getD_eq_getElem?_getD, List.getElem?_append_right (by omega), hl]
      simp only [Int.toNat_natCast, Nat.sub_self]
      exact kid_ok h hcols (by omega) (by omega) ih (fun c hc => active_kid hc) (start_ok n0 _ sp _)
end Fm
set_option maxHeartbeats 1000000
namespace Fm
open PySem PySem.Spec PyProof.Rows L2
open PySem.W (alike alikeAll dataLt Sortable)
open Rq (Sz Ok)
theorem LcD.is {X : Cx} {k : Kx} {w0 : Wd} {Γ : List (Slot X.K)} {j j2 : Int × Int} {elt tg iter : Expr} {ifs : List Expr} {scope : Scope} {β : Type} {B : RT X.K β} {zs zs' : List β} (h : LcD X k w0 Γ j elt tg iter ifs scope B zs j2) (e : zs = zs') : LcD X k w0 Γ j elt tg iter ifs scope B zs' j2 := e ▸ h
theorem fold_succ {α β : Type} {f : α → β → α} {xs : List β} {a : α} {i : Nat} {x : β} (h : xs[i]? = some x) : (xs.take (i + 1)).foldl f a = f ((xs.take i).foldl f a) x := by
  rw [take_succ_of h, List.foldl_append]
  rfl
theorem cols_of {n : Int} {sp : List (List Int)} (h : Book n sp) : ∀ s ∈ sp, ∀ x ∈ s, 0 ≤ x ∧ x.toNat < n.toNat := fun s hs x hx => by
  obtain ⟨h1, h2⟩ := (h.ris s hs).2.2 x hx
  omega
section
variable {Pg : Program} {w : World} {K : PySem.W.Frag} {mg : Str → Option Value} {base : Heap} {fa : Addr} {fd : FuncData} {T : Tbs} {lev : Nat}
abbrev S54 {K : PySem.W.Frag} (T : Tbs) : Sp := SpD (K := K) T (fun i : Int × List (List Int) => [.im rInt i.1, .im rSps i.2]) (fun i _ => NestK i.1 i.2) (rTup (rTup rQ)) (fun i j => (sharesI i.1.toNat i.2, j))
theorem ok54 (hblt : ∀ n ∈ bltNames, mg n = none) (hno : Glob (K := K) mg "NOUGHT" rQ 0) (hone : Glob (K := K) mg "ONE" rQ 1) (h15 : Has Pg w K mg base lev "added" ["one", "two"] (S_bin (K := K) T rQ (Sz2 4000) (· + ·))) (h16 : Has Pg w K mg base lev "taken" ["one", "two"] (S_bin (K := K) T rQ (Sz2 4000) (· - ·))) (h17 : Has Pg w K mg base lev "multiplied" ["one", "two"] (S_bin (K := K) T rQ (Sz2 4000) (· * ·)))
    (h39 : Has Pg w K mg base lev "children_in" ["spans", "number"] (S39 (K := K) T)) (h46 : Has Pg w K mg base lev "prices_in" ["spans"] (S46 (K := K) T)) (h47 : Has Pg w K mg base lev "active_in" ["spans", "prices", "number"] (S47 (K := K) T)) (F : FnP K "tree_in" (top 54) fa fd) : FnG Pg w K mg base (lev + 1) fa fd ["n", "spans"] (S54 (K := K) T) := by
  refine def_ok F (N := ["n", "spans", "prices", "shares", "number", "span", "dealt", "_", "child", "part", "column"]) ⟨rfl, rfl, rfl, by decide +kernel, rfl, by decide +kernel, by decide +kernel⟩ (fun _ => rfl) (by decide) hblt fun cdv Ar outer s0 H E hcd ok hr i k w0 j ht h => ?_
  obtain ⟨n, sp⟩ := i
  have h : NestK n sp := h
  have hk := h.toKidsOk
  have hn1 : 1 ≤ n := h.n1
  have hn2 : n ≤ 16 := h.n2
  have hcols := cols_of h.toBook
  have hl := hk.len
  refine st_ ok 2 (x_d (d_call h46 hr ok.gd sp hk ht (a_im (dv 1) a_nil))) ?_
  refine st_ ok (s := .mu (rTup rQ) []) 3 (x_m (m_lst r_nil (Nat.zero_le _))) ?_
  refine hb_forJ (τ := Slot K × Slot K × Slot K × Slot K × Slot K × Slot K × Slot K) ok (fun m s => [.im rInt n, .im rSps sp, .im (rTup rQ) (pricesI sp), .mu (rTup rQ) (sharesK n.toNat sp m), s.1, s.2.1, s.2.2.1, s.2.2.2.1, s.2.2.2.2.1, s.2.2.2.2.2.1, s.2.2.2.2.2.2]) (fun _ => j) (f_enumT ok (dv 1)) (tg_pair 4 5 rfl ok.nd rfl rfl (.inl rfl) (.inl rfl)) ⟨(.un, .un, .un, .un, .un, .un, .un), rfl⟩ rfl (fun m x s hx => ?_) fun s => hb_ret (d_tupB ok (bm 3)) ⟨by rw [enumL_len]; rfl, rfl⟩
  obtain ⟨hx1, hx2⟩ := enumL_iff hx
  obtain ⟨x1, x2⟩ := x
  have hx2 : x1 = ((m : Nat) : Int) := hx2
  subst hx2
  have hx1 : sp[m]? = some x2 := hx1
  have hm : m < sp.length := (List.getElem?_eq_some_iff.mp hx1).1
  have m0 : (0 : Int) ≤ ((m : Nat) : Int) := by omega
  have m1 : ((m : Nat) : Int) < ((sp.length : Nat) : Int) := by omega
  have em : sp.getD ((m : Nat) : Int).toNat [] = x2 := by rw [Int.toNat_natCast, List.getD_eq_getElem?_getD, hx1]; rfl
  have hris := h.ris x2 (mem_of_get hx1)
  have hx0 : x2[0]? = some (x2.headD 0) := by
    have := hris.1
    cases x2 with
    | nil => exact absurd rfl this
    | cons y ys => rfl
  have hx00 := hcols x2 (mem_of_get hx1) _ (mem_of_get hx0)
  have hshs := shares_ok hk hcols m (Nat.le_of_lt hm)
  have hstart := start_ok n.toNat (lenI sp ((m : Nat) : Int)) sp ((m : Nat) : Int)
  have h16' := (hk.l16 _ m0 m1).2
  have hrep : (rangeI 0 n).map (fun _ => (0 : Rat)) = List.replicate n.toNat 0 := by
    rw [List.map_const', rangeI_len, Int.sub_zero]
  refine hb_setLc ok 6 rfl rfl (LcD.is (zs' := List.replicate n.toNat 0) (lc_map (A := rInt) (own := [("_", 7)]) (fun _ : Int => (0 : Rat)) (blk_at ["n", "spans", "prices", "shares", "number", "span", "dealt", "_", "child", "part", "column"] (defScope (top 54)) ⟨rfl, by decide +kernel, by decide +kernel, by decide +kernel, by decide +kernel⟩) (rg1 ok (dv 0) (by omega)) (tc_name 7 ok.nd rfl rfl) (by rw [rangeI_len]; omega) fun c hc s H C cl fp => d_gl hno) hrep) ?_
  refine hb_if2 (Γ1 := [.im rInt n, .im rSps sp, .im (rTup rQ) (pricesI sp), .mu (rTup rQ) (sharesK n.toNat sp m), .im rInt ((m : Nat) : Int), .im rSpn x2, .mu rQ (dealStart n.toNat sp ((m : Nat) : Int)), s.2.2.2.1, s.2.2.2.2.1, s.2.2.2.2.2.1, s.2.2.2.2.2.2]) (j2 := j) (t_c (d_eqD (hu64 ok) (RD.tup RD.int) (by decide) (d_call h39 hr ok.gd (sp, ((m : Nat) : Int)) ⟨hl, m0, m1⟩ ht (a_im (dv 1) (a_im (dv 4) a_nil))) (d_tupR r_nil (Nat.zero_le _)))) (fun hu => ?_) (fun hu => ?_) ?_
  · have hk0 : kidsI sp ((m : Nat) : Int) = [] := of_decide_eq_true hu
    refine hb_setItem 6 rfl rfl (.inl rfl) (d_gl hone) (d_ixT (dv 5) d_int (by decide) hx0) hx00.1 (by rw [List.length_replicate]; omega) (hb_nil ⟨?_, rfl⟩)
    unfold dealStart
    rw [if_pos hk0, em]
    rfl
  · have hk0 : kidsI sp ((m : Nat) : Int) ≠ [] := of_decide_eq_false hu
    refine hb_nil ⟨?_, rfl⟩
    unfold dealStart
    rw [if_neg hk0]
    rfl
  refine hb_forJ (τ := Slot K × Slot K × Slot K) ok (fun q t => [.im rInt n, .im rSps sp, .im (rTup rQ) (pricesI sp), .mu (rTup rQ) (sharesK n.toNat sp m), .im rInt ((m : Nat) : Int), .im rSpn x2, .mu rQ (((activeI sp (pricesI sp) ((m : Nat) : Int)).take q).foldl (dealKid sp (sharesK n.toNat sp m) ((m : Nat) : Int)) (dealStart n.toNat sp ((m : Nat) : Int))), s.2.2.2.1, t.1, t.2.1, t.2.2]) (fun _ => j) (f_tup (d_call h47 hr ok.gd (sp, ((m : Nat) : Int)) ⟨hk, m0, m1⟩ ht (a_im (dv 1) (a_im (dv 2) (a_im (dv 4) a_nil))))) (tg_name 8 ok.nd rfl (.inl rfl)) ⟨(_, _, _), rfl⟩ rfl (fun q c t hc => ?_) fun t => ?_
  · have hck := active_kid (mem_of_get hc)
    obtain ⟨c0, c1⟩ := hk.lt _ c m0 m1 hck
    have hact := kid_ok hk hcols m0 m1 hshs (cs := (activeI sp (pricesI sp) ((m : Nat) : Int)).take q) (fun c hc => active_kid (List.mem_of_mem_take (i := q) hc)) hstart
    have pm := (prI_ok' hk m0 m1).2
    have pc := (prI_ok' hk c0 (by omega : c < ((sp.length : Nat) : Int))).2
    have lc16 := (hk.l16 c c0 (by omega)).2
    have z1 : Sz 4000 (prI sp c) := ok_sz pc (by omega) (by omega)
    have z2 : Sz 4000 (prI sp c + 1) := ok_sz (pc.add (Ok.one _ (Nat.le_refl 1))) (by omega) (by omega)
    have z3 : Sz 4000 (prI sp ((m : Nat) : Int)) := ok_sz pm (by omega) (by omega)
    have z4 : Sz 4000 (partI sp ((m : Nat) : Int) c) := ok_sz (part_ok hk m0 m1 hck) (by omega) (by omega)
    have gc : sp[c.toNat]? = some (sp.getD c.toNat []) := getD_of (by omega)
    refine st_ ok 9 (x_d (d_call h16 hr ok.gd (prI sp c + 1, prI sp ((m : Nat) : Int)) ⟨z2, z3⟩ ht (a_im (d_call h15 hr ok.gd (prI sp c, 1) ⟨z1, ok_sz (Ok.one 0 (Nat.le_refl 1)) (by decide) (by decide)⟩ ht (a_im (d_ixT (dv 2) (dv 8) c0 (priceI_at c0 (by omega))) (a_im (d_gl hone) a_nil))) (a_im (d_ixT (dv 2) (dv 4) m0 (priceI_at m0 m1)) a_nil)))) ?_
    refine hb_forJ (τ := Slot K) ok (fun l t => [.im rInt n, .im rSps sp, .im (rTup rQ) (pricesI sp), .mu (rTup rQ) (sharesK n.toNat sp m), .im rInt ((m : Nat) : Int), .im rSpn x2, .mu rQ (((sp.getD c.toNat []).take l).foldl (dealCol (partI sp ((m : Nat) : Int) c) ((sharesK n.toNat sp m).getD c.toNat [])) (((activeI sp (pricesI sp) ((m : Nat) : Int)).take q).foldl (dealKid sp (sharesK n.toNat sp m) ((m : Nat) : Int)) (dealStart n.toNat sp ((m : Nat) : Int)))), s.2.2.2.1, .im rInt c, .im rQ (partI sp ((m : Nat) : Int) c), t]) (fun _ => j) (f_tup (d_ixT (dv 1) (dv 8) c0 gc)) (tg_name 10 ok.nd rfl (.inl rfl)) ⟨_, rfl⟩ rfl (fun l y t hy => ?_) fun t => ?_
    · have hyc := hcols _ (mem_of_get gc) y (mem_of_get hy)
      obtain ⟨e1, e2, e3⟩ := mul_ok hk m0 m1 hck hshs hyc.2
      have hrow := col_ok hk m0 m1 hck hshs (cs := (sp.getD c.toNat []).take l) (fun x hx => hcols _ (mem_of_get gc) x (List.mem_of_mem_take hx)) hact
      have gs : (sharesK n.toNat sp m)[c.toNat]? = some ((sharesK n.toNat sp m).getD c.toNat []) := getD_of (by rw [sharesK_len]; omega)
      refine hb_setItem 6 rfl rfl (.inl rfl) (d_call h17 hr ok.gd (partI sp ((m : Nat) : Int) c, ((sharesK n.toNat sp m).getD c.toNat []).getD y.toNat 0) ⟨z4, e1.sz lc16⟩ ht (a_im (dv 9) (a_im (d_ixT (d_ixB (bm 3) (dv 8) c0 gs) (dv 10) hyc.1 e2) a_nil))) (dv 10) hyc.1 (by rw [hrow.1]; omega) (hb_nil ⟨⟨.im rInt y, ?_⟩, rfl⟩)
      rw [fold_succ hy]
      rfl
    · refine hb_nil ⟨⟨(.im rInt c, .im rQ (partI sp ((m : Nat) : Int) c), t), ?_⟩, rfl⟩
      rw [List.take_length, fold_succ hc]
      rfl
  · refine hb_append 3 rfl rfl (.inl rfl) (d_tupB ok (bm 6)) (by rw [sharesK_len]; omega) (hb_nil ⟨⟨(.im rInt ((m : Nat) : Int), .im rSpn x2, .mu rQ (shareOf n.toNat sp (sharesK n.toNat sp m) ((m : Nat) : Int)), s.2.2.2.1, t.1, t.2.1, t.2.2), ?_⟩, rfl⟩)
    rw [List.take_length]
    rfl
abbrev S55 {K : PySem.W.Frag} (T : Tbs) : Sp := SpD (K := K) T (fun i : Int × List (List Int) => [.im rBk i]) (fun i _ => NestK i.1 i.2) (rTup (rTup rQ)) (fun i j => (sharesI i.1.toNat i.2, j))
theorem ok55 (hblt : ∀ n ∈ bltNames, mg n = none) (h42 : Has Pg w K mg base lev "made_nest" ["thing"] (S42 (K := K) T)) (h54 : Has Pg w K mg base lev "tree_in" ["n", "spans"] (S54 (K := K) T)) (F : FnP K "tree_shares" (top 55) fa fd) : FnG Pg w K mg base (lev + 1) fa fd ["nest"] (S55 (K := K) T) := by
  refine def_ok F (N := ["nest", "n", "spans"]) ⟨rfl, rfl, rfl, by decide +kernel, rfl, by decide +kernel, by decide +kernel⟩ (fun _ => rfl) (by decide) hblt fun cdv Ar outer s0 H E hcd ok hr i k w0 j ht h => ?_
  obtain ⟨n, sp⟩ := i
  refine hb_tgt (tg_pair 1 2 rfl ok.nd rfl rfl (.inl rfl) (.inl rfl)) (d_call h42 hr ok.gd (n, sp) h.toNest ht (a_im (dv 0) a_nil)) ?_
  exact hb_ret (d_call h54 hr ok.gd (n, sp) h ht (a_im (dv 1) (a_im (dv 2) a_nil))) ⟨rfl, rfl⟩
/-! ### scripts -/
def scrI (sp : List (List Int)) : Nat → Int → List (List Int × Rat)
  | 0, _ => []
  | d + 1, n => if activeI sp (pricesI sp) n = [] then [([n], 1)] else (activeI sp (pricesI sp) n).flatMap fun c => (scrI sp d c).map fun p => (n :: p.1, p.2 / (((activeI sp (pricesI sp) n).length : Nat) : Rat))
abbrev rSc {K : PySem.W.Frag} : RT K (List Int × Rat) := rPair (rTup rInt) rQ
structure ScrOk (sp : List (List Int)) : Prop extends KidsOk sp where
  few2 : ∀ d n, (scrI sp d n).length ≤ 1000
theorem scr_ok {sp : List (List Int)} (h : KidsOk sp) : ∀ d n, 0 ≤ n → n < ((sp.length : Nat) : Int) → ∀ p ∈ scrI sp d n, Ok d 1 p.2 ∧ p.1.length ≤ d
  | 0, _, _, _, _, hp => nomatch hp
  | d + 1, n, h0, h1, p, hp => by
    unfold scrI at hp
    split at hp
    · rw [List.mem_singleton.mp hp]
      exact ⟨Ok.one _ (Nat.le_refl 1), Nat.le_add_left _ _⟩
    · rename_i hne
      obtain ⟨c, hc, hp⟩ := List.mem_flatMap.mp hp
      obtain ⟨q, hq, rfl⟩ := List.mem_map.mp hp
      have hck := active_kid hc
      obtain ⟨c0, c1⟩ := h.lt n c h0 h1 hck
      obtain ⟨i1, i2⟩ := scr_ok h d c c0 (by omega) q hq
      have hfew := h.few n h0 h1
      have hl : (activeI sp (pricesI sp) n).length ≤ 16 := Nat.le_trans (List.length_filter_le _ _) hfew
      exact ⟨i1.div (List.length_pos_of_mem hc) hl, by show q.1.length + 1 ≤ _; omega⟩
abbrev S57 {K : PySem.W.Frag} (T : Tbs) (d : Nat) : Sp := SpM (K := K) T (fun i : List (List Int) × Int => [.im rSps i.1, .im (rTup rQ) (pricesI i.1), .im rInt i.2]) (fun i _ => ScrOk i.1 ∧ 0 ≤ i.2 ∧ i.2 < ((i.1.length : Nat) : Int) ∧ i.2 < ((d : Nat) : Int)) rSc (fun i j => (scrI i.1 d i.2, j))
theorem ok57s (hblt : ∀ n ∈ bltNames, mg n = none) (d : Nat) (hd : d ≤ 60) (hone : Glob (K := K) mg "ONE" rQ 1) (h18 : Has Pg w K mg base lev "divided" ["one", "two"] (S_bin (K := K) T rQ SzD (· / ·))) (h47 : Has Pg w K mg base lev "active_in" ["spans", "prices", "number"] (S47 (K := K) T)) (h57 : Has Pg w K mg base lev "scripts_from" ["spans", "prices", "number"] (S57 (K := K) T d)) (F : FnP K "scripts_from" (top 57) fa fd) : FnG Pg w K mg base (lev + 1) fa fd ["spans", "prices", "number"] (S57 (K := K) T (d + 1)) := by
  refine def_okM F (N := ["spans", "prices", "number", "children", "found", "child", "path", "chance"]) ⟨rfl, rfl, rfl, by decide +kernel, rfl, by decide +kernel, by decide +kernel⟩ (fun _ => rfl) (by decide) hblt fun cdv Ar outer s0 H E hcd ok hr i k w0 j ht ⟨h, h0, h1, hdn⟩ => ?_
  obtain ⟨sp, n⟩ := i
  have h : ScrOk sp := h
  have h0 : 0 ≤ n := h0
  have h1 : n < ((sp.length : Nat) : Int) := h1
  have hdn : n < (((d + 1 : Nat) : Nat) : Int) := hdn
  have hk := h.toKidsOk
  have hal : (activeI sp (pricesI sp) n).length ≤ 16 := Nat.le_trans (List.length_filter_le _ _) (hk.few n h0 h1)
  refine st_ ok 3 (x_d (d_call h47 hr ok.gd (sp, n) ⟨hk, h0, h1⟩ ht (a_im (dv 0) (a_im (dv 1) (a_im (dv 2) a_nil))))) ?_
  refine hb_ifO (t_c (d_eqD (hu64 ok) (RD.tup RD.int) (by decide) (dv 3) (d_tupR r_nil (Nat.zero_le _)))) (fun hu => ?_) fun hu => ?_
  · have hn : activeI sp (pricesI sp) n = [] := of_decide_eq_true hu
    refine hb_retE (xs := [([n], 1)]) (m_lst (r_cons (d_pair (d_tupR (r_cons (dv 2) r_nil) (by show 1 ≤ 100000; decide)) (d_gl hone)) r_nil) (by show 1 ≤ 100000; decide)) ⟨?_, rfl⟩
    show _ = scrI sp (d + 1) n
    unfold scrI
    rw [if_pos hn]
  have hn : activeI sp (pricesI sp) n ≠ [] := of_decide_eq_false hu
  let ac := activeI sp (pricesI sp) n
  let g : Int → List (List Int × Rat) := fun c => (scrI sp d c).map fun p => (n :: p.1, p.2 / ((ac.length : Nat) : Rat))
  have hscr : scrI sp (d + 1) n = ac.flatMap g := by
    show (if ac = [] then _ else _) = _
    rw [if_neg hn]
  have hpre : ∀ q c l, ac[q]? = some c → l ≤ (scrI sp d c).length → ((ac.take q).flatMap g ++ ((scrI sp d c).take l).map fun p => (n :: p.1, p.2 / ((ac.length : Nat) : Rat))).length ≤ 1000 := fun q c l hc hl => by
    have e : ac.flatMap g = (ac.take q).flatMap g ++ (g c ++ (ac.drop (q + 1)).flatMap g) := by
      conv => lhs; rw [← List.take_append_drop (q + 1) ac, take_succ_of hc]
      rw [List.flatMap_append, List.flatMap_append, List.append_assoc]
      simp
    have f2 := h.few2 (d + 1) n
    rw [hscr, e, List.length_append, List.length_append] at f2
    rw [List.length_append, List.length_map, List.length_take]
    have : (g c).length = (scrI sp d c).length := List.length_map _
    omega
  have hap : 1 ≤ ac.length := List.length_pos_iff.mpr hn
  have hal' : ac.length ≤ 16 := hal
  refine st_ ok (s := .mu rSc []) 4 (x_m (m_lst r_nil (Nat.zero_le _))) ?_
  refine hb_forJ (τ := Slot K × Slot K × Slot K) ok (fun q t => [.im rSps sp, .im (rTup rQ) (pricesI sp), .im rInt n, .im (rTup rInt) ac, .mu rSc ((ac.take q).flatMap g), t.1, t.2.1, t.2.2]) (fun _ => j) (f_tup (dv 3)) (tg_name 5 ok.nd rfl (.inl rfl)) ⟨(.un, .un, .un), rfl⟩ rfl (fun q c t hc => ?_) fun t => hb_retM 4 rfl rfl (.inl rfl) ⟨by rw [List.take_length]; exact hscr.symm, rfl⟩
  obtain ⟨c0, c1⟩ := hk.lt n c h0 h1 (active_kid (mem_of_get hc))
  have c2 : c < ((sp.length : Nat) : Int) := by omega
  have c3 : c < ((d : Nat) : Int) := by omega
  refine hb_forJ (τ := Slot K × Slot K) ok (fun l t => [.im rSps sp, .im (rTup rQ) (pricesI sp), .im rInt n, .im (rTup rInt) ac, .mu rSc ((ac.take q).flatMap g ++ ((scrI sp d c).take l).map fun p => (n :: p.1, p.2 / ((ac.length : Nat) : Rat))), .im rInt c, t.1, t.2]) (fun _ => j) (f_lst (A := rSc) (m_call h57 hr ok.gd (sp, c) ⟨h, c0, c2, c3⟩ ht (a_im (dv 0) (a_im (dv 1) (a_im (dv 5) a_nil)))).toD.toS) (tg_pair 6 7 rfl ok.nd rfl rfl (.inl rfl) (.inl rfl)) ⟨(t.2.1, t.2.2), by rw [List.take_zero, List.map_nil, List.append_nil]; rfl⟩ rfl (fun l p t hp => ?_) fun t => ?_
  · obtain ⟨p1, p2⟩ := p
    have hp : (scrI sp d c)[l]? = some (p1, p2) := hp
    have hl := (List.getElem?_eq_some_iff.mp hp).1
    obtain ⟨s1, s2⟩ := scr_ok hk d c c0 c2 _ (mem_of_get hp)
    have s1 : Ok d 1 p2 := s1
    have s2 : p1.length ≤ d := s2
    have hz := hpre q c l hc (Nat.le_of_lt hl)
    refine hb_append 4 rfl rfl (.inl rfl) (x := (n :: p1, p2 / ((ac.length : Nat) : Rat))) (d_pair (d_catT (xs := [n]) (ys := p1) (d_tupR (r_cons (dv 2) r_nil) (by show 1 ≤ 100000; decide)) (dv 6) (by show 1 + p1.length ≤ 100000; omega)) (d_call h18 hr ok.gd (p2, ((ac.length : Nat) : Rat)) ⟨ok_sz s1 (by omega) (by decide), ok_sz (nat_ok 0 ac.length hal') (by decide) (by decide), by rw [Rat.num_natCast]; omega⟩ ht (a_im (dv 7) (a_im (d_natQ (d_lenT ok (dv 3)) d_int rfl) a_nil)))) (by omega) (hb_nil ⟨⟨(.im (rTup rInt) p1, .im rQ p2), ?_⟩, rfl⟩)
    rw [take_succ_of hp, List.map_append, ← List.append_assoc]
    rfl
  · refine hb_nil ⟨⟨(.im rInt c, t.1, t.2), ?_⟩, rfl⟩
    have e : [c].flatMap g = g c := by simp
    rw [List.take_length, take_succ_of hc, List.flatMap_append, e]
    rfl
/-- by induction: scripts_from calls itself for numbers that go down -/
theorem ok57 {f57 : Addr} {fd57 : FuncData} (hblt : ∀ n ∈ bltNames, mg n = none) (hone : Glob (K := K) mg "ONE" rQ 1) (h18 : Has Pg w K mg base lev "divided" ["one", "two"] (S_bin (K := K) T rQ SzD (· / ·))) (h47 : Has Pg w K mg base lev "active_in" ["spans", "prices", "number"] (S47 (K := K) T)) (F : FnP K "scripts_from" (top 57) f57 fd57) (hm : mg "scripts_from" = some (.ref f57)) (hb : Binds K fd57 ["spans", "prices", "number"] []) : ∀ d, d ≤ 60 → FnG Pg w K mg base (lev + d + 1) f57 fd57 ["spans", "prices", "number"] (S57 (K := K) T d)
  | 0, _ => by
    refine ⟨fun vs H Q E ⟨i, k, w, _, _, _, ha, _⟩ => argsOk_len ha, fun Ar outer s H args us vs Q E _ _ _ _ _ h => ?_⟩
    obtain ⟨i, k, w, _, _, _, _, ⟨_, h0, _, h1⟩, _⟩ := h
    omega
  | d + 1, hd => by
    have ih := ok57 hblt hone h18 h47 F hm hb d (by omega)
    have up : ∀ {x ps sp}, Has Pg w K mg base lev x ps sp → Has Pg w K mg base (lev + d + 1) x ps sp := fun h => by
      obtain ⟨f, fd, a, b, c, e⟩ := h.ex
      exact ⟨f, fd, a.mono (by omega), b, c, e⟩
    exact ok57s hblt d (by omega) hone (up h18) (up h47) (has_of F ih hm hb (Nat.le_refl _)) F
abbrev S58 {K : PySem.W.Frag} (T : Tbs) : Sp := SpD (K := K) T (fun i : Int × List (List Int) => [.im rBk i]) (fun i _ => Nest i.1 i.2 ∧ ScrOk i.2) (rTup rSc) (fun i j => (scrI i.2 41 (dearI i.2), j))
theorem dear_at {sp : List (List Int)} (h : KidsOk sp) : dearI sp ∈ topsI sp := (List.mem_filter.mp (mem_of_get (dear_ne h))).1
theorem ok58 (hblt : ∀ n ∈ bltNames, mg n = none) (h42 : Has Pg w K mg base lev "made_nest" ["thing"] (S42 (K := K) T)) (h46 : Has Pg w K mg base lev "prices_in" ["spans"] (S46 (K := K) T)) (h51 : Has Pg w K mg base lev "dear_in" ["spans"] (S51 (K := K) T)) (h57 : Has Pg w K mg base lev "scripts_from" ["spans", "prices", "number"] (S57 (K := K) T 41)) (F : FnP K "scripts" (top 58) fa fd) : FnG Pg w K mg base (lev + 1) fa fd ["nest"] (S58 (K := K) T) := by
  refine def_ok F (N := ["nest", "spans"]) ⟨rfl, rfl, rfl, by decide +kernel, rfl, by decide +kernel, by decide +kernel⟩ (fun _ => rfl) (by decide) hblt fun cdv Ar outer s0 H E hcd ok hr i k w0 j ht ⟨h, hs⟩ => ?_
  obtain ⟨n, sp⟩ := i
  have hs : ScrOk sp := hs
  have hk := hs.toKidsOk
  have hd := tops_at (dear_at hk)
  have hl := hk.len
  refine st_ ok 1 (x_d (d_snd (d_call h42 hr ok.gd (n, sp) h ht (a_im (dv 0) a_nil)))) ?_
  exact hb_ret (d_tupB ok (m_call h57 hr ok.gd (sp, dearI sp) ⟨hs, hd.1, hd.2, by show dearI sp < 41; omega⟩ ht (a_im (dv 1) (a_im (d_call h46 hr ok.gd sp hk ht (a_im (dv 1) a_nil)) (a_im (d_call h51 hr ok.gd sp hk ht (a_im (dv 1) a_nil)) a_nil)))).toB) ⟨rfl, rfl⟩
end
end Fm
set_option maxHeartbeats 1000000
namespace Fm
open PySem PySem.Spec PyProof.Rows L2
open PySem.W (alike alikeAll dataLt Sortable)
open Rq (Sz Ok)
/-! ### the jar, plainly -/
def bigI (c : Int) : Int := max c (-1 - c)
def poolI (sc : List Int) (k : Int) : Int × Int :=
  let c := if k < ((sc.length : Nat) : Int) then sc.getD k.toNat 0 else if sc = [] then 0 else sc.headD 0
  (bigI c * (if decide (10 ^ 18 ≤ bigI c) && decide (k < ((sc.length : Nat) : Int)) then 1 else 0), ((bigI c % 2147483629 + 7919 * k * k + 31 * k + 17) * 48271) % 2147483647)
def takeI (j : Int × Int) (t : Int) : Int × (Int × Int) :=
  if 0 < j.1 then (j.1 % t, (j.1 / t, j.2)) else
    let m := (j.2 * 39373 + 7) % 2147483647
    ((m * m) % 2147483629 / 32 % t, (j.1, m))
def JOk (j : Int × Int) : Prop := 0 ≤ j.2 ∧ j.2 < 2147483647
theorem take_ok {j : Int × Int} {t : Int} (h : JOk j) (ht : 0 < t) : JOk (takeI j t).2 ∧ 0 ≤ (takeI j t).1 ∧ (takeI j t).1 < t := by
  unfold takeI
  split
  · exact ⟨h, Int.emod_nonneg _ (by omega), Int.emod_lt_of_pos _ ht⟩
  · exact ⟨⟨Int.emod_nonneg _ (by omega), Int.emod_lt_of_pos _ (by omega)⟩, Int.emod_nonneg _ (by omega), Int.emod_lt_of_pos _ ht⟩
theorem pool_ok (sc : List Int) (k : Int) : JOk (poolI sc k) := ⟨Int.emod_nonneg _ (by omega), Int.emod_lt_of_pos _ (by omega)⟩
theorem log_int {m : Int} {b : Nat} (h : m.natAbs < 2 ^ b) : m.natAbs.log2 ≤ b := log2_le h
section
variable {Pg : Program} {w : World} {K : PySem.W.Frag} {mg : Str → Option Value} {base : Heap} {fa : Addr} {fd : FuncData} {T : Tbs} {lev : Nat}
theorem d_mulS {X : Cx} {k : Kx} {w0 : Wd} {Γ : List (Slot X.K)} {j j1 j2 : Int × Int} {a b : Expr} {pos : Pos} {m n : Int} (hc : CMul m n) (ha : EvD X k w0 Γ j a rInt m j1) (hb : EvD X k w0 Γ j1 b rInt n j2) : EvD X k w0 Γ j (.BinOp a .Mult b pos) rInt (m * n) j2 := d_op op_mul (rd_I hc fun _ => rfl) ha hb
abbrev S60 {K : PySem.W.Frag} (T : Tbs) : Sp := SpM (K := K) T (fun i : List Int × Int => [.bo rInt i.1, .im rInt i.2]) (fun i _ => 0 ≤ i.2 ∧ i.2 ≤ 1000) rInt (fun i j => ([(poolI i.1 i.2).1, (poolI i.1 i.2).2], j))
theorem ok60 (hblt : ∀ n ∈ bltNames, mg n = none) (F : FnP K "_law_pool" (top 60) fa fd) : FnG Pg w K mg base (lev + 1) fa fd ["script", "k"] (S60 (K := K) T) := by
  refine def_okM F (N := ["script", "k", "cell", "big", "mixed"]) ⟨rfl, rfl, rfl, by decide +kernel, rfl, by decide +kernel, by decide +kernel⟩ (fun _ => rfl) (by decide) hblt fun cdv Ar outer s0 H E hcd ok hr i k w0 j ht ⟨h0, h1⟩ => ?_
  obtain ⟨sc, n⟩ := i
  have h0 : 0 ≤ n := h0
  have h1 : n ≤ 1000 := h1
  let c := if n < ((sc.length : Nat) : Int) then sc.getD n.toNat 0 else if sc = [] then 0 else sc.headD 0
  refine st_ ok (s := .im rInt 0) 2 (x_d d_int) ?_
  refine hb_if2 (Γ1 := [.bo rInt sc, .im rInt n, .im rInt c, .un, .un]) (j2 := j) (t_c (d_lt (dv 1) (d_lenB ok (bb 0)))) (fun hu => ?_) (fun hu => ?_) ?_
  · have hu : n < ((sc.length : Nat) : Int) := of_decide_eq_true hu
    refine st_ ok 2 (x_d (d_ixB (A := rInt) (xs := sc) (bb 0) (dv 1) h0 (getD_of (xs := sc) (d := 0) (by omega)))) (hb_nil ⟨?_, rfl⟩)
    show _ = [Slot.bo rInt sc, .im rInt n, .im rInt (if n < ((sc.length : Nat) : Int) then sc.getD n.toNat 0 else if sc = [] then 0 else sc.headD 0), .un, .un]
    rw [if_pos hu]
    rfl
  · have hu : ¬ n < ((sc.length : Nat) : Int) := of_decide_eq_false hu
    refine hb_if2 (Γ1 := [.bo rInt sc, .im rInt n, .im rInt c, .un, .un]) (j2 := j) (t_c (d_neB (hu64 ok) RD.int (by decide) (bb 0) (m_lst r_nil (Nat.zero_le _)).toB)) (fun hv => ?_) (fun hv => ?_) (hb_nil ⟨rfl, rfl⟩)
    · have hv : sc ≠ [] := by simpa using hv
      have e : sc[0]? = some (sc.headD 0) := by
        cases sc with
        | nil => exact absurd rfl hv
        | cons x xs => rfl
      refine st_ ok 2 (x_d (d_ix0 (i := 0) (bb 0) e)) (hb_nil ⟨?_, rfl⟩)
      show _ = [Slot.bo rInt sc, .im rInt n, .im rInt (if n < ((sc.length : Nat) : Int) then sc.getD n.toNat 0 else if sc = [] then 0 else sc.headD 0), .un, .un]
      rw [if_neg hu, if_neg hv]
      rfl
    · have hv : sc = [] := by simpa using hv
      refine hb_nil ⟨?_, rfl⟩
      show _ = [Slot.bo rInt sc, .im rInt n, .im rInt (if n < ((sc.length : Nat) : Int) then sc.getD n.toNat 0 else if sc = [] then 0 else sc.headD 0), .un, .un]
      rw [if_neg hu, if_pos hv]
      rfl
  have hc : ∀ {m : Int}, -1000000 ≤ m → m ≤ 1000000 → ∀ x : Int, CMul x m := fun a b x => .inr ⟨by omega, by omega⟩
  refine st_ ok (s := .im rInt (bigI c)) 3 (x_d (d_max2 ok (d_intI ok (dv 2)) (d_intI ok (d_sub (d_neg d_int) (dv 2))))) ?_
  refine st_ ok 4 (x_d (d_mod (by decide) (d_intI ok (d_mulS (hc (m := 48271) (by decide) (by decide) _) (d_add (d_add (d_add (d_mod (by decide) (d_intI ok (dv 3)) d_int) (d_mulS (hc (m := n) (by omega) (by omega) _) (d_mulS (hc (m := n) (by omega) (by omega) _) d_int (dv 1)) (dv 1))) (d_mulS (hc (m := n) (by omega) (by omega) _) d_int (dv 1))) d_int) d_int)) d_int)) ?_
  refine hb_retE (m_lst (r_cons (d_mulS ?_ (dv 3) (d_intB ok (d_and (d_ge (dv 3) (d_pow ⟨by decide, by decide, by decide⟩ d_int d_int)) fun _ => d_one (d_lt (dv 1) (d_lenB ok (bb 0)))))) (r_cons (dv 4) r_nil)) (by show 2 ≤ 100000; decide)) ⟨?_, rfl⟩
  · refine hc ?_ ?_ _
    · split <;> decide
    · split <;> decide
  · rfl
abbrev S61 {K : PySem.W.Frag} (T : Tbs) : Sp := SpD (K := K) T (fun i : Int => [.ja, .im rInt i]) (fun i j => 0 < i ∧ i ≤ 100000 ∧ JOk j) rInt (fun i j => takeI j i)
theorem ok61 (hblt : ∀ n ∈ bltNames, mg n = none) (F : FnP K "_law_take" (top 61) fa fd) : FnG Pg w K mg base (lev + 1) fa fd ["jar", "top"] (S61 (K := K) T) := by
  refine def_ok F (N := ["jar", "top", "drawn"]) ⟨rfl, rfl, rfl, by decide +kernel, rfl, by decide +kernel, by decide +kernel⟩ (fun _ => rfl) (by decide) hblt fun cdv Ar outer s0 H E hcd ok hr i k w0 j ht ⟨h0, h1, h2, h3⟩ => ?_
  have hdv : ∀ m, CDivW m i := fun m => ⟨h0, by
    have : i.natAbs < 2 ^ 20 := by omega
    have := log2_le this
    omega⟩
  refine hb_ifO (t_c (d_gt (d_jar0 0 rfl rfl (.inl rfl)) d_int)) (fun hu => ?_) (fun hu => ?_)
  · have hu : 0 < j.1 := of_decide_eq_true hu
    refine st_ ok 2 (x_d (d_mod h0 (d_intI ok (d_jar0 0 rfl rfl (.inl rfl))) (dv 1))) ?_
    refine hb_jar0 0 rfl rfl (.inl rfl) (d_fdiv (hdv _) (d_jar0 0 rfl rfl (.inl rfl)) (dv 1)) ?_
    refine hb_ret (dv 2) ?_
    show j.1 % i = (takeI j i).1 ∧ (j.1 / i, j.2) = (takeI j i).2
    unfold takeI
    rw [if_pos hu]
    exact ⟨rfl, rfl⟩
  · have hu : ¬ 0 < j.1 := of_decide_eq_false hu
    refine hb_jar1 0 rfl rfl (.inl rfl) (d_mod (by decide) (d_intI ok (d_add (d_mulS (.inr ⟨by decide, by decide⟩) (d_jar1 0 rfl rfl (.inl rfl)) d_int) d_int)) d_int) ?_
    have hm : 0 ≤ (j.2 * 39373 + 7) % 2147483647 ∧ (j.2 * 39373 + 7) % 2147483647 < 2147483647 := ⟨Int.emod_nonneg _ (by omega), Int.emod_lt_of_pos _ (by omega)⟩
    refine hb_ret (d_mod h0 (d_intI ok (d_fdiv ⟨by decide, by decide⟩ (d_mod (by decide) (d_intI ok (d_mulS (.inr ⟨by omega, by omega⟩) (d_jar1 0 rfl rfl (.inl rfl)) (d_jar1 0 rfl rfl (.inl rfl)))) d_int) d_int)) (dv 1)) ?_
    show _ = (takeI j i).1 ∧ _ = (takeI j i).2
    unfold takeI
    rw [if_neg hu]
    exact ⟨rfl, rfl⟩
end
end Fm
set_option maxHeartbeats 1000000
namespace Fm
open PySem PySem.Spec PyProof.Rows L2
open PySem.W (alike alikeAll dataLt Sortable)
open Rq (Sz Ok)
/-- a thing drawn -/
def oneI {α : Type} (d : α) (j : Int × Int) (xs : List α) : α × (Int × Int) := (xs.getD (takeI j ((xs.length : Nat) : Int)).1.toNat d, (takeI j ((xs.length : Nat) : Int)).2)
theorem one_at {α : Type} {d : α} {j : Int × Int} {xs : List α} (h : JOk j) (hx : xs ≠ []) : xs[(takeI j ((xs.length : Nat) : Int)).1.toNat]? = some (oneI d j xs).1 ∧ 0 ≤ (takeI j ((xs.length : Nat) : Int)).1 := by
  have hl : 0 < xs.length := List.length_pos_iff.mpr hx
  have := take_ok h (t := ((xs.length : Nat) : Int)) (by omega)
  exact ⟨getD_of (by omega), this.2.1⟩
/-- things in a drawn order -/
def mixK : Nat → Int × Int → List Int → List Int → List Int × (Int × Int)
  | 0, j, _, found => (found, j)
  | n + 1, j, left, found =>
    let t := takeI j ((left.length : Nat) : Int)
    mixK n t.2 (left.eraseIdx t.1.toNat) (found ++ [left.getD t.1.toNat 0])
def mixI (j : Int × Int) (xs : List Int) : List Int × (Int × Int) := mixK xs.length j xs []
/-- after some turns: what is left, what is found, the jar -/
def mixS : Nat → Int × Int → List Int → List Int → List Int × List Int × (Int × Int)
  | 0, j, left, found => (left, found, j)
  | n + 1, j, left, found =>
    let r := mixS n j left found
    let t := takeI r.2.2 ((r.1.length : Nat) : Int)
    (r.1.eraseIdx t.1.toNat, r.2.1 ++ [r.1.getD t.1.toNat 0], t.2)
theorem mixK_S : ∀ (n m : Nat) (j : Int × Int) (left found : List Int), mixK n (mixS m j left found).2.2 (mixS m j left found).1 (mixS m j left found).2.1 = ((mixS (m + n) j left found).2.1, (mixS (m + n) j left found).2.2)
  | 0, m, j, left, found => rfl
  | n + 1, m, j, left, found => by
    have := mixK_S n (m + 1) j left found
    rw [show m + (n + 1) = m + 1 + n by omega, ← this]
    rfl
theorem mixI_S (j : Int × Int) (xs : List Int) : mixI j xs = ((mixS xs.length j xs []).2.1, (mixS xs.length j xs []).2.2) := by
  have := mixK_S xs.length 0 j xs []
  rw [Nat.zero_add] at this
  exact this
theorem perm_erase {α : Type} : ∀ (xs : List α) (i : Nat) (h : i < xs.length), (xs[i] :: xs.eraseIdx i).Perm xs
  | x :: xs, 0, _ => List.Perm.refl _
  | x :: xs, i + 1, h => (List.Perm.swap x _ _).trans ((perm_erase xs i (by simpa using h)).cons x)
theorem mixS_ok {j : Int × Int} {xs : List Int} (h : JOk j) : ∀ n, n ≤ xs.length → JOk (mixS n j xs []).2.2 ∧ (mixS n j xs []).1.length = xs.length - n ∧ (mixS n j xs []).2.1.length = n ∧ ((mixS n j xs []).2.1 ++ (mixS n j xs []).1).Perm xs
  | 0, _ => ⟨h, rfl, rfl, List.Perm.refl _⟩
  | n + 1, hn => by
    obtain ⟨a, b, c, p⟩ := mixS_ok (xs := xs) h n (by omega)
    have t := take_ok a (t := (((mixS n j xs []).1.length : Nat) : Int)) (by omega)
    show JOk (takeI (mixS n j xs []).2.2 (((mixS n j xs []).1.length : Nat) : Int)).2 ∧ ((mixS n j xs []).1.eraseIdx _).length = _ ∧ ((mixS n j xs []).2.1 ++ [_]).length = _ ∧ (((mixS n j xs []).2.1 ++ [_]) ++ ((mixS n j xs []).1.eraseIdx _)).Perm xs
    have hlt : (takeI (mixS n j xs []).2.2 (((mixS n j xs []).1.length : Nat) : Int)).1.toNat < (mixS n j xs []).1.length := by omega
    refine ⟨t.1, ?_, ?_, ?_⟩
    · rw [List.length_eraseIdx_of_lt hlt]
      omega
    · rw [List.length_append, c]
      rfl
    · refine List.Perm.trans ?_ p
      rw [List.append_assoc]
      refine List.Perm.append_left _ ?_
      rw [List.singleton_append, List.getD_eq_getElem?_getD, List.getElem?_eq_getElem hlt]
      exact perm_erase _ _ hlt
section
variable {Pg : Program} {w : World} {K : PySem.W.Frag} {mg : Str → Option Value} {base : Heap} {fa : Addr} {fd : FuncData} {T : Tbs} {lev : Nat}
abbrev S62s {K : PySem.W.Frag} (T : Tbs) : Sp := SpD (K := K) T (fun i : List Int => [.ja, .im rSpn i]) (fun i j => i ≠ [] ∧ i.length ≤ 100000 ∧ JOk j) rInt (fun i j => oneI 0 j i)
theorem ok62s (hblt : ∀ n ∈ bltNames, mg n = none) (h61 : Has Pg w K mg base lev "_law_take" ["jar", "top"] (S61 (K := K) T)) (F : FnP K "_law_one" (top 62) fa fd) : FnG Pg w K mg base (lev + 1) fa fd ["jar", "things"] (S62s (K := K) T) := by
  refine def_ok F (N := ["jar", "things"]) ⟨rfl, rfl, rfl, by decide +kernel, rfl, by decide +kernel, by decide +kernel⟩ (fun _ => rfl) (by decide) hblt fun cdv Ar outer s0 H E hcd ok hr i k w0 j ht ⟨h0, h1, h2⟩ => ?_
  have hl : 0 < i.length := List.length_pos_iff.mpr h0
  obtain ⟨e1, e2⟩ := one_at (d := 0) h2 h0
  exact hb_ret (d_ixT (dv 1) (d_call h61 hr ok.gd ((i.length : Nat) : Int) ⟨by omega, by omega, h2⟩ ht (a_ja 0 rfl rfl (.inl rfl) (a_im (d_lenT ok (dv 1)) a_nil))) e2 e1) ⟨rfl, rfl⟩
abbrev S62l {K : PySem.W.Frag} (T : Tbs) : Sp := SpD (K := K) T (fun i : List (List Int) => [.ja, .bo (rLst rInt) i]) (fun i j => i ≠ [] ∧ i.length ≤ 100000 ∧ JOk j) (rLst rInt) (fun i j => oneI [] j i)
theorem ok62l (hblt : ∀ n ∈ bltNames, mg n = none) (h61 : Has Pg w K mg base lev "_law_take" ["jar", "top"] (S61 (K := K) T)) (F : FnP K "_law_one" (top 62) fa fd) : FnG Pg w K mg base (lev + 1) fa fd ["jar", "things"] (S62l (K := K) T) := by
  refine def_ok F (N := ["jar", "things"]) ⟨rfl, rfl, rfl, by decide +kernel, rfl, by decide +kernel, by decide +kernel⟩ (fun _ => rfl) (by decide) hblt fun cdv Ar outer s0 H E hcd ok hr i k w0 j ht ⟨h0, h1, h2⟩ => ?_
  have hl : 0 < i.length := List.length_pos_iff.mpr h0
  obtain ⟨e1, e2⟩ := one_at (d := []) h2 h0
  exact hb_ret (d_ixB (bb 1) (d_call h61 hr ok.gd ((i.length : Nat) : Int) ⟨by omega, by omega, h2⟩ ht (a_ja 0 rfl rfl (.inl rfl) (a_im (d_lenB ok (bb 1)) a_nil))) e2 e1) ⟨rfl, rfl⟩
abbrev S63 {K : PySem.W.Frag} (T : Tbs) : Sp := SpM (K := K) T (fun i : List Int => [.ja, .bo rInt i]) (fun i j => i.length ≤ 1000 ∧ JOk j) rInt (fun i j => mixI j i)
theorem ok63 (hblt : ∀ n ∈ bltNames, mg n = none) (h61 : Has Pg w K mg base lev "_law_take" ["jar", "top"] (S61 (K := K) T)) (F : FnP K "_law_mixed" (top 63) fa fd) : FnG Pg w K mg base (lev + 1) fa fd ["jar", "things"] (S63 (K := K) T) := by
  refine def_okM F (N := ["jar", "things", "left_over", "found", "place"]) ⟨rfl, rfl, rfl, by decide +kernel, rfl, by decide +kernel, by decide +kernel⟩ (fun _ => rfl) (by decide) hblt fun cdv Ar outer s0 H E hcd ok hr i k w0 j ht ⟨h0, h1⟩ => ?_
  refine hb_par ok 2 3 (s := .mu rInt i) (s1 := .mu rInt []) rfl rfl rfl rfl (by decide) (x_m (m_listB ok (bb 1))) (x_m (m_lst r_nil (Nat.zero_le _))) ?_
  refine hb_forJ (τ := Slot K) ok (fun n t => [.ja, .bo rInt i, .mu rInt (mixS n j i []).1, .mu rInt (mixS n j i []).2.1, t]) (fun n => (mixS n j i []).2.2) (rg1 ok (d_lenB ok (bb 1)) (by omega)) (tg_name 4 ok.nd rfl (.inl rfl)) ⟨.un, rfl⟩ rfl (fun n x t hx => ?_) fun t => ?_
  · have hn : n < i.length := by
      have := (List.getElem?_eq_some_iff.mp hx).1
      rw [rangeI_len] at this
      omega
    obtain ⟨a, b, c, p⟩ := mixS_ok h1 n (Nat.le_of_lt hn)
    have t' := take_ok a (t := (((mixS n j i []).1.length : Nat) : Int)) (by omega)
    exact hb_appendPop 3 2 (by decide) rfl rfl rfl (.inl rfl) rfl (.inl rfl) (d_call h61 hr ok.gd (((mixS n j i []).1.length : Nat) : Int) ⟨by omega, by omega, a⟩ ht (a_ja 0 rfl rfl (.inl rfl) (a_im (d_lenB ok (bm 2)) a_nil))) t'.2.1 (getD_of (d := 0) (by omega)) (by omega) (by omega) (hb_nil ⟨⟨.im rInt x, rfl⟩, rfl⟩)
  · refine hb_retM 3 rfl rfl (.inl rfl) ⟨?_, ?_⟩
    · rw [rangeI_len, Int.sub_zero, Int.toNat_natCast]
      exact (congrArg Prod.fst (mixI_S j i)).symm
    · rw [rangeI_len, Int.sub_zero, Int.toNat_natCast]
      exact (congrArg Prod.snd (mixI_S j i)).symm
theorem ok64 (hblt : ∀ n ∈ bltNames, mg n = none) (F : FnP K "_law_is_number" (top 64) fa fd) : FnG Pg w K mg base (lev + 1) fa fd ["thing"] (S9 (K := K) T) := by
  refine def_ok F (N := ["thing"]) ⟨rfl, rfl, rfl, by decide +kernel, rfl, by decide +kernel, by decide +kernel⟩ (fun _ => rfl) (by decide) hblt fun cdv Ar outer s H E hcd ok hr i k w0 j ht h => ?_
  exact hb_ret (d_and (d_isInt ok (dv 0)) fun _ => d_one (d_not (d_isBool ok (dv 0)))) ⟨rfl, rfl⟩
abbrev S65 {K : PySem.W.Frag} (T : Tbs) : Sp := SpD (K := K) T (fun i : Int × Int => [.im rInt i.1, .im rInt i.2]) (fun i _ => 0 ≤ i.1 ∧ 0 ≤ i.2) rInt (fun i j => (((Nat.gcd i.1.natAbs i.2.natAbs : Nat) : Int), j))
theorem ok65 (hblt : ∀ n ∈ bltNames, mg n = none) (F : FnP K "_law_gcd" (top 65) fa fd) : FnG Pg w K mg base (lev + 1) fa fd ["a", "b"] (S65 (K := K) T) := by
  refine def_ok F (N := ["a", "b"]) ⟨rfl, rfl, rfl, by decide +kernel, rfl, by decide +kernel, by decide +kernel⟩ (fun _ => rfl) (by decide) hblt fun cdv Ar outer s H E hcd ok hr i k w0 j ht ⟨h0, h1⟩ => ?_
  refine hb_while ok (fun m Γ' j' => ∃ a b : Int, Γ' = [.im rInt a, .im rInt b] ∧ j' = j ∧ 0 ≤ a ∧ 0 ≤ b ∧ b.toNat = m ∧ Nat.gcd a.natAbs b.natAbs = Nat.gcd i.1.natAbs i.2.natAbs) (m0 := i.2.toNat) ⟨i.1, i.2, rfl, rfl, h0, h1, rfl, rfl⟩ ?_
  rintro m Γ' j' ⟨a, b, rfl, rfl, ha, hb', rfl, hg⟩
  refine ⟨!decide (b = 0), j', t_c (d_neI (dv 1) d_int), fun hu => ?_, fun hu => ?_⟩
  · have hb0 : b ≠ 0 := by simpa using hu
    refine hb_par ok 0 1 (s := .im rInt b) (s1 := .im rInt (a % b)) rfl rfl rfl rfl (by decide) (x_d (dv 1)) (x_d (d_mod (by omega) (d_intI ok (dv 0)) (dv 1))) (hb_nil ?_)
    have m1 := Int.emod_nonneg a hb0
    have m2 := Int.emod_lt_of_pos a (show 0 < b by omega)
    refine ⟨(a % b).toNat, by omega, b, a % b, rfl, rfl, hb', m1, rfl, ?_⟩
    rw [← hg]
    have e : (a % b).natAbs = a.natAbs % b.natAbs := by
      rw [Int.natAbs_emod_of_nonneg ha]
    rw [e, Nat.gcd_comm, ← Nat.gcd_rec, Nat.gcd_comm]
  · have hb0 : b = 0 := by simpa using hu
    refine hb_ret (dv 0) ⟨?_, rfl⟩
    subst hb0
    show a = _
    rw [← hg]
    simp
    omega
end
end Fm
set_option maxHeartbeats 1000000
/-! P1: the greatest over all lots is the greatest over the dearest ones. -/
namespace Fm
theorem sumQ_fold (xs : List Rat) : ∀ a : Rat, xs.foldl (· + ·) a = a + sumQ xs := by
  unfold sumQ
  induction xs with
  | nil => exact fun a => (Rat.add_zero a).symm
  | cons x xs ih =>
    intro a
    rw [List.foldl_cons, List.foldl_cons, ih, ih (0 + x)]
    grind
theorem sumQ_cons (x : Rat) (xs : List Rat) : sumQ (x :: xs) = x + sumQ xs := by
  show (x :: xs).foldl (· + ·) 0 = _
  rw [List.foldl_cons, sumQ_fold]
  grind
theorem sumQ_nil : sumQ [] = 0 := rfl
theorem sumQ_append (xs ys : List Rat) : sumQ (xs ++ ys) = sumQ xs + sumQ ys := by
  induction xs with
  | nil => rw [List.nil_append, sumQ_nil]; grind
  | cons x xs ih => rw [List.cons_append, sumQ_cons, sumQ_cons, ih]; grind
theorem sumQ_perm {xs ys : List Rat} (h : xs.Perm ys) : sumQ xs = sumQ ys := by
  induction h with
  | nil => rfl
  | cons x _ ih => rw [sumQ_cons, sumQ_cons, ih]
  | swap x y l => rw [sumQ_cons, sumQ_cons, sumQ_cons, sumQ_cons]; grind
  | trans _ _ h1 h2 => exact h1.trans h2
theorem gt2_l (a b : Rat) : a ≤ gt2 a b := by
  unfold gt2
  split
  · rename_i h
    have := of_decide_eq_true h
    grind
  · grind
theorem gt2_r (a b : Rat) : b ≤ gt2 a b := by
  unfold gt2
  split
  · grind
  · rename_i h
    have : ¬ a < b := fun z => h (decide_eq_true z)
    grind
theorem fold_ge (ys : List Rat) : ∀ a : Rat, a ≤ ys.foldl gt2 a ∧ ∀ y ∈ ys, y ≤ ys.foldl gt2 a := by
  induction ys with
  | nil => exact fun a => ⟨by show a ≤ a; grind, fun y h => (nomatch h)⟩
  | cons z ys ih =>
    intro a
    obtain ⟨h1, h2⟩ := ih (gt2 a z)
    have g1 := gt2_l a z
    have g2 := gt2_r a z
    refine ⟨by rw [List.foldl_cons]; grind, fun y hy => ?_⟩
    rw [List.foldl_cons]
    rcases List.mem_cons.mp hy with rfl | hy
    · grind
    · exact h2 y hy
theorem maxQ_ge {xs : List Rat} {x : Rat} (h : x ∈ xs) : x ≤ maxQ xs := (fold_ge xs _).2 x h
theorem maxQ_le {xs : List Rat} {b : Rat} (hn : xs ≠ []) (h : ∀ x ∈ xs, x ≤ b) : maxQ xs ≤ b := h _ (maxQ_mem hn)
theorem maxQ_eq {xs ys : List Rat} (hx : xs ≠ []) (hy : ys ≠ []) (h1 : ∀ x ∈ xs, ∃ y ∈ ys, x ≤ y) (h2 : ∀ y ∈ ys, ∃ x ∈ xs, y ≤ x) : maxQ xs = maxQ ys := by
  obtain ⟨y, hy', e1⟩ := h1 _ (maxQ_mem hx)
  obtain ⟨x, hx', e2⟩ := h2 _ (maxQ_mem hy)
  have := maxQ_ge hy'
  have := maxQ_ge hx'
  exact Rat.le_antisymm (by grind) (by grind)
/-! ### the falling order -/
theorem putQ_perm (acc : List Rat) (x : Rat) : (putQ acc x).Perm (x :: acc) := by
  unfold putQ
  have h : (acc.take (acc.filter fun o => !decide (o < x)).length ++ [x] ++ acc.drop (acc.filter fun o => !decide (o < x)).length).Perm ([x] ++ (acc.take (acc.filter fun o => !decide (o < x)).length ++ acc.drop (acc.filter fun o => !decide (o < x)).length)) := by
    rw [List.append_assoc, ← List.append_assoc [x]]
    refine List.Perm.trans ?_ (List.Perm.append_right _ List.perm_append_comm)
    rw [List.append_assoc]
  rw [List.take_append_drop] at h
  exact h
theorem fall_perm (xs : List Rat) : (fallQ xs).Perm xs := by
  suffices h : ∀ (ys acc : List Rat), (ys.foldl putQ acc).Perm (acc ++ ys) by
    have := h xs []
    rwa [List.nil_append] at this
  intro ys
  induction ys with
  | nil => intro acc; rw [List.append_nil]; exact List.Perm.refl _
  | cons y ys ih =>
    intro acc
    rw [List.foldl_cons]
    refine (ih _).trans (((putQ_perm acc y).append_right ys).trans ?_)
    rw [List.cons_append]
    exact (List.perm_middle).symm
abbrev Desc (xs : List Rat) : Prop := xs.Pairwise fun a b => b ≤ a
/-- in a falling list those not less stand first -/
theorem desc_split {x : Rat} : ∀ {acc : List Rat}, Desc acc → (∀ y ∈ acc.take (acc.filter fun o => !decide (o < x)).length, x ≤ y) ∧ (∀ y ∈ acc.drop (acc.filter fun o => !decide (o < x)).length, y ≤ x)
  | [], _ => ⟨fun y h => (nomatch h), fun y h => (nomatch h)⟩
  | a :: acc, h => by
    obtain ⟨h1, h2⟩ := List.pairwise_cons.mp h
    obtain ⟨i1, i2⟩ := desc_split (x := x) h2
    by_cases c : a < x
    · have e : ((a :: acc).filter fun o => !decide (o < x)) = [] := by
        rw [List.filter_eq_nil_iff]
        intro b hb
        have : b ≤ a := by
          rcases List.mem_cons.mp hb with rfl | hb
          · grind
          · exact h1 b hb
        have : b < x := by grind
        simp [this]
      rw [e]
      refine ⟨fun y h => (nomatch h), fun y hy => ?_⟩
      have hy : y ∈ a :: acc := hy
      rcases List.mem_cons.mp hy with rfl | hy
      · grind
      · have := h1 y hy
        grind
    · rw [List.filter_cons_of_pos (by simp [c])]
      refine ⟨fun y hy => ?_, fun y hy => ?_⟩
      · rw [List.length_cons, List.take_succ_cons] at hy
        rcases List.mem_cons.mp hy with rfl | hy
        · grind
        · exact i1 y hy
      · rw [List.length_cons, List.drop_succ_cons] at hy
        exact i2 y hy
theorem putQ_desc {acc : List Rat} {x : Rat} (h : Desc acc) : Desc (putQ acc x) := by
  obtain ⟨h1, h2⟩ := desc_split (x := x) h
  have h3 : Desc (acc.take (acc.filter fun o => !decide (o < x)).length ++ acc.drop (acc.filter fun o => !decide (o < x)).length) := by
    rw [List.take_append_drop]
    exact h
  obtain ⟨g1, g2, g3⟩ := List.pairwise_append.mp h3
  unfold putQ
  rw [List.append_assoc]
  refine List.pairwise_append.mpr ⟨g1, List.pairwise_cons.mpr ⟨fun y hy => h2 y hy, g2⟩, fun a ha b hb => ?_⟩
  rcases List.mem_cons.mp hb with rfl | hb
  · exact h1 a ha
  · exact g3 a ha b hb
theorem fall_desc (xs : List Rat) : Desc (fallQ xs) := by
  suffices h : ∀ (ys acc : List Rat), Desc acc → Desc (ys.foldl putQ acc) from h xs [] List.Pairwise.nil
  intro ys
  induction ys with
  | nil => exact fun acc h => h
  | cons y ys ih => exact fun acc h => ih _ (putQ_desc h)
/-- a part of a falling list sums to no more than its head -/
theorem sub_sum {l s : List Rat} (h : l.Sublist s) (d : Desc s) : sumQ l ≤ sumQ (s.take l.length) := by
  induction h with
  | slnil => exact Rat.le_refl
  | @cons l s a hs ih =>
    obtain ⟨d1, d2⟩ := List.pairwise_cons.mp d
    have i := ih d2
    cases l with
    | nil => simpa using i
    | cons b l =>
      rw [List.length_cons] at i ⊢
      rw [List.take_succ_cons, sumQ_cons a]
      have hl : l.length < s.length := by
        have := hs.length_le
        rw [List.length_cons] at this
        omega
      rw [List.take_succ_eq_append_getElem hl, sumQ_append, sumQ_cons s[l.length], sumQ_nil] at i
      have g : ∀ p q r t : Rat, p ≤ q + (r + 0) → r ≤ t → p ≤ t + q := by
        intro p q r t h1 h2
        grind
      exact g _ _ _ _ i (d1 _ (List.getElem_mem hl))
  | @cons_cons l s a hs ih =>
    obtain ⟨d1, d2⟩ := List.pairwise_cons.mp d
    have i := ih d2
    rw [List.length_cons, List.take_succ_cons, sumQ_cons, sumQ_cons]
    grind
/-! ### lots -/
def lotsAll (xs : List Int) : List (List Int) := xs.foldl (fun found t => found ++ found.map fun l => l ++ [t]) [[]]
def lotsI (xs : List Int) : List (List Int) := (lotsAll xs).filter fun l => !decide (l = [])
theorem lotsAll_mem (xs : List Int) (l : List Int) : l ∈ lotsAll xs ↔ l.Sublist xs := by
  suffices h : ∀ (ys : List Int) (pre : List Int) (fd : List (List Int)), (∀ l, l ∈ fd ↔ l.Sublist pre) → ∀ l, l ∈ ys.foldl (fun found t => found ++ found.map fun l => l ++ [t]) fd ↔ l.Sublist (pre ++ ys) by
    have := h xs [] [[]] (fun l => by simp) l
    rwa [List.nil_append] at this
  intro ys
  induction ys with
  | nil => intro pre fd h l; rw [List.append_nil]; exact h l
  | cons y ys ih =>
    intro pre fd h l
    rw [List.foldl_cons, show pre ++ y :: ys = (pre ++ [y]) ++ ys by simp]
    refine ih (pre ++ [y]) _ (fun l => ?_) l
    rw [List.mem_append, List.mem_map]
    constructor
    · rintro (h1 | ⟨l', h1, rfl⟩)
      · exact ((h l).mp h1).trans (List.sublist_append_left _ _)
      · exact ((h l').mp h1).append (List.Sublist.refl _)
    · intro hs
      obtain ⟨l1, l2, rfl, s1, s2⟩ := List.sublist_append_iff.mp hs
      have s3 : l2 = [] ∨ l2 = [y] := by
        cases s2 with
        | cons _ h => exact .inl (List.sublist_nil.mp h)
        | cons_cons _ h => exact .inr (by rw [List.sublist_nil.mp h])
      rcases s3 with rfl | rfl
      · rw [List.append_nil]
        exact .inl ((h l1).mpr s1)
      · exact .inr ⟨l1, (h l1).mpr s1, rfl⟩
theorem lotsI_mem {xs l : List Int} : l ∈ lotsI xs ↔ l.Sublist xs ∧ l ≠ [] := by
  unfold lotsI
  rw [List.mem_filter, lotsAll_mem]
  simp
def lotW (rows : Int → Rat) (lot : List Int) : Rat := sumQ (lot.map rows) / ((lot.length : Nat) : Rat) + (((lot.length - 1 : Nat) : Nat) : Rat) / ((lot.length : Nat) : Rat)
def lotPrice (rows : Int → Rat) (kids : List Int) : Rat := if lotsI kids = [] then 1 else maxQ ((lotsI kids).map (lotW rows))
theorem lotW_mean {rows : Int → Rat} {kids lot : List Int} {n : Nat} (hl : lot.length = n + 1) (hs : sumQ (lot.map rows) = sumQ ((fallQ (kids.map rows)).take (n + 1))) : lotW rows lot = meanQ (kids.map rows) n := by
  unfold lotW meanQ
  rw [hl, hs, Nat.add_sub_cancel, Rat.div_def, Rat.div_def, Rat.div_def, Rat.add_mul]
theorem lotPrice_eq (rows : Int → Rat) (kids : List Int) : lotPrice rows kids = if kids ≠ [] then levelQ (kids.map rows) else 1 := by
  unfold lotPrice
  by_cases hk : kids = []
  · subst hk
    rfl
  have hne : lotsI kids ≠ [] := by
    intro z
    have : kids ∈ lotsI kids := lotsI_mem.mpr ⟨List.Sublist.refl _, hk⟩
    rw [z] at this
    cases this
  rw [if_neg hne, if_pos hk]
  unfold levelQ
  have hlen : 0 < kids.length := List.length_pos_iff.mpr hk
  have hfl : (fallQ (kids.map rows)).length = kids.length := by rw [fall_len, List.length_map]
  refine maxQ_eq (fun z => hne (List.map_eq_nil_iff.mp z)) (fun z => ?_) ?_ ?_
  · have := congrArg List.length z
    rw [List.length_map, List.length_range, List.length_map] at this
    exact hk (List.eq_nil_of_length_eq_zero this)
  · intro x hx
    obtain ⟨lot, hl, rfl⟩ := List.mem_map.mp hx
    obtain ⟨s1, s2⟩ := lotsI_mem.mp hl
    obtain ⟨n, hn⟩ : ∃ n, lot.length = n + 1 := ⟨lot.length - 1, by have := List.length_pos_iff.mpr s2; omega⟩
    have hle := s1.length_le
    refine ⟨meanQ (kids.map rows) n, List.mem_map.mpr ⟨n, List.mem_range.mpr (by rw [List.length_map]; omega), rfl⟩, ?_⟩
    obtain ⟨l', p1, p2⟩ := List.exists_perm_sublist (s1.map rows) (fall_perm (kids.map rows)).symm
    have hs := sub_sum p2 (fall_desc _)
    have e : l'.length = n + 1 := by rw [p1.length_eq, List.length_map, hn]
    rw [e, sumQ_perm p1] at hs
    have hp : (0 : Rat) < ((n + 1 : Nat) : Rat) := by exact_mod_cast Nat.succ_pos n
    unfold lotW meanQ
    rw [hn, Nat.add_sub_cancel, Rat.div_def, Rat.div_def, Rat.div_def, ← Rat.add_mul]
    exact Rat.mul_le_mul_of_nonneg_right (by grind) (Rat.le_of_lt (Rat.inv_pos.mpr hp))
  · intro y hy
    obtain ⟨n, hn, rfl⟩ := List.mem_map.mp hy
    have hn := List.mem_range.mp hn
    rw [List.length_map] at hn
    obtain ⟨l', p1, p2⟩ := List.exists_perm_sublist (List.take_sublist (n + 1) (fallQ (kids.map rows))) (fall_perm (kids.map rows))
    obtain ⟨lot, hl, rfl⟩ := List.sublist_map_iff.mp p2
    have e : lot.length = n + 1 := by
      have := p1.length_eq
      rw [List.length_map, List.length_take, hfl] at this
      omega
    refine ⟨lotW rows lot, List.mem_map.mpr ⟨lot, lotsI_mem.mpr ⟨hl, fun z => by rw [z] at e; cases e⟩, rfl⟩, ?_⟩
    rw [lotW_mean e (sumQ_perm p1)]
    exact Rat.le_refl
end Fm
set_option maxHeartbeats 1000000
namespace Fm
open PySem PySem.Spec PyProof.Rows L2
open PySem.W (alike alikeAll dataLt Sortable)
open Rq (Sz Ok)
section
variable {Pg : Program} {w : World} {K : PySem.W.Frag} {mg : Str → Option Value} {base : Heap} {fa : Addr} {fd : FuncData} {T : Tbs} {lev : Nat}
theorem ok66 (hblt : ∀ n ∈ bltNames, mg n = none) (h65 : Has Pg w K mg base lev "_law_gcd" ["a", "b"] (S65 (K := K) T)) (F : FnP K "_law_frac" (top 66) fa fd) : FnG Pg w K mg base (lev + 1) fa fd ["p", "q"] (S14 (K := K) T) := by
  refine def_ok F (N := ["p", "q", "size"]) ⟨rfl, rfl, rfl, by decide +kernel, rfl, by decide +kernel, by decide +kernel⟩ (fun _ => rfl) (by decide) hblt fun cdv Ar outer s H E hcd ok hr i k w0 j ht hp => ?_
  obtain ⟨p, q⟩ := i
  have h1 : 0 < q := hp.1
  have h2 : q.natAbs < 2 ^ 8999 := hp.2
  refine hb_if (t_c (d_lt (dv 1) d_int)) (fun hu => ?_) fun _ => hb_nil ?_
  · have := of_decide_eq_true hu
    omega
  refine hb_ifO (t_c (d_eqI (dv 0) d_int)) (fun hu => ?_) fun hu => ?_
  · have h0 : p = 0 := of_decide_eq_true hu
    subst h0
    refine hb_ret ((d_pair d_int d_int).toQ (q := 0) rfl rfl) ⟨?_, rfl⟩
    exact (Rat.zero_divInt q).symm
  have h0 : p ≠ 0 := of_decide_eq_false hu
  have g1 := Rq.gcd_pos (p := p) h1
  have g2 := Rq.gcd_le (p := p) h1
  have ea : (max p (-p)).natAbs = p.natAbs := by omega
  refine st_ ok (s := .im rInt (((Nat.gcd p.natAbs q.natAbs : Nat)) : Int)) 2 (x_d (EvD.is2 (d_call h65 hr ok.gd (max p (-p), q) ⟨by show 0 ≤ max p (-p); omega, by show 0 ≤ q; omega⟩ ht (a_im (d_max2 ok (dv 0) (d_neg (dv 0))) (a_im (dv 1) a_nil))) (by show (((Nat.gcd (max p (-p)).natAbs q.natAbs : Nat)) : Int) = _; rw [ea]) rfl)) ?_
  have cd : ∀ m : Int, CDivW m ((Nat.gcd p.natAbs q.natAbs : Nat) : Int) := fun m => ⟨g1, by
    have : (Nat.gcd p.natAbs q.natAbs) < 2 ^ 8999 := Nat.lt_of_le_of_lt g2 h2
    have := log2_le this
    show (((Nat.gcd p.natAbs q.natAbs : Nat) : Int)).natAbs.log2 < 9000
    rw [Int.natAbs_natCast]
    omega⟩
  refine hb_ret (EvD.is2 (d_ifP (x1 := Rat.divInt p q) (x2 := Rat.divInt p q) (t_c (d_gt (dv 2) d_int)) (fun _ => (d_pair (d_fdiv (cd _) (dv 0) (dv 2)) (d_fdiv (cd _) (dv 1) (dv 2))).toQ (Rq.red_num h1) (Rq.red_den h1)) (fun hu => (d_pair (dv 0) (dv 1)).toQ ?_ ?_)) (by split <;> rfl) rfl) ⟨rfl, rfl⟩
  · have hu := of_decide_eq_false hu
    have e : ((Nat.gcd p.natAbs q.natAbs : Nat) : Int) = 1 := by omega
    rw [← Rq.red_num h1, e, Int.ediv_one]
  · have hu := of_decide_eq_false hu
    have e : ((Nat.gcd p.natAbs q.natAbs : Nat) : Int) = 1 := by omega
    rw [← Rq.red_den h1, e, Int.ediv_one]
theorem add_same {a b : Rat} (h : (a.den : Int) = b.den) : Rat.divInt (a.num + b.num) (a.den : Int) = a + b := by
  rw [← Rq.add_eq, ← h, ← Int.add_mul]
  have := den_pos' a
  exact (Rat.divInt_mul_right (by omega)).symm
theorem ok67 (hblt : ∀ n ∈ bltNames, mg n = none) (h66 : Has Pg w K mg base lev "_law_frac" ["p", "q"] (S14 (K := K) T)) (F : FnP K "_law_plus" (top 67) fa fd) : FnG Pg w K mg base (lev + 1) fa fd ["one", "two"] (S_bin (K := K) T rQ (Sz2 4000) (· + ·)) := by
  refine def_ok F (N := ["one", "two"]) ⟨rfl, rfl, rfl, by decide +kernel, rfl, by decide +kernel, by decide +kernel⟩ (fun _ => rfl) (Nat.le_refl _) hblt fun cdv Ar outer s H E hcd ok hr i k w0 j ht hp => ?_
  obtain ⟨h1, h2⟩ := hp
  refine hb_ifO (t_c (d_eqI (d_snd (dv 0).pq) (d_snd (dv 1).pq))) (fun hu => ?_) fun hu => ?_
  · have hu : (i.1.den : Int) = i.2.den := of_decide_eq_true hu
    refine hb_ret ((d_call h66 hr ok.gd (i.1.num + i.2.num, (i.1.den : Int)) ⟨den_pos' _, Nat.lt_of_lt_of_le (den_lt h1) (Nat.pow_le_pow_right (by decide) (by decide))⟩ ht (a_im (d_add (d_fst (dv 0).pq) (d_fst (dv 1).pq)) (a_im (d_snd (dv 0).pq) a_nil)))) ⟨?_, rfl⟩
    exact add_same hu
  · refine hb_ret ((d_call h66 hr ok.gd (i.1.num * i.2.den + i.2.num * i.1.den, (i.1.den : Int) * i.2.den) (den_mul h1 h2) ht (a_im (d_add (d_mul (mulW_of h1.1 (den_lt h2) (by decide)) (d_fst (dv 0).pq) (d_snd (dv 1).pq)) (d_mul (mulW_of h2.1 (den_lt h1) (by decide)) (d_fst (dv 1).pq) (d_snd (dv 0).pq))) (a_im (d_mul (mulW_of (den_lt h1) (den_lt h2) (by decide)) (d_snd (dv 0).pq) (d_snd (dv 1).pq)) a_nil)))) ⟨?_, rfl⟩
    exact Rq.add_eq _ _
theorem ok68 (hblt : ∀ n ∈ bltNames, mg n = none) (h66 : Has Pg w K mg base lev "_law_frac" ["p", "q"] (S14 (K := K) T)) (F : FnP K "_law_times" (top 68) fa fd) : FnG Pg w K mg base (lev + 1) fa fd ["one", "two"] (S_bin (K := K) T rQ (Sz2 4000) (· * ·)) := by
  refine def_ok F (N := ["one", "two"]) ⟨rfl, rfl, rfl, by decide +kernel, rfl, by decide +kernel, by decide +kernel⟩ (fun _ => rfl) (Nat.le_refl _) hblt fun cdv Ar outer s H E hcd ok hr i k w0 j ht hp => ?_
  obtain ⟨h1, h2⟩ := hp
  refine hb_ret ((d_call h66 hr ok.gd (i.1.num * i.2.num, (i.1.den : Int) * i.2.den) (den_mul h1 h2) ht (a_im (d_mul (mulW_of h1.1 h2.1 (by decide)) (d_fst (dv 0).pq) (d_fst (dv 1).pq)) (a_im (d_mul (mulW_of (den_lt h1) (den_lt h2) (by decide)) (d_snd (dv 0).pq) (d_snd (dv 1).pq)) a_nil)))) ⟨?_, rfl⟩
  exact Rq.mul_eq _ _
theorem ok69 (hblt : ∀ n ∈ bltNames, mg n = none) (h66 : Has Pg w K mg base lev "_law_frac" ["p", "q"] (S14 (K := K) T)) (F : FnP K "_law_over_by" (top 69) fa fd) : FnG Pg w K mg base (lev + 1) fa fd ["one", "two"] (S_bin (K := K) T rQ SzD (· / ·)) := by
  refine def_ok F (N := ["one", "two"]) ⟨rfl, rfl, rfl, by decide +kernel, rfl, by decide +kernel, by decide +kernel⟩ (fun _ => rfl) (Nat.le_refl _) hblt fun cdv Ar outer s H E hcd ok hr i k w0 j ht hp => ?_
  have h3 := num_mul hp
  obtain ⟨h1, h2, h0⟩ := hp
  refine hb_ret ((d_call h66 hr ok.gd (i.1.num * i.2.den, (i.1.den : Int) * i.2.num) h3 ht (a_im (d_mul (mulW_of h1.1 (den_lt h2) (by decide)) (d_fst (dv 0).pq) (d_snd (dv 1).pq)) (a_im (d_mul (mulW_of (den_lt h1) h2.1 (by decide)) (d_snd (dv 0).pq) (d_fst (dv 1).pq)) a_nil)))) ⟨?_, rfl⟩
  exact Rq.div_eq _ _
theorem ok70 (hblt : ∀ n ∈ bltNames, mg n = none) (F : FnP K "_law_below" (top 70) fa fd) : FnG Pg w K mg base (lev + 1) fa fd ["one", "two"] (S_bin (K := K) T rBl (Sz2 8000) (fun a b => decide (a < b))) := by
  refine def_ok F (N := ["one", "two"]) ⟨rfl, rfl, rfl, by decide +kernel, rfl, by decide +kernel, by decide +kernel⟩ (fun _ => rfl) (Nat.le_refl _) hblt fun cdv Ar outer s H E hcd ok hr i k w0 j ht ⟨h1, h2⟩ => ?_
  refine hb_ret (d_lt (d_mul (mulW_of h1.1 (den_lt h2) (by decide)) (d_fst (dv 0).pq) (d_snd (dv 1).pq)) (d_mul (mulW_of h2.1 (den_lt h1) (by decide)) (d_fst (dv 1).pq) (d_snd (dv 0).pq))) ⟨?_, rfl⟩
  rw [decide_eq_decide]
  exact (Rat.lt_iff _ _).symm
abbrev HBelow (Pg : Program) (w : World) (K : PySem.W.Frag) (mg : Str → Option Value) (base : Heap) (lev : Nat) (T : Tbs) : Prop := Has Pg w K mg base lev "_law_below" ["one", "two"] (S_bin (K := K) T rBl (Sz2 8000) (fun a b => decide (a < b)))
abbrev HPlus (Pg : Program) (w : World) (K : PySem.W.Frag) (mg : Str → Option Value) (base : Heap) (lev : Nat) (T : Tbs) : Prop := Has Pg w K mg base lev "_law_plus" ["one", "two"] (S_bin (K := K) T rQ (Sz2 4000) (· + ·))
theorem ok71 (hblt : ∀ n ∈ bltNames, mg n = none) (h70 : HBelow Pg w K mg base lev T) (F : FnP K "_law_greatest" (top 71) fa fd) : FnG Pg w K mg base (lev + 1) fa fd ["rows"] (S_max (K := K) T) := by
  refine def_ok F (N := ["rows", "found", "one"]) ⟨rfl, rfl, rfl, by decide +kernel, rfl, by decide +kernel, by decide +kernel⟩ (fun _ => rfl) (by decide) hblt fun cdv Ar outer s H E hcd ok hr i k w0 j ht ⟨hn, h⟩ => ?_
  refine st_ ok 1 (x_d (d_ix0 (bb 0) (head_get hn))) ?_
  refine hb_forJ ok (fun n s => [.bo rQ i, .im rQ (maxK i n), s]) (fun _ => j) (f_lst (sb 0)) (tg_name 2 ok.nd rfl (.inl rfl)) ⟨_, rfl⟩ rfl (fun n x s hx => ?_) fun s => ?_
  · refine st_ ok 1 (x_d (d_ifP (t_of (d_call h70 hr ok.gd (maxK i n, x) ⟨(h _ (maxK_mem hn n)).up (by decide), (h _ (mem_of_get hx)).up (by decide)⟩ ht (a_im (dv 1) (a_im (dv 2) a_nil)))) (fun _ => dv 2) fun _ => dv 1)) (hb_nil ⟨⟨.im rQ x, ?_⟩, rfl⟩)
    rw [maxK_succ hx]
    rfl
  · exact hb_ret (dv 1) ⟨maxK_len, rfl⟩
theorem ok72 (hblt : ∀ n ∈ bltNames, mg n = none) (h67 : HPlus Pg w K mg base lev T) (F : FnP K "_law_sum_all" (top 72) fa fd) : FnG Pg w K mg base (lev + 1) fa fd ["rows"] (S_sum (K := K) T) := by
  refine def_ok F (N := ["rows", "found", "one"]) ⟨rfl, rfl, rfl, by decide +kernel, rfl, by decide +kernel, by decide +kernel⟩ (fun _ => rfl) (by decide) hblt fun cdv Ar outer s H E hcd ok hr i k w0 j ht h => ?_
  refine st_ ok (s := .im rQ 0) 1 (x_d ((d_pair d_int d_int).toQ rfl rfl)) ?_
  refine hb_forJ ok (fun n s => [.bo rQ i, .im rQ (sumQ (i.take n)), s]) (fun _ => j) (f_lst (sb 0)) (tg_name 2 ok.nd rfl (.inl rfl)) ⟨_, rfl⟩ rfl (fun n x s hx => ?_) fun s => ?_
  · refine st_ ok 1 (x_d (d_call h67 hr ok.gd (_, x) ⟨sum_sz h n, sumOk_sz h (mem_of_get hx)⟩ ht (a_im (dv 1) (a_im (dv 2) a_nil)))) (hb_nil ⟨⟨.im rQ x, ?_⟩, rfl⟩)
    rw [sumQ_succ hx]
    rfl
  · refine hb_ret (dv 1) ⟨?_, rfl⟩
    rw [List.take_length]
abbrev S_sumT {K : PySem.W.Frag} (T : Tbs) : Sp := SpD (K := K) T (fun i : List Rat => [.im (rTup rQ) i]) (fun i _ => SumOk i) rQ (fun i j => (sumQ i, j))
theorem ok72t (hblt : ∀ n ∈ bltNames, mg n = none) (h67 : HPlus Pg w K mg base lev T) (F : FnP K "_law_sum_all" (top 72) fa fd) : FnG Pg w K mg base (lev + 1) fa fd ["rows"] (S_sumT (K := K) T) := by
  refine def_ok F (N := ["rows", "found", "one"]) ⟨rfl, rfl, rfl, by decide +kernel, rfl, by decide +kernel, by decide +kernel⟩ (fun _ => rfl) (by decide) hblt fun cdv Ar outer s H E hcd ok hr i k w0 j ht h => ?_
  refine st_ ok (s := .im rQ 0) 1 (x_d ((d_pair d_int d_int).toQ rfl rfl)) ?_
  refine hb_forJ ok (fun n s => [.im (rTup rQ) i, .im rQ (sumQ (i.take n)), s]) (fun _ => j) (f_tup (dv 0)) (tg_name 2 ok.nd rfl (.inl rfl)) ⟨_, rfl⟩ rfl (fun n x s hx => ?_) fun s => ?_
  · refine st_ ok 1 (x_d (d_call h67 hr ok.gd (_, x) ⟨sum_sz h n, sumOk_sz h (mem_of_get hx)⟩ ht (a_im (dv 1) (a_im (dv 2) a_nil)))) (hb_nil ⟨⟨.im rQ x, ?_⟩, rfl⟩)
    rw [sumQ_succ hx]
    rfl
  · refine hb_ret (dv 1) ⟨?_, rfl⟩
    rw [List.take_length]
end
end Fm
set_option maxHeartbeats 1000000
namespace Fm
open PySem PySem.Spec PyProof.Rows L2
open PySem.W (alike alikeAll dataLt Sortable)
open Rq (Sz Ok)
section
variable {X : Cx} {k : Kx} {w0 : Wd} {Γ : List (Slot X.K)} {j j1 j2 : Int × Int} {e : Expr} {α : Type} {A B : RT X.K α} {x y : α} {xs : List α}
theorem EvD.pairT (h : EvD X k w0 Γ j e (rPair A A) (x, y) j1) : EvD X k w0 Γ j e (rTup A) [x, y] j1 := fun σ w a Q q => h σ w a Q fun v w1 a1 e1 ⟨p, u, z, h1, h2, h3, h4⟩ => q v w1 a1 e1 ⟨p, [u, z], h1, h2, h3, h4, trivial⟩
end
section
variable {Pg : Program} {w : World} {K : PySem.W.Frag} {mg : Str → Option Value} {base : Heap} {fa : Addr} {fd : FuncData} {T : Tbs} {lev : Nat}
abbrev S73 {K : PySem.W.Frag} (T : Tbs) : Sp := SpD (K := K) T (fun i : Rat => [.im rQ i]) (fun i _ => 0 ≤ i) rBl (fun i j => (true, j))
theorem ok73 (hblt : ∀ n ∈ bltNames, mg n = none) (h64 : Has Pg w K mg base lev "_law_is_number" ["thing"] (S9 (K := K) T)) (h65 : Has Pg w K mg base lev "_law_gcd" ["a", "b"] (S65 (K := K) T)) (F : FnP K "_law_is_fraction" (top 73) fa fd) : FnG Pg w K mg base (lev + 1) fa fd ["thing"] (S73 (K := K) T) := by
  refine def_ok F (N := ["thing", "one"]) ⟨rfl, rfl, rfl, by decide +kernel, rfl, by decide +kernel, by decide +kernel⟩ (fun _ => rfl) (by decide) hblt fun cdv Ar outer s0 H E hcd ok hr i k w0 j ht h => ?_
  have h0 : 0 ≤ i.num := Rat.num_nonneg.mpr h
  have hd := den_pos' i
  have hfil : ([i.num, (i.den : Int)].filter fun _ => !true).map (fun o => o) = [] := rfl
  refine hb_ifO (u := false) (w_t (w_or (u := false) (v := false) (t_not (u := true) (t_of (d_isTup ok pair_is (dv 0).pq))) fun _ => w_or (u := false) (v := false) (t_c (d_neI (d_len2 ok (dv 0).pq) d_int)) fun _ => w_or1 (t_c (EvD.is2 (d_neB (hu64 ok) RD.int (by decide) (LcD.m (lc_filt (A := rInt) (xs := [i.num, (i.den : Int)]) (own := [("one", 1)]) (fun _ => !true) (fun o => o) (blk_at ["thing", "one"] (defScope (top 73)) ⟨rfl, by decide +kernel, by decide +kernel, by decide +kernel, by decide +kernel⟩) (f_tup (dv 0).pq.pairT) (tc_name 1 ok.nd rfl rfl) (by show 2 ≤ 100000; decide) (fun y hy s H C cl fp => t_not (t_of (d_call h64 (by exact hr) (by exact ok.gd) y trivial ht (a_im (dv 1) a_nil)))) fun y hy hp s H C cl fp => dv 1) rfl ok.nd).toB (m_lst r_nil (Nat.zero_le _)).toB) (by rfl) rfl)))) (fun hu => nomatch hu) fun _ => ?_
  refine hb_ret (d_and (d_ge (d_fst (dv 0).pq) d_int) fun _ => d_and (d_gt (d_snd (dv 0).pq) d_int) fun _ => d_one (d_eqI (d_call h65 hr ok.gd (i.num, (i.den : Int)) ⟨h0, Int.le_of_lt hd⟩ ht (a_im (d_fst (dv 0).pq) (a_im (d_snd (dv 0).pq) a_nil))) d_int)) ⟨?_, rfl⟩
  have hg : Nat.gcd i.num.natAbs ((i.den : Int)).natAbs = 1 := by
    rw [Int.natAbs_natCast]
    exact i.reduced
  show (decide (0 ≤ i.num) && (decide (0 < (i.den : Int)) && decide ((((Nat.gcd i.num.natAbs ((i.den : Int)).natAbs : Nat)) : Int) = 1))) = true
  rw [hg]
  simp [h0, i.den_pos]
abbrev S74 {K : PySem.W.Frag} (T : Tbs) : Sp := SpD (K := K) T (fun i : List Rat × Int => [.im (rTup rQ) i.1, .im rInt i.2]) (fun i _ => (∀ x ∈ i.1, 0 ≤ x) ∧ ((i.1.length : Nat) : Int) = i.2 ∧ i.1.length ≤ 1000) rBl (fun i j => (true, j))
theorem filt_none {α : Type} {p : α → Bool} {xs : List α} (h : ∀ x ∈ xs, p x = false) : xs.filter p = [] := by
  rw [List.filter_eq_nil_iff]
  intro x hx
  rw [h x hx]
  exact Bool.false_ne_true
theorem ok74 (hblt : ∀ n ∈ bltNames, mg n = none) (h73 : Has Pg w K mg base lev "_law_is_fraction" ["thing"] (S73 (K := K) T)) (F : FnP K "_law_is_row" (top 74) fa fd) : FnG Pg w K mg base (lev + 1) fa fd ["thing", "n"] (S74 (K := K) T) := by
  refine def_ok F (N := ["thing", "n", "one"]) ⟨rfl, rfl, rfl, by decide +kernel, rfl, by decide +kernel, by decide +kernel⟩ (fun _ => rfl) (by decide) hblt fun cdv Ar outer s0 H E hcd ok hr i k w0 j ht ⟨h, hl, hz⟩ => ?_
  have hz : i.1.length ≤ 100000 := Nat.le_trans hz (by decide)
  have hcmp : (!decide (((i.1.length : Nat) : Int) = i.2)) = false := by simp [hl]
  refine hb_ifO (u := false) (w_t (w_or (u := false) (v := false) (t_not (u := true) (t_of (d_isTup ok tup_is (dv 0)))) fun _ => w_or1 (t_c (EvD.is2 (d_neI (d_lenT ok (dv 0)) (dv 1)) hcmp rfl)))) (fun hu => nomatch hu) fun _ => ?_
  refine hb_ret (d_eqD (A := rLst rQ) (x := []) (y := []) (hu64 ok) (RD.lst RD.rat) (by decide) (EvM.is2 (LcD.m (lc_filt (A := rQ) (xs := i.1) (own := [("one", 2)]) (fun _ => !true) (fun o => o) (blk_at ["thing", "n", "one"] (defScope (top 74)) ⟨rfl, by decide +kernel, by decide +kernel, by decide +kernel, by decide +kernel⟩) (f_tup (dv 0)) (tc_name 2 ok.nd rfl rfl) hz (fun y hy s H C cl fp => t_not (t_of (d_call h73 (by exact hr) (by exact ok.gd) y (h y hy) ht (a_im (dv 2) a_nil)))) fun y hy hp s H C cl fp => dv 2) rfl ok.nd) (by rw [filt_none (p := fun _ => !true) fun _ _ => rfl]; rfl) rfl).toD (m_lst r_nil (Nat.zero_le _)).toD) ⟨rfl, rfl⟩
theorem ok77 (hblt : ∀ n ∈ bltNames, mg n = none) (F : FnP K "_law_within" (top 77) fa fd) : FnG Pg w K mg base (lev + 1) fa fd ["one", "two"] (SpD (K := K) T (fun i : List Int × List Int => [.im rSpn i.1, .im rSpn i.2]) (fun i _ => i.1.length ≤ 1000) rBl (fun i j => (liesB i.1 i.2, j))) := by
  refine def_ok F (N := ["one", "two", "c"]) ⟨rfl, rfl, rfl, by decide +kernel, rfl, by decide +kernel, by decide +kernel⟩ (fun _ => rfl) (by decide) hblt fun cdv Ar outer s0 H E hcd ok hr i k w0 j ht hz => ?_
  have hz : i.1.length ≤ 100000 := Nat.le_trans hz (by decide)
  refine hb_ret (d_eqB (hu64 ok) RD.int (by decide) (LcD.m (lc_filt (A := rInt) (xs := i.1) (own := [("c", 2)]) (fun c => !decide (c ∈ i.2)) (fun o => o) (blk_at ["one", "two", "c"] (defScope (top 77)) ⟨rfl, by decide +kernel, by decide +kernel, by decide +kernel, by decide +kernel⟩) (f_tup (dv 0)) (tc_name 2 ok.nd rfl rfl) hz (fun y hy s H C cl fp => t_c (d_notInT (dv 2) (dv 1))) fun y hy hp s H C cl fp => dv 2) rfl ok.nd).toB (m_lst r_nil (Nat.zero_le _)).toB) ⟨?_, rfl⟩
  show decide (List.map (fun o => o) (i.1.filter fun c => !decide (c ∈ i.2)) = []) = liesB i.1 i.2
  rw [List.map_id']
  unfold liesB
  rw [Bool.eq_iff_iff, decide_eq_true_iff, List.all_eq_true, List.filter_eq_nil_iff]
  simp
end
end Fm
set_option maxHeartbeats 1000000
namespace Fm
open PySem PySem.Spec PyProof.Rows L2
open PySem.W (alike alikeAll dataLt Sortable)
open Rq (Sz Ok)
def treeI (sp : List (List Int)) : List (List Int) := (List.range sp.length).map fun k => kidsI sp ((k : Nat) : Int)
theorem treeI_len (sp : List (List Int)) : (treeI sp).length = sp.length := by unfold treeI; rw [List.length_map, List.length_range]
theorem treeI_get {sp : List (List Int)} {k : Nat} (h : k < sp.length) : (treeI sp)[k]? = some (kidsI sp ((k : Nat) : Int)) := range_get _ h
theorem treeI_at {sp : List (List Int)} {k : Int} (h0 : 0 ≤ k) (h1 : k < ((sp.length : Nat) : Int)) : (treeI sp)[k.toNat]? = some (kidsI sp k) := by
  rw [treeI_get (by omega), Int.toNat_of_nonneg h0]
def lotsK (xs : List Int) (n : Nat) : List (List Int) := lotsAll (xs.take n)
theorem lotsK_succ {xs : List Int} {n : Nat} {x : Int} (h : xs[n]? = some x) : lotsK xs (n + 1) = lotsK xs n ++ (lotsK xs n).map fun l => l ++ [x] := by
  unfold lotsK lotsAll
  rw [take_succ_of h, List.foldl_append]
  rfl
theorem lotsAll_len (xs : List Int) : (lotsAll xs).length = 2 ^ xs.length := by
  suffices h : ∀ (ys : List Int) (fd : List (List Int)), (ys.foldl (fun found t => found ++ found.map fun l => l ++ [t]) fd).length = fd.length * 2 ^ ys.length by
    have := h xs [[]]
    rw [List.length_singleton, Nat.one_mul] at this
    exact this
  intro ys
  induction ys with
  | nil => intro fd; simp
  | cons y ys ih =>
    intro fd
    rw [List.foldl_cons, ih, List.length_append, List.length_map, List.length_cons, Nat.pow_succ]
    rw [← Nat.two_mul, Nat.mul_comm 2, Nat.mul_assoc, Nat.mul_comm 2]
theorem lotsK_len {xs : List Int} (h : xs.length ≤ 7) (n : Nat) : (lotsK xs n).length ≤ 128 := by
  unfold lotsK
  rw [lotsAll_len, List.length_take]
  exact Nat.le_trans (Nat.pow_le_pow_right (by decide) (show min n xs.length ≤ 7 by omega)) (by decide)
theorem lotsK_mem {xs l : List Int} {n : Nat} (h : l ∈ lotsK xs n) : l.length ≤ xs.length ∧ ∀ c ∈ l, c ∈ xs := by
  have hs := ((lotsAll_mem _ _).mp h).trans (List.take_sublist n xs)
  exact ⟨hs.length_le, fun c hc => hs.subset hc⟩
theorem lotsI_sub {xs l : List Int} (h : l ∈ lotsI xs) : l ≠ [] ∧ l.length ≤ xs.length ∧ ∀ c ∈ l, c ∈ xs := by
  obtain ⟨h1, h2⟩ := lotsI_mem.mp h
  exact ⟨h2, h1.length_le, fun c hc => h1.subset hc⟩
section
variable {Pg : Program} {w : World} {K : PySem.W.Frag} {mg : Str → Option Value} {base : Heap} {fa : Addr} {fd : FuncData} {T : Tbs} {lev : Nat}
theorem d_one1 {X : Cx} {k : Kx} {w0 : Wd} {Γ : List (Slot X.K)} {j : Int × Int} {m1 m2 m : Nat} {p2 p3 pos : Pos} (h1 : starEach [.Constant (.int 1) m1 p2, .Constant (.int 1) m2 p3] X.env = (false, eval (.Constant (.int 1) m1 p2) X.env) :: starEach [.Constant (.int 1) m2 p3] X.env := by rfl) (h2 : starEach [.Constant (.int 1) m2 p3] X.env = (false, eval (.Constant (.int 1) m2 p3) X.env) :: starEach [] X.env := by rfl) : EvD X k w0 Γ j (.Tuple [.Constant (.int 1) m1 p2, .Constant (.int 1) m2 p3] m pos) rQ 1 j := (d_pair d_int d_int h1 h2).toQ rfl rfl
abbrev S80 {K : PySem.W.Frag} (T : Tbs) : Sp := SpM (K := K) T (fun i : List (List Int) × Int => [.im (rLst rInt) (kidsI i.1 i.2), .bo rQ (pricesI i.1), .im rInt i.2]) (fun i _ => KidsOk i.1 ∧ 0 ≤ i.2 ∧ i.2 < ((i.1.length : Nat) : Int)) rInt (fun i j => (activeI i.1 (pricesI i.1) i.2, j))
theorem ok80 (hblt : ∀ n ∈ bltNames, mg n = none) (h67 : HPlus Pg w K mg base lev T) (h70 : HBelow Pg w K mg base lev T) (F : FnP K "_law_live_kids" (top 80) fa fd) : FnG Pg w K mg base (lev + 1) fa fd ["kids", "rows", "k"] (S80 (K := K) T) := by
  refine def_okM F (N := ["kids", "rows", "k", "i"]) ⟨rfl, rfl, rfl, by decide +kernel, rfl, by decide +kernel, by decide +kernel⟩ (fun _ => rfl) (by decide) hblt fun cdv Ar outer s0 H E hcd ok hr i k w0 j ht ⟨h, h0, h1⟩ => ?_
  obtain ⟨sp, n⟩ := i
  have h : KidsOk sp := h
  have h0 : 0 ≤ n := h0
  have h1 : n < ((sp.length : Nat) : Int) := h1
  have at0 : ∀ c, 0 ≤ c → c < ((sp.length : Nat) : Int) → Sz 4000 ((pricesI sp).getD c.toNat 0) ∧ Sz 4000 ((pricesI sp).getD c.toNat 0 + 1) := fun c c0 c1 => by
    have := (priceI_ok h (mem_of_get (priceI_at c0 c1))).2
    exact ⟨Ok.sz4 this, ok_sz (this.add (Ok.one 40 (Nat.le_refl 1))) (by decide) (by decide)⟩
  have hz : (kidsI sp n).length ≤ 100000 := Nat.le_trans (h.few n h0 h1) (by decide)
  refine hb_retE (LcD.m (lc_filt (A := rInt) (xs := kidsI sp n) (own := [("i", 3)]) (fun c => decide ((pricesI sp).getD n.toNat 0 < (pricesI sp).getD c.toNat 0 + 1)) (fun c => c) (blk_at ["kids", "rows", "k", "i"] (defScope (top 80)) ⟨rfl, by decide +kernel, by decide +kernel, by decide +kernel, by decide +kernel⟩) (i_lst (dv 0).toB) (tc_name 3 ok.nd rfl rfl) hz (fun c hc s H C cl fp => ?_) fun c hc hp s H C cl fp => dv 3) rfl ok.nd) ⟨?_, rfl⟩
  · obtain ⟨c0, c1⟩ := h.lt n c h0 h1 hc
    have a1 := at0 n h0 h1
    have a2 := at0 c c0 (by omega)
    exact t_of (d_call h70 (by exact hr) (by exact ok.gd) ((pricesI sp).getD n.toNat 0, (pricesI sp).getD c.toNat 0 + 1) ⟨a1.1.up (by decide), a2.2.up (by decide)⟩ ht (a_im (d_ixB (bb 1) (dv 2) h0 (priceI_at h0 h1)) (a_im (d_call h67 (by exact hr) (by exact ok.gd) ((pricesI sp).getD c.toNat 0, 1) ⟨a2.1, ok_sz (Ok.one 0 (Nat.le_refl 1)) (by decide) (by decide)⟩ ht (a_im (d_ixB (bb 1) (dv 3) c0 (priceI_at c0 (by omega))) (a_im d_one1 a_nil))) a_nil)))
  · rw [List.map_id']
    rfl
abbrev S82 {K : PySem.W.Frag} (T : Tbs) : Sp := SpM (K := K) T (fun i : List Int => [.bo rInt i]) (fun i _ => i.length ≤ 1000) rSpn (fun i j => (i.map fun c => [c], j))
theorem ok82 (hblt : ∀ n ∈ bltNames, mg n = none) (F : FnP K "_law_own_texts" (top 82) fa fd) : FnG Pg w K mg base (lev + 1) fa fd ["columns"] (S82 (K := K) T) := by
  refine def_okM F (N := ["columns", "c"]) ⟨rfl, rfl, rfl, by decide +kernel, rfl, by decide +kernel, by decide +kernel⟩ (fun _ => rfl) (by decide) hblt fun cdv Ar outer s0 H E hcd ok hr i k w0 j ht hz => ?_
  have hz : i.length ≤ 100000 := Nat.le_trans hz (by decide)
  exact hb_retE (LcD.m (lc_map (A := rInt) (xs := i) (own := [("c", 1)]) (fun c => [c]) (blk_at ["columns", "c"] (defScope (top 82)) ⟨rfl, by decide +kernel, by decide +kernel, by decide +kernel, by decide +kernel⟩) (i_lst (bb 0)) (tc_name 1 ok.nd rfl rfl) hz fun c hc s H C cl fp => d_tupR (r_cons (dv 1) r_nil) (by show 1 ≤ 100000; decide)) rfl ok.nd) ⟨rfl, rfl⟩
abbrev S90 {K : PySem.W.Frag} (T : Tbs) : Sp := SpM (K := K) T (fun i : List Int => [.im (rLst rInt) i]) (fun i _ => i.length ≤ 7) (rLst rInt) (fun i j => (lotsI i, j))
theorem ok90 (hblt : ∀ n ∈ bltNames, mg n = none) (F : FnP K "_law_lots_of" (top 90) fa fd) : FnG Pg w K mg base (lev + 1) fa fd ["things"] (S90 (K := K) T) := by
  refine def_okM F (N := ["things", "found", "thing", "lot"]) ⟨rfl, rfl, rfl, by decide +kernel, rfl, by decide +kernel, by decide +kernel⟩ (fun _ => rfl) (by decide) hblt fun cdv Ar outer s0 H E hcd ok hr i k w0 j ht h7 => ?_
  refine st_ ok (s := .mu (rLt rInt) (lotsK i 0)) 1 (x_m (m_lst (r_cons (m_lst r_nil (Nat.zero_le _)).toT r_nil) (by show 1 ≤ 100000; decide))) ?_
  refine hb_forJ (τ := Slot K × Slot K) ok (fun n s => [.im (rLst rInt) i, .mu (rLt rInt) (lotsK i n), s.1, s.2]) (fun _ => j) (f_lst (dv 0).toS) (tg_name 2 ok.nd rfl (.inr rfl)) ⟨(.un, .un), rfl⟩ rfl (fun n x s hx => ?_) fun s => ?_
  · have hl := lotsK_len h7 n
    have hz : (lotsK i n).length ≤ 100000 := Nat.le_trans hl (by decide)
    refine st_ ok (s := .mu (rLt rInt) (lotsK i (n + 1))) 1 (x_m (EvM.is2 (m_cat (k_mu 1 rfl rfl (.inl rfl)) (LcD.m (lc_map (A := rLt rInt) (B := rLt rInt) (xs := lotsK i n) (own := [("lot", 3)]) (fun l => l ++ [x]) (blk_at ["things", "found", "thing", "lot"] (defScope (top 90)) ⟨rfl, by decide +kernel, by decide +kernel, by decide +kernel, by decide +kernel⟩) (i_lst (bm 1)) (tc_name 3 ok.nd rfl rfl) hz fun l hl s H C cl fp => (m_cat (dv 3).toK (m_lst (r_cons (dv 2) r_nil) (by show 1 ≤ 100000; decide)).toK ?_).toT) rfl ok.nd).toK ?_) (lotsK_succ hx).symm rfl)) (hb_nil ⟨⟨(.im rInt x, s.2), rfl⟩, rfl⟩)
    · have := (lotsK_mem hl).1
      show l.length + 1 ≤ 100000
      omega
    · rw [List.length_map]
      omega
  · have hl := lotsK_len h7 i.length
    have hz : (lotsK i i.length).length ≤ 100000 := Nat.le_trans hl (by decide)
    refine hb_retE (LcD.m (lc_filt (A := rLt rInt) (B := rLst rInt) (xs := lotsK i i.length) (own := [("lot", 3)]) (fun l => !decide (l = [])) (fun l => l) (blk_at ["things", "found", "thing", "lot"] (defScope (top 90)) ⟨rfl, by decide +kernel, by decide +kernel, by decide +kernel, by decide +kernel⟩) (i_lst (bm 1)) (tc_name 3 ok.nd rfl rfl) hz (fun l hl s H C cl fp => t_c (d_neB (by have hu := hu64 ok; exact hu) RD.int (by decide) (dv 3 (A := rLt rInt)).toL.toB (m_lst r_nil (Nat.zero_le _)).toB)) fun l hl hp s H C cl fp => (dv 3 (A := rLt rInt)).toL) rfl ok.nd) ⟨?_, rfl⟩
    rw [List.map_id']
    show (lotsK i i.length).filter _ = lotsI i
    unfold lotsK lotsI
    rw [List.take_length]
end
end Fm
set_option maxHeartbeats 1000000
namespace Fm
open PySem PySem.Spec PyProof.Rows L2
open PySem.W (alike alikeAll dataLt Sortable)
open Rq (Sz Ok)
theorem near_eq {m : Nat} (h : 1 ≤ m) : (((m - 1 : Nat) : Rat) / ((m : Nat) : Rat)).num = ((m : Nat) : Int) - 1 ∧ ((((m - 1 : Nat) : Rat) / ((m : Nat) : Rat)).den : Int) = ((m : Nat) : Int) := by
  have hc : Nat.Coprime (((m - 1 : Nat) : Int)).natAbs m := by
    rw [Int.natAbs_natCast]
    obtain ⟨k, rfl⟩ : ∃ k, m = k + 1 := ⟨m - 1, by omega⟩
    rw [Nat.add_sub_cancel]
    show Nat.gcd k (k + 1) = 1
    rw [Nat.gcd_rec]
    by_cases hk : k = 0
    · subst hk
      rfl
    by_cases hk1 : k = 1
    · subst hk1
      rfl
    rw [Nat.add_mod_left, Nat.mod_eq_of_lt (by omega)]
    exact Nat.gcd_one_left k
  have e : ((m - 1 : Nat) : Rat) / ((m : Nat) : Rat) = ⟨((m - 1 : Nat) : Int), m, by omega, hc⟩ := by
    have := Rat.num_divInt_den ⟨((m - 1 : Nat) : Int), m, by omega, hc⟩
    rw [← this]
    have e2 := Rq.div_eq ((m - 1 : Nat) : Rat) ((m : Nat) : Rat)
    rw [Rat.num_natCast, Rat.num_natCast, Rat.den_natCast, Rat.den_natCast] at e2
    rw [← e2]
    simp
  rw [e]
  refine ⟨?_, rfl⟩
  show ((m - 1 : Nat) : Int) = _
  omega
section
variable {Pg : Program} {w : World} {K : PySem.W.Frag} {mg : Str → Option Value} {base : Heap} {fa : Addr} {fd : FuncData} {T : Tbs} {lev : Nat}
theorem d_near {X : Cx} {k : Kx} {w0 : Wd} {Γ : List (Slot X.K)} {j j1 j2 : Int × Int} {a b : Expr} {m0 : Nat} {pos : Pos} {m : Nat} (h : 1 ≤ m) (ha : EvD X k w0 Γ j a rInt (((m : Nat) : Int) - 1) j1) (hb : EvD X k w0 Γ j1 b rInt ((m : Nat) : Int) j2) (h1 : starEach [a, b] X.env = (false, eval a X.env) :: starEach [b] X.env := by rfl) (h2 : starEach [b] X.env = (false, eval b X.env) :: starEach [] X.env := by rfl) :
    EvD X k w0 Γ j (.Tuple [a, b] m0 pos) rQ (((m - 1 : Nat) : Rat) / ((m : Nat) : Rat)) j2 := (d_pair ha hb h1 h2).toQ (near_eq h).1.symm (near_eq h).2.symm
theorem near_ok {m : Nat} (h : 1 ≤ m) (h2 : m ≤ 16) : Ok 1 1 (((m - 1 : Nat) : Rat) / ((m : Nat) : Rat)) := by
  refine ⟨?_, ?_⟩
  · have := (near_eq h).2
    have e : (((m - 1 : Nat) : Rat) / ((m : Nat) : Rat)).den = m := by omega
    rw [e, Nat.pow_one]
    exact Rq.L_all m h h2
  · have h1 := (near_eq h).1
    have h2 := (near_eq h).2
    omega
def rowAt (rows : List Rat) (c : Int) : Rat := rows.getD c.toNat 0
abbrev LotPre (rows : List Rat) (lot : List Int) : Prop := lot ≠ [] ∧ lot.length ≤ 16 ∧ ∀ c ∈ lot, 0 ≤ c ∧ c.toNat < rows.length ∧ Ok 40 40 (rowAt rows c)
abbrev S91 {K : PySem.W.Frag} (T : Tbs) : Sp := SpD (K := K) T (fun i : List Rat × List Int => [.bo rQ i.1, .im (rLst rInt) i.2]) (fun i _ => LotPre i.1 i.2) rQ (fun i j => (lotW (rowAt i.1) i.2, j))
theorem lot_sum {rows : List Rat} {lot : List Int} (h : LotPre rows lot) : SumOk (lot.map (rowAt rows)) ∧ Ok 40 (40 * 16) (sumQ (lot.map (rowAt rows))) := by
  obtain ⟨h1, h2, h3⟩ := h
  have hx : ∀ x ∈ lot.map (rowAt rows), Ok 40 40 x := fun x hx => by
    obtain ⟨c, hc, rfl⟩ := List.mem_map.mp hx
    exact (h3 c hc).2.2
  refine ⟨sumOk_of 40 40 (by decide) (by rw [List.length_map]; omega) hx, ?_⟩
  have := sum_step hx
  rw [List.length_map] at this
  exact this.up (Nat.le_refl _) (by omega)
theorem lotW_ok {rows : List Rat} {lot : List Int} (h : LotPre rows lot) : Sz 4000 (lotW (rowAt rows) lot) := by
  have h4 := (lot_sum h).2
  obtain ⟨h1, h2, h3⟩ := h
  have hl := List.length_pos_iff.mpr h1
  unfold lotW
  exact ok_sz ((h4.div (m := lot.length) hl h2).add ((near_ok hl h2).up (e' := 41) (by decide) (Nat.le_refl _))) (by decide) (by decide)
theorem ok91 (hblt : ∀ n ∈ bltNames, mg n = none) (h67 : HPlus Pg w K mg base lev T) (h69 : Has Pg w K mg base lev "_law_over_by" ["one", "two"] (S_bin (K := K) T rQ SzD (· / ·))) (h72 : Has Pg w K mg base lev "_law_sum_all" ["rows"] (S_sum (K := K) T)) (F : FnP K "_law_lot_worth" (top 91) fa fd) : FnG Pg w K mg base (lev + 1) fa fd ["rows", "lot"] (S91 (K := K) T) := by
  refine def_ok F (N := ["rows", "lot", "i"]) ⟨rfl, rfl, rfl, by decide +kernel, rfl, by decide +kernel, by decide +kernel⟩ (fun _ => rfl) (by decide) hblt fun cdv Ar outer s0 H E hcd ok hr i k w0 j ht h => ?_
  obtain ⟨s1, s2⟩ := lot_sum h
  obtain ⟨rows, lot⟩ := i
  obtain ⟨h1, h2, h3⟩ := id h
  have h1 : lot ≠ [] := h1
  have h2 : lot.length ≤ 16 := h2
  have hl : 1 ≤ lot.length := List.length_pos_iff.mpr h1
  have hz : lot.length ≤ 100000 := Nat.le_trans h2 (by decide)
  have z1 : Sz 4000 (sumQ (lot.map (rowAt rows))) := ok_sz s2 (by decide) (by decide)
  have z2 : Sz 4000 ((lot.length : Nat) : Rat) := ok_sz (nat_ok 0 lot.length h2) (by decide) (by decide)
  have z3 : Sz 4000 (sumQ (lot.map (rowAt rows)) / ((lot.length : Nat) : Rat)) := ok_sz (s2.div hl h2) (by decide) (by decide)
  have z4 : Sz 4000 (((lot.length - 1 : Nat) : Rat) / ((lot.length : Nat) : Rat)) := ok_sz (near_ok hl h2) (by decide) (by decide)
  refine hb_ret (d_call h67 hr ok.gd (sumQ (lot.map (rowAt rows)) / ((lot.length : Nat) : Rat), ((lot.length - 1 : Nat) : Rat) / ((lot.length : Nat) : Rat)) ⟨z3, z4⟩ ht
    (a_im (d_call h69 hr ok.gd (sumQ (lot.map (rowAt rows)), ((lot.length : Nat) : Rat)) ⟨z1, z2, by rw [Rat.num_natCast]; omega⟩ ht
      (a_im (d_call h72 hr ok.gd (lot.map (rowAt rows)) s1 ht (a_bo (LcD.m (lc_map (A := rInt) (xs := lot) (own := [("i", 2)]) (rowAt rows) (blk_at ["rows", "lot", "i"] (defScope (top 91)) ⟨rfl, by decide +kernel, by decide +kernel, by decide +kernel, by decide +kernel⟩) (i_lst (dv 1).toB) (tc_name 2 ok.nd rfl rfl) hz fun c hc s H C cl fp => d_ixB (bb 0) (dv 2) (h3 c hc).1 (getD_of (h3 c hc).2.1)) rfl ok.nd).toB a_nil)) (a_im (d_natQ (d_lenB ok (dv 1).toB) d_int rfl) a_nil)))
    (a_im (d_near hl (d_sub (d_lenB ok (dv 1).toB) d_int) (d_lenB ok (dv 1).toB)) a_nil))) ⟨rfl, rfl⟩
structure TreeOk (sp : List (List Int)) : Prop extends KidsOk sp where
  few7 : ∀ k, 0 ≤ k → k < ((sp.length : Nat) : Int) → (kidsI sp k).length ≤ 7
theorem lotPrice_K {sp : List (List Int)} (h : KidsOk sp) {n : Nat} (hn : n < sp.length) : lotPrice (rowAt (pricesK sp n)) (kidsI sp ((n : Nat) : Int)) = priceOf (pricesK sp n) (kidsI sp ((n : Nat) : Int)) := by
  rw [lotPrice_eq]
  rfl
abbrev S92 {K : PySem.W.Frag} (T : Tbs) : Sp := SpM (K := K) T (fun i : List (List Int) => [.bo (rLst rInt) (treeI i)]) (fun i _ => TreeOk i) rQ (fun i j => (pricesI i, j))
theorem ok92 (hblt : ∀ n ∈ bltNames, mg n = none) (h71 : Has Pg w K mg base lev "_law_greatest" ["rows"] (S_max (K := K) T)) (h90 : Has Pg w K mg base lev "_law_lots_of" ["things"] (S90 (K := K) T)) (h91 : Has Pg w K mg base lev "_law_lot_worth" ["rows", "lot"] (S91 (K := K) T)) (F : FnP K "_law_prices_by_lots" (top 92) fa fd) : FnG Pg w K mg base (lev + 1) fa fd ["tree"] (S92 (K := K) T) := by
  refine def_okM F (N := ["tree", "rows", "kids", "some", "lot"]) ⟨rfl, rfl, rfl, by decide +kernel, rfl, by decide +kernel, by decide +kernel⟩ (fun _ => rfl) (by decide) hblt fun cdv Ar outer s0 H E hcd ok hr i k w0 j ht h => ?_
  have hk := h.toKidsOk
  have hl := hk.len
  refine st_ ok (s := .mu rQ []) 1 (x_m (m_lst r_nil (Nat.zero_le _))) ?_
  refine hb_forJ (τ := Slot K × Slot K × Slot K) ok (fun n s => [.bo (rLst rInt) (treeI i), .mu rQ (pricesK i n), s.1, s.2.1, s.2.2]) (fun _ => j) (f_lst (sb 0)) (tg_name 2 ok.nd rfl (.inl rfl)) ⟨(.un, .un, .un), rfl⟩ rfl (fun n x s hx => ?_) fun s => ?_
  · have hn : n < i.length := by
      have := (List.getElem?_eq_some_iff.mp hx).1
      rwa [treeI_len] at this
    rw [treeI_get hn] at hx
    have ex : kidsI i ((n : Nat) : Int) = x := Option.some.inj hx
    subst ex
    have n0 : (0 : Int) ≤ ((n : Nat) : Int) := by omega
    have n1 : ((n : Nat) : Int) < ((i.length : Nat) : Int) := by omega
    have h7 := h.few7 _ n0 n1
    have hpre : ∀ lot ∈ lotsI (kidsI i ((n : Nat) : Int)), LotPre (pricesK i n) lot := fun lot hlot => by
      obtain ⟨l1, l2, l3⟩ := lotsI_sub hlot
      refine ⟨l1, by omega, fun c hc => ?_⟩
      obtain ⟨c0, c1⟩ := hk.lt _ c n0 n1 (l3 c hc)
      have hlk := pricesK_len i n
      refine ⟨c0, by omega, ?_⟩
      exact (price_ok hk n (Nat.le_of_lt hn) _ (mem_of_get (getD_of (d := 0) (by omega)))).2.up (by omega) (by omega)
    have hz : (lotsI (kidsI i ((n : Nat) : Int))).length ≤ 100000 := by
      refine Nat.le_trans (List.length_filter_le _ _) ?_
      have := lotsK_len h7 (kidsI i ((n : Nat) : Int)).length
      unfold lotsK at this
      rw [List.take_length] at this
      omega
    refine hb_setLc ok 3 rfl rfl (lc_map (A := rLst rInt) (xs := lotsI (kidsI i ((n : Nat) : Int))) (own := [("lot", 4)]) (lotW (rowAt (pricesK i n))) (blk_at ["tree", "rows", "kids", "some", "lot"] (defScope (top 92)) ⟨rfl, by decide +kernel, by decide +kernel, by decide +kernel, by decide +kernel⟩) (i_lst (m_call h90 hr ok.gd (kidsI i ((n : Nat) : Int)) h7 ht (a_im (dv 2) a_nil)).toB) (tc_name 4 ok.nd rfl rfl) hz fun lot hlot s H C cl fp => d_call h91 (by exact hr) (by exact ok.gd) (pricesK i n, lot) (hpre lot hlot) ht (a_bo (bm 1) (a_im (dv 4) a_nil))) ?_
    refine hb_append 1 rfl rfl (.inr (.inl rfl)) (x := priceOf (pricesK i n) (kidsI i ((n : Nat) : Int))) ?_ (by rw [pricesK_len]; omega) (hb_nil ⟨⟨(.im (rLst rInt) (kidsI i ((n : Nat) : Int)), .mu rQ ((lotsI (kidsI i ((n : Nat) : Int))).map (lotW (rowAt (pricesK i n)))), s.2.2), rfl⟩, rfl⟩)
    refine EvD.is2 (d_ifP (u := !decide ((lotsI (kidsI i ((n : Nat) : Int))).map (lotW (rowAt (pricesK i n))) = [])) (x1 := maxQ ((lotsI (kidsI i ((n : Nat) : Int))).map (lotW (rowAt (pricesK i n))))) (x2 := 1) (t_c (d_neB (hu64 ok) RD.rat (by decide) (bm 3) (m_lst r_nil (Nat.zero_le _)).toB)) (fun hu => ?_) fun _ => d_one1) ?_ rfl
    · refine d_call h71 hr ok.gd ((lotsI (kidsI i ((n : Nat) : Int))).map (lotW (rowAt (pricesK i n)))) ⟨by simpa using hu, fun x hx => ?_⟩ ht (a_bo (bm 3) a_nil)
      obtain ⟨lot, hlot, rfl⟩ := List.mem_map.mp hx
      exact lotW_ok (hpre lot hlot)
    · rw [← lotPrice_K hk hn]
      unfold lotPrice
      by_cases hk0 : lotsI (kidsI i ((n : Nat) : Int)) = []
      · simp [hk0]
      · simp [hk0]
  · refine hb_retM 1 rfl rfl (.inr (.inl rfl)) ⟨?_, rfl⟩
    rw [treeI_len]
    rfl
end
end Fm
set_option maxHeartbeats 1000000
namespace Fm
open PySem PySem.Spec PyProof.Rows L2
open PySem.W (alike alikeAll dataLt Sortable)
open Rq (Sz Ok)
theorem tc_nameC {X : Cx} {scope : Scope} {vs : List Nat} {α : Type} {A : RT X.K α} {pos : Pos} (i : Nat) {n : Str} (hN : X.N.Nodup) (hi : X.N[i]? = some n) (hx : (relS scope X.env.scope).names.lookup n = some .cell) (hf : (scope.names.lookup n == some .cell) = true) (hv : i ∈ vs := by exact List.mem_cons_self) : TgtC X scope vs (.Name n pos) A (fun x Γ => Γ.set i (.im A x)) :=
  ⟨gName i, fun s H C cl fp => pg_name hN hi (.inr hx) (.inl hf), fun k w0 Γ j σ w v x h hr Q q => q _ (h.set i hr) (wipe_set hv)⟩
def eScope : Expr → Scope
  | .ListComp _ _ s _ => s
  | .GeneratorExp _ _ s _ => s
  | .Call _ (.ListComp _ _ s _ :: _) _ _ => s
  | _ => defScope (top 0)
def sExpr : Stmt → Expr
  | .Return (some e) _ => e
  | .Assign _ e _ => e
  | _ => .Constant .none 0 ⟨0, 0, 0, 0⟩
def bodyAt (i n : Nat) : Stmt := (defBody (top i)).getD n (.Pass ⟨0, 0, 0, 0⟩)
def rootsI (sp : List (List Int)) : List Int := (rangeI 0 ((sp.length : Nat) : Int)).filter fun i => decide ((treeI sp).filter (fun row => decide (i ∈ row)) = [])
section
variable {Pg : Program} {w : World} {K : PySem.W.Frag} {mg : Str → Option Value} {base : Heap} {fa : Addr} {fd : FuncData} {T : Tbs} {lev : Nat}
abbrev S78 {K : PySem.W.Frag} (T : Tbs) : Sp := SpM (K := K) T (fun i : Int × List (List Int) => [.im rBk i]) (fun i _ => NestK i.1 i.2) (rLst rInt) (fun i j => (treeI i.2, j))
abbrev S79 {K : PySem.W.Frag} (T : Tbs) : Sp := SpM (K := K) T (fun i : Int × List (List Int) => [.im rBk i]) (fun i _ => NestK i.1 i.2) rInt (fun i j => (rootsI i.2, j))
theorem ok79 (hblt : ∀ n ∈ bltNames, mg n = none) (h78 : Has Pg w K mg base lev "_law_tree" ["nest"] (S78 (K := K) T)) (F : FnP K "_law_roots" (top 79) fa fd) : FnG Pg w K mg base (lev + 1) fa fd ["nest"] (S79 (K := K) T) := by
  refine def_okM F (N := ["nest", "kids", "i", "row"]) ⟨rfl, rfl, rfl, by decide +kernel, rfl, by decide +kernel, by decide +kernel⟩ (fun _ => rfl) (by decide) hblt fun cdv Ar outer s0 H E hcd ok hr i k w0 j ht h => ?_
  obtain ⟨n, sp⟩ := i
  have h : NestK n sp := h
  have hl := h.len
  have hz : (treeI sp).length ≤ 100000 := by rw [treeI_len]; omega
  refine st_ ok (s := .mu (rLst rInt) (treeI sp)) 1 (x_m (m_call h78 hr ok.gd (n, sp) h ht (a_im (dv 0) a_nil))) ?_
  refine hb_retE (LcD.m (lc_filt (A := rInt) (xs := rangeI 0 (((treeI sp).length : Nat) : Int)) (own := [("i", 2)]) (fun i => decide ((treeI sp).filter (fun row => decide (i ∈ row)) = [])) (fun c => c) (blk_at ["nest", "kids", "i", "row"] (defScope (top 79)) ⟨rfl, by decide +kernel, by decide +kernel, by decide +kernel, by decide +kernel⟩) (rg1 ok (d_lenB ok (bm 1)) (by omega)) (tc_nameC 2 ok.nd rfl rfl rfl) (by rw [rangeI_len]; omega) (fun c hc s H C cl fp => ?_) fun c hc hp s H C cl fp => dv 2) rfl ok.nd) ⟨?_, rfl⟩
  · refine t_c (EvD.is2 (d_eqB (by have hu := hu64 ok; exact hu) RD.int.lst (by decide) (LcD.m (lc_filt (A := rLst rInt) (B := rLst rInt) (xs := treeI sp) (own := [("row", 3)]) (fun row => decide (c ∈ row)) (fun c => c) (blk_at ["nest", "kids", "i", "row"] (relS (eScope (sExpr (bodyAt 79 1))) (defScope (top 79))) ⟨rfl, by decide +kernel, by decide +kernel, by decide +kernel, by decide +kernel⟩) (i_lst (bm 1)) (tc_name 3 (by exact ok.nd) rfl rfl) hz (fun row hr s H C cl fp => t_c (d_inB (dv 2) (dv 3 (A := rLst rInt)).toB)) fun row hr hp s H C cl fp => dv 3) rfl (by exact ok.nd)).toB (m_lst r_nil (Nat.zero_le _)).toB) (by rw [List.map_id']) rfl)
  · rw [List.map_id', treeI_len]
    rfl
end
end Fm
set_option maxHeartbeats 1000000
namespace Fm
open PySem PySem.Spec PyProof.Rows L2
open PySem.W (alike alikeAll dataLt Sortable)
open Rq (Sz Ok OkD)
/-! ### shares felt -/
def shAt (sh : List (List Rat)) (k c : Int) : Rat := (sh.getD k.toNat []).getD c.toNat 0
def overI (sp : List (List Int)) (d : Int) : List Int := (rangeI 0 ((sp.length : Nat) : Int)).filter fun k => decide (d ∈ sp.getD k.toNat [])
def colI (sp : List (List Int)) (sh : List (List Rat)) (d c : Int) : Rat := maxQ ([0] ++ (overI sp d).map fun k => shAt sh k c)
def feltK (sp : List (List Int)) (sh : List (List Rat)) (d : Int) (m : Nat) : Rat := sumQ ((List.range m).map fun c => colI sp sh d ((c : Nat) : Int))
def feltI (n : Int) (sp : List (List Int)) (sh : List (List Rat)) (d : Int) : Rat := feltK sp sh d n.toNat
def worstI (n : Int) (sp : List (List Int)) (sh : List (List Rat)) : Rat := maxQ ((rangeI 0 n).map (feltI n sp sh))
structure ShsD (D c : Nat) (n : Int) (sp : List (List Int)) (sh : List (List Rat)) : Prop where
  n1 : 1 ≤ n
  n2 : n ≤ 16
  len : sp.length ≤ 40
  D0 : D ≠ 0
  D1 : D < 2 ^ 3800
  c1 : c < 2 ^ 100
  sl : sh.length = sp.length
  row : ∀ r ∈ sh, r.length = n.toNat ∧ ∀ x ∈ r, OkD D c x
theorem over_at {sp : List (List Int)} {d k : Int} (h : k ∈ overI sp d) : 0 ≤ k ∧ k < ((sp.length : Nat) : Int) := mem_rangeI.mp (List.mem_filter.mp h).1
theorem over_len {sp : List (List Int)} {d : Int} : (overI sp d).length ≤ sp.length := by
  refine Nat.le_trans (List.length_filter_le _ _) ?_
  rw [rangeI_len]
  omega
theorem sh_at {D c : Nat} {n : Int} {sp : List (List Int)} {sh : List (List Rat)} (h : ShsD D c n sp sh) {k i : Int} (k0 : 0 ≤ k) (k1 : k < ((sp.length : Nat) : Int)) (i0 : 0 ≤ i) (i1 : i < n) : sh[k.toNat]? = some (sh.getD k.toNat []) ∧ (sh.getD k.toNat [])[i.toNat]? = some (shAt sh k i) ∧ OkD D c (shAt sh k i) := by
  have hs := h.sl
  have e := getD_of (xs := sh) (d := []) (n := k.toNat) (by omega)
  have r := h.row _ (mem_of_get e)
  have e2 := getD_of (xs := sh.getD k.toNat []) (d := 0) (n := i.toNat) (by rw [r.1]; omega)
  exact ⟨e, e2, r.2 _ (mem_of_get e2)⟩
theorem col_sz {D c : Nat} {n : Int} {sp : List (List Int)} {sh : List (List Rat)} (h : ShsD D c n sp sh) {d i : Int} (i0 : 0 ≤ i) (i1 : i < n) : (∀ x ∈ [0] ++ (overI sp d).map fun k => shAt sh k i, OkD D c x) ∧ OkD D c (colI sp sh d i) := by
  have hh : ∀ x ∈ [0] ++ (overI sp d).map fun k => shAt sh k i, OkD D c x := by
    intro x hx
    rcases List.mem_append.mp hx with hx | hx
    · rw [List.mem_singleton.mp hx]
      exact Rq.OkD.zero _ _
    · obtain ⟨k, hk, rfl⟩ := List.mem_map.mp hx
      obtain ⟨k0, k1⟩ := over_at hk
      exact (sh_at h k0 k1 i0 i1).2.2
  exact ⟨hh, hh _ (maxQ_mem (by simp))⟩
theorem okD_sz {D c : Nat} {n : Int} {sp : List (List Int)} {sh : List (List Rat)} (h : ShsD D c n sp sh) {x : Rat} (hx : OkD D c x) : Sz 4000 x := (hx.sz h.D0 h.D1 h.c1).up (by decide)
theorem felt_ok {D c : Nat} {n : Int} {sp : List (List Int)} {sh : List (List Rat)} (h : ShsD D c n sp sh) (d : Int) {m : Nat} (hm : m ≤ n.toNat) : OkD D (c * 16) (feltK sp sh d m) ∧ Sz 4000 (feltK sp sh d m) := by
  have hx : ∀ x ∈ (List.range m).map fun c => colI sp sh d ((c : Nat) : Int), OkD D c x := by
    intro x hx
    obtain ⟨i, hi, rfl⟩ := List.mem_map.mp hx
    have := List.mem_range.mp hi
    exact (col_sz h (by omega) (by omega)).2
  have hs := sum_stepD h.D0 hx
  rw [List.length_map, List.length_range] at hs
  have n2 := h.n2
  have hs2 : OkD D (c * 16) (feltK sp sh d m) := hs.up (Nat.mul_le_mul_left _ (by omega))
  refine ⟨hs2, (hs2.sz (d := 104) h.D0 h.D1 ?_).up (by decide)⟩
  have := h.c1
  rw [show 2 ^ 104 = 2 ^ 100 * 16 by rfl]
  omega
theorem feltK_succ (sp : List (List Int)) (sh : List (List Rat)) (d : Int) (m : Nat) : feltK sp sh d (m + 1) = feltK sp sh d m + colI sp sh d ((m : Nat) : Int) := by
  unfold feltK
  rw [range_succ_map, sumQ_append, sumQ_cons, sumQ_nil, Rat.add_zero]
section
variable {Pg : Program} {w : World} {K : PySem.W.Frag} {mg : Str → Option Value} {base : Heap} {fa : Addr} {fd : FuncData} {T : Tbs} {lev : Nat}
theorem d_zero1 {X : Cx} {k : Kx} {w0 : Wd} {Γ : List (Slot X.K)} {j : Int × Int} {m1 m2 m : Nat} {p2 p3 pos : Pos} (h1 : starEach [.Constant (.int 0) m1 p2, .Constant (.int 1) m2 p3] X.env = (false, eval (.Constant (.int 0) m1 p2) X.env) :: starEach [.Constant (.int 1) m2 p3] X.env := by rfl) (h2 : starEach [.Constant (.int 1) m2 p3] X.env = (false, eval (.Constant (.int 1) m2 p3) X.env) :: starEach [] X.env := by rfl) : EvD X k w0 Γ j (.Tuple [.Constant (.int 0) m1 p2, .Constant (.int 1) m2 p3] m pos) rQ 0 j := (d_pair d_int d_int h1 h2).toQ rfl rfl
abbrev rShs {K : PySem.W.Frag} : RT K (List (List Rat)) := rTup (rTup rQ)
abbrev S81 {K : PySem.W.Frag} (T : Tbs) (D c : Nat) : Sp := SpD (K := K) T (fun i : (Int × List (List Int)) × List (List Rat) × Int => [.im rBk i.1, .im rShs i.2.1, .im rInt i.2.2]) (fun i _ => ShsD D c i.1.1 i.1.2 i.2.1) rQ (fun i j => (feltI i.1.1 i.1.2 i.2.1 i.2.2, j))
theorem ok81 (D cc : Nat) (hblt : ∀ n ∈ bltNames, mg n = none) (h67 : HPlus Pg w K mg base lev T) (h71 : Has Pg w K mg base lev "_law_greatest" ["rows"] (S_max (K := K) T)) (F : FnP K "_law_felt_at" (top 81) fa fd) : FnG Pg w K mg base (lev + 1) fa fd ["book", "shares", "d"] (S81 (K := K) T D cc) := by
  refine def_ok F (N := ["book", "shares", "d", "some", "found", "c", "k"]) ⟨rfl, rfl, rfl, by decide +kernel, rfl, by decide +kernel, by decide +kernel⟩ (fun _ => rfl) (by decide) hblt fun cdv Ar outer s0 H E hcd ok hr i k w0 j ht h => ?_
  obtain ⟨⟨n, sp⟩, sh, d⟩ := i
  have h : ShsD D cc n sp sh := h
  have n1 := h.n1
  have n2 := h.n2
  have hl := h.len
  have sl := h.sl
  refine hb_par ok 3 4 (s := .mu rInt (overI sp d)) (s1 := .im rQ 0) rfl rfl rfl rfl (by decide) (x_m (EvM.is2 (LcD.m (lc_filt (A := rInt) (xs := rangeI 0 ((sp.length : Nat) : Int)) (own := [("k", 6)]) (fun k => decide (d ∈ sp.getD k.toNat [])) (fun c => c) (blk_at ["book", "shares", "d", "some", "found", "c", "k"] (defScope (top 81)) ⟨rfl, by decide +kernel, by decide +kernel, by decide +kernel, by decide +kernel⟩) (rg1 ok (d_lenT ok (d_snd (dv 0))) (by omega)) (tc_name 6 ok.nd rfl rfl) (by rw [rangeI_len]; omega) (fun k hk s H C cl fp => t_c (d_inT (dv 2) (d_ixT (d_snd (x := n) (y := sp) (dv 0)) (dv 6) (mem_rangeI.mp hk).1 (getD_of (by have := mem_rangeI.mp hk; omega))))) fun k hk hp s H C cl fp => dv 6) rfl ok.nd) (by rw [List.map_id']; rfl) rfl)) (x_d d_zero1) ?_
  refine hb_forJ (τ := Slot K × Slot K) ok (fun m s => [.im rBk (n, sp), .im rShs sh, .im rInt d, .mu rInt (overI sp d), .im rQ (feltK sp sh d m), s.1, s.2]) (fun _ => j) (rg1 ok (d_fst (dv 0)) (by omega)) (tg_name 5 ok.nd rfl (.inr rfl)) ⟨(.un, .un), rfl⟩ rfl (fun m x s hx => ?_) fun s => ?_
  · have hm : m < n.toNat := by
      have := (List.getElem?_eq_some_iff.mp hx).1
      rwa [rangeI_len, Int.sub_zero] at this
    rw [rangeI_get (by omega)] at hx
    have ex : 0 + ((m : Nat) : Int) = x := Option.some.inj hx
    have ex' : ((m : Nat) : Int) = x := by omega
    subst ex'
    have m0 : (0 : Int) ≤ ((m : Nat) : Int) := by omega
    have m1 : ((m : Nat) : Int) < n := by omega
    obtain ⟨g1, g2⟩ := col_sz h (d := d) m0 m1
    have hov := over_len (sp := sp) (d := d)
    refine st_ ok 4 (x_d (d_call h67 hr ok.gd (feltK sp sh d m, colI sp sh d ((m : Nat) : Int)) ⟨(felt_ok h d (Nat.le_of_lt hm)).2, okD_sz h g2⟩ ht (a_im (dv 4) (a_im (d_call h71 hr ok.gd ([0] ++ (overI sp d).map fun k => shAt sh k ((m : Nat) : Int)) ⟨by simp, fun x hx => okD_sz h (g1 x hx)⟩ ht (a_bo (m_cat (A := rQ) (xs := [0]) (ys := (overI sp d).map fun k => shAt sh k ((m : Nat) : Int)) (m_lst (r_cons d_zero1 r_nil) (by show 1 ≤ 100000; decide)).toK (LcD.m (lc_map (A := rInt) (xs := overI sp d) (own := [("k", 6)]) (fun k => shAt sh k ((m : Nat) : Int)) (blk_at ["book", "shares", "d", "some", "found", "c", "k"] (defScope (top 81)) ⟨rfl, by decide +kernel, by decide +kernel, by decide +kernel, by decide +kernel⟩) (i_lst (bm 3)) (tc_name 6 ok.nd rfl rfl) (by omega) fun k hk s H C cl fp => d_ixT (d_ixT (dv 1) (dv 6) (over_at hk).1 (sh_at h (over_at hk).1 (over_at hk).2 m0 m1).1) (dv 5) m0 (sh_at h (over_at hk).1 (over_at hk).2 m0 m1).2.1) rfl ok.nd).toK (by rw [List.length_map]; show 1 + _ ≤ _; omega)).toB a_nil)) a_nil)))) (hb_nil ⟨⟨(.im rInt ((m : Nat) : Int), s.2), ?_⟩, rfl⟩)
    rw [feltK_succ]
    rfl
  · refine hb_ret (dv 4) ⟨?_, rfl⟩
    rw [rangeI_len, Int.sub_zero]
    rfl
end
end Fm
set_option maxHeartbeats 1000000
namespace Fm
open PySem PySem.Spec PyProof.Rows L2
open PySem.W (alike alikeAll dataLt Sortable)
open Rq (Sz Ok OkD)
/-- shares as the law asks them -/
structure ShsR (n : Int) (sp : List (List Int)) (sh : List (List Rat)) : Prop where
  nn : ∀ r ∈ sh, ∀ x ∈ r, 0 ≤ x
  one : ∀ r ∈ sh, sumQ r = 1
  out : ∀ k c, 0 ≤ k → k < ((sp.length : Nat) : Int) → 0 ≤ c → c < n → c ∉ sp.getD k.toNat [] → shAt sh k c = 0
/-- a drawn share -/
def weighJ (span : List Int) (j : Int × Int) (c : Int) : Int × (Int × Int) := if decide (c ∈ span) = true then takeI j 4 else (0, j)
def shareJ (n : Int) (j : Int × Int) (span : List Int) : List Rat × (Int × Int) :=
  let w := mapJ (weighJ span) j (rangeI 0 n)
  let t := takeI w.2 3
  let o := oneI 0 t.2 span
  let ws := w.1.set o.1.toNat (1 + t.1)
  (ws.map fun x => Rat.divInt x ws.sum, o.2)
def sharesJ (n : Int) (sp : List (List Int)) (j : Int × Int) : List (List Rat) × (Int × Int) := mapJ (shareJ n) j sp
theorem weigh_ok {span : List Int} {j : Int × Int} {c : Int} (h : JOk j) : JOk (weighJ span j c).2 ∧ 0 ≤ (weighJ span j c).1 ∧ (weighJ span j c).1 ≤ 3 := by
  unfold weighJ
  split
  · have := take_ok h (t := 4) (by decide)
    exact ⟨this.1, this.2.1, by omega⟩
  · exact ⟨h, Int.le_refl 0, (by decide : (0 : Int) ≤ 3)⟩
theorem sum_nn {xs : List Int} (h : ∀ x ∈ xs, 0 ≤ x) : 0 ≤ xs.sum := by
  induction xs with
  | nil => simp
  | cons x xs ih =>
    rw [List.sum_cons]
    have := h x List.mem_cons_self
    have := ih fun y hy => h y (List.mem_cons_of_mem _ hy)
    omega
theorem sum_le {xs : List Int} {b : Int} (h : ∀ x ∈ xs, x ≤ b) : xs.sum ≤ b * (xs.length : Nat) := by
  induction xs with
  | nil => simp
  | cons x xs ih =>
    rw [List.sum_cons, List.length_cons]
    have := h x List.mem_cons_self
    have := ih fun y hy => h y (List.mem_cons_of_mem _ hy)
    have e : b * (((xs.length + 1 : Nat)) : Int) = b * ((xs.length : Nat) : Int) + b := by rw [Int.natCast_add, Int.mul_add]; simp
    omega
theorem sum_ge {xs : List Int} (h : ∀ x ∈ xs, 0 ≤ x) {y : Int} (hy : y ∈ xs) : y ≤ xs.sum := by
  induction xs with
  | nil => cases hy
  | cons x xs ih =>
    rw [List.sum_cons]
    have hx := h x List.mem_cons_self
    have hs := sum_nn fun y hy => h y (List.mem_cons_of_mem _ hy)
    rcases List.mem_cons.mp hy with rfl | hy
    · omega
    · have := ih (fun y hy => h y (List.mem_cons_of_mem _ hy)) hy
      omega
/-- what is known of the weights -/
theorem ws_ok {n : Int} {span : List Int} {j : Int × Int} (h : JOk j) (n1 : 1 ≤ n) (n2 : n ≤ 16) (hs : span ≠ []) (hin : ∀ c ∈ span, 0 ≤ c ∧ c < n) (hl : span.length ≤ 16) :
    let w := mapJ (weighJ span) j (rangeI 0 n)
    let t := takeI w.2 3
    let o := oneI 0 t.2 span
    let ws := w.1.set o.1.toNat (1 + t.1)
    JOk w.2 ∧ JOk t.2 ∧ JOk o.2 ∧ o.1 ∈ span ∧ ws.length = n.toNat ∧ w.1.length = n.toNat ∧ (∀ x ∈ ws, 0 ≤ x ∧ x ≤ 3) ∧ 1 ≤ ws.sum ∧ ws.sum ≤ 48 := by
  intro w t o ws
  have hw : JOk w.2 := mapJ_inv (I := JOk) h fun x _ j hj => (weigh_ok hj).1
  have hw2 : ∀ x ∈ w.1, 0 ≤ x ∧ x ≤ 3 := mapJ_all (I := JOk) (p := fun x => 0 ≤ x ∧ x ≤ 3) h fun x _ j hj => ⟨(weigh_ok hj).1, (weigh_ok hj).2⟩
  have ht := take_ok hw (t := 3) (by decide)
  have ho := one_at (d := 0) ht.1 hs
  have hsl : 0 < span.length := List.length_pos_iff.mpr hs
  have ho2 : JOk o.2 := (take_ok ht.1 (t := ((span.length : Nat) : Int)) (by omega)).1
  have hom : o.1 ∈ span := mem_of_get ho.1
  have hwl : w.1.length = n.toNat := by
    show (mapJ _ _ _).1.length = _
    rw [mapJ_len, rangeI_len, Int.sub_zero]
  have hwsl : ws.length = n.toNat := by
    show (w.1.set _ _).length = _
    rw [List.length_set, hwl]
  have hx : ∀ x ∈ ws, 0 ≤ x ∧ x ≤ 3 := fun x hx => by
    rcases List.mem_or_eq_of_mem_set hx with hx | hx
    · exact hw2 x hx
    · have h1 := ht.2
      have e : x = 1 + t.1 := hx
      have h2 : 0 ≤ t.1 := h1.1
      have h3 : t.1 < 3 := h1.2
      omega
  refine ⟨hw, ht.1, ho2, hom, hwsl, hwl, hx, ?_, ?_⟩
  · have hin' := hin o.1 hom
    have hm : 1 + t.1 ∈ ws := by
      show _ ∈ w.1.set _ _
      exact List.mem_set (by omega) _
    have := sum_ge (fun x hx' => (hx x hx').1) hm
    have h2 : 0 ≤ t.1 := ht.2.1
    omega
  · have := sum_le fun x hx' => (hx x hx').2
    rw [hwsl] at this
    omega
section
variable {Pg : Program} {w : World} {K : PySem.W.Frag} {mg : Str → Option Value} {base : Heap} {fa : Addr} {fd : FuncData} {T : Tbs} {lev : Nat}
abbrev S97 {K : PySem.W.Frag} (T : Tbs) (D c : Nat) : Sp := SpD (K := K) T (fun i : (Int × List (List Int)) × List (List Rat) => [.im rBk i.1, .im rShs i.2]) (fun i _ => ShsD D c i.1.1 i.1.2 i.2) rQ (fun i j => (worstI i.1.1 i.1.2 i.2, j))
theorem ok97 (D cc : Nat) (hblt : ∀ n ∈ bltNames, mg n = none) (h71 : Has Pg w K mg base lev "_law_greatest" ["rows"] (S_max (K := K) T)) (h81 : Has Pg w K mg base lev "_law_felt_at" ["book", "shares", "d"] (S81 (K := K) T D cc)) (F : FnP K "_law_worst_of" (top 97) fa fd) : FnG Pg w K mg base (lev + 1) fa fd ["nest", "shares"] (S97 (K := K) T D cc) := by
  refine def_ok F (N := ["nest", "shares", "d"]) ⟨rfl, rfl, rfl, by decide +kernel, rfl, by decide +kernel, by decide +kernel⟩ (fun _ => rfl) (by decide) hblt fun cdv Ar outer s0 H E hcd ok hr i k w0 j ht h => ?_
  obtain ⟨⟨n, sp⟩, sh⟩ := i
  have h : ShsD D cc n sp sh := h
  have n1 := h.n1
  have n2 := h.n2
  refine hb_ret (d_call h71 hr ok.gd ((rangeI 0 n).map (feltI n sp sh)) ⟨fun z => ?_, fun x hx => ?_⟩ ht (a_bo (LcD.m (lc_map (A := rInt) (xs := rangeI 0 n) (own := [("d", 2)]) (feltI n sp sh) (blk_at ["nest", "shares", "d"] (defScope (top 97)) ⟨rfl, by decide +kernel, by decide +kernel, by decide +kernel, by decide +kernel⟩) (rg1 ok (d_fst (dv 0)) (by omega)) (tc_name 2 ok.nd rfl rfl) (by rw [rangeI_len]; omega) fun d hd s H C cl fp => d_call h81 (by exact hr) (by exact ok.gd) ((n, sp), sh, d) h ht (a_im (dv 0) (a_im (dv 1) (a_im (dv 2) a_nil)))) rfl ok.nd).toB a_nil)) ⟨rfl, rfl⟩
  · have := congrArg List.length z
    rw [List.length_map, rangeI_len] at this
    simp at this
    omega
  · obtain ⟨d, hd, rfl⟩ := List.mem_map.mp hx
    exact (felt_ok h d (Nat.le_refl _)).2
abbrev S98 {K : PySem.W.Frag} (T : Tbs) (D c : Nat) : Sp := SpD (K := K) T (fun i : (Int × List (List Int)) × List (List Rat) => [.im rBk i.1, .im rShs i.2]) (fun i _ => ShsD D c i.1.1 i.1.2 i.2 ∧ ShsR i.1.1 i.1.2 i.2) rBl (fun i j => (true, j))
theorem ok98 (D cc : Nat) (hblt : ∀ n ∈ bltNames, mg n = none) (h72 : Has Pg w K mg base lev "_law_sum_all" ["rows"] (S_sumT (K := K) T)) (h74 : Has Pg w K mg base lev "_law_is_row" ["thing", "n"] (S74 (K := K) T)) (F : FnP K "_law_are_shares" (top 98) fa fd) : FnG Pg w K mg base (lev + 1) fa fd ["nest", "thing"] (S98 (K := K) T D cc) := by
  refine def_ok F (N := ["nest", "thing", "k", "c"]) ⟨rfl, rfl, rfl, by decide +kernel, rfl, by decide +kernel, by decide +kernel⟩ (fun _ => rfl) (by decide) hblt fun cdv Ar outer s0 H E hcd ok hr i k w0 j ht ⟨h, hR⟩ => ?_
  obtain ⟨⟨n, sp⟩, sh⟩ := i
  have h : ShsD D cc n sp sh := h
  have hR : ShsR n sp sh := hR
  have n1 := h.n1
  have n2 := h.n2
  have sl := h.sl
  have hl := h.len
  have hcmp : (!decide (((sh.length : Nat) : Int) = ((sp.length : Nat) : Int))) = false := by simp [sl]
  refine hb_ifO (u := false) (w_t (w_or (u := false) (v := false) (t_not (u := true) (t_of (d_isTup ok tup_is (dv 1)))) fun _ => w_or1 (t_c (EvD.is2 (d_neI (d_lenT ok (dv 1)) (d_lenT ok (d_snd (dv 0)))) hcmp rfl)))) (fun hu => nomatch hu) fun _ => ?_
  refine hb_forJ (τ := Slot K × Slot K) ok (fun m s => [.im rBk (n, sp), .im rShs sh, s.1, s.2]) (fun _ => j) (rg1 ok (m := ((sh.length : Nat) : Int)) (d_lenT ok (dv 1)) (by omega)) (tg_name 2 ok.nd rfl (.inr rfl)) ⟨(.un, .un), rfl⟩ rfl (fun m x s hx => ?_) fun s => hb_ret d_bl ⟨rfl, rfl⟩
  obtain ⟨x0, x1⟩ := mem_rangeI.mp (mem_of_get hx)
  have gx : sh[x.toNat]? = some (sh.getD x.toNat []) := getD_of (by omega)
  have gs : sp[x.toNat]? = some (sp.getD x.toNat []) := getD_of (by omega)
  have hrow := h.row _ (mem_of_get gx)
  have hsum : SumOk (sh.getD x.toNat []) := by
    refine ⟨D, cc, h.D0, h.D1, ?_, hrow.2⟩
    have c1 := h.c1
    have : (sh.getD x.toNat []).length ≤ 16 := by rw [hrow.1]; omega
    have := Nat.mul_le_mul (Nat.le_of_lt c1) this
    exact Nat.lt_of_le_of_lt this (by decide)
  have hone : (!decide (sumQ (sh.getD x.toNat []) = 1)) = false := by rw [decide_eq_true (hR.one _ (mem_of_get gx))]; rfl
  refine hb_ifO (u := false) (w_t (w_or (u := false) (v := false) (t_not (u := true) (t_of (d_call h74 hr ok.gd (sh.getD x.toNat [], n) ⟨hR.nn _ (mem_of_get gx), by rw [hrow.1]; omega, by rw [hrow.1]; omega⟩ ht (a_im (d_ixT (dv 1) (dv 2) x0 gx) (a_im (d_fst (dv 0)) a_nil))))) fun _ => w_or1 (t_c (EvD.is2 (d_neD (hu64 ok) RD.rat (by decide) (d_call h72 hr ok.gd (sh.getD x.toNat []) hsum ht (a_im (d_ixT (dv 1) (dv 2) x0 gx) a_nil)) d_one1) hone rfl)))) (fun hu => nomatch hu) fun _ => ?_
  have hfil : ∀ c ∈ rangeI 0 n, (!decide (c ∈ sp.getD x.toNat []) && !decide (shAt sh x c = 0)) = false := fun c hc => by
    obtain ⟨c0, c1⟩ := mem_rangeI.mp hc
    by_cases hin : c ∈ sp.getD x.toNat []
    · simp only [decide_eq_true hin, Bool.not_true, Bool.false_and]
    · simp [hR.out x c x0 (by omega) c0 c1 hin]
  refine hb_ifO (u := false) (t_c (EvD.is2 (d_neB (hu64 ok) RD.int (by decide) (LcD.m (lc_filt (A := rInt) (xs := rangeI 0 n) (own := [("c", 3)]) (fun c => !decide (c ∈ sp.getD x.toNat []) && !decide (shAt sh x c = 0)) (fun c => c) (blk_at ["nest", "thing", "k", "c"] (defScope (top 98)) ⟨rfl, by decide +kernel, by decide +kernel, by decide +kernel, by decide +kernel⟩) (rg1 ok (d_fst (dv 0)) (by omega)) (tc_name 3 ok.nd rfl rfl) (by rw [rangeI_len]; omega) (fun c hc s H C cl fp => ?_) fun c hc hp s H C cl fp => dv 3) rfl ok.nd).toB (m_lst r_nil (Nat.zero_le _)).toB) (by rw [filt_none hfil]; rfl) rfl)) (fun hu => nomatch hu) fun _ => hb_nil ⟨⟨(.im rInt x, s.2), rfl⟩, rfl⟩
  obtain ⟨c0, c1⟩ := mem_rangeI.mp hc
  have e := sh_at h x0 (by omega) c0 c1
  exact w_t (w_and (t_c (d_notInT (dv 3) (d_ixT (d_snd (x := n) (y := sp) (dv 0)) (dv 2) x0 gs))) fun _ => w_and1 (t_c (d_neD (by have hu := hu64 ok; exact hu) RD.rat (by decide) (d_ixT (d_ixT (dv 1) (dv 2) x0 gx) (dv 3) c0 e.2.1) d_zero1)))
end
end Fm
set_option maxHeartbeats 1000000
namespace Fm
open PySem PySem.Spec PyProof.Rows L2
open PySem.W (alike alikeAll dataLt Sortable)
open Rq (Sz Ok OkD)
section
variable {Pg : Program} {w : World} {K : PySem.W.Frag} {mg : Str → Option Value} {base : Heap} {fa : Addr} {fd : FuncData} {T : Tbs} {lev : Nat}
abbrev SharePre (n : Int) (span : List Int) (j : Int × Int) : Prop := JOk j ∧ 1 ≤ n ∧ n ≤ 16 ∧ span ≠ [] ∧ (∀ c ∈ span, 0 ≤ c ∧ c < n) ∧ span.length ≤ 16
abbrev S88 {K : PySem.W.Frag} (T : Tbs) : Sp := SpD (K := K) T (fun i : Int × List Int => [.ja, .im rInt i.1, .im rSpn i.2]) (fun i j => SharePre i.1 i.2 j) (rTup rQ) (fun i j => shareJ i.1 j i.2)
theorem ok88 (hblt : ∀ n ∈ bltNames, mg n = none) (h61 : Has Pg w K mg base lev "_law_take" ["jar", "top"] (S61 (K := K) T)) (h62 : Has Pg w K mg base lev "_law_one" ["jar", "things"] (S62s (K := K) T)) (h66 : Has Pg w K mg base lev "_law_frac" ["p", "q"] (S14 (K := K) T)) (F : FnP K "_law_any_share" (top 88) fa fd) : FnG Pg w K mg base (lev + 1) fa fd ["jar", "n", "span"] (S88 (K := K) T) := by
  refine def_ok F (N := ["jar", "n", "span", "weights", "c", "weight"]) ⟨rfl, rfl, rfl, by decide +kernel, rfl, by decide +kernel, by decide +kernel⟩ (fun _ => rfl) (by decide) hblt fun cdv Ar outer s0 H E hcd ok hr i k w0 j ht h => ?_
  obtain ⟨n, span⟩ := i
  obtain ⟨hj, n1, n2, hs, hin, hl⟩ := h
  have n1 : 1 ≤ n := n1
  have n2 : n ≤ 16 := n2
  have hs : span ≠ [] := hs
  have hin : ∀ c ∈ span, 0 ≤ c ∧ c < n := hin
  have hl : span.length ≤ 16 := hl
  have ws := ws_ok hj n1 n2 hs hin hl
  simp only at ws
  obtain ⟨a1, a2, a3, a4, a5, a6, a7, a8, a9⟩ := ws
  have hz : (rangeI 0 n).length ≤ 100000 := by rw [rangeI_len]; omega
  refine st_ ok (s := .mu rInt (mapJ (weighJ span) j (rangeI 0 n)).1) 3 (j1 := (mapJ (weighJ span) j (rangeI 0 n)).2) (x_m (LcD.m (lc_mapJ (A := rInt) (xs := rangeI 0 n) (own := [("c", 4)]) JOk (weighJ span) (blk_at ["jar", "n", "span", "weights", "c", "weight"] (defScope (top 88)) ⟨rfl, by decide +kernel, by decide +kernel, by decide +kernel, by decide +kernel⟩) (rg1 ok (dv 1) (by omega)) (tc_name 4 ok.nd rfl rfl) hz hj (fun x _ j hj => (weigh_ok hj).1) fun c hc j' hj' s H C cl fp => ?_) rfl ok.nd)) ?_
  · refine EvD.is2 (d_ifx (u := decide (c ∈ span)) (x1 := (takeI j' 4).1) (x2 := 0) (j2 := (takeI j' 4).2) (j3 := j') (t_c (d_inT (dv 4) (dv 2))) (fun _ => d_call h61 (by exact hr) (by exact ok.gd) 4 ⟨by decide, by decide, hj'⟩ ht (a_ja 0 rfl rfl (.inr (.inl rfl)) (a_im d_int a_nil))) fun _ => d_int) ?_ ?_
    · unfold weighJ
      split <;> rfl
    · unfold weighJ
      split <;> rfl
  · have hsl : 0 < span.length := List.length_pos_iff.mpr hs
    have oa := one_at (d := 0) a2 hs
    have hin' := hin _ a4
    refine hb_setItem 3 rfl rfl (.inr (.inl rfl)) (d_add d_int (d_call h61 hr ok.gd 3 ⟨by decide, by decide, a1⟩ ht (a_ja 0 rfl rfl (.inr (.inl rfl)) (a_im d_int a_nil)))) (d_call h62 hr ok.gd span ⟨hs, by omega, a2⟩ ht (a_ja 0 rfl rfl (.inr (.inl rfl)) (a_im (dv 2) a_nil))) hin'.1 (by rw [a6]; omega) ?_
    generalize hws : (mapJ (weighJ span) j (rangeI 0 n)).1.set (oneI 0 (takeI (mapJ (weighJ span) j (rangeI 0 n)).2 3).2 span).1.toNat (1 + (takeI (mapJ (weighJ span) j (rangeI 0 n)).2 3).1) = ws at a5 a7 a8 a9
    have hsj : shareJ n j span = (ws.map fun x => Rat.divInt x ws.sum, (oneI 0 (takeI (mapJ (weighJ span) j (rangeI 0 n)).2 3).2 span).2) := by
      rw [← hws]
      rfl
    have hsz : 0 < ws.sum ∧ ws.sum.natAbs < 2 ^ 8999 := ⟨by omega, Nat.lt_of_lt_of_le (show ws.sum.natAbs < 2 ^ 6 by omega) (Nat.pow_le_pow_right (by decide) (by decide))⟩
    have hz2 : ws.length ≤ 100000 := by rw [a5]; omega
    refine hb_ret (d_tupB ok (LcD.m (lc_map (A := rInt) (xs := ws) (own := [("weight", 5)]) (fun x => Rat.divInt x ws.sum) (blk_at ["jar", "n", "span", "weights", "c", "weight"] (defScope (top 88)) ⟨rfl, by decide +kernel, by decide +kernel, by decide +kernel, by decide +kernel⟩) (i_lst (bm 3 (by rw [← hws]; rfl))) (tc_name 5 ok.nd rfl rfl) hz2 fun x hx s H C cl fp => d_call h66 (by exact hr) (by exact ok.gd) (x, ws.sum) hsz ht (a_im (dv 5) (a_im (d_sumI (by exact ok.blk _ _ _ _ _ _) (bm 3 (by rw [← hws]; rfl))) a_nil))) rfl ok.nd).toB) ⟨?_, ?_⟩
    · exact (congrArg Prod.fst hsj).symm
    · exact (congrArg Prod.snd hsj).symm
abbrev SharesPre (n : Int) (sp : List (List Int)) (j : Int × Int) : Prop := JOk j ∧ 1 ≤ n ∧ n ≤ 16 ∧ sp.length ≤ 40 ∧ ∀ s ∈ sp, s ≠ [] ∧ (∀ c ∈ s, 0 ≤ c ∧ c < n) ∧ s.length ≤ 16
theorem shareJ_ok {n : Int} {j : Int × Int} {span : List Int} (h : SharePre n span j) : JOk (shareJ n j span).2 := by
  obtain ⟨hj, n1, n2, hs, hin, hl⟩ := h
  have ws := ws_ok hj n1 n2 hs hin hl
  exact ws.2.2.1
abbrev S89 {K : PySem.W.Frag} (T : Tbs) : Sp := SpD (K := K) T (fun i : Int × List (List Int) => [.ja, .im rBk i]) (fun i j => SharesPre i.1 i.2 j) rShs (fun i j => sharesJ i.1 i.2 j)
theorem ok89 (hblt : ∀ n ∈ bltNames, mg n = none) (h88 : Has Pg w K mg base lev "_law_any_share" ["jar", "n", "span"] (S88 (K := K) T)) (F : FnP K "_law_any_shares" (top 89) fa fd) : FnG Pg w K mg base (lev + 1) fa fd ["jar", "book"] (S89 (K := K) T) := by
  refine def_ok F (N := ["jar", "book", "span"]) ⟨rfl, rfl, rfl, by decide +kernel, rfl, by decide +kernel, by decide +kernel⟩ (fun _ => rfl) (by decide) hblt fun cdv Ar outer s0 H E hcd ok hr i k w0 j ht h => ?_
  obtain ⟨n, sp⟩ := i
  obtain ⟨hj, n1, n2, hl, hs⟩ := h
  have hl : sp.length ≤ 40 := hl
  have hs : ∀ s ∈ sp, s ≠ [] ∧ (∀ c ∈ s, 0 ≤ c ∧ c < n) ∧ s.length ≤ 16 := hs
  have hpre : ∀ s ∈ sp, ∀ j, JOk j → SharePre n s j := fun s hs' j hj => ⟨hj, n1, n2, (hs s hs').1, (hs s hs').2.1, (hs s hs').2.2⟩
  exact hb_ret (d_tupB ok (LcD.m (lc_mapJ (A := rSpn) (B := rTup rQ) (xs := sp) (own := [("span", 2)]) JOk (shareJ n) (blk_at ["jar", "book", "span"] (defScope (top 89)) ⟨rfl, by decide +kernel, by decide +kernel, by decide +kernel, by decide +kernel⟩) (f_tup (d_snd (x := n) (dv 1))) (tc_name 2 ok.nd rfl rfl) (by omega) hj (fun s hs' j hj => shareJ_ok (hpre s hs' j hj)) fun s hs' j' hj' s2 H C cl fp => d_call h88 (by exact hr) (by exact ok.gd) (n, s) (hpre s hs' j' hj') ht (a_ja 0 rfl rfl (.inr (.inl rfl)) (a_im (d_fst (y := sp) (dv 1)) (a_im (dv 2) a_nil)))) rfl ok.nd).toB) ⟨rfl, rfl⟩
/-! ### paths -/
abbrev Path3 := List Int × Rat × Rat
abbrev rP3 {K : PySem.W.Frag} : RT K Path3 := rTri (rTup rInt) rQ rQ
def meanW (ps : List Path3) : Rat := sumQ (ps.map fun p => p.2.1 * p.2.2)
abbrev PathsOk (ps : List Path3) : Prop := ps.length ≤ 1000 ∧ ∀ p ∈ ps, Ok 45 1 p.2.1 ∧ Ok 60 100 p.2.2
abbrev S94 {K : PySem.W.Frag} (T : Tbs) : Sp := SpD (K := K) T (fun i : List Path3 => [.bo rP3 i]) (fun i _ => PathsOk i) rQ (fun i j => (meanW i, j))
theorem ok94 (hblt : ∀ n ∈ bltNames, mg n = none) (h68 : Has Pg w K mg base lev "_law_times" ["one", "two"] (S_bin (K := K) T rQ (Sz2 4000) (· * ·))) (h72 : Has Pg w K mg base lev "_law_sum_all" ["rows"] (S_sum (K := K) T)) (F : FnP K "_law_mean_worth" (top 94) fa fd) : FnG Pg w K mg base (lev + 1) fa fd ["paths"] (S94 (K := K) T) := by
  refine def_ok F (N := ["paths", "path", "chance", "worth_now"]) ⟨rfl, rfl, rfl, by decide +kernel, rfl, by decide +kernel, by decide +kernel⟩ (fun _ => rfl) (by decide) hblt fun cdv Ar outer s0 H E hcd ok hr i k w0 j ht ⟨hl, h⟩ => ?_
  have hx : ∀ x ∈ i.map fun p => p.2.1 * p.2.2, Ok 105 100 x := fun x hx => by
    obtain ⟨p, hp, rfl⟩ := List.mem_map.mp hx
    exact ((h p hp).1.mul (h p hp).2).up (Nat.le_refl _) (by decide)
  exact hb_ret (d_call h72 hr ok.gd (i.map fun p => p.2.1 * p.2.2) (sumOk_of 105 100 (by decide) (by rw [List.length_map]; omega) hx) ht (a_bo (LcD.m (lc_map (A := rP3) (xs := i) (own := [("path", 1), ("chance", 2), ("worth_now", 3)]) (fun p => p.2.1 * p.2.2) (blk_at ["paths", "path", "chance", "worth_now"] (defScope (top 94)) ⟨rfl, by decide +kernel, by decide +kernel, by decide +kernel, by decide +kernel⟩) (i_lst (bb 0)) (tc_tri 1 2 3 rfl ok.nd rfl rfl rfl rfl rfl rfl) (Nat.le_trans hl (by decide)) fun p hp s H C cl fp => d_call h68 (by exact hr) (by exact ok.gd) (p.2.1, p.2.2) ⟨ok_sz (h p hp).1 (by decide) (by decide), ok_sz (h p hp).2 (by decide) (by decide)⟩ ht (a_im (dv 2) (a_im (dv 3) a_nil))) rfl ok.nd).toB a_nil)) ⟨rfl, rfl⟩
end
end Fm
set_option maxHeartbeats 1000000
namespace Fm
open PySem PySem.Spec PyProof.Rows L2
open PySem.W (alike alikeAll dataLt Sortable)
open Rq (Sz Ok OkD)
/-! ### paths down, plainly -/
def endI (p : Path3) : Int := p.1.getLastD 0
def someI (picks : List (List Int)) (p : Path3) : List Int := picks.getD (endI p).toNat []
def kidN (n : Nat) (p : Path3) (i : Int) : Path3 := (p.1 ++ [i], p.2.1 * (1 / ((n : Nat) : Rat)), p.2.2 + ((n - 1 : Nat) : Rat) / ((n : Nat) : Rat))
def pthR (picks : List (List Int)) : Nat → Path3 → List Path3
  | 0, _ => []
  | d + 1, p => if someI picks p = [] then [p] else ((someI picks p).map (kidN (someI picks p).length p)).reverse.flatMap (pthR picks d)
def szN (picks : List (List Int)) : Nat → Int → Nat
  | 0, _ => 0
  | d + 1, l => 1 + ((picks.getD l.toNat []).map (szN picks d)).sum
structure PickOk (picks : List (List Int)) : Prop where
  len : picks.length ≤ 40
  lt : ∀ l i, 0 ≤ l → l < ((picks.length : Nat) : Int) → i ∈ picks.getD l.toNat [] → 0 ≤ i ∧ i < l
  few : ∀ l, 0 ≤ l → l < ((picks.length : Nat) : Int) → (picks.getD l.toNat []).length ≤ 16
theorem last_snoc {q : List Int} {l : Int} {r : Rat × Rat} : endI (q ++ [l], r) = l := by
  unfold endI
  simp
theorem pthR_fuel {picks : List (List Int)} (h : PickOk picks) : ∀ d (p : Path3), 0 ≤ endI p → endI p < ((picks.length : Nat) : Int) → endI p < ((d : Nat) : Int) → pthR picks d p = pthR picks (d + 1) p
  | 0, p, h0, _, h1 => by omega
  | d + 1, p, h0, hl, h1 => by
    show (if someI picks p = [] then [p] else _) = if someI picks p = [] then [p] else _
    split
    · rfl
    · rw [List.flatMap_def, List.flatMap_def]
      congr 1
      apply List.map_congr_left
      intro q hq
      obtain ⟨i, hi, rfl⟩ := List.mem_map.mp (List.mem_reverse.mp hq)
      obtain ⟨i0, i1⟩ := h.lt _ i h0 hl hi
      have e : endI (kidN (someI picks p).length p i) = i := last_snoc
      exact pthR_fuel h d _ (by rw [e]; exact i0) (by rw [e]; omega) (by rw [e]; omega)
theorem szN_fuel {picks : List (List Int)} (h : PickOk picks) : ∀ d (l : Int), 0 ≤ l → l < ((picks.length : Nat) : Int) → l < ((d : Nat) : Int) → szN picks d l = szN picks (d + 1) l
  | 0, l, h0, _, h1 => by omega
  | d + 1, l, h0, hl, h1 => by
    show 1 + _ = 1 + _
    congr 2
    apply List.map_congr_left
    intro i hi
    obtain ⟨i0, i1⟩ := h.lt _ i h0 hl hi
    exact szN_fuel h d _ i0 (by omega) (by omega)
theorem pthR_eq {picks : List (List Int)} (h : PickOk picks) {p : Path3} (h0 : 0 ≤ endI p) (hl : endI p < ((picks.length : Nat) : Int)) : pthR picks 41 p = if someI picks p = [] then [p] else ((someI picks p).map (kidN (someI picks p).length p)).reverse.flatMap (pthR picks 41) := by
  have := h.len
  rw [pthR_fuel h 41 p h0 hl (by omega)]
  rfl
theorem szN_eq {picks : List (List Int)} (h : PickOk picks) {l : Int} (h0 : 0 ≤ l) (hl : l < ((picks.length : Nat) : Int)) : szN picks 41 l = 1 + ((picks.getD l.toNat []).map (szN picks 41)).sum := by
  have := h.len
  rw [szN_fuel h 41 l h0 hl (by omega)]
  rfl
/-- a path on the way -/
structure NodeOk (picks : List (List Int)) (p : Path3) : Prop where
  at_ : ∃ q l, p.1 = q ++ [l] ∧ endI p = l ∧ 0 ≤ l ∧ l < ((picks.length : Nat) : Int) ∧ ((q.length : Nat) : Int) + l ≤ 40
  ch : Ok p.1.length 1 p.2.1
  wo : Ok 45 p.1.length p.2.2
theorem one_ok {n : Nat} (h : 1 ≤ n) (h2 : n ≤ 16) : Ok 1 1 (1 / ((n : Nat) : Rat)) := (Ok.one 0 (Nat.le_refl 1)).div h h2
theorem NodeOk.kid {picks : List (List Int)} (h : PickOk picks) {p : Path3} (np : NodeOk picks p) {i : Int} (hi : i ∈ someI picks p) : NodeOk picks (kidN (someI picks p).length p i) := by
  obtain ⟨⟨q, l, e1, e2, l0, l1, l2⟩, c, w⟩ := np
  have hi' : i ∈ picks.getD l.toNat [] := by
    unfold someI at hi
    rwa [e2] at hi
  obtain ⟨i0, i1⟩ := h.lt l i l0 l1 hi'
  have hf := h.few l l0 l1
  have hs : someI picks p = picks.getD l.toNat [] := by unfold someI; rw [e2]
  have h16 : (someI picks p).length ≤ 16 := by rw [hs]; exact hf
  have hp := List.length_pos_of_mem hi
  have hl : (kidN (someI picks p).length p i).1.length = p.1.length + 1 := by
    show (p.1 ++ [i]).length = _
    rw [List.length_append]
    rfl
  refine ⟨⟨p.1, i, rfl, last_snoc, i0, by omega, ?_⟩, ?_, ?_⟩
  · rw [e1, List.length_append, List.length_singleton]
    omega
  · rw [hl]
    exact c.mul (one_ok hp h16)
  · rw [hl]
    exact w.add ((near_ok hp h16).up (e' := 45) (by decide) (Nat.le_refl _))
theorem NodeOk.len {picks : List (List Int)} {p : Path3} (np : NodeOk picks p) : p.1.length ≤ 41 := by
  obtain ⟨q, l, e1, _, l0, _, l2⟩ := np.at_
  rw [e1, List.length_append, List.length_singleton]
  omega
def d3 (p : Path3) : PyData := .tuple [dSpn p.1, dQ p.2.1, dQ p.2.2]
def sortP (ps : List Path3) : List Path3 := ps.mergeSort fun x y => !dataLt (d3 y) (d3 x)
theorem rd_P3 {K : PySem.W.Frag} : RD (rP3 (K := K)) d3 2 := RD.tri (RD.tup RD.int) RD.rat RD.rat
theorem al_Q (x y : Rat) : alike (dQ x) (dQ y) = true := al_pair (d := PyData.int) (f := PyData.int) al_int al_int (x.num, (x.den : Int)) (y.num, (y.den : Int))
theorem al_P3 (x y : Path3) : alike (d3 x) (d3 y) = true := al_tri (d := dSpn) (f := dQ) (g := dQ) (al_tup al_int) al_Q al_Q x y
theorem sort_P3 (ps : List Path3) : Sortable (ps.map d3) := .inl fun d hd => by
  obtain ⟨p, _, rfl⟩ := List.mem_map.mp hd
  exact ⟨_, _, rfl⟩
theorem near_div {m : Nat} (h : 1 ≤ m) : Rat.divInt (((m : Nat) : Int) - 1) ((m : Nat) : Int) = ((m - 1 : Nat) : Rat) / ((m : Nat) : Rat) := by
  obtain ⟨e1, e2⟩ := near_eq h
  rw [← Rat.num_divInt_den (((m - 1 : Nat) : Rat) / ((m : Nat) : Rat)), e1, e2]
theorem one_eq {m : Nat} (h : 1 ≤ m) : (1 / ((m : Nat) : Rat)).num = 1 ∧ ((1 / ((m : Nat) : Rat)).den : Int) = ((m : Nat) : Int) := by
  have hc : Nat.Coprime ((1 : Int)).natAbs m := by
    show Nat.gcd 1 m = 1
    exact Nat.gcd_one_left m
  have e : 1 / ((m : Nat) : Rat) = ⟨1, m, by omega, hc⟩ := by
    have := Rat.num_divInt_den ⟨1, m, by omega, hc⟩
    rw [← this]
    have e2 := Rq.div_eq 1 ((m : Nat) : Rat)
    rw [Rat.num_natCast, Rat.den_natCast] at e2
    rw [← e2]
    simp
  rw [e]
  exact ⟨rfl, rfl⟩
section
variable {Pg : Program} {w : World} {K : PySem.W.Frag} {mg : Str → Option Value} {base : Heap} {fa : Addr} {fd : FuncData} {T : Tbs} {lev : Nat}
theorem d_inv {X : Cx} {k : Kx} {w0 : Wd} {Γ : List (Slot X.K)} {j j1 j2 : Int × Int} {a b : Expr} {m0 : Nat} {pos : Pos} {m : Nat} (h : 1 ≤ m) (ha : EvD X k w0 Γ j a rInt 1 j1) (hb : EvD X k w0 Γ j1 b rInt ((m : Nat) : Int) j2) (h1 : starEach [a, b] X.env = (false, eval a X.env) :: starEach [b] X.env := by rfl) (h2 : starEach [b] X.env = (false, eval b X.env) :: starEach [] X.env := by rfl) :
    EvD X k w0 Γ j (.Tuple [a, b] m0 pos) rQ (1 / ((m : Nat) : Rat)) j2 := (d_pair ha hb h1 h2).toQ (one_eq h).1.symm (one_eq h).2.symm
abbrev S93 {K : PySem.W.Frag} (T : Tbs) : Sp := SpM (K := K) T (fun i : List (List Int) × List (List Int) × Int => [.bo (rLst rInt) i.1, .bo (rLst rInt) i.2.1, .im rInt i.2.2]) (fun i _ => PickOk i.2.1 ∧ 0 ≤ i.2.2 ∧ i.2.2 < ((i.2.1.length : Nat) : Int) ∧ szN i.2.1 41 i.2.2 ≤ 1000) rP3 (fun i j => (sortP (pthR i.2.1 41 ([i.2.2], 1, 1)), j))
theorem ok93 (hblt : ∀ n ∈ bltNames, mg n = none) (h66 : Has Pg w K mg base lev "_law_frac" ["p", "q"] (S14 (K := K) T)) (h67 : HPlus Pg w K mg base lev T) (h68 : Has Pg w K mg base lev "_law_times" ["one", "two"] (S_bin (K := K) T rQ (Sz2 4000) (· * ·))) (F : FnP K "_law_paths_by" (top 93) fa fd) : FnG Pg w K mg base (lev + 1) fa fd ["tree", "picks", "k"] (S93 (K := K) T) := by
  refine def_okM F (N := ["tree", "picks", "k", "found", "work", "path", "chance", "worth_now", "some", "i", "more"]) ⟨rfl, rfl, rfl, by decide +kernel, rfl, by decide +kernel, by decide +kernel⟩ (fun _ => rfl) (by decide) hblt fun cdv Ar outer s0 H E hcd ok hr i k w0 j ht h => ?_
  obtain ⟨tree, picks, r⟩ := i
  obtain ⟨h, r0, r1, hsz⟩ := h
  have h : PickOk picks := h
  have r0 : 0 ≤ r := r0
  have r1 : r < ((picks.length : Nat) : Int) := r1
  have hsz : szN picks 41 r ≤ 1000 := hsz
  have hlen := h.len
  let root : Path3 := ([r], 1, 1)
  refine hb_par ok 3 4 (s := .mu rP3 []) (s1 := .mu rP3 [root]) rfl rfl rfl rfl (by decide) (x_m (m_lst r_nil (Nat.zero_le _))) (x_m (m_lst (r_cons (d_tri (d_tupR (r_cons (dv 2) r_nil) (by show 1 ≤ 100000; decide)) d_one1 d_one1) r_nil) (by show 1 ≤ 100000; decide))) ?_
  refine hb_while ok (fun m Γ' j' => j' = j ∧ ∃ found work s1 s2 s3 s4 s5 s6, Γ' = [.bo (rLst rInt) tree, .bo (rLst rInt) picks, .im rInt r, .mu rP3 found, .mu rP3 work, s1, s2, s3, s4, s5, s6] ∧ found ++ work.reverse.flatMap (pthR picks 41) = pthR picks 41 root ∧ (∀ p ∈ work, NodeOk picks p) ∧ found.length + (work.map fun p => szN picks 41 (endI p)).sum ≤ 1000 ∧ (work.map fun p => szN picks 41 (endI p)).sum = m) (m0 := szN picks 41 r) ⟨rfl, [], [root], .un, .un, .un, .un, .un, .un, rfl, ?_, ?_, ?_, ?_⟩ ?_
  · simp
  · intro p hp
    rw [List.mem_singleton.mp hp]
    exact ⟨⟨[], r, rfl, rfl, r0, r1, by show (0 : Int) + r ≤ 40; omega⟩, Ok.one _ (Nat.le_refl 1), Ok.one _ (Nat.le_refl 1)⟩
  · show 0 + (szN picks 41 r + 0) ≤ 1000
    omega
  · show szN picks 41 r + 0 = _
    omega
  rintro m Γ' j' ⟨rfl, found, work, s1, s2, s3, s4, s5, s6, rfl, hinv, hnodes, hbound, rfl⟩
  refine ⟨!decide (work = []), j', t_c (d_neB (hu64 ok) rd_P3 (by decide) (bm 4) (m_lst r_nil (Nat.zero_le _)).toB), fun hu => ?_, fun hu => ?_⟩
  · have hw : work ≠ [] := by simpa using hu
    obtain ⟨w', p, rfl⟩ : ∃ w' p, work = w' ++ [p] := ⟨work.dropLast, work.getLast hw, (List.dropLast_concat_getLast hw).symm⟩
    have np := hnodes p (List.mem_append_right _ List.mem_cons_self)
    have hpl := np.len
    obtain ⟨q, l, e1, e2, l0, l1, l2⟩ := np.at_
    obtain ⟨p1, pc, pw⟩ := p
    have e1 : p1 = q ++ [l] := e1
    subst e1
    let p : Path3 := (q ++ [l], pc, pw)
    have zc : Ok 45 1 pc := np.ch.up (by omega) (Nat.le_refl _)
    have zw : Ok 45 100 pw := np.wo.up (Nat.le_refl _) (by omega)
    let so := picks.getD l.toNat []
    have hso : someI picks p = so := by show picks.getD (endI p).toNat [] = _; rw [e2]
    have h16 : so.length ≤ 16 := h.few l l0 l1
    have hwl : w'.length + 1 ≤ 1000 ∧ found.length ≤ 1000 := by
      have hs : ∀ (xs : List Path3), (∀ x ∈ xs, NodeOk picks x) → xs.length ≤ (xs.map fun p => szN picks 41 (endI p)).sum := by
        intro xs
        induction xs with
        | nil => intro _; simp
        | cons x xs ih =>
          intro hx
          have := ih fun y hy => hx y (List.mem_cons_of_mem _ hy)
          obtain ⟨q2, l2, f1, f2, f3, f4, f5⟩ := (hx x List.mem_cons_self).at_
          rw [List.map_cons, List.sum_cons, List.length_cons, f2, szN_eq h f3 f4]
          omega
      have := hs _ hnodes
      rw [List.length_append, List.length_singleton] at this
      omega
    have hsum : ((w' ++ [p]).map fun p => szN picks 41 (endI p)).sum = (w'.map fun p => szN picks 41 (endI p)).sum + (1 + (so.map (szN picks 41)).sum) := by
      rw [List.map_append, List.sum_append]
      show _ + (szN picks 41 (endI p) + 0) = _
      rw [e2, szN_eq h l0 l1]
      rfl
    have hflat : (w' ++ [p]).reverse.flatMap (pthR picks 41) = pthR picks 41 p ++ w'.reverse.flatMap (pthR picks 41) := by
      rw [List.reverse_append]
      rfl
    have hpR := pthR_eq h (p := p) (by rw [e2]; exact l0) (by rw [e2]; exact l1)
    rw [hso] at hpR
    let ks := so.map (kidN so.length p)
    have hks : ((w' ++ ks).map fun p => szN picks 41 (endI p)).sum = (w'.map fun p => szN picks 41 (endI p)).sum + (so.map (szN picks 41)).sum := by
      rw [List.map_append, List.sum_append]
      congr 2
      show (so.map (kidN so.length p)).map _ = _
      rw [List.map_map]
      apply List.map_congr_left
      intro i _
      show szN picks 41 (endI (kidN so.length p i)) = _
      rw [show endI (kidN so.length p i) = i from last_snoc]
    let fd' := if so = [] then found ++ [p] else found
    refine hb_popT 4 (tg_tri 5 6 7 rfl ok.nd rfl rfl rfl (.inl rfl) (.inl rfl) (.inl rfl)) rfl rfl (.inl rfl) ?_
    refine st_ ok (s := .im (rLst rInt) so) 8 (x_d (d_ixB (bb 1) (d_lastT (xs := q) (x := l) (dv 5)) l0 (getD_of (d := []) (by omega)))) ?_
    refine hb_if2 (Γ1 := [.bo (rLst rInt) tree, .bo (rLst rInt) picks, .im rInt r, .mu rP3 fd', .mu rP3 w', .im (rTup rInt) (q ++ [l]), .im rQ pc, .im rQ pw, .im (rLst rInt) so, s5, s6]) (j2 := j') (t_c (d_eqB (hu64 ok) RD.int (by decide) (dv 8 (A := rLst rInt)).toB (m_lst r_nil (Nat.zero_le _)).toB)) (fun hu => ?_) (fun hu => ?_) ?_
    · have hs0 : so = [] := of_decide_eq_true hu
      refine hb_append 3 rfl rfl (.inl rfl) (d_tri (dv 5) (dv 6) (dv 7)) (by omega) (hb_nil ⟨?_, rfl⟩)
      show _ = [Slot.bo (rLst rInt) tree, .bo (rLst rInt) picks, .im rInt r, .mu rP3 (if so = [] then found ++ [p] else found), .mu rP3 w', .im (rTup rInt) (q ++ [l]), .im rQ pc, .im rQ pw, .im (rLst rInt) so, s5, s6]
      rw [if_pos hs0]
      rfl
    · have hs0 : so ≠ [] := of_decide_eq_false hu
      refine hb_nil ⟨?_, rfl⟩
      show _ = [Slot.bo (rLst rInt) tree, .bo (rLst rInt) picks, .im rInt r, .mu rP3 (if so = [] then found ++ [p] else found), .mu rP3 w', .im (rTup rInt) (q ++ [l]), .im rQ pc, .im rQ pw, .im (rLst rInt) so, s5, s6]
      rw [if_neg hs0]
      rfl
    refine hb_forJ (τ := Slot K × Slot K) ok (fun n t => [.bo (rLst rInt) tree, .bo (rLst rInt) picks, .im rInt r, .mu rP3 fd', .mu rP3 (w' ++ ks.take n), .im (rTup rInt) (q ++ [l]), .im rQ pc, .im rQ pw, .im (rLst rInt) so, t.1, t.2]) (fun _ => j') (f_lst (dv 8 (A := rLst rInt)).toS) (tg_name 9 ok.nd rfl (.inl rfl)) ⟨(s5, s6), by rw [List.take_zero, List.append_nil]⟩ rfl (fun n x t hx => ?_) fun t => ?_
    · have hso1 : 1 ≤ so.length := List.length_pos_of_mem (mem_of_get hx)
      have g1 := near_ok hso1 h16
      have g2 := one_ok hso1 h16
      have hsz1 : (0 : Int) < ((so.length : Nat) : Int) ∧ (((so.length : Nat) : Int)).natAbs < 2 ^ 8999 := ⟨by omega, Nat.lt_of_lt_of_le (show (((so.length : Nat) : Int)).natAbs < 2 ^ 5 by omega) (Nat.pow_le_pow_right (by decide) (by decide))⟩
      refine st_ ok (s := .im rQ (pw + ((so.length - 1 : Nat) : Rat) / ((so.length : Nat) : Rat))) 10 (x_d (d_call h67 hr ok.gd (pw, ((so.length - 1 : Nat) : Rat) / ((so.length : Nat) : Rat)) ⟨ok_sz zw (by decide) (by decide), ok_sz g1 (by decide) (by decide)⟩ ht (a_im (dv 7) (a_im (EvD.is2 (d_call h66 hr ok.gd (((so.length : Nat) : Int) - 1, ((so.length : Nat) : Int)) hsz1 ht (a_im (d_sub (d_lenB ok (dv 8 (A := rLst rInt)).toB) d_int) (a_im (d_lenB ok (dv 8 (A := rLst rInt)).toB) a_nil))) (near_div hso1) rfl) a_nil)))) ?_
      have hkl : (ks.take n).length ≤ 16 := by rw [List.length_take, List.length_map]; omega
      refine hb_append 4 rfl rfl (.inl rfl) (x := kidN so.length p x) (d_tri (d_catT (dv 5) (d_tupR (r_cons (dv 9) r_nil) (by show 1 ≤ 100000; decide)) (by show (q ++ [l]).length + 1 ≤ 100000; have : (q ++ [l]).length ≤ 41 := hpl; omega)) (d_call h68 hr ok.gd (pc, 1 / ((so.length : Nat) : Rat)) ⟨ok_sz zc (by decide) (by decide), ok_sz g2 (by decide) (by decide)⟩ ht (a_im (dv 6) (a_im (d_inv hso1 d_int (d_lenB ok (dv 8 (A := rLst rInt)).toB)) a_nil))) (dv 10)) (by rw [List.length_append]; omega) (hb_nil ⟨⟨(.im rInt x, .im rQ (pw + ((so.length - 1 : Nat) : Rat) / ((so.length : Nat) : Rat))), ?_⟩, rfl⟩)
      have hkx : ks[n]? = some (kidN so.length p x) := by rw [List.getElem?_map, hx]; rfl
      rw [take_succ_of hkx, ← List.append_assoc]
      rfl
    · have hkl : ks.length = so.length := List.length_map _
      refine hb_nil ⟨(w'.map fun p => szN picks 41 (endI p)).sum + (so.map (szN picks 41)).sum, by rw [hsum]; omega, rfl, fd', w' ++ ks, .im (rTup rInt) (q ++ [l]), .im rQ pc, .im rQ pw, .im (rLst rInt) so, t.1, t.2, ?_, ?_, ?_, ?_, ?_⟩
      · rw [← hkl, List.take_length]
      · rw [← hinv, hflat, hpR, List.reverse_append, List.flatMap_append]
        show (if so = [] then found ++ [p] else found) ++ _ = _
        by_cases hs0 : so = []
        · rw [if_pos hs0, if_pos hs0]
          have hk0 : ks = [] := by show so.map _ = []; rw [hs0]; rfl
          rw [hk0]
          simp
        · rw [if_neg hs0, if_neg hs0]
      · intro y hy
        rcases List.mem_append.mp hy with hy | hy
        · exact hnodes y (List.mem_append_left _ hy)
        · obtain ⟨i, hi, rfl⟩ := List.mem_map.mp hy
          have := NodeOk.kid h np (i := i) (by rw [hso]; exact hi)
          rw [hso] at this
          exact this
      · rw [hks]
        rw [hsum] at hbound
        show (if so = [] then found ++ [p] else found).length + _ ≤ 1000
        split
        · rw [List.length_append, List.length_singleton]
          omega
        · omega
      · exact hks
  · have hw : work = [] := by simpa using hu
    subst hw
    have hf : found = pthR picks 41 root := by simpa using hinv
    refine hb_retE (m_sortDB ok rd_P3 (by decide) al_P3 (sort_P3 found) (bm 3)) ⟨?_, rfl⟩
    rw [hf]
    rfl
end
end Fm
set_option maxHeartbeats 1000000
namespace Fm
open PySem PySem.Spec PyProof.Rows L2
open PySem.W (alike alikeAll dataLt Sortable)
open Rq (Sz Ok OkD)
/-! ### what the law's end asks of a nest -/
def livesI (sp : List (List Int)) : List (List Int) := (List.range sp.length).map fun k => activeI sp (pricesI sp) ((k : Nat) : Int)
def pathsI (picks : List (List Int)) (k : Int) : List Path3 := sortP (pthR picks 41 ([k], 1, 1))
abbrev D1 : Nat := Rq.L ^ 136
abbrev C1 : Nat := 41 ^ 16
def D2 : Nat := (List.range 48).foldl (fun a i => a * (i + 1)) 1
def dSc (x : List Int × Rat) : PyData := .tuple [dSpn x.1, dQ x.2]
theorem rd_Sc {K : PySem.W.Frag} : RD (rSc (K := K)) dSc 2 := RD.pair (RD.tup RD.int) RD.rat
def dScs (xs : List (List Int × Rat)) : PyData := .tuple (xs.map dSc)
/-- lots picked at each span -/
def PicksOf (sp picks : List (List Int)) : Prop := picks.length = sp.length ∧ ∀ k, 0 ≤ k → k < ((sp.length : Nat) : Int) → picks.getD k.toNat [] ∈ lotsI (kidsI sp k) ∨ (kidsI sp k = [] ∧ picks.getD k.toNat [] = [])
structure Shown (d : PyData) : Prop where
  show_ : d.showable = true
  lay : d.canLay0 = true
  size : d.shown.length ≤ sizeLine
structure LawOk (n : Int) (sp : List (List Int)) : Prop where
  nest : NestK n sp
  tree : TreeOk sp
  scr : ScrOk sp
  roots : rootsI sp = topsI sp
  pick : PickOk (livesI sp)
  psz : szN (livesI sp) 41 (dearI sp) ≤ 1000
  pok : PathsOk (pathsI (livesI sp) (dearI sp))
  same : (pathsI (livesI sp) (dearI sp)).map (fun p => (p.1, p.2.1)) = scrI sp 41 (dearI sp)
  mean : meanW (pathsI (livesI sp) (dearI sp)) = prI sp (dearI sp)
  picked : ∀ picks, PicksOf sp picks → PickOk picks ∧ ∀ k, 0 ≤ k → k < ((sp.length : Nat) : Int) → szN picks 41 k ≤ 1000 ∧ PathsOk (pathsI picks k) ∧ meanW (pathsI picks k) ≤ prI sp k
  shD : ShsD D1 C1 n sp (sharesI n.toNat sp)
  shR : ShsR n sp (sharesI n.toNat sp)
  worst : worstI n sp (sharesI n.toNat sp) = pageI sp
  drawn : ∀ j, JOk j → ShsD D2 1 n sp (sharesJ n sp j).1 ∧ pageI sp ≤ worstI n sp (sharesJ n sp j).1
  shQ : ∀ k, 0 ≤ k → k < ((sp.length : Nat) : Int) → Shown (dQ (prI sp k))
  shP : Shown (dQ (pageI sp))
  shS : Shown (dScs (scrI sp 41 (dearI sp)))
theorem livesI_len (sp : List (List Int)) : (livesI sp).length = sp.length := by unfold livesI; rw [List.length_map, List.length_range]
theorem rQ_ref {K : PySem.W.Frag} {x : Rat} : ∀ S v, (rQ (K := K)).r S v x → ∃ p, v = .ref p := fun _ _ ⟨p, _, _, h, _⟩ => ⟨p, h⟩
theorem rTup_ref {K : PySem.W.Frag} {α : Type} {A : RT K α} {x : List α} : ∀ S v, (rTup A).r S v x → ∃ p, v = .ref p := fun _ _ ⟨p, _, h, _⟩ => ⟨p, h⟩
theorem worst_sz {D c : Nat} {n : Int} {sp : List (List Int)} {sh : List (List Rat)} (h : ShsD D c n sp sh) : Sz 4000 (worstI n sp sh) := by
  have hm : worstI n sp sh ∈ (rangeI 0 n).map (feltI n sp sh) := maxQ_mem fun z => by
    have := congrArg List.length z
    rw [List.length_map, rangeI_len] at this
    have h1 := h.n1
    rw [List.length_nil] at this
    omega
  obtain ⟨d, _, e⟩ := List.mem_map.mp hm
  rw [← e]
  exact (felt_ok h d (Nat.le_refl _)).2
theorem page_sz {sp : List (List Int)} (h : KidsOk sp) : Sz 4000 (pageI sp) := by
  have hm : pageI sp ∈ (topsI sp).map fun c => (pricesI sp).getD c.toNat 0 := maxQ_mem fun z => h.top (List.map_eq_nil_iff.mp z)
  obtain ⟨c, hc, e⟩ := List.mem_map.mp hm
  rw [← e]
  exact Ok.sz4 (priceI_ok h (mem_of_get (priceI_at (tops_at hc).1 (tops_at hc).2))).2
section
variable {Pg : Program} {w : World} {K : PySem.W.Frag} {mg : Str → Option Value} {base : Heap} {fa : Addr} {fd : FuncData} {T : Tbs} {lev : Nat}
/-- the jar behind the drawn shares, turn by turn -/
def jarS (n : Int) (sp : List (List Int)) (j : Int × Int) : Nat → Int × Int
  | 0 => j
  | m + 1 => (sharesJ n sp (jarS n sp j m)).2
theorem sharesJ_jar {n : Int} {sp : List (List Int)} {j : Int × Int} (h : SharesPre n sp j) : JOk (sharesJ n sp j).2 := by
  obtain ⟨hj, n1, n2, hl, hs⟩ := h
  exact mapJ_inv (I := JOk) hj fun s hs' j hj => shareJ_ok ⟨hj, n1, n2, (hs s hs').1, (hs s hs').2.1, (hs s hs').2.2⟩
theorem rising_len {n : Int} : ∀ {s : List Int} {a : Int}, s.Pairwise (· < ·) → (∀ c ∈ s, a ≤ c ∧ c < n) → ((s.length : Nat) : Int) ≤ max 0 (n - a)
  | [], _, _, _ => by simp; omega
  | x :: s, a, h, hin => by
    obtain ⟨h1, h2⟩ := List.pairwise_cons.mp h
    have hx := hin x List.mem_cons_self
    have := rising_len (a := x + 1) h2 fun c hc => ⟨by have := h1 c hc; omega, (hin c (List.mem_cons_of_mem _ hc)).2⟩
    rw [List.length_cons]
    omega
theorem shares_pre {n : Int} {sp : List (List Int)} (h : Book n sp) {j : Int × Int} (hj : JOk j) : SharesPre n sp j := ⟨hj, h.n1, h.n2, h.l2, fun s hs => by
  obtain ⟨r1, r2, r3⟩ := h.ris s hs
  refine ⟨r1, r3, ?_⟩
  have := rising_len r2 r3
  have := h.n2
  omega⟩
abbrev S99 {K : PySem.W.Frag} (T : Tbs) : Sp := SpD (K := K) T (fun i : (Int × List (List Int)) => [.ja, .im rBk i, .im rQ (pageI i.2)]) (fun i j => LawOk i.1 i.2 ∧ JOk j) rBl (fun i j => (true, jarS i.1 i.2 j 2))
theorem ok99 (hblt : ∀ n ∈ bltNames, mg n = none) (h55 : Has Pg w K mg base lev "tree_shares" ["nest"] (S55 (K := K) T)) (h70 : HBelow Pg w K mg base lev T) (h89 : Has Pg w K mg base lev "_law_any_shares" ["jar", "book"] (S89 (K := K) T)) (h97 : Has Pg w K mg base lev "_law_worst_of" ["nest", "shares"] (S97 (K := K) T D1 C1)) (h97' : Has Pg w K mg base lev "_law_worst_of" ["nest", "shares"] (S97 (K := K) T D2 1)) (h98 : Has Pg w K mg base lev "_law_are_shares" ["nest", "thing"] (S98 (K := K) T D1 C1)) (F : FnP K "_law_shares_right" (top 99) fa fd) : FnG Pg w K mg base (lev + 1) fa fd ["jar", "nest", "page"] (S99 (K := K) T) := by
  refine def_ok F (N := ["jar", "nest", "page", "told", "turn"]) ⟨rfl, rfl, rfl, by decide +kernel, rfl, by decide +kernel, by decide +kernel⟩ (fun _ => rfl) (by decide) hblt fun cdv Ar outer s0 H E hcd ok hr i k w0 j ht ⟨h, hj⟩ => ?_
  obtain ⟨n, sp⟩ := i
  have h : LawOk n sp := h
  have hp := page_sz h.nest.toKidsOk
  refine st_ ok 3 (x_d (d_call h55 hr ok.gd (n, sp) h.nest ht (a_im (dv 1) a_nil))) ?_
  have hw : (!decide (worstI n sp (sharesI n.toNat sp) = pageI sp)) = false := by rw [decide_eq_true h.worst]; rfl
  refine hb_ifO (u := false) (w_t (w_or (u := false) (v := false) (t_not (u := true) (t_of (d_call h98 hr ok.gd ((n, sp), sharesI n.toNat sp) ⟨h.shD, h.shR⟩ ht (a_im (dv 1) (a_im (dv 3) a_nil))))) fun _ => w_or1 (t_c (EvD.is2 (d_neD (hu64 ok) RD.rat (by decide) (d_call h97 hr ok.gd ((n, sp), sharesI n.toNat sp) h.shD ht (a_im (dv 1) (a_im (dv 3) a_nil))) (dv 2)) hw rfl)))) (fun hu => nomatch hu) fun _ => ?_
  have hjs : ∀ m, JOk (jarS n sp j m) := fun m => by
    induction m with
    | zero => exact hj
    | succ m ih => exact sharesJ_jar (shares_pre h.nest.toBook ih)
  refine hb_forJ (τ := Slot K) ok (fun m s => [.ja, .im rBk (n, sp), .im rQ (pageI sp), .im rShs (sharesI n.toNat sp), s]) (jarS n sp j) (rg1 ok (m := 2) d_int (by decide)) (tg_name 4 ok.nd rfl (.inl rfl)) ⟨.un, rfl⟩ rfl (fun m x s hx => ?_) fun s => hb_ret d_bl ⟨rfl, rfl⟩
  obtain ⟨d1, d2⟩ := h.drawn (jarS n sp j m) (hjs m)
  refine hb_ifO (u := false) (t_of (EvD.is2 (d_call h70 hr ok.gd (worstI n sp (sharesJ n sp (jarS n sp j m)).1, pageI sp) ⟨(worst_sz d1).up (by decide), hp.up (by decide)⟩ ht (a_im (d_call h97' hr ok.gd ((n, sp), (sharesJ n sp (jarS n sp j m)).1) d1 ht (a_im (dv 1) (a_im (d_call h89 hr ok.gd (n, sp) (shares_pre h.nest.toBook (hjs m)) ht (a_ja 0 rfl rfl (.inl rfl) (a_im (dv 1) a_nil))) a_nil))) (a_im (dv 2) a_nil))) (decide_eq_false (Rat.not_lt.mpr d2)) rfl)) (fun hu => nomatch hu) fun _ => hb_nil ⟨⟨.im rInt x, rfl⟩, rfl⟩
end
end Fm
set_option maxHeartbeats 1000000
namespace Fm
open PySem PySem.Spec PyProof.Rows L2
open PySem.W (alike alikeAll dataLt Sortable)
open Rq (Sz Ok OkD)
section
variable {Pg : Program} {w : World} {K : PySem.W.Frag} {mg : Str → Option Value} {base : Heap} {fa : Addr} {fd : FuncData} {T : Tbs} {lev : Nat}
theorem dear_in {n : Int} {sp : List (List Int)} (h : LawOk n sp) : 0 ≤ dearI sp ∧ dearI sp < ((sp.length : Nat) : Int) := tops_at (dear_at h.nest.toKidsOk)
theorem prI_sz {n : Int} {sp : List (List Int)} (h : LawOk n sp) {k : Int} (h0 : 0 ≤ k) (h1 : k < ((sp.length : Nat) : Int)) : Sz 4000 (prI sp k) := Ok.sz4 (priceI_ok h.nest.toKidsOk (mem_of_get (priceI_at h0 h1))).2
theorem mean_szP {ps : List Path3} (h : PathsOk ps) : Sz 4000 (meanW ps) := by
  have hx : ∀ x ∈ ps.map fun p => p.2.1 * p.2.2, Ok 105 100 x := fun x hx => by
    obtain ⟨p, hp, rfl⟩ := List.mem_map.mp hx
    exact ((h.2 p hp).1.mul (h.2 p hp).2).up (Nat.le_refl _) (by decide)
  have hl := h.1
  have := sum_sz (sumOk_of 105 100 (by decide) (by rw [List.length_map]; omega) hx) (ps.map fun p => p.2.1 * p.2.2).length
  rw [List.take_length] at this
  exact this
abbrev S95 {K : PySem.W.Frag} (T : Tbs) : Sp := SpD (K := K) T (fun i : (Int × List (List Int)) => [.im rBk i, .bo (rLst rInt) (treeI i.2), .bo rQ (pricesI i.2), .im rInt (dearI i.2)]) (fun i j => LawOk i.1 i.2) rBl (fun i j => (true, j))
theorem ok95 (hblt : ∀ n ∈ bltNames, mg n = none) (h58 : Has Pg w K mg base lev "scripts" ["nest"] (S58 (K := K) T)) (h80 : Has Pg w K mg base lev "_law_live_kids" ["kids", "rows", "k"] (S80 (K := K) T)) (h93 : Has Pg w K mg base lev "_law_paths_by" ["tree", "picks", "k"] (S93 (K := K) T)) (h94 : Has Pg w K mg base lev "_law_mean_worth" ["paths"] (S94 (K := K) T)) (F : FnP K "_law_scripts_right" (top 95) fa fd) : FnG Pg w K mg base (lev + 1) fa fd ["nest", "tree", "rows", "root"] (S95 (K := K) T) := by
  refine def_ok F (N := ["nest", "tree", "rows", "root", "picks", "k", "paths", "path", "chance", "worth_now"]) ⟨rfl, rfl, rfl, by decide +kernel, rfl, by decide +kernel, by decide +kernel⟩ (fun _ => rfl) (by decide) hblt fun cdv Ar outer s0 H E hcd ok hr i k w0 j ht h => ?_
  obtain ⟨n, sp⟩ := i
  have h : LawOk n sp := h
  have hk := h.nest.toKidsOk
  have hl := hk.len
  obtain ⟨r0, r1⟩ := dear_in h
  have htl := treeI_len sp
  have hliv : (rangeI 0 (((treeI sp).length : Nat) : Int)).map (fun k => activeI sp (pricesI sp) k) = livesI sp := by
    unfold rangeI livesI
    rw [List.map_map, htl, Int.sub_zero, Int.toNat_natCast]
    apply List.map_congr_left
    intro m _
    show activeI sp (pricesI sp) (0 + ((m : Nat) : Int)) = _
    rw [Int.zero_add]
  have hpl := h.pok.1
  refine hb_setLc ok 4 rfl rfl (LcD.is (lc_map (A := rInt) (B := rLst rInt) (xs := rangeI 0 (((treeI sp).length : Nat) : Int)) (own := [("k", 5)]) (fun k => activeI sp (pricesI sp) k) (blk_at ["nest", "tree", "rows", "root", "picks", "k", "paths", "path", "chance", "worth_now"] (defScope (top 95)) ⟨rfl, by decide +kernel, by decide +kernel, by decide +kernel, by decide +kernel⟩) (rg1 ok (d_lenB ok (bb 1)) (by omega)) (tc_name 5 ok.nd rfl rfl) (by rw [rangeI_len]; omega) fun c hc s H C cl fp => (m_call h80 (by exact hr) (by exact ok.gd) (sp, c) ⟨hk, (mem_rangeI.mp hc).1, by have := (mem_rangeI.mp hc).2; show c < ((sp.length : Nat) : Int); omega⟩ ht (a_im (d_ixB (bb 1) (dv 5) (mem_rangeI.mp hc).1 (treeI_at (sp := sp) (k := c) (mem_rangeI.mp hc).1 (by have := (mem_rangeI.mp hc).2; omega))) (a_bo (bb 2) (a_im (dv 5) a_nil)))).toD) hliv) ?_
  refine st_ ok (s := .mu rP3 (pathsI (livesI sp) (dearI sp))) 6 (x_m (m_call h93 hr ok.gd (treeI sp, livesI sp, dearI sp) ⟨h.pick, r0, by show dearI sp < (((livesI sp).length : Nat) : Int); rw [livesI_len]; exact r1, h.psz⟩ ht (a_bo (bb 1) (a_bo (bm 4) (a_im (dv 3) a_nil))))) ?_
  have hne : (!decide ((dScs (scrI sp 41 (dearI sp))).shown = (dScs (scrI sp 41 (dearI sp))).shown)) = false := by rw [decide_eq_true rfl]; rfl
  refine hb_ifO (u := false) (t_c (EvD.is2 (d_neS (d_reprT (A := rTup rSc) (x := scrI sp 41 (dearI sp)) (d := dScs) ok (RD.tup rd_Sc) (by decide) rfl rTup_ref h.shS.show_ h.shS.lay h.shS.size (d_call h58 hr ok.gd (n, sp) ⟨h.nest.toNest, h.scr⟩ ht (a_im (dv 0) a_nil))) (d_reprT (A := rTup rSc) (x := scrI sp 41 (dearI sp)) (d := dScs) ok (RD.tup rd_Sc) (by decide) rfl rTup_ref h.shS.show_ h.shS.lay h.shS.size (EvD.is2 (d_tupB ok (LcD.m (lc_map (A := rP3) (B := rSc) (xs := pathsI (livesI sp) (dearI sp)) (own := [("path", 7), ("chance", 8), ("worth_now", 9)]) (fun p => (p.1, p.2.1)) (blk_at ["nest", "tree", "rows", "root", "picks", "k", "paths", "path", "chance", "worth_now"] (defScope (top 95)) ⟨rfl, by decide +kernel, by decide +kernel, by decide +kernel, by decide +kernel⟩) (i_lst (bm 6)) (tc_tri 7 8 9 rfl ok.nd rfl rfl rfl rfl rfl rfl) (Nat.le_trans hpl (by decide)) fun p hp s H C cl fp => d_pair (dv 7) (dv 8)) rfl ok.nd).toB) h.same rfl))) hne rfl)) (fun hu => nomatch hu) fun _ => ?_
  refine hb_ret (d_eqD (x := meanW (pathsI (livesI sp) (dearI sp))) (y := prI sp (dearI sp)) (hu64 ok) RD.rat (by decide) (d_call h94 hr ok.gd (pathsI (livesI sp) (dearI sp)) h.pok ht (a_bo (bm 6) a_nil)) (d_ixB (bb 2) (dv 3) r0 (priceI_at r0 r1))) ⟨decide_eq_true h.mean, rfl⟩
/-! ### drawn lots -/
def pickJ (j : Int × Int) (kids : List Int) : List Int × (Int × Int) := if (!decide (kids = [])) = true then oneI [] j (lotsI kids) else ([], j)
def picksJ (sp : List (List Int)) (j : Int × Int) : List (List Int) × (Int × Int) := mapJ pickJ j (treeI sp)
def jarP (sp : List (List Int)) (j : Int × Int) : Nat → Int × Int
  | 0 => j
  | m + 1 => (takeI (picksJ sp (jarP sp j m)).2 (((treeI sp).length : Nat) : Int)).2
theorem lots_ne {kids : List Int} (h : kids ≠ []) : lotsI kids ≠ [] := by
  intro z
  have : kids ∈ lotsI kids := lotsI_mem.mpr ⟨List.Sublist.refl _, h⟩
  rw [z] at this
  cases this
theorem pickJ_ok {kids : List Int} {j : Int × Int} (h : JOk j) : JOk (pickJ j kids).2 ∧ ((pickJ j kids).1 ∈ lotsI kids ∨ (kids = [] ∧ (pickJ j kids).1 = [])) := by
  unfold pickJ
  by_cases hk : kids = []
  · rw [if_neg (by simp [hk])]
    exact ⟨h, .inr ⟨hk, rfl⟩⟩
  · rw [if_pos (by simp [hk])]
    have hl := lots_ne hk
    have := one_at (d := []) h hl
    have hp : 0 < (lotsI kids).length := List.length_pos_iff.mpr hl
    exact ⟨(take_ok h (t := (((lotsI kids).length : Nat) : Int)) (by omega)).1, .inl (mem_of_get this.1)⟩
theorem mapJ_get {α β J : Type} {f : J → α → β × J} {I : J → Prop} {p : α → β → Prop} : ∀ {xs : List α} {j : J} {m : Nat} {x : α}, I j → (∀ x ∈ xs, ∀ j, I j → I (f j x).2 ∧ p x (f j x).1) → xs[m]? = some x → ∃ y, (mapJ f j xs).1[m]? = some y ∧ p x y
  | [], _, _, _, _, _, hx => by simp at hx
  | a :: xs, j, 0, x, hI, hf, hx => by
    have e : a = x := by simpa using hx
    subst e
    exact ⟨_, rfl, (hf a List.mem_cons_self j hI).2⟩
  | a :: xs, j, m + 1, x, hI, hf, hx => by
    obtain ⟨y, h1, h2⟩ := mapJ_get (xs := xs) (m := m) (hf a List.mem_cons_self j hI).1 (fun y hy => hf y (List.mem_cons_of_mem _ hy)) (by simpa using hx)
    exact ⟨y, h1, h2⟩
theorem picksJ_ok {sp : List (List Int)} {j : Int × Int} (h : JOk j) : JOk (picksJ sp j).2 ∧ PicksOf sp (picksJ sp j).1 := by
  refine ⟨mapJ_inv (I := JOk) h fun x _ j hj => (pickJ_ok hj).1, ?_, fun k h0 h1 => ?_⟩
  · show (mapJ _ _ _).1.length = _
    rw [mapJ_len, treeI_len]
  · obtain ⟨y, e1, e2⟩ := mapJ_get (I := JOk) (p := fun kids y => y ∈ lotsI kids ∨ (kids = [] ∧ y = [])) h (fun x _ j hj => pickJ_ok hj) (treeI_at h0 h1)
    have e : (picksJ sp j).1.getD k.toNat [] = y := by
      show (mapJ pickJ j (treeI sp)).1.getD k.toNat [] = y
      rw [List.getD_eq_getElem?_getD, e1]
      rfl
    rw [e]
    exact e2
abbrev S96 {K : PySem.W.Frag} (T : Tbs) : Sp := SpD (K := K) T (fun i : (Int × List (List Int)) => [.ja, .bo (rLst rInt) (treeI i.2), .bo rQ (pricesI i.2)]) (fun i j => LawOk i.1 i.2 ∧ JOk j) rBl (fun i j => (true, jarP i.2 j 3))
theorem jarP_ok {n : Int} {sp : List (List Int)} (h : LawOk n sp) {j : Int × Int} (hj : JOk j) (m : Nat) : JOk (jarP sp j m) := by
  have hp := h.nest.toKidsOk.pos
  induction m with
  | zero => exact hj
  | succ m ih => exact (take_ok (picksJ_ok ih).1 (by rw [treeI_len]; omega)).1
theorem ok96 (hblt : ∀ n ∈ bltNames, mg n = none) (h61 : Has Pg w K mg base lev "_law_take" ["jar", "top"] (S61 (K := K) T)) (h62 : Has Pg w K mg base lev "_law_one" ["jar", "things"] (S62l (K := K) T)) (h70 : HBelow Pg w K mg base lev T) (h90 : Has Pg w K mg base lev "_law_lots_of" ["things"] (S90 (K := K) T)) (h93 : Has Pg w K mg base lev "_law_paths_by" ["tree", "picks", "k"] (S93 (K := K) T)) (h94 : Has Pg w K mg base lev "_law_mean_worth" ["paths"] (S94 (K := K) T)) (F : FnP K "_law_picked_right" (top 96) fa fd) : FnG Pg w K mg base (lev + 1) fa fd ["jar", "tree", "rows"] (S96 (K := K) T) := by
  refine def_ok F (N := ["jar", "tree", "rows", "turn", "picks", "k", "kids"]) ⟨rfl, rfl, rfl, by decide +kernel, rfl, by decide +kernel, by decide +kernel⟩ (fun _ => rfl) (by decide) hblt fun cdv Ar outer s0 H E hcd ok hr i k w0 j ht ⟨h, hj⟩ => ?_
  obtain ⟨n, sp⟩ := i
  have h : LawOk n sp := h
  have hk := h.nest.toKidsOk
  have hl := hk.len
  have hp := hk.pos
  have htl := treeI_len sp
  refine hb_forJ (τ := Slot K × Slot K × Slot K × Slot K) ok (fun m s => [.ja, .bo (rLst rInt) (treeI sp), .bo rQ (pricesI sp), s.1, s.2.1, s.2.2.1, s.2.2.2]) (jarP sp j) (rg1 ok (m := 3) d_int (by decide)) (tg_name 3 ok.nd rfl (.inl rfl)) ⟨(.un, .un, .un, .un), rfl⟩ rfl (fun m x s hx => ?_) fun s => hb_ret d_bl ⟨rfl, rfl⟩
  have hjm := jarP_ok h hj m
  obtain ⟨q1, q2⟩ := picksJ_ok (sp := sp) hjm
  have ht2 := take_ok q1 (t := (((treeI sp).length : Nat) : Int)) (by omega)
  obtain ⟨c1, c2⟩ := h.picked _ q2
  let kk := (takeI (picksJ sp (jarP sp j m)).2 (((treeI sp).length : Nat) : Int)).1
  have k0 : 0 ≤ kk := ht2.2.1
  have k1 : kk < ((sp.length : Nat) : Int) := by have := ht2.2.2; omega
  obtain ⟨z1, z2, z3⟩ := c2 kk k0 k1
  have h7 : ∀ kids ∈ treeI sp, kids.length ≤ 7 := fun kids hkids => by
    obtain ⟨m, hm, rfl⟩ := List.mem_map.mp hkids
    have := List.mem_range.mp hm
    exact h.tree.few7 _ (by omega) (by omega)
  refine hb_par ok 4 5 (s := .mu (rLst rInt) (picksJ sp (jarP sp j m)).1) (s1 := .im rInt kk) (j1 := (picksJ sp (jarP sp j m)).2) rfl rfl rfl rfl (by decide) (x_m (LcD.m (lc_mapJ (A := rLst rInt) (B := rLst rInt) (xs := treeI sp) (own := [("kids", 6)]) JOk pickJ (blk_at ["jar", "tree", "rows", "turn", "picks", "k", "kids"] (defScope (top 96)) ⟨rfl, by decide +kernel, by decide +kernel, by decide +kernel, by decide +kernel⟩) (i_lst (bb 1)) (tc_name 6 ok.nd rfl rfl) (by omega) hjm (fun x _ j hj => (pickJ_ok hj).1) fun kids hkids j' hj' s H C cl fp => ?_) rfl ok.nd)) (x_d (d_call h61 hr ok.gd (((treeI sp).length : Nat) : Int) ⟨by omega, by omega, q1⟩ ht (a_ja 0 rfl rfl (.inr (.inl rfl)) (a_im (d_lenB ok (bb 1)) a_nil)))) ?_
  · refine EvD.is2 (d_ifx (u := !decide (kids = [])) (x1 := (oneI [] j' (lotsI kids)).1) (x2 := []) (j2 := (oneI [] j' (lotsI kids)).2) (j3 := j') (t_c (d_neB (by have hu := hu64 ok; exact hu) RD.int (by decide) (dv 6 (A := rLst rInt)).toB (m_lst r_nil (Nat.zero_le _)).toB)) (fun hu => ?_) fun _ => (m_lst r_nil (Nat.zero_le _)).toD) ?_ ?_
    · have hk0 : kids ≠ [] := by simpa using hu
      have hz : (lotsI kids).length ≤ 100000 := by
        refine Nat.le_trans (List.length_filter_le _ _) ?_
        have := lotsK_len (h7 kids hkids) kids.length
        unfold lotsK at this
        rw [List.take_length] at this
        omega
      exact d_call h62 (by exact hr) (by exact ok.gd) (lotsI kids) ⟨lots_ne hk0, hz, hj'⟩ ht (a_ja 0 rfl rfl (.inr (.inl rfl)) (a_bo (m_call h90 (by exact hr) (by exact ok.gd) kids (h7 kids hkids) ht (a_im (dv 6) a_nil)).toB a_nil))
    · unfold pickJ
      split <;> rfl
    · unfold pickJ
      split <;> rfl
  · refine hb_ifO (u := false) (t_of (EvD.is2 (d_call h70 hr ok.gd (prI sp kk, meanW (pathsI (picksJ sp (jarP sp j m)).1 kk)) ⟨(prI_sz h k0 k1).up (by decide), (mean_szP z2).up (by decide)⟩ ht (a_im (d_ixB (bb 2) (dv 5) k0 (priceI_at k0 k1)) (a_im (d_call h94 hr ok.gd (pathsI (picksJ sp (jarP sp j m)).1 kk) z2 ht (a_bo (m_call h93 hr ok.gd (treeI sp, (picksJ sp (jarP sp j m)).1, kk) ⟨c1, k0, by show kk < (((picksJ sp (jarP sp j m)).1.length : Nat) : Int); rw [q2.1]; exact k1, z1⟩ ht (a_bo (bb 1) (a_bo (bm 4) (a_im (dv 5) a_nil)))).toB a_nil)) a_nil))) (decide_eq_false (Rat.not_lt.mpr z3)) rfl)) (fun hu => nomatch hu) fun _ => hb_nil ⟨⟨(.im rInt x, .mu (rLst rInt) (picksJ sp (jarP sp j m)).1, .im rInt kk, s.2.2.2), rfl⟩, rfl⟩
end
end Fm
set_option maxHeartbeats 1000000
namespace Fm
open PySem PySem.Spec PyProof.Rows L2
open PySem.W (alike alikeAll dataLt Sortable)
open Rq (Sz Ok OkD)
theorem w_orF {X : Cx} {k : Kx} {w0 : Wd} {Γ : List (Slot X.K)} {j j1 j2 : Int × Int} {a b : Expr} {es : List Expr} {pos : Pos} {v : Bool} (h : EvT X k w0 Γ j a false j1) (h2 : EvW X k w0 Γ j1 (.BoolOp .Or (b :: es) pos) v j2) : EvW X k w0 Γ j (.BoolOp .Or (a :: b :: es) pos) v j2 := fun σ w at0 Q q =>
  WW.of (pw_or pt_self pw_self) (h σ w at0 _ fun w1 a1 e1 => h2 σ w1 a1 Q fun w2 a2 e2 => q w2 a2 (e1.trans e2))
section
variable {Pg : Program} {w : World} {K : PySem.W.Frag} {mg : Str → Option Value} {base : Heap} {fa : Addr} {fd : FuncData} {T : Tbs} {lev : Nat}
def jarN (n : Int) (sp : List (List Int)) (j : Int × Int) : Int × Int := jarS n sp (jarP sp j 3) 2
abbrev S100 {K : PySem.W.Frag} (T : Tbs) : Sp := SpD (K := K) T (fun i : (Int × List (List Int)) => [.ja, .im rBk i]) (fun i j => LawOk i.1 i.2 ∧ JOk j) rBl (fun i j => (true, jarN i.1 i.2 j))
theorem ok100 (hblt : ∀ n ∈ bltNames, mg n = none) (h49 : Has Pg w K mg base lev "price" ["nest", "number"] (S49 (K := K) T)) (h50 : Has Pg w K mg base lev "page_price" ["nest"] (S50 (K := K) T)) (h52 : Has Pg w K mg base lev "dear_top" ["nest"] (S52 (K := K) T)) (h71 : Has Pg w K mg base lev "_law_greatest" ["rows"] (S_max (K := K) T)) (h78 : Has Pg w K mg base lev "_law_tree" ["nest"] (S78 (K := K) T)) (h79 : Has Pg w K mg base lev "_law_roots" ["nest"] (S79 (K := K) T)) (h92 : Has Pg w K mg base lev "_law_prices_by_lots" ["tree"] (S92 (K := K) T)) (h95 : Has Pg w K mg base lev "_law_scripts_right" ["nest", "tree", "rows", "root"] (S95 (K := K) T)) (h96 : Has Pg w K mg base lev "_law_picked_right" ["jar", "tree", "rows"] (S96 (K := K) T)) (h99 : Has Pg w K mg base lev "_law_shares_right" ["jar", "nest", "page"] (S99 (K := K) T)) (F : FnP K "_law_nest_right" (top 100) fa fd) : FnG Pg w K mg base (lev + 1) fa fd ["jar", "nest"] (S100 (K := K) T) := by
  refine def_ok F (N := ["jar", "nest", "tree", "rows", "roots", "page", "root", "k"]) ⟨rfl, rfl, rfl, by decide +kernel, rfl, by decide +kernel, by decide +kernel⟩ (fun _ => rfl) (by decide) hblt fun cdv Ar outer s0 H E hcd ok hr i k w0 j ht ⟨h, hj⟩ => ?_
  obtain ⟨n, sp⟩ := i
  have h : LawOk n sp := h
  have hk := h.nest.toKidsOk
  have hl := hk.len
  have htl := treeI_len sp
  obtain ⟨r0, r1⟩ := dear_in h
  have hroots := h.roots
  have htops := tops_len hk
  refine st_ ok (s := .mu (rLst rInt) (treeI sp)) 2 (x_m (m_call h78 hr ok.gd (n, sp) h.nest ht (a_im (dv 1) a_nil))) ?_
  refine hb_parC ok 3 4 (s := .mu rQ (pricesI sp)) (s1 := .mu rInt (topsI sp)) (x_m (m_call h92 hr ok.gd sp h.tree ht (a_bo (bm 2) a_nil))) (x_m (EvM.is2 (m_call h79 hr ok.gd (n, sp) h.nest ht (a_im (dv 1) a_nil)) hroots rfl)) ?_
  have hmax : (∀ x ∈ (topsI sp).map (prI sp), Sz 4000 x) := fun x hx => by
    obtain ⟨c, hc, rfl⟩ := List.mem_map.mp hx
    exact prI_sz h (tops_at hc).1 (tops_at hc).2
  refine st_ ok (s := .im rQ (pageI sp)) 5 (x_d (d_call h71 hr ok.gd ((topsI sp).map (prI sp)) ⟨fun z => hk.top (List.map_eq_nil_iff.mp z), hmax⟩ ht (a_bo (LcD.m (lc_map (A := rInt) (xs := topsI sp) (own := [("k", 7)]) (prI sp) (blk_at ["jar", "nest", "tree", "rows", "roots", "page", "root", "k"] (defScope (top 100)) ⟨rfl, by decide +kernel, by decide +kernel, by decide +kernel, by decide +kernel⟩) (i_lst (bm 4)) (tc_name 7 ok.nd rfl rfl) (Nat.le_trans htops (by decide)) fun c hc s H C cl fp => d_ixB (bm 3) (dv 7) (tops_at hc).1 (priceI_at (tops_at hc).1 (tops_at hc).2)) rfl ok.nd).toB a_nil))) ?_
  refine st_ ok (s := .im rInt (dearI sp)) 6 (x_d (d_ix0 (i := 0) (xs := (dearL sp).map fun c => c) (LcD.m (lc_filt (A := rInt) (xs := topsI sp) (own := [("k", 7)]) (fun c => decide ((pricesI sp).getD c.toNat 0 = pageI sp)) (fun c => c) (blk_at ["jar", "nest", "tree", "rows", "roots", "page", "root", "k"] (defScope (top 100)) ⟨rfl, by decide +kernel, by decide +kernel, by decide +kernel, by decide +kernel⟩) (i_lst (bm 4)) (tc_name 7 ok.nd rfl rfl) (Nat.le_trans htops (by decide)) (fun c hc s H C cl fp => t_c (d_eqD (by have hu := hu64 ok; exact hu) RD.rat (by decide) (d_ixB (bm 3) (dv 7) (tops_at hc).1 (priceI_at (tops_at hc).1 (tops_at hc).2)) (dv 5))) fun c hc hp s H C cl fp => dv 7) rfl ok.nd).toB (by rw [List.map_id']; exact dear_ne hk))) ?_
  refine hb_forJ (τ := Slot K) ok (fun m s => [.ja, .im rBk (n, sp), .mu (rLst rInt) (treeI sp), .mu rQ (pricesI sp), .mu rInt (topsI sp), .im rQ (pageI sp), .im rInt (dearI sp), s]) (fun _ => j) (rg1 ok (m := (((treeI sp).length : Nat) : Int)) (d_lenB ok (bm 2)) (by omega)) (tg_name 7 ok.nd rfl (.inl rfl)) ⟨.un, rfl⟩ rfl (fun m x s hx => ?_) fun s => ?_
  · obtain ⟨x0, x1⟩ := mem_rangeI.mp (mem_of_get hx)
    have x1' : x < ((sp.length : Nat) : Int) := by omega
    have hs := h.shQ x x0 x1'
    have hne : (!decide ((dQ (prI sp x)).shown = (dQ (prI sp x)).shown)) = false := by rw [decide_eq_true rfl]; rfl
    exact hb_ifO (u := false) (t_c (EvD.is2 (d_neS (d_reprT (A := rQ) (x := prI sp x) (d := dQ) ok RD.rat (by decide) rfl rQ_ref hs.show_ hs.lay hs.size (d_call h49 hr ok.gd ((n, sp), x) ⟨h.nest, x0, x1'⟩ ht (a_im (dv 1) (a_im (dv 7) a_nil)))) (d_reprT (A := rQ) (x := prI sp x) (d := dQ) ok RD.rat (by decide) rfl rQ_ref hs.show_ hs.lay hs.size (d_ixB (bm 3) (dv 7) x0 (priceI_at x0 x1')))) hne rfl)) (fun hu => nomatch hu) fun _ => hb_nil ⟨⟨.im rInt x, rfl⟩, rfl⟩
  have hne : (!decide ((dQ (pageI sp)).shown = (dQ (pageI sp)).shown)) = false := by rw [decide_eq_true rfl]; rfl
  have hdl : (dearI sp).natAbs.log2 < 1920 := by
    have : (dearI sp).natAbs < 2 ^ 6 := by omega
    have := log2_le this
    omega
  have hni : (!decide (((toString (dearI sp) : String) : Str) = ((toString (dearI sp) : String) : Str))) = false := by rw [decide_eq_true rfl]; rfl
  refine hb_ifO (u := false) (w_t (w_or (u := false) (v := false) (t_c (EvD.is2 (d_neS (d_reprT (A := rQ) (x := pageI sp) (d := dQ) ok RD.rat (by decide) rfl rQ_ref h.shP.show_ h.shP.lay h.shP.size (d_call h50 hr ok.gd (n, sp) h.nest ht (a_im (dv 1) a_nil))) (d_reprT (A := rQ) (x := pageI sp) (d := dQ) ok RD.rat (by decide) rfl rQ_ref h.shP.show_ h.shP.lay h.shP.size (dv 5))) hne rfl)) fun _ => w_or1 (t_c (EvD.is2 (d_neS (d_reprI ok hdl (d_call h52 hr ok.gd (n, sp) h.nest ht (a_im (dv 1) a_nil))) (d_reprI ok hdl (dv 6))) hni rfl)))) (fun hu => nomatch hu) fun _ => ?_
  refine hb_ifO (u := false) (w_t (w_orF (v := false) (t_not (u := true) (t_of (d_call h95 hr ok.gd (n, sp) h ht (a_im (dv 1) (a_bo (bm 2) (a_bo (bm 3) (a_im (dv 6) a_nil))))))) (w_or1 (t_not (u := true) (t_of (d_call h96 hr ok.gd (n, sp) ⟨h, hj⟩ ht (a_ja 0 rfl rfl (.inl rfl) (a_bo (bm 2) (a_bo (bm 3) a_nil))))))))) (fun hu => nomatch hu) fun _ => ?_
  exact hb_ret (d_call h99 hr ok.gd (n, sp) ⟨h, jarP_ok h hj 3⟩ ht (a_ja 0 rfl rfl (.inl rfl) (a_im (dv 1) (a_im (dv 5) a_nil)))) ⟨rfl, rfl⟩
end
end Fm
set_option maxHeartbeats 1000000
namespace Fm
open PySem PySem.Spec PyProof.Rows L2
open PySem.W (alike alikeAll dataLt Sortable)
/-- where a stretch is cut -/
def cutI (s e way : Int) : List Int := if way = 0 then [s, (s + e) / 2, e] else if way < 3 then (if way = 1 then [s, e - 1, e] else [s, s + 1, e]) else rangeI s (e + 1)
/-- the stretches between -/
def endsI (xs : List Int) : List (Int × Int) := (rangeI 0 ((xs.length : Nat) - 1)).map fun i => (xs.getD i.toNat 0, xs.getD (i + 1).toNat 0)
section
variable {Pg : Program} {w : World} {K : PySem.W.Frag} {mg : Str → Option Value} {base : Heap} {fa : Addr} {fd : FuncData} {T : Tbs} {lev : Nat}
abbrev S83 {K : PySem.W.Frag} (T : Tbs) : Sp := SpM (K := K) T (fun i : Int × Int × Int => [.ja, .im rInt i.1, .im rInt i.2.1, .im rInt i.2.2]) (fun i _ => 0 ≤ i.1 ∧ i.1 ≤ i.2.1 ∧ i.2.1 ≤ 1000) rInt (fun i j => (cutI i.1 i.2.1 i.2.2, j))
theorem ok83 (hblt : ∀ n ∈ bltNames, mg n = none) (F : FnP K "_law_cut_ends" (top 83) fa fd) : FnG Pg w K mg base (lev + 1) fa fd ["jar", "start", "stop", "way"] (S83 (K := K) T) := by
  refine def_okM F (N := ["jar", "start", "stop", "way", "at"]) ⟨rfl, rfl, rfl, by decide +kernel, rfl, by decide +kernel, by decide +kernel⟩ (fun _ => rfl) (by decide) hblt fun cdv Ar outer s0 H E hcd ok hr i k w0 j ht ⟨h0, h1, h2⟩ => ?_
  obtain ⟨s, e, way⟩ := i
  have h0 : 0 ≤ s := h0
  have h1 : s ≤ e := h1
  have h2 : e ≤ 1000 := h2
  refine hb_ifO (t_c (d_eqI (dv 3) d_int)) (fun hu => ?_) fun hu => ?_
  · have hu : way = 0 := of_decide_eq_true hu
    refine hb_retE (m_lst (r_cons (dv 1) (r_cons (d_fdiv ⟨by decide, by decide⟩ (d_add (dv 1) (dv 2)) d_int) (r_cons (dv 2) r_nil))) (by show 3 ≤ 100000; decide)) ⟨?_, rfl⟩
    show _ = cutI s e way
    unfold cutI
    rw [if_pos hu]
  have hu : way ≠ 0 := of_decide_eq_false hu
  refine hb_ifO (t_c (d_lt (dv 3) d_int)) (fun hv => ?_) fun hv => ?_
  · have hv : way < 3 := of_decide_eq_true hv
    refine hb_retE (m_ifP (u := decide (way = 1)) (x1 := [s, e - 1, e]) (x2 := [s, s + 1, e]) (t_c (d_eqI (dv 3) d_int)) (fun _ => m_lst (r_cons (dv 1) (r_cons (d_sub (dv 2) d_int) (r_cons (dv 2) r_nil))) (by show 3 ≤ 100000; decide)) fun _ => m_lst (r_cons (dv 1) (r_cons (d_add (dv 1) d_int) (r_cons (dv 2) r_nil))) (by show 3 ≤ 100000; decide)) ⟨?_, rfl⟩
    show _ = cutI s e way
    unfold cutI
    rw [if_neg hu, if_pos hv]
    by_cases h : way = 1
    · simp [h]
    · simp [h]
  · have hv : ¬ way < 3 := of_decide_eq_false hv
    refine hb_retE (LcD.m (lc_map (A := rInt) (xs := rangeI s (e + 1)) (own := [("at", 4)]) (fun c => c) (blk_at ["jar", "start", "stop", "way", "at"] (defScope (top 83)) ⟨rfl, by decide +kernel, by decide +kernel, by decide +kernel, by decide +kernel⟩) (rg2 ok (dv 1) (d_add (dv 2) d_int) (by omega)) (tc_name 4 ok.nd rfl rfl) (by rw [rangeI_len]; omega) fun c hc s H C cl fp => dv 4) rfl ok.nd) ⟨?_, rfl⟩
    rw [List.map_id']
    show _ = cutI s e way
    unfold cutI
    rw [if_neg hu, if_neg hv]
end
end Fm
set_option maxHeartbeats 1000000
namespace Fm
open PySem PySem.Spec PyProof.Rows L2
open PySem.W (alike alikeAll dataLt Sortable)
/-- a span's columns rising; spans each once, shorter ones ahead -/
def sortT (s : List Int) : List Int := s.mergeSort fun x y => !dataLt (PyData.int y) (PyData.int x)
def onceI : List (List Int) → List (List Int) → List (List Int)
  | acc, [] => acc
  | acc, x :: xs => if x ∈ acc then onceI acc xs else onceI (acc ++ [x]) xs
def orderI (xs : List (List Int)) : List (List Int) := (onceI [] xs).mergeSort fun x y => !dataLt (dOrd y) (dOrd x)
def bookI (n : Int) (xs : List (List Int)) : Int × List (List Int) := (n, orderI (xs.map sortT))
section
variable {Pg : Program} {w : World} {K : PySem.W.Frag} {mg : Str → Option Value} {base : Heap} {fa : Addr} {fd : FuncData} {T : Tbs} {lev : Nat}
abbrev S75 {K : PySem.W.Frag} (T : Tbs) : Sp := SpD (K := K) T (fun i : List (List Int) => [.bo rSpn i]) (fun i _ => i.length ≤ 1000) rSps (fun i j => (orderI i, j))
abbrev S76 {K : PySem.W.Frag} (T : Tbs) : Sp := SpD (K := K) T (fun i : Int × List (List Int) => [.im rInt i.1, .bo rSpn i.2]) (fun i _ => i.2.length ≤ 1000) rBk (fun i j => (bookI i.1 i.2, j))
theorem ok76 (hblt : ∀ n ∈ bltNames, mg n = none) (h75 : Has Pg w K mg base lev "_law_in_order" ["spans"] (S75 (K := K) T)) (F : FnP K "_law_make_book" (top 76) fa fd) : FnG Pg w K mg base (lev + 1) fa fd ["n", "spans"] (S76 (K := K) T) := by
  refine def_ok F (N := ["n", "spans", "span"]) ⟨rfl, rfl, rfl, by decide +kernel, rfl, by decide +kernel, by decide +kernel⟩ (fun _ => rfl) (by decide) hblt fun cdv Ar outer s0 H E hcd ok hr i k w0 j ht hz => ?_
  obtain ⟨n, xs⟩ := i
  have hz : xs.length ≤ 1000 := hz
  refine hb_ret (d_pair (dv 0) (d_call h75 hr ok.gd (xs.map sortT) (by rw [List.length_map]; exact hz) ht (a_bo (LcD.m (lc_map (A := rSpn) (B := rSpn) (xs := xs) (own := [("span", 2)]) sortT (blk_at ["n", "spans", "span"] (defScope (top 76)) ⟨rfl, by decide +kernel, by decide +kernel, by decide +kernel, by decide +kernel⟩) (i_lst (bb 1)) (tc_name 2 ok.nd rfl rfl) (Nat.le_trans hz (by decide)) fun s hs s2 H C cl fp => d_tupB (by exact ok.blk _ _ _ _ _ _) (m_sortDT (A := rInt) (xs := s) (by exact ok.blk _ _ _ _ _ _) RD.int (by decide) al_int (.inr fun d hd => ?_) (dv 2)).toB) rfl ok.nd).toB a_nil))) ⟨rfl, rfl⟩
  obtain ⟨x, _, rfl⟩ := List.mem_map.mp hd
  exact ⟨fun z => (nomatch z), fun _ z => (nomatch z)⟩
end
end Fm
set_option maxHeartbeats 1000000
namespace Fm
open PySem PySem.Spec PyProof.Rows L2
open PySem.W (alike alikeAll dataLt Sortable)
/-! ### nested stretches, plainly -/
def sliceI (xs : List Int) (s e : Int) : List Int := (xs.drop s.toNat).take (e.toNat - s.toNat)
structure OSt where
  work : List (Int × Int)
  spans : List (List Int)
  jar : Int × Int
/-- what is done with one stretch -/
def oStep (order : List Int) (share : Int) (work : List (Int × Int)) (p : Int × Int) (spans : List (List Int)) (j : Int × Int) : OSt :=
  let t := takeI j 4
  let sp := if decide (t.1 < share) = true then spans ++ [sortT (sliceI order p.1 p.2)] else spans
  if decide (1 < p.2 - p.1) = true then
    let u := takeI t.2 4
    ⟨work ++ endsI (cutI p.1 p.2 u.1), sp, u.2⟩
  else ⟨work, sp, t.2⟩
def overK (order : List Int) (share : Int) : Nat → OSt → OSt
  | 0, st => st
  | f + 1, st => match st.work.getLast? with
    | none => st
    | some p => overK order share f (oStep order share st.work.dropLast p st.spans st.jar)
def strW (p : Int × Int) : Nat := (2 * (p.2 - p.1) - 1).toNat
def oMes (work : List (Int × Int)) : Nat := (work.map strW).sum
/-- a stretch within the order -/
def StrOk (n : Int) (p : Int × Int) : Prop := 0 ≤ p.1 ∧ p.1 < p.2 ∧ p.2 ≤ n
theorem mem_endsI {xs : List Int} {p : Int × Int} (h : p ∈ endsI xs) : ∃ i : Nat, i + 1 < xs.length ∧ p = (xs.getD i 0, xs.getD (i + 1) 0) := by
  obtain ⟨i, hi, rfl⟩ := List.mem_map.mp h
  obtain ⟨i0, i1⟩ := mem_rangeI.mp hi
  refine ⟨i.toNat, by omega, ?_⟩
  rw [show (i + 1).toNat = i.toNat + 1 by omega]
theorem cut_cases {s e way : Int} (h0 : 0 ≤ way) (h1 : way < 4) : cutI s e way = [s, (s + e) / 2, e] ∨ cutI s e way = [s, e - 1, e] ∨ cutI s e way = [s, s + 1, e] ∨ cutI s e way = rangeI s (e + 1) := by
  unfold cutI
  split
  · exact .inl rfl
  · split
    · split
      · exact .inr (.inl rfl)
      · exact .inr (.inr (.inl rfl))
    · exact .inr (.inr (.inr rfl))
theorem ends3 (a b c : Int) : endsI [a, b, c] = [(a, b), (b, c)] := by
  show (rangeI 0 (((3 : Nat) : Int) - 1)).map _ = _
  rfl
theorem rangeI_getD {s e : Int} {i : Nat} (h : i < (e - s).toNat) : (rangeI s e).getD i 0 = s + (i : Nat) := by
  rw [List.getD_eq_getElem?_getD, rangeI_get h]
  rfl
theorem endsR {s e : Int} (h : s < e) : endsI (rangeI s (e + 1)) = (List.range (e - s).toNat).map fun i => (s + ((i : Nat) : Int), s + ((i : Nat) : Int) + 1) := by
  unfold endsI
  rw [rangeI_len]
  unfold rangeI
  rw [List.map_map]
  rw [show ((((e + 1 - s).toNat : Nat) : Int) - 1 - 0).toNat = (e - s).toNat by omega]
  apply List.map_congr_left
  intro i hi
  have hi := List.mem_range.mp hi
  show ((rangeI s (e + 1)).getD (0 + ((i : Nat) : Int)).toNat 0, (rangeI s (e + 1)).getD (0 + ((i : Nat) : Int) + 1).toNat 0) = _
  rw [show (0 + ((i : Nat) : Int)).toNat = i by omega, show (0 + ((i : Nat) : Int) + 1).toNat = i + 1 by omega, rangeI_getD (by omega), rangeI_getD (by omega)]
  congr 1
  omega
/-- the parts of a cut stretch: well formed, of less measure, and no more than its columns -/
theorem cut_ok {n s e way : Int} (hs : 0 ≤ s) (he : e ≤ n) (hl : 1 < e - s) (h0 : 0 ≤ way) (h1 : way < 4) : (∀ p ∈ endsI (cutI s e way), StrOk n p) ∧ oMes (endsI (cutI s e way)) < strW (s, e) ∧ (endsI (cutI s e way)).length ≤ (e - s).toNat := by
  rcases cut_cases (s := s) (e := e) h0 h1 with h | h | h | h
  · rw [h, ends3]
    refine ⟨fun p hp => ?_, ?_, ?_⟩
    · rcases List.mem_cons.mp hp with rfl | hp
      · exact ⟨hs, by show s < (s + e) / 2; omega, by show (s + e) / 2 ≤ n; omega⟩
      · rw [List.mem_singleton.mp hp]
        exact ⟨by show 0 ≤ (s + e) / 2; omega, by show (s + e) / 2 < e; omega, he⟩
    · show strW (s, (s + e) / 2) + (strW ((s + e) / 2, e) + 0) < _
      unfold strW
      omega
    · show 2 ≤ _
      omega
  · rw [h, ends3]
    refine ⟨fun p hp => ?_, ?_, ?_⟩
    · rcases List.mem_cons.mp hp with rfl | hp
      · exact ⟨hs, by show s < e - 1; omega, by show e - 1 ≤ n; omega⟩
      · rw [List.mem_singleton.mp hp]
        exact ⟨by show 0 ≤ e - 1; omega, by show e - 1 < e; omega, he⟩
    · show strW (s, e - 1) + (strW (e - 1, e) + 0) < _
      unfold strW
      omega
    · show 2 ≤ _
      omega
  · rw [h, ends3]
    refine ⟨fun p hp => ?_, ?_, ?_⟩
    · rcases List.mem_cons.mp hp with rfl | hp
      · exact ⟨hs, by show s < s + 1; omega, by show s + 1 ≤ n; omega⟩
      · rw [List.mem_singleton.mp hp]
        exact ⟨by show 0 ≤ s + 1; omega, by show s + 1 < e; omega, he⟩
    · show strW (s, s + 1) + (strW (s + 1, e) + 0) < _
      unfold strW
      omega
    · show 2 ≤ _
      omega
  · rw [h, endsR (by omega)]
    refine ⟨fun p hp => ?_, ?_, ?_⟩
    · obtain ⟨i, hi, rfl⟩ := List.mem_map.mp hp
      have hi := List.mem_range.mp hi
      exact ⟨by show 0 ≤ s + ((i : Nat) : Int); omega, by show s + ((i : Nat) : Int) < s + ((i : Nat) : Int) + 1; omega, by show s + ((i : Nat) : Int) + 1 ≤ n; omega⟩
    · have : ∀ m : Nat, oMes ((List.range m).map fun i => (s + ((i : Nat) : Int), s + ((i : Nat) : Int) + 1)) = m := by
        intro m
        induction m with
        | zero => rfl
        | succ m ih =>
          unfold oMes at ih ⊢
          rw [List.range_succ, List.map_append, List.map_append, List.sum_append, ih]
          show m + (strW (s + ((m : Nat) : Int), s + ((m : Nat) : Int) + 1) + 0) = m + 1
          unfold strW
          omega
      rw [this]
      unfold strW
      omega
    · rw [List.length_map, List.length_range]
      exact Nat.le_refl _
end Fm
set_option maxHeartbeats 1000000
namespace Fm
open PySem PySem.Spec PyProof.Rows L2
open PySem.W (alike alikeAll dataLt Sortable)
structure OOk (n : Int) (st : OSt) : Prop where
  jar : JOk st.jar
  wk : ∀ p ∈ st.work, StrOk n p
theorem oMes_append (a b : List (Int × Int)) : oMes (a ++ b) = oMes a + oMes b := by
  unfold oMes
  rw [List.map_append, List.sum_append]
theorem strW_pos {n : Int} {p : Int × Int} (h : StrOk n p) : 1 ≤ strW p := by
  obtain ⟨h0, h1, h2⟩ := h
  unfold strW
  omega
theorem oStep_ok {n : Int} {order : List Int} {share : Int} {w : List (Int × Int)} {p : Int × Int} {spans : List (List Int)} {j : Int × Int} (h : OOk n ⟨w ++ [p], spans, j⟩) : OOk n (oStep order share w p spans j) ∧ oMes (oStep order share w p spans j).work < oMes (w ++ [p]) ∧ (oStep order share w p spans j).spans.length ≤ spans.length + 1 := by
  have hp := h.wk p (List.mem_append_right _ List.mem_cons_self)
  have hw : ∀ q ∈ w, StrOk n q := fun q hq => h.wk q (List.mem_append_left _ hq)
  have hj : JOk j := h.jar
  have t := take_ok hj (t := 4) (by decide)
  have u := take_ok t.1 (t := 4) (by decide)
  have hs : ∀ b : Bool, (if b = true then spans ++ [sortT (sliceI order p.1 p.2)] else spans).length ≤ spans.length + 1 := fun b => by
    cases b
    · simp
    · simp
  have hm : oMes (w ++ [p]) = oMes w + strW p := by rw [oMes_append]; rfl
  have hpp := strW_pos hp
  unfold oStep
  simp only
  split
  · rename_i hl
    have hl := of_decide_eq_true hl
    obtain ⟨c1, c2, c3⟩ := cut_ok (n := n) (s := p.1) (e := p.2) hp.1 hp.2.2 hl u.2.1 (by have := u.2.2; omega)
    refine ⟨⟨u.1, fun q hq => ?_⟩, ?_, hs _⟩
    · rcases List.mem_append.mp hq with hq | hq
      · exact hw q hq
      · exact c1 q hq
    · show oMes (w ++ endsI _) < _
      rw [oMes_append, hm]
      have : strW (p.1, p.2) = strW p := rfl
      omega
  · refine ⟨⟨t.1, hw⟩, ?_, hs _⟩
    show oMes w < _
    rw [hm]
    omega
theorem overK_nil {order : List Int} {share : Int} {f : Nat} {st : OSt} (h : st.work = []) : overK order share f st = st := by
  cases f with
  | zero => rfl
  | succ f =>
    unfold overK
    rw [h]
    rfl
theorem overK_snoc {order : List Int} {share : Int} {f : Nat} {w : List (Int × Int)} {p : Int × Int} {spans : List (List Int)} {j : Int × Int} : overK order share (f + 1) ⟨w ++ [p], spans, j⟩ = overK order share f (oStep order share w p spans j) := by
  simp only [overK, List.getLast?_concat, List.dropLast_concat]
theorem snoc_of {α : Type} {w : List α} (h : w ≠ []) : ∃ w' p, w = w' ++ [p] := ⟨w.dropLast, w.getLast h, (List.dropLast_concat_getLast h).symm⟩
theorem overK_fuel {n : Int} {order : List Int} {share : Int} : ∀ (f : Nat) (st : OSt), OOk n st → oMes st.work ≤ f → overK order share f st = overK order share (f + 1) st
  | f, ⟨w, spans, j⟩, h, hf => by
    by_cases hw : w = []
    · rw [overK_nil hw, overK_nil hw]
    · obtain ⟨w', p, rfl⟩ := snoc_of hw
      obtain ⟨s1, s2, _⟩ := oStep_ok (order := order) (share := share) h
      cases f with
      | zero =>
        have : oMes (w' ++ [p]) ≤ 0 := hf
        omega
      | succ f =>
        rw [overK_snoc, overK_snoc]
        have : oMes (w' ++ [p]) ≤ f + 1 := hf
        exact overK_fuel f _ s1 (by omega)
/-- with fuel enough -/
def overO (order : List Int) (share : Int) (st : OSt) : OSt := overK order share 100 st
theorem overO_step {n : Int} {order : List Int} {share : Int} {w : List (Int × Int)} {p : Int × Int} {spans : List (List Int)} {j : Int × Int} (h : OOk n ⟨w ++ [p], spans, j⟩) (hm : oMes (w ++ [p]) ≤ 100) : overO order share ⟨w ++ [p], spans, j⟩ = overO order share (oStep order share w p spans j) := by
  obtain ⟨s1, s2, _⟩ := oStep_ok (order := order) (share := share) h
  unfold overO
  rw [overK_fuel 100 _ h hm, overK_snoc]
end Fm
set_option maxHeartbeats 1000000
namespace Fm
open PySem PySem.Spec PyProof.Rows L2
open PySem.W (alike alikeAll dataLt Sortable)
/-- the spans of nested stretches, and the jar behind -/
def nestO (n : Int) (order : List Int) (j : Int × Int) : OSt :=
  let t := takeI j 3
  overO order (2 + t.1) ⟨[(0, n)], [], t.2⟩
def nestI (n : Int) (order : List Int) (j : Int × Int) : (Int × List (List Int)) × (Int × Int) :=
  let st := nestO n order j
  if st.spans = [] then (bookI n [[(takeI st.jar n).1]], (takeI st.jar n).2) else (bookI n st.spans, st.jar)
section
variable {X : Cx} {k : Kx} {w0 : Wd} {Γ : List (Slot X.K)} {j j1 j2 : Int × Int} {a b c : Expr} {pos : Pos} {α : Type} {A : RT X.K α} {xs : List α}
theorem b_ifT (h : EvT X k w0 Γ j c true j1) (h1 : EvB X k w0 Γ j1 a A xs j2) : EvB X k w0 Γ j (.IfExp c a b pos) A xs j2 := fun σ w at0 Q q =>
  WE.of (pe_ifExp pt_self pe_self pe_self) (h σ w at0 _ fun w1 a1 e1 => h1 σ w1 a1 Q fun p vs w2 a2 e2 r2 => q p vs w2 a2 (e1.trans e2) r2)
theorem b_ifF (h : EvT X k w0 Γ j c false j1) (h1 : EvB X k w0 Γ j1 b A xs j2) : EvB X k w0 Γ j (.IfExp c a b pos) A xs j2 := fun σ w at0 Q q =>
  WE.of (pe_ifExp pt_self pe_self pe_self) (h σ w at0 _ fun w1 a1 e1 => h1 σ w1 a1 Q fun p vs w2 a2 e2 r2 => q p vs w2 a2 (e1.trans e2) r2)
end
theorem m_fromto {X : Cx} {k : Kx} {w0 : Wd} {Γ : List (Slot X.K)} {j j1 j2 j3 : Int × Int} {a b c : Expr} {α : Type} {A : RT X.K α} {xs : List α} {l h : Int} {pos p2 : Pos} (ha : EvB X k w0 Γ j a A xs j1) (hb : EvD X k w0 Γ j1 b rInt l j2) (hc : EvD X k w0 Γ j2 c rInt h j3) (h0 : 0 ≤ l) (h1 : 0 ≤ h) : EvM X k w0 Γ j (.Subscript a (.Slice (some b) (some c) none p2) pos) A (cutL xs (some l.toNat) (some h.toNat)) j3 :=
  m_slL (o1 := some b) (o2 := some c) (l := some l) (h := some h) ha ⟨hb, h0⟩ ⟨hc, h1⟩
section
variable {Pg : Program} {w : World} {K : PySem.W.Frag} {mg : Str → Option Value} {base : Heap} {fa : Addr} {fd : FuncData} {T : Tbs} {lev : Nat}
abbrev S84 {K : PySem.W.Frag} (T : Tbs) : Sp := SpD (K := K) T (fun i : Int × List Int => [.ja, .im rInt i.1, .bo rInt i.2]) (fun i j => 1 ≤ i.1 ∧ i.1 ≤ 16 ∧ ((i.2.length : Nat) : Int) = i.1 ∧ JOk j) rBk (fun i j => nestI i.1 i.2 j)
theorem ok84 (hblt : ∀ n ∈ bltNames, mg n = none) (h61 : Has Pg w K mg base lev "_law_take" ["jar", "top"] (S61 (K := K) T)) (h76 : Has Pg w K mg base lev "_law_make_book" ["n", "spans"] (S76 (K := K) T)) (h83 : Has Pg w K mg base lev "_law_cut_ends" ["jar", "start", "stop", "way"] (S83 (K := K) T)) (F : FnP K "_law_nest_over" (top 84) fa fd) : FnG Pg w K mg base (lev + 1) fa fd ["jar", "n", "order"] (S84 (K := K) T) := by
  refine def_ok F (N := ["jar", "n", "order", "work", "spans", "share", "start", "stop", "ends", "at"]) ⟨rfl, rfl, rfl, by decide +kernel, rfl, by decide +kernel, by decide +kernel⟩ (fun _ => rfl) (by decide) hblt fun cdv Ar outer s0 H E hcd ok hr i k w0 j ht ⟨n1, n2, hlen, hj⟩ => ?_
  obtain ⟨n, order⟩ := i
  have n1 : 1 ≤ n := n1
  have n2 : n ≤ 16 := n2
  have hlen : ((order.length : Nat) : Int) = n := hlen
  have t := take_ok hj (t := 3) (by decide)
  let sh := 2 + (takeI j 3).1
  have hroot : OOk n ⟨[(0, n)], [], (takeI j 3).2⟩ := ⟨t.1, fun p hp => by
    rw [List.mem_singleton.mp hp]
    exact ⟨Int.le_refl 0, by show 0 < n; omega, Int.le_refl n⟩⟩
  refine hb_par3 ok 3 4 5 (s := .mu (rPair rInt rInt) [(0, n)]) (s1 := .mu rSpn []) (s2 := .im rInt sh) rfl rfl rfl rfl rfl rfl (by decide) (by decide) (by decide) (x_m (m_lst (r_cons (d_pair d_int (dv 1)) r_nil) (by show 1 ≤ 100000; decide))) (x_m (m_lst r_nil (Nat.zero_le _))) (x_d (d_add d_int (d_call h61 hr ok.gd 3 ⟨by decide, by decide, hj⟩ ht (a_ja 0 rfl rfl (.inl rfl) (a_im d_int a_nil))))) ?_
  refine hb_while ok (fun m Γ' j' => ∃ work spans s1 s2 s3 s4, Γ' = [.ja, .im rInt n, .bo rInt order, .mu (rPair rInt rInt) work, .mu rSpn spans, .im rInt sh, s1, s2, s3, s4] ∧ OOk n ⟨work, spans, j'⟩ ∧ spans.length + m ≤ 100 ∧ oMes work = m ∧ overO order sh ⟨work, spans, j'⟩ = nestO n order j) (m0 := oMes [(0, n)]) ⟨[(0, n)], [], .un, .un, .un, .un, rfl, hroot, ?_, rfl, rfl⟩ ?_
  · show 0 + (strW (0, n) + 0) ≤ 100
    unfold strW
    omega
  rintro m Γ' j' ⟨work, spans, s1, s2, s3, s4, rfl, hok, hb, rfl, hov⟩
  refine ⟨!decide (work = []), j', t_c (d_neB (hu64 ok) (RD.pair RD.int RD.int) (by decide) (bm 3) (m_lst r_nil (Nat.zero_le _)).toB), fun hu => ?_, fun hu => ?_⟩
  · have hw : work ≠ [] := by simpa using hu
    obtain ⟨w', p, rfl⟩ := snoc_of hw
    obtain ⟨s, e⟩ := p
    obtain ⟨p0, p1, p2⟩ := hok.wk (s, e) (List.mem_append_right _ List.mem_cons_self)
    have p0 : 0 ≤ s := p0
    have p1 : s < e := p1
    have p2 : e ≤ n := p2
    have hjj : JOk j' := hok.jar
    have t4 := take_ok hjj (t := 4) (by decide)
    have u4 := take_ok t4.1 (t := 4) (by decide)
    obtain ⟨o1, o2, o3⟩ := oStep_ok (order := order) (share := sh) hok
    have ho := overO_step (order := order) (share := sh) hok (by omega)
    let sp' := if decide ((takeI j' 4).1 < sh) = true then spans ++ [sortT (sliceI order s e)] else spans
    have hsl : sp'.length ≤ spans.length + 1 := by
      show (if decide ((takeI j' 4).1 < sh) = true then spans ++ [sortT (sliceI order s e)] else spans).length ≤ _
      split
      · simp
      · omega
    have hcut : cutL order (some s.toNat) (some e.toNat) = sliceI order s e := by
      show (order.drop s.toNat).take (min e.toNat order.length - s.toNat) = (order.drop s.toNat).take (e.toNat - s.toNat)
      rw [Nat.min_eq_left (by omega)]
    refine hb_popT 3 (tg_pair 6 7 rfl ok.nd rfl rfl (.inl rfl) (.inl rfl)) rfl rfl (.inl rfl) ?_
    refine hb_if2 (Γ1 := [.ja, .im rInt n, .bo rInt order, .mu (rPair rInt rInt) w', .mu rSpn sp', .im rInt sh, .im rInt s, .im rInt e, s3, s4]) (j2 := (takeI j' 4).2) (t_c (d_lt (d_call h61 hr ok.gd 4 ⟨by decide, by decide, hjj⟩ ht (a_ja 0 rfl rfl (.inl rfl) (a_im d_int a_nil))) (dv 5))) (fun hv => ?_) (fun hv => ?_) ?_
    · have hsp : sp' = spans ++ [sortT (sliceI order s e)] := if_pos hv
      refine hb_append 4 rfl rfl (.inl rfl) (x := sortT (sliceI order s e)) (EvD.is2 (d_tupB ok (m_sortDB (A := rInt) (xs := cutL order (some s.toNat) (some e.toNat)) ok RD.int (by decide) al_int (.inr fun d hd => ?_) (m_fromto (bb 2) (dv 6) (dv 7) p0 (by omega)).toB).toB) (by rw [hcut]; rfl) rfl) (by omega) (hb_nil ⟨?_, rfl⟩)
      · obtain ⟨x, _, rfl⟩ := List.mem_map.mp hd
        exact ⟨fun z => (nomatch z), fun _ z => (nomatch z)⟩
      · rw [hsp]
        rfl
    · have hsp : sp' = spans := if_neg (by rw [hv]; exact Bool.false_ne_true)
      refine hb_nil ⟨?_, rfl⟩
      rw [hsp]
      rfl
    refine hb_if (t_c (d_gt (d_sub (dv 7) (dv 6)) d_int)) (fun hv => ?_) (fun hv => hb_nil (hb_nil ?_))
    · have hl := of_decide_eq_true hv
      obtain ⟨c1, c2, c3⟩ := cut_ok (n := n) (s := s) (e := e) (way := (takeI (takeI j' 4).2 4).1) p0 p2 hl u4.2.1 u4.2.2
      have hst : oStep order sh w' (s, e) spans j' = ⟨w' ++ endsI (cutI s e (takeI (takeI j' 4).2 4).1), sp', (takeI (takeI j' 4).2 4).2⟩ := by
        have hv' : decide (1 < e - s) = true := hv
        unfold oStep
        simp only [hv']
        rfl
      rw [hst] at o1 o2 ho
      let cs := cutI s e (takeI (takeI j' 4).2 4).1
      have hwl : w'.length ≤ oMes w' := by
        have : ∀ xs : List (Int × Int), (∀ q ∈ xs, StrOk n q) → xs.length ≤ oMes xs := by
          intro xs
          induction xs with
          | nil => intro _; exact Nat.le_refl 0
          | cons x xs ih =>
            intro hx
            have := ih fun y hy => hx y (List.mem_cons_of_mem _ hy)
            have h1 := strW_pos (hx x List.mem_cons_self)
            have e1 : oMes (x :: xs) = strW x + oMes xs := rfl
            rw [e1, List.length_cons]
            omega
        exact this w' fun q hq => hok.wk q (List.mem_append_left _ hq)
      have hcl : ((cs.length : Nat) : Int) ≤ 20 ∧ 1 ≤ cs.length := by
        rcases cut_cases (s := s) (e := e) u4.2.1 u4.2.2 with h | h | h | h <;> (show ((((cutI s e (takeI (takeI j' 4).2 4).1)).length : Nat) : Int) ≤ 20 ∧ 1 ≤ (cutI s e (takeI (takeI j' 4).2 4).1).length; rw [h])
        · exact ⟨(by decide : ((3 : Nat) : Int) ≤ 20), (by decide : 1 ≤ 3)⟩
        · exact ⟨(by decide : ((3 : Nat) : Int) ≤ 20), (by decide : 1 ≤ 3)⟩
        · exact ⟨(by decide : ((3 : Nat) : Int) ≤ 20), (by decide : 1 ≤ 3)⟩
        · rw [rangeI_len]
          omega
      refine st_ ok (s := .mu rInt cs) 8 (x_m (m_call h83 hr ok.gd (s, e, (takeI (takeI j' 4).2 4).1) ⟨p0, by show s ≤ e; omega, by show e ≤ 1000; omega⟩ ht (a_ja 0 rfl rfl (.inl rfl) (a_im (dv 6) (a_im (dv 7) (a_im (d_call h61 hr ok.gd 4 ⟨by decide, by decide, t4.1⟩ ht (a_ja 0 rfl rfl (.inl rfl) (a_im d_int a_nil))) a_nil)))))) ?_
      have hw100 : w'.length ≤ 100 := by
        have e1 := oMes_append w' [(s, e)]
        have hb' : spans.length + oMes (w' ++ [(s, e)]) ≤ 100 := hb
        omega
      have hel : (endsI cs).length ≤ 20 := by
        show ((rangeI 0 (((cs.length : Nat) : Int) - 1)).map _).length ≤ 20
        rw [List.length_map, rangeI_len]
        omega
      refine hb_extend 3 rfl rfl (.inl rfl) (ys := endsI cs) (LcD.m (lc_map (A := rInt) (B := rPair rInt rInt) (xs := rangeI 0 (((cs.length : Nat) : Int) - 1)) (own := [("at", 9)]) (fun i => (cs.getD i.toNat 0, cs.getD (i + 1).toNat 0)) (blk_at ["jar", "n", "order", "work", "spans", "share", "start", "stop", "ends", "at"] (defScope (top 84)) ⟨rfl, by decide +kernel, by decide +kernel, by decide +kernel, by decide +kernel⟩) (rg1 ok (m := ((cs.length : Nat) : Int) - 1) (d_sub (d_lenB ok (bm 8)) d_int) (by omega)) (tc_name 9 ok.nd rfl rfl) (by rw [rangeI_len]; omega) fun i hi s2 H C cl fp => d_pair (d_ixB (bm 8) (dv 9) (mem_rangeI.mp hi).1 (getD_of (xs := cs) (d := 0) (by have := mem_rangeI.mp hi; omega))) (d_ixB (bm 8) (d_add (dv 9) d_int) (by have := (mem_rangeI.mp hi).1; omega) (getD_of (xs := cs) (d := 0) (by have := mem_rangeI.mp hi; omega)))) rfl ok.nd) (by omega) (hb_nil (hb_nil ?_))
      refine ⟨oMes (w' ++ endsI cs), o2, w' ++ endsI cs, sp', .im rInt s, .im rInt e, .mu rInt cs, s4, rfl, o1, ?_, rfl, ?_⟩
      · have : oMes (w' ++ endsI cs) < oMes (w' ++ [(s, e)]) := o2
        omega
      · rw [← ho]
        exact hov
    · have hv' : decide (1 < e - s) = false := hv
      have hst : oStep order sh w' (s, e) spans j' = ⟨w', sp', (takeI j' 4).2⟩ := by
        unfold oStep
        simp only [hv']
        rfl
      rw [hst] at o1 o2 ho
      refine ⟨oMes w', o2, w', sp', .im rInt s, .im rInt e, s3, s4, rfl, o1, ?_, rfl, ?_⟩
      · have : oMes w' < oMes (w' ++ [(s, e)]) := o2
        omega
      · rw [← ho]
        exact hov
  · have hw : work = [] := by simpa using hu
    subst hw
    have hst : nestO n order j = ⟨[], spans, j'⟩ := by rw [← hov]; exact overK_nil rfl
    have hjj : JOk j' := hok.jar
    have hbl : spans.length ≤ 100 := by omega
    by_cases hs0 : spans = []
    · have t2 := take_ok hjj (t := n) (by omega)
      have hc : (!decide (spans = [])) = false := by rw [decide_eq_true hs0]; rfl
      refine hb_ret (d_call h76 hr ok.gd (n, [[(takeI j' n).1]]) (by show 1 ≤ 1000; decide) ht (a_im (dv 1) (a_bo (b_ifF (EvT.is2 (t_c (d_neB (hu64 ok) (RD.tup RD.int) (by decide) (bm 4) (m_lst r_nil (Nat.zero_le _)).toB)) hc rfl) (m_lst (r_cons (d_tupR (r_cons (d_call h61 hr ok.gd n ⟨by omega, by omega, hjj⟩ ht (a_ja 0 rfl rfl (.inl rfl) (a_im (dv 1) a_nil))) r_nil) (by show 1 ≤ 100000; decide)) r_nil) (by show 1 ≤ 100000; decide)).toB) a_nil))) ?_
      have e : nestI n order j = (bookI n [[(takeI j' n).1]], (takeI j' n).2) := by
        unfold nestI
        rw [hst]
        exact if_pos hs0
      show _ = (nestI n order j).1 ∧ _ = (nestI n order j).2
      rw [e]
      exact ⟨rfl, rfl⟩
    · have hc : (!decide (spans = [])) = true := by rw [decide_eq_false hs0]; rfl
      refine hb_ret (d_call h76 hr ok.gd (n, spans) (by show spans.length ≤ 1000; omega) ht (a_im (dv 1) (a_bo (b_ifT (EvT.is2 (t_c (d_neB (hu64 ok) (RD.tup RD.int) (by decide) (bm 4) (m_lst r_nil (Nat.zero_le _)).toB)) hc rfl) (bm 4)) a_nil))) ?_
      have e : nestI n order j = (bookI n spans, j') := by
        unfold nestI
        rw [hst]
        exact if_neg hs0
      show _ = (nestI n order j).1 ∧ _ = (nestI n order j).2
      rw [e]
      exact ⟨rfl, rfl⟩
end
end Fm
set_option maxHeartbeats 1000000
namespace Fm
open PySem PySem.Spec PyProof.Rows L2
open PySem.W (alike alikeAll dataLt Sortable)
def anyI (n : Int) (j : Int × Int) : (Int × List (List Int)) × (Int × Int) := nestI n (mixI j (rangeI 0 n)).1 (mixI j (rangeI 0 n)).2
theorem mixI_ok {j : Int × Int} {xs : List Int} (h : JOk j) : JOk (mixI j xs).2 ∧ (mixI j xs).1.length = xs.length ∧ (mixI j xs).1.Perm xs := by
  obtain ⟨a, b, c, p⟩ := mixS_ok (xs := xs) h xs.length (Nat.le_refl _)
  rw [mixI_S]
  have e : (mixS xs.length j xs []).1 = [] := List.eq_nil_of_length_eq_zero (by omega)
  rw [e, List.append_nil] at p
  exact ⟨a, c, p⟩
section
variable {Pg : Program} {w : World} {K : PySem.W.Frag} {mg : Str → Option Value} {base : Heap} {fa : Addr} {fd : FuncData} {T : Tbs} {lev : Nat}
abbrev S85 {K : PySem.W.Frag} (T : Tbs) : Sp := SpD (K := K) T (fun i : Int => [.ja, .im rInt i]) (fun i j => 1 ≤ i ∧ i ≤ 16 ∧ JOk j) rBk (fun i j => anyI i j)
theorem ok85 (hblt : ∀ n ∈ bltNames, mg n = none) (h63 : Has Pg w K mg base lev "_law_mixed" ["jar", "things"] (S63 (K := K) T)) (h84 : Has Pg w K mg base lev "_law_nest_over" ["jar", "n", "order"] (S84 (K := K) T)) (F : FnP K "_law_any_nest" (top 85) fa fd) : FnG Pg w K mg base (lev + 1) fa fd ["jar", "n"] (S85 (K := K) T) := by
  refine def_ok F (N := ["jar", "n", "c"]) ⟨rfl, rfl, rfl, by decide +kernel, rfl, by decide +kernel, by decide +kernel⟩ (fun _ => rfl) (by decide) hblt fun cdv Ar outer s0 H E hcd ok hr i k w0 j ht ⟨n1, n2, hj⟩ => ?_
  obtain ⟨m1, m2, m3⟩ := mixI_ok (xs := rangeI 0 i) hj
  have hl : (rangeI 0 i).length = i.toNat := by rw [rangeI_len, Int.sub_zero]
  refine hb_ret (d_call h84 hr ok.gd (i, (mixI j (rangeI 0 i)).1) ⟨n1, n2, by show (((mixI j (rangeI 0 i)).1.length : Nat) : Int) = i; rw [m2, hl]; omega, m1⟩ ht (a_ja 0 rfl rfl (.inl rfl) (a_im (dv 1) (a_bo (m_call h63 hr ok.gd (rangeI 0 i) ⟨by rw [hl]; omega, hj⟩ ht (a_ja 0 rfl rfl (.inl rfl) (a_bo (EvM.is2 (LcD.m (lc_map (A := rInt) (xs := rangeI 0 i) (own := [("c", 2)]) (fun c => c) (blk_at ["jar", "n", "c"] (defScope (top 85)) ⟨rfl, by decide +kernel, by decide +kernel, by decide +kernel, by decide +kernel⟩) (rg1 ok (dv 1) (by omega)) (tc_name 2 ok.nd rfl rfl) (by rw [hl]; omega) fun c hc s H C cl fp => dv 2) rfl ok.nd) (List.map_id' _) rfl).toB a_nil))).toB a_nil)))) ⟨rfl, rfl⟩
end
end Fm
set_option maxHeartbeats 1000000
namespace Fm
open PySem PySem.Spec PyProof.Rows L2
open PySem.W (alike alikeAll dataLt Sortable)
/-- halves of halves: the stretches of one size -/
def halfL (n : Int) (size : Int) : List (List Int) := (stepsI 0 size ((n + size - 1) / size).toNat).map fun a => sliceI (rangeI 0 n) a (a + size)
def halvesK (n : Int) : Nat → Int → List (List Int) → List (List Int)
  | 0, _, sp => sp
  | f + 1, size, sp => if decide (1 < size) = true then halvesK n f (if decide (size % 2 = 0) = true then size / 2 else 1) (sp ++ halfL n size) else sp
def ownL (n : Int) : List (List Int) := (rangeI 0 n).map fun c => [c]
def shapeI (n : Int) (j : Int × Int) : (Int × List (List Int)) × (Int × Int) :=
  let t := takeI j 3
  (if t.1 = 0 then bookI n (ownL n ++ [rangeI 0 n]) else if t.1 = 1 then bookI n (ownL n ++ (rangeI 2 (n + 1)).map fun m => (rangeI 0 n).take m.toNat) else bookI n (halvesK n 20 n (ownL n)), t.2)
end Fm
set_option maxHeartbeats 1000000
namespace Fm
open PySem PySem.Spec PyProof.Rows L2
open PySem.W (alike alikeAll dataLt Sortable)
def rgB : Bool := (List.range 17).all fun n => (List.range 17).all fun s => s == 0 || (Builtin.Range.small 0 (n : Int) (s : Int) == true && Builtin.Range.rangeSize 0 (n : Int) (s : Int) == (((n : Int) + s - 1) / s).toNat)
theorem rgB_ok : rgB = true := by decide +kernel
theorem rg_small {n s : Int} (h0 : 0 ≤ n) (h1 : n ≤ 16) (s0 : 1 ≤ s) (s1 : s ≤ 16) : RgC 0 n s ((n + s - 1) / s).toNat := by
  have h := rgB_ok
  unfold rgB at h
  rw [List.all_eq_true] at h
  have a := h n.toNat (List.mem_range.mpr (by omega))
  rw [List.all_eq_true] at a
  have b := a s.toNat (List.mem_range.mpr (by omega))
  rw [show ((n.toNat : Nat) : Int) = n by omega, show ((s.toNat : Nat) : Int) = s by omega] at b
  simp only [Bool.or_eq_true, Bool.and_eq_true, beq_iff_eq] at b
  rcases b with b | ⟨b1, b2⟩
  · omega
  · exact ⟨by omega, by omega, b1, b2⟩
end Fm
set_option maxHeartbeats 1000000
namespace Fm
open PySem PySem.Spec PyProof.Rows L2
open PySem.W (alike alikeAll dataLt Sortable)
theorem cut_slice (xs : List Int) (s e : Int) : cutL xs (some s.toNat) (some e.toNat) = sliceI xs s e := by
  show (xs.drop s.toNat).take (min e.toNat xs.length - s.toNat) = (xs.drop s.toNat).take (e.toNat - s.toNat)
  rw [List.take_eq_take_iff, List.length_drop]
  omega
section
variable {Pg : Program} {w : World} {K : PySem.W.Frag} {mg : Str → Option Value} {base : Heap} {fa : Addr} {fd : FuncData} {T : Tbs} {lev : Nat}
abbrev S86 {K : PySem.W.Frag} (T : Tbs) : Sp := SpD (K := K) T (fun i : Int => [.ja, .im rInt i]) (fun i j => 1 ≤ i ∧ i ≤ 16 ∧ JOk j) rBk (fun i j => shapeI i j)
theorem ok86 (hblt : ∀ n ∈ bltNames, mg n = none) (h61 : Has Pg w K mg base lev "_law_take" ["jar", "top"] (S61 (K := K) T)) (h76 : Has Pg w K mg base lev "_law_make_book" ["n", "spans"] (S76 (K := K) T)) (h82 : Has Pg w K mg base lev "_law_own_texts" ["columns"] (S82 (K := K) T)) (F : FnP K "_law_shape_nest" (top 86) fa fd) : FnG Pg w K mg base (lev + 1) fa fd ["jar", "n"] (S86 (K := K) T) := by
  refine def_ok F (N := ["jar", "n", "way", "columns", "spans", "size", "c", "many", "at"]) ⟨rfl, rfl, rfl, by decide +kernel, rfl, by decide +kernel, by decide +kernel⟩ (fun _ => rfl) (by decide) hblt fun cdv Ar outer s0 H E hcd ok hr n k w0 j ht ⟨n1, n2, hj⟩ => ?_
  have t := take_ok hj (t := 3) (by decide)
  have hl : (rangeI 0 n).length = n.toNat := by rw [rangeI_len, Int.sub_zero]
  have hol : (ownL n).length = n.toNat := by unfold ownL; rw [List.length_map, hl]
  refine hb_parC3 ok 2 3 4 (s := .im rInt (takeI j 3).1) (s1 := .mu rInt (rangeI 0 n)) (s2 := .mu rSpn (ownL n)) (by decide) (x_d (d_call h61 hr ok.gd 3 ⟨by decide, by decide, hj⟩ ht (a_ja 0 rfl rfl (.inl rfl) (a_im d_int a_nil)))) (x_m (EvM.is2 (LcD.m (lc_map (A := rInt) (xs := rangeI 0 n) (own := [("c", 6)]) (fun c => c) (blk_at ["jar", "n", "way", "columns", "spans", "size", "c", "many", "at"] (defScope (top 86)) ⟨rfl, by decide +kernel, by decide +kernel, by decide +kernel, by decide +kernel⟩) (rg1 ok (dv 1) (by omega)) (tc_name 6 ok.nd rfl rfl) (by rw [hl]; omega) fun c hc s H C cl fp => dv 6) rfl ok.nd) (List.map_id' _) rfl)) (x_m (m_call h82 hr ok.gd (rangeI 0 n) (by rw [hl]; omega) ht (a_bo (EvM.is2 (LcD.m (lc_map (A := rInt) (xs := rangeI 0 n) (own := [("c", 6)]) (fun c => c) (blk_at ["jar", "n", "way", "columns", "spans", "size", "c", "many", "at"] (defScope (top 86)) ⟨rfl, by decide +kernel, by decide +kernel, by decide +kernel, by decide +kernel⟩) (rg1 ok (dv 1) (by omega)) (tc_name 6 ok.nd rfl rfl) (by rw [hl]; omega) fun c hc s H C cl fp => dv 6) rfl ok.nd) (List.map_id' _) rfl).toB a_nil))) ?_
  refine hb_ifO (t_c (d_eqI (dv 2) d_int)) (fun hu => ?_) fun hu => ?_
  · have hu : (takeI j 3).1 = 0 := of_decide_eq_true hu
    refine hb_ret (d_call h76 hr ok.gd (n, ownL n ++ [rangeI 0 n]) (by show (ownL n ++ [rangeI 0 n]).length ≤ 1000; rw [List.length_append, hol, List.length_singleton]; omega) ht (a_im (dv 1) (a_bo (m_cat (k_mu 4 rfl rfl (.inl rfl)) (m_lst (r_cons (d_tupB ok (bm 3)) r_nil) (by show 1 ≤ 100000; decide)).toK (by rw [hol]; show _ + 1 ≤ _; omega)).toB a_nil))) ⟨?_, rfl⟩
    show _ = (shapeI n j).1
    unfold shapeI
    simp only [hu]
    rfl
  have hu : (takeI j 3).1 ≠ 0 := of_decide_eq_false hu
  refine hb_ifO (t_c (d_eqI (dv 2) d_int)) (fun hv => ?_) fun hv => ?_
  · have hv : (takeI j 3).1 = 1 := of_decide_eq_true hv
    have hml : (rangeI 2 (n + 1)).length ≤ 16 := by rw [rangeI_len]; omega
    refine hb_ret (d_call h76 hr ok.gd (n, ownL n ++ (rangeI 2 (n + 1)).map fun m => (rangeI 0 n).take m.toNat) (by show (ownL n ++ (rangeI 2 (n + 1)).map fun m => (rangeI 0 n).take m.toNat).length ≤ 1000; rw [List.length_append, hol, List.length_map]; omega) ht (a_im (dv 1) (a_bo (m_cat (k_mu 4 rfl rfl (.inl rfl)) (LcD.m (lc_map (A := rInt) (B := rSpn) (xs := rangeI 2 (n + 1)) (own := [("many", 7)]) (fun m => (rangeI 0 n).take m.toNat) (blk_at ["jar", "n", "way", "columns", "spans", "size", "c", "many", "at"] (defScope (top 86)) ⟨rfl, by decide +kernel, by decide +kernel, by decide +kernel, by decide +kernel⟩) (rg2 ok d_int (d_add (dv 1) d_int) (by omega)) (tc_name 7 ok.nd rfl rfl) (by omega) fun m hm s H C cl fp => d_tupB (by exact ok.blk _ _ _ _ _ _) (m_upto (bm 3) (dv 7) (by have := mem_rangeI.mp hm; rw [hl]; omega)).toB) rfl ok.nd).toK (by rw [hol, List.length_map]; omega)).toB a_nil))) ⟨?_, rfl⟩
    show _ = (shapeI n j).1
    unfold shapeI
    simp only [hv]
    rfl
  have hv : (takeI j 3).1 ≠ 1 := of_decide_eq_false hv
  refine st_ ok (s := .im rInt n) 5 (x_d (dv 1)) ?_
  refine hb_while ok (fun m Γ' j' => j' = (takeI j 3).2 ∧ ∃ f size spans s1 s2 s3, Γ' = [.ja, .im rInt n, .im rInt (takeI j 3).1, .mu rInt (rangeI 0 n), .mu rSpn spans, .im rInt size, s1, s2, s3] ∧ 1 ≤ size ∧ size ≤ n ∧ size.toNat < 2 ^ f ∧ spans.length + 16 * size.toNat ≤ 300 ∧ size.toNat = m ∧ halvesK n f size spans = halvesK n 20 n (ownL n)) (m0 := n.toNat) ⟨rfl, 20, n, ownL n, .un, .un, .un, rfl, n1, Int.le_refl n, by omega, by rw [hol]; omega, rfl, rfl⟩ ?_
  rintro m Γ' j' ⟨rfl, f, size, spans, s1, s2, s3, rfl, z1, z2, z3, z4, rfl, z5⟩
  refine ⟨decide (1 < size), (takeI j 3).2, t_c (d_gt (dv 5) d_int), fun hw => ?_, fun hw => ?_⟩
  · have hw := of_decide_eq_true hw
    have hcnt : ((n + size - 1) / size).toNat ≤ 16 := by
      have h1 : (n + size - 1) / size ≤ 16 := Int.le_of_lt_add_one (Int.ediv_lt_of_lt_mul (by omega) (by omega))
      omega
    have hhl : (halfL n size).length ≤ 16 := by unfold halfL; rw [List.length_map, stepsI_len]; exact hcnt
    refine hb_extend 4 rfl rfl (.inl rfl) (ys := halfL n size) (LcD.m (lc_map (A := rInt) (B := rSpn) (xs := stepsI 0 size ((n + size - 1) / size).toNat) (own := [("at", 8)]) (fun a => sliceI (rangeI 0 n) a (a + size)) (blk_at ["jar", "n", "way", "columns", "spans", "size", "c", "many", "at"] (defScope (top 86)) ⟨rfl, by decide +kernel, by decide +kernel, by decide +kernel, by decide +kernel⟩) (f_rng3 (rg_small (by omega) n2 z1 (by omega)) d_int (dv 1) (dv 5) rfl (blt_len ok)) (tc_name 8 ok.nd rfl rfl) (by rw [stepsI_len]; omega) fun a ha s2 H C cl fp => ?_) rfl ok.nd) (by omega) ?_
    · have ha0 : 0 ≤ a := by
        obtain ⟨i, _, rfl⟩ := List.mem_map.mp ha
        have := Int.mul_nonneg (Int.natCast_nonneg i) (show 0 ≤ size by omega)
        omega
      exact EvD.is2 (d_tupB (by exact ok.blk _ _ _ _ _ _) (m_fromto (bm 3) (dv 8) (d_add (dv 8) (dv 5)) ha0 (by omega)).toB) (cut_slice _ _ _) rfl
    · obtain ⟨f', rfl⟩ : ∃ f', f = f' + 1 := by
        cases f with
        | zero => exact absurd z3 (by simp; omega)
        | succ f => exact ⟨f, rfl⟩
      have hf1 : 2 ≤ 2 ^ f' := by
        cases f' with
        | zero => exact absurd z3 (by simp; omega)
        | succ f => have := Nat.one_le_two_pow (n := f); rw [Nat.pow_succ]; omega
      have hf2 : size.toNat < 2 * 2 ^ f' := by rw [Nat.pow_succ] at z3; omega
      let size' : Int := if decide (size % 2 = 0) = true then size / 2 else 1
      have hs' : 1 ≤ size' ∧ size' + 1 ≤ size ∧ size'.toNat < 2 ^ f' := by
        show 1 ≤ (if decide (size % 2 = 0) = true then size / 2 else 1) ∧ (if decide (size % 2 = 0) = true then size / 2 else 1) + 1 ≤ size ∧ (if decide (size % 2 = 0) = true then size / 2 else 1).toNat < 2 ^ f'
        split <;> omega
      have z5' : halvesK n f' size' (spans ++ halfL n size) = halvesK n 20 n (ownL n) := by
        rw [← z5]
        show _ = (if decide (1 < size) = true then halvesK n f' size' (spans ++ halfL n size) else spans)
        rw [if_pos (decide_eq_true hw)]
      refine st_ ok (s := .im rInt size') 5 (x_d (d_ifP (t_c (d_eqI (d_mod (by decide) (d_intI ok (dv 5)) d_int) d_int)) (fun _ => d_fdiv ⟨by decide, by decide⟩ (dv 5) d_int) fun _ => d_int)) (hb_nil ⟨size'.toNat, by omega, rfl, f', size', spans ++ halfL n size, s1, s2, s3, rfl, by omega, by omega, hs'.2.2, ?_, rfl, z5'⟩)
      rw [List.length_append]
      omega
  · refine hb_ret (d_call h76 hr ok.gd (n, spans) (by show spans.length ≤ 1000; omega) ht (a_im (dv 1) (a_bo (bm 4) a_nil))) ⟨?_, rfl⟩
    have e : halvesK n f size spans = spans := by
      cases f with
      | zero => rfl
      | succ f =>
        unfold halvesK
        rw [hw]
        exact if_neg Bool.false_ne_true
    rw [e] at z5
    show _ = (shapeI n j).1
    unfold shapeI
    simp only [hu, hv, if_false]
    rw [← z5]
end
end Fm
set_option maxHeartbeats 1000000
namespace Fm
open PySem PySem.Spec PyProof.Rows L2
open PySem.W (alike alikeAll dataLt Sortable)
def drawI (l m : Int) (j : Int × Int) : (Int × List (List Int)) × (Int × Int) :=
  if decide ((takeI (takeI j (m - l + 1)).2 4).1 = 0) = true then shapeI (l + (takeI j (m - l + 1)).1) (takeI (takeI j (m - l + 1)).2 4).2 else anyI (l + (takeI j (m - l + 1)).1) (takeI (takeI j (m - l + 1)).2 4).2
section
variable {Pg : Program} {w : World} {K : PySem.W.Frag} {mg : Str → Option Value} {base : Heap} {fa : Addr} {fd : FuncData} {T : Tbs} {lev : Nat}
abbrev S87 {K : PySem.W.Frag} (T : Tbs) : Sp := SpD (K := K) T (fun i : Int × Int => [.ja, .im rInt i.1, .im rInt i.2]) (fun i j => 1 ≤ i.1 ∧ i.1 ≤ i.2 ∧ i.2 ≤ 16 ∧ JOk j) rBk (fun i j => drawI i.1 i.2 j)
theorem ok87 (hblt : ∀ n ∈ bltNames, mg n = none) (h61 : Has Pg w K mg base lev "_law_take" ["jar", "top"] (S61 (K := K) T)) (h85 : Has Pg w K mg base lev "_law_any_nest" ["jar", "n"] (S85 (K := K) T)) (h86 : Has Pg w K mg base lev "_law_shape_nest" ["jar", "n"] (S86 (K := K) T)) (F : FnP K "_law_some_nest" (top 87) fa fd) : FnG Pg w K mg base (lev + 1) fa fd ["jar", "least_n", "limit"] (S87 (K := K) T) := by
  refine def_ok F (N := ["jar", "least_n", "limit", "n"]) ⟨rfl, rfl, rfl, by decide +kernel, rfl, by decide +kernel, by decide +kernel⟩ (fun _ => rfl) (by decide) hblt fun cdv Ar outer s0 H E hcd ok hr i k w0 j ht ⟨n1, n2, n3, hj⟩ => ?_
  obtain ⟨l, m⟩ := i
  have n1 : 1 ≤ l := n1
  have n2 : l ≤ m := n2
  have n3 : m ≤ 16 := n3
  have t := take_ok hj (t := m - l + 1) (by omega)
  have u := take_ok t.1 (t := 4) (by decide)
  have hn : 1 ≤ l + (takeI j (m - l + 1)).1 ∧ l + (takeI j (m - l + 1)).1 ≤ 16 := by omega
  refine st_ ok (s := .im rInt (l + (takeI j (m - l + 1)).1)) 3 (x_d (d_add (dv 1) (d_call h61 hr ok.gd (m - l + 1) ⟨by omega, by show m - l + 1 ≤ 100000; omega, hj⟩ ht (a_ja 0 rfl rfl (.inl rfl) (a_im (d_add (d_sub (dv 2) (dv 1)) d_int) a_nil))))) ?_
  refine hb_ret (d_ifx (u := decide ((takeI (takeI j (m - l + 1)).2 4).1 = 0)) (t_c (d_eqI (d_call h61 hr ok.gd 4 ⟨by decide, by decide, t.1⟩ ht (a_ja 0 rfl rfl (.inl rfl) (a_im d_int a_nil))) d_int)) (fun _ => d_call h86 hr ok.gd (l + (takeI j (m - l + 1)).1) ⟨hn.1, hn.2, u.1⟩ ht (a_ja 0 rfl rfl (.inl rfl) (a_im (dv 3) a_nil))) fun _ => d_call h85 hr ok.gd (l + (takeI j (m - l + 1)).1) ⟨hn.1, hn.2, u.1⟩ ht (a_ja 0 rfl rfl (.inl rfl) (a_im (dv 3) a_nil))) ⟨?_, ?_⟩
  · show _ = (drawI l m j).1
    unfold drawI
    split <;> rfl
  · show _ = (drawI l m j).2
    unfold drawI
    split <;> rfl
end
end Fm
set_option maxHeartbeats 1000000
/-! P2: the tree of a nest, plainly. -/
namespace Fm
open PySem PySem.Spec PyProof.Rows L2
open PySem.W (alike alikeAll dataLt Sortable)
open Rq (Sz Ok OkD)
/-! ### orders -/
theorem dlt_self (d : PyData) : dataLt d d = false := lex_irrefl _
theorem eqv_ints (a b : List Int) : PyData.eqv (.tuple (a.map .int)) (.tuple (b.map .int)) = decide (a = b) := by
  have h := eqvAll_inj (d := PyData.int) (fun x y : Int => by
    show (x == y) = true ↔ x = y
    rw [beq_iff_eq]) a b
  rw [eqv_tup]
  by_cases e : a = b
  · rw [decide_eq_true e]
    exact h.mpr e
  · rw [decide_eq_false e]
    cases q : PyData.eqvAll (a.map .int) (b.map .int) with
    | false => rfl
    | true => exact absurd (h.mp q) e
theorem lt_ints (a b : List Int) : dataLt (.tuple (a.map .int)) (.tuple (b.map .int)) = decide (a < b) := by
  rw [PySem.W.dataLt_tuple]
  exact PySem.W.dataLt_ints a b
theorem ord_lt (a b : List Int) : dataLt (dOrd a) (dOrd b) = decide (a.length < b.length ∨ (a.length = b.length ∧ a < b)) := by
  unfold dOrd dSpn
  rw [PySem.W.dataLt_pair (al_int _ _) (al_tup al_int a b), PySem.W.dataLt_int, lt_ints, eqv_ints]
  have e : PyData.eqv (.int (a.length : Int)) (.int (b.length : Int)) = decide (a.length = b.length) := by
    show (((a.length : Nat) : Int) == ((b.length : Nat) : Int)) = _
    rw [Bool.eq_iff_iff]
    simp
    omega
  rw [e]
  by_cases h1 : a.length = b.length
  · have hn : ¬ a.length < b.length := by omega
    by_cases h2 : a = b
    · subst h2
      simp [List.lt_irrefl]
    · simp [h1, h2, hn]
  · simp [h1]
abbrev spn (sp : List (List Int)) (k : Int) : List Int := sp.getD k.toNat []
abbrev InR (sp : List (List Int)) (k : Int) : Prop := 0 ≤ k ∧ k < ((sp.length : Nat) : Int)
def Sb (a b : List Int) : Prop := ∀ c ∈ a, c ∈ b
theorem Sb.refl (a : List Int) : Sb a a := fun _ h => h
theorem Sb.trans {a b c : List Int} (h : Sb a b) (k : Sb b c) : Sb a c := fun x hx => k x (h x hx)
theorem liesB_Sb {a b : List Int} : liesB a b = true ↔ Sb a b := liesB_iff
theorem sub_sorted : ∀ {b a : List Int}, a.Pairwise (· < ·) → b.Pairwise (· < ·) → Sb a b → a.Sublist b
  | [], a, _, _, h => by
    cases a with
    | nil => exact List.Sublist.refl _
    | cons x a => exact absurd (h x List.mem_cons_self) (by simp)
  | y :: b, [], _, _, _ => List.nil_sublist _
  | y :: b, x :: a, ha, hb, h => by
    obtain ⟨a1, a2⟩ := List.pairwise_cons.mp ha
    obtain ⟨b1, b2⟩ := List.pairwise_cons.mp hb
    by_cases e : x = y
    · subst e
      refine (sub_sorted a2 b2 fun c hc => ?_).cons_cons x
      rcases List.mem_cons.mp (h c (List.mem_cons_of_mem _ hc)) with z | z
      · have := a1 c hc
        omega
      · exact z
    · have hx : x ∈ b := by
        rcases List.mem_cons.mp (h x List.mem_cons_self) with z | z
        · exact absurd z e
        · exact z
      have hxy := b1 x hx
      refine (sub_sorted ha b2 fun c hc => ?_).cons y
      rcases List.mem_cons.mp (h c hc) with z | z
      · rcases List.mem_cons.mp hc with z2 | z2
        · omega
        · have := a1 c z2
          omega
      · exact z
theorem sub_len {a b : List Int} (ha : a.Pairwise (· < ·)) (hb : b.Pairwise (· < ·)) (h : Sb a b) : a.length ≤ b.length := (sub_sorted ha hb h).length_le
theorem sub_eq {a b : List Int} (ha : a.Pairwise (· < ·)) (hb : b.Pairwise (· < ·)) (h : Sb a b) (hl : b.length ≤ a.length) : a = b := (sub_sorted ha hb h).eq_of_length (Nat.le_antisymm (sub_len ha hb h) hl)
/-! ### members -/
theorem enumL_mem {α : Type} {xs : List α} {p : Int × α} : p ∈ enumL xs ↔ 0 ≤ p.1 ∧ xs[p.1.toNat]? = some p.2 := by
  constructor
  · intro h
    obtain ⟨i, hi⟩ := List.getElem?_of_mem h
    obtain ⟨h1, h2⟩ := enumL_iff hi
    rw [h2]
    exact ⟨by omega, by simpa using h1⟩
  · rintro ⟨h0, h⟩
    have := enumL_get h
    rw [Int.toNat_of_nonneg h0] at this
    exact mem_of_get this
theorem inr_get {sp : List (List Int)} {k : Int} (h : InR sp k) : sp[k.toNat]? = some (spn sp k) := getD_of (by omega)
theorem within_mem {sp : List (List Int)} {n o : Int} : o ∈ withinI sp n ↔ InR sp o ∧ o ≠ n ∧ Sb (spn sp o) (spn sp n) := by
  unfold withinI
  rw [List.mem_map]
  constructor
  · rintro ⟨p, hp, rfl⟩
    obtain ⟨h1, h2⟩ := List.mem_filter.mp hp
    obtain ⟨h3, h4⟩ := enumL_mem.mp h1
    have hr : InR sp p.1 := ⟨h3, by have := (List.getElem?_eq_some_iff.mp h4).1; omega⟩
    have e : spn sp p.1 = p.2 := Option.some.inj ((inr_get hr).symm.trans h4)
    simp only [Bool.and_eq_true, Bool.not_eq_true', decide_eq_false_iff_not] at h2
    refine ⟨hr, h2.1, ?_⟩
    rw [e]
    exact liesB_Sb.mp h2.2
  · rintro ⟨h1, h2, h3⟩
    refine ⟨(o, spn sp o), List.mem_filter.mpr ⟨enumL_mem.mpr ⟨h1.1, inr_get h1⟩, ?_⟩, rfl⟩
    simp only [Bool.and_eq_true, Bool.not_eq_true', decide_eq_false_iff_not]
    exact ⟨h2, liesB_Sb.mpr h3⟩
theorem outer_mem {sp : List (List Int)} {ns : List Int} {n : Int} : n ∈ outerI sp ns ↔ n ∈ ns ∧ ∀ o ∈ ns, o ≠ n → ¬ Sb (spn sp n) (spn sp o) := by
  unfold outerI
  rw [List.mem_filter]
  simp only [Bool.not_eq_true', List.any_eq_false, Bool.and_eq_true, Bool.not_eq_true', decide_eq_false_iff_not, not_and]
  exact ⟨fun ⟨h1, h2⟩ => ⟨h1, fun o ho hne hs => h2 o ho hne (liesB_Sb.mpr hs)⟩, fun ⟨h1, h2⟩ => ⟨h1, fun o ho hne hs => h2 o ho hne (liesB_Sb.mp hs)⟩⟩
theorem kid_mem {sp : List (List Int)} {n o : Int} : o ∈ kidsI sp n ↔ InR sp o ∧ o ≠ n ∧ Sb (spn sp o) (spn sp n) ∧ ∀ i, InR sp i → i ≠ n → Sb (spn sp i) (spn sp n) → i ≠ o → ¬ Sb (spn sp o) (spn sp i) := by
  unfold kidsI
  rw [outer_mem, within_mem]
  constructor
  · rintro ⟨⟨h1, h2, h3⟩, h4⟩
    exact ⟨h1, h2, h3, fun i hi hn hs ho => h4 i (within_mem.mpr ⟨hi, hn, hs⟩) ho⟩
  · rintro ⟨h1, h2, h3, h4⟩
    refine ⟨⟨h1, h2, h3⟩, fun i hi ho => ?_⟩
    obtain ⟨g1, g2, g3⟩ := within_mem.mp hi
    exact h4 i g1 g2 g3 ho
theorem top_mem {sp : List (List Int)} {o : Int} : o ∈ topsI sp ↔ InR sp o ∧ ∀ i, InR sp i → i ≠ o → ¬ Sb (spn sp o) (spn sp i) := by
  unfold topsI
  rw [outer_mem, mem_rangeI]
  exact ⟨fun ⟨h1, h2⟩ => ⟨h1, fun i hi ho => h2 i (mem_rangeI.mpr hi) ho⟩, fun ⟨h1, h2⟩ => ⟨h1, fun i hi ho => h2 i (mem_rangeI.mp hi) ho⟩⟩
/-! ### in a book -/
section
variable {n : Int} {sp : List (List Int)}
theorem Book.at {k : Int} (h : Book n sp) (hk : InR sp k) : Rising n (spn sp k) := h.ris _ (mem_of_get (inr_get hk))
theorem Book.ord2 {i k : Int} (h : Book n sp) (hi : 0 ≤ i) (hik : i < k) (hk : k < ((sp.length : Nat) : Int)) : dataLt (dOrd (spn sp i)) (dOrd (spn sp k)) = true ∧ dataLt (dOrd (spn sp k)) (dOrd (spn sp i)) = false :=
  pw_get h.ord (i := i.toNat) (m := k.toNat) (by omega) (inr_get ⟨hi, by omega⟩) (inr_get ⟨by omega, hk⟩)
theorem Book.len_le {i k : Int} (h : Book n sp) (hi : 0 ≤ i) (hik : i ≤ k) (hk : k < ((sp.length : Nat) : Int)) : (spn sp i).length ≤ (spn sp k).length := by
  rcases Int.lt_or_eq_of_le hik with g | g
  · have := (h.ord2 hi g hk).1
    rw [ord_lt] at this
    have := of_decide_eq_true this
    omega
  · rw [g]
    exact Nat.le_refl _
theorem Book.inj {i k : Int} (h : Book n sp) (hi : InR sp i) (hk : InR sp k) (e : spn sp i = spn sp k) : i = k := by
  rcases Int.lt_trichotomy i k with g | g | g
  · have := (h.ord2 hi.1 g hk.2).1
    rw [e, dlt_self] at this
    cases this
  · exact g
  · have := (h.ord2 hk.1 g hi.2).1
    rw [e, dlt_self] at this
    cases this
/-- a span within another one is shorter and stands ahead -/
theorem Book.sub_lt {i k : Int} (h : Book n sp) (hi : InR sp i) (hk : InR sp k) (hne : i ≠ k) (hs : Sb (spn sp i) (spn sp k)) : lenI sp i < lenI sp k ∧ i < k := by
  have ri := h.at hi
  have rk := h.at hk
  have h1 : (spn sp i).length < (spn sp k).length := by
    rcases Nat.lt_or_ge (spn sp i).length (spn sp k).length with g | g
    · exact g
    · exact absurd (h.inj hi hk (sub_eq ri.2.1 rk.2.1 hs g)) hne
  refine ⟨h1, ?_⟩
  rcases Int.lt_or_le i k with g | g
  · exact g
  · have := h.len_le hk.1 g hi.2
    omega
theorem Book.len16 {k : Int} (h : Book n sp) (hk : InR sp k) : 1 ≤ lenI sp k ∧ lenI sp k ≤ 16 := by
  obtain ⟨r1, r2, r3⟩ := h.at hk
  have := rising_len r2 r3
  have := h.n2
  have := List.length_pos_iff.mpr r1
  show 1 ≤ (spn sp k).length ∧ (spn sp k).length ≤ 16
  omega
/-- some span with a property, of the fewest columns -/
theorem least_of {P : Int → Prop} {k : Int} (hk : InR sp k) (hp : P k) : ∃ m, InR sp m ∧ P m ∧ ∀ i, InR sp i → P i → lenI sp m ≤ lenI sp i := by
  suffices h : ∀ (b : Nat) (k : Int), lenI sp k ≤ b → InR sp k → P k → ∃ m, InR sp m ∧ P m ∧ ∀ i, InR sp i → P i → lenI sp m ≤ lenI sp i from h _ k (Nat.le_refl _) hk hp
  intro b
  induction b with
  | zero => exact fun k hb hk hp => ⟨k, hk, hp, fun i _ _ => by omega⟩
  | succ b ih =>
    intro k hb hk hp
    by_cases h : ∃ i, InR sp i ∧ P i ∧ lenI sp i < lenI sp k
    · obtain ⟨i, h1, h2, h3⟩ := h
      exact ih i (by omega) h1 h2
    · exact ⟨k, hk, hp, fun i h1 h2 => Nat.le_of_not_lt fun z => h ⟨i, h1, h2, z⟩⟩
theorem most_of {P : Int → Prop} (h : Book n sp) {k : Int} (hk : InR sp k) (hp : P k) : ∃ m, InR sp m ∧ P m ∧ ∀ i, InR sp i → P i → lenI sp i ≤ lenI sp m := by
  suffices hh : ∀ (b : Nat) (k : Int), 16 - lenI sp k ≤ b → InR sp k → P k → ∃ m, InR sp m ∧ P m ∧ ∀ i, InR sp i → P i → lenI sp i ≤ lenI sp m from hh _ k (Nat.le_refl _) hk hp
  intro b
  induction b with
  | zero => exact fun k hb hk hp => ⟨k, hk, hp, fun i hi _ => by have := (h.len16 hi).2; omega⟩
  | succ b ih =>
    intro k hb hk hp
    by_cases hh : ∃ i, InR sp i ∧ P i ∧ lenI sp k < lenI sp i
    · obtain ⟨i, h1, h2, h3⟩ := hh
      exact ih i (by have := (h.len16 h1).2; omega) h1 h2
    · exact ⟨k, hk, hp, fun i h1 h2 => Nat.le_of_not_lt fun z => hh ⟨i, h1, h2, z⟩⟩
/-! ### in a nest -/
/-- kids of a span do not meet -/
theorem Nest.apart (h : Nest n sp) {k a b : Int} (hk : InR sp k) (ha : a ∈ kidsI sp k) (hb : b ∈ kidsI sp k) (hne : a ≠ b) : ∀ c ∈ spn sp a, c ∉ spn sp b := by
  intro c ca cb
  obtain ⟨a1, a2, a3, a4⟩ := kid_mem.mp ha
  obtain ⟨b1, b2, b3, b4⟩ := kid_mem.mp hb
  rcases h.lam _ (mem_of_get (inr_get a1)) _ (mem_of_get (inr_get b1)) ⟨c, ca, cb⟩ with z | z
  · exact a4 b b1 b2 b3 (fun e => hne e.symm) z
  · exact b4 a a1 a2 a3 hne z
/-- each proper part lies in a kid -/
theorem Book.kid_over (h : Book n sp) {k i : Int} (hk : InR sp k) (hi : InR sp i) (hne : i ≠ k) (hs : Sb (spn sp i) (spn sp k)) : ∃ c ∈ kidsI sp k, Sb (spn sp i) (spn sp c) := by
  obtain ⟨m, m1, ⟨m2, m3, m4⟩, m5⟩ := most_of (P := fun c => c ≠ k ∧ Sb (spn sp c) (spn sp k) ∧ Sb (spn sp i) (spn sp c)) h hi ⟨hne, hs, Sb.refl _⟩
  refine ⟨m, kid_mem.mpr ⟨m1, m2, m3, fun o o1 o2 o3 o4 o5 => ?_⟩, m4⟩
  have := m5 o o1 ⟨o2, o3, m4.trans o5⟩
  have := (h.sub_lt m1 o1 (fun e => o4 e.symm) o5).1
  omega
/-- what is not a top is some span's kid -/
theorem Book.kid_of (h : Book n sp) {i : Int} (hi : InR sp i) (ht : i ∉ topsI sp) : ∃ k, InR sp k ∧ i ∈ kidsI sp k := by
  have hex : ∃ o, InR sp o ∧ o ≠ i ∧ Sb (spn sp i) (spn sp o) := by
    apply Classical.byContradiction
    intro z
    exact ht (top_mem.mpr ⟨hi, fun o o1 o2 o3 => z ⟨o, o1, o2, o3⟩⟩)
  obtain ⟨o, o1, o2, o3⟩ := hex
  obtain ⟨m, m1, ⟨m2, m3⟩, m4⟩ := least_of (P := fun c => c ≠ i ∧ Sb (spn sp i) (spn sp c)) o1 ⟨o2, o3⟩
  refine ⟨m, m1, kid_mem.mpr ⟨hi, fun e => m2 e.symm, m3, fun j j1 j2 j3 j4 j5 => ?_⟩⟩
  have := m4 j j1 ⟨j4, j5⟩
  have := (h.sub_lt j1 m1 j2 j3).1
  omega
/-- each span lies in a top -/
theorem Book.top_over (h : Book n sp) {i : Int} (hi : InR sp i) : ∃ t ∈ topsI sp, Sb (spn sp i) (spn sp t) := by
  obtain ⟨m, m1, m2, m3⟩ := most_of (P := fun c => Sb (spn sp i) (spn sp c)) h hi (Sb.refl _)
  refine ⟨m, top_mem.mpr ⟨m1, fun o o1 o2 o3 => ?_⟩, m2⟩
  have := m3 o o1 (m2.trans o3)
  have := (h.sub_lt m1 o1 (fun e => o2 e.symm) o3).1
  omega
/-- lists of lists that do not meet, within a list -/
theorem kids_sum : ∀ {ks : List Int} {s : List Int}, ks.Nodup → (∀ c ∈ ks, (spn sp c).Pairwise (· < ·)) → (∀ a ∈ ks, ∀ b ∈ ks, a ≠ b → ∀ c ∈ spn sp a, c ∉ spn sp b) → (∀ a ∈ ks, Sb (spn sp a) s) → s.Nodup → ((ks.map (lenI sp)).sum ≤ s.length)
  | [], s, _, _, _, _, _ => Nat.zero_le _
  | k :: ks, s, hn, hr, hd, hs, hsn => by
    obtain ⟨n1, n2⟩ := List.nodup_cons.mp hn
    have hsk := hs k List.mem_cons_self
    let s' := s.filter fun c => !decide (c ∈ spn sp k)
    have e1 : ((spn sp k).length) ≤ (s.filter fun c => decide (c ∈ spn sp k)).length := by
      have hnd : (spn sp k).Nodup := (hr k List.mem_cons_self).imp fun h => by omega
      exact hnd.length_le_of_subset fun c hc => List.mem_filter.mpr ⟨hsk c hc, decide_eq_true hc⟩
    have e2 : (s.filter fun c => decide (c ∈ spn sp k)).length + s'.length = s.length := by
      have := List.length_eq_countP_add_countP (l := s) fun c => decide (c ∈ spn sp k)
      rw [List.countP_eq_length_filter, List.countP_eq_length_filter] at this
      rw [this]
      congr 2
      apply List.filter_congr
      intro c _
      simp
    have ih := kids_sum (ks := ks) (s := s') n2 (fun c hc => hr c (List.mem_cons_of_mem _ hc)) (fun a ha b hb => hd a (List.mem_cons_of_mem _ ha) b (List.mem_cons_of_mem _ hb)) (fun a ha c hc => List.mem_filter.mpr ⟨hs a (List.mem_cons_of_mem _ ha) c hc, by
      have : c ∉ spn sp k := hd a (List.mem_cons_of_mem _ ha) k List.mem_cons_self (fun e => n1 (e ▸ ha)) c hc
      rw [decide_eq_false this]
      rfl⟩) (hsn.filter _)
    rw [List.map_cons, List.sum_cons]
    show (spn sp k).length + _ ≤ _
    omega
end
end Fm
set_option maxHeartbeats 1000000
/-! P3: the tree of a nest is well formed; picks, sizes. -/
namespace Fm
open PySem PySem.Spec PyProof.Rows L2
open PySem.W (alike alikeAll dataLt Sortable)
open Rq (Sz Ok OkD)
section
variable {n : Int} {sp : List (List Int)}
theorem enumL_pw {α : Type} (xs : List α) : (enumL xs).Pairwise (fun p q => p.1 < q.1) := by
  rw [List.pairwise_iff_getElem]
  intro i j hi hj hij
  have h1 := (enumL_iff (List.getElem?_eq_getElem hi)).2
  have h2 := (enumL_iff (List.getElem?_eq_getElem hj)).2
  rw [h1, h2]
  omega
theorem within_pw (sp : List (List Int)) (k : Int) : (withinI sp k).Pairwise (· < ·) := by
  unfold withinI
  rw [List.pairwise_map]
  exact (enumL_pw sp).sublist List.filter_sublist
theorem kids_pw (sp : List (List Int)) (k : Int) : (kidsI sp k).Pairwise (· < ·) := by
  unfold kidsI outerI
  exact (within_pw sp k).sublist List.filter_sublist
theorem nd_of_lt {xs : List Int} (h : xs.Pairwise (· < ·)) : xs.Nodup := h.imp fun h => by omega
theorem spn_pw (h : Book n sp) (k : Int) : (spn sp k).Pairwise (· < ·) := by
  by_cases hk : k.toNat < sp.length
  · exact (h.ris _ (mem_of_get (getD_of (d := []) hk))).2.1
  · have e : spn sp k = [] := by
      show sp.getD k.toNat [] = []
      rw [List.getD_eq_getElem?_getD, List.getElem?_eq_none (by omega)]
      rfl
    rw [e]
    exact .nil
theorem Nest.apart' (h : Nest n sp) {k a b : Int} (ha : a ∈ kidsI sp k) (hb : b ∈ kidsI sp k) (hne : a ≠ b) : ∀ c ∈ spn sp a, c ∉ spn sp b := by
  intro c ca cb
  obtain ⟨a1, a2, a3, a4⟩ := kid_mem.mp ha
  obtain ⟨b1, b2, b3, b4⟩ := kid_mem.mp hb
  rcases h.lam _ (mem_of_get (inr_get a1)) _ (mem_of_get (inr_get b1)) ⟨c, ca, cb⟩ with z | z
  · exact a4 b b1 b2 b3 (fun e => hne e.symm) z
  · exact b4 a a1 a2 a3 hne z
/-- the columns of kids, added up -/
theorem Nest.kidSum (h : Nest n sp) {k : Int} {ks : List Int} (hs : ks.Sublist (kidsI sp k)) : (ks.map (lenI sp)).sum ≤ lenI sp k :=
  kids_sum (nd_of_lt ((kids_pw sp k).sublist hs)) (fun c hc => spn_pw h.toBook c) (fun a ha b hb hne => h.apart' (hs.subset ha) (hs.subset hb) hne) (fun a ha => (kid_mem.mp (hs.subset ha)).2.2.1) (nd_of_lt (spn_pw h.toBook k))
theorem sum_ones {f : Int → Nat} : ∀ {ks : List Int}, (∀ c ∈ ks, 1 ≤ f c) → ks.length ≤ (ks.map f).sum
  | [], _ => Nat.le_refl _
  | k :: ks, h => by
    rw [List.length_cons, List.map_cons, List.sum_cons]
    have := h k List.mem_cons_self
    have := sum_ones (ks := ks) fun c hc => h c (List.mem_cons_of_mem _ hc)
    omega
theorem Nest.kidCount (h : Nest n sp) {k : Int} {ks : List Int} (hs : ks.Sublist (kidsI sp k)) : ks.length ≤ lenI sp k :=
  Nat.le_trans (sum_ones fun c hc => (h.toBook.len16 (kid_mem.mp (hs.subset hc)).1).1) (h.kidSum hs)
theorem lenI_n (h : Book n sp) {k : Int} (hk : InR sp k) : ((lenI sp k : Nat) : Int) ≤ n := by
  obtain ⟨r1, r2, r3⟩ := h.at hk
  have := rising_len r2 r3
  have := h.n1
  show (((spn sp k).length : Nat) : Int) ≤ n
  omega
theorem Nest.kidsOk (h : Nest n sp) : KidsOk sp where
  low := fun k o h0 h1 ho => by
    obtain ⟨o1, o2, o3, _⟩ := kid_mem.mp ho
    exact (h.toBook.sub_lt o1 ⟨h0, h1⟩ o2 o3).1
  l16 := fun k h0 h1 => h.toBook.len16 ⟨h0, h1⟩
  len := h.l2
  pos := h.l1
  lt := fun k o h0 h1 ho => by
    obtain ⟨o1, o2, o3, _⟩ := kid_mem.mp ho
    exact ⟨o1.1, (h.toBook.sub_lt o1 ⟨h0, h1⟩ o2 o3).2⟩
  few := fun k h0 h1 => Nat.le_trans (h.kidCount (List.Sublist.refl _)) (h.toBook.len16 ⟨h0, h1⟩).2
  top := fun z => by
    have h1 := h.l1
    obtain ⟨t, ht, _⟩ := h.toBook.top_over (i := 0) ⟨Int.le_refl 0, by omega⟩
    rw [z] at ht
    cases ht
theorem Nest.nestK (h : Nest n sp) : NestK n sp := { h with toKidsOk := h.kidsOk }
/-! ### roots -/
theorem tree_row {row : List Int} : row ∈ treeI sp ↔ ∃ k, InR sp k ∧ row = kidsI sp k := by
  unfold treeI
  rw [List.mem_map]
  constructor
  · rintro ⟨m, hm, rfl⟩
    have := List.mem_range.mp hm
    exact ⟨(m : Int), ⟨by omega, by omega⟩, rfl⟩
  · rintro ⟨k, hk, rfl⟩
    exact ⟨k.toNat, List.mem_range.mpr (by have := hk.1; have := hk.2; omega), by rw [Int.toNat_of_nonneg hk.1]⟩
theorem top_iff (h : Book n sp) {i : Int} (hi : InR sp i) : i ∈ topsI sp ↔ ∀ k, InR sp k → i ∉ kidsI sp k := by
  constructor
  · intro ht k hk hik
    obtain ⟨h1, h2, h3, _⟩ := kid_mem.mp hik
    exact (top_mem.mp ht).2 k hk (fun e => h2 e.symm) h3
  · intro ha
    apply Classical.byContradiction
    intro z
    obtain ⟨k, k1, k2⟩ := h.kid_of hi z
    exact ha k k1 k2
theorem roots_tops (h : Book n sp) : rootsI sp = topsI sp := by
  unfold rootsI topsI outerI
  apply List.filter_congr
  intro i hi
  have hr : InR sp i := mem_rangeI.mp hi
  have e1 : (i ∈ topsI sp) ↔ _ := List.mem_filter
  rw [Bool.eq_iff_iff]
  have e2 := top_iff h hr
  constructor
  · intro q
    have q := of_decide_eq_true q
    refine (e1.mp (e2.mpr fun k hk hik => ?_)).2
    have : kidsI sp k ∈ (treeI sp).filter (fun row => decide (i ∈ row)) := List.mem_filter.mpr ⟨tree_row.mpr ⟨k, hk, rfl⟩, decide_eq_true hik⟩
    rw [q] at this
    cases this
  · intro q
    have ht := e2.mp (e1.mpr ⟨hi, q⟩)
    apply decide_eq_true
    rw [List.filter_eq_nil_iff]
    intro row hrow z
    obtain ⟨k, hk, rfl⟩ := tree_row.mp hrow
    exact ht k hk (of_decide_eq_true z)
/-! ### picks -/
structure Sel (sp picks : List (List Int)) : Prop where
  len : picks.length = sp.length
  sub : ∀ k, InR sp k → (picks.getD k.toNat []).Sublist (kidsI sp k)
theorem lives_at {k : Int} (hk : InR sp k) : (livesI sp).getD k.toNat [] = activeI sp (pricesI sp) k := by
  unfold livesI
  rw [List.getD_eq_getElem?_getD, List.getElem?_map, List.getElem?_range (by have := hk.1; have := hk.2; omega)]
  show activeI sp (pricesI sp) ((k.toNat : Nat) : Int) = _
  rw [Int.toNat_of_nonneg hk.1]
theorem sel_lives (sp : List (List Int)) : Sel sp (livesI sp) := ⟨livesI_len sp, fun k hk => by rw [lives_at hk]; exact List.filter_sublist⟩
theorem sel_picks {picks : List (List Int)} (h : PicksOf sp picks) : Sel sp picks := ⟨h.1, fun k hk => by
  rcases h.2 k hk.1 hk.2 with q | ⟨_, q⟩
  · exact (lotsI_mem.mp q).1
  · rw [q]
    exact List.nil_sublist _⟩
theorem Sel.ok {picks : List (List Int)} (s : Sel sp picks) (h : Nest n sp) : PickOk picks where
  len := by rw [s.len]; exact h.l2
  lt := fun l i h0 h1 hi => by
    rw [s.len] at h1
    exact h.kidsOk.lt l i h0 h1 ((s.sub l ⟨h0, h1⟩).subset hi)
  few := fun l h0 h1 => by
    rw [s.len] at h1
    exact Nat.le_trans (s.sub l ⟨h0, h1⟩).length_le (h.kidsOk.few l h0 h1)
theorem sum_mul_le {f g : Int → Nat} {m : Nat} : ∀ {ks : List Int}, (∀ c ∈ ks, f c ≤ m * g c) → (ks.map f).sum ≤ m * (ks.map g).sum
  | [], _ => Nat.zero_le _
  | k :: ks, h => by
    rw [List.map_cons, List.sum_cons, List.map_cons, List.sum_cons, Nat.mul_add]
    exact Nat.add_le_add (h k List.mem_cons_self) (sum_mul_le fun c hc => h c (List.mem_cons_of_mem _ hc))
/-- over kids, what is at most the square of their columns -/
theorem Nest.sq (h : Nest n sp) {k : Int} (hk : InR sp k) {ks : List Int} (hs : ks.Sublist (kidsI sp k)) {f : Int → Nat} (hf : ∀ c ∈ ks, f c ≤ lenI sp c * lenI sp c) : 1 + (ks.map f).sum ≤ lenI sp k * lenI sp k := by
  have l1 := (h.toBook.len16 hk).1
  obtain ⟨m, hm⟩ : ∃ m, lenI sp k = m + 1 := ⟨lenI sp k - 1, by omega⟩
  have h1 : (ks.map f).sum ≤ m * (ks.map (lenI sp)).sum := sum_mul_le fun c hc => Nat.le_trans (hf c hc) (Nat.mul_le_mul_right _ (by
    have := h.kidsOk.low k c hk.1 hk.2 (hs.subset hc)
    omega))
  have h2 := h.kidSum hs
  have h3 : m * (ks.map (lenI sp)).sum ≤ m * (m + 1) := Nat.mul_le_mul_left _ (by omega)
  rw [hm, Nat.add_mul, Nat.one_mul]
  omega
theorem Sel.szN {picks : List (List Int)} (s : Sel sp picks) (h : Nest n sp) : ∀ (d : Nat) (k : Int), InR sp k → szN picks d k ≤ lenI sp k * lenI sp k
  | 0, k, _ => Nat.zero_le _
  | d + 1, k, hk => h.sq hk (s.sub k hk) fun c hc => Sel.szN s h d c (kid_mem.mp ((s.sub k hk).subset hc)).1
theorem sq256 (h : Book n sp) {k : Int} (hk : InR sp k) : lenI sp k * lenI sp k ≤ 256 := by
  have := (h.len16 hk).2
  exact Nat.mul_le_mul this this
theorem Sel.kid {picks : List (List Int)} (s : Sel sp picks) {p : Path3} (hp : InR sp (endI p)) {i : Int} (hi : i ∈ someI picks p) : i ∈ kidsI sp (endI p) := (s.sub _ hp).subset hi
theorem Sel.pth_len {picks : List (List Int)} (s : Sel sp picks) : ∀ (d : Nat) (p : Path3), InR sp (endI p) → (pthR picks d p).length ≤ Fm.szN picks d (endI p)
  | 0, p, _ => Nat.le_refl _
  | d + 1, p, hp => by
    show (if someI picks p = [] then [p] else _).length ≤ 1 + ((picks.getD (endI p).toNat []).map (Fm.szN picks d)).sum
    split
    · show 1 ≤ _
      omega
    · have key : ∀ cs : List Int, (∀ c ∈ cs, c ∈ someI picks p) → ((cs.map (kidN (someI picks p).length p)).flatMap (pthR picks d)).length ≤ (cs.map (Fm.szN picks d)).sum := by
        intro cs
        induction cs with
        | nil => intro _; exact Nat.le_refl _
        | cons c cs ih =>
          intro hc
          rw [List.map_cons, List.flatMap_cons, List.length_append, List.map_cons, List.sum_cons]
          have e : endI (kidN (someI picks p).length p c) = c := last_snoc
          have := Sel.pth_len s d (kidN (someI picks p).length p c) (by rw [e]; exact (kid_mem.mp (s.kid hp (hc c List.mem_cons_self))).1)
          rw [e] at this
          exact Nat.add_le_add this (ih fun x hx => hc x (List.mem_cons_of_mem _ hx))
      have h1 := key (someI picks p).reverse fun c hc => List.mem_reverse.mp hc
      rw [List.map_reverse, List.map_reverse, List.sum_reverse] at h1
      exact Nat.le_trans h1 (Nat.le_add_left _ _)
theorem node_root {picks : List (List Int)} {k : Int} (hl : picks.length ≤ 40) (h0 : 0 ≤ k) (h1 : k < ((picks.length : Nat) : Int)) : NodeOk picks ([k], 1, 1) := by
  refine ⟨⟨[], k, rfl, rfl, h0, h1, ?_⟩, Ok.one _ (Nat.le_refl 1), Ok.one _ (Nat.le_refl 1)⟩
  show ((0 : Nat) : Int) + k ≤ 40
  omega
theorem node_pth {picks : List (List Int)} (h : PickOk picks) : ∀ (d : Nat) (p : Path3), NodeOk picks p → ∀ q ∈ pthR picks d p, NodeOk picks q
  | 0, p, _, q, hq => nomatch hq
  | d + 1, p, np, q, hq => by
    have hq : q ∈ (if someI picks p = [] then [p] else ((someI picks p).map (kidN (someI picks p).length p)).reverse.flatMap (pthR picks d)) := hq
    split at hq
    · rw [List.mem_singleton.mp hq]
      exact np
    · obtain ⟨r, hr, hq⟩ := List.mem_flatMap.mp hq
      obtain ⟨i, hi, rfl⟩ := List.mem_map.mp (List.mem_reverse.mp hr)
      exact node_pth h d _ (np.kid h hi) q hq
theorem paths_perm (picks : List (List Int)) (k : Int) : (pathsI picks k).Perm (pthR picks 41 ([k], 1, 1)) := List.mergeSort_perm _ _
theorem Sel.paths {picks : List (List Int)} (s : Sel sp picks) (h : Nest n sp) {k : Int} (hk : InR sp k) : PathsOk (pathsI picks k) := by
  have hp := s.ok h
  have e : endI ([k], (1 : Rat), (1 : Rat)) = k := rfl
  refine ⟨?_, fun q hq => ?_⟩
  · rw [(paths_perm picks k).length_eq]
    have h1 := s.pth_len 41 ([k], 1, 1) (by rw [e]; exact hk)
    have h2 := s.szN h 41 k hk
    have h3 := sq256 h.toBook hk
    rw [e] at h1
    omega
  · have nq := node_pth hp 41 _ (node_root hp.len hk.1 (by rw [s.len]; exact hk.2)) q ((paths_perm picks k).mem_iff.mp hq)
    have hl := nq.len
    exact ⟨nq.ch.up (by omega) (Nat.le_refl _), nq.wo.up (by omega) (by omega)⟩
/-! ### scripts are few -/
theorem scr_len (h : Nest n sp) : ∀ (d : Nat) (k : Int), InR sp k → (scrI sp d k).length ≤ lenI sp k * lenI sp k
  | 0, k, _ => Nat.zero_le _
  | d + 1, k, hk => by
    have l1 := (h.toBook.len16 hk).1
    show (if activeI sp (pricesI sp) k = [] then [([k], (1 : Rat))] else _).length ≤ _
    split
    · show 1 ≤ _
      exact Nat.mul_pos l1 l1
    · rw [List.length_flatMap]
      have := h.sq hk (ks := activeI sp (pricesI sp) k) List.filter_sublist (f := fun c => (scrI sp d c).length) fun c hc => scr_len h d c (kid_mem.mp (active_kid hc)).1
      refine Nat.le_trans (Nat.le_of_eq ?_) (Nat.le_trans (Nat.le_add_left _ 1) this)
      congr 1
      apply List.map_congr_left
      intro c _
      exact List.length_map _
theorem spn_len (h : Book n sp) (k : Int) : lenI sp k ≤ 16 := by
  by_cases hk : k.toNat < sp.length
  · have := (h.len16 (k := ((k.toNat : Nat) : Int)) ⟨by omega, by omega⟩).2
    unfold lenI at this ⊢
    rwa [Int.toNat_natCast] at this
  · show (sp.getD k.toNat []).length ≤ 16
    rw [List.getD_eq_getElem?_getD, List.getElem?_eq_none (by omega)]
    exact Nat.zero_le _
theorem Nest.scrOk (h : Nest n sp) : ScrOk sp := { h.kidsOk with
  few2 := fun d k => by
    cases d with
    | zero => exact Nat.zero_le _
    | succ d =>
      show (if activeI sp (pricesI sp) k = [] then [([k], (1 : Rat))] else _).length ≤ _
      split
      · show 1 ≤ 1000
        decide
      · rw [List.length_flatMap]
        have hs : (activeI sp (pricesI sp) k).Sublist (kidsI sp k) := List.filter_sublist
        have h1 : ((activeI sp (pricesI sp) k).map fun c => (scrI sp d c).length).sum ≤ 16 * ((activeI sp (pricesI sp) k).map (lenI sp)).sum := sum_mul_le fun c hc => by
          have hi := (kid_mem.mp (active_kid hc)).1
          exact Nat.le_trans (scr_len h d c hi) (Nat.mul_le_mul_right _ (h.toBook.len16 hi).2)
        have h2 := h.kidSum hs
        have h3 := spn_len h.toBook k
        have e : ((activeI sp (pricesI sp) k).map fun c => ((scrI sp d c).map fun p => (k :: p.1, p.2 / (((activeI sp (pricesI sp) k).length : Nat) : Rat))).length) = (activeI sp (pricesI sp) k).map fun c => (scrI sp d c).length := List.map_congr_left fun c _ => List.length_map _
        rw [e]
        omega }
end
end Fm
set_option maxHeartbeats 1000000
/-! P4: prices and the children above them; the mean worth of paths. -/
namespace Fm
open PySem PySem.Spec PyProof.Rows L2
open PySem.W (alike alikeAll dataLt Sortable)
open Rq (Sz Ok OkD)
/-! ### sums -/
theorem sumQ_map_add {α : Type} (f g : α → Rat) : ∀ xs : List α, sumQ (xs.map fun x => f x + g x) = sumQ (xs.map f) + sumQ (xs.map g)
  | [] => by
    show sumQ [] = sumQ [] + sumQ []
    rw [sumQ_nil]
    grind
  | x :: xs => by
    rw [List.map_cons, List.map_cons, List.map_cons, sumQ_cons, sumQ_cons, sumQ_cons, sumQ_map_add f g xs]
    grind
theorem sumQ_map_mul {α : Type} (a : Rat) (f : α → Rat) : ∀ xs : List α, sumQ (xs.map fun x => a * f x) = a * sumQ (xs.map f)
  | [] => by
    show sumQ [] = a * sumQ []
    rw [sumQ_nil]
    grind
  | x :: xs => by
    rw [List.map_cons, List.map_cons, sumQ_cons, sumQ_cons, sumQ_map_mul a f xs]
    grind
theorem sumQ_const {α : Type} (a : Rat) : ∀ xs : List α, sumQ (xs.map fun _ => a) = a * ((xs.length : Nat) : Rat)
  | [] => by
    show sumQ [] = _
    rw [sumQ_nil]
    show 0 = a * ((0 : Nat) : Rat)
    grind
  | x :: xs => by
    rw [List.map_cons, sumQ_cons, sumQ_const a xs, List.length_cons]
    have e : ((xs.length + 1 : Nat) : Rat) = ((xs.length : Nat) : Rat) + 1 := by push_cast; rfl
    rw [e]
    grind
theorem sumQ_le {α : Type} {f g : α → Rat} : ∀ {xs : List α}, (∀ x ∈ xs, f x ≤ g x) → sumQ (xs.map f) ≤ sumQ (xs.map g)
  | [], _ => Rat.le_refl
  | x :: xs, h => by
    rw [List.map_cons, List.map_cons, sumQ_cons, sumQ_cons]
    have h1 := h x List.mem_cons_self
    have h2 := sumQ_le (xs := xs) fun y hy => h y (List.mem_cons_of_mem _ hy)
    grind
theorem sumQ_nonneg {α : Type} {f : α → Rat} {xs : List α} (h : ∀ x ∈ xs, 0 ≤ f x) : 0 ≤ sumQ (xs.map f) := by
  have := sumQ_le (f := fun _ => (0 : Rat)) (g := f) h
  rw [sumQ_const] at this
  grind
theorem sumQ_sub {α : Type} {f : α → Rat} {xs ys : List α} (h : xs.Sublist ys) (hf : ∀ y ∈ ys, 0 ≤ f y) : sumQ (xs.map f) ≤ sumQ (ys.map f) := by
  induction h with
  | slnil => exact Rat.le_refl
  | @cons l s a hs ih =>
    rw [List.map_cons, sumQ_cons]
    have h1 := ih fun y hy => hf y (List.mem_cons_of_mem _ hy)
    have h2 := hf a List.mem_cons_self
    grind
  | @cons_cons l s a hs ih =>
    rw [List.map_cons, sumQ_cons, List.map_cons, sumQ_cons]
    have h1 := ih fun y hy => hf y (List.mem_cons_of_mem _ hy)
    grind
theorem sumQ_pos {α : Type} (f : α → Rat) (p : α → Bool) (hp : ∀ x, p x = false → f x ≤ 0) : ∀ xs : List α, sumQ (xs.map f) ≤ sumQ ((xs.filter p).map f)
  | [] => Rat.le_refl
  | x :: xs => by
    have ih := sumQ_pos f p hp xs
    rw [List.map_cons, sumQ_cons]
    cases h : p x with
    | true =>
      rw [List.filter_cons_of_pos h, List.map_cons, sumQ_cons]
      grind
    | false =>
      rw [List.filter_cons_of_neg (by rw [h]; decide)]
      have := hp x h
      grind
theorem natR_pos {m : Nat} (h : 1 ≤ m) : (0 : Rat) < ((m : Nat) : Rat) := by exact_mod_cast h
theorem lotW_mul {rows : Int → Rat} {lot : List Int} (h : lot ≠ []) : lotW rows lot * ((lot.length : Nat) : Rat) = sumQ (lot.map rows) + ((lot.length : Nat) : Rat) - 1 := by
  have hl : 1 ≤ lot.length := List.length_pos_iff.mpr h
  have hp := natR_pos hl
  have e : ((lot.length - 1 : Nat) : Rat) + 1 = ((lot.length : Nat) : Rat) := by exact_mod_cast Nat.sub_add_cancel hl
  unfold lotW
  rw [Rat.add_mul, Rat.div_mul_cancel (by grind), Rat.div_mul_cancel (by grind)]
  grind
/-- a lot's worth against a level -/
theorem lot_sum_eq {rows : Int → Rat} {lot : List Int} (L : Rat) (h : lot ≠ []) : sumQ (lot.map fun c => rows c + 1 - L) = 1 + (lotW rows lot - L) * ((lot.length : Nat) : Rat) := by
  have e1 : (lot.map fun c => rows c + 1 - L) = lot.map fun c => rows c + (1 - L) := List.map_congr_left fun c _ => by grind
  rw [e1, sumQ_map_add, sumQ_const]
  have := lotW_mul (rows := rows) h
  grind
/-! ### a level and those above it -/
section
variable {rows : Int → Rat} {ks : List Int}
theorem level_lot (hk : ks ≠ []) {lot : List Int} (hl : lot ∈ lotsI ks) : lotW rows lot ≤ levelQ (ks.map rows) := by
  have e := lotPrice_eq rows ks
  rw [if_pos hk] at e
  rw [← e]
  have hne : lotsI ks ≠ [] := fun z => by rw [z] at hl; cases hl
  unfold lotPrice
  rw [if_neg hne]
  exact maxQ_ge (List.mem_map.mpr ⟨lot, hl, rfl⟩)
theorem level_is (hk : ks ≠ []) : ∃ lot ∈ lotsI ks, lotW rows lot = levelQ (ks.map rows) := by
  have e := lotPrice_eq rows ks
  rw [if_pos hk] at e
  have hne := lots_ne hk
  unfold lotPrice at e
  rw [if_neg hne] at e
  obtain ⟨lot, h1, h2⟩ := List.mem_map.mp (maxQ_mem (xs := (lotsI ks).map (lotW rows)) fun z => hne (List.map_eq_nil_iff.mp z))
  exact ⟨lot, h1, by rw [h2, e]⟩
theorem lot_le_iff {L : Rat} {lot : List Int} (h : lot ≠ []) (hL : lotW rows lot ≤ L) : sumQ (lot.map fun c => rows c + 1 - L) ≤ 1 := by
  rw [lot_sum_eq L h]
  have hp := natR_pos (List.length_pos_iff.mpr h)
  have : (lotW rows lot - L) * ((lot.length : Nat) : Rat) ≤ 0 := by
    have h1 := Rat.mul_le_mul_of_nonneg_right hL (Rat.le_of_lt hp)
    grind
  grind
/-- the sum over those above the level -/
theorem level_sum (hk : ks ≠ []) : sumQ ((ks.filter fun c => decide (levelQ (ks.map rows) < rows c + 1)).map fun c => rows c + 1 - levelQ (ks.map rows)) = 1 := by
  let L := levelQ (ks.map rows)
  let f : Int → Rat := fun c => rows c + 1 - L
  let p : Int → Bool := fun c => decide (L < rows c + 1)
  show sumQ ((ks.filter p).map f) = 1
  obtain ⟨lot, h1, h2⟩ := level_is (rows := rows) hk
  obtain ⟨s1, s2⟩ := lotsI_mem.mp h1
  have e1 : sumQ (lot.map f) = 1 := by
    have := lot_sum_eq (rows := rows) L s2
    have h2 : lotW rows lot = L := h2
    rw [h2] at this
    show sumQ (lot.map fun c => rows c + 1 - L) = 1
    rw [this]
    grind
  have e2 : sumQ (lot.map f) ≤ sumQ ((lot.filter p).map f) := sumQ_pos f p (fun x hx => by
    have : ¬ L < rows x + 1 := of_decide_eq_false hx
    show rows x + 1 - L ≤ 0
    grind) lot
  have e3 : sumQ ((lot.filter p).map f) ≤ sumQ ((ks.filter p).map f) := sumQ_sub (s1.filter p) fun y hy => by
    have : L < rows y + 1 := of_decide_eq_true (List.mem_filter.mp hy).2
    show 0 ≤ rows y + 1 - L
    grind
  have hne : ks.filter p ≠ [] := fun z => by
    rw [z] at e3
    have : sumQ (([] : List Int).map f) = 0 := rfl
    rw [this] at e3
    grind
  have e4 : sumQ ((ks.filter p).map f) ≤ 1 := lot_le_iff hne (level_lot hk (lotsI_mem.mpr ⟨List.filter_sublist, hne⟩))
  exact Rat.le_antisymm e4 (by grind)
theorem level_act (hk : ks ≠ []) : (ks.filter fun c => decide (levelQ (ks.map rows) < rows c + 1)) ≠ [] := fun z => by
  have := level_sum (rows := rows) hk
  rw [z] at this
  have e : sumQ (([] : List Int).map fun c => rows c + 1 - levelQ (ks.map rows)) = 0 := rfl
  rw [e] at this
  exact absurd this (by decide)
theorem level_actW (hk : ks ≠ []) : lotW rows (ks.filter fun c => decide (levelQ (ks.map rows) < rows c + 1)) = levelQ (ks.map rows) := by
  have h1 := level_sum (rows := rows) hk
  have h2 := level_act (rows := rows) hk
  rw [lot_sum_eq _ h2] at h1
  have hp := natR_pos (List.length_pos_iff.mpr h2)
  generalize (ks.filter fun c => decide (levelQ (ks.map rows) < rows c + 1)) = lot at *
  generalize levelQ (ks.map rows) = L at *
  have h3 : (lotW rows lot - L) * ((lot.length : Nat) : Rat) = 0 := by grind
  rcases Rat.mul_eq_zero.mp h3 with z | z
  · grind
  · grind
theorem level_ge (hk : ks ≠ []) {c : Int} (hc : c ∈ ks) : rows c ≤ levelQ (ks.map rows) := by
  have h1 : [c] ∈ lotsI ks := lotsI_mem.mpr ⟨List.singleton_sublist.mpr hc, by simp⟩
  have h2 := level_lot (rows := rows) hk h1
  have e : lotW rows [c] = rows c := by
    have := lotW_mul (rows := rows) (lot := [c]) (by simp)
    have e1 : sumQ ([c].map rows) = rows c := by
      rw [List.map_cons, sumQ_cons]
      show rows c + sumQ [] = _
      rw [sumQ_nil]
      grind
    rw [e1] at this
    have e2 : (([c].length : Nat) : Rat) = 1 := rfl
    rw [e2] at this
    grind
  rw [e] at h2
  exact h2
end
/-! ### the prices of a nest -/
section
variable {n : Int} {sp : List (List Int)}
theorem pr_leaf (h : Nest n sp) {k : Int} (hk : InR sp k) (hn : kidsI sp k = []) : prI sp k = 1 := by
  rw [prI_eq h.kidsOk hk.1 hk.2, if_neg (by simp [hn])]
theorem pr_kids (h : Nest n sp) {k : Int} (hk : InR sp k) (hn : kidsI sp k ≠ []) : prI sp k = levelQ ((kidsI sp k).map (prI sp)) := by
  rw [prI_eq h.kidsOk hk.1 hk.2, if_pos hn]
theorem act_eq (h : Nest n sp) {k : Int} (hk : InR sp k) (hn : kidsI sp k ≠ []) : activeI sp (pricesI sp) k = (kidsI sp k).filter fun c => decide (levelQ ((kidsI sp k).map (prI sp)) < prI sp c + 1) := by
  rw [← pr_kids h hk hn]
  rfl
theorem act_nil (h : Nest n sp) {k : Int} (hk : InR sp k) : activeI sp (pricesI sp) k = [] ↔ kidsI sp k = [] := by
  constructor
  · intro z
    apply Classical.byContradiction
    intro hn
    rw [act_eq h hk hn] at z
    exact level_act hn z
  · intro z
    unfold activeI
    rw [z]
    rfl
/-- the parts come to 1 -/
theorem parts_one (h : Nest n sp) {k : Int} (hk : InR sp k) (hn : kidsI sp k ≠ []) : sumQ ((activeI sp (pricesI sp) k).map (partI sp k)) = 1 := by
  rw [act_eq h hk hn]
  have := level_sum (rows := prI sp) hn
  rw [← pr_kids h hk hn] at this ⊢
  exact this
theorem act_worth (h : Nest n sp) {k : Int} (hk : InR sp k) (hn : kidsI sp k ≠ []) : lotW (prI sp) (activeI sp (pricesI sp) k) = prI sp k := by
  rw [act_eq h hk hn, level_actW hn, pr_kids h hk hn]
theorem pick_worth (h : Nest n sp) {k : Int} (hk : InR sp k) {lot : List Int} (hl : lot ∈ lotsI (kidsI sp k)) : lotW (prI sp) lot ≤ prI sp k := by
  have hn : kidsI sp k ≠ [] := fun z => by
    rw [z] at hl
    obtain ⟨s1, s2⟩ := lotsI_mem.mp hl
    exact s2 (List.sublist_nil.mp s1)
  rw [pr_kids h hk hn]
  exact level_lot hn hl
theorem pr_kid (h : Nest n sp) {k c : Int} (hk : InR sp k) (hc : c ∈ kidsI sp k) : prI sp c ≤ prI sp k := by
  have hn : kidsI sp k ≠ [] := fun z => by rw [z] at hc; cases hc
  rw [pr_kids h hk hn]
  exact level_ge hn hc
theorem pr_one (h : Nest n sp) : ∀ (m : Nat) (k : Int), lenI sp k ≤ m → InR sp k → 1 ≤ prI sp k
  | 0, k, hm, hk => by have := (h.toBook.len16 hk).1; omega
  | m + 1, k, hm, hk => by
    by_cases hn : kidsI sp k = []
    · rw [pr_leaf h hk hn]
      exact Rat.le_refl
    · obtain ⟨c, hc⟩ := List.exists_mem_of_ne_nil _ hn
      have hi := (kid_mem.mp hc).1
      have hl := h.kidsOk.low k c hk.1 hk.2 hc
      exact Rat.le_trans (pr_one h m c (by omega) hi) (pr_kid h hk hc)
/-! ### mean worth -/
/-- what is added on the way down, in the mean -/
def addW (picks : List (List Int)) : Nat → Int → Rat
  | 0, _ => 0
  | d + 1, k => if picks.getD k.toNat [] = [] then 0 else lotW (addW picks d) (picks.getD k.toNat [])
theorem meanW_nil : meanW [] = 0 := rfl
theorem meanW_append (a b : List Path3) : meanW (a ++ b) = meanW a + meanW b := by
  unfold meanW
  rw [List.map_append, sumQ_append]
theorem meanW_perm {a b : List Path3} (h : a.Perm b) : meanW a = meanW b := sumQ_perm (h.map _)
theorem meanW_flat {α : Type} (f : α → List Path3) : ∀ xs : List α, meanW (xs.flatMap f) = sumQ (xs.map fun x => meanW (f x))
  | [] => rfl
  | x :: xs => by rw [List.flatMap_cons, meanW_append, meanW_flat f xs, List.map_cons, sumQ_cons]
theorem mean_pth {picks : List (List Int)} (hp : PickOk picks) : ∀ (d : Nat) (p : Path3), 0 ≤ endI p → endI p < ((picks.length : Nat) : Int) → endI p < ((d : Nat) : Int) → meanW (pthR picks d p) = p.2.1 * (p.2.2 + addW picks d (endI p))
  | 0, p, h0, _, h1 => by omega
  | d + 1, p, h0, hl, h1 => by
    show meanW (if someI picks p = [] then [p] else _) = p.2.1 * (p.2.2 + (if picks.getD (endI p).toNat [] = [] then 0 else lotW (addW picks d) (picks.getD (endI p).toNat [])))
    have es : someI picks p = picks.getD (endI p).toNat [] := rfl
    rw [es]
    generalize hks : picks.getD (endI p).toNat [] = ks
    have hk : ∀ i ∈ ks, 0 ≤ i ∧ i < endI p := fun i hi => hp.lt _ i h0 hl (by rw [hks]; exact hi)
    by_cases hn : ks = []
    · rw [if_pos hn, if_pos hn]
      have e : meanW [p] = p.2.1 * p.2.2 := by
        show sumQ [p.2.1 * p.2.2] = _
        rw [sumQ_cons, sumQ_nil]
        grind
      rw [e]
      grind
    · rw [if_neg hn, if_neg hn, meanW_flat, List.map_reverse, sumQ_perm (List.reverse_perm _), List.map_map]
      have e : ks.map ((fun x => meanW (pthR picks d x)) ∘ kidN ks.length p) = ks.map fun i => (p.2.1 * (1 / ((ks.length : Nat) : Rat))) * ((p.2.2 + ((ks.length - 1 : Nat) : Rat) / ((ks.length : Nat) : Rat)) + addW picks d i) := by
        apply List.map_congr_left
        intro i hi
        have el : endI (kidN ks.length p i) = i := last_snoc
        obtain ⟨i0, i1⟩ := hk i hi
        have := mean_pth hp d (kidN ks.length p i) (by rw [el]; exact i0) (by rw [el]; omega) (by rw [el]; omega)
        rw [el] at this
        exact this
      rw [e, sumQ_map_mul, sumQ_map_add, sumQ_const]
      have hl1 : 1 ≤ ks.length := List.length_pos_iff.mpr hn
      have hpz := natR_pos hl1
      have hne : ((ks.length : Nat) : Rat) ≠ 0 := by grind
      have hw := lotW_mul (rows := addW picks d) hn
      have hinv : 1 / ((ks.length : Nat) : Rat) * ((ks.length : Nat) : Rat) = 1 := Rat.div_mul_cancel hne
      have hm1 : ((ks.length - 1 : Nat) : Rat) / ((ks.length : Nat) : Rat) * ((ks.length : Nat) : Rat) = ((ks.length : Nat) : Rat) - 1 := by
        rw [Rat.div_mul_cancel hne]
        have : ((ks.length - 1 : Nat) : Rat) + 1 = ((ks.length : Nat) : Rat) := by exact_mod_cast Nat.sub_add_cancel hl1
        grind
      generalize 1 / ((ks.length : Nat) : Rat) = iv at *
      generalize ((ks.length - 1 : Nat) : Rat) / ((ks.length : Nat) : Rat) = nr at *
      generalize ((ks.length : Nat) : Rat) = m at *
      generalize lotW (addW picks d) ks = lw at *
      generalize sumQ (ks.map (addW picks d)) = S at *
      have e2 : (p.2.2 + nr) * m + S = (p.2.2 + lw) * m := by grind
      rw [e2]
      have e3 : p.2.1 * iv * ((p.2.2 + lw) * m) = p.2.1 * (p.2.2 + lw) * (iv * m) := by grind
      rw [e3, hinv]
      grind
theorem lotW_mono {f g : Int → Rat} {lot : List Int} (hn : lot ≠ []) (h : ∀ c ∈ lot, f c + 1 ≤ g c) : lotW f lot + 1 ≤ lotW g lot := by
  have hp := natR_pos (List.length_pos_iff.mpr hn)
  have h1 := lotW_mul (rows := f) hn
  have h2 := lotW_mul (rows := g) hn
  have h3 := sumQ_le (f := fun c => f c + 1) (g := g) h
  rw [sumQ_map_add f (fun _ => 1), sumQ_const] at h3
  have h4 : (lotW f lot + 1) * ((lot.length : Nat) : Rat) ≤ lotW g lot * ((lot.length : Nat) : Rat) := by grind
  exact Rat.le_of_mul_le_mul_right h4 hp
theorem lotW_plus {f g : Int → Rat} {lot : List Int} (hn : lot ≠ []) (h : ∀ c ∈ lot, f c + 1 = g c) : lotW f lot + 1 = lotW g lot := by
  have hp := natR_pos (List.length_pos_iff.mpr hn)
  have h1 := lotW_mul (rows := f) hn
  have h2 := lotW_mul (rows := g) hn
  have e : lot.map g = lot.map fun c => f c + 1 := List.map_congr_left fun c hc => (h c hc).symm
  rw [e, sumQ_map_add f (fun _ => 1), sumQ_const] at h2
  have h4 : (lotW f lot + 1 - lotW g lot) * ((lot.length : Nat) : Rat) = 0 := by grind
  rcases Rat.mul_eq_zero.mp h4 with z | z
  · grind
  · grind
theorem lives_worth (h : Nest n sp) : ∀ (d : Nat) (k : Int), InR sp k → k < ((d : Nat) : Int) → addW (livesI sp) d k + 1 = prI sp k
  | 0, k, hk, hd => by have := hk.1; omega
  | d + 1, k, hk, hd => by
    show (if (livesI sp).getD k.toNat [] = [] then 0 else lotW (addW (livesI sp) d) ((livesI sp).getD k.toNat [])) + 1 = _
    rw [lives_at hk]
    by_cases hn : kidsI sp k = []
    · rw [if_pos ((act_nil h hk).mpr hn), pr_leaf h hk hn]
      grind
    · have ha : activeI sp (pricesI sp) k ≠ [] := fun z => hn ((act_nil h hk).mp z)
      rw [if_neg ha, lotW_plus (g := prI sp) ha fun c hc => ?_]
      · exact act_worth h hk hn
      · have hc := active_kid hc
        have := h.kidsOk.lt k c hk.1 hk.2 hc
        exact lives_worth h d c (kid_mem.mp hc).1 (by omega)
theorem picks_worth (h : Nest n sp) {picks : List (List Int)} (hp : PicksOf sp picks) : ∀ (d : Nat) (k : Int), InR sp k → k < ((d : Nat) : Int) → addW picks d k + 1 ≤ prI sp k
  | 0, k, hk, hd => by have := hk.1; omega
  | d + 1, k, hk, hd => by
    show (if picks.getD k.toNat [] = [] then 0 else lotW (addW picks d) (picks.getD k.toNat [])) + 1 ≤ _
    rcases hp.2 k hk.1 hk.2 with q | ⟨q1, q2⟩
    · obtain ⟨s1, s2⟩ := lotsI_mem.mp q
      rw [if_neg s2]
      refine Rat.le_trans (lotW_mono (g := prI sp) s2 fun c hc => ?_) (pick_worth h hk q)
      have hc := s1.subset hc
      have := h.kidsOk.lt k c hk.1 hk.2 hc
      exact picks_worth h hp d c (kid_mem.mp hc).1 (by omega)
    · rw [q2, if_pos rfl, pr_leaf h hk q1]
      grind
theorem mean_paths {picks : List (List Int)} (s : Sel sp picks) (h : Nest n sp) {k : Int} (hk : InR sp k) : meanW (pathsI picks k) = addW picks 41 k + 1 := by
  have hl := h.l2
  have e : endI ([k], (1 : Rat), (1 : Rat)) = k := rfl
  rw [meanW_perm (paths_perm picks k), mean_pth (s.ok h) 41 _ (by rw [e]; exact hk.1) (by rw [e, s.len]; exact hk.2) (by rw [e]; have := hk.2; omega), e]
  grind
theorem lives_mean (h : Nest n sp) {k : Int} (hk : InR sp k) : meanW (pathsI (livesI sp) k) = prI sp k := by
  have hl := h.l2
  rw [mean_paths (sel_lives sp) h hk]
  exact lives_worth h 41 k hk (by have := hk.2; omega)
theorem picks_mean (h : Nest n sp) {picks : List (List Int)} (hp : PicksOf sp picks) {k : Int} (hk : InR sp k) : meanW (pathsI picks k) ≤ prI sp k := by
  have hl := h.l2
  rw [mean_paths (sel_picks hp) h hk]
  exact picks_worth h hp 41 k hk (by have := hk.2; omega)
end
end Fm
set_option maxHeartbeats 1000000
/-! P5: the told scripts are the sorted paths. -/
namespace Fm
open PySem PySem.Spec PyProof.Rows L2
open PySem.W (alike alikeAll dataLt Sortable)
open Rq (Sz Ok OkD)
/-! ### data order is a total preorder -/
theorem dlt_asym {x y : PyData} (h : dataLt x y = true) : dataLt y x = false := by
  cases q : dataLt y x with
  | false => rfl
  | true =>
    have := lex_trans (O := itemOrd) _ _ _ h q
    rw [lex_irrefl] at this
    cases this
theorem dle_trans {α : Type} (f : α → PyData) (x y z : α) (h1 : (!dataLt (f y) (f x)) = true) (h2 : (!dataLt (f z) (f y)) = true) : (!dataLt (f z) (f x)) = true := by
  simp only [Bool.not_eq_true'] at *
  cases q : dataLt (f z) (f x) with
  | false => rfl
  | true =>
    rcases lex_negTrans (O := itemOrd) _ (PySem.W.keyToks (f y)) _ q with z1 | z1
    · exact absurd (show dataLt (f z) (f y) = true from z1) (by rw [h2]; decide)
    · exact absurd (show dataLt (f y) (f x) = true from z1) (by rw [h1]; decide)
theorem dle_total {α : Type} (f : α → PyData) (x y : α) : ((!dataLt (f y) (f x)) || (!dataLt (f x) (f y))) = true := by
  cases q : dataLt (f y) (f x) with
  | false => rfl
  | true =>
    rw [dlt_asym q]
    rfl
theorem pw_or {α : Type} {R : α → α → Prop} : ∀ {l : List α} {a b : α}, l.Pairwise R → a ∈ l → b ∈ l → a = b ∨ R a b ∨ R b a
  | x :: l, a, b, h, ha, hb => by
    obtain ⟨h1, h2⟩ := List.pairwise_cons.mp h
    rcases List.mem_cons.mp ha with e | ha
    · rcases List.mem_cons.mp hb with e' | hb
      · exact .inl (e.trans e'.symm)
      · exact .inr (.inl (by rw [e]; exact h1 b hb))
    · rcases List.mem_cons.mp hb with e | hb
      · exact .inr (.inr (by rw [e]; exact h1 a ha))
      · exact pw_or h2 ha hb
/-- sorting a rearrangement of a strictly rising list gives that list -/
theorem sort_is {α : Type} (f : α → PyData) {l m : List α} (hm : m.Pairwise fun x y => dataLt (f x) (f y) = true) (hp : l.Perm m) : (l.mergeSort fun x y => !dataLt (f y) (f x)) = m := by
  have h1 := List.pairwise_mergeSort (le := fun x y => !dataLt (f y) (f x)) (dle_trans f) (dle_total f) l
  have h3 := (List.mergeSort_perm l fun x y => !dataLt (f y) (f x)).trans hp
  refine List.Perm.eq_of_pairwise (le := fun x y => (!dataLt (f y) (f x)) = true) (fun a b ha hb h4 h5 => ?_) h1 (hm.imp fun h => by rw [dlt_asym h]; rfl) h3
  rcases pw_or hm (h3.mem_iff.mp ha) hb with z | z | z
  · exact z
  · rw [z] at h5
    cases h5
  · rw [z] at h4
    cases h4
/-! ### paths in their order -/
def dfs (picks : List (List Int)) : Nat → Path3 → List Path3
  | 0, _ => []
  | d + 1, p => if someI picks p = [] then [p] else ((someI picks p).map (kidN (someI picks p).length p)).flatMap (dfs picks d)
theorem flat_perm {α β : Type} {f g : α → List β} : ∀ {xs : List α}, (∀ x ∈ xs, (f x).Perm (g x)) → (xs.flatMap f).Perm (xs.flatMap g)
  | [], _ => List.Perm.refl _
  | x :: xs, h => by
    rw [List.flatMap_cons, List.flatMap_cons]
    exact (h x List.mem_cons_self).append (flat_perm fun y hy => h y (List.mem_cons_of_mem _ hy))
theorem pth_dfs (picks : List (List Int)) : ∀ (d : Nat) (p : Path3), (pthR picks d p).Perm (dfs picks d p)
  | 0, p => List.Perm.refl _
  | d + 1, p => by
    show (if someI picks p = [] then [p] else ((someI picks p).map (kidN (someI picks p).length p)).reverse.flatMap (pthR picks d)).Perm (if someI picks p = [] then [p] else ((someI picks p).map (kidN (someI picks p).length p)).flatMap (dfs picks d))
    split
    · exact List.Perm.refl _
    · exact ((List.reverse_perm _).flatMap_right _).trans (flat_perm fun q _ => pth_dfs picks d q)
theorem dfs_pre (picks : List (List Int)) : ∀ (d : Nat) (p q : Path3), q ∈ dfs picks d p → ∃ r, q.1 = p.1 ++ r
  | 0, p, q, hq => nomatch hq
  | d + 1, p, q, hq => by
    have hq : q ∈ (if someI picks p = [] then [p] else ((someI picks p).map (kidN (someI picks p).length p)).flatMap (dfs picks d)) := hq
    split at hq
    · rw [List.mem_singleton.mp hq]
      exact ⟨[], (List.append_nil _).symm⟩
    · obtain ⟨r, hr, hq⟩ := List.mem_flatMap.mp hq
      obtain ⟨i, hi, rfl⟩ := List.mem_map.mp hr
      obtain ⟨t, e⟩ := dfs_pre picks d _ q hq
      exact ⟨i :: t, by rw [e]; show (p.1 ++ [i]) ++ t = _; rw [List.append_assoc]; rfl⟩
theorem lex_split : ∀ (p r r' : List Int) {i i' : Int}, i < i' → p ++ i :: r < p ++ i' :: r'
  | [], r, r', i, i', h => List.cons_lt_cons_iff.mpr (.inl h)
  | x :: p, r, r', i, i', h => List.cons_lt_cons_iff.mpr (.inr ⟨rfl, lex_split p r r' h⟩)
theorem dfs_lt {picks : List (List Int)} (hp : ∀ p : Path3, (someI picks p).Pairwise (· < ·)) : ∀ (d : Nat) (p : Path3), (dfs picks d p).Pairwise fun x y => x.1 < y.1
  | 0, p => .nil
  | d + 1, p => by
    show (if someI picks p = [] then [p] else ((someI picks p).map (kidN (someI picks p).length p)).flatMap (dfs picks d)).Pairwise _
    split
    · exact List.pairwise_singleton _ _
    · rw [List.pairwise_flatMap]
      refine ⟨fun q _ => dfs_lt hp d q, ?_⟩
      rw [List.pairwise_map]
      refine (hp p).imp fun {i i'} hi x hx y hy => ?_
      obtain ⟨r, e⟩ := dfs_pre picks d _ x hx
      obtain ⟨r', e'⟩ := dfs_pre picks d _ y hy
      rw [e, e']
      show (p.1 ++ [i]) ++ r < (p.1 ++ [i']) ++ r'
      rw [List.append_assoc, List.append_assoc]
      exact lex_split p.1 r r' hi
theorem d3_lt {x y : Path3} (h : x.1 < y.1) : dataLt (d3 x) (d3 y) = true := by
  unfold d3
  rw [PySem.W.dataLt_tuple, PySem.W.dataLt_cons (x := dSpn x.1) (y := dSpn y.1) (al_tup al_int x.1 y.1)]
  have hne : x.1 ≠ y.1 := fun z => by
    rw [z] at h
    exact List.lt_irrefl _ h
  have e := eqv_ints x.1 y.1
  rw [decide_eq_false hne] at e
  have e : PyData.eqv (dSpn x.1) (dSpn y.1) = false := e
  rw [e, if_neg Bool.false_ne_true]
  show dataLt (.tuple (x.1.map .int)) (.tuple (y.1.map .int)) = true
  rw [lt_ints]
  exact decide_eq_true h
section
variable {n : Int} {sp : List (List Int)}
theorem Sel.some_pw {picks : List (List Int)} (s : Sel sp picks) (p : Path3) : (someI picks p).Pairwise (· < ·) := by
  show (picks.getD (endI p).toNat []).Pairwise (· < ·)
  by_cases hk : (endI p).toNat < sp.length
  · have := s.sub (((endI p).toNat : Nat) : Int) ⟨by omega, by omega⟩
    rw [Int.toNat_natCast] at this
    exact (kids_pw sp _).sublist this
  · rw [List.getD_eq_getElem?_getD, List.getElem?_eq_none (by rw [s.len]; omega)]
    exact .nil
theorem paths_dfs {picks : List (List Int)} (s : Sel sp picks) (k : Int) : pathsI picks k = dfs picks 41 ([k], 1, 1) :=
  sort_is d3 ((dfs_lt s.some_pw 41 _).imp d3_lt) (pth_dfs picks 41 _)
/-- .. and those are the told scripts -/
theorem dfs_scr (sp : List (List Int)) : ∀ (d : Nat) (q : List Int) (k : Int) (c w : Rat), (∀ i, InR sp i → i ≤ k → True) → InR sp k → (∀ k c, InR sp k → c ∈ kidsI sp k → InR sp c) → (dfs (livesI sp) d (q ++ [k], c, w)).map (fun p => (p.1, p.2.1)) = (scrI sp d k).map fun s => (q ++ s.1, c * s.2)
  | 0, q, k, c, w, _, hk, _ => rfl
  | d + 1, q, k, c, w, hx, hk, hr => by
    have es : someI (livesI sp) (q ++ [k], c, w) = activeI sp (pricesI sp) k := by
      unfold someI
      rw [last_snoc, lives_at hk]
    show (if someI (livesI sp) (q ++ [k], c, w) = [] then [(q ++ [k], c, w)] else ((someI (livesI sp) (q ++ [k], c, w)).map (kidN (someI (livesI sp) (q ++ [k], c, w)).length (q ++ [k], c, w))).flatMap (dfs (livesI sp) d)).map _ = (if activeI sp (pricesI sp) k = [] then [([k], 1)] else (activeI sp (pricesI sp) k).flatMap fun c => (scrI sp d c).map fun p => (k :: p.1, p.2 / (((activeI sp (pricesI sp) k).length : Nat) : Rat))).map _
    rw [es]
    have hk2 : ∀ i ∈ activeI sp (pricesI sp) k, InR sp i := fun i hi => hr k i hk (active_kid hi)
    generalize activeI sp (pricesI sp) k = ks at *
    by_cases hn : ks = []
    · rw [if_pos hn, if_pos hn]
      show [(q ++ [k], c)] = [(q ++ [k], c * 1)]
      rw [Rat.mul_one]
    · rw [if_neg hn, if_neg hn, List.flatMap_map, List.map_flatMap, List.map_flatMap]
      rw [List.flatMap_def, List.flatMap_def]
      congr 1
      apply List.map_congr_left
      intro i hi
      rw [List.map_map]
      have := dfs_scr sp d (q ++ [k]) i (c * (1 / ((ks.length : Nat) : Rat))) (w + ((ks.length - 1 : Nat) : Rat) / ((ks.length : Nat) : Rat)) (fun _ _ _ => trivial) (hk2 i hi) hr
      refine this.trans ?_
      apply List.map_congr_left
      intro s _
      show ((q ++ [k]) ++ s.1, c * (1 / ((ks.length : Nat) : Rat)) * s.2) = (q ++ (k :: s.1), c * (s.2 / ((ks.length : Nat) : Rat)))
      rw [List.append_assoc]
      congr 1
      rw [Rat.div_def, Rat.div_def]
      grind
theorem same_scr (h : Nest n sp) {k : Int} (hk : InR sp k) : (pathsI (livesI sp) k).map (fun p => (p.1, p.2.1)) = scrI sp 41 k := by
  rw [paths_dfs (sel_lives sp)]
  have := dfs_scr sp 41 [] k 1 1 (fun _ _ _ => trivial) hk (fun k c hk hc => (kid_mem.mp hc).1)
  rw [List.nil_append] at this
  rw [this]
  have e : (fun s : List Int × Rat => (([] : List Int) ++ s.1, 1 * s.2)) = fun s => s := by
    funext s
    rw [List.nil_append, Rat.one_mul]
  rw [e, List.map_id']
end
end Fm
set_option maxHeartbeats 1000000
/-! P6: the tree's shares, plainly. -/
namespace Fm
open PySem PySem.Spec PyProof.Rows L2
open PySem.W (alike alikeAll dataLt Sortable)
open Rq (Sz Ok OkD)
/-! ### sums over columns -/
def csum (n : Int) (f : Int → Rat) : Rat := sumQ ((rangeI 0 n).map f)
/-- f on a span, else nought -/
def onS (s : List Int) (f : Int → Rat) (c : Int) : Rat := if c ∈ s then f c else 0
abbrev Col (n c : Int) : Prop := 0 ≤ c ∧ c < n
section
variable {n : Int} {f g : Int → Rat}
theorem csum_congr (h : ∀ c, Col n c → f c = g c) : csum n f = csum n g := by
  unfold csum
  congr 1
  exact List.map_congr_left fun c hc => h c (mem_rangeI.mp hc)
theorem csum_le (h : ∀ c, Col n c → f c ≤ g c) : csum n f ≤ csum n g := sumQ_le fun c hc => h c (mem_rangeI.mp hc)
theorem csum_nonneg (h : ∀ c, Col n c → 0 ≤ f c) : 0 ≤ csum n f := sumQ_nonneg fun c hc => h c (mem_rangeI.mp hc)
theorem csum_add : csum n (fun c => f c + g c) = csum n f + csum n g := sumQ_map_add f g _
theorem csum_mul (a : Rat) : csum n (fun c => a * f c) = a * csum n f := sumQ_map_mul a f _
theorem csum_zero : csum n (fun _ => 0) = 0 := by
  unfold csum
  rw [sumQ_const]
  grind
theorem csum_sub : csum n (fun c => f c - g c) = csum n f - csum n g := by
  have e : csum n (fun c => f c - g c) + csum n g = csum n f := by
    rw [← csum_add]
    exact csum_congr fun c _ => by grind
  grind
/-- sums exchanged -/
theorem csum_swap {α : Type} (F : α → Int → Rat) : ∀ ks : List α, csum n (fun c => sumQ (ks.map fun j => F j c)) = sumQ (ks.map fun j => csum n (F j))
  | [] => by
    show csum n (fun c => sumQ []) = sumQ []
    rw [sumQ_nil]
    exact csum_zero
  | k :: ks => by
    rw [List.map_cons, sumQ_cons, ← csum_swap F ks, ← csum_add]
    exact csum_congr fun c _ => by rw [List.map_cons, sumQ_cons]
theorem csum_one {a : Int} (ha : Col n a) : csum n (fun c => if c = a then 1 else 0) = 1 := by
  have hnd : (rangeI 0 n).Nodup := by
    unfold rangeI
    rw [List.Nodup, List.pairwise_map]
    exact List.nodup_range.imp fun h => by omega
  have hm : a ∈ rangeI 0 n := mem_rangeI.mpr ha
  unfold csum
  have key : ∀ xs : List Int, xs.Nodup → (a ∈ xs → sumQ (xs.map fun c => if c = a then (1 : Rat) else 0) = 1) ∧ (a ∉ xs → sumQ (xs.map fun c => if c = a then (1 : Rat) else 0) = 0) := by
    intro xs
    induction xs with
    | nil => exact fun _ => ⟨fun h => (nomatch h), fun _ => rfl⟩
    | cons x xs ih =>
      intro hx
      obtain ⟨h1, h2⟩ := List.nodup_cons.mp hx
      obtain ⟨i1, i2⟩ := ih h2
      rw [List.map_cons, sumQ_cons]
      refine ⟨fun h => ?_, fun h => ?_⟩
      · by_cases e : x = a
        · rw [if_pos e, i2 (by rw [← e]; exact h1)]
          grind
        · rw [if_neg e]
          rcases List.mem_cons.mp h with z | z
          · exact absurd z.symm e
          · rw [i1 z]
            grind
      · rw [if_neg (fun e => h (by rw [e]; exact List.mem_cons_self)), i2 fun z => h (List.mem_cons_of_mem _ z)]
        grind
  exact (key _ hnd).1 hm
theorem row_list {r : List Rat} (h : r.length = n.toNat) : r = (rangeI 0 n).map fun c => r.getD c.toNat 0 := by
  apply List.ext_getElem?
  intro i
  by_cases hi : i < n.toNat
  · rw [List.getElem?_map, rangeI_get (by omega)]
    show _ = some (r.getD (0 + ((i : Nat) : Int)).toNat 0)
    rw [show (0 + ((i : Nat) : Int)).toNat = i by omega]
    exact getD_of (by omega)
  · rw [List.getElem?_eq_none (by omega), List.getElem?_eq_none (by rw [List.length_map, rangeI_len]; omega)]
theorem row_sum {r : List Rat} (h : r.length = n.toNat) : sumQ r = csum n fun c => r.getD c.toNat 0 := by
  unfold csum
  rw [← row_list h]
theorem row_mem {r : List Rat} (h : r.length = n.toNat) {x : Rat} (hx : x ∈ r) : ∃ c, Col n c ∧ x = r.getD c.toNat 0 := by
  rw [row_list h] at hx
  obtain ⟨c, hc, e⟩ := List.mem_map.mp hx
  exact ⟨c, mem_rangeI.mp hc, e.symm⟩
end
/-! ### a dealt row -/
section
variable {n : Int} {sp : List (List Int)}
theorem dealCol_len (part : Rat) (sh : List Rat) : ∀ (cs : List Int) (r : List Rat), (cs.foldl (dealCol part sh) r).length = r.length
  | [], _ => rfl
  | x :: cs, r => by
    rw [List.foldl_cons, dealCol_len part sh cs]
    exact List.length_set
theorem dealCol_get (part : Rat) (sh : List Rat) : ∀ (cs : List Int) (r : List Rat), (∀ x ∈ cs, 0 ≤ x ∧ x.toNat < r.length) → ∀ c, 0 ≤ c → (cs.foldl (dealCol part sh) r).getD c.toNat 0 = if c ∈ cs then part * sh.getD c.toNat 0 else r.getD c.toNat 0
  | [], r, _, c, _ => by simp
  | x :: cs, r, h, c, hc => by
    obtain ⟨x0, x1⟩ := h x List.mem_cons_self
    have hl : (dealCol part sh r x).length = r.length := List.length_set
    rw [List.foldl_cons, dealCol_get part sh cs _ (fun y hy => by rw [hl]; exact h y (List.mem_cons_of_mem _ hy)) c hc]
    by_cases hm : c ∈ cs
    · rw [if_pos hm, if_pos (List.mem_cons_of_mem _ hm)]
    · rw [if_neg hm]
      show (r.set x.toNat (part * sh.getD x.toNat 0)).getD c.toNat 0 = _
      by_cases e : c = x
      · rw [e, if_pos List.mem_cons_self, List.getD_eq_getElem?_getD, List.getElem?_set_self x1]
        rfl
      · rw [if_neg (fun z => by rcases List.mem_cons.mp z with z | z; exact e z; exact hm z), List.getD_eq_getElem?_getD, List.getElem?_set_ne (by omega), ← List.getD_eq_getElem?_getD]
theorem dealKid_len (sh : List (List Rat)) (k : Int) : ∀ (ks : List Int) (r : List Rat), (ks.foldl (dealKid sp sh k) r).length = r.length
  | [], _ => rfl
  | x :: ks, r => by
    rw [List.foldl_cons, dealKid_len sh k ks]
    exact dealCol_len _ _ _ _
theorem dealKid_get (sh : List (List Rat)) (k : Int) : ∀ (ks : List Int) (r : List Rat), (∀ j ∈ ks, ∀ x ∈ spn sp j, 0 ≤ x ∧ x.toNat < r.length) → ks.Nodup → (∀ a ∈ ks, ∀ b ∈ ks, a ≠ b → ∀ c ∈ spn sp a, c ∉ spn sp b) → ∀ c, 0 ≤ c →
    (∀ j ∈ ks, c ∈ spn sp j → (ks.foldl (dealKid sp sh k) r).getD c.toNat 0 = partI sp k j * (sh.getD j.toNat []).getD c.toNat 0) ∧ ((∀ j ∈ ks, c ∉ spn sp j) → (ks.foldl (dealKid sp sh k) r).getD c.toNat 0 = r.getD c.toNat 0)
  | [], r, _, _, _, c, _ => ⟨fun j hj => (nomatch hj), fun _ => rfl⟩
  | x :: ks, r, h, hn, hd, c, hc => by
    obtain ⟨n1, n2⟩ := List.nodup_cons.mp hn
    have hl : (dealKid sp sh k r x).length = r.length := dealCol_len _ _ _ _
    have e : (dealKid sp sh k r x).getD c.toNat 0 = if c ∈ spn sp x then partI sp k x * (sh.getD x.toNat []).getD c.toNat 0 else r.getD c.toNat 0 := dealCol_get _ _ _ _ (h x List.mem_cons_self) c hc
    obtain ⟨i1, i2⟩ := dealKid_get sh k ks (dealKid sp sh k r x) (fun j hj y hy => by rw [hl]; exact h j (List.mem_cons_of_mem _ hj) y hy) n2 (fun a ha b hb => hd a (List.mem_cons_of_mem _ ha) b (List.mem_cons_of_mem _ hb)) c hc
    rw [List.foldl_cons]
    refine ⟨fun j hj hcj => ?_, fun hno => ?_⟩
    · rcases List.mem_cons.mp hj with e2 | hj'
      · subst e2
        rw [i2 fun b hb => hd j List.mem_cons_self b (List.mem_cons_of_mem _ hb) (fun z => n1 (by rw [z]; exact hb)) c hcj, e, if_pos hcj]
      · exact i1 j hj' hcj
    · rw [i2 fun j hj => hno j (List.mem_cons_of_mem _ hj), e, if_neg (hno x List.mem_cons_self)]
/-! ### the rows of the tree's shares -/
theorem sharesK_pre (n0 : Nat) (sp : List (List Int)) (m : Nat) : ∀ i, ∃ r, sharesK n0 sp (m + i) = sharesK n0 sp m ++ r
  | 0 => ⟨[], (List.append_nil _).symm⟩
  | i + 1 => by
    obtain ⟨r, e⟩ := sharesK_pre n0 sp m i
    exact ⟨r ++ [shareOf n0 sp (sharesK n0 sp (m + i)) (((m + i : Nat) : Nat) : Int)], by
      show sharesK n0 sp (m + i) ++ [shareOf n0 sp (sharesK n0 sp (m + i)) (((m + i : Nat) : Nat) : Int)] = _
      rw [← List.append_assoc, ← e]⟩
theorem sharesK_get {n0 : Nat} {sp : List (List Int)} {k m i : Nat} (h : k < m) (hm : m ≤ i) : (sharesK n0 sp i)[k]? = (sharesK n0 sp m)[k]? := by
  obtain ⟨r, e⟩ := sharesK_pre n0 sp m (i - m)
  rw [show m + (i - m) = i by omega] at e
  rw [e, List.getElem?_append_left (by rw [sharesK_len]; exact h)]
abbrev rowI (n : Int) (sp : List (List Int)) (k : Int) : List Rat := (sharesI n.toNat sp).getD k.toNat []
abbrev S_ (n : Int) (sp : List (List Int)) (k c : Int) : Rat := shAt (sharesI n.toNat sp) k c
theorem row_eq {k : Int} (hk : InR sp k) : rowI n sp k = shareOf n.toNat sp (sharesK n.toNat sp k.toNat) k := by
  show (sharesK n.toNat sp sp.length).getD k.toNat [] = _
  have h0 := hk.1
  have h1 := hk.2
  rw [List.getD_eq_getElem?_getD, sharesK_get (m := k.toNat + 1) (by omega) (by omega)]
  show ((sharesK n.toNat sp k.toNat ++ [shareOf n.toNat sp (sharesK n.toNat sp k.toNat) ((k.toNat : Nat) : Int)])[k.toNat]?).getD [] = _
  rw [List.getElem?_append_right (by rw [sharesK_len]; omega), sharesK_len, Nat.sub_self, Int.toNat_of_nonneg h0]
  rfl
theorem row_old {k j : Int} (hk : InR sp k) (j0 : 0 ≤ j) (hj : j < k) : (sharesK n.toNat sp k.toNat).getD j.toNat [] = rowI n sp j := by
  show _ = (sharesK n.toNat sp sp.length).getD j.toNat []
  rw [List.getD_eq_getElem?_getD, List.getD_eq_getElem?_getD, sharesK_get (m := k.toNat) (i := sp.length) (by omega) (by have := hk.2; omega)]
theorem start_len (n0 : Nat) (k : Int) : (dealStart n0 sp k).length = n0 := by
  unfold dealStart
  split
  · rw [List.length_set, List.length_replicate]
  · rw [List.length_replicate]
theorem row_len {k : Int} (hk : InR sp k) : (rowI n sp k).length = n.toNat := by
  rw [row_eq hk]
  unfold shareOf
  rw [dealKid_len, start_len]
theorem spn_col (h : Book n sp) {j x : Int} (hj : InR sp j) (hx : x ∈ spn sp j) : Col n x := (h.at hj).2.2 x hx
theorem act_sub (sp : List (List Int)) (k : Int) : (activeI sp (pricesI sp) k).Sublist (kidsI sp k) := List.filter_sublist
theorem row_get (h : Nest n sp) {k : Int} (hk : InR sp k) {c : Int} (hc : Col n c) : (∀ j ∈ activeI sp (pricesI sp) k, c ∈ spn sp j → S_ n sp k c = partI sp k j * S_ n sp j c) ∧ ((∀ j ∈ activeI sp (pricesI sp) k, c ∉ spn sp j) → S_ n sp k c = (dealStart n.toNat sp k).getD c.toNat 0) := by
  have g := dealKid_get (sp := sp) (sharesK n.toNat sp k.toNat) k (activeI sp (pricesI sp) k) (dealStart n.toNat sp k) (fun j hj x hx => by
    have := spn_col h.toBook (kid_mem.mp (active_kid hj)).1 hx
    rw [start_len]
    omega) (nd_of_lt ((kids_pw sp k).sublist (act_sub sp k))) (fun a ha b hb hne => h.apart' (active_kid ha) (active_kid hb) hne) c hc.1
  have e : S_ n sp k c = ((activeI sp (pricesI sp) k).foldl (dealKid sp (sharesK n.toNat sp k.toNat) k) (dealStart n.toNat sp k)).getD c.toNat 0 := by
    show (rowI n sp k).getD c.toNat 0 = _
    rw [row_eq hk]
    rfl
  rw [e]
  refine ⟨fun j hj hcj => ?_, g.2⟩
  have hlt := h.kidsOk.lt k j hk.1 hk.2 (active_kid hj)
  rw [g.1 j hj hcj, row_old hk hlt.1 hlt.2]
  rfl
theorem S_leaf (h : Nest n sp) {k : Int} (hk : InR sp k) (hn : kidsI sp k = []) {c : Int} (hc : Col n c) : S_ n sp k c = if c = (spn sp k).headD 0 then 1 else 0 := by
  have ha : activeI sp (pricesI sp) k = [] := (act_nil h hk).mpr hn
  rw [(row_get h hk hc).2 (fun j hj => by rw [ha] at hj; cases hj)]
  unfold dealStart
  rw [if_pos hn]
  have hh : Col n ((spn sp k).headD 0) := by
    obtain ⟨r1, _, r3⟩ := h.toBook.at hk
    cases q : spn sp k with
    | nil => exact absurd q r1
    | cons x s => exact r3 x (by rw [q]; exact List.mem_cons_self)
  by_cases e : c = (spn sp k).headD 0
  · rw [if_pos e, ← e, List.getD_eq_getElem?_getD, List.getElem?_set_self (by rw [List.length_replicate]; omega)]
    rfl
  · rw [if_neg e, List.getD_eq_getElem?_getD, List.getElem?_set_ne (by show ((spn sp k).headD 0).toNat ≠ c.toNat; omega), List.getElem?_replicate]
    split <;> rfl
theorem S_in (h : Nest n sp) {k j : Int} (hk : InR sp k) (hj : j ∈ activeI sp (pricesI sp) k) {c : Int} (hc : c ∈ spn sp j) : S_ n sp k c = partI sp k j * S_ n sp j c :=
  (row_get h hk (spn_col h.toBook (kid_mem.mp (active_kid hj)).1 hc)).1 j hj hc
theorem S_no (h : Nest n sp) {k : Int} (hk : InR sp k) (hn : kidsI sp k ≠ []) {c : Int} (hc : Col n c) (ha : ∀ j ∈ activeI sp (pricesI sp) k, c ∉ spn sp j) : S_ n sp k c = 0 := by
  rw [(row_get h hk hc).2 ha]
  unfold dealStart
  rw [if_neg hn, List.getD_eq_getElem?_getD, List.getElem?_replicate]
  split <;> rfl
theorem part_pos {k j : Int} (hj : j ∈ activeI sp (pricesI sp) k) : 0 ≤ partI sp k j := by
  have : prI sp k < prI sp j + 1 := of_decide_eq_true (List.mem_filter.mp hj).2
  unfold partI
  grind
theorem part_le (h : Nest n sp) {k j : Int} (hk : InR sp k) (hj : j ∈ kidsI sp k) : partI sp k j ≤ 1 := by
  have := pr_kid h hk hj
  unfold partI
  grind
/-- outside of its span a share is nought -/
theorem S_out (h : Nest n sp) {k : Int} (hk : InR sp k) {c : Int} (hc : Col n c) (ho : c ∉ spn sp k) : S_ n sp k c = 0 := by
  by_cases hn : kidsI sp k = []
  · rw [S_leaf h hk hn hc, if_neg]
    intro e
    apply ho
    rw [e]
    have r1 := (h.toBook.at hk).1
    cases q : spn sp k with
    | nil => exact absurd q r1
    | cons x s => exact List.mem_cons_self
  · exact S_no h hk hn hc fun j hj hcj => ho ((kid_mem.mp (active_kid hj)).2.2.1 c hcj)
theorem S_nn (h : Nest n sp) : ∀ (m : Nat) (k : Int), lenI sp k ≤ m → InR sp k → ∀ c, Col n c → 0 ≤ S_ n sp k c
  | 0, k, hm, hk => by have := (h.toBook.len16 hk).1; omega
  | m + 1, k, hm, hk => fun c hc => by
    by_cases hn : kidsI sp k = []
    · rw [S_leaf h hk hn hc]
      split <;> decide
    · by_cases ha : ∃ j ∈ activeI sp (pricesI sp) k, c ∈ spn sp j
      · obtain ⟨j, hj, hcj⟩ := ha
        rw [S_in h hk hj hcj]
        have hl := h.kidsOk.low k j hk.1 hk.2 (active_kid hj)
        exact Rat.mul_nonneg (part_pos hj) (S_nn h m j (by omega) (kid_mem.mp (active_kid hj)).1 c hc)
      · rw [S_no h hk hn hc fun j hj hcj => ha ⟨j, hj, hcj⟩]
        exact Rat.le_refl
/-- one of a list that has it alone -/
theorem sumQ_pick {α : Type} {f : α → Rat} {a : α} : ∀ {ks : List α}, ks.Nodup → a ∈ ks → (∀ b ∈ ks, b ≠ a → f b = 0) → sumQ (ks.map f) = f a
  | x :: ks, hn, ha, h0 => by
    obtain ⟨n1, n2⟩ := List.nodup_cons.mp hn
    rw [List.map_cons, sumQ_cons]
    rcases List.mem_cons.mp ha with e | ha'
    · have z : sumQ (ks.map f) = 0 := by
        have e1 : ks.map f = ks.map fun _ => (0 : Rat) := List.map_congr_left fun b hb => h0 b (List.mem_cons_of_mem _ hb) (fun q => n1 (by rw [← e, ← q]; exact hb))
        rw [e1, sumQ_const]
        grind
      rw [z, e]
      grind
    · rw [h0 x List.mem_cons_self (fun q => n1 (by rw [q]; exact ha')), sumQ_pick n2 ha' fun b hb => h0 b (List.mem_cons_of_mem _ hb)]
      grind
theorem S_split (h : Nest n sp) {k : Int} (hk : InR sp k) (hn : kidsI sp k ≠ []) {c : Int} (hc : Col n c) : S_ n sp k c = sumQ ((activeI sp (pricesI sp) k).map fun j => partI sp k j * S_ n sp j c) := by
  by_cases ha : ∃ j ∈ activeI sp (pricesI sp) k, c ∈ spn sp j
  · obtain ⟨j, hj, hcj⟩ := ha
    rw [S_in h hk hj hcj]
    refine (sumQ_pick (f := fun j => partI sp k j * S_ n sp j c) (nd_of_lt ((kids_pw sp k).sublist (act_sub sp k))) hj fun b hb hne => ?_).symm
    show partI sp k b * S_ n sp b c = 0
    rw [S_out h (kid_mem.mp (active_kid hb)).1 hc (h.apart' (active_kid hj) (active_kid hb) (fun e => hne e.symm) c hcj)]
    grind
  · rw [S_no h hk hn hc fun j hj hcj => ha ⟨j, hj, hcj⟩]
    have e1 : ((activeI sp (pricesI sp) k).map fun j => partI sp k j * S_ n sp j c) = (activeI sp (pricesI sp) k).map fun _ => (0 : Rat) := List.map_congr_left fun b hb => by
      rw [S_out h (kid_mem.mp (active_kid hb)).1 hc fun z => ha ⟨b, hb, z⟩]
      grind
    rw [e1, sumQ_const]
    grind
theorem S_one (h : Nest n sp) : ∀ (m : Nat) (k : Int), lenI sp k ≤ m → InR sp k → csum n (S_ n sp k) = 1
  | 0, k, hm, hk => by have := (h.toBook.len16 hk).1; omega
  | m + 1, k, hm, hk => by
    by_cases hn : kidsI sp k = []
    · rw [csum_congr fun c hc => S_leaf h hk hn hc]
      refine csum_one ?_
      obtain ⟨r1, _, r3⟩ := h.toBook.at hk
      cases q : spn sp k with
      | nil => exact absurd q r1
      | cons x s => exact r3 x (by rw [q]; exact List.mem_cons_self)
    · rw [csum_congr fun c hc => S_split h hk hn hc, csum_swap]
      have e : ((activeI sp (pricesI sp) k).map fun j => csum n fun c => partI sp k j * S_ n sp j c) = (activeI sp (pricesI sp) k).map (partI sp k) := List.map_congr_left fun j hj => by
        have hl := h.kidsOk.low k j hk.1 hk.2 (active_kid hj)
        rw [csum_mul, S_one h m j (by omega) (kid_mem.mp (active_kid hj)).1]
        grind
      rw [e]
      exact parts_one h hk hn
theorem shares_len (n0 : Nat) (sp : List (List Int)) : (sharesI n0 sp).length = sp.length := sharesK_len n0 sp _
theorem shares_row {r : List Rat} (hr : r ∈ sharesI n.toNat sp) : ∃ k, InR sp k ∧ r = rowI n sp k := by
  obtain ⟨i, hi⟩ := List.getElem?_of_mem hr
  have hl := (List.getElem?_eq_some_iff.mp hi).1
  rw [shares_len] at hl
  refine ⟨((i : Nat) : Int), ⟨by omega, by omega⟩, ?_⟩
  show r = (sharesI n.toNat sp).getD (((i : Nat) : Int)).toNat []
  rw [Int.toNat_natCast, List.getD_eq_getElem?_getD, hi]
  rfl
theorem tree_shR (h : Nest n sp) : ShsR n sp (sharesI n.toNat sp) where
  nn := fun r hr x hx => by
    obtain ⟨k, hk, rfl⟩ := shares_row hr
    obtain ⟨c, hc, rfl⟩ := row_mem (row_len hk) hx
    exact S_nn h _ k (Nat.le_refl _) hk c hc
  one := fun r hr => by
    obtain ⟨k, hk, rfl⟩ := shares_row hr
    rw [row_sum (row_len hk)]
    exact S_one h _ k (Nat.le_refl _) hk
  out := fun k c k0 k1 c0 c1 ho => S_out h ⟨k0, k1⟩ ⟨c0, c1⟩ ho
theorem tree_shD (h : Nest n sp) : ShsD D1 C1 n sp (sharesI n.toNat sp) where
  n1 := h.n1
  n2 := h.n2
  len := h.l2
  D0 := Rq.L_ne 136
  D1 := Nat.lt_of_le_of_lt (Rq.pow_L 136) (Nat.pow_lt_pow_right (by decide) (by decide))
  c1 := by decide
  sl := shares_len _ _
  row := fun r hr => by
    obtain ⟨k, hk, rfl⟩ := shares_row hr
    refine ⟨row_len hk, fun x hx => ?_⟩
    have hs := shares_ok (n0 := n.toNat) h.kidsOk (cols_of h.toBook) sp.length (Nat.le_refl _) k hk.1 hk.2
    have h1 := hs.2 x hx
    have hl := (h.toBook.len16 hk).2
    have h3 : Ok 136 (41 ^ 16) x := Rq.Ok.up h1 (tri_mono hl) (Nat.pow_le_pow_right (by decide) hl)
    exact h3
end
end Fm
set_option maxHeartbeats 1000000
/-! P7: the tree's shares are felt as the price at most, no shares less. -/
namespace Fm
open PySem PySem.Spec PyProof.Rows L2
open PySem.W (alike alikeAll dataLt Sortable)
open Rq (Sz Ok OkD)
section
variable {n : Int} {sp : List (List Int)}
theorem onS_in {s : List Int} {f : Int → Rat} {c : Int} (h : c ∈ s) : onS s f c = f c := if_pos h
theorem onS_out {s : List Int} {f : Int → Rat} {c : Int} (h : c ∉ s) : onS s f c = 0 := if_neg h
theorem onS_nn {s : List Int} {f : Int → Rat} {c : Int} (h : 0 ≤ f c) : 0 ≤ onS s f c := by
  unfold onS
  split
  · exact h
  · exact Rat.le_refl
/-- what a span's share has on a kid's columns -/
theorem kid_part (h : Nest n sp) {k j : Int} (hk : InR sp k) (hj : j ∈ kidsI sp k) : prI sp j + 1 - prI sp k ≤ csum n (onS (spn sp j) (S_ n sp k)) := by
  have jr := (kid_mem.mp hj).1
  by_cases ha : j ∈ activeI sp (pricesI sp) k
  · have e : csum n (onS (spn sp j) (S_ n sp k)) = partI sp k j := by
      rw [csum_congr (g := fun c => partI sp k j * S_ n sp j c) fun c hc => ?_, csum_mul, S_one h _ j (Nat.le_refl _) jr]
      · grind
      · by_cases hcj : c ∈ spn sp j
        · rw [onS_in hcj, S_in h hk ha hcj]
        · rw [onS_out hcj, S_out h jr hc hcj]
          grind
    rw [e]
    unfold partI
    exact Rat.le_refl
  · have h1 : ¬ prI sp k < prI sp j + 1 := fun z => ha (List.mem_filter.mpr ⟨hj, decide_eq_true z⟩)
    have h2 : 0 ≤ csum n (onS (spn sp j) (S_ n sp k)) := csum_nonneg fun c hc => onS_nn (S_nn h _ k (Nat.le_refl _) hk c hc)
    grind
theorem tree_upper (h : Nest n sp) {d : Int} : ∀ (m : Nat) (k : Int), lenI sp k ≤ m → InR sp k → d ∈ spn sp k → ∃ f : Int → Rat, (∀ i, InR sp i → d ∈ spn sp i → Sb (spn sp i) (spn sp k) → ∀ c, Col n c → S_ n sp i c ≤ f c) ∧ (∀ c, Col n c → 0 ≤ f c) ∧ (∀ c, c ∉ spn sp k → f c = 0) ∧ csum n f ≤ prI sp k
  | 0, k, hm, hk, _ => by have := (h.toBook.len16 hk).1; omega
  | m + 1, k, hm, hk, hd => by
    have nn := S_nn h _ k (Nat.le_refl _) hk
    by_cases hj : ∃ j ∈ kidsI sp k, d ∈ spn sp j
    · obtain ⟨j, hj, hdj⟩ := hj
      obtain ⟨jr, jk, js, _⟩ := kid_mem.mp hj
      have hl := h.kidsOk.low k j hk.1 hk.2 hj
      obtain ⟨g, g1, g2, g3, g4⟩ := tree_upper h m j (by omega) jr hdj
      let f : Int → Rat := fun c => if c ∈ spn sp j then g c else onS (spn sp k) (S_ n sp k) c
      have f0 : ∀ c, Col n c → 0 ≤ f c := fun c hc => by
        show 0 ≤ (if c ∈ spn sp j then g c else onS (spn sp k) (S_ n sp k) c)
        split
        · exact g2 c hc
        · exact onS_nn (nn c hc)
      refine ⟨f, fun i hi hdi hs c hc => ?_, f0, fun c hc => ?_, ?_⟩
      · by_cases e : i = k
        · subst e
          show _ ≤ (if c ∈ spn sp j then g c else onS (spn sp i) (S_ n sp i) c)
          by_cases hcj : c ∈ spn sp j
          · rw [if_pos hcj]
            refine Rat.le_trans ?_ (g1 j jr hdj (Sb.refl _) c hc)
            have nj := S_nn h _ j (Nat.le_refl _) jr c hc
            by_cases ha : j ∈ activeI sp (pricesI sp) i
            · rw [S_in h hk ha hcj]
              have h1 := part_le h hk hj
              have := Rat.mul_le_mul_of_nonneg_right h1 nj
              rw [Rat.one_mul] at this
              exact this
            · rw [S_no h hk (fun z => by rw [z] at hj; cases hj) hc fun b hb hcb => ?_]
              · exact nj
              · by_cases e2 : b = j
                · exact ha (by rw [← e2]; exact hb)
                · exact h.apart' (active_kid hb) hj e2 c hcb hcj
          · rw [if_neg hcj]
            by_cases hck : c ∈ spn sp i
            · rw [onS_in hck]
              exact Rat.le_refl
            · rw [onS_out hck, S_out h hk hc hck]
              exact Rat.le_refl
        · obtain ⟨b, hb, hbs⟩ := h.toBook.kid_over hk hi e hs
          have e2 : b = j := by
            apply Classical.byContradiction
            intro z
            exact h.apart' hb hj z d (hbs d hdi) hdj
          rw [e2] at hbs
          show _ ≤ (if c ∈ spn sp j then g c else onS (spn sp k) (S_ n sp k) c)
          by_cases hcj : c ∈ spn sp j
          · rw [if_pos hcj]
            exact g1 i hi hdi hbs c hc
          · rw [if_neg hcj, S_out h hi hc fun z => hcj (hbs c z)]
            exact onS_nn (nn c hc)
      · show (if c ∈ spn sp j then g c else onS (spn sp k) (S_ n sp k) c) = 0
        rw [if_neg (fun z => hc (js c z)), onS_out hc]
      · have e : csum n f = csum n (fun c => (g c + S_ n sp k c) - onS (spn sp j) (S_ n sp k) c) := csum_congr fun c hc => by
          show (if c ∈ spn sp j then g c else onS (spn sp k) (S_ n sp k) c) = _
          by_cases hcj : c ∈ spn sp j
          · rw [if_pos hcj, onS_in hcj]
            grind
          · rw [if_neg hcj, onS_out hcj, g3 c hcj]
            by_cases hck : c ∈ spn sp k
            · rw [onS_in hck]
              grind
            · rw [onS_out hck, S_out h hk hc hck]
              grind
        rw [e, csum_sub, csum_add, S_one h _ k (Nat.le_refl _) hk]
        have := kid_part h hk hj
        grind
    · refine ⟨onS (spn sp k) (S_ n sp k), fun i hi hdi hs c hc => ?_, fun c hc => onS_nn (nn c hc), fun c hc => onS_out hc, ?_⟩
      · by_cases e : i = k
        · subst e
          by_cases hck : c ∈ spn sp i
          · rw [onS_in hck]
            exact Rat.le_refl
          · rw [onS_out hck, S_out h hk hc hck]
            exact Rat.le_refl
        · obtain ⟨b, hb, hbs⟩ := h.toBook.kid_over hk hi e hs
          exact absurd ⟨b, hb, hbs d hdi⟩ hj
      · rw [csum_congr (g := S_ n sp k) fun c hc => ?_, S_one h _ k (Nat.le_refl _) hk]
        · exact pr_one h _ k (Nat.le_refl _) hk
        · by_cases hck : c ∈ spn sp k
          · rw [onS_in hck]
          · rw [onS_out hck, S_out h hk hc hck]
theorem felt_csum (n : Int) (sp : List (List Int)) (sh : List (List Rat)) (d : Int) : feltI n sp sh d = csum n (colI sp sh d) := by
  unfold feltI feltK csum rangeI
  rw [List.map_map, Int.sub_zero]
  congr 1
  apply List.map_congr_left
  intro i _
  show colI sp sh d ((i : Nat) : Int) = colI sp sh d (0 + ((i : Nat) : Int))
  rw [Int.zero_add]
theorem over_mem {d i : Int} : i ∈ overI sp d ↔ InR sp i ∧ d ∈ spn sp i := by
  unfold overI
  rw [List.mem_filter, mem_rangeI, decide_eq_true_iff]
theorem page_ge (h : Nest n sp) {t : Int} (ht : t ∈ topsI sp) : prI sp t ≤ pageI sp := maxQ_ge (List.mem_map.mpr ⟨t, ht, rfl⟩)
theorem page_is (h : Nest n sp) : ∃ t ∈ topsI sp, prI sp t = pageI sp := by
  obtain ⟨t, h1, h2⟩ := List.mem_map.mp (maxQ_mem (xs := (topsI sp).map fun c => (pricesI sp).getD c.toNat 0) fun z => h.kidsOk.top (List.map_eq_nil_iff.mp z))
  exact ⟨t, h1, h2⟩
theorem page_one (h : Nest n sp) : 1 ≤ pageI sp := by
  obtain ⟨t, h1, h2⟩ := page_is h
  rw [← h2]
  exact pr_one h _ t (Nat.le_refl _) (top_mem.mp h1).1
theorem tree_felt (h : Nest n sp) (d : Int) : feltI n sp (sharesI n.toNat sp) d ≤ pageI sp := by
  rw [felt_csum]
  by_cases hd : ∃ i, InR sp i ∧ d ∈ spn sp i
  · obtain ⟨i, hi, hdi⟩ := hd
    obtain ⟨t, ht, hs⟩ := h.toBook.top_over hi
    have tr := (top_mem.mp ht).1
    obtain ⟨f, f1, f2, f3, f4⟩ := tree_upper h _ t (Nat.le_refl _) tr (hs d hdi)
    have all : ∀ j, InR sp j → d ∈ spn sp j → Sb (spn sp j) (spn sp t) := fun j hj hdj => by
      rcases h.lam _ (mem_of_get (inr_get hj)) _ (mem_of_get (inr_get tr)) ⟨d, hdj, hs d hdi⟩ with z | z
      · exact z
      · by_cases e : j = t
        · rw [e]
          exact Sb.refl _
        · exact absurd z ((top_mem.mp ht).2 j hj e)
    refine Rat.le_trans (csum_le (g := f) fun c hc => ?_) (Rat.le_trans f4 (page_ge h ht))
    refine maxQ_le (by simp) fun x hx => ?_
    rcases List.mem_append.mp hx with hx | hx
    · rw [List.mem_singleton.mp hx]
      exact f2 c hc
    · obtain ⟨j, hj, rfl⟩ := List.mem_map.mp hx
      obtain ⟨j1, j2⟩ := over_mem.mp hj
      exact f1 j j1 j2 (all j j1 j2) c hc
  · have e : csum n (colI sp (sharesI n.toNat sp) d) = csum n fun _ => 0 := csum_congr fun c hc => by
      have ho : overI sp d = [] := List.eq_nil_iff_forall_not_mem.mpr fun i hi => hd ⟨i, over_mem.mp hi⟩
      unfold colI
      rw [ho]
      rfl
    rw [e, csum_zero]
    have := page_one h
    grind
theorem tree_worst_le (h : Nest n sp) : worstI n sp (sharesI n.toNat sp) ≤ pageI sp := by
  refine maxQ_le (fun z => ?_) fun x hx => ?_
  · have := congrArg List.length z
    rw [List.length_map, rangeI_len] at this
    have h1 := h.n1
    rw [List.length_nil] at this
    omega
  · obtain ⟨d, _, rfl⟩ := List.mem_map.mp hx
    exact tree_felt h d
/-! ### no shares are felt less -/
structure ShsA (n : Int) (sp : List (List Int)) (A : Int → Int → Rat) : Prop where
  nn : ∀ k c, InR sp k → Col n c → 0 ≤ A k c
  one : ∀ k, InR sp k → csum n (A k) = 1
  out : ∀ k c, InR sp k → Col n c → c ∉ spn sp k → A k c = 0
theorem sumQ_lt {α : Type} {f g : α → Rat} : ∀ {xs : List α}, xs ≠ [] → (∀ x ∈ xs, f x < g x) → sumQ (xs.map f) < sumQ (xs.map g)
  | [], hn, _ => absurd rfl hn
  | x :: xs, _, h => by
    rw [List.map_cons, List.map_cons, sumQ_cons, sumQ_cons]
    have h1 := h x List.mem_cons_self
    have h2 := sumQ_le (xs := xs) fun y hy => Rat.le_of_lt (h y (List.mem_cons_of_mem _ hy))
    grind
/-- disjoint parts of a sum of 1 -/
theorem kid_ones (h : Nest n sp) {A : Int → Int → Rat} (a : ShsA n sp A) {k : Int} (hk : InR sp k) : sumQ ((activeI sp (pricesI sp) k).map fun j => csum n (onS (spn sp j) (A k))) ≤ 1 := by
  rw [← csum_swap, ← a.one k hk]
  refine csum_le fun c hc => ?_
  by_cases ha : ∃ j ∈ activeI sp (pricesI sp) k, c ∈ spn sp j
  · obtain ⟨j, hj, hcj⟩ := ha
    rw [sumQ_pick (f := fun j => onS (spn sp j) (A k) c) (nd_of_lt ((kids_pw sp k).sublist (act_sub sp k))) hj fun b hb hne => onS_out (h.apart' (active_kid hj) (active_kid hb) (fun e => hne e.symm) c hcj)]
    show onS (spn sp j) (A k) c ≤ _
    rw [onS_in hcj]
    exact Rat.le_refl
  · have e1 : ((activeI sp (pricesI sp) k).map fun j => onS (spn sp j) (A k) c) = (activeI sp (pricesI sp) k).map fun _ => (0 : Rat) := List.map_congr_left fun b hb => onS_out fun z => ha ⟨b, hb, z⟩
    rw [e1, sumQ_const]
    have := a.nn k c hk hc
    grind
theorem any_lower (h : Nest n sp) {A : Int → Int → Rat} (a : ShsA n sp A) : ∀ (m : Nat) (k : Int), lenI sp k ≤ m → InR sp k → ∃ d, d ∈ spn sp k ∧ ∀ f : Int → Rat, (∀ i, InR sp i → d ∈ spn sp i → Sb (spn sp i) (spn sp k) → ∀ c, Col n c → A i c ≤ f c) → (∀ c, Col n c → 0 ≤ f c) → prI sp k ≤ csum n (onS (spn sp k) f)
  | 0, k, hm, hk => by have := (h.toBook.len16 hk).1; omega
  | m + 1, k, hm, hk => by
    by_cases hn : kidsI sp k = []
    · obtain ⟨d, hd⟩ := List.exists_mem_of_ne_nil _ (h.toBook.at hk).1
      refine ⟨d, hd, fun f hf f0 => ?_⟩
      rw [pr_leaf h hk hn, ← a.one k hk]
      refine csum_le fun c hc => ?_
      by_cases hck : c ∈ spn sp k
      · rw [onS_in hck]
        exact hf k hk hd (Sb.refl _) c hc
      · rw [onS_out hck, a.out k c hk hc hck]
        exact Rat.le_refl
    · apply Classical.byContradiction
      intro hno
      have key : ∀ j ∈ activeI sp (pricesI sp) k, partI sp k j < csum n (onS (spn sp j) (A k)) := fun j hj => by
        obtain ⟨jr, jk, js, _⟩ := kid_mem.mp (active_kid hj)
        have hl := h.kidsOk.low k j hk.1 hk.2 (active_kid hj)
        obtain ⟨d, d1, d2⟩ := any_lower h a m j (by omega) jr
        have hdk := js d d1
        apply Classical.byContradiction
        intro hlt
        refine hno ⟨d, hdk, fun f hf f0 => ?_⟩
        have h1 := d2 f (fun i hi hdi hs c hc => hf i hi hdi (hs.trans js) c hc) f0
        have h2 : csum n (fun c => (onS (spn sp j) f c + A k c) - onS (spn sp j) (A k) c) ≤ csum n (onS (spn sp k) f) := csum_le fun c hc => by
          by_cases hcj : c ∈ spn sp j
          · rw [onS_in hcj, onS_in hcj, onS_in (js c hcj)]
            grind
          · rw [onS_out hcj, onS_out hcj]
            by_cases hck : c ∈ spn sp k
            · rw [onS_in hck]
              have := hf k hk hdk (Sb.refl _) c hc
              grind
            · rw [onS_out hck, a.out k c hk hc hck]
              grind
        rw [csum_sub, csum_add, a.one k hk] at h2
        unfold partI at hlt
        grind
      have hne : activeI sp (pricesI sp) k ≠ [] := fun z => hn ((act_nil h hk).mp z)
      have h1 := sumQ_lt hne key
      have h2 := kid_ones h a hk
      rw [parts_one h hk hn] at h1
      grind
theorem any_worst (h : Nest n sp) {sh : List (List Rat)} (a : ShsA n sp (shAt sh)) : pageI sp ≤ worstI n sp sh := by
  obtain ⟨t, ht, e⟩ := page_is h
  have tr := (top_mem.mp ht).1
  obtain ⟨d, d1, d2⟩ := any_lower h a _ t (Nat.le_refl _) tr
  have hd := spn_col h.toBook tr d1
  have h1 := d2 (colI sp sh d) (fun i hi hdi _ c hc => maxQ_ge (List.mem_append_right _ (List.mem_map.mpr ⟨i, over_mem.mpr ⟨hi, hdi⟩, rfl⟩))) fun c hc => maxQ_ge (List.mem_append_left _ List.mem_cons_self)
  rw [e] at h1
  refine Rat.le_trans h1 (Rat.le_trans (csum_le (g := colI sp sh d) fun c hc => ?_) ?_)
  · by_cases hct : c ∈ spn sp t
    · rw [onS_in hct]
      exact Rat.le_refl
    · rw [onS_out hct]
      exact maxQ_ge (List.mem_append_left _ List.mem_cons_self)
  · rw [← felt_csum]
    exact maxQ_ge (List.mem_map.mpr ⟨d, mem_rangeI.mpr hd, rfl⟩)
theorem shsA_of {D c : Nat} {sh : List (List Rat)} (hd : ShsD D c n sp sh) (hr : ShsR n sp sh) : ShsA n sp (shAt sh) where
  nn := fun k c hk hc => by
    obtain ⟨e1, e2, _⟩ := sh_at hd hk.1 hk.2 hc.1 hc.2
    exact hr.nn _ (mem_of_get e1) _ (mem_of_get e2)
  one := fun k hk => by
    have hl := hd.sl
    have e := getD_of (xs := sh) (d := []) (n := k.toNat) (by have := hk.1; have := hk.2; omega)
    have hm := mem_of_get e
    rw [← hr.one _ hm, row_sum (hd.row _ hm).1]
    rfl
  out := fun k c hk hc ho => hr.out k c hk.1 hk.2 hc.1 hc.2 ho
theorem tree_worst (h : Nest n sp) : worstI n sp (sharesI n.toNat sp) = pageI sp := Rat.le_antisymm (tree_worst_le h) (any_worst h (shsA_of (tree_shD h) (tree_shR h)))
end
end Fm
set_option maxHeartbeats 1000000
/-! P8: drawn shares are shares. -/
namespace Fm
open PySem PySem.Spec PyProof.Rows L2
open PySem.W (alike alikeAll dataLt Sortable)
open Rq (Sz Ok OkD)
theorem D2_all : ∀ m, m < 49 → m = 0 ∨ D2 % m = 0 := by decide +kernel
theorem D2_ok : D2 ≠ 0 ∧ D2 < 2 ^ 3800 := by
  have h : D2 ≠ 0 ∧ D2 < 2 ^ 250 := by decide +kernel
  exact ⟨h.1, Nat.lt_of_lt_of_le h.2 (Nat.pow_le_pow_right (by decide) (by decide))⟩
theorem div_as (x s : Int) : Rat.divInt x s = (x : Rat) / (s : Rat) := by rw [Rat.divInt_eq_div]
theorem sumQ_div {s : Int} : ∀ ws : List Int, sumQ (ws.map fun x => Rat.divInt x s) = (ws.sum : Rat) / (s : Rat)
  | [] => by
    show (0 : Rat) = ((0 : Int) : Rat) / _
    rw [Rat.div_def]
    grind
  | w :: ws => by
    rw [List.map_cons, sumQ_cons, sumQ_div ws, div_as, List.sum_cons, Rat.div_def, Rat.div_def, Rat.div_def]
    push_cast
    grind
structure DrawnRow (n : Int) (s : List Int) (r : List Rat) : Prop where
  len : r.length = n.toNat
  ok : ∀ x ∈ r, OkD D2 1 x ∧ 0 ≤ x
  one : sumQ r = 1
  out : ∀ c, Col n c → c ∉ s → r.getD c.toNat 0 = 0
theorem share_row {n : Int} {j : Int × Int} {span : List Int} (h : SharePre n span j) : DrawnRow n span (shareJ n j span).1 := by
  obtain ⟨hj, n1, n2, hs, hin, hl⟩ := h
  have wo := ws_ok hj n1 n2 hs hin hl
  simp only at wo
  obtain ⟨a1, a2, a3, a4, a5, a6, a7, a8, a9⟩ := wo
  have hz : ∀ c, Col n c → c ∉ span → ((mapJ (weighJ span) j (rangeI 0 n)).1.set (oneI 0 (takeI (mapJ (weighJ span) j (rangeI 0 n)).2 3).2 span).1.toNat (1 + (takeI (mapJ (weighJ span) j (rangeI 0 n)).2 3).1)).getD c.toNat 0 = 0 := fun c hc ho => by
    obtain ⟨y, e1, e2⟩ := mapJ_get (f := weighJ span) (I := JOk) (p := fun c y => c ∉ span → y = 0) (xs := rangeI 0 n) (m := c.toNat) (x := c) hj (fun x _ j hj => ⟨(weigh_ok hj).1, fun hx => by
      unfold weighJ
      rw [if_neg (by simp [hx])]⟩) (by
        rw [rangeI_get (by have := hc.1; have := hc.2; omega)]
        congr 1
        have := hc.1
        omega)
    have hne : (oneI 0 (takeI (mapJ (weighJ span) j (rangeI 0 n)).2 3).2 span).1.toNat ≠ c.toNat := fun e => ho (by
      have h1 := hin _ a4
      have h2 := hc.1
      have : (oneI 0 (takeI (mapJ (weighJ span) j (rangeI 0 n)).2 3).2 span).1 = c := by omega
      rw [← this]
      exact a4)
    rw [List.getD_eq_getElem?_getD, List.getElem?_set_ne hne, e1]
    exact e2 ho
  have er : (shareJ n j span).1 = (((mapJ (weighJ span) j (rangeI 0 n)).1.set (oneI 0 (takeI (mapJ (weighJ span) j (rangeI 0 n)).2 3).2 span).1.toNat (1 + (takeI (mapJ (weighJ span) j (rangeI 0 n)).2 3).1)).map fun x => Rat.divInt x ((mapJ (weighJ span) j (rangeI 0 n)).1.set (oneI 0 (takeI (mapJ (weighJ span) j (rangeI 0 n)).2 3).2 span).1.toNat (1 + (takeI (mapJ (weighJ span) j (rangeI 0 n)).2 3).1)).sum) := rfl
  generalize (mapJ (weighJ span) j (rangeI 0 n)).1.set (oneI 0 (takeI (mapJ (weighJ span) j (rangeI 0 n)).2 3).2 span).1.toNat (1 + (takeI (mapJ (weighJ span) j (rangeI 0 n)).2 3).1) = ws at a5 a7 a8 a9 hz er
  rw [er]
  have hp : (0 : Rat) < ((ws.sum : Int) : Rat) := by exact_mod_cast (show (0 : Int) < ws.sum by omega)
  have hne : ((ws.sum : Int) : Rat) ≠ 0 := by grind
  refine ⟨by rw [List.length_map, a5], fun x hx => ?_, ?_, fun c hc ho => ?_⟩
  · obtain ⟨w, hw, rfl⟩ := List.mem_map.mp hx
    have hw0 := (a7 w hw).1
    have hws := sum_ge (fun x hx => (a7 x hx).1) hw
    have v0 : (0 : Rat) ≤ Rat.divInt w ws.sum := by
      rw [div_as, Rat.div_def]
      exact Rat.mul_nonneg (by exact_mod_cast hw0) (Rat.le_of_lt (Rat.inv_pos.mpr hp))
    have v1 : Rat.divInt w ws.sum ≤ 1 := by
      have h1 : Rat.divInt w ws.sum * ((ws.sum : Int) : Rat) ≤ 1 * ((ws.sum : Int) : Rat) := by
        rw [div_as, Rat.div_mul_cancel hne, Rat.one_mul]
        exact_mod_cast hws
      exact Rat.le_of_mul_le_mul_right h1 hp
    refine ⟨OkD.of ?_ ?_ ?_, v0⟩
    · have e : ws.sum = ((ws.sum.toNat : Nat) : Int) := by omega
      rw [e, Rat.divInt_ofNat]
      refine Rq.den_divInt_dvd (by omega) ?_
      rcases D2_all ws.sum.toNat (by omega) with z | z
      · omega
      · exact Nat.dvd_of_mod_eq_zero z
    · show -((1 : Nat) : Rat) ≤ _
      have : ((1 : Nat) : Rat) = 1 := rfl
      grind
    · show _ ≤ ((1 : Nat) : Rat)
      exact v1
  · rw [sumQ_div, Rat.div_def]
    exact Rat.mul_inv_cancel _ hne
  · have := hz c hc ho
    rw [List.getD_eq_getElem?_getD, List.getElem?_map]
    rw [List.getD_eq_getElem?_getD] at this
    cases q : ws[c.toNat]? with
    | none => rfl
    | some w =>
      rw [q] at this
      have this : w = 0 := this
      rw [this]
      show Rat.divInt 0 ws.sum = 0
      exact Rat.zero_divInt _
section
variable {n : Int} {sp : List (List Int)}
theorem share_pre (h : Book n sp) {j : Int × Int} (hj : JOk j) {s : List Int} (hs : s ∈ sp) : SharePre n s j := by
  have := shares_pre h hj
  exact ⟨hj, this.2.1, this.2.2.1, (this.2.2.2.2 s hs).1, (this.2.2.2.2 s hs).2.1, (this.2.2.2.2 s hs).2.2⟩
theorem drawn_row (h : Book n sp) {j : Int × Int} (hj : JOk j) {k : Int} (hk : InR sp k) : (sharesJ n sp j).1[k.toNat]? = some ((sharesJ n sp j).1.getD k.toNat []) ∧ DrawnRow n (spn sp k) ((sharesJ n sp j).1.getD k.toNat []) := by
  obtain ⟨y, e1, e2⟩ := mapJ_get (f := shareJ n) (I := JOk) (p := fun s r => DrawnRow n s r) hj (fun s hs j hj => ⟨shareJ_ok (share_pre h hj hs), share_row (share_pre h hj hs)⟩) (inr_get hk)
  have e : (sharesJ n sp j).1.getD k.toNat [] = y := by
    show (mapJ (shareJ n) j sp).1.getD k.toNat [] = y
    rw [List.getD_eq_getElem?_getD, e1]
    rfl
  rw [e]
  exact ⟨e1, e2⟩
theorem drawn_len (sp : List (List Int)) (j : Int × Int) : (sharesJ n sp j).1.length = sp.length := mapJ_len
theorem drawn_mem (h : Book n sp) {j : Int × Int} (hj : JOk j) {r : List Rat} (hr : r ∈ (sharesJ n sp j).1) : ∃ k, InR sp k ∧ DrawnRow n (spn sp k) r := by
  obtain ⟨i, hi⟩ := List.getElem?_of_mem hr
  have hl := (List.getElem?_eq_some_iff.mp hi).1
  rw [drawn_len] at hl
  have hk : InR sp ((i : Nat) : Int) := ⟨by omega, by omega⟩
  obtain ⟨e1, e2⟩ := drawn_row h hj hk
  rw [Int.toNat_natCast, hi] at e1
  rw [Int.toNat_natCast] at e2
  rw [← Option.some.inj e1] at e2
  exact ⟨_, hk, e2⟩
theorem drawn_shD (h : Book n sp) {j : Int × Int} (hj : JOk j) : ShsD D2 1 n sp (sharesJ n sp j).1 where
  n1 := h.n1
  n2 := h.n2
  len := h.l2
  D0 := D2_ok.1
  D1 := D2_ok.2
  c1 := by decide
  sl := drawn_len sp j
  row := fun r hr => by
    obtain ⟨k, hk, d⟩ := drawn_mem h hj hr
    exact ⟨d.len, fun x hx => (d.ok x hx).1⟩
theorem drawn_shR (h : Book n sp) {j : Int × Int} (hj : JOk j) : ShsR n sp (sharesJ n sp j).1 where
  nn := fun r hr x hx => by
    obtain ⟨k, hk, d⟩ := drawn_mem h hj hr
    exact (d.ok x hx).2
  one := fun r hr => by
    obtain ⟨k, hk, d⟩ := drawn_mem h hj hr
    exact d.one
  out := fun k c k0 k1 c0 c1 ho => (drawn_row h hj ⟨k0, k1⟩).2.out c ⟨c0, c1⟩ ho
theorem drawn_worst (h : Nest n sp) {j : Int × Int} (hj : JOk j) : pageI sp ≤ worstI n sp (sharesJ n sp j).1 := any_worst h (shsA_of (drawn_shD h.toBook hj) (drawn_shR h.toBook hj))
end
end Fm
set_option maxHeartbeats 1000000
/-! P9: what is told has room; a nest with few children keeps the law. -/
namespace Fm
open PySem PySem.Spec PyProof.Rows L2
open PySem.W (alike alikeAll dataLt Sortable)
open Rq (Sz Ok OkD)
theorem shown_int {i : Int} {k : Nat} (hk : 1 ≤ k) (h : i.natAbs < 10 ^ k) : (PyData.int i).shown.length ≤ k + 1 := by
  have e := int_text_length_le10 (k := k) hk h
  show (Str.ofString (toString i)).length ≤ k + 1
  rw [PySem.ofString_length]
  exact e
theorem shown_tup {m : Nat} {xs : List PyData} (h : ∀ x ∈ xs, x.shown.length ≤ m) : (PyData.tuple xs).shown.length ≤ (m + 2) * xs.length + 3 := by
  have h1 := tupleText_len_le (PyData.shownAll xs)
  have h2 : ∀ ys : List PyData, (∀ x ∈ ys, x.shown.length ≤ m) → ((PyData.shownAll ys).map (·.length)).sum + 2 * (PyData.shownAll ys).length ≤ (m + 2) * ys.length := by
    intro ys
    induction ys with
    | nil => intro _; simp [PyData.shownAll]
    | cons y ys ih =>
      intro hy
      have a := hy y List.mem_cons_self
      have b := ih fun x hx => hy x (List.mem_cons_of_mem _ hx)
      simp only [PyData.shownAll, List.map_cons, List.sum_cons, List.length_cons]
      have e : (m + 2) * (ys.length + 1) = (m + 2) * ys.length + (m + 2) := by rw [Nat.mul_add, Nat.mul_one]
      rw [e]
      omega
  have h3 := h2 xs h
  simp only [PyData.shown]
  omega
theorem showAll_of : ∀ {xs : List PyData}, (∀ x ∈ xs, x.showable = true) → PyData.showableAll xs = true
  | [], _ => by simp [PyData.showableAll]
  | x :: xs, h => by
    simp only [PyData.showableAll, Bool.and_eq_true]
    exact ⟨h x List.mem_cons_self, showAll_of fun y hy => h y (List.mem_cons_of_mem _ hy)⟩
theorem layAll_of : ∀ {xs : List PyData}, (∀ x ∈ xs, x.canLay0 = true) → PyData.canLayAll0 xs = true
  | [], _ => by simp [PyData.canLayAll0]
  | x :: xs, h => by
    simp only [PyData.canLayAll0, Bool.and_eq_true]
    exact ⟨h x List.mem_cons_self, layAll_of fun y hy => h y (List.mem_cons_of_mem _ hy)⟩
/-- .. so long at most -/
structure ShownL (m : Nat) (d : PyData) : Prop where
  show_ : d.showable = true
  lay : d.canLay0 = true
  size : d.shown.length ≤ m
theorem ShownL.tup {m : Nat} {xs : List PyData} (h : ∀ x ∈ xs, ShownL m x) : ShownL ((m + 2) * xs.length + 3) (.tuple xs) :=
  ⟨by simp only [PyData.showable]; exact showAll_of fun x hx => (h x hx).show_, by simp only [PyData.canLay0]; exact layAll_of fun x hx => (h x hx).lay, shown_tup fun x hx => (h x hx).size⟩
theorem ShownL.up {m m' : Nat} {d : PyData} (h : ShownL m d) (hm : m ≤ m') : ShownL m' d := ⟨h.show_, h.lay, Nat.le_trans h.size hm⟩
theorem ShownL.ok {m : Nat} {d : PyData} (h : ShownL m d) (hm : m ≤ 1000000) : Shown d := ⟨h.show_, h.lay, Nat.le_trans h.size (Nat.le_trans hm (by rw [sizeLine_eq]; decide))⟩
theorem shownL_int {i : Int} {b k : Nat} (hb : b ≤ 1900) (hk : 1 ≤ k) (h : i.natAbs < 2 ^ b) (h2 : 2 ^ b ≤ 10 ^ k) : ShownL (k + 1) (.int i) := by
  refine ⟨?_, by simp only [PyData.canLay0], shown_int hk (Nat.lt_of_lt_of_le h h2)⟩
  simp only [PyData.showable, decide_eq_true_eq]
  have := log2_le h
  omega
theorem pow_dec {b k : Nat} (h : b ≤ 3 * k) : 2 ^ b ≤ 10 ^ k := by
  refine Nat.le_trans (Nat.pow_le_pow_right (by decide) h) ?_
  rw [Nat.pow_mul]
  exact Nat.pow_le_pow_left (by decide) k
theorem shownL_Q {q : Rat} (h : Sz 900 q) : ShownL 700 (dQ q) := by
  have := ShownL.tup (m := 301) (xs := [.int q.num, .int (q.den : Int)]) fun x hx => by
    rcases List.mem_cons.mp hx with rfl | hx
    · exact shownL_int (b := 900) (k := 300) (by decide) (by decide) h.1 (pow_dec (by decide))
    · rw [List.mem_singleton.mp hx]
      exact shownL_int (b := 900) (k := 300) (by decide) (by decide) (by rw [Int.natAbs_natCast]; exact h.2) (pow_dec (by decide))
  exact this.up (by show (301 + 2) * 2 + 3 ≤ 700; decide)
theorem shownL_Spn {s : List Int} (h : ∀ x ∈ s, 0 ≤ x ∧ x < 64) (hl : s.length ≤ 41) : ShownL 300 (dSpn s) := by
  have := ShownL.tup (m := 3) (xs := s.map .int) fun x hx => by
    obtain ⟨i, hi, rfl⟩ := List.mem_map.mp hx
    have := h i hi
    exact shownL_int (b := 6) (k := 2) (by decide) (by decide) (by show i.natAbs < 64; omega) (by decide)
  refine this.up ?_
  rw [List.length_map]
  omega
section
variable {n : Int} {sp : List (List Int)}
theorem scr_in (h : Nest n sp) : ∀ (d : Nat) (k : Int), InR sp k → ∀ p ∈ scrI sp d k, ∀ x ∈ p.1, InR sp x
  | 0, _, _, p, hp => nomatch hp
  | d + 1, k, hk, p, hp => by
    have hp : p ∈ (if activeI sp (pricesI sp) k = [] then [([k], (1 : Rat))] else (activeI sp (pricesI sp) k).flatMap fun c => (scrI sp d c).map fun p => (k :: p.1, p.2 / (((activeI sp (pricesI sp) k).length : Nat) : Rat))) := hp
    split at hp
    · rw [List.mem_singleton.mp hp]
      intro x hx
      rw [List.mem_singleton.mp hx]
      exact hk
    · obtain ⟨c, hc, hp⟩ := List.mem_flatMap.mp hp
      obtain ⟨q, hq, rfl⟩ := List.mem_map.mp hp
      intro x hx
      rcases List.mem_cons.mp hx with rfl | hx
      · exact hk
      · exact scr_in h d c (kid_mem.mp (active_kid hc)).1 q hq x hx
theorem ok_sz900 {e c : Nat} {q : Rat} (h : Ok e c q) (he : e ≤ 41) (hc : c ≤ 1000) : Sz 900 q := Rq.Ok.sz h (by
  have : c.log2 ≤ 10 := log2_le (Nat.lt_of_le_of_lt hc (by decide))
  omega)
theorem shown_scr (h : Nest n sp) {k : Int} (hk : InR sp k) : Shown (dScs (scrI sp 41 k)) := by
  have hl := h.l2
  have h1 : ∀ x ∈ (scrI sp 41 k).map dSc, ShownL 1500 x := fun x hx => by
    obtain ⟨p, hp, rfl⟩ := List.mem_map.mp hx
    obtain ⟨p1, p2⟩ := scr_ok h.kidsOk 41 k hk.1 hk.2 p hp
    have a := shownL_Spn (s := p.1) (fun x hx => by have := scr_in h 41 k hk p hp x hx; exact ⟨this.1, by have := this.2; omega⟩) p2
    have b := shownL_Q (ok_sz900 p1 (Nat.le_refl _) (by decide))
    have := ShownL.tup (m := 700) (xs := [dSpn p.1, dQ p.2]) fun x hx => by
      rcases List.mem_cons.mp hx with rfl | hx
      · exact a.up (by decide)
      · rw [List.mem_singleton.mp hx]
        exact b
    exact this.up (by show (700 + 2) * 2 + 3 ≤ 1500; decide)
  have h2 := ShownL.tup h1
  have h3 := scr_len h 41 k hk
  have h4 := sq256 h.toBook hk
  refine h2.ok ?_
  rw [List.length_map]
  omega
theorem shown_pr (h : Nest n sp) {k : Int} (hk : InR sp k) : Shown (dQ (prI sp k)) := by
  have := (prI_ok' h.kidsOk hk.1 hk.2).2
  have hl := (h.toBook.len16 hk).2
  exact (shownL_Q (ok_sz900 this (by omega) (by omega))).ok (by decide)
/-- what is asked of a drawn nest -/
structure Nest7 (n : Int) (sp : List (List Int)) : Prop extends Nest n sp where
  few7 : ∀ k, InR sp k → (kidsI sp k).length ≤ 7
theorem dear_r (h : Nest n sp) : InR sp (dearI sp) := tops_at (dear_at h.kidsOk)
theorem Nest7.law (h : Nest7 n sp) : LawOk n sp where
  nest := h.toNest.nestK
  tree := { h.toNest.kidsOk with few7 := fun k h0 h1 => h.few7 k ⟨h0, h1⟩ }
  scr := h.toNest.scrOk
  roots := roots_tops h.toBook
  pick := (sel_lives sp).ok h.toNest
  psz := Nat.le_trans ((sel_lives sp).szN h.toNest 41 _ (dear_r h.toNest)) (Nat.le_trans (sq256 h.toBook (dear_r h.toNest)) (by decide))
  pok := (sel_lives sp).paths h.toNest (dear_r h.toNest)
  same := same_scr h.toNest (dear_r h.toNest)
  mean := lives_mean h.toNest (dear_r h.toNest)
  picked := fun picks hp => ⟨(sel_picks hp).ok h.toNest, fun k h0 h1 => ⟨Nat.le_trans ((sel_picks hp).szN h.toNest 41 k ⟨h0, h1⟩) (Nat.le_trans (sq256 h.toBook ⟨h0, h1⟩) (by decide)), (sel_picks hp).paths h.toNest ⟨h0, h1⟩, picks_mean h.toNest hp ⟨h0, h1⟩⟩⟩
  shD := tree_shD h.toNest
  shR := tree_shR h.toNest
  worst := tree_worst h.toNest
  drawn := fun j hj => ⟨drawn_shD h.toBook hj, drawn_worst h.toNest hj⟩
  shQ := fun k h0 h1 => shown_pr h.toNest ⟨h0, h1⟩
  shP := by
    obtain ⟨t, ht, e⟩ := page_is h.toNest
    rw [← e]
    exact shown_pr h.toNest (top_mem.mp ht).1
  shS := shown_scr h.toNest (dear_r h.toNest)
theorem nest7_of (h : Nest n sp) (hn : n ≤ 7) : Nest7 n sp := { h with
  few7 := fun k hk => by
    have h1 := h.kidCount (List.Sublist.refl (kidsI sp k))
    have h2 := lenI_n h.toBook hk
    omega }
end
end Fm
set_option maxHeartbeats 1000000
/-! P10: drawn books are nests. -/
namespace Fm
open PySem PySem.Spec PyProof.Rows L2
open PySem.W (alike alikeAll dataLt Sortable)
/-! ### each once, in order -/
theorem sortT_perm (s : List Int) : (sortT s).Perm s := List.mergeSort_perm _ _
theorem sortT_lt {s : List Int} (h : s.Nodup) : (sortT s).Pairwise (· < ·) := by
  have h1 := List.pairwise_mergeSort (le := fun x y : Int => !dataLt (PyData.int y) (PyData.int x)) (dle_trans PyData.int) (dle_total PyData.int) s
  have h2 : (sortT s).Nodup := h.perm (sortT_perm s).symm
  refine (h1.and h2).imp fun {a b} ⟨q1, q2⟩ => ?_
  have q1 : (!dataLt (PyData.int b) (PyData.int a)) = true := q1
  rw [PySem.W.dataLt_int, Bool.not_eq_true', decide_eq_false_iff_not] at q1
  have q2 : a ≠ b := q2
  omega
theorem onceI_mem : ∀ (xs acc : List (List Int)) (s : List Int), s ∈ onceI acc xs ↔ s ∈ acc ∨ s ∈ xs
  | [], acc, s => by simp [onceI]
  | x :: xs, acc, s => by
    unfold onceI
    split
    · rename_i hx
      rw [onceI_mem xs acc s, List.mem_cons]
      constructor
      · rintro (h | h)
        · exact .inl h
        · exact .inr (.inr h)
      · rintro (h | h | h)
        · exact .inl h
        · exact .inl (by rw [h]; exact hx)
        · exact .inr h
    · rw [onceI_mem xs _ s, List.mem_append, List.mem_singleton, List.mem_cons, or_assoc]
theorem onceI_nodup : ∀ (xs acc : List (List Int)), acc.Nodup → (onceI acc xs).Nodup
  | [], acc, h => h
  | x :: xs, acc, h => by
    unfold onceI
    split
    · exact onceI_nodup xs acc h
    · rename_i hx
      refine onceI_nodup xs _ (List.nodup_append.mpr ⟨h, by simp, fun a ha b hb e => ?_⟩)
      rw [List.mem_singleton.mp hb] at e
      exact hx (by rw [← e]; exact ha)
theorem onceI_len : ∀ (xs acc : List (List Int)), (onceI acc xs).length ≤ acc.length + xs.length
  | [], acc => Nat.le_refl _
  | x :: xs, acc => by
    unfold onceI
    rw [List.length_cons]
    split
    · have := onceI_len xs acc
      omega
    · have := onceI_len xs (acc ++ [x])
      rw [List.length_append, List.length_singleton] at this
      omega
theorem order_mem {xs : List (List Int)} {s : List Int} : s ∈ orderI xs ↔ s ∈ xs := by
  unfold orderI
  rw [(List.mergeSort_perm _ _).mem_iff, onceI_mem]
  simp
theorem order_pw (xs : List (List Int)) : (orderI xs).Pairwise fun a b => OrdLt a b ∧ dataLt (dOrd b) (dOrd a) = false := by
  have h1 := List.pairwise_mergeSort (le := fun x y : List Int => !dataLt (dOrd y) (dOrd x)) (dle_trans dOrd) (dle_total dOrd) (onceI [] xs)
  have h2 : (orderI xs).Nodup := (onceI_nodup xs [] .nil).perm (List.mergeSort_perm _ _).symm
  refine (h1.and h2).imp fun {a b} ⟨q1, q2⟩ => ?_
  have q1 : (!dataLt (dOrd b) (dOrd a)) = true := q1
  have q2 : a ≠ b := q2
  have q3 : dataLt (dOrd b) (dOrd a) = false := by simpa using q1
  refine ⟨?_, q3⟩
  rw [ord_lt, decide_eq_false_iff_not] at q3
  show dataLt (dOrd a) (dOrd b) = true
  rw [ord_lt]
  apply decide_eq_true
  by_cases hl : a.length < b.length
  · exact .inl hl
  · have hl2 : ¬ b.length < a.length := fun z => q3 (.inl z)
    have he : a.length = b.length := by omega
    refine .inr ⟨he, ?_⟩
    apply Classical.byContradiction
    intro z
    have z2 : ¬ b < a := fun y => q3 (.inr ⟨he.symm, y⟩)
    exact q2 (List.le_antisymm (List.not_lt.mp z2) (List.not_lt.mp z))
/-! ### books -/
def LamX_ (xs : List (List Int)) : Prop := ∀ a ∈ xs, ∀ b ∈ xs, (∃ c ∈ a, c ∈ b) → Sb a b ∨ Sb b a
structure XsOk (n : Int) (xs : List (List Int)) : Prop where
  ne : xs ≠ []
  len : xs.length ≤ 40
  sp : ∀ s ∈ xs, s ≠ [] ∧ s.Nodup ∧ ∀ c ∈ s, 0 ≤ c ∧ c < n
  lam : LamX_ xs
theorem book_nest {n : Int} {xs : List (List Int)} (n1 : 1 ≤ n) (n2 : n ≤ 16) (h : XsOk n xs) : Nest n (bookI n xs).2 := by
  have mem : ∀ s, s ∈ (bookI n xs).2 → ∃ t ∈ xs, s = sortT t := fun s hs => by
    obtain ⟨t, ht, e⟩ := List.mem_map.mp (order_mem.mp hs)
    exact ⟨t, ht, e.symm⟩
  have sub : ∀ t : List Int, ∀ c, c ∈ sortT t ↔ c ∈ t := fun t c => (sortT_perm t).mem_iff
  refine { n1 := n1, n2 := n2, l1 := ?_, l2 := ?_, ris := fun s hs => ?_, ord := order_pw _, lam := fun a ha b hb hc => ?_ }
  · obtain ⟨t, ht⟩ := List.exists_mem_of_ne_nil _ h.ne
    exact List.length_pos_of_mem (order_mem.mpr (List.mem_map.mpr ⟨t, ht, rfl⟩))
  · have h1 := onceI_len (xs.map sortT) []
    have h2 : (bookI n xs).2.length = (onceI [] (xs.map sortT)).length := (List.mergeSort_perm _ _).length_eq
    have h3 := h.len
    rw [List.length_map, List.length_nil] at h1
    omega
  · obtain ⟨t, ht, rfl⟩ := mem s hs
    obtain ⟨s1, s2, s3⟩ := h.sp t ht
    refine ⟨fun z => s1 ?_, sortT_lt s2, fun c hc => s3 c ((sub t c).mp hc)⟩
    have := (sortT_perm t).length_eq
    rw [z] at this
    exact List.eq_nil_of_length_eq_zero this.symm
  · obtain ⟨t, ht, rfl⟩ := mem a ha
    obtain ⟨u, hu, rfl⟩ := mem b hb
    obtain ⟨c, c1, c2⟩ := hc
    rcases h.lam t ht u hu ⟨c, (sub t c).mp c1, (sub u c).mp c2⟩ with z | z
    · exact .inl fun x hx => (sub u x).mpr (z x ((sub t x).mp hx))
    · exact .inr fun x hx => (sub t x).mpr (z x ((sub u x).mp hx))
/-! ### shapes -/
def xsB (n : Int) (xs : List (List Int)) : Bool := !xs.isEmpty && decide (xs.length ≤ 40) && xs.all (fun s => !s.isEmpty && decide s.Nodup && s.all fun c => decide (0 ≤ c) && decide (c < n)) &&
  xs.all fun a => xs.all fun b => !(a.any fun c => decide (c ∈ b)) || a.all (fun c => decide (c ∈ b)) || b.all fun c => decide (c ∈ a)
theorem xsB_ok {n : Int} {xs : List (List Int)} (h : xsB n xs = true) : XsOk n xs := by
  unfold xsB at h
  simp only [Bool.and_eq_true, List.all_eq_true, Bool.or_eq_true, Bool.not_eq_true', decide_eq_true_eq, List.any_eq_false, List.isEmpty_eq_false_iff] at h
  obtain ⟨⟨⟨h1, h2⟩, h3⟩, h4⟩ := h
  refine ⟨h1, h2, fun s hs => ⟨(h3 s hs).1.1, (h3 s hs).1.2, (h3 s hs).2⟩, fun a ha b hb ⟨c, c1, c2⟩ => ?_⟩
  rcases h4 a ha b hb with (z | z) | z
  · exact absurd c2 (z c c1)
  · exact .inl z
  · exact .inr z
def shapesB : Bool := (List.range 17).all fun m => m == 0 || (xsB (m : Int) (ownL (m : Int) ++ [rangeI 0 (m : Int)]) && xsB (m : Int) (ownL (m : Int) ++ (rangeI 2 ((m : Int) + 1)).map fun i => (rangeI 0 (m : Int)).take i.toNat) && xsB (m : Int) (halvesK (m : Int) 20 (m : Int) (ownL (m : Int))))
theorem shapesB_ok : shapesB = true := by decide +kernel
theorem shape_nest {n : Int} {j : Int × Int} (n1 : 1 ≤ n) (n2 : n ≤ 16) (hj : JOk j) : (shapeI n j).1.1 = n ∧ Nest n (shapeI n j).1.2 ∧ JOk (shapeI n j).2 := by
  have h := shapesB_ok
  unfold shapesB at h
  rw [List.all_eq_true] at h
  have h := h n.toNat (List.mem_range.mpr (by omega))
  rw [show ((n.toNat : Nat) : Int) = n by omega] at h
  simp only [Bool.or_eq_true, Bool.and_eq_true, beq_iff_eq] at h
  rcases h with h | ⟨⟨h1, h2⟩, h3⟩
  · omega
  · have t := take_ok hj (t := 3) (by decide)
    unfold shapeI
    simp only
    split
    · exact ⟨rfl, book_nest n1 n2 (xsB_ok h1), t.1⟩
    · split
      · exact ⟨rfl, book_nest n1 n2 (xsB_ok h2), t.1⟩
      · exact ⟨rfl, book_nest n1 n2 (xsB_ok h3), t.1⟩
end Fm
set_option maxHeartbeats 1000000
/-! P11: nested stretches of an order make a nest. -/
namespace Fm
open PySem PySem.Spec PyProof.Rows L2
open PySem.W (alike alikeAll dataLt Sortable)
/-! ### stretches -/
abbrev Apart (p q : Int × Int) : Prop := p.2 ≤ q.1 ∨ q.2 ≤ p.1
abbrev Holds (p q : Int × Int) : Prop := p.1 ≤ q.1 ∧ q.2 ≤ p.2
theorem pw_lt_get {xs : List Int} (h : xs.Pairwise (· < ·)) {i m : Nat} (him : i < m) (hm : m < xs.length) : xs.getD i 0 < xs.getD m 0 :=
  pw_get h him (getD_of (by omega)) (getD_of hm)
theorem pw_le_get {xs : List Int} (h : xs.Pairwise (· < ·)) {i m : Nat} (him : i ≤ m) (hm : m < xs.length) : xs.getD i 0 ≤ xs.getD m 0 := by
  rcases Nat.lt_or_eq_of_le him with z | z
  · have := pw_lt_get h z hm
    omega
  · rw [z]
    exact Int.le_refl _
theorem ends_apart {xs : List Int} (h : xs.Pairwise (· < ·)) : (endsI xs).Pairwise Apart := by
  unfold endsI
  rw [List.pairwise_map]
  have hr : (rangeI 0 (((xs.length : Nat) : Int) - 1)).Pairwise (· < ·) := by
    unfold rangeI
    rw [List.pairwise_map]
    exact List.pairwise_lt_range.imp fun h => by omega
  refine (List.Pairwise.and_mem.mp hr).imp fun {a b} ⟨ha, hb, hab⟩ => ?_
  obtain ⟨a0, a1⟩ := mem_rangeI.mp ha
  obtain ⟨b0, b1⟩ := mem_rangeI.mp hb
  exact .inl (pw_le_get h (by omega) (by omega))
theorem cut_lt {s e way : Int} (hl : 1 < e - s) (h0 : 0 ≤ way) (h1 : way < 4) : (cutI s e way).Pairwise (· < ·) ∧ ∀ x ∈ cutI s e way, s ≤ x ∧ x ≤ e := by
  rcases cut_cases (s := s) (e := e) h0 h1 with h | h | h | h
  · rw [h]
    refine ⟨?_, fun x hx => ?_⟩
    · simp
      omega
    · simp at hx
      omega
  · rw [h]
    refine ⟨?_, fun x hx => ?_⟩
    · simp
      omega
    · simp at hx
      omega
  · rw [h]
    refine ⟨?_, fun x hx => ?_⟩
    · simp
      omega
    · simp at hx
      omega
  · rw [h]
    refine ⟨?_, fun x hx => ?_⟩
    · unfold rangeI
      rw [List.pairwise_map]
      exact List.pairwise_lt_range.imp fun h => by omega
    · have := mem_rangeI.mp hx
      omega
theorem ends_in {xs : List Int} {s e : Int} (hx : ∀ x ∈ xs, s ≤ x ∧ x ≤ e) {q : Int × Int} (hq : q ∈ endsI xs) : s ≤ q.1 ∧ q.2 ≤ e := by
  obtain ⟨i, hi, rfl⟩ := mem_endsI hq
  exact ⟨(hx _ (mem_of_get (getD_of (by omega)))).1, (hx _ (mem_of_get (getD_of hi))).2⟩
/-! ### the invariant -/
structure OInv (n : Int) (order : List Int) (st : OSt) : Prop extends OOk n st where
  wapart : st.work.Pairwise Apart
  bnds : ∃ ps : List (Int × Int), st.spans = ps.map (fun p => sortT (sliceI order p.1 p.2)) ∧ (∀ p ∈ ps, StrOk n p) ∧ (∀ p ∈ ps, ∀ q ∈ ps, Apart p q ∨ Holds p q ∨ Holds q p) ∧ ∀ p ∈ ps, ∀ q ∈ st.work, Apart p q ∨ Holds p q
  cnt : st.spans.length + oMes st.work ≤ 31
theorem apart_symm {p q : Int × Int} (h : Apart p q) : Apart q p := h.elim .inr .inl
theorem oInv_step {n : Int} {order : List Int} {share : Int} {w : List (Int × Int)} {p : Int × Int} {spans : List (List Int)} {j : Int × Int} (h : OInv n order ⟨w ++ [p], spans, j⟩) : OInv n order (oStep order share w p spans j) := by
  obtain ⟨s1, s2, s3⟩ := oStep_ok (order := order) (share := share) h.toOOk
  obtain ⟨ps, e1, e2, e3, e4⟩ := h.bnds
  have e1 : spans = ps.map (fun p => sortT (sliceI order p.1 p.2)) := e1
  have hp := h.wk p (List.mem_append_right _ List.mem_cons_self)
  obtain ⟨w1, w2, w3⟩ := List.pairwise_append.mp (show (w ++ [p]).Pairwise Apart from h.wapart)
  have wp : ∀ q ∈ w, Apart q p := fun q hq => w3 q hq p List.mem_cons_self
  have hc : spans.length + oMes (w ++ [p]) ≤ 31 := h.cnt
  have cnt' : (oStep order share w p spans j).spans.length + oMes (oStep order share w p spans j).work ≤ 31 := by omega
  -- the stretches behind
  have hst : ∃ ps' : List (Int × Int), (oStep order share w p spans j).spans = ps'.map (fun p => sortT (sliceI order p.1 p.2)) ∧ (∀ q ∈ ps', q ∈ ps ∨ q = p) := by
    have : (oStep order share w p spans j).spans = if decide ((takeI j 4).1 < share) = true then spans ++ [sortT (sliceI order p.1 p.2)] else spans := by
      unfold oStep
      simp only
      split <;> rfl
    rw [this]
    split
    · refine ⟨ps ++ [p], by rw [List.map_append, ← e1]; rfl, fun q hq => ?_⟩
      rcases List.mem_append.mp hq with hq | hq
      · exact .inl hq
      · exact .inr (List.mem_singleton.mp hq)
    · exact ⟨ps, e1, fun q hq => .inl hq⟩
  obtain ⟨ps', f1, f2⟩ := hst
  -- the work behind
  have hwk : (∀ q ∈ (oStep order share w p spans j).work, q ∈ w ∨ Holds p q) ∧ (oStep order share w p spans j).work.Pairwise Apart := by
    have hj : JOk j := h.jar
    have t := take_ok hj (t := 4) (by decide)
    have u := take_ok t.1 (t := 4) (by decide)
    by_cases hl : 1 < p.2 - p.1
    · have : (oStep order share w p spans j).work = w ++ endsI (cutI p.1 p.2 (takeI (takeI j 4).2 4).1) := by
        unfold oStep
        simp only [decide_eq_true hl, if_true]
      rw [this]
      obtain ⟨c1, c2⟩ := cut_lt (s := p.1) (e := p.2) hl u.2.1 u.2.2
      have inn : ∀ q ∈ endsI (cutI p.1 p.2 (takeI (takeI j 4).2 4).1), Holds p q := fun q hq => ends_in c2 hq
      refine ⟨fun q hq => ?_, List.pairwise_append.mpr ⟨w1, ends_apart c1, fun a ha b hb => ?_⟩⟩
      · rcases List.mem_append.mp hq with hq | hq
        · exact .inl hq
        · exact .inr (inn q hq)
      · have := wp a ha
        have := inn b hb
        show a.2 ≤ b.1 ∨ b.2 ≤ a.1
        omega
    · have : (oStep order share w p spans j).work = w := by
        unfold oStep
        simp only [decide_eq_false hl, Bool.false_eq_true, if_false]
      rw [this]
      exact ⟨fun q hq => .inl hq, w1⟩
  refine { s1 with wapart := hwk.2, bnds := ⟨ps', f1, fun q hq => ?_, fun a ha b hb => ?_, fun a ha b hb => ?_⟩, cnt := cnt' }
  · rcases f2 q hq with z | z
    · exact e2 q z
    · rw [z]
      exact hp
  · have pp := e4
    rcases f2 a ha with za | za <;> rcases f2 b hb with zb | zb
    · exact e3 a za b zb
    · rw [zb]
      rcases e4 a za p (List.mem_append_right _ List.mem_cons_self) with z | z
      · exact .inl z
      · exact .inr (.inl z)
    · rw [za]
      rcases e4 b zb p (List.mem_append_right _ List.mem_cons_self) with z | z
      · exact .inl (apart_symm z)
      · exact .inr (.inr z)
    · rw [za, zb]
      exact .inr (.inl ⟨Int.le_refl _, Int.le_refl _⟩)
  · rcases hwk.1 b hb with zb | zb
    · rcases f2 a ha with za | za
      · exact e4 a za b (List.mem_append_left _ zb)
      · rw [za]
        exact .inl (apart_symm (wp b zb))
    · rcases f2 a ha with za | za
      · have hb2 := s1.wk b hb
        rcases e4 a za p (List.mem_append_right _ List.mem_cons_self) with z | z
        · refine .inl ?_
          show a.2 ≤ b.1 ∨ b.2 ≤ a.1
          omega
        · refine .inr ?_
          show a.1 ≤ b.1 ∧ b.2 ≤ a.2
          omega
      · rw [za]
        exact .inr zb
theorem oInv_over {n : Int} {order : List Int} {share : Int} : ∀ (f : Nat) (st : OSt), OInv n order st → OInv n order (overK order share f st)
  | 0, st, h => h
  | f + 1, ⟨w, spans, j⟩, h => by
    by_cases hw : w = []
    · rw [overK_nil hw]
      exact h
    · obtain ⟨w', p, rfl⟩ := snoc_of hw
      rw [overK_snoc]
      exact oInv_over f _ (oInv_step h)
/-! ### slices of an order -/
theorem slice_mem {order : List Int} {s e c : Int} (h : c ∈ sliceI order s e) : ∃ i : Nat, s.toNat ≤ i ∧ i < e.toNat ∧ order[i]? = some c := by
  obtain ⟨m, hm⟩ := List.getElem?_of_mem h
  unfold sliceI at hm
  rw [List.getElem?_take] at hm
  split at hm
  · rename_i hl
    rw [List.getElem?_drop] at hm
    exact ⟨s.toNat + m, by omega, by omega, hm⟩
  · cases hm
theorem mem_slice {order : List Int} {s e c : Int} {i : Nat} (h1 : s.toNat ≤ i) (h2 : i < e.toNat) (h3 : order[i]? = some c) : c ∈ sliceI order s e := by
  have : (sliceI order s e)[i - s.toNat]? = some c := by
    unfold sliceI
    rw [List.getElem?_take, if_pos (by omega), List.getElem?_drop, show s.toNat + (i - s.toNat) = i by omega]
    exact h3
  exact mem_of_get this
theorem nd_get {order : List Int} (h : order.Nodup) {i m : Nat} {c : Int} (hi : order[i]? = some c) (hm : order[m]? = some c) : i = m := by
  rcases Nat.lt_trichotomy i m with z | z | z
  · exact absurd rfl (pw_get h z hi hm)
  · exact z
  · exact absurd rfl (pw_get h z hm hi)
theorem over_xs {n : Int} {order : List Int} {st : OSt} (h : OInv n order st) (hn : order.Nodup) (hl : ((order.length : Nat) : Int) = n) (hc : ∀ c ∈ order, 0 ≤ c ∧ c < n) (hne : st.spans ≠ []) : XsOk n st.spans := by
  obtain ⟨ps, e1, e2, e3, _⟩ := h.bnds
  have sub : ∀ t : List Int, ∀ c, c ∈ sortT t ↔ c ∈ t := fun t c => (sortT_perm t).mem_iff
  refine ⟨hne, by have := h.cnt; omega, fun s hs => ?_, fun a ha b hb hc => ?_⟩
  · rw [e1] at hs
    obtain ⟨p, hp, rfl⟩ := List.mem_map.mp hs
    obtain ⟨p0, p1, p2⟩ := e2 p hp
    refine ⟨fun z => ?_, ?_, fun c hcs => ?_⟩
    · have hlt : p.1.toNat < order.length := by omega
      have : order[p.1.toNat] ∈ sliceI order p.1 p.2 := mem_slice (i := p.1.toNat) (Nat.le_refl _) (by omega) (List.getElem?_eq_getElem hlt)
      have := (sub _ _).mpr this
      rw [z] at this
      cases this
    · refine List.Nodup.perm ?_ (sortT_perm _).symm
      unfold sliceI
      exact (hn.sublist (List.drop_sublist _ _)).sublist (List.take_sublist _ _)
    · obtain ⟨i, _, _, hi⟩ := slice_mem ((sub _ _).mp hcs)
      exact hc c (mem_of_get hi)
  · rw [e1] at ha hb
    obtain ⟨p, hp, rfl⟩ := List.mem_map.mp ha
    obtain ⟨q, hq, rfl⟩ := List.mem_map.mp hb
    obtain ⟨p0, p1, p2⟩ := e2 p hp
    obtain ⟨q0, q1, q2⟩ := e2 q hq
    obtain ⟨c, c1, c2⟩ := hc
    rcases e3 p hp q hq with z | z | z
    · obtain ⟨i, i1, i2, i3⟩ := slice_mem ((sub _ _).mp c1)
      obtain ⟨m, m1, m2, m3⟩ := slice_mem ((sub _ _).mp c2)
      have := nd_get hn i3 m3
      omega
    · refine .inr fun x hx => (sub _ _).mpr ?_
      obtain ⟨i, i1, i2, i3⟩ := slice_mem ((sub _ _).mp hx)
      exact mem_slice (by omega) (by omega) i3
    · refine .inl fun x hx => (sub _ _).mpr ?_
      obtain ⟨i, i1, i2, i3⟩ := slice_mem ((sub _ _).mp hx)
      exact mem_slice (by omega) (by omega) i3
theorem nest_nest {n : Int} {order : List Int} {j : Int × Int} (n1 : 1 ≤ n) (n2 : n ≤ 16) (hj : JOk j) (hn : order.Nodup) (hl : ((order.length : Nat) : Int) = n) (hc : ∀ c ∈ order, 0 ≤ c ∧ c < n) : (nestI n order j).1.1 = n ∧ Nest n (nestI n order j).1.2 ∧ JOk (nestI n order j).2 := by
  have t := take_ok hj (t := 3) (by decide)
  have h0 : OInv n order ⟨[(0, n)], [], (takeI j 3).2⟩ := {
    jar := t.1
    wk := fun p hp => by
      rw [List.mem_singleton.mp hp]
      exact ⟨Int.le_refl 0, by show 0 < n; omega, Int.le_refl n⟩
    wapart := List.pairwise_singleton _ _
    bnds := ⟨[], rfl, fun p hp => (nomatch hp), fun p hp => (nomatch hp), fun p hp => (nomatch hp)⟩
    cnt := by
      show 0 + (strW (0, n) + 0) ≤ 31
      unfold strW
      omega }
  have h := oInv_over (share := 2 + (takeI j 3).1) 100 _ h0
  have h : OInv n order (nestO n order j) := h
  unfold nestI
  simp only
  split
  · have u := take_ok h.jar (t := n) (by omega)
    exact ⟨rfl, book_nest n1 n2 ⟨by simp, by simp, fun s hs => by
      rw [List.mem_singleton.mp hs]
      exact ⟨by simp, by simp, fun c hc => by rw [List.mem_singleton.mp hc]; exact u.2⟩, fun a ha b hb _ => by
      rw [List.mem_singleton.mp ha, List.mem_singleton.mp hb]
      exact .inl (Sb.refl _)⟩, u.1⟩
  · rename_i hne
    exact ⟨rfl, book_nest n1 n2 (over_xs h hn hl hc hne), h.jar⟩
theorem any_nest {n : Int} {j : Int × Int} (n1 : 1 ≤ n) (n2 : n ≤ 16) (hj : JOk j) : (anyI n j).1.1 = n ∧ Nest n (anyI n j).1.2 ∧ JOk (anyI n j).2 := by
  obtain ⟨m1, m2, m3⟩ := mixI_ok (xs := rangeI 0 n) hj
  have hnd : (rangeI 0 n).Nodup := by
    unfold rangeI
    rw [List.Nodup, List.pairwise_map]
    exact List.nodup_range.imp fun h => by omega
  refine nest_nest n1 n2 m1 (hnd.perm m3.symm) ?_ fun c hc => mem_rangeI.mp (m3.mem_iff.mp hc)
  rw [m2, rangeI_len]
  omega
theorem draw_nest {l m : Int} {j : Int × Int} (h1 : 1 ≤ l) (h2 : l ≤ m) (h3 : m ≤ 16) (hj : JOk j) : (drawI l m j).1.1 ≤ m ∧ Nest (drawI l m j).1.1 (drawI l m j).1.2 ∧ JOk (drawI l m j).2 := by
  have t := take_ok hj (t := m - l + 1) (by omega)
  have u := take_ok t.1 (t := 4) (by decide)
  unfold drawI
  split
  · obtain ⟨a, b, c⟩ := shape_nest (n := l + (takeI j (m - l + 1)).1) (by omega) (by omega) u.1
    rw [a]
    exact ⟨by omega, b, c⟩
  · obtain ⟨a, b, c⟩ := any_nest (n := l + (takeI j (m - l + 1)).1) (by omega) (by omega) u.1
    rw [a]
    exact ⟨by omega, b, c⟩
end Fm
set_option maxHeartbeats 1000000
/-! P12: the law's own tree: each span is given to the first one that holds it. -/
namespace Fm
open PySem PySem.Spec PyProof.Rows L2
open PySem.W (alike alikeAll dataLt Sortable)
def upI (sp : List (List Int)) (i : Int) : Option Int := (rangeI (i + 1) ((sp.length : Nat) : Int)).find? fun j => liesB (spn sp i) (spn sp j)
def putT (xss : List (List Int)) (j i : Int) : List (List Int) := xss.set j.toNat (xss.getD j.toNat [] ++ [i])
def stepT (sp : List (List Int)) (xss : List (List Int)) (i : Int) : List (List Int) := match upI sp i with
  | none => xss
  | some j => putT xss j i
def treeK (sp : List (List Int)) : Nat → List (List Int)
  | 0 => List.replicate sp.length []
  | m + 1 => stepT sp (treeK sp m) ((m : Nat) : Int)
theorem up_in {sp : List (List Int)} {i j : Int} (h : upI sp i = some j) : i < j ∧ j < ((sp.length : Nat) : Int) ∧ Sb (spn sp i) (spn sp j) := by
  have h1 := mem_rangeI.mp (List.mem_of_find?_eq_some h)
  have h2 := List.find?_some h
  exact ⟨by omega, h1.2, liesB_Sb.mp h2⟩
theorem treeK_len (sp : List (List Int)) : ∀ m, (treeK sp m).length = sp.length
  | 0 => List.length_replicate
  | m + 1 => by
    show (stepT sp (treeK sp m) ((m : Nat) : Int)).length = _
    unfold stepT
    split
    · exact treeK_len sp m
    · unfold putT
      rw [List.length_set, treeK_len sp m]
theorem treeK_get (sp : List (List Int)) {j : Int} (hj : InR sp j) : ∀ m : Nat, (treeK sp m).getD j.toNat [] = (rangeI 0 ((m : Nat) : Int)).filter fun i => decide (upI sp i = some j)
  | 0 => by
    show (List.replicate sp.length ([] : List Int)).getD j.toNat [] = _
    rw [List.getD_eq_getElem?_getD, List.getElem?_replicate]
    split <;> rfl
  | m + 1 => by
    have ih := treeK_get sp hj m
    have hr : rangeI 0 (((m + 1 : Nat) : Nat) : Int) = rangeI 0 ((m : Nat) : Int) ++ [((m : Nat) : Int)] := by
      unfold rangeI
      rw [show ((((m + 1 : Nat) : Nat) : Int) - 0).toNat = m + 1 by omega, show (((m : Nat) : Int) - 0).toNat = m by omega, List.range_succ, List.map_append]
      show _ ++ [(0 : Int) + ((m : Nat) : Int)] = _
      rw [Int.zero_add]
    rw [hr, List.filter_append, ← ih]
    show (stepT sp (treeK sp m) ((m : Nat) : Int)).getD j.toNat [] = _
    unfold stepT
    cases hu : upI sp ((m : Nat) : Int) with
    | none =>
      simp only
      rw [List.filter_cons_of_neg (by rw [hu]; simp), List.filter_nil, List.append_nil]
    | some o =>
      simp only
      obtain ⟨u1, u2, _⟩ := up_in hu
      unfold putT
      by_cases e : o = j
      · subst e
        rw [List.filter_cons_of_pos (by rw [hu]; simp), List.filter_nil, List.getD_eq_getElem?_getD, List.getElem?_set_self (by rw [treeK_len]; have := hj.1; omega)]
        rfl
      · rw [List.filter_cons_of_neg (by rw [hu]; simp [e]), List.filter_nil, List.append_nil, List.getD_eq_getElem?_getD, List.getElem?_set_ne (by have := hj.1; omega), ← List.getD_eq_getElem?_getD]
theorem find_none {α : Type} {p : α → Bool} {l : List α} {m : Nat} {x : α} (hx : l[m]? = some x) (hn : (l.take m).find? p = none) (hp : p x = true) : l.find? p = some x := by
  have hl := (List.getElem?_eq_some_iff.mp hx).1
  have e : l = l.take m ++ x :: l.drop (m + 1) := by
    have := List.take_append_drop m l
    rw [List.drop_eq_getElem_cons hl, (List.getElem?_eq_some_iff.mp hx).2] at this
    exact this.symm
  rw [e, List.find?_append, hn, List.find?_cons_of_pos hp]
  rfl
section
variable {n : Int} {sp : List (List Int)}
theorem up_kid (h : Nest n sp) {i j : Int} (hi : InR sp i) (hj : InR sp j) : upI sp i = some j ↔ i ∈ kidsI sp j := by
  constructor
  · intro hu
    obtain ⟨u1, u2, u3⟩ := up_in hu
    refine kid_mem.mpr ⟨hi, by omega, u3, fun o ho oj os oi hs => ?_⟩
    have h1 := (h.toBook.sub_lt hi ho (fun e => oi e.symm) hs).2
    have h2 := (h.toBook.sub_lt ho hj oj os).2
    obtain ⟨_, as, bs, hab, hall⟩ := List.find?_eq_some_iff_append.mp hu
    have hmem : o ∈ as := by
      have hm : o ∈ rangeI (i + 1) ((sp.length : Nat) : Int) := mem_rangeI.mpr ⟨by omega, ho.2⟩
      have hpw : (rangeI (i + 1) ((sp.length : Nat) : Int)).Pairwise (· < ·) := by
        unfold rangeI
        rw [List.pairwise_map]
        exact List.pairwise_lt_range.imp fun h => by omega
      rw [hab] at hm hpw
      rcases List.mem_append.mp hm with z | z
      · exact z
      · rcases List.mem_cons.mp z with z | z
        · omega
        · have := (List.pairwise_cons.mp (List.pairwise_append.mp hpw).2.1).1 o z
          omega
    have := hall o hmem
    rw [liesB_Sb.mpr hs] at this
    cases this
  · intro hk
    obtain ⟨_, k2, k3, k4⟩ := kid_mem.mp hk
    have hlt := (h.toBook.sub_lt hi hj k2 k3).2
    have hj' : j ∈ rangeI (i + 1) ((sp.length : Nat) : Int) := mem_rangeI.mpr ⟨by omega, hj.2⟩
    cases hu : upI sp i with
    | none =>
      have := List.find?_eq_none.mp hu j hj'
      rw [liesB_Sb.mpr k3] at this
      exact absurd rfl this
    | some o =>
      obtain ⟨u1, u2, u3⟩ := up_in hu
      have ho : InR sp o := ⟨by have := hi.1; omega, u2⟩
      by_cases e : o = j
      · rw [e]
      · exfalso
        obtain ⟨_, as, bs, hab, hall⟩ := List.find?_eq_some_iff_append.mp hu
        -- o stands ahead of j
        have hoj : o < j := by
          have hpw : (rangeI (i + 1) ((sp.length : Nat) : Int)).Pairwise (· < ·) := by
            unfold rangeI
            rw [List.pairwise_map]
            exact List.pairwise_lt_range.imp fun h => by omega
          rw [hab] at hj' hpw
          rcases List.mem_append.mp hj' with z | z
          · have := hall j z
            rw [liesB_Sb.mpr k3] at this
            cases this
          · rcases List.mem_cons.mp z with z | z
            · exact absurd z.symm e
            · exact (List.pairwise_cons.mp (List.pairwise_append.mp hpw).2.1).1 j z
        obtain ⟨c, hc⟩ := List.exists_mem_of_ne_nil _ (h.toBook.at hi).1
        rcases h.lam _ (mem_of_get (inr_get ho)) _ (mem_of_get (inr_get hj)) ⟨c, u3 c hc, k3 c hc⟩ with z | z
        · exact k4 o ho e z (by omega) u3
        · have := (h.toBook.sub_lt hj ho (fun q => e q.symm) z).2
          omega
theorem eq_of_pw : ∀ {a b : List Int}, a.Pairwise (· < ·) → b.Pairwise (· < ·) → (∀ c, c ∈ a ↔ c ∈ b) → a = b := fun ha hb h =>
  sub_eq ha hb (fun c hc => (h c).mp hc) (sub_len hb ha fun c hc => (h c).mpr hc)
theorem treeK_is (h : Nest n sp) : treeK sp sp.length = treeI sp := by
  apply List.ext_getElem?
  intro m
  by_cases hm : m < sp.length
  · have hj : InR sp ((m : Nat) : Int) := ⟨by omega, by omega⟩
    have e1 := getD_of (xs := treeK sp sp.length) (d := []) (n := m) (by rw [treeK_len]; exact hm)
    have e2 := treeK_get sp hj sp.length
    rw [Int.toNat_natCast] at e2
    rw [e1, e2, treeI_get hm]
    congr 1
    refine eq_of_pw ?_ (kids_pw sp _) fun c => ?_
    · refine List.Pairwise.sublist List.filter_sublist ?_
      unfold rangeI
      rw [List.pairwise_map]
      exact List.pairwise_lt_range.imp fun h => by omega
    · rw [List.mem_filter, mem_rangeI, decide_eq_true_iff]
      constructor
      · rintro ⟨c1, c2⟩
        exact (up_kid h c1 hj).mp c2
      · intro hc
        have hr := (kid_mem.mp hc).1
        exact ⟨hr, (up_kid h hr hj).mpr hc⟩
  · rw [List.getElem?_eq_none (by rw [treeK_len]; omega), List.getElem?_eq_none (by rw [treeI_len]; omega)]
end
end Fm
set_option maxHeartbeats 2000000
/-! Fm14: a list of our own, of lists of our own. -/
namespace Fm
open PySem PySem.Spec PyProof.Rows L2
/-- an address, read as such -/
def rAdr {K : PySem.W.Frag} : RT K Addr := ⟨fun _ v q => v = .ref q, fun _ h => h⟩
theorem rows_adr {K : PySem.W.Frag} {S : Hp} : ∀ (qs : List Addr), Rows (rAdr (K := K)) S (qs.map V.ref) qs
  | [] => trivial
  | _ :: qs => ⟨rfl, rows_adr qs⟩
theorem adr_rows {K : PySem.W.Frag} {S : Hp} : ∀ {vs : List V} {qs : List Addr}, Rows (rAdr (K := K)) S vs qs → vs = qs.map V.ref
  | [], [], _ => rfl
  | v :: vs, q :: qs, h => by
    have e : v = .ref q := h.1
    rw [e, adr_rows h.2]
    rfl
  | [], _ :: _, h => h.elim
  | _ :: _, [], h => h.elim
/-- the inner lists, of whole numbers -/
structure IL (k : Kx) (w0 w : Wd) (qs : List Addr) (xss : List (List Int)) : Prop where
  nd : qs.Nodup
  len : qs.length = xss.length
  each : ∀ i q, qs[i]? = some q → w.H q = some (.lst ((xss.getD i []).map V.int)) ∧ w.S q = none ∧ k.jp ≠ some q ∧ w0.H q = none
section
variable {k : Kx} {w0 w w' : Wd} {qs : List Addr} {xss : List (List Int)}
theorem IL.up (h : IL k w0 w qs xss) (e : Le k w w') : IL k w0 w' qs xss := ⟨h.nd, h.len, fun i q hq => by
  obtain ⟨h1, h2, h3, h4⟩ := h.each i q hq
  exact ⟨e.keep q _ h1 (fun _ z => nomatch z) h3, e.new q h2 (by rw [h1]; exact fun z => nomatch z), h3, h4⟩⟩
theorem IL.put (h : IL k w0 w qs xss) {m : Nat} {q : Addr} (hq : qs[m]? = some q) (x : Int) : IL k w0 ⟨w.S, upd w.H q (.lst ((xss.getD m []).map V.int ++ [.int x])), w.j⟩ qs (xss.set m (xss.getD m [] ++ [x])) := by
  have hm : m < xss.length := by
    have := (List.getElem?_eq_some_iff.mp hq).1
    rwa [h.len] at this
  refine ⟨h.nd, by rw [List.length_set]; exact h.len, fun i p hp => ?_⟩
  obtain ⟨h1, h2, h3, h4⟩ := h.each i p hp
  by_cases e : m = i
  · subst e
    rw [hq] at hp
    have ep := Option.some.inj hp
    subst ep
    refine ⟨?_, h2, h3, h4⟩
    show upd w.H q _ q = _
    rw [upd_same, List.getD_eq_getElem?_getD (l := xss.set _ _), List.getElem?_set_self hm]
    show some (HO.lst _) = some (HO.lst ((xss.getD m [] ++ [x]).map V.int))
    rw [List.map_append]
    rfl
  · have hne : p ≠ q := fun z => by
      subst z
      rcases Nat.lt_or_gt_of_ne e with g | g
      · exact absurd rfl ((List.pairwise_iff_getElem.mp h.nd) m i (List.getElem?_eq_some_iff.mp hq).1 (List.getElem?_eq_some_iff.mp hp).1 g |> fun f => by
          rw [(List.getElem?_eq_some_iff.mp hq).2, (List.getElem?_eq_some_iff.mp hp).2] at f
          exact f)
      · exact absurd rfl ((List.pairwise_iff_getElem.mp h.nd) i m (List.getElem?_eq_some_iff.mp hp).1 (List.getElem?_eq_some_iff.mp hq).1 g |> fun f => by
          rw [(List.getElem?_eq_some_iff.mp hq).2, (List.getElem?_eq_some_iff.mp hp).2] at f
          exact f)
    refine ⟨?_, h2, h3, h4⟩
    show upd w.H q _ p = _
    rw [upd_ne hne, h1, List.getD_eq_getElem?_getD (l := xss.set _ _), List.getElem?_set_ne e, ← List.getD_eq_getElem?_getD]
/-- all of them stay from here on -/
theorem IL.freeze (h : IL k w0 w qs xss) (g : Good k w) (e : Le k w0 w) : ∃ w', w'.H = w.H ∧ w'.j = w.j ∧ Good k w' ∧ Le k w0 w' ∧ Sub w.S w'.S ∧ (∀ i q, qs[i]? = some q → w'.S q = some (.lst ((xss.getD i []).map V.int))) ∧ ∀ a, a ∉ qs → w'.S a = w.S a := by
  suffices hh : ∀ n, n ≤ qs.length → ∃ w', w'.H = w.H ∧ w'.j = w.j ∧ Good k w' ∧ Le k w0 w' ∧ Sub w.S w'.S ∧ (∀ i q, i < n → qs[i]? = some q → w'.S q = some (.lst ((xss.getD i []).map V.int))) ∧ ∀ a, a ∉ qs.take n → w'.S a = w.S a by
    obtain ⟨w', h1, h2, h3, h4, h5, h6, h7⟩ := hh qs.length (Nat.le_refl _)
    exact ⟨w', h1, h2, h3, h4, h5, fun i q hq => h6 i q (List.getElem?_eq_some_iff.mp hq).1 hq, fun a ha => h7 a (by rw [List.take_length]; exact ha)⟩
  intro n
  induction n with
  | zero => exact fun _ => ⟨w, rfl, rfl, g, e, Sub.refl _, fun i q hi => absurd hi (Nat.not_lt_zero _), fun a _ => rfl⟩
  | succ n ih =>
    intro hn
    obtain ⟨w1, h1, h2, h3, h4, h5, h6, h7⟩ := ih (by omega)
    have hq := List.getElem?_eq_getElem (l := qs) (i := n) (by omega)
    generalize qs[n] = q at hq
    obtain ⟨e1, e2, e3, e4⟩ := h.each n q hq
    have hnt : q ∉ qs.take n := fun z => by
      obtain ⟨i, hi⟩ := List.getElem?_of_mem z
      rw [List.getElem?_take] at hi
      split at hi
      · rename_i hlt
        have f := (List.pairwise_iff_getElem.mp h.nd) i n (List.getElem?_eq_some_iff.mp hi).1 (List.getElem?_eq_some_iff.mp hq).1 hlt
        rw [(List.getElem?_eq_some_iff.mp hq).2, (List.getElem?_eq_some_iff.mp hi).2] at f
        exact f rfl
      · cases hi
    have hs1 : w1.S q = none := by rw [h7 q hnt]; exact e2
    obtain ⟨g2, l2⟩ := h3.frz h4 e4 (o := .lst ((xss.getD n []).map V.int)) (by rw [h1]; exact e1) hs1 e3 (fun _ z => nomatch z)
    refine ⟨⟨upd w1.S q (.lst ((xss.getD n []).map V.int)), w1.H, w1.j⟩, h1, h2, g2, l2, h5.trans (sub_new hs1), fun i p hi hp => ?_, fun a ha => ?_⟩
    · by_cases e : i = n
      · subst e
        rw [hq] at hp
        rw [← Option.some.inj hp]
        exact upd_same
      · have := h6 i p (by omega) hp
        show upd w1.S q _ p = _
        rw [upd_ne (ne_of_none this hs1)]
        exact this
    · have e5 : qs.take (n + 1) = qs.take n ++ [q] := by rw [List.take_add_one, hq]; rfl
      rw [e5] at ha
      show upd w1.S q _ a = _
      rw [upd_ne (fun z => ha (by rw [z]; exact List.mem_append_right _ List.mem_cons_self))]
      exact h7 a fun z => ha (List.mem_append_left _ z)
end
/-! ### statements while they change -/
structure PoW (K : PySem.W.Frag) : Type 1 where
  nx : List (Slot K) → List (List Int) → Prop
  bk : List (Slot K) → List (List Int) → Prop
  rt : List (List Int) → Prop
structure LandsW (K : PySem.W.Frag) (k : Kx) (w0 : Wd) (S : Hp) (qs : List Addr) (j : Int × Int) (P : PoW K) (D : Ends) : Prop where
  nx : ∀ Γ σ w xss, At K k w0 Γ σ w j → IL k w0 w qs xss → Sub S w.S → P.nx Γ xss → D.nx σ w.H
  bk : ∀ Γ σ w xss, At K k w0 Γ σ w j → IL k w0 w qs xss → Sub S w.S → P.bk Γ xss → D.bk σ w.H
  rt : ∀ w p xss, Good k w → Le k w0 w → w.j = j → w.H p = some (.lst (qs.map V.ref)) → w.S p = none → w0.H p = none → p ∉ qs → IL k w0 w qs xss → P.rt xss → D.rt (.ref p) w.H
theorem LandsW.up {K : PySem.W.Frag} {k : Kx} {w0 : Wd} {S S' : Hp} {qs : List Addr} {j : Int × Int} {P : PoW K} {D : Ends} (h : LandsW K k w0 S qs j P D) (e : Sub S S') : LandsW K k w0 S' qs j P D :=
  ⟨fun Γ σ w xss a i s => h.nx Γ σ w xss a i (e.trans s), fun Γ σ w xss a i s => h.bk Γ σ w xss a i (e.trans s), h.rt⟩
theorem adr_ne {k : Kx} {w0 w : Wd} {qs : List Addr} {xss : List (List Int)} {p : Addr} (il : IL k w0 w qs xss) (hp : w.H p = some (.lst (qs.map V.ref))) : p ∉ qs := fun z => by
  obtain ⟨i, hi⟩ := List.getElem?_of_mem z
  have f1 := (il.each i p hi).1
  rw [hp] at f1
  have ev : qs.map V.ref = (xss.getD i []).map V.int := by
    have := Option.some.inj f1
    injection this
  cases hqs : qs with
  | nil =>
    rw [hqs] at hi
    simp at hi
  | cons q' qs' =>
    rw [hqs] at ev
    cases hx : xss.getD i [] with
    | nil =>
      rw [hx] at ev
      cases ev
    | cons y ys =>
      rw [hx] at ev
      have := (List.cons.inj ev).1
      cases this
theorem rows_get {K : PySem.W.Frag} {α : Type} {A : RT K α} {S : Hp} : ∀ {vs : List V} {xs : List α}, vs.length = xs.length → (∀ (i : Nat) (v : V) (x : α), vs[i]? = some v → xs[i]? = some x → A.r S v x) → Rows A S vs xs
  | [], [], _, _ => trivial
  | v :: vs, x :: xs, hl, h => ⟨h 0 v x rfl rfl, rows_get (by simpa using hl) fun i v x h1 h2 => h (i + 1) v x (by simpa using h1) (by simpa using h2)⟩
  | [], _ :: _, hl, _ => by simp at hl
  | _ :: _, [], hl, _ => by simp at hl
theorem IL.rows {K : PySem.W.Frag} {k : Kx} {w0 w : Wd} {qs : List Addr} {xss : List (List Int)} {S : Hp} (h : IL k w0 w qs xss) (hs : ∀ i q, qs[i]? = some q → S q = some (.lst ((xss.getD i []).map V.int))) : Rows (rLst (rInt (K := K))) S (qs.map V.ref) xss := by
  refine rows_get (by rw [List.length_map, h.len]) fun i v x h1 h2 => ?_
  rw [List.getElem?_map] at h1
  cases hq : qs[i]? with
  | none =>
    rw [hq] at h1
    cases h1
  | some q =>
    rw [hq] at h1
    have e1 : V.ref q = v := Option.some.inj h1
    have e2 := hs i q hq
    rw [List.getD_eq_getElem?_getD, h2] at e2
    exact ⟨q, x.map V.int, e1.symm, .inl (.inl e2), Rows.ofI x⟩
def HW (X : Cx) (k : Kx) (w0 : Wd) (qs : List Addr) (j : Int × Int) (Γ : List (Slot X.K)) (xss : List (List Int)) (ss : List Stmt) (P : PoW X.K) : Prop :=
  ∀ σ w, At X.K k w0 Γ σ w j → IL k w0 w qs xss → ∀ D, LandsW X.K k w0 w.S qs j P D → WB X ss D σ w.H
section
variable {X : Cx} {k : Kx} {w0 : Wd} {qs : List Addr} {Γ : List (Slot X.K)} {j : Int × Int} {xss : List (List Int)} {e a b c tg iter : Expr} {α : Type} {A : RT X.K α} {xs : List α} {P : PoW X.K} {rest body sa sb : List Stmt} {pos p2 p3 p4 p5 : Pos}
theorem hw_nil (h : P.nx Γ xss) : HW X k w0 qs j Γ xss [] P := fun σ w a i D l => WB.of pss_nil (l.nx Γ σ w xss a i (Sub.refl _) h)
theorem hw_brk (h : P.bk Γ xss) : HW X k w0 qs j Γ xss (.Break pos :: rest) P := fun σ w a i D l => WB.cons (W1.of ps_break (l.bk Γ σ w xss a i (Sub.refl _) h))
theorem hw_if {u : Bool} (hc : EvT X k w0 Γ j c u j) (ha : u = true → HW X k w0 qs j Γ xss sa { P with nx := fun Γ xss => HW X k w0 qs j Γ xss rest P }) (hb : u = false → HW X k w0 qs j Γ xss sb { P with nx := fun Γ xss => HW X k w0 qs j Γ xss rest P }) : HW X k w0 qs j Γ xss (.If c sa sb pos :: rest) P := fun σ w at0 il D l => WB.cons (W1.of (ps_if pt_self pss_self pss_self) (hc σ w at0 _ fun w1 a1 e1 => by
  have ll : LandsW X.K k w0 w1.S qs j { P with nx := fun Γ xss => HW X k w0 qs j Γ xss rest P } { D with nx := fun σ' H' => WB X rest D σ' H' } :=
    ⟨fun Γ' σ' w' xss' a' i' s' q => q σ' w' a' i' D (l.up (e1.sub.trans s')), fun Γ' σ' w' xss' a' i' s' q => l.bk Γ' σ' w' xss' a' i' (e1.sub.trans s') q, l.rt⟩
  cases u with
  | true => exact ha rfl σ w1 a1 (il.up e1) _ ll
  | false => exact hb rfl σ w1 a1 (il.up e1) _ ll))
theorem hw_for (ok : CxOk X) {bind : α → List (Slot X.K) → List (Slot X.K)} (I : Nat → List (Slot X.K) → List (List Int) → Prop) (hsrc : Src true X k w0 Γ j tg iter A xs j) (htg : Tgt X tg A bind) (h0 : I 0 Γ xss)
    (hb : ∀ i x Γ' xss', xs[i]? = some x → I i Γ' xss' → HW X k w0 qs j (bind x Γ') xss' body { nx := I (i + 1), bk := fun Γ2 xss2 => HW X k w0 qs j Γ2 xss2 rest P, rt := P.rt })
    (he : ∀ Γ' xss', I xs.length Γ' xss' → HW X k w0 qs j Γ' xss' rest P) (hs : ∀ x, foldedSetIterable iter X.env x = pure x := by intro _; rfl) : HW X k w0 qs j Γ xss (.For tg iter body [] pos :: rest) P := fun σ w at0 il D l => by
  obtain ⟨wi, hwi, src⟩ := hsrc
  obtain ⟨g, hg, htg⟩ := htg
  refine WB.cons (W1.of (ps_for ok.own ok.calm hwi hg pss_self hs) ?_)
  refine src σ w at0 _ fun J w1 G Y a1 e1 wk hG hY => ?_
  refine for_it wk (fun i σ H => ∃ w2 Γ' xss', w2.H = H ∧ At X.K k w0 Γ' σ w2 j ∧ IL k w0 w2 qs xss' ∧ Sub w1.S w2.S ∧ I i Γ' xss') ⟨w1, Γ, xss, rfl, a1, il.up e1, Sub.refl _, h0⟩ ?_ ?_ ?_
  · rintro i σ' H hi ⟨w2, Γ', xss', rfl, a2, i2, s2, _⟩
    exact hG w2 s2 a2.good a2.le
  · rintro i v σ' H H' hi ⟨w2, Γ', xss', rfl, a2, i2, s2, hI⟩ hy
    obtain ⟨w3, rfl, e3, g3, j3, x, hx, rx⟩ := hY i w2 v H' hi s2 a2.good hy
    have a3 := a2.up e3 g3 (j3.trans a2.jar)
    refine htg k w0 Γ' j σ' w3 v x a3 rx _ fun σ2 a4 => ?_
    exact hb i x Γ' xss' hx hI σ2 w3 a4 (i2.up e3) _ ⟨fun Γ2 σ3 w4 xss4 a5 i5 s5 q => ⟨w4, Γ2, xss4, rfl, a5, i5, (s2.trans e3.sub).trans s5, q⟩, fun Γ2 σ3 w4 xss4 a5 i5 s5 q => q σ3 w4 a5 i5 D (l.up (((e1.sub.trans s2).trans e3.sub).trans s5)), l.rt⟩
  · rintro σ' H ⟨w2, Γ', xss', rfl, a2, i2, s2, hI⟩
    exact he Γ' xss' hI σ' w2 a2 i2 D (l.up (e1.sub.trans s2))
/-- x[m].append(e), x the outer list -/
theorem hw_app (i : Nat) {n : Str} {m x : Int} (hΓ : Γ[i]? = some (.mu rAdr qs)) (hN : X.N[i]? = some n) (hv : Vis X.env.scope n) (hnm : ∀ (m : Nat) (s : Slot X.K), Γ[m]? = some s → s.isMu = true → m = i) (hm : EvD X k w0 Γ j b rInt m j) (h : EvD X k w0 Γ j e rInt x j) (m0 : 0 ≤ m) (m1 : m < ((xss.length : Nat) : Int)) (hz : (xss.getD m.toNat []).length + 1 ≤ 100000)
    (hr : HW X k w0 qs j Γ (xss.set m.toNat (xss.getD m.toNat [] ++ [x])) rest P) (hpi : PlainIx b := by exact fun _ _ => rfl)
    (hd : (n == ("__debug__" : Str)) = false := by decide) (hcd : (n == ("__classdict__" : Str)) = false := by decide) (hs : starEach [e] X.env = (false, eval e X.env) :: starEach [] X.env := by rfl)
    (hbase : attributeBase (.Subscript (.Name n p2) b p5) "append" X.env (eval (.Subscript (.Name n p2) b p5) X.env) = eval (.Subscript (.Name n p2) b p5) X.env := by rfl)
    (hfew : ((backTo p4 (starEach [e] X.env)).all (fun x => !x.1) && (backToKw p4 (keywordEach [] X.env)).all (fun x => x.1.isSome)
      && decide (([e] : List Expr).length + ([] : List Keyword).length + (if ([] : List Keyword).isEmpty then 0 else 1) < 30)) = true := by rfl) (hline : (p3.endLine == p4.line) = true := by rfl) (hpl : (backTo p4 (starEach [] X.env)).any (·.1) = false := by rfl)
    (hsw : swapsWith (.Call (.Attribute (.Subscript (.Name n p2) b p5) "append" p3) [e] [] p4) none pos.line X.env = pure false := by rfl) : HW X k w0 qs j Γ xss (.Expr (.Call (.Attribute (.Subscript (.Name n p2) b p5) "append" p3) [e] [] p4) pos :: rest) P := fun σ w at0 il D l => by
  have hl := il.len
  obtain ⟨q, hq⟩ : ∃ q, qs[m.toNat]? = some q := ⟨_, List.getElem?_eq_getElem (by omega)⟩
  refine WB.cons (W1.of (ps_expr (pe_bm PySem.F.plainAttrs_list PySem.F.slot_list_append PySem.F.type_list_append mt_append pe_self (pa_cons pe_self pa_nil hs) hbase hfew hline hs hpl) hsw) ?_)
  refine d_ixB (b_mu i hΓ hN hv hd hcd) hm m0 hq hpi σ w at0 _ fun v0 w1 a1 e1 r1 => ?_
  have i1 := il.up e1
  obtain ⟨q1, q2, q3, q4⟩ := i1.each _ _ hq
  have r1 : v0 = .ref q := r1
  subst r1
  refine ⟨ty_list (.inl (.inl q1)), h σ w1 a1 _ fun v w2 a2 e2 r2 => ?_⟩
  have r2 : v = .int x := r2
  subst r2
  have i2 := i1.up e2
  obtain ⟨f1, f2, f3, f4⟩ := i2.each _ _ hq
  refine ⟨q, _, _, rfl, rfl, f1, lt_line (by rw [List.length_map]; exact hz), ?_⟩
  have hne : ∀ (m : Nat) (s : Slot X.K), Γ[m]? = some s → s.isMu = true → σ[m]? ≠ some (some (.ref q)) := fun m' s hs' hmu z => by
    have em := hnm m' s hs' hmu
    subst em
    obtain ⟨vs, g1, g2⟩ := a2.ownAt hΓ z
    rw [adr_rows g2] at g1
    exact adr_ne i2 g1 (mem_of_get hq)
  have a3 := a2.hid (vs' := (xss.getD m.toNat []).map V.int ++ [.int x]) f1 f2 f3 f4 hne
  exact hr σ _ a3 (i2.put hq x) D (l.up (e1.trans e2).sub)
/-- return x -/
theorem hw_ret (i : Nat) {n : Str} (hΓ : Γ[i]? = some (.mu rAdr qs)) (hN : X.N[i]? = some n) (hv : Vis X.env.scope n) (hp : P.rt xss) (hd : (n == ("__debug__" : Str)) = false := by decide) (hcd : (n == ("__classdict__" : Str)) = false := by decide) : HW X k w0 qs j Γ xss (.Return (some (.Name n p2)) pos :: rest) P := fun σ w at0 il D l =>
  WB.cons (W1.of (ps_ret (pe_var hN hv hd hcd)) (by
    obtain ⟨o, h1, p, vs, h2, h3, h4, h5, h6, h7⟩ := at0.env.at_ i _ hΓ
    rw [h2] at h1
    rw [adr_rows h4] at h3
    exact ⟨_, h1, l.rt w p xss at0.good at0.le at0.jar h3 h5 h7 (adr_ne il h3) il hp⟩))
/-- [[] for .. in ..] -/
theorem nl_lc {scope : Scope} {own : List (Str × Nat)} {bind : α → List (Slot X.K) → List (Slot X.K)} (hc : X.calm = true) (hN : X.N.Nodup) (ok : BlkOk X.N X.env.scope scope own) (hsrc : Src false X k w0 Γ j tg iter A xs j) (htg : TgtC X scope (own.map (·.2)) tg A bind) (hz : xs.length ≤ 100000) (hs : ∀ x, foldedSetIterable iter X.env x = pure x := by intro _; rfl) :
    ∀ σ w, At X.K k w0 Γ σ w j → ∀ Q : VK, (∀ p qs w', At X.K k w0 Γ σ w' j → Le k w w' → w'.H p = some (.lst (qs.map V.ref)) → w'.S p = none → w.H p = none → p ∉ qs → IL k w w' qs (List.replicate xs.length []) → Q (.ref p) w'.H) → WE X (.ListComp (.List [] p2) [⟨tg, iter, [], 0⟩] scope pos) σ w.H Q := fun σ w at0 Q q => by
  obtain ⟨wi, hwi, src⟩ := hsrc
  obtain ⟨g, hg, htgt⟩ := htg
  refine WE.of (pe_lc hc hN hwi ok hg bt_pts0 (be_pe (e := .List [] p2)) hs) ?_
  refine src σ w at0 _ fun J w1 G Y a1 e1 wk hG hY D hD => ?_
  have hDS := a1.good.non hD
  have hDj := a1.good.njp hD
  have hD0 := a1.le.fresh hD
  obtain ⟨g2, l2⟩ := a1.good.newH (o := .lst []) hD
  have aw := a1.wipe (own.map (·.2))
  have nm := aw.noMu hD
  refine lc_it wk (Qd := fun H => Q (.ref D) H) (fun i H => ∃ w2 qs, w2.H = H ∧ At X.K k w0 (wipeG Γ (own.map (·.2))) (L2.wipe σ (own.map (·.2))) w2 j ∧ Le k w1 w2 ∧ w2.H D = some (.lst (qs.map V.ref)) ∧ w2.S D = none ∧ D ∉ qs ∧ qs.length = i ∧ IL k w w2 qs (List.replicate i [])) ?_ ?_ ?_ ?_
  · exact ⟨⟨w1.S, upd w1.H D (.lst []), w1.j⟩, [], rfl, aw.up l2 g2 a1.jar, l2, upd_same, hDS, by simp, rfl, ⟨.nil, rfl, fun i q hq => by simp at hq⟩⟩
  · rintro i H hi ⟨w2, us, rfl, a2, e2, _⟩
    exact hG w2 e2.sub a2.good e2
  · rintro i v H H' hi ⟨w2, us, rfl, a2, e2, hus, sD, nD, lu, il⟩ hy
    obtain ⟨w3, rfl, e3, g3, j3, x, hx, rx⟩ := hY i w2 v H' hi e2.sub a2.good hy
    have a3 := a2.up e3 g3 (j3.trans a2.jar)
    refine htgt k w0 _ j _ w3 v x a3 rx _ fun σ' a4 hw4 => ⟨hw4.trans wipe_wipe, ?_⟩
    show BE X scope (.List [] p2) σ' w3.H _
    intro s H0 C cl fp
    refine (m_lst (X := X.blk s H0 scope (compEnvC scope cl C X.env) fp) (A := rInt) (xs := []) r_nil (Nat.zero_le _)) σ' w3 a4 _ fun p' vs w6 a6 e6 hp rp sp fp => ?_
    have evs : vs = [] := List.eq_nil_of_length_eq_zero rp.len
    subst evs
    have hD3 : w3.H D = some (.lst (us.map V.ref)) := e3.keep D _ hus (fun _ z => nomatch z) hDj
    have hD6 : w6.H D = some (.lst (us.map V.ref)) := e6.keep D _ hD3 (fun _ z => nomatch z) hDj
    have hS3 : w3.S D = none := e3.new D sD (by rw [hus]; exact fun z => nomatch z)
    have hS6 : w6.S D = none := e6.new D hS3 (by rw [hD3]; exact fun z => nomatch z)
    have hDp : D ≠ p' := fun z => by
      rw [← z, hD3] at fp
      cases fp
    have i6 := (il.up e3).up e6
    have hpu : p' ∉ us := fun z => by
      obtain ⟨m, hm⟩ := List.getElem?_of_mem z
      have := ((il.up e3).each m p' hm).1
      rw [this] at fp
      cases fp
    have e36 := (e1.trans e2).trans e3
    have hlt : us.length < sizeLine := by
      have hsz : us.length + 1 ≤ 100000 := by omega
      have := Evl.sz_of (n := us.length + 1) hsz
      omega
    refine ⟨us.map V.ref, hD6, by rw [List.length_map]; exact hlt, ?_⟩
    have a5 := a3.up e6 a6.good a6.jar
    have a7 := a5.hid (vs' := us.map V.ref ++ [.ref p']) hD6 hS6 hDj hD0 nm
    refine ⟨⟨w6.S, upd w6.H D (.lst (us.map V.ref ++ [.ref p'])), w6.j⟩, us ++ [p'], rfl, a7, ((e2.trans e3).trans e6).hid hD hS6, ?_, hS6, ?_, by rw [List.length_append, lu]; rfl, ?_⟩
    · show upd w6.H D _ D = _
      rw [upd_same, List.map_append]
      rfl
    · intro z
      rcases List.mem_append.mp z with z | z
      · exact nD z
      · exact hDp (List.mem_singleton.mp z)
    · refine ⟨List.nodup_append.mpr ⟨il.nd, by simp, fun a ha b hb e => ?_⟩, by rw [List.length_append, List.length_replicate, lu]; rfl, fun m r hr => ?_⟩
      · rw [List.mem_singleton.mp hb] at e
        exact hpu (by rw [← e]; exact ha)
      · have hget : ∀ (y : Nat), (List.replicate (i + 1) ([] : List Int)).getD y [] = [] := fun y => by
          rw [List.getD_eq_getElem?_getD, List.getElem?_replicate]
          split <;> rfl
        rw [hget]
        have hne : r ≠ D := fun z => by
          rcases List.mem_append.mp (mem_of_get hr) with z2 | z2
          · exact nD (by rw [← z]; exact z2)
          · exact hDp (by rw [← z]; exact List.mem_singleton.mp z2)
        show upd w6.H D _ r = some (.lst []) ∧ _
        rw [upd_ne hne]
        by_cases hm : m < us.length
        · rw [List.getElem?_append_left hm] at hr
          obtain ⟨b1, b2, b3, b4⟩ := i6.each m r hr
          have hget2 : (List.replicate i ([] : List Int)).getD m [] = [] := by
            rw [List.getD_eq_getElem?_getD, List.getElem?_replicate]
            split <;> rfl
          rw [hget2] at b1
          exact ⟨b1, b2, b3, b4⟩
        · rw [List.getElem?_append_right (by omega)] at hr
          have hr2 : r = p' := by
            cases hq : m - us.length with
            | zero =>
              rw [hq] at hr
              exact (Option.some.inj hr).symm
            | succ y =>
              rw [hq] at hr
              simp at hr
          subst hr2
          exact ⟨hp, sp, a3.good.njp fp, e36.fresh fp⟩
  · rintro H ⟨w2, us, rfl, a2, e2, hus, sD, nD, lu, il⟩
    have e12 := e1.trans e2
    exact q D us w2 (at0.up e12 a2.good a2.jar) e12 hus sD (e1.fresh hD) nD il
end
end Fm
set_option maxHeartbeats 1000000
/-! W33: the law's own tree, walked. -/
namespace Fm
open PySem PySem.Spec PyProof.Rows L2
open PySem.W (alike alikeAll dataLt Sortable)
section
variable {Pg : Program} {w : World} {K : PySem.W.Frag} {mg : Str → Option Value} {base : Heap} {fa : Addr} {fd : FuncData} {T : Tbs} {lev : Nat}
abbrev S77 {K : PySem.W.Frag} (T : Tbs) : Sp := SpD (K := K) T (fun i : List Int × List Int => [.im rSpn i.1, .im rSpn i.2]) (fun i _ => i.1.length ≤ 1000) rBl (fun i j => (liesB i.1 i.2, j))
theorem treeK_row {sp : List (List Int)} (hl : sp.length ≤ 40) (m : Nat) (hm : m ≤ 40) (j : Nat) : ((treeK sp m).getD j []).length ≤ 40 := by
  by_cases hj : j < sp.length
  · have := treeK_get sp (j := ((j : Nat) : Int)) ⟨by omega, by omega⟩ m
    rw [Int.toNat_natCast] at this
    rw [this]
    refine Nat.le_trans (List.length_filter_le _ _) ?_
    rw [rangeI_len]
    omega
  · rw [List.getD_eq_getElem?_getD, List.getElem?_eq_none (by rw [treeK_len]; omega)]
    exact Nat.zero_le _
theorem ok78 (hblt : ∀ n ∈ bltNames, mg n = none) (h77 : Has Pg w K mg base lev "_law_within" ["one", "two"] (S77 (K := K) T)) (F : FnP K "_law_tree" (top 78) fa fd) : FnG Pg w K mg base (lev + 1) fa fd ["nest"] (S78 (K := K) T) := by
  refine def_okM F (N := ["nest", "spans", "found", "i", "j", "span"]) ⟨rfl, rfl, rfl, by decide +kernel, rfl, by decide +kernel, by decide +kernel⟩ (fun _ => rfl) (by decide) hblt fun cdv Ar outer s0 H E hcd ok hr i k w0 j ht h => ?_
  obtain ⟨n, sp⟩ := i
  have h : NestK n sp := h
  have hl := h.len
  have hz : sp.length ≤ 100000 := by omega
  refine fun σ w a D l => ?_
  refine WB.cons (W1.of (ps_par (i := 1) (j := 2) ok.calm ok.nd rfl rfl (by decide) rfl rfl (pa_cons pe_self (pa_cons pe_self pa_nil rfl) rfl) (by with_unfolding_all rfl) rfl) ?_)
  refine (d_snd (x := n) (A := rInt) (B := rSps) (y := sp) (dv 0)) σ w a _ fun v1 w1 a1 e1 r1 => ?_
  refine nl_lc rfl ok.nd (own := [("span", 5)]) (blk_at ["nest", "spans", "found", "i", "j", "span"] (defScope (top 78)) ⟨rfl, by decide +kernel, by decide +kernel, by decide +kernel, by decide +kernel⟩) (A := rSpn) (xs := sp) (f_tup (d_snd (x := n) (A := rInt) (B := rSps) (dv 0))) (tc_name 5 ok.nd rfl rfl) hz (fun _ => rfl) σ w1 a1 _ fun p qs w2 a2 e2 hp hsp hf hnp il => ?_
  refine ⟨v1, .ref p, rfl, ?_⟩
  have a3 := a2.set 1 (A := rSps) (x := sp) (rSps.up e2.sub r1)
  have hw1 : w0.H p = none := a1.le.fresh hf
  have nm : ∀ (m : Nat) (s : Slot K), ([.im rBk (n, sp), .im rSps sp, .un, .un, .un, .un] : List (Slot K))[m]? = some s → s.isMu = false := by
    intro m s hs
    match m, hs with
    | 0, hs => rw [← Option.some.inj hs]; rfl
    | 1, hs => rw [← Option.some.inj hs]; rfl
    | 2, hs => rw [← Option.some.inj hs]; rfl
    | 3, hs => rw [← Option.some.inj hs]; rfl
    | 4, hs => rw [← Option.some.inj hs]; rfl
    | 5, hs => rw [← Option.some.inj hs]; rfl
    | m + 6, hs => cases hs
  have a4 := a3.setM 2 (A := rAdr) (xs := qs) hp (rows_adr qs) hsp (a1.good.njp hf) hw1 (fun m s hs hmu => by
    exact Bool.noConfusion (hmu.symm.trans (nm m s hs)))
  have il0 : IL k w0 w2 qs (treeK sp 0) := ⟨il.nd, il.len, fun i q hq => ⟨(il.each i q hq).1, (il.each i q hq).2.1, (il.each i q hq).2.2.1, a1.le.fresh (il.each i q hq).2.2.2⟩⟩
  refine (?_ : HW (DX Pg _ K mg base ["nest", "spans", "found", "i", "j", "span"] "_law_tree" (defScope (top 78)) fa cdv Ar outer s0 H E) k w0 qs j [.im rBk (n, sp), .im rSps sp, .mu rAdr qs, .un, .un, .un] (treeK sp 0) _ { nx := fun _ _ => False, bk := fun _ _ => False, rt := fun xss => xss = treeI sp }) _ w2 a4 il0 D ⟨fun _ _ _ _ _ _ _ z => z.elim, fun _ _ _ _ _ _ _ z => z.elim, fun w3 q xss g3 l3 j3 hq1 hq2 hq3 hq4 i3 z => ?_⟩
  · have nmu : ∀ (x : Slot K) (y z : Slot K), x.isMu = false → y.isMu = false → z.isMu = false → ∀ (m : Nat) (s : Slot K), ([.im rBk (n, sp), .im rSps sp, .mu rAdr qs, x, y, z] : List (Slot K))[m]? = some s → s.isMu = true → m = 2 := by
      intro x y z hx hy hz m s hs hm
      match m, hs with
      | 0, hs => rw [← Option.some.inj hs] at hm; cases hm
      | 1, hs => rw [← Option.some.inj hs] at hm; cases hm
      | 2, hs => rfl
      | 3, hs => rw [← Option.some.inj hs, hx] at hm; cases hm
      | 4, hs => rw [← Option.some.inj hs, hy] at hm; cases hm
      | 5, hs => rw [← Option.some.inj hs, hz] at hm; cases hm
      | m + 6, hs => cases hs
    refine hw_for ok (fun m Γ' xss => ∃ x y z, x.isMu = false ∧ y.isMu = false ∧ z.isMu = false ∧ Γ' = [.im rBk (n, sp), .im rSps sp, .mu rAdr qs, x, y, z] ∧ xss = treeK sp m) (rg1 ok (m := ((sp.length : Nat) : Int)) (d_lenT ok (dv 1)) (by omega)) (tg_name 3 ok.nd rfl (.inl rfl)) ⟨.un, .un, .un, rfl, rfl, rfl, rfl, rfl⟩ (fun m x Γ' xss hx ⟨x1, y1, z1, hx1, hy1, hz1, e1, e2⟩ => ?_) fun Γ' xss ⟨x1, y1, z1, hx1, hy1, hz1, e1, e2⟩ => ?_
    · subst e1 e2
      have hm : m < sp.length := by
        have := (List.getElem?_eq_some_iff.mp hx).1
        rwa [rangeI_len, Int.sub_zero, Int.toNat_natCast] at this
      rw [rangeI_get (by omega)] at hx
      have ex : 0 + ((m : Nat) : Int) = x := Option.some.inj hx
      have ex' : ((m : Nat) : Int) = x := by omega
      subst ex'
      have hi : InR sp ((m : Nat) : Int) := ⟨by omega, by omega⟩
      have hsl : lenI sp ((m : Nat) : Int) ≤ 16 := (h.l16 _ hi.1 hi.2).2
      refine hw_for ok (fun t Γ' xss => ∃ y z, y.isMu = false ∧ z.isMu = false ∧ Γ' = [.im rBk (n, sp), .im rSps sp, .mu rAdr qs, .im rInt ((m : Nat) : Int), y, z] ∧ xss = treeK sp m ∧ ((rangeI (((m : Nat) : Int) + 1) ((sp.length : Nat) : Int)).take t).find? (fun j => liesB (spn sp ((m : Nat) : Int)) (spn sp j)) = none) (rg2 ok (l := ((m : Nat) : Int) + 1) (m := ((sp.length : Nat) : Int)) (d_add (dv 3) d_int) (d_lenT ok (dv 1)) (by omega)) (tg_name 4 ok.nd rfl (.inl rfl)) ⟨y1, z1, hy1, hz1, rfl, rfl, rfl⟩ (fun t y Γ' xss hy ⟨y2, z2, hy2, hz2, e1, e2, e3⟩ => ?_) fun Γ' xss ⟨y2, z2, hy2, hz2, e1, e2, e3⟩ => ?_
      · subst e1 e2
        have hyr := mem_rangeI.mp (mem_of_get hy)
        have hj : InR sp y := ⟨by omega, hyr.2⟩
        refine hw_if (u := liesB (spn sp ((m : Nat) : Int)) (spn sp y)) (t_of (d_call h77 hr ok.gd (spn sp ((m : Nat) : Int), spn sp y) (by show (spn sp ((m : Nat) : Int)).length ≤ 1000; exact Nat.le_trans hsl (by decide)) ht (a_im (d_ixT (dv 1) (dv 3) hi.1 (inr_get hi)) (a_im (d_ixT (dv 1) (dv 4) hj.1 (inr_get hj)) a_nil)))) (fun hu => ?_) fun hu => ?_
        · have hup : upI sp ((m : Nat) : Int) = some y := find_none hy e3 hu
          refine hw_app 2 rfl rfl (.inl rfl) (nmu _ _ _ rfl rfl hz2) (dv 4) (dv 3) hj.1 (by rw [treeK_len]; exact hj.2) (by have := treeK_row hl m (by omega) y.toNat; omega) ?_
          refine hw_brk (hw_nil ⟨_, _, _, rfl, rfl, hz2, rfl, ?_⟩)
          show _ = stepT sp (treeK sp m) ((m : Nat) : Int)
          unfold stepT
          rw [hup]
          rfl
        · refine hw_nil (hw_nil ⟨_, _, rfl, hz2, rfl, rfl, ?_⟩)
          rw [List.take_add_one, hy, List.find?_append, e3]
          show (none : Option Int).or (List.find? _ [y]) = none
          rw [List.find?_cons_of_neg (by rw [hu]; decide)]
          rfl
      · subst e1 e2
        rw [List.take_length] at e3
        refine hw_nil ⟨_, _, _, rfl, hy2, hz2, rfl, ?_⟩
        show _ = stepT sp (treeK sp m) ((m : Nat) : Int)
        unfold stepT
        have hup : upI sp ((m : Nat) : Int) = none := e3
        rw [hup]
    · subst e1 e2
      refine hw_ret 2 rfl rfl (.inl rfl) ?_
      rw [rangeI_len, Int.sub_zero, Int.toNat_natCast]
      exact treeK_is h.toNest
  · subst z
    obtain ⟨w', f1, f2, f3, f4, f5, f6, f7⟩ := i3.freeze g3 l3
    have := l.rt (.ref q) w' (treeI sp) f3 f4 ⟨q, _, rfl, by rw [f1]; exact hq1, i3.rows f6, by rw [f7 q hq4]; exact hq2, hq3⟩ ⟨rfl, by rw [f2]; exact j3⟩
    rw [f1] at this
    exact this
end
end Fm
set_option maxHeartbeats 2000000
/-! Fm15: sorted(dict of tuples, key=lambda x: (len(x), x)). -/
namespace Fm
open PySem PySem.Spec PyProof.Rows L2
/-! ### the lambda called -/
section
variable {prog : Program} {w : World} {A : Around} {E : Value → Shared → Prop} {s : Shared}
theorem lam_key {q x : Str} {params : Arguments} {p1 p2 p3 p4 p5 : Pos} {kk : Nat} {scope : Scope} {pm ctv : Value} {f c' b : Addr} {its : List Value} {mg mb : Str → Option Value} {Q : Value → Shared → Prop}
    (hroom : A.depth < recursionLimit) (ho : s.heap.get? f = some (PySem.W.kla_obj "<lambda>" q params (.Tuple [.Call (.Name "len" p1) [.Name x p2] [] p3, .Name x p4] kk p5) scope [] pm c' ctv)) (hcr : s.heap.CodeRec (.ref c') q)
    (hbind : ∀ v : Value, bindArgs (PySem.W.kla_fn "<lambda>" q params (.Tuple [.Call (.Name "len" p1) [.Name x p2] [] p3, .Name x p4] kk p5) scope [] pm (.ref c') ctv) ⟨[v], []⟩ = pure [(x, v)])
    (hk : scope.kind = .function) (hco : scope.isCoroutine = false) (hgen : scope.isGenerator = false) (hcell : ∀ y ∈ scope.names, y.2 ≠ .cell) (hx : scope.names.lookup x = some .local) (hlen : scope.names.lookup ("len" : Str) = some NameKind.globalImplicit)
    (hd : (x == ("__debug__" : Str)) = false) (G : s.heap.Ns mainGlobals mg) (hm : mg "len" = none) (B : s.heap.Ns builtinsNs mb) (hmb : mb "len" = bootBuiltins "len") (nl : s.heap.NoLimit) (hb : IsTup s.heap b its.toArray) (hz : its.length ≤ sizeLine)
    (h : ∀ (h' : Heap) (tk : Nat) (p : Addr) (t : Tok), (∀ a o, s.heap.get? a = some o → h'.get? a = some o) → IsTup h' p #[.int (its.length : Nat) t, .ref b] → Q (.ref p) { s with heap := h', toks := tk }) :
    wpAny (model prog w) A (call (.ref f) [.ref b]) Q E s := by
  refine wpAny_call (PySem.W.kla_callFunE hroom ho rfl hco hgen rfl hcr ?_)
  rw [hbind]
  refine wpAny_pure (wpAny_newFunctionEnv hcell (fun y hy => by rw [List.mem_singleton.mp hy]; exact hx) (fun h1 hns hsb => ⟨nl.fresh _ hsb, ?_⟩) hk)
  have kp : ∀ a o, s.heap.get? a = some o → h1.get? a = some o := fun a o e => hsb.extBut a o (Nat.ne_of_lt (Heap.lt_size e)) (Heap.get?_push_of_some _ e)
  show codeAny _ _ (.expr (.Tuple [.Call (.Name "len" p1) [.Name x p2] [] p3, .Name x p4] kk p5) (PySem.W.envX q scope s.heap.objs.size f (.ref c') [])) _ _
  refine PySem.W.kla_codeExpr ?_
  have ldx : ∀ {pos : Pos} {A' : Around} {E' : Value → Shared → Prop} {Q' : Value → Shared → Prop} {tk : Nat}, Q' (.ref b) { s with heap := h1, toks := tk } → wpAny (model prog w) A' (eval (.Name x pos) (PySem.W.envX q scope s.heap.objs.size f (.ref c') [])) Q' E' { s with heap := h1, toks := tk } := fun {pos A' E' Q' tk} hq =>
    wpAny_Name (wpAny_loadName_local hk (show scope.names.lookup x = some .local from hx) hns (by simp) hq) hd
  have ldl : ∀ {pos : Pos} {A' : Around} {E' : Value → Shared → Prop} {Q' : Value → Shared → Prop} {tk : Nat}, Q' (.builtin "len") { s with heap := h1, toks := tk } → wpAny (model prog w) A' (eval (.Name "len" pos) (PySem.W.envX q scope s.heap.objs.size f (.ref c') [])) Q' E' { s with heap := h1, toks := tk } := fun {pos A' E' Q' tk} hq =>
    Calls.Name_function_global hk hlen (Calls.loadGlobal_builtin (G.keeps kp) hm (B.keeps kp) (hmb.trans boot_len) hq) (by decide)
  refine wpAny_Tuple_spliced ?_
  show wpAny _ _ (spliced [(false, eval (.Call (.Name "len" p1) [.Name x p2] [] p3) _), (false, eval (.Name x p4) _)]) _ _ _
  refine Calls.spliced_cons (wpAny_Call_Name_kw (ldl ?_))
  refine PyProof.Rows.callWith_builtin1 ?_ (by rfl) (by rfl)
  show wpAny _ _ (spliced [(false, eval (.Name x p2) _)]) _ _ _
  refine Calls.spliced_cons (ldx (Calls.spliced_nil ?_))
  refine len_tuple (show IsTup h1 b its.toArray from let ⟨o, e, r⟩ := hb; ⟨o, kp _ _ e, r⟩) ?_ ?_
  · have hs : sizeLine = 16777216 := sizeLine_eq
    simp only [List.size_toArray]
    omega
  refine Calls.spliced_cons (ldx (Calls.spliced_nil ⟨by show 2 ≤ sizeLine; rw [sizeLine_eq]; decide, ?_⟩))
  show Q (.ref _) _
  refine h _ _ _ ?t (fun a o e => Heap.get?_push_of_some _ (kp a o e)) ⟨_, Heap.get?_push_size _ rfl, rfl, 0, ?e⟩
  case e => exact rfl
end
/-! ### dict of pairs whose keys are tuples of ints -/
def onceL : List (List Int) → List (List Int) → List (List Int)
  | acc, [] => acc
  | acc, x :: xs => if x ∈ acc then onceL acc xs else onceL (acc ++ [x]) xs
theorem atKey_mem {xs : List (List Int × Addr × Value)} {k : List Int} : (atKey xs k).isSome = true ↔ k ∈ xs.map (·.1) := by
  unfold atKey
  rw [Option.isSome_map, List.find?_isSome]
  simp
theorem storedH_fst (xs : List (List Int × Addr × Value)) (k : List Int) (a : Addr) (v : Value) : (storedH xs k a v).map (·.1) = if k ∈ xs.map (·.1) then xs.map (·.1) else xs.map (·.1) ++ [k] := by
  unfold storedH
  by_cases h : k ∈ xs.map (·.1)
  · rw [if_pos (atKey_mem.mpr h), if_pos h, List.map_map]
    apply List.map_congr_left
    intro x _
    show (putAt k v x).1 = x.1
    unfold putAt
    split <;> rfl
  · rw [if_neg (fun z => h (atKey_mem.mp z)), if_neg h, List.map_append]
    rfl
theorem storedAll_fst : ∀ (ps acc : List (List Int × Addr × Value)), (storedAllH acc ps).map (·.1) = onceL (acc.map (·.1)) (ps.map (·.1))
  | [], acc => rfl
  | p :: ps, acc => by
    show (storedAllH (storedH acc p.1 p.2.1 p.2.2) ps).map (·.1) = onceL (acc.map (·.1)) (p.1 :: ps.map (·.1))
    rw [storedAll_fst ps, storedH_fst]
    show _ = if p.1 ∈ acc.map (·.1) then onceL (acc.map (·.1)) (ps.map (·.1)) else onceL (acc.map (·.1) ++ [p.1]) (ps.map (·.1))
    split <;> rfl
/-- a dict object, its keys' addresses -/
def kdO (d : Addr) (bs : List Addr) : HO := .ext fun h => ∃ es ep, Heap.DictRaw h d es ep ∧ es.toList.map (·.key) = bs.map Value.ref
section
variable {K : PySem.W.Frag}
theorem rows_zs {S : Hp} : ∀ {zs : List (List Int × Addr × Value)}, (∀ z ∈ zs, (rTup (K := K) rInt).r S (.ref z.2.1) z.1) → Rows (rTup (K := K) rInt) S (zs.map fun z => V.ref z.2.1) (zs.map (·.1))
  | [], _ => trivial
  | z :: zs, h => ⟨h z List.mem_cons_self, rows_zs fun y hy => h y (List.mem_cons_of_mem _ hy)⟩
end
section
variable {X : Cx} {pins : List (Addr × Obj)} {σ : L2.St} {H S : Hp} {s : Shared}
theorem ints_items : ∀ {xs : List Int} {its : List Value}, Vals (xs.map V.int) its → ItemsAre (PySem.intKind X.prog X.w) xs its
  | [], its, r => by
    cases r
    exact .nil
  | x :: xs, its, r => by
    cases r with
    | cons h t =>
      obtain ⟨tk, rfl⟩ := h
      exact .cons (by show Value.isInt x (.int x tk) = true; simp [Value.isInt]) (ints_items t)
theorem key_is (I : Inv X pins σ H s) (sb : Sub S H) {b : Addr} {k : List Int} (h : (rTup (K := X.K) rInt).r S (.ref b) k) : (tupleKind (PySem.intKind X.prog X.w)).is s.heap k b := by
  obtain ⟨p, vs, e, hs, hr⟩ := h
  cases e
  obtain ⟨its, rv, ⟨o, ho, hc, n, hd⟩, _⟩ := I.tuple (sb.t hs)
  rw [Rows.mapI hr] at rv
  exact ⟨o, its.toArray, n, ho, hc, hd, by simpa using ints_items rv⟩
theorem pairs_of (I : Inv X pins σ H s) (sb : Sub S H) : ∀ {us : List V} {xs : List (List Int × Bool)} {its : List Value}, Vals us its → Rows (rPair (rTup (K := X.K) rInt) rBl) S us xs → ∃ (ts : List Addr) (ps : List (List Int × Addr × Value)), its = ts.map Value.ref ∧ ts.length = xs.length ∧ ps.length = xs.length ∧ ps.map (·.1) = xs.map (·.1) ∧
    (∀ (j : Nat) (t : Addr) (p : List Int × Addr × Value), ts[j]? = some t → ps[j]? = some p → IsTup s.heap t #[.ref p.2.1, p.2.2]) ∧ ∀ p ∈ ps, (rTup (K := X.K) rInt).r S (.ref p.2.1) p.1
  | [], [], its, r, _ => by
    cases r
    exact ⟨[], [], rfl, rfl, rfl, rfl, fun j t p h => by simp at h, fun p hp => (nomatch hp)⟩
  | u :: us, x :: xs, its, r, h => by
    cases r with
    | @cons _ v _ vs r1 r2 =>
      obtain ⟨ts, ps, e1, e2, e3, e4, e5, e6⟩ := pairs_of I sb r2 h.2
      obtain ⟨q, a, b, rfl, hq, ha, hb⟩ := h.1
      obtain rfl : v = .ref q := r1
      obtain ⟨its2, rv, ht, _⟩ := I.tuple (sb.t hq)
      obtain ⟨v1, v2, rfl, w1, w2⟩ := vals2 rv
      obtain ⟨p, vs2, rfl, hs2, hr2⟩ := id ha
      obtain rfl : v1 = .ref p := w1
      refine ⟨q :: ts, (x.1, p, v2) :: ps, by rw [e1]; rfl, by rw [List.length_cons, List.length_cons, e2], by rw [List.length_cons, List.length_cons, e3], by rw [List.map_cons, List.map_cons, e4], fun j t z hj hz => ?_, fun z hz => ?_⟩
      · cases j with
        | zero =>
          rw [← Option.some.inj hj, ← Option.some.inj hz]
          exact ht
        | succ j => exact e5 j t z (by simpa using hj) (by simpa using hz)
      · rcases List.mem_cons.mp hz with rfl | hz
        · exact ha
        · exact e6 z hz
  | [], _ :: _, _, _, h => h.elim
  | _ :: _, [], _, _, h => h.elim
/-- dict(xs), xs a list of pairs (a tuple of ints, a truth) -/
def rDictP (K : PySem.W.Frag) : List V → Hp → VK → Prop := fun vs H Q => ∃ (a : Addr) (us : List V) (xs : List (List Int × Bool)) (S : Hp), vs = [.ref a] ∧ SqL K H a us ∧ Rows (rPair (rTup (K := K) rInt) rBl) S us xs ∧ Sub S H ∧
  ∀ (d : Addr) (bs : List Addr), (d == sysModules) = false → Rows (rTup (K := K) rInt) S (bs.map V.ref) (onceL [] (xs.map (·.1))) → H d = none → Q (.ref d) (upd H d (kdO d bs))
theorem cr_dictP (hc : X.calm = true) (hu : X.A.units + 4 < cLine) : CallR X (.type "dict") (rDictP X.K) := by
  intro pins s σ H vs us Q I r h
  obtain ⟨a, ws, xs, S, rfl, hq, hr, sb, q⟩ := h
  obtain ⟨u, rfl, rx⟩ := vals1 r
  obtain rfl : u = .ref a := rx
  obtain ⟨its, rv, pl, hz⟩ := I.list hq
  obtain ⟨ts, ps, e1, e2, e3, e4, e5, e6⟩ := pairs_of I sb rv hr
  have hlen := rv.length
  have hrl := hr.len
  let ps' : List (Value × Value) := ps.map fun p => (Value.ref p.2.1, p.2.2)
  have hl' : ps'.length = xs.length := by show (ps.map _).length = _; rw [List.length_map, e3]
  have hpi : PairItems s.heap its.toArray (fun j => ts.getD j 0) ps' := by
    refine ⟨by rw [List.size_toArray, hl', ← hlen, hrl], fun j k v hj => ?_⟩
    have hj' : (ps.map fun p => (Value.ref p.2.1, p.2.2))[j]? = some (k, v) := hj
    rw [List.getElem?_map] at hj'
    cases hp : ps[j]? with
    | none =>
      rw [hp] at hj'
      cases hj'
    | some p =>
      rw [hp] at hj'
      have ep := Option.some.inj hj'
      have ek : Value.ref p.2.1 = k := congrArg Prod.fst ep
      have ev : p.2.2 = v := congrArg Prod.snd ep
      have hlt := (List.getElem?_eq_some_iff.mp hp).1
      have ht : ts[j]? = some (ts.getD j 0) := by
        rw [List.getD_eq_getElem?_getD, List.getElem?_eq_getElem (by omega)]
        rfl
      refine ⟨?_, .inl ?_⟩
      · show its.toArray[j]? = some (.ref (ts.getD j 0))
        rw [List.getElem?_toArray, e1, List.getElem?_map, ht]
        rfl
      · have := e5 j _ p ht hp
        rw [ek, ev] at this
        exact this
  have hkeys : ∀ p ∈ ps, (tupleKind (PySem.intKind X.prog X.w)).is s.heap p.1 p.2.1 := fun p hp => key_is I sb (e6 p hp)
  have hA : X.A.handled = none := I.ok.hd hc
  refine call_dict_pairsH (knd := tupleKind (PySem.intKind X.prog X.w)) (ps := ps) (PairArg.list a its.toArray (fun j => ts.getD j 0) ps') hA (by show X.A.in1.in1.units < cLine; show X.A.units + 1 + 1 < cLine; omega) ⟨pl, hpi⟩ ⟨by rw [hl', e3], fun i key v hi => ?_⟩ (fun h' hk p hp => ?_) (by rw [hl', ← hrl]; exact hz) fun h' tk hd hk => ?_
  · have hi' : (ps.map fun p => (Value.ref p.2.1, p.2.2))[i]? = some (key, v) := hi
    rw [List.getElem?_map] at hi'
    cases hp : ps[i]? with
    | none =>
      rw [hp] at hi'
      cases hi'
    | some p =>
      rw [hp] at hi'
      have ep := Option.some.inj hi'
      obtain ⟨k, b, v'⟩ := p
      exact ⟨k, b, by have ev : v' = v := congrArg Prod.snd ep; rw [ev], (congrArg Prod.fst ep).symm⟩
  · obtain ⟨o, items, n, ho, r⟩ := hkeys p hp
    exact ⟨o, items, n, hk _ _ (Nat.ne_of_lt (Heap.lt_size ho)) (by simp) ho, r⟩
  · obtain ⟨o, es, ep, h1, h2, h3, h4, h5, h6⟩ := hd
    let zs := storedAllH [] ps
    have hzk : ∀ z ∈ zs, (rTup (K := X.K) rInt).r S (.ref z.2.1) z.1 := fun z hz => storedAllH_keys (P := fun k b => (rTup (K := X.K) rInt).r S (.ref b) k) (fun x hx => absurd hx (by simp)) (fun x hx => e6 x hx) z hz
    have hrows := rows_zs hzk
    have hfst : zs.map (·.1) = onceL [] (xs.map (·.1)) := by
      have := storedAll_fst ps []
      rw [e4] at this
      exact this
    rw [hfst] at hrows
    have hbs : (zs.map fun z => V.ref z.2.1) = (zs.map fun z => z.2.1).map V.ref := by rw [List.map_map]; rfl
    rw [hbs] at hrows
    have hsm : (s.heap.objs.size == sysModules) = false := beq_eq_false_iff_ne.mpr (Nat.ne_of_gt I.big)
    refine ⟨.ref s.heap.objs.size, _, I.laid (t' := tk) (fun b u e => hk b u (by simp) e) (Nat.le_refl _) (o := kdO s.heap.objs.size (zs.map fun z => z.2.1)) ⟨⟨es, ep, ⟨o, h1, h2, h3⟩, ?_⟩, ⟨o, h1⟩, ?_⟩, rfl, q _ _ hsm hrows (I.hok.fresh (Nat.le_refl _))⟩
    · rw [h4, List.map_map, List.map_map]
      rfl
    · rintro g1 g2 ⟨es', ep', hr', he'⟩ st
      exact ⟨es', ep', hr'.at st, he'⟩
end
end Fm
set_option maxHeartbeats 2000000
/-! Fm16: a lambda made, its table alone changed; sorted by it. -/
namespace Fm
open PySem PySem.Spec PyProof.Rows L2
section
variable {X : Cx} {pins : List (Addr × Obj)} {σ : L2.St} {H : Hp} {s : Shared}
theorem lam_new {c P : Addr} {params : Arguments} {body : Expr} {scope : Scope} {pos : Pos} {E : Value → Shared → Prop} {Q : Value → Shared → Prop} (I : Inv X pins σ H s) (TB : LamX.TabB X.base X.mg c P) (hcode : X.env.code = .ref c)
    (hT : LamX.TabS H P (X.env.qual ++ "<lambda>")) (hdef : defaultsOf params X.env = ([], [])) (hfree : ∀ y ∈ scope.names, y.2 = .free → ∃ c, X.env.cells.lookup y.1 = some c)
    (h : ∀ (f c' : Addr) (pm ctv : Value) (H1 : Hp) (s' : Shared), Inv X pins σ H1 s' → (∀ b o, b ≠ P → H b = some o → H1 b = some o) → LamX.TabS H1 P (X.env.qual ++ "<lambda>") →
      s'.heap.get? f = some (PySem.W.kla_obj "<lambda>" (X.env.qual ++ "<lambda>") params body scope (cloFrom X.env.cells scope.names []) pm c' ctv) → H1 c' = some (LamX.CodeO c' (X.env.qual ++ "<lambda>")) → Q (.ref f) s') :
    wpAny (model X.prog X.w) X.A (eval (.Lambda params body scope pos) X.env) Q E s := by
  obtain ⟨ps, hP, ht, ha⟩ := hT
  refine PySem.W.kla_eval hdef ?_
  have bP : s.heap.BuiltinsAt X.mg P := TB.bm.keeps I.bk
  have hP' : s.heap.get? P = some { cls := .none, data := .fields ps } := I.hok P _ hP
  cases hc : codeAmong pos ps.toList with
  | some cv =>
    obtain ⟨c', rfl, hco⟩ := ha pos cv hc
    exact PySem.W.kla_makeFunctionHit (mg := X.mg) (c := c) (P := P) (ps := ps) (closure_ok hfree) I.ok.glob (I.mod.glob.keeps I.bk) hcode (TB.code.keeps I.bk) hP' ht hc bP fun ctv h' tk hx hsz =>
      h _ c' ((X.mg "__name__").getD .none) ctv H _ (I.kept fun b o e => Heap.get?_push_of_some _ (hx b o e)) (fun _ _ _ e => e) ⟨ps, hP, ht, ha⟩ (Heap.get?_push_size _ rfl) hco
  | none =>
    refine PySem.W.kla_makeFunction (mg := X.mg) (c := c) (P := P) (ps := ps) (closure_ok hfree) I.ok.glob (I.mod.glob.keeps I.bk) hcode (TB.code.keeps I.bk) hP' ht hc TB.gP bP ?_
    rintro c' ctv h' tk hx hge hlt ⟨c2, oc, vs, t, e2, hoc, hd, hv⟩ htb
    cases e2
    have nC : H c' = none := I.hok.fresh hge
    have nCP : P ≠ c' := ne_of_none hP nC
    have I1 := LamX.inv_table (q := X.env.qual ++ "<lambda>") (t' := tk) (more := #[rawInt pos.line, rawInt pos.col, .ref c']) (h' := h'.push (PySem.W.kla_obj "<lambda>" (X.env.qual ++ "<lambda>") params body scope (cloFrom X.env.cells scope.names []) ((X.mg "__name__").getD .none) c' ctv)) I hP
      (fun b o hb e => Heap.get?_push_of_some _ (hx b o hb e)) (Heap.get?_push_of_some _ htb) hge ⟨oc, vs, t, Heap.get?_push_of_some _ hoc, hd, hv⟩
    have keep : ∀ b o, b ≠ P → H b = some o → upd (upd H P (.tbl (ps ++ #[rawInt pos.line, rawInt pos.col, .ref c']))) c' (LamX.CodeO c' (X.env.qual ++ "<lambda>")) b = some o := fun b o hb e => by
      rw [upd_ne (ne_of_none e nC), upd_ne hb]
      exact e
    refine h _ c' _ ctv _ _ I1 keep ⟨_, by rw [upd_ne nCP, upd_same], ?_, fun p' cv hcv => ?_⟩ (Heap.get?_push_size _ rfl) upd_same
    · have eL : (ps ++ #[rawInt pos.line, rawInt pos.col, .ref c']).toList = ps.toList ++ [rawInt pos.line, rawInt pos.col, .ref c'] := by simp
      rw [eL]
      exact PySem.TriplesOk_snoc _ _ _ _ ht
    · have hcv' : codeAmong p' (ps.toList ++ [rawInt pos.line, rawInt pos.col, .ref c']) = some cv := by simpa using hcv
      rcases LamX.among_app _ ht hcv' with z | z
      · obtain ⟨c0, e1, e2⟩ := ha p' cv z
        exact ⟨c0, e1, keep _ _ (fun y => by rw [y, hP] at e2; unfold LamX.CodeO at e2; cases e2) e2⟩
      · exact ⟨c', z, upd_same⟩
end
/-! ### sorted(d, key=..) -/
section
variable {prog : Program} {w : World} {A : Around} {E : Value → Shared → Prop} {s : Shared}
open PySem.W PySem.Calls
theorem sorted_ofT {arg : Value} {vs : List Value} {kw : List (Str × Value)} {Q : Value → Shared → Prop} (hcol : ∀ (A' : Around) (Q' : List Value → Shared → Prop) (E' : Value → Shared → Prop), A'.handled = A.handled → (∀ h' tk, (∀ b o, s.heap.get? b = some o → h'.get? b = some o) → Q' vs { s with heap := h', toks := tk }) → wpAny (model prog w) A' (collect arg) Q' E' s)
    (hL : vs.length ≤ sizeLine) (ha1 : argsOk "sorted" ⟨[arg], kw⟩) (ha2 : ∀ x, argsOk "list.sort" ⟨[.ref x], kw⟩)
    (body : ∀ (h' : Heap) (tk : Nat) (E' : Value → Shared → Prop), (∀ b o, s.heap.get? b = some o → h'.get? b = some o) → wpAny (model prog w) A.in1.in1 (Builtin.«list.sort» ⟨[.ref h'.objs.size], kw⟩) (fun f s' => f = .done (.ret .none) ∧ Q (.ref h'.objs.size) s') E' { s with heap := h'.push (seqObj "list" vs.toArray 0), toks := tk }) :
    wpAny (model prog w) A (call (.builtin "sorted") [arg] kw) Q E s := by
  refine call_function_entry_kw kind_sorted plain_sorted entry_sorted ha1 ?_
  unfold Builtin.«sorted»
  refine wpAny_bind (m := checkCount "sorted" 1 1 _) (wpAny_pure (wpAny_bind (hcol _ _ _ rfl fun h' tk hk => ?_)))
  refine wpAny_bind (wpAny_newList (wpAny_bind (wpAny_holding (wpAny_call_entry_kw slot_list_sort ⟨_, Heap.get?_push_size h' rfl, rfl⟩ entry_list_sort ?body (ha2 _)))) hL)
  show wpAny (model prog w) A.in1.in1 (Builtin.«list.sort» ⟨[.ref h'.objs.size], kw⟩) _ _ _
  refine wpAny_mono (body h' tk _ hk) (fun f s' hf => ?_) fun _ _ e => e
  obtain ⟨rfl, hq⟩ := hf
  exact ⟨_, rfl, wpAny_pure ⟨_, rfl, hq⟩⟩
end
theorem reads_ints {h : Heap} : ∀ {xs : List Int} {its : List Value}, Vals (xs.map V.int) its → ReadsAll h its (xs.map .int) []
  | [], _, r => by
    cases r
    exact .nil
  | x :: xs, _, r => by
    cases r with
    | cons h1 t =>
      obtain ⟨tk, rfl⟩ := h1
      exact ReadsAll.cons (as := []) (bs := []) (.int x tk) (reads_ints t)
/-- spans' order by their lengths, then by themselves -/
def dKey (s : List Int) : PyData := .tuple [.int (s.length : Nat), .tuple (s.map .int)]
/-- sorted(d, key=lambda x: (len(x), x)), d a dict whose keys are tuples of ints -/
def tSortL (K : PySem.W.Frag) (P : Addr) (q : Str) (te : TE) : TE := fun σ H Q => te σ H fun v H1 => ∃ (d : Addr) (bs : List Addr) (S : Hp) (keys : List (List Int)), v = .ref d ∧ H1 d = some (kdO d bs) ∧ (d == sysModules) = false ∧ Rows (rTup (K := K) rInt) S (bs.map V.ref) keys ∧ keys.length ≤ 1000 ∧ Sub S H1 ∧ S P = none ∧ LamX.TabS H1 P q ∧
  ∀ (H2 : Hp) (p : Addr) (us : List V), (∀ b o, b ≠ P → H1 b = some o → H2 b = some o) → LamX.TabS H2 P q → H2 p = none → Rows (rTup (K := K) rInt) S us (keys.mergeSort fun x y => !PySem.W.dataLt (dKey y) (dKey x)) → Q (.ref p) (upd H2 p (.lst us))
open PySem.W in
theorem pe_sortL {X : Cx} {c P : Addr} {te : TE} {e : Expr} {x : Str} {params : Arguments} {p1 p2 p3 p4 p5 p kpos lpos pos : Pos} {kk : Nat} {scope : Scope} {lev : Nat} (he : PE X e te) (hr : Room (lev + 3) X.A) (hu : X.A.units + 80 < cLine) (hc : X.calm = true)
    (TB : LamX.TabB X.base X.mg c P) (hcode : X.env.code = .ref c) (hdef : defaultsOf params X.env = ([], [])) (hfree : ∀ y ∈ scope.names, y.2 = .free → ∃ c, X.env.cells.lookup y.1 = some c) (hclo : cloFrom X.env.cells scope.names [] = [])
    (hbind : ∀ (v pm cv ctv : Value) (q : Str), bindArgs (PySem.W.kla_fn "<lambda>" q params (.Tuple [.Call (.Name "len" p1) [.Name x p2] [] p3, .Name x p4] kk p5) scope [] pm cv ctv) ⟨[v], []⟩ = pure [(x, v)])
    (hk : scope.kind = .function) (hco : scope.isCoroutine = false) (hgen : scope.isGenerator = false) (hcell : ∀ y ∈ scope.names, y.2 ≠ .cell) (hx : scope.names.lookup x = some .local) (hlen : scope.names.lookup ("len" : Str) = some NameKind.globalImplicit)
    (hd : (x == ("__debug__" : Str)) = false) (hml : X.mg "len" = none) (hms : X.mg "sorted" = none) (hg : Gl X "sorted")
    (hs1 : backTo pos (starEach [e] X.env) = (false, eval e X.env) :: backTo pos (starEach [] X.env) := by rfl) (hpl : (backTo pos (starEach [e] X.env)).any (·.1) = false := by rfl) :
    PE X (.Call (.Name "sorted" p) [e] [⟨some "key", .Lambda params (.Tuple [.Call (.Name "len" p1) [.Name x p2] [] p3, .Name x p4] kk p5) scope lpos, kpos⟩] pos) (tSortL X.K P (X.env.qual ++ "<lambda>") te) := by
  refine ⟨fun pins s σ H Q I h => ?_⟩
  refine wpAny_Call_Name_kw (ld_blt I hg hms boot_sorted ?_)
  refine PyProof.Rows.callWith_kw ?_ hs1 hpl (by rfl) (by rfl)
  rw [hs1]
  show wpAny _ _ (spliced [(false, eval e X.env)]) _ _ _
  refine Calls.spliced_cons (thn (he.run pins s σ H _ I h) fun u s1 ⟨v, H1, I1, r1, d, bs, S, keys, ev, hH, lo, rows, hkl, sb, hSP, hT, q⟩ => Calls.spliced_nil ?_)
  subst ev
  obtain rfl : u = .ref d := r1
  show wpAny _ _ (evalAll [do let v ← eval (.Lambda params (.Tuple [.Call (.Name "len" p1) [.Name x p2] [] p3, .Name x p4] kk p5) scope lpos) X.env; standAt pos; pure v]) _ _ _
  refine wpAny_evalAll_cons (wpAny_bind (lam_new I1 TB hcode hT hdef hfree fun f c' pm ctv H2 s2 I2 eN T2 hf hcO => wpAny_bind (wpAny_standAt (wpAny_pure (wpAny_evalAll_nil ?_)))))
  rw [hclo] at hf
  show wpAny _ _ (call (.builtin "sorted") [.ref d] [(("key" : Str), .ref f)]) _ _ _
  obtain ⟨ps0, hP0, _⟩ := id hT
  have hdP : d ≠ P := fun z => by
    rw [z, hP0] at hH
    unfold kdO at hH
    cases hH
  have hHd := eN d _ hdP hH
  have sb2 : Sub S H2 := fun a o ha => eN a o (fun z => by rw [z, hSP] at ha; cases ha) (sb a o ha)
  obtain ⟨⟨es, ep, hraw, hkeys⟩, _⟩ := (show ObjOk X.prog X.w H2 s2.heap d (kdO d bs) from I2.hok d _ hHd)
  have hbl : bs.length = keys.length := by
    have := rows.len
    rwa [List.length_map] at this
  have hes : es.size = bs.length := by
    have := congrArg List.length hkeys
    rwa [List.length_map, List.length_map, Array.length_toList] at this
  have hA : X.A.handled = none := I2.ok.hd hc
  have hZ : (bs.map Value.ref).length ≤ sizeLine := by
    rw [List.length_map, hbl, sizeLine_eq]
    omega
  have vref : ∀ bs : List Addr, Vals (bs.map V.ref) (bs.map Value.ref) := fun bs => by
    induction bs with
    | nil => exact .nil
    | cons b bs ih => exact .cons rfl ih
  have ee : EachIs (VR (rTup (K := X.K) rInt) S) (bs.map Value.ref) keys := each_of (vref bs) rows
  refine sorted_ofT (s := s2) (vs := bs.map Value.ref) (fun A' Q' E' hA' hQ' => ?_) hZ (PyProof.Rows.ksk_s1 _ _) (fun _ => PyProof.Rows.ksk_l1 _ _) fun h' tk E' hkp => ?_
  · refine kdu_collect (A := A') (KdlSrc.rawDict lo) (hA'.trans hA) hraw (by rw [hes, hbl, sizeLine_eq]; omega) fun h' tk acc hk hacc => ?_
    have ea : acc.toList = bs.map Value.ref := by
      rw [← hkeys]
      apply List.ext_getElem?
      intro i
      by_cases hi : i < es.size
      · have hia : i < acc.size := by rw [hacc.1]; exact hi
        obtain ⟨_, hv⟩ := hacc.2 i acc[i] (Array.getElem?_eq_getElem hia)
        rw [Array.getElem?_toList, Array.getElem?_eq_getElem hia, hv, List.getElem?_map, Array.getElem?_toList, Array.getElem?_eq_getElem hi]
        rfl
      · rw [List.getElem?_eq_none (by rw [Array.length_toList, hacc.1]; omega), List.getElem?_eq_none (by rw [List.length_map, Array.length_toList]; omega)]
    rw [ea]
    exact hQ' h' tk hk
  · rw [PyProof.Rows.ksk_t1]
    have up0 : ∀ b o, s2.heap.get? b = some o → b ≠ h'.objs.size ∧ (h'.push (seqObj "list" (bs.map Value.ref).toArray 0)).get? b = some o := fun b o q => ⟨Nat.ne_of_lt (Heap.lt_size (hkp b o q)), Heap.get?_push_of_some _ (hkp b o q)⟩
    refine keyH_tree (kz := keys.map dKey) (s := { s2 with heap := h'.push (seqObj "list" (bs.map Value.ref).toArray 0), toks := tk }) (Heap.get?_push_size _ rfl) (by rw [List.length_map, List.length_map, hbl]) hZ
      (AllAlike.of fun x y => al_pair (d := PyData.int) (f := fun s : List Int => .tuple (s.map .int)) al_int (al_tup al_int) (((x.length : Nat) : Int), x) (((y.length : Nat) : Int), y)) (.inl fun y hy => ?_) (fun y hy => ?_)
      (keyH_turns (s := { s2 with heap := h'.push (seqObj "list" (bs.map Value.ref).toArray 0), toks := tk }) ee fun v x hR hxm hh tk2 kp => ?_) fun h3 tk3 out cc kp hD ko => ⟨rfl, ?_⟩
    · obtain ⟨z, _, rfl⟩ := List.mem_map.mp hy
      exact ⟨_, _, rfl⟩
    · obtain ⟨z, _, rfl⟩ := List.mem_map.mp hy
      have := (RD.pair (K := X.K) RD.int (RD.tup RD.int)).dep (((z.length : Nat) : Int), z)
      have : (dKey z).depth ≤ 2 := this
      show X.A.units + 1 + 1 + (dKey z).depth < cLine
      omega
    · obtain ⟨v', rv', b, us, rfl, hs, hrw⟩ := hR
      obtain rfl : v = .ref b := rv'
      obtain ⟨its, rvi, hb, hzi⟩ := I2.tuple (sb2.t hs)
      rw [Rows.mapI hrw] at rvi
      have hil : its.length = x.length := by
        have := rvi.length
        rw [List.length_map] at this
        exact this.symm
      have up : ∀ b o, s2.heap.get? b = some o → hh.get? b = some o := fun b o q => kp b o (up0 b o q).1 (up0 b o q).2
      obtain ⟨⟨oc, vs, t, hoc, hdc, hvc⟩, _⟩ := (show ObjOk X.prog X.w H2 s2.heap c' (LamX.CodeO c' (X.env.qual ++ "<lambda>")) from I2.hok c' _ hcO)
      obtain ⟨mb, hb1, hb2⟩ := I2.mod.blt
      refine lam_key (s := { s2 with heap := hh, toks := tk2 }) (its := its) (mg := X.mg) (mb := mb) (Room.in1 (Room.in1 hr)).depth (up _ _ hf) ⟨c', oc, vs, t, rfl, up _ _ hoc, hdc, hvc⟩ (fun v => hbind v pm (.ref c') ctv _) hk hco hgen hcell hx hlen hd ((I2.mod.glob.keeps I2.bk).keeps up) hml ((hb1.keeps I2.bk).keeps up) (hb2 "len" (by decide)) (I2.nolimit.keeps up) (hb.keeps up) (by rw [hil, ← hrw.len]; exact hzi) fun h4 tk4 p t4 kp4 hp4 => ⟨h4, tk4, rfl, kp4, ?_⟩
      obtain ⟨o, ho, hoc2, n, hod⟩ := hp4
      obtain ⟨ob, hob, hobc, nb, hobd⟩ := hb.keeps up
      rw [hil] at hod
      exact Reads.tuple (as := []) ho hoc2 hod (ReadsAll.cons (as := []) (bs := []) (.int _ _) (ReadsAll.cons (as := []) (bs := []) (Reads.tuple (as := []) (kp4 _ _ hob) hobc hobd (by simpa using reads_ints rvi)) .nil))
    · have hout := keyedOut_each dKey ko ee
      obtain ⟨us', k1, k2⟩ := rows_of hout
      have I3 : Inv X pins σ H2 { s2 with heap := h', toks := tk } := I2.kept hkp
      have hl2 : us'.length ≤ sizeLine := by
        rw [k2.len, (List.mergeSort_perm _ _).length_eq, sizeLine_eq]
        omega
      exact ⟨.ref h'.objs.size, _, I3.laid (t' := tk3) (fun b u e => kp b u (Nat.ne_of_lt (Heap.lt_size e)) (Heap.get?_push_of_some _ e)) (Nat.le_refl _) (o := .lst us') ⟨hl2, out, cc, k1, hD⟩, rfl, q H2 _ us' eN T2 (I3.hok.fresh (Nat.le_refl _)) k2⟩
end Fm
set_option maxHeartbeats 1000000
/-! W34: spans each once, in order. -/
namespace Fm
open PySem PySem.Spec PyProof.Rows L2
open PySem.W (alike alikeAll dataLt Sortable)
theorem once_eq : ∀ (xs acc : List (List Int)), onceL acc xs = onceI acc xs
  | [], acc => rfl
  | x :: xs, acc => by
    unfold onceL onceI
    split
    · exact once_eq xs acc
    · exact once_eq xs _
theorem onceI_le : ∀ (xs acc : List (List Int)), (onceI acc xs).length ≤ acc.length + xs.length
  | [], acc => Nat.le_refl _
  | x :: xs, acc => by
    unfold onceI
    rw [List.length_cons]
    split
    · have := onceI_le xs acc
      omega
    · have := onceI_le xs (acc ++ [x])
      rw [List.length_append, List.length_singleton] at this
      omega
theorem Good.lamT {k : Kx} {w : Wd} {P : Addr} {q : Str} {H2 : Hp} (g : Good k w) (hP : (P, q) ∈ k.T.tl) (hb : ∀ P' ∈ k.T.tb, P' ≠ P) (hl : ∀ p ∈ k.T.tl, p.1 = P → p.2 = q) (eN : ∀ b o, b ≠ P → w.H b = some o → H2 b = some o) (t2 : LamX.TabS H2 P q) : Good k ⟨w.S, H2, w.j⟩ ∧ Le k w ⟨w.S, H2, w.j⟩ := by
  obtain ⟨⟨ps, hPH, _⟩, hSP⟩ := g.lams _ hP
  have hPH : w.H P = some (.tbl ps) := hPH
  have hSP : w.S P = none := hSP
  have sb : Sub w.S H2 := fun a o ha => eN a o (fun z => by rw [z, hSP] at ha; cases ha) (g.sub a o ha)
  refine ⟨⟨sb, fun p hp => ⟨eN p _ (fun z => ?_) (g.jar p hp).1, (g.jar p hp).2⟩, fun P' hP' => ?_, fun p hp => ⟨?_, (g.lams p hp).2⟩⟩, fun a o ha hn _ => eN a o (fun z => hn ps (by rw [z, hPH] at ha; exact (Option.some.inj ha).symm)) ha, Sub.refl _, fun a ha _ => ha, fun a ha z => ?_, sb⟩
  · have := (g.jar p hp).1
    rw [z, hPH] at this
    cases this
  · obtain ⟨⟨ps', e', t'⟩, hS'⟩ := g.tabs P' hP'
    exact ⟨⟨ps', eN P' _ (hb P' hP') e', t'⟩, hS'⟩
  · by_cases e : p.1 = P
    · rw [e, hl p hp e]
      exact t2
    · obtain ⟨ps', h1, h2, h3⟩ := (g.lams p hp).1
      refine ⟨ps', eN _ _ e h1, h2, fun pos cv hc => ?_⟩
      obtain ⟨c, e1, e2⟩ := h3 pos cv hc
      exact ⟨c, e1, eN c _ (fun z => by rw [z, hPH] at e2; unfold LamX.CodeO at e2; cases e2) e2⟩
  · have z : H2 a = none := z
    by_cases e : a = P
    · obtain ⟨ps', e', _⟩ := t2
      rw [e, e'] at z
      cases z
    · cases q2 : w.H a with
      | none => exact ha q2
      | some o =>
        rw [eN a o e q2] at z
        cases z
/-- the def's table of code objects, its lambda's name -/
def TabL (fd : FuncData) (T : Tbs) (base : Heap) (mg : Str → Option Value) (q : Str) : Prop := ∃ c P, fd.code = .ref c ∧ LamX.TabB base mg c P ∧ (P, q) ∈ T.tl ∧ (∀ P' ∈ T.tb, P' ≠ P) ∧ ∀ p ∈ T.tl, p.1 = P → p.2 = q
section
variable {Pg : Program} {w : World} {K : PySem.W.Frag} {mg : Str → Option Value} {base : Heap} {fa : Addr} {fd : FuncData} {T : Tbs} {lev : Nat}
theorem ok75 (hblt : ∀ n ∈ bltNames, mg n = none) (hL : TabL fd T base mg "_law_in_order.<locals>.<lambda>") (F : FnP K "_law_in_order" (top 75) fa fd) : FnG Pg w K mg base (lev + 4) fa fd ["spans"] (S75 (K := K) T) := by
  refine def_ok F (N := ["spans", "span"]) ⟨rfl, rfl, rfl, by decide +kernel, rfl, by decide +kernel, by decide +kernel⟩ (fun _ => rfl) (by decide) hblt fun cdv Ar outer s0 H E hcd ok hr i k w0 j ht hz => ?_
  have hz : i.length ≤ 1000 := hz
  obtain ⟨c, P, hc1, TB, hmem, hb, hl⟩ := hL
  rw [← ht] at hmem hb hl
  have hun := hr.un
  refine hb_ret (d_tupB ok (EvM.toB (A := rSpn) (xs := orderI i) ?_)) ⟨rfl, rfl⟩
  refine fun σ w1 a1 Q qq => WE.of (pe_sortL (lev := lev) (pe_callTy (cr_dictP rfl ?hu1) rfl (hblt "dict" (by decide)) (by decide +kernel) (pa_cons pe_self pa_nil)) hr ?hu2 rfl TB (hcd.symm.trans hc1) rfl (fun y hy z => ?hfree) rfl (fun v pm cv ctv q => rfl) rfl rfl rfl (by decide +kernel) rfl rfl (by decide) (hblt "len" (by decide)) (hblt "sorted" (by decide)) rfl) ?_
  case hu1 => show _ + 4 < _; omega
  case hu2 => show _ + 80 < _; omega
  case hfree => exact absurd z (by revert y; decide +kernel)
  refine LcD.m (lc_map (A := rSpn) (B := rPair rSpn rBl) (xs := i) (own := [("span", 1)]) (fun s => (s, true)) (blk_at ["spans", "span"] (defScope (top 75)) ⟨rfl, by decide +kernel, by decide +kernel, by decide +kernel, by decide +kernel⟩) (i_lst (bb 0)) (tc_name 1 ok.nd rfl rfl) (Nat.le_trans hz (by decide)) fun s hs s2 H C cl fp => d_pair (dv 1) d_bl) rfl ok.nd (fun _ => rfl) σ w1 a1 _ fun p vs w2 a2 e2 hp hrw hs hn => ?_
  refine ⟨p, vs, _, w2.S, rfl, .inl (.inl hp), hrw, a2.good.sub, fun d bs lo rows hd => ?_⟩
  obtain ⟨g3, l3⟩ := a2.good.newH (o := kdO d bs) hd
  have hkeys : onceL [] ((i.map fun s => (s, true)).map (·.1)) = onceI [] i := by
    rw [List.map_map, once_eq]
    congr 1
    exact List.map_id' i
  rw [hkeys] at rows
  have hlen : (onceI [] i).length ≤ 1000 := by
    have := onceI_le i []
    rw [List.length_nil] at this
    omega
  refine ⟨d, bs, w2.S, onceI [] i, rfl, upd_same, lo, rows, hlen, g3.sub, (g3.lams _ hmem).2, (g3.lams _ hmem).1, fun H2 p2 us eN T2 hp2 hus => ?_⟩
  obtain ⟨g4, l4⟩ := g3.lamT (H2 := H2) hmem hb hl eN T2
  obtain ⟨g5, l5⟩ := g4.newH (o := .lst us) hp2
  have e5 := ((e2.trans l3).trans l4).trans l5
  exact qq p2 us ⟨w2.S, upd H2 p2 (.lst us), w2.j⟩ (a1.up e5 g5 a2.jar) e5 upd_same hus (g4.non hp2) (((e2.trans l3).trans l4).fresh hp2)
end
end Fm
set_option maxHeartbeats 2000000
/-! Fm17: a list of our own handed on as the jar. -/
namespace Fm
open PySem PySem.Spec PyProof.Rows L2
section
variable {K : PySem.W.Frag} {k : Kx} {w0 w : Wd} {Γ : List (Slot K)} {σ : L2.St} {j : Int × Int} {a b : Int}
theorem At.root (at0 : At K k w0 Γ σ w j) (hk : k.jp = none) {i : Nat} (hi : Γ[i]? = some (.mu rInt [a, b])) (hn : ∀ (m : Nat) (s : Slot K), Γ[m]? = some s → s.isMu = true → m = i) :
    ∃ p, At K ⟨k.T, some p⟩ ⟨w.S, w.H, (a, b)⟩ (Γ.set i .ja) σ ⟨w.S, w.H, (a, b)⟩ (a, b) ∧ ∀ w2 j2, At K ⟨k.T, some p⟩ ⟨w.S, w.H, (a, b)⟩ (Γ.set i .ja) σ w2 j2 → At K k w0 (Γ.set i (.mu rInt [j2.1, j2.2])) σ ⟨w2.S, w2.H, w.j⟩ j ∧ Sub w.S w2.S := by
  obtain ⟨o, h1, p, vs, h2, h3, h4, h5, h6, h7⟩ := at0.env.at_ i _ hi
  rw [h2] at h1
  rw [Rows.mapI h4] at h3
  have il : i < Γ.length := (List.getElem?_eq_some_iff.mp hi).1
  have up : ∀ {w2 : Wd}, Le ⟨k.T, some p⟩ ⟨w.S, w.H, (a, b)⟩ w2 → Le k w0 w2 := fun {w2} e => by
    refine ⟨fun x o hx hno hj => ?_, at0.le.sub.trans e.sub, fun x hs hh => e.new x (at0.le.new x hs hh) (at0.le.there x hh), fun x hx => e.there x (at0.le.there x hx), e.sh⟩
    refine e.keep x o (at0.le.keep x o hx hno hj) hno fun z => ?_
    have z : some p = some x := z
    rw [← Option.some.inj z, h7] at hx
    cases hx
  refine ⟨p, ⟨⟨at0.good.sub, fun q hq => ?_, at0.good.tabs, at0.good.lams⟩, rfl, ⟨fun _ _ h _ _ => h, Sub.refl _, fun _ h _ => h, fun _ h => h, at0.good.sub⟩, ⟨by rw [List.length_set]; exact at0.env.len, fun m s hs => ?_, fun x y q s t hx hy sx sy _ _ => ?_⟩⟩, fun w2 j2 a2 => ?_⟩
  · have e : p = q := Option.some.inj hq
    rw [← e]
    exact ⟨h3, h5⟩
  · by_cases e : i = m
    · subst e
      rw [List.getElem?_set_self il] at hs
      rw [← Option.some.inj hs]
      exact ⟨_, h1, p, rfl, rfl⟩
    · rw [List.getElem?_set_ne e] at hs
      obtain ⟨u, k1, k2⟩ := at0.env.at_ m s hs
      refine ⟨u, k1, ?_⟩
      cases s with
      | un => trivial
      | im B y => exact k2
      | mu B ys => exact absurd (hn m _ hs rfl).symm e
      | ja =>
        obtain ⟨q, e1, _⟩ := k2
        rw [hk] at e1
        cases e1
      | bo B ys =>
        obtain ⟨q, us, e1, e2, e3⟩ := k2
        exact ⟨q, us, e1, fun w' l' => e2 w' (up l'), e3⟩
  · by_cases e : i = x
    · subst e
      rw [List.getElem?_set_self il] at hx
      rw [← Option.some.inj hx] at sx
      cases sx
    · rw [List.getElem?_set_ne e] at hx
      exact absurd (hn x s hx sx).symm e
  · have le2 := up a2.le
    obtain ⟨j1, j3⟩ := a2.good.jar p rfl
    rw [a2.jar] at j1
    refine ⟨⟨⟨a2.good.sub, fun q hq => (by rw [hk] at hq; cases hq), a2.good.tabs, a2.good.lams⟩, at0.jar, ⟨le2.keep, le2.sub, le2.new, le2.there, le2.sh⟩, ⟨by rw [List.length_set]; exact at0.env.len, fun m s hs => ?_, fun x y q s t hx hy sx sy _ _ => ?_⟩⟩, a2.le.sub⟩
    · by_cases e : i = m
      · subst e
        rw [List.getElem?_set_self il] at hs
        rw [← Option.some.inj hs]
        exact ⟨_, h1, p, _, rfl, j1, ⟨rfl, rfl, trivial⟩, j3, h6, h7⟩
      · rw [List.getElem?_set_ne e] at hs
        obtain ⟨u, k1, k2⟩ := at0.env.at_ m s hs
        refine ⟨u, k1, ?_⟩
        cases s with
        | un => trivial
        | im B y =>
          obtain ⟨v, e1, e2⟩ := k2
          exact ⟨v, e1, B.up a2.le.sub e2⟩
        | mu B ys => exact absurd (hn m _ hs rfl).symm e
        | ja =>
          obtain ⟨q, e1, _⟩ := k2
          rw [hk] at e1
          cases e1
        | bo B ys =>
          obtain ⟨q, us, e1, e2, e3⟩ := k2
          exact ⟨q, us, e1, e2, e3.up a2.le.sub⟩
    · have one : ∀ (m : Nat) (s : Slot K), (Γ.set i (.mu rInt [j2.1, j2.2]))[m]? = some s → s.isMu = true → m = i := fun m s hs hm => by
        by_cases e : i = m
        · exact e.symm
        · rw [List.getElem?_set_ne e] at hs
          exact hn m s hs hm
      rw [one x s hx sx, one y t hy sy]
end
section
variable {X : Cx} {k : Kx} {w0 : Wd} {Γ : List (Slot X.K)} {j j2 : Int × Int} {e c : Expr} {α δ : Type} {A : RT X.K α} {x : α} {pos p2 : Pos} {a b : Int} {R : RtT X.K δ} {P : Po X.K δ} {rest sa sb : List Stmt}
/-- every slot but i is no list of our own -/
def OneMu {K : PySem.W.Frag} (Γ : List (Slot K)) (i : Nat) : Prop := ∀ (m : Nat) (s : Slot K), Γ[m]? = some s → s.isMu = true → m = i
theorem ev_root (hk : k.jp = none) (i : Nat) (hi : Γ[i]? = some (.mu rInt [a, b])) (hn : OneMu Γ i) (h : ∀ p w1, EvD X ⟨k.T, some p⟩ w1 (Γ.set i .ja) (a, b) e A x j2) : ∀ σ w, At X.K k w0 Γ σ w j → ∀ Q : VK, (∀ v w2, At X.K k w0 (Γ.set i (.mu rInt [j2.1, j2.2])) σ w2 j → Sub w.S w2.S → A.r w2.S v x → Q v w2.H) → WE X e σ w.H Q := fun σ w at0 Q q => by
  obtain ⟨p, a1, back⟩ := at0.root hk hi hn
  refine h p _ σ _ a1 Q fun v w2 a2 e2 r2 => ?_
  obtain ⟨a3, s3⟩ := back w2 j2 a2
  exact q v ⟨w2.S, w2.H, w.j⟩ a3 s3 r2
theorem et_root {u : Bool} (hk : k.jp = none) (i : Nat) (hi : Γ[i]? = some (.mu rInt [a, b])) (hn : OneMu Γ i) (h : ∀ p w1, EvT X ⟨k.T, some p⟩ w1 (Γ.set i .ja) (a, b) e u j2) : ∀ σ w, At X.K k w0 Γ σ w j → ∀ Q : Bool → Hp → Prop, (∀ w2, At X.K k w0 (Γ.set i (.mu rInt [j2.1, j2.2])) σ w2 j → Sub w.S w2.S → Q u w2.H) → WT X e σ w.H Q := fun σ w at0 Q q => by
  obtain ⟨p, a1, back⟩ := at0.root hk hi hn
  refine h p _ σ _ a1 Q fun w2 a2 e2 => ?_
  obtain ⟨a3, s3⟩ := back w2 j2 a2
  exact q ⟨w2.S, w2.H, w.j⟩ a3 s3
/-- if c: .., c with the jar -/
theorem hb_ifJ {u : Bool} (hk : k.jp = none) (i : Nat) (hi : Γ[i]? = some (.mu rInt [a, b])) (hn : OneMu Γ i) (hc : ∀ p w1, EvT X ⟨k.T, some p⟩ w1 (Γ.set i .ja) (a, b) c u j2)
    (ha : u = true → HB X k w0 R (Γ.set i (.mu rInt [j2.1, j2.2])) j sa (P.then k w0 R rest)) (hb : u = false → HB X k w0 R (Γ.set i (.mu rInt [j2.1, j2.2])) j sb (P.then k w0 R rest)) : HB X k w0 R Γ j (.If c sa sb pos :: rest) P := hb_cons fun σ w at0 D l =>
  W1.of (ps_if pt_self pss_self pss_self) (et_root hk i hi hn hc σ w at0 _ fun w2 a2 s2 => by
    cases u with
    | true => exact ha rfl σ w2 a2 D (l.up s2)
    | false => exact hb rfl σ w2 a2 D (l.up s2))
/-- name = e, e with the jar -/
theorem hb_setJ (ok : CxOk X) (hk : k.jp = none) (i m : Nat) {n : Str} (hi : Γ[i]? = some (.mu rInt [a, b])) (hn : OneMu Γ i) (hN : X.N[m]? = some n) (hl : Loc X.env.scope n) (hc : ∀ p w1, EvD X ⟨k.T, some p⟩ w1 (Γ.set i .ja) (a, b) e A x j2)
    (hr : HB X k w0 R ((Γ.set i (.mu rInt [j2.1, j2.2])).set m (.im A x)) j rest P) (hs : swapsWith e (some (.Name n p2)) pos.line X.env = pure false := by rfl) (hf : X.fn n = true ∨ X.env.scope.names.lookup n = some .local := by first | exact .inl rfl | exact .inr rfl) : HB X k w0 R Γ j (.Assign [.Name n p2] e pos :: rest) P := hb_cons fun σ w at0 D l =>
  W1.of (ps_set ok.nd hN hl pe_self hs hf) (ev_root hk i hi hn hc σ w at0 _ fun v w2 a2 s2 r2 => l.nx _ _ w2 j (a2.set m r2) s2 hr)
/-- return e, e with the jar -/
theorem hb_retJ {A : RT X.K δ} {x : δ} (hk : k.jp = none) (i : Nat) (hi : Γ[i]? = some (.mu rInt [a, b])) (hn : OneMu Γ i) (hc : ∀ p w1, EvD X ⟨k.T, some p⟩ w1 (Γ.set i .ja) (a, b) e A x j2) {P : Po X.K δ} (hp : P.rt x j) : HB X k w0 (rtD A) Γ j (.Return (some e) pos :: rest) P := hb_cons fun σ w at0 D l =>
  W1.of (ps_ret pe_self) (ev_root hk i hi hn hc σ w at0 D.rt fun v w2 a2 s2 r2 => l.rt v w2 x a2.good a2.le r2 (by rw [a2.jar]; exact hp))
end
end Fm
set_option maxHeartbeats 1000000
/-! W35: the law itself. -/
namespace Fm
open PySem PySem.Spec PyProof.Rows L2
open PySem.W (alike alikeAll dataLt Sortable)
/-- the law's promise -/
def SpLaw {K : PySem.W.Frag} (T : Tbs) : Sp := fun vs H Q _ => ∃ (i : List Int) (k : Kx) (w : Wd), k.T = T ∧ k.jp = none ∧ w.H = H ∧ Good k w ∧ ArgsOk K k w [.bo rInt i] vs ∧ ∀ H', Q (.bl true) H'
theorem def_law {Pg : Program} {w : World} {K : PySem.W.Frag} {mg : Str → Option Value} {base : Heap} {x qual : Str} {params : Arguments} {body : List Stmt} {scope : Scope} {fa : Addr} {fd : FuncData} {N ps : List Str} {T : Tbs} {lev : Nat} (F : FunD K x qual params body scope [] [] fa fd) (S : FnScope N ps scope) (hps : ps.length = 1) (hle : 1 ≤ N.length) (hblt : ∀ n ∈ bltNames, mg n = none)
    (hb : ∀ (cdv : Value) (Ar : Around) (outer : List Env) (s : Shared) (H : Hp) (E : XK), fd.code = cdv → CxOk (DX Pg w K mg base N qual scope fa cdv Ar outer s H E) → Room lev (DX Pg w K mg base N qual scope fa cdv Ar outer s H E).A → ∀ (i : List Int) (k : Kx) (w0 : Wd) (j : Int × Int), k.T = T → k.jp = none →
      HB (DX Pg w K mg base N qual scope fa cdv Ar outer s H E) k w0 (rtD rBl) (ent N [.bo rInt i]) j body (Fin K (true, j))) : FnG Pg w K mg base (lev + 1) fa fd ps (SpLaw (K := K) T) := by
  obtain ⟨oc, od, dV, kV, doc, pm, an, cdv, ct, osl, rfl, lk, hcd, _, _⟩ := F.ex
  have len : ∀ vs H Q E, (SpLaw (K := K) T) vs H Q E → vs.length = ps.length := fun vs H Q E ⟨i, k, wd, _, _, _, _, ha, _⟩ => by rw [argsOk_len ha, hps]; rfl
  refine ⟨len, fun Ar outer s H args us vs Q E hr0 hgd e0 hbd r h => LamX.run_ofS lk hcd S hr0 e0 hbd r (len _ _ _ _ h) fun hr => ⟨_, PSs.nox pss_self, ?_⟩⟩
  obtain ⟨i, k, wd, ht, hj, rfl, g, ha, hq⟩ := h
  refine hb cdv Ar outer s wd.H E rfl ⟨rfl, S.nd, PassesOwn.never, hblt, ?_, hgd⟩ hr i k wd wd.j ht hj _ wd (at_start g ha hle) _ ⟨fun _ _ _ _ _ _ z => z.elim, fun v w2 y g2 l2 r2 z => ?_, fun _ _ _ _ _ _ z => z.elim, fun _ _ _ _ _ _ z => z.elim⟩
  · have := hr.un
    show (Ar.deeper _).units + 65 < cLine
    omega
  · obtain ⟨z1, _⟩ := z
    subst z1
    have r2 : v = .bl true := r2
    rw [r2]
    exact hq w2.H
section
variable {X : Cx} {k : Kx} {w0 : Wd} {Γ : List (Slot X.K)} {j j1 j2 : Int × Int} {a b : Expr} {es : List Expr} {pos : Pos}
theorem d_orF {v : Bool} (h : EvD X k w0 Γ j a rBl false j1) (h2 : EvD X k w0 Γ j1 (.BoolOp .Or (b :: es) pos) rBl v j2) : EvD X k w0 Γ j (.BoolOp .Or (a :: b :: es) pos) rBl v j2 := fun σ w at0 Q q =>
  WE.of (pe_or pe_self pe_self) (h σ w at0 _ fun z w1 a1 e1 r1 => ⟨false, r1, h2 σ w1 a1 Q fun t w2 a2 e2 r2 => q t w2 a2 (e1.trans e2) r2⟩)
end
theorem oneMu5 {K : PySem.W.Frag} {a b c d e : Slot K} (ha : a.isMu = false) (hb : b.isMu = false) (hd : d.isMu = false) (he : e.isMu = false) : OneMu [a, b, c, d, e] 2 := by
  intro m s hs hm
  match m, hs with
  | 0, hs => rw [← Option.some.inj hs, ha] at hm; cases hm
  | 1, hs => rw [← Option.some.inj hs, hb] at hm; cases hm
  | 2, _ => rfl
  | 3, hs => rw [← Option.some.inj hs, hd] at hm; cases hm
  | 4, hs => rw [← Option.some.inj hs, he] at hm; cases hm
  | m + 5, hs => cases hs
def lim3 (m : Nat) : Int := ([4, 6, 7] : List Int).getD m 0
section
variable {Pg : Program} {w : World} {K : PySem.W.Frag} {mg : Str → Option Value} {base : Heap} {fa : Addr} {fd : FuncData} {T : Tbs} {lev : Nat}
theorem ok101 (hblt : ∀ n ∈ bltNames, mg n = none) (h60 : Has Pg w K mg base lev "_law_pool" ["script", "k"] (S60 (K := K) T)) (h61 : Has Pg w K mg base lev "_law_take" ["jar", "top"] (S61 (K := K) T)) (h78 : Has Pg w K mg base lev "_law_tree" ["nest"] (S78 (K := K) T)) (h87 : Has Pg w K mg base lev "_law_some_nest" ["jar", "least_n", "limit"] (S87 (K := K) T)) (h100 : Has Pg w K mg base lev "_law_nest_right" ["jar", "nest"] (S100 (K := K) T)) (F : FnP K "law" (top 101) fa fd) : FnG Pg w K mg base (lev + 1) fa fd ["script"] (SpLaw (K := K) T) := by
  refine def_law F (N := ["script", "turn", "jar", "nest", "kids"]) ⟨rfl, rfl, rfl, by decide +kernel, rfl, by decide +kernel, by decide +kernel⟩ rfl (by decide) hblt fun cdv Ar outer s0 H E hcd ok hr sc k w0 j ht hjp => ?_
  have htp : ∀ p : Addr, (⟨k.T, some p⟩ : Kx).T = T := fun _ => ht
  refine hb_forJ (τ := {x : Slot K // x.isMu = false} × Slot K) ok (fun m s => [.bo rInt sc, s.1.1, s.2, .un, .un]) (fun _ => j) (rg1 ok (m := 3) d_int (by decide)) (tg_name 1 ok.nd rfl (.inl rfl)) ⟨(⟨.un, rfl⟩, .un), rfl⟩ rfl (fun m x s hx => ?_) fun s => ?_
  · have hm : m < 3 := (List.getElem?_eq_some_iff.mp hx).1
    rw [rangeI_get (by omega)] at hx
    have ex : 0 + ((m : Nat) : Int) = x := Option.some.inj hx
    have ex' : ((m : Nat) : Int) = x := by omega
    subst ex'
    have hp := pool_ok sc ((m : Nat) : Int)
    have hlim : ([4, 6, 7] : List Int)[((m : Nat) : Int).toNat]? = some (lim3 m) ∧ 1 ≤ lim3 m ∧ lim3 m ≤ 7 := by
      rw [Int.toNat_natCast]
      match m, hm with
      | 0, _ => exact ⟨rfl, by decide, by decide⟩
      | 1, _ => exact ⟨rfl, by decide, by decide⟩
      | 2, _ => exact ⟨rfl, by decide, by decide⟩
    obtain ⟨d1, d2, d3⟩ := draw_nest (l := 1) (m := lim3 m) (j := poolI sc ((m : Nat) : Int)) (by decide) hlim.2.1 (by omega) hp
    refine st_ ok (s := .mu rInt [(poolI sc ((m : Nat) : Int)).1, (poolI sc ((m : Nat) : Int)).2]) 2 (x_m (m_call h60 hr ok.gd (sc, ((m : Nat) : Int)) ⟨by show 0 ≤ ((m : Nat) : Int); omega, by show ((m : Nat) : Int) ≤ 1000; omega⟩ ht (a_bo (bb 0) (a_im (dv 1) a_nil)))) ?_
    refine hb_ifJ (u := false) (Γ := [.bo rInt sc, .im rInt ((m : Nat) : Int), .mu rInt [(poolI sc ((m : Nat) : Int)).1, (poolI sc ((m : Nat) : Int)).2], .un, .un]) (j2 := jarN (drawI 1 (lim3 m) (poolI sc ((m : Nat) : Int))).1.1 (drawI 1 (lim3 m) (poolI sc ((m : Nat) : Int))).1.2 (drawI 1 (lim3 m) (poolI sc ((m : Nat) : Int))).2) hjp 2 rfl (oneMu5 rfl rfl rfl rfl) (fun p w1 => t_not (u := true) (t_of (d_call h100 hr ok.gd (drawI 1 (lim3 m) (poolI sc ((m : Nat) : Int))).1 ⟨(nest7_of d2 (by omega)).law, d3⟩ (htp p) (a_ja 2 rfl rfl (.inl rfl) (a_im (d_call h87 hr ok.gd (1, lim3 m) ⟨by show (1 : Int) ≤ 1; decide, hlim.2.1, by show lim3 m ≤ 16; omega, hp⟩ (htp p) (a_ja 2 rfl rfl (.inl rfl) (a_im d_int (a_im (d_ixB (m_lst (r_cons d_int (r_cons d_int (r_cons d_int r_nil))) (by show 3 ≤ 100000; decide)).toB (dv 1) (by omega) hlim.1) a_nil)))) a_nil))))) (fun hu => nomatch hu) fun _ => hb_nil (hb_nil ⟨⟨(⟨_, rfl⟩, _), rfl⟩, rfl⟩)
  · have hp := pool_ok sc 3
    have t := take_ok hp (t := 6) (by decide)
    refine st_ ok (s := .mu rInt [(poolI sc 3).1, (poolI sc 3).2]) 2 (x_m (m_call h60 hr ok.gd (sc, 3) ⟨by show (0 : Int) ≤ 3; decide, by show (3 : Int) ≤ 1000; decide⟩ ht (a_bo (bb 0) (a_im d_int a_nil)))) ?_
    refine hb_ifJ (u := decide (0 < (takeI (poolI sc 3) 6).1)) (Γ := [.bo rInt sc, s.1.1, .mu rInt [(poolI sc 3).1, (poolI sc 3).2], .un, .un]) (j2 := (takeI (poolI sc 3) 6).2) hjp 2 rfl (oneMu5 rfl s.1.2 rfl rfl) (fun p w1 => t_c (d_gt (d_call h61 hr ok.gd 6 ⟨by decide, by decide, hp⟩ (htp p) (a_ja 2 rfl rfl (.inl rfl) (a_im d_int a_nil))) d_int)) (fun _ => ?r1) fun _ => hb_nil ?r2
    case r1 => exact hb_ret d_bl ⟨rfl, rfl⟩
    obtain ⟨d1, d2, d3⟩ := draw_nest (l := 8) (m := 16) (j := (takeI (poolI sc 3) 6).2) (by decide) (by decide) (by decide) t.1
    refine hb_setJ (Γ := [.bo rInt sc, s.1.1, .mu rInt [(takeI (poolI sc 3) 6).2.1, (takeI (poolI sc 3) 6).2.2], .un, .un]) (A := rBk) (x := (drawI 8 16 (takeI (poolI sc 3) 6).2).1) (j2 := (drawI 8 16 (takeI (poolI sc 3) 6).2).2) ok hjp 2 3 rfl (oneMu5 rfl s.1.2 rfl rfl) rfl (.inl rfl) (fun p w1 => d_call h87 hr ok.gd (8, 16) ⟨by show (1 : Int) ≤ 8; decide, by show (8 : Int) ≤ 16; decide, by show (16 : Int) ≤ 16; decide, t.1⟩ (htp p) (a_ja 2 rfl rfl (.inl rfl) (a_im d_int (a_im d_int a_nil)))) ?_
    generalize drawI 8 16 (takeI (poolI sc 3) 6).2 = D at d1 d2 d3
    obtain ⟨⟨n, sp⟩, jd⟩ := D
    have d2 : Nest n sp := d2
    have d3 : JOk jd := d3
    have hl := d2.l2
    have hl1 := d2.l1
    let ns : List Int := (treeI sp).map fun kids => ((kids.length : Nat) : Int)
    obtain ⟨mx, hmx⟩ : ∃ mx, ns.max? = some mx := Option.isSome_iff_exists.mp (List.isSome_max?_of_ne_nil fun z => by
      have := congrArg List.length z
      rw [List.length_map, treeI_len, List.length_nil] at this
      omega)
    have hmz := (List.max?_eq_some_iff (α := Int)).mp hmx
    by_cases hbig : 7 < mx
    · refine hb_retJ (X := DX Pg w K mg base ["script", "turn", "jar", "nest", "kids"] "law" (defScope (top 101)) fa cdv Ar outer s0 H E) (A := rBl) (P := Fin K (true, j)) (Γ := [.bo rInt sc, s.1.1, .mu rInt [jd.1, jd.2], .im rBk (n, sp), .un]) (x := true) (j2 := jd) hjp 2 rfl (by exact oneMu5 rfl s.1.2 rfl rfl) (fun p w1 => ?_) (by exact ⟨rfl, rfl⟩)
      refine EvD.is2 (d_or (u := true) (v := true) (EvD.is2 (d_gt (d_maxI ok (ns := ns) (LcD.m (lc_map (A := rLst rInt) (B := rInt) (xs := treeI sp) (own := [("kids", 4)]) (fun kids => ((kids.length : Nat) : Int)) (blk_at ["script", "turn", "jar", "nest", "kids"] (defScope (top 101)) ⟨rfl, by decide +kernel, by decide +kernel, by decide +kernel, by decide +kernel⟩) (i_lst (m_call h78 hr ok.gd (n, sp) d2.nestK (htp p) (a_im (dv 3) a_nil)).toB) (tc_name 4 ok.nd rfl rfl) (by rw [treeI_len]; omega) fun kd hk s2 H C cl fp => d_lenB (by exact ok.blk _ _ _ _ _ _) (dv 4).toB) rfl ok.nd).toB hmx) d_int) (decide_eq_true hbig) rfl) fun z => nomatch z) rfl rfl
    · have hfew : ∀ k, InR sp k → (kidsI sp k).length ≤ 7 := fun k hk => by
        have hm : ((((kidsI sp k).length : Nat)) : Int) ∈ ns := List.mem_map.mpr ⟨kidsI sp k, tree_row.mpr ⟨k, hk, rfl⟩, rfl⟩
        have := hmz.2 _ hm
        omega
      have h7 : Nest7 n sp := ⟨d2, hfew⟩
      refine hb_retJ (X := DX Pg w K mg base ["script", "turn", "jar", "nest", "kids"] "law" (defScope (top 101)) fa cdv Ar outer s0 H E) (A := rBl) (P := Fin K (true, j)) (Γ := [.bo rInt sc, s.1.1, .mu rInt [jd.1, jd.2], .im rBk (n, sp), .un]) (x := true) (j2 := jarN n sp jd) hjp 2 rfl (by exact oneMu5 rfl s.1.2 rfl rfl) (fun p w1 => ?_) (by exact ⟨rfl, rfl⟩)
      refine d_orF (EvD.is2 (d_gt (d_maxI ok (ns := ns) (LcD.m (lc_map (A := rLst rInt) (B := rInt) (xs := treeI sp) (own := [("kids", 4)]) (fun kids => ((kids.length : Nat) : Int)) (blk_at ["script", "turn", "jar", "nest", "kids"] (defScope (top 101)) ⟨rfl, by decide +kernel, by decide +kernel, by decide +kernel, by decide +kernel⟩) (i_lst (m_call h78 hr ok.gd (n, sp) d2.nestK (htp p) (a_im (dv 3) a_nil)).toB) (tc_name 4 ok.nd rfl rfl) (by rw [treeI_len]; omega) fun kd hk s2 H C cl fp => d_lenB (by exact ok.blk _ _ _ _ _ _) (dv 4).toB) rfl ok.nd).toB hmx) d_int) (decide_eq_false hbig) rfl) (d_one (d_call h100 hr ok.gd (n, sp) ⟨h7.law, d3⟩ (htp p) (a_ja 2 rfl rfl (.inl rfl) (a_im (dv 3) a_nil))))
end
end Fm
set_option maxHeartbeats 1000000
/-! C1: the chain of the defs, bottom to top. -/
namespace Fm
open PySem PySem.Spec PyProof.Rows L2
/-- def i of the top, where it stands -/
def Is (K : PySem.W.Frag) (mg : Str → Option Value) (x : Str) (i : Nat) (ps : List Str) : Prop := ∃ f fd, FnP K x (top i) f fd ∧ mg x = some (.ref f) ∧ Binds K fd ps []
/-- .. and its table -/
def IsT (K : PySem.W.Frag) (mg : Str → Option Value) (x : Str) (i : Nat) (ps : List Str) (C : FuncData → Prop) : Prop := ∃ f fd, FnP K x (top i) f fd ∧ mg x = some (.ref f) ∧ Binds K fd ps [] ∧ C fd
/-- what the head leaves, as the walks ask for it -/
structure Hd (K : PySem.W.Frag) (mg : Str → Option Value) (base : Heap) (T : Tbs) : Prop where
  hblt : ∀ n ∈ bltNames, mg n = none
  hgc : mg "gcd" = some (.builtin "math.gcd")
  hno : Glob (K := K) mg "NOUGHT" rQ 0
  hone : Glob (K := K) mg "ONE" rQ 1
  hmc : Glob (K := K) mg "MOST_COLUMNS" rInt 16
  hms : Glob (K := K) mg "MOST_SPANS" rInt 40
  i9 : Is K mg "is_whole" 9 ["thing"]
  i10 : Is K mg "is_between" 10 ["thing", "least", "most"]
  i11 : Is K mg "is_below" 11 ["thing", "bound"]
  i12 : Is K mg "is_two" 12 ["thing"]
  i13 : Is K mg "common_divisor" 13 ["one", "two"]
  i14 : Is K mg "reduced" 14 ["p", "q"]
  i15 : Is K mg "added" 15 ["one", "two"]
  i16 : Is K mg "taken" 16 ["one", "two"]
  i17 : Is K mg "multiplied" 17 ["one", "two"]
  i18 : Is K mg "divided" 18 ["one", "two"]
  i19 : Is K mg "is_less" 19 ["one", "two"]
  i20 : Is K mg "greater_of" 20 ["one", "two"]
  i21 : Is K mg "sum_up" 21 ["fractions"]
  i22 : Is K mg "greatest_of" 22 ["fractions"]
  i26 : Is K mg "is_rising" 26 ["n", "thing"]
  i27 : Is K mg "order_of" 27 ["span"]
  i28 : Is K mg "has_form" 28 ["thing"]
  i29 : Is K mg "wrong_span" 29 ["n", "spans"]
  i30 : Is K mg "made_book" 30 ["thing"]
  i31 : Is K mg "made_number" 31 ["book", "number"]
  i32 : IsT K mg "share_columns" 32 ["one", "two"] fun fd => TabH fd T base mg
  i34 : IsT K mg "lies_in" 34 ["one", "two"] fun fd => TabH fd T base mg
  i35 : Is K mg "do_cross" 35 ["one", "two"]
  i36 : Is K mg "crossing_in" 36 ["spans"]
  i37 : Is K mg "within_in" 37 ["spans", "number"]
  i38 : IsT K mg "outermost_in" 38 ["spans", "numbers"] fun fd => TabH fd T base mg
  i39 : Is K mg "children_in" 39 ["spans", "number"]
  i40 : Is K mg "tops_in" 40 ["spans"]
  i41 : Is K mg "crossing" 41 ["book"]
  i42 : Is K mg "made_nest" 42 ["thing"]
  i44 : Is K mg "falling" 44 ["lot"]
  i45 : Is K mg "level_of" 45 ["prices"]
  i46 : Is K mg "prices_in" 46 ["spans"]
  i47 : Is K mg "active_in" 47 ["spans", "prices", "number"]
  i48 : Is K mg "page_price_in" 48 ["spans"]
  i49 : Is K mg "price" 49 ["nest", "number"]
  i50 : Is K mg "page_price" 50 ["nest"]
  i51 : Is K mg "dear_in" 51 ["spans"]
  i52 : Is K mg "dear_top" 52 ["nest"]
  i54 : Is K mg "tree_in" 54 ["n", "spans"]
  i55 : Is K mg "tree_shares" 55 ["nest"]
  i57 : Is K mg "scripts_from" 57 ["spans", "prices", "number"]
  i58 : Is K mg "scripts" 58 ["nest"]
  i60 : Is K mg "_law_pool" 60 ["script", "k"]
  i61 : Is K mg "_law_take" 61 ["jar", "top"]
  i62 : Is K mg "_law_one" 62 ["jar", "things"]
  i63 : Is K mg "_law_mixed" 63 ["jar", "things"]
  i64 : Is K mg "_law_is_number" 64 ["thing"]
  i65 : Is K mg "_law_gcd" 65 ["a", "b"]
  i66 : Is K mg "_law_frac" 66 ["p", "q"]
  i67 : Is K mg "_law_plus" 67 ["one", "two"]
  i68 : Is K mg "_law_times" 68 ["one", "two"]
  i69 : Is K mg "_law_over_by" 69 ["one", "two"]
  i70 : Is K mg "_law_below" 70 ["one", "two"]
  i71 : Is K mg "_law_greatest" 71 ["rows"]
  i72 : Is K mg "_law_sum_all" 72 ["rows"]
  i73 : Is K mg "_law_is_fraction" 73 ["thing"]
  i74 : Is K mg "_law_is_row" 74 ["thing", "n"]
  i75 : IsT K mg "_law_in_order" 75 ["spans"] fun fd => TabL fd T base mg "_law_in_order.<locals>.<lambda>"
  i76 : Is K mg "_law_make_book" 76 ["n", "spans"]
  i77 : Is K mg "_law_within" 77 ["one", "two"]
  i78 : Is K mg "_law_tree" 78 ["nest"]
  i79 : Is K mg "_law_roots" 79 ["nest"]
  i80 : Is K mg "_law_live_kids" 80 ["kids", "rows", "k"]
  i81 : Is K mg "_law_felt_at" 81 ["book", "shares", "d"]
  i82 : Is K mg "_law_own_texts" 82 ["columns"]
  i83 : Is K mg "_law_cut_ends" 83 ["jar", "start", "stop", "way"]
  i84 : Is K mg "_law_nest_over" 84 ["jar", "n", "order"]
  i85 : Is K mg "_law_any_nest" 85 ["jar", "n"]
  i86 : Is K mg "_law_shape_nest" 86 ["jar", "n"]
  i87 : Is K mg "_law_some_nest" 87 ["jar", "least_n", "limit"]
  i88 : Is K mg "_law_any_share" 88 ["jar", "n", "span"]
  i89 : Is K mg "_law_any_shares" 89 ["jar", "book"]
  i90 : Is K mg "_law_lots_of" 90 ["things"]
  i91 : Is K mg "_law_lot_worth" 91 ["rows", "lot"]
  i92 : Is K mg "_law_prices_by_lots" 92 ["tree"]
  i93 : Is K mg "_law_paths_by" 93 ["tree", "picks", "k"]
  i94 : Is K mg "_law_mean_worth" 94 ["paths"]
  i95 : Is K mg "_law_scripts_right" 95 ["nest", "tree", "rows", "root"]
  i96 : Is K mg "_law_picked_right" 96 ["jar", "tree", "rows"]
  i97 : Is K mg "_law_worst_of" 97 ["nest", "shares"]
  i98 : Is K mg "_law_are_shares" 98 ["nest", "thing"]
  i99 : Is K mg "_law_shares_right" 99 ["jar", "nest", "page"]
  i100 : Is K mg "_law_nest_right" 100 ["jar", "nest"]
section
variable {Pg : Program} {w : World} {K : PySem.W.Frag} {mg : Str → Option Value} {base : Heap} {T : Tbs} {lev : Nat} {x : Str} {i : Nat} {ps : List Str} {sp : Sp}
theorem mk_has (I : Is K mg x i ps) (G : ∀ {fa fd}, FnP K x (top i) fa fd → FnG Pg w K mg base lev fa fd ps sp) : Has Pg w K mg base lev x ps sp := by
  obtain ⟨f, fd, F, hm, hb⟩ := I
  exact has_of F (G F) hm hb (Nat.le_refl _)
theorem mk_hasR (I : Is K mg x i ps) (G : ∀ {fa fd}, FnP K x (top i) fa fd → mg x = some (.ref fa) → Binds K fd ps [] → FnG Pg w K mg base lev fa fd ps sp) : Has Pg w K mg base lev x ps sp := by
  obtain ⟨f, fd, F, hm, hb⟩ := I
  exact has_of F (G F hm hb) hm hb (Nat.le_refl _)
theorem mk_hasT {C : FuncData → Prop} (I : IsT K mg x i ps C) (G : ∀ {fa fd}, FnP K x (top i) fa fd → C fd → FnG Pg w K mg base lev fa fd ps sp) : Has Pg w K mg base lev x ps sp := by
  obtain ⟨f, fd, F, hm, hb, hc⟩ := I
  exact has_of F (G F hc) hm hb (Nat.le_refl _)
theorem has_up {lev' : Nat} (h : Has Pg w K mg base lev x ps sp) (hl : lev ≤ lev') : Has Pg w K mg base lev' x ps sp := by
  obtain ⟨f, fd, a, b, c, e⟩ := h.ex
  exact ⟨f, fd, a.mono hl, b, c, e⟩
theorem chain {fa : Addr} {fd : FuncData} (c : Hd K mg base T) (F : FnP K "law" (top 101) fa fd) : FnG Pg w K mg base 56 fa fd ["script"] (SpLaw (K := K) T) := by
  have h60 : Has Pg w K mg base 1 "_law_pool" ["script", "k"] (S60 (K := K) T) := mk_has c.i60 fun F => ok60 (lev := 0) (T := T) c.hblt F
  have h61 : Has Pg w K mg base 1 "_law_take" ["jar", "top"] (S61 (K := K) T) := mk_has c.i61 fun F => ok61 (lev := 0) (T := T) c.hblt F
  have h77 : Has Pg w K mg base 1 "_law_within" ["one", "two"] (SpD (K := K) T (fun i : List Int × List Int => [.im rSpn i.1, .im rSpn i.2]) (fun i _ => i.1.length ≤ 1000) rBl (fun i j => (liesB i.1 i.2, j))) := mk_has c.i77 fun F => ok77 (lev := 0) (T := T) c.hblt F
  have h78 : Has Pg w K mg base 2 "_law_tree" ["nest"] (S78 (K := K) T) := mk_has c.i78 fun F => ok78 (lev := 1) (T := T) c.hblt h77 F
  have h63 : Has Pg w K mg base 2 "_law_mixed" ["jar", "things"] (S63 (K := K) T) := mk_has c.i63 fun F => ok63 (lev := 1) (T := T) c.hblt h61 F
  have h75 : Has Pg w K mg base 4 "_law_in_order" ["spans"] (S75 (K := K) T) := mk_hasT c.i75 fun F hT => ok75 (lev := 0) (T := T) c.hblt hT F
  have h76 : Has Pg w K mg base 5 "_law_make_book" ["n", "spans"] (S76 (K := K) T) := mk_has c.i76 fun F => ok76 (lev := 4) (T := T) c.hblt h75 F
  have h83 : Has Pg w K mg base 1 "_law_cut_ends" ["jar", "start", "stop", "way"] (S83 (K := K) T) := mk_has c.i83 fun F => ok83 (lev := 0) (T := T) c.hblt F
  have h84 : Has Pg w K mg base 6 "_law_nest_over" ["jar", "n", "order"] (S84 (K := K) T) := mk_has c.i84 fun F => ok84 (lev := 5) (T := T) c.hblt (has_up h61 (by decide)) h76 (has_up h83 (by decide)) F
  have h85 : Has Pg w K mg base 7 "_law_any_nest" ["jar", "n"] (S85 (K := K) T) := mk_has c.i85 fun F => ok85 (lev := 6) (T := T) c.hblt (has_up h63 (by decide)) h84 F
  have h82 : Has Pg w K mg base 1 "_law_own_texts" ["columns"] (S82 (K := K) T) := mk_has c.i82 fun F => ok82 (lev := 0) (T := T) c.hblt F
  have h86 : Has Pg w K mg base 6 "_law_shape_nest" ["jar", "n"] (S86 (K := K) T) := mk_has c.i86 fun F => ok86 (lev := 5) (T := T) c.hblt (has_up h61 (by decide)) h76 (has_up h82 (by decide)) F
  have h87 : Has Pg w K mg base 8 "_law_some_nest" ["jar", "least_n", "limit"] (S87 (K := K) T) := mk_has c.i87 fun F => ok87 (lev := 7) (T := T) c.hblt (has_up h61 (by decide)) h85 (has_up h86 (by decide)) F
  have h9 : Has Pg w K mg base 1 "is_whole" ["thing"] (S9 (K := K) T) := mk_has c.i9 fun F => ok9 (lev := 0) (T := T) c.hblt F
  have h10 : Has Pg w K mg base 2 "is_between" ["thing", "least", "most"] (S10 (K := K) T) := mk_has c.i10 fun F => ok10 (lev := 1) (T := T) c.hblt h9 F
  have h11 : Has Pg w K mg base 3 "is_below" ["thing", "bound"] (S11 (K := K) T) := mk_has c.i11 fun F => ok11 (lev := 2) (T := T) c.hblt h10 F
  have h31 : Has Pg w K mg base 4 "made_number" ["book", "number"] (S31 (K := K) T) := mk_has c.i31 fun F => ok31 (lev := 3) (T := T) c.hblt h11 F
  have h12 : Has Pg w K mg base 1 "is_two" ["thing"] (S12 (K := K) T) := mk_has c.i12 fun F => ok12 (lev := 0) (T := T) c.hblt F
  have h28 : Has Pg w K mg base 3 "has_form" ["thing"] (S28 (K := K) T) := mk_has c.i28 fun F => ok28 (lev := 2) (T := T) c.hblt c.hmc c.hms h10 (has_up h12 (by decide)) F
  have h26 : Has Pg w K mg base 4 "is_rising" ["n", "thing"] (S26 (K := K) T) := mk_has c.i26 fun F => ok26 (lev := 3) (T := T) c.hblt h11 F
  have h27 : Has Pg w K mg base 1 "order_of" ["span"] (S27 (K := K) T) := mk_has c.i27 fun F => ok27 (lev := 0) (T := T) c.hblt F
  have h29 : Has Pg w K mg base 5 "wrong_span" ["n", "spans"] (S29 (K := K) T) := mk_has c.i29 fun F => ok29 (lev := 4) (T := T) c.hblt h26 (has_up h27 (by decide)) F
  have h30 : Has Pg w K mg base 6 "made_book" ["thing"] (S30 (K := K) T) := mk_has c.i30 fun F => ok30 (lev := 5) (T := T) c.hblt (has_up h28 (by decide)) h29 F
  have h32 : Has Pg w K mg base 4 "share_columns" ["one", "two"] (S_ss (K := K) T shareB) := mk_hasT c.i32 fun F hT => ok32 (lev := 0) (T := T) c.hblt hT F
  have h34 : Has Pg w K mg base 4 "lies_in" ["one", "two"] (S_ss (K := K) T liesB) := mk_hasT c.i34 fun F hT => ok34 (lev := 0) (T := T) c.hblt hT F
  have h35 : Has Pg w K mg base 5 "do_cross" ["one", "two"] (S_ss (K := K) T fun a b => shareB a b && (!liesB a b && !liesB b a)) := mk_has c.i35 fun F => ok35 (lev := 4) (T := T) c.hblt h32 h34 F
  have h36 : Has Pg w K mg base 6 "crossing_in" ["spans"] (S36 (K := K) T) := mk_has c.i36 fun F => ok36 (lev := 5) (T := T) c.hblt h35 F
  have h41 : Has Pg w K mg base 7 "crossing" ["book"] (S41 (K := K) T) := mk_has c.i41 fun F => ok41 (lev := 6) (T := T) c.hblt h30 h36 F
  have h42 : Has Pg w K mg base 8 "made_nest" ["thing"] (S42 (K := K) T) := mk_has c.i42 fun F => ok42 (lev := 7) (T := T) c.hblt h41 F
  have h37 : Has Pg w K mg base 5 "within_in" ["spans", "number"] (S37 (K := K) T) := mk_has c.i37 fun F => ok37 (lev := 4) (T := T) c.hblt h34 F
  have h38 : Has Pg w K mg base 8 "outermost_in" ["spans", "numbers"] (S38 (K := K) T) := mk_hasT c.i38 fun F hT => ok38 (lev := 4) (T := T) c.hblt hT h34 F
  have h39 : Has Pg w K mg base 9 "children_in" ["spans", "number"] (S39 (K := K) T) := mk_has c.i39 fun F => ok39 (lev := 8) (T := T) c.hblt (has_up h37 (by decide)) h38 F
  have h13 : Has Pg w K mg base 1 "common_divisor" ["one", "two"] (S13 (K := K) T) := mk_has c.i13 fun F => ok13 (lev := 0) (T := T) c.hblt c.hgc F
  have h14 : Has Pg w K mg base 2 "reduced" ["p", "q"] (S14 (K := K) T) := mk_has c.i14 fun F => ok14 (lev := 1) (T := T) c.hblt h13 F
  have h15 : Has Pg w K mg base 3 "added" ["one", "two"] (S_bin (K := K) T rQ (Sz2 4000) (· + ·)) := mk_has c.i15 fun F => ok15 (lev := 2) (T := T) c.hblt h14 F
  have h18 : Has Pg w K mg base 3 "divided" ["one", "two"] (S_bin (K := K) T rQ SzD (· / ·)) := mk_has c.i18 fun F => ok18 (lev := 2) (T := T) c.hblt h14 F
  have h21 : Has Pg w K mg base 4 "sum_up" ["fractions"] (S_sum (K := K) T) := mk_has c.i21 fun F => ok21 (lev := 3) (T := T) c.hblt c.hno h15 F
  have h19 : Has Pg w K mg base 1 "is_less" ["one", "two"] (S_bin (K := K) T rBl (Sz2 8000) (fun a b => decide (a < b))) := mk_has c.i19 fun F => ok19 (lev := 0) (T := T) c.hblt F
  have h20 : Has Pg w K mg base 2 "greater_of" ["one", "two"] (S_bin (K := K) T rQ (Sz2 8000) gt2) := mk_has c.i20 fun F => ok20 (lev := 1) (T := T) c.hblt h19 F
  have h22 : Has Pg w K mg base 3 "greatest_of" ["fractions"] (S_max (K := K) T) := mk_has c.i22 fun F => ok22 (lev := 2) (T := T) c.hblt h20 F
  have h44 : Has Pg w K mg base 2 "falling" ["lot"] (S44 (K := K) T) := mk_has c.i44 fun F => ok44 (lev := 1) (T := T) c.hblt h19 F
  have h45 : Has Pg w K mg base 5 "level_of" ["prices"] (S45 (K := K) T) := mk_has c.i45 fun F => ok45 (lev := 4) (T := T) c.hblt (has_up h15 (by decide)) (has_up h18 (by decide)) h21 (has_up h22 (by decide)) (has_up h44 (by decide)) F
  have h46 : Has Pg w K mg base 10 "prices_in" ["spans"] (S46 (K := K) T) := mk_has c.i46 fun F => ok46 (lev := 9) (T := T) c.hblt c.hone h39 (has_up h45 (by decide)) F
  have h49 : Has Pg w K mg base 11 "price" ["nest", "number"] (S49 (K := K) T) := mk_has c.i49 fun F => ok49 (lev := 10) (T := T) c.hblt (has_up h31 (by decide)) (has_up h42 (by decide)) h46 F
  have h40 : Has Pg w K mg base 9 "tops_in" ["spans"] (S40 (K := K) T) := mk_has c.i40 fun F => ok40 (lev := 8) (T := T) c.hblt h38 F
  have h48 : Has Pg w K mg base 11 "page_price_in" ["spans"] (S48 (K := K) T) := mk_has c.i48 fun F => ok48 (lev := 10) (T := T) c.hblt (has_up h22 (by decide)) (has_up h40 (by decide)) h46 F
  have h50 : Has Pg w K mg base 12 "page_price" ["nest"] (S50 (K := K) T) := mk_has c.i50 fun F => ok50 (lev := 11) (T := T) c.hblt (has_up h42 (by decide)) h48 F
  have h51 : Has Pg w K mg base 12 "dear_in" ["spans"] (S51 (K := K) T) := mk_has c.i51 fun F => ok51 (lev := 11) (T := T) c.hblt (has_up h40 (by decide)) (has_up h46 (by decide)) h48 F
  have h52 : Has Pg w K mg base 13 "dear_top" ["nest"] (S52 (K := K) T) := mk_has c.i52 fun F => ok52 (lev := 12) (T := T) c.hblt (has_up h42 (by decide)) h51 F
  have h70 : Has Pg w K mg base 1 "_law_below" ["one", "two"] (S_bin (K := K) T rBl (Sz2 8000) (fun a b => decide (a < b))) := mk_has c.i70 fun F => ok70 (lev := 0) (T := T) c.hblt F
  have h71 : Has Pg w K mg base 2 "_law_greatest" ["rows"] (S_max (K := K) T) := mk_has c.i71 fun F => ok71 (lev := 1) (T := T) c.hblt h70 F
  have h79 : Has Pg w K mg base 3 "_law_roots" ["nest"] (S79 (K := K) T) := mk_has c.i79 fun F => ok79 (lev := 2) (T := T) c.hblt h78 F
  have h90 : Has Pg w K mg base 1 "_law_lots_of" ["things"] (S90 (K := K) T) := mk_has c.i90 fun F => ok90 (lev := 0) (T := T) c.hblt F
  have h65 : Has Pg w K mg base 1 "_law_gcd" ["a", "b"] (S65 (K := K) T) := mk_has c.i65 fun F => ok65 (lev := 0) (T := T) c.hblt F
  have h66 : Has Pg w K mg base 2 "_law_frac" ["p", "q"] (S14 (K := K) T) := mk_has c.i66 fun F => ok66 (lev := 1) (T := T) c.hblt h65 F
  have h67 : Has Pg w K mg base 3 "_law_plus" ["one", "two"] (S_bin (K := K) T rQ (Sz2 4000) (· + ·)) := mk_has c.i67 fun F => ok67 (lev := 2) (T := T) c.hblt h66 F
  have h69 : Has Pg w K mg base 3 "_law_over_by" ["one", "two"] (S_bin (K := K) T rQ SzD (· / ·)) := mk_has c.i69 fun F => ok69 (lev := 2) (T := T) c.hblt h66 F
  have h72 : Has Pg w K mg base 4 "_law_sum_all" ["rows"] (S_sum (K := K) T) := mk_has c.i72 fun F => ok72 (lev := 3) (T := T) c.hblt h67 F
  have h91 : Has Pg w K mg base 5 "_law_lot_worth" ["rows", "lot"] (S91 (K := K) T) := mk_has c.i91 fun F => ok91 (lev := 4) (T := T) c.hblt (has_up h67 (by decide)) (has_up h69 (by decide)) h72 F
  have h92 : Has Pg w K mg base 6 "_law_prices_by_lots" ["tree"] (S92 (K := K) T) := mk_has c.i92 fun F => ok92 (lev := 5) (T := T) c.hblt (has_up h71 (by decide)) (has_up h90 (by decide)) h91 F
  have h47 : Has Pg w K mg base 10 "active_in" ["spans", "prices", "number"] (S47 (K := K) T) := mk_has c.i47 fun F => ok47 (lev := 9) (T := T) c.hblt c.hone (has_up h15 (by decide)) (has_up h19 (by decide)) h39 F
  have h57 : Has Pg w K mg base 52 "scripts_from" ["spans", "prices", "number"] (S57 (K := K) T 41) := mk_hasR c.i57 fun F hm hb => ok57 (lev := 10) (T := T) c.hblt c.hone (has_up h18 (by decide)) h47 F hm hb 41 (by decide)
  have h58 : Has Pg w K mg base 53 "scripts" ["nest"] (S58 (K := K) T) := mk_has c.i58 fun F => ok58 (lev := 52) (T := T) c.hblt (has_up h42 (by decide)) (has_up h46 (by decide)) (has_up h51 (by decide)) h57 F
  have h80 : Has Pg w K mg base 4 "_law_live_kids" ["kids", "rows", "k"] (S80 (K := K) T) := mk_has c.i80 fun F => ok80 (lev := 3) (T := T) c.hblt h67 (has_up h70 (by decide)) F
  have h68 : Has Pg w K mg base 3 "_law_times" ["one", "two"] (S_bin (K := K) T rQ (Sz2 4000) (· * ·)) := mk_has c.i68 fun F => ok68 (lev := 2) (T := T) c.hblt h66 F
  have h93 : Has Pg w K mg base 4 "_law_paths_by" ["tree", "picks", "k"] (S93 (K := K) T) := mk_has c.i93 fun F => ok93 (lev := 3) (T := T) c.hblt (has_up h66 (by decide)) h67 h68 F
  have h94 : Has Pg w K mg base 5 "_law_mean_worth" ["paths"] (S94 (K := K) T) := mk_has c.i94 fun F => ok94 (lev := 4) (T := T) c.hblt (has_up h68 (by decide)) h72 F
  have h95 : Has Pg w K mg base 54 "_law_scripts_right" ["nest", "tree", "rows", "root"] (S95 (K := K) T) := mk_has c.i95 fun F => ok95 (lev := 53) (T := T) c.hblt h58 (has_up h80 (by decide)) (has_up h93 (by decide)) (has_up h94 (by decide)) F
  have h62l : Has Pg w K mg base 2 "_law_one" ["jar", "things"] (S62l (K := K) T) := mk_has c.i62 fun F => ok62l (lev := 1) (T := T) c.hblt h61 F
  have h96 : Has Pg w K mg base 6 "_law_picked_right" ["jar", "tree", "rows"] (S96 (K := K) T) := mk_has c.i96 fun F => ok96 (lev := 5) (T := T) c.hblt (has_up h61 (by decide)) (has_up h62l (by decide)) (has_up h70 (by decide)) (has_up h90 (by decide)) (has_up h93 (by decide)) h94 F
  have h16 : Has Pg w K mg base 3 "taken" ["one", "two"] (S_bin (K := K) T rQ (Sz2 4000) (· - ·)) := mk_has c.i16 fun F => ok16 (lev := 2) (T := T) c.hblt h14 F
  have h17 : Has Pg w K mg base 3 "multiplied" ["one", "two"] (S_bin (K := K) T rQ (Sz2 4000) (· * ·)) := mk_has c.i17 fun F => ok17 (lev := 2) (T := T) c.hblt h14 F
  have h54 : Has Pg w K mg base 11 "tree_in" ["n", "spans"] (S54 (K := K) T) := mk_has c.i54 fun F => ok54 (lev := 10) (T := T) c.hblt c.hno c.hone (has_up h15 (by decide)) (has_up h16 (by decide)) (has_up h17 (by decide)) (has_up h39 (by decide)) h46 h47 F
  have h55 : Has Pg w K mg base 12 "tree_shares" ["nest"] (S55 (K := K) T) := mk_has c.i55 fun F => ok55 (lev := 11) (T := T) c.hblt (has_up h42 (by decide)) h54 F
  have h62s : Has Pg w K mg base 2 "_law_one" ["jar", "things"] (S62s (K := K) T) := mk_has c.i62 fun F => ok62s (lev := 1) (T := T) c.hblt h61 F
  have h88 : Has Pg w K mg base 3 "_law_any_share" ["jar", "n", "span"] (S88 (K := K) T) := mk_has c.i88 fun F => ok88 (lev := 2) (T := T) c.hblt (has_up h61 (by decide)) h62s h66 F
  have h89 : Has Pg w K mg base 4 "_law_any_shares" ["jar", "book"] (S89 (K := K) T) := mk_has c.i89 fun F => ok89 (lev := 3) (T := T) c.hblt h88 F
  have h81 : Has Pg w K mg base 4 "_law_felt_at" ["book", "shares", "d"] (S81 (K := K) T D1 C1) := mk_has c.i81 fun F => ok81 (lev := 3) (T := T) D1 (C1) c.hblt h67 (has_up h71 (by decide)) F
  have h97 : Has Pg w K mg base 5 "_law_worst_of" ["nest", "shares"] (S97 (K := K) T D1 C1) := mk_has c.i97 fun F => ok97 (lev := 4) (T := T) D1 (C1) c.hblt (has_up h71 (by decide)) h81 F
  have h81' : Has Pg w K mg base 4 "_law_felt_at" ["book", "shares", "d"] (S81 (K := K) T D2 1) := mk_has c.i81 fun F => ok81 (lev := 3) (T := T) D2 (1) c.hblt h67 (has_up h71 (by decide)) F
  have h97' : Has Pg w K mg base 5 "_law_worst_of" ["nest", "shares"] (S97 (K := K) T D2 1) := mk_has c.i97 fun F => ok97 (lev := 4) (T := T) D2 (1) c.hblt (has_up h71 (by decide)) h81' F
  have h72t : Has Pg w K mg base 4 "_law_sum_all" ["rows"] (S_sumT (K := K) T) := mk_has c.i72 fun F => ok72t (lev := 3) (T := T) c.hblt h67 F
  have h64 : Has Pg w K mg base 1 "_law_is_number" ["thing"] (S9 (K := K) T) := mk_has c.i64 fun F => ok64 (lev := 0) (T := T) c.hblt F
  have h73 : Has Pg w K mg base 2 "_law_is_fraction" ["thing"] (S73 (K := K) T) := mk_has c.i73 fun F => ok73 (lev := 1) (T := T) c.hblt h64 h65 F
  have h74 : Has Pg w K mg base 3 "_law_is_row" ["thing", "n"] (S74 (K := K) T) := mk_has c.i74 fun F => ok74 (lev := 2) (T := T) c.hblt h73 F
  have h98 : Has Pg w K mg base 5 "_law_are_shares" ["nest", "thing"] (S98 (K := K) T D1 C1) := mk_has c.i98 fun F => ok98 (lev := 4) (T := T) D1 (C1) c.hblt h72t (has_up h74 (by decide)) F
  have h99 : Has Pg w K mg base 13 "_law_shares_right" ["jar", "nest", "page"] (S99 (K := K) T) := mk_has c.i99 fun F => ok99 (lev := 12) (T := T) c.hblt h55 (has_up h70 (by decide)) (has_up h89 (by decide)) (has_up h97 (by decide)) (has_up h97' (by decide)) (has_up h98 (by decide)) F
  have h100 : Has Pg w K mg base 55 "_law_nest_right" ["jar", "nest"] (S100 (K := K) T) := mk_has c.i100 fun F => ok100 (lev := 54) (T := T) c.hblt (has_up h49 (by decide)) (has_up h50 (by decide)) (has_up h52 (by decide)) (has_up h71 (by decide)) (has_up h78 (by decide)) (has_up h79 (by decide)) (has_up h92 (by decide)) h95 (has_up h96 (by decide)) (has_up h99 (by decide)) F
  exact ok101 (lev := 55) c.hblt (has_up h60 (by decide)) (has_up h61 (by decide)) (has_up h78 (by decide)) (has_up h87 (by decide)) h100 F
end
end Fm
set_option maxHeartbeats 1000000
/-! E1: from a promise of the law's def to the row: what stands at the call. -/
namespace Fm
open PySem PySem.Spec PyProof.Rows L2
/-- tracked at the call: the tables ts, each empty, and the script where u tells it -/
def gateH (ts : List Addr) (a : Addr) (u : Option HO) : Hp := fun b => if b ∈ ts then some (.tbl #[]) else if b = a then u else none
section
variable {ts : List Addr} {a b : Addr} {u : Option HO}
theorem gateH_tab (h : b ∈ ts) : gateH ts a u b = some (.tbl #[]) := if_pos h
theorem gateH_self (h : a ∉ ts) : gateH ts a u a = u := (if_neg h).trans (if_pos rfl)
theorem gateH_inv {v : HO} (h : gateH ts a u b = some v) : (b ∈ ts ∧ v = .tbl #[]) ∨ (b ∉ ts ∧ b = a ∧ u = some v) := by
  unfold gateH at h
  by_cases h1 : b ∈ ts
  · rw [if_pos h1] at h
    exact .inl ⟨h1, (Option.some.inj h).symm⟩
  · rw [if_neg h1] at h
    by_cases h2 : b = a
    · rw [if_pos h2] at h
      exact .inr ⟨h1, h2, h⟩
    · rw [if_neg h2] at h
      cases h
end
/-- the kinds of data that the gate may track -/
def gated : Data → Bool
  | .seq _ _ => true
  | .fields vs => vs.isEmpty
  | _ => false
section
variable {P : Program} {w : World} {K : PySem.W.Frag} {h : Heap} {ts : List Addr} {a : Addr} {u : Option HO} {its : Array Value}
theorem gate_off (isT : ∀ b ∈ ts, h.get? b = some { cls := .none, data := .fields #[] }) (isA : h.get? a = some { cls := .type "list", data := .seq its }) {b : Addr} {o : Obj} (e : h.get? b = some o) (hd : gated o.data = false) : gateH ts a u b = none := by
  cases q : gateH ts a u b with
  | none => rfl
  | some v =>
    rcases gateH_inv q with ⟨h1, _⟩ | ⟨_, h1, _⟩
    · rw [isT b h1] at e
      cases e
      cases hd
    · rw [h1, isA] at e
      cases e
      cases hd
theorem gate_ns (isT : ∀ b ∈ ts, h.get? b = some { cls := .none, data := .fields #[] }) (isA : h.get? a = some { cls := .type "list", data := .seq its }) {b : Addr} {m : Str → Option Value} (n : h.Ns b m) : (hidT h (gateH ts a u)).Ns b m := by
  obtain ⟨o, es, ep, e, d, r⟩ := n
  exact ⟨o, es, ep, hidT_get e (gate_off isT isA e (by rw [d]; rfl)), d, r⟩
theorem gate_code (isT : ∀ b ∈ ts, h.get? b = some { cls := .none, data := .fields #[] }) (isA : h.get? a = some { cls := .type "list", data := .seq its }) {c q : Addr} (C : PySem.W.CodeHd h c q) : PySem.W.CodeHd (hidT h (gateH ts a u)) c q := by
  obtain ⟨o, us, file, tf, flags, tg, inF, text, tt, e, r⟩ := C
  refine ⟨o, us, file, tf, flags, tg, inF, text, tt, hidT_get e (gate_off isT isA e ?_), r⟩
  rw [r.2.1]
  show us.isEmpty = false
  cases z : us.isEmpty with
  | false => rfl
  | true =>
    have r3 := r.2.2.1
    rw [Array.isEmpty_iff.mp z] at r3
    simp at r3
end
/-- THE GATE: a def's promise, where no repr is under way, told of the call that the row makes -/
theorem gate_call {P : Program} {w : World} {K : PySem.W.Frag} {mg mb : Str → Option Value} {k : Nat} {fa a : Addr} {cs : List (Addr × Addr)} {fd : FuncData} {x : Str} {sp : Sp} {s₁ : Shared} {vs : List Value} {ns : List Int}
    (KX : K.In s₁.heap) (hG : s₁.heap.Ns mainGlobals mg) (hB : s₁.heap.Ns builtinsNs mb) (boot : ∀ y : Str, y ≠ "__name__" → mb y = bootBuiltins y) (nolim : s₁.heap.NoLimit) (hgen : s₁.gens = #[])
    (isTs : ∀ p ∈ cs, s₁.heap.get? p.2 = some { cls := .none, data := .fields #[] }) (outK : ∀ p ∈ cs, K.lookup p.2 = none) (code : ∀ p ∈ cs, PySem.W.CodeHd s₁.heap p.1 p.2)
    (hbm : ∃ (bm : Addr) (ob : Obj), mg "__builtins__" = some (.ref bm) ∧ bm ≠ builtinsNs ∧ s₁.heap.get? bm = some ob ∧ ob.cls = .type "module" ∧ ob.dict = some builtinsNs ∧ ob.data = .plain)
    (isA : s₁.heap.get? a = some { cls := .type "list", data := .seq vs.toArray }) (isI : IntsAre vs ns) (few : ns.length ≤ sizeLine) (hr : Room k callerA)
    (F : ∀ base : Heap, K.In base → base.Ns mainGlobals mg → (∀ p ∈ cs, LamX.TabB base mg p.1 p.2) → FnG P w K mg base k fa fd [x] sp) (hbind : ∀ (s : Shared) (v : Value), BindsTo s fd ⟨[v], []⟩ [(x, v)])
    (hsp : ∀ H : Hp, (∀ p ∈ cs, H p.2 = some (.tbl #[])) → SqL K H a (ns.map V.int) → sp [.ref a] H (fun v _ => v = .bl true) E0) :
    codeAny (model P w) callerA (.call (.ref fa) ⟨[.ref a], []⟩) (fun r s' => r = .ok (.ret (.bool true)) ∧ OldK s₁.heap s'.heap ∧ s'.os = s₁.os ∧ AllBare s'.gens) s₁ := by
  have rel := vals_ints isI
  have isT : ∀ b ∈ cs.map (·.2), s₁.heap.get? b = some { cls := .none, data := .fields #[] } := fun b hb => by
    obtain ⟨p, hp, rfl⟩ := List.mem_map.mp hb
    exact isTs p hp
  have inT : ∀ {p}, p ∈ cs → p.2 ∈ cs.map (·.2) := fun hp => List.mem_map_of_mem hp
  have nA : a ∉ cs.map (·.2) := fun z => nomatch (Option.some.inj ((isT a z).symm.trans isA))
  -- the script: K knows it, or it is tracked, frozen
  obtain ⟨u, hu, hSq, hKa⟩ : ∃ u : Option HO, (u = none ∨ u = some (.frz { cls := .type "list", data := .seq vs.toArray } (.lst (ns.map V.int)))) ∧ (∀ H : Hp, H a = u → SqL K H a (ns.map V.int)) ∧ (u ≠ none → K.lookup a = none) := by
    cases q : K.lookup a with
    | none => exact ⟨_, .inr rfl, fun H e => .inl (.inr ⟨_, e⟩), fun _ => rfl⟩
    | some o =>
      have e := (KX a o q).symm.trans isA
      cases e
      exact ⟨none, .inl rfl, fun H _ => .inr ⟨_, vs.toArray, _, q, rfl, rfl, rfl, by rw [List.size_toArray, isI.length]; exact few, by simpa using rel⟩, fun z => (z rfl).elim⟩
  have ok : HOk P w (gateH (cs.map (·.2)) a u) s₁.heap := fun b v z => by
    rcases gateH_inv z with ⟨h1, rfl⟩ | ⟨_, rfl, h2⟩
    · exact isT b h1
    · rcases hu with hu | hu
      · rw [hu] at h2
        cases h2
      · rw [hu] at h2
        cases h2
        exact ⟨isA, by rw [List.length_map]; exact few, vs, _, rel, isA⟩
  have kin : K.In (hidT s₁.heap (gateH (cs.map (·.2)) a u)) := fun b o e => hidT_get (KX b o e) (by
    cases q : gateH (cs.map (·.2)) a u b with
    | none => rfl
    | some v =>
      rcases gateH_inv q with ⟨h1, _⟩ | ⟨_, rfl, h2⟩
      · obtain ⟨p, hp, rfl⟩ := List.mem_map.mp h1
        rw [outK p hp] at e
        cases e
      · rw [hKa (by rw [h2]; exact fun z => nomatch z)] at e
        cases e)
  have glob := gate_ns (u := u) isT isA hG
  have tb : ∀ p ∈ cs, LamX.TabB (hidT s₁.heap (gateH (cs.map (·.2)) a u)) mg p.1 p.2 := fun p hp => by
    obtain ⟨og, es, ep, eg, dg, _⟩ := hG
    have nG : ∀ {b : Addr} {o : Obj}, s₁.heap.get? b = some o → (∀ es' ep', o.data ≠ .dict es' ep') → b ≠ mainGlobals := fun e n z => by
      rw [z, eg] at e
      cases e
      exact n _ _ dg
    obtain ⟨bm, ob, b1, b2, b3, b4, b5, b6⟩ := hbm
    refine ⟨gate_code isT isA (code p hp), ⟨bm, ob, b1, b2, nG b3 (fun _ _ z => by rw [b6] at z; cases z), fun z => ?_, hidT_get b3 (gate_off isT isA b3 (by rw [b6]; rfl)), b4, b5, b6⟩, (nG (isTs p hp) fun _ _ z => by cases z).symm⟩
    rw [z, isTs p hp] at b3
    cases b3
    cases b6
  obtain ⟨mc, l1, l2⟩ := nolim
  have env0 : Env0 P w K mg (hidT s₁.heap (gateH (cs.map (·.2)) a u)) callerA [] s₁ (gateH (cs.map (·.2)) a u) :=
    ⟨rfl, ⟨kin, glob, ⟨mb, gate_ns isT isA hB, boot⟩, ⟨mc, gate_ns isT isA l1, l2⟩⟩, fun b o e => of_hidT e, Nat.le_of_eq (hidT_size _ _), trivial, (fun b hb => absurd (show b ∈ ([] : List Addr) from hb) List.not_mem_nil), ok, .of_eq hgen⟩
  refine codeAny_mono ((F _ kin glob tb).run callerA [] s₁ _ ⟨[.ref a], []⟩ [.ref a] [.ref a] _ _ hr rfl env0 (hbind s₁ (.ref a)) (.cons rfl .nil) (hsp _ (fun p hp => gateH_tab (inT hp)) (hSq _ (gateH_self nA)))) fun r s' z => ?_
  match r, z with
  | .error _, z => exact (show False from z).elim
  | .ok .next, z => exact (show False from z).elim
  | .ok .brk, z => exact (show False from z).elim
  | .ok .cont, z => exact (show False from z).elim
  | .ok (.ret v), ⟨v', H', os, bare, un, ok', rv, q⟩ =>
    have q : v' = .bl true := q
    subst q
    obtain rfl : v = Value.bool true := rv
    have grown : ∀ b ∈ cs.map (·.2), ∃ more : Array Value, s'.heap.get? b = some { cls := .none, data := .fields more } := fun b hb => by
      obtain ⟨more, z⟩ := un.tbls b #[] (gateH_tab hb)
      exact ⟨_, ok' b _ z⟩
    have kept : ∀ b o, b ∉ cs.map (·.2) → s₁.heap.get? b = some o → s'.heap.get? b = some o := fun b o nb e => by
      cases z : gateH (cs.map (·.2)) a u b with
      | none => exact un.keep b o e z (fun y => absurd (show b ∈ ([] : List Addr) from y) List.not_mem_nil) List.not_mem_nil
      | some v =>
        rcases gateH_inv z with ⟨h1, _⟩ | ⟨_, rfl, h2⟩
        · exact (nb h1).elim
        · rcases hu with hu | hu
          · rw [hu] at h2
            cases h2
          · rw [hu] at h2
            cases h2
            rw [isA] at e
            cases e
            exact (ok' b _ (un.frzs b _ _ z)).1
    refine ⟨rfl, ⟨fun b o e => ?_, fun b o e => ?_⟩, os, bare⟩
    · by_cases hb : b ∈ cs.map (·.2)
      · obtain ⟨more, hm⟩ := grown b hb
        obtain ⟨p, hp, rfl⟩ := List.mem_map.mp hb
        rw [isTs p hp] at e
        cases e
        exact .inr (.inl ⟨((code p hp).tab (isTs p hp)).isCodeTable, rfl, #[], more, rfl, by rw [Array.empty_append]; exact hm⟩)
      · exact .inl (kept b o hb e)
    · by_cases hb : b ∈ cs.map (·.2)
      · obtain ⟨more, hm⟩ := grown b hb
        exact ⟨_, hm⟩
      · exact ⟨o, kept b o hb e⟩
/-- the same as the row's walk -/
theorem gate_walk {l : PySem.W.OpenLaw} {n k : Nat} {q : Program} {loose : List Str} {XP : (Str → Option Value) → Heap → Prop} {YP : World → Heap → Prop} {d : DefRec} {x : Str}
    (hn : l.most = some n) (hn2 : n ≤ sizeLine) (hdf : d.params.defaults = []) (hr : Room k callerA)
    (F : ∀ (w : World) (mg : Str → Option Value) (fa : Addr) (h : Heap), YP w h → h.Ns mainGlobals mg → mg d.name = some (.ref fa) → ∃ (K : PySem.W.Frag) (fd : FuncData) (cs : List (Addr × Addr)) (sp : Sp), K.In h ∧ (∀ p ∈ cs, h.get? p.2 = some { cls := .none, data := .fields #[] }) ∧ (∀ p ∈ cs, K.lookup p.2 = none) ∧ (∀ p ∈ cs, PySem.W.CodeHd h p.1 p.2) ∧
      (∀ (s : Shared) (v : Value), BindsTo s fd ⟨[v], []⟩ [(x, v)]) ∧ (∀ (H : Hp) (a : Addr) (ns : List Int), (∀ p ∈ cs, H p.2 = some (.tbl #[])) → SqL K H a (ns.map V.int) → sp [.ref a] H (fun v _ => v = .bl true) E0) ∧
      ∀ base : Heap, K.In base → base.Ns mainGlobals mg → (∀ p ∈ cs, LamX.TabB base mg p.1 p.2) → FnG l.prog w K mg base k fa fd [x] sp) :
    PySem.W.WalkO q loose XP YP l.row.toRowW d [] (fun f vs => PySem.call f vs) := by
  refine Att.attach_callB hn hdf fun w s₀ s₁ mg mb fa o pm cd doc a vs ns G Y ho hd hcd hmg hobj hints hlen hbits hg => ?_
  obtain ⟨K, fd, cs, sp, KX, hT, nT, C, hb, hsp, hF⟩ := F w mg fa _ Y G.T.g hmg
  exact gate_call KX G.T.g G.T.b G.T.builtins G.T.nolimit hg hT nT C G.T.bmain hobj hints (Nat.le_trans hlen hn2) hr hF hb fun H => hsp H a ns
end Fm
set_option maxHeartbeats 1000000
/-! Z1: the head's facts put to the chain; the law. -/
namespace Fm
open PySem PySem.Spec PyProof.Rows L2
abbrev tabP (K : PySem.W.Frag) (x : Str) : Addr := (He.cT K (x, none)).2
/-- the tables of this program -/
def TK (K : PySem.W.Frag) : Tbs := ⟨[tabP K "share_columns", tabP K "lies_in", tabP K "outermost_in"], [(tabP K "_law_in_order", "_law_in_order.<locals>.<lambda>")]⟩
theorem nQ {K : PySem.W.Frag} {h : Heap} {mg : Str → Option Value} {x : Str} {n : Int} {q : Rat} (X : K.In h) (G : h.Ns mainGlobals mg) (hg : (He.Fa.glo x).ok K = true) (ht : He.tupB K x [.int n, .int 1] = true) (e1 : n = q.num) (e2 : (1 : Int) = (q.den : Int)) : Glob (K := K) mg x rQ q :=
  ⟨_, .ref (He.ga K x), He.glo_ok X G hg, rfl, fun S => ⟨He.ga K x, _, _, rfl, He.tupB_ok ht S, congrArg V.int e1, congrArg V.int e2⟩⟩
theorem nI {K : PySem.W.Frag} {h : Heap} {mg : Str → Option Value} {x : Str} {n : Int} (X : K.In h) (G : h.Ns mainGlobals mg) (hi : (He.Fa.int x n).ok K = true) : Glob (K := K) mg x rInt n := by
  obtain ⟨t, e⟩ := He.int_ok X G hi
  exact ⟨_, .int n, e, ⟨t, rfl⟩, fun _ => rfl⟩
/-- a def of the head -/
theorem nIs {K : PySem.W.Frag} {h : Heap} {mg : Str → Option Value} {x : Str} {i : Nat} {ps : List Str} (X : K.In h) (G : h.Ns mainGlobals mg) (c : He.SaysD faL fnL K) (n m : Nat) (hd : fnL[n]? = some (dd x i)) (hg : faL[m]? = some (.glo x))
    (hb : ∀ (kV doc pm : Value) (an : Option Addr) (cdv ct : Value) (us : List Value), us.length = ps.length → bindArgs (PySem.W.fnOf x x (defArgs (top i)) (defBody (top i)) (defScope (top i)) .none kV doc pm an cdv ct) ⟨us, []⟩ = pure (ps.zip us)) : Is K mg x i ps := by
  obtain ⟨fd, F⟩ := c.def_ n hd
  exact ⟨_, fd, F, He.glo_ok X G (c.fact m hg), FunD.bindsN F hb⟩
theorem nTab {K : PySem.W.Frag} {mg : Str → Option Value} {base : Heap} {x : Str} {st : Stmt} {fd : FuncData} (F : FnP K x st (He.fAd K (x, none)) fd) (t : LamX.TabB base mg (He.cT K (x, none)).1 (tabP K x)) : ∃ c, fd.code = .ref c ∧ LamX.TabB base mg c (tabP K x) := by
  obtain ⟨oc, od, dV, kV, doc, pm, an, cdv, ct, osl, rfl, lk, hcd, _, _⟩ := F.ex
  obtain ⟨c, hc⟩ := He.codeIn_ref hcd
  have hc2 : cdv = .ref c := hc
  have e : (He.cT K (x, none)).1 = c := He.codeOf_eq lk hc2
  rw [e] at t
  exact ⟨c, hc2, t⟩
section
variable {K : PySem.W.Frag} {h base : Heap} {mg : Str → Option Value} {w : World}
theorem apart (c : He.SaysX faL fnL [] tfL exB w h K) : tabP K "share_columns" ≠ tabP K "_law_in_order" ∧ tabP K "lies_in" ≠ tabP K "_law_in_order" ∧ tabP K "outermost_in" ≠ tabP K "_law_in_order" := by
  have e := c.more
  unfold exB at e
  simp only [Bool.and_eq_true, Bool.not_eq_true', decide_eq_false_iff_not] at e
  exact e.2.2.2
theorem hd_of (X : K.In h) (G : h.Ns mainGlobals mg) (c : He.SaysX faL fnL [] tfL exB w h K) (tb : ∀ p ∈ tfL.map (He.cT K), LamX.TabB base mg p.1 p.2) : Hd K mg base (TK K) := by
  have d : He.SaysD faL fnL K := c.t.d
  have e := c.more
  unfold exB at e
  simp only [Bool.and_eq_true] at e
  obtain ⟨a1, a2, a3⟩ := apart c
  have tb0 : ∀ x : Str, (x, none) ∈ tfL → LamX.TabB base mg (He.cT K (x, none)).1 (tabP K x) := fun x hx => tb _ (List.mem_map_of_mem hx)
  have i32 : IsT K mg "share_columns" 32 ["one", "two"] fun fd => TabH fd (TK K) base mg := by
    obtain ⟨fd, F⟩ := d.def_ 20 (d := dd "share_columns" 32) rfl
    have F : FnP K "share_columns" (top 32) (He.fAd K ("share_columns", none)) fd := F
    obtain ⟨cd, h1, h2⟩ := nTab F (tb0 "share_columns" (by decide))
    exact ⟨_, fd, F, He.glo_ok X G (d.fact 20 (f := .glo "share_columns") rfl), FunD.bindsN F (fun _ _ _ _ _ _ us hl => match us, hl with | [_, _], _ => rfl), cd, _, h1, ⟨h2.code, h2.bm, h2.gP⟩, by unfold TK; simp, fun p hp => by
      obtain rfl : p = (tabP K "_law_in_order", ("_law_in_order.<locals>.<lambda>" : Str)) := List.mem_singleton.mp hp
      exact (a1).symm⟩
  have i34 : IsT K mg "lies_in" 34 ["one", "two"] fun fd => TabH fd (TK K) base mg := by
    obtain ⟨fd, F⟩ := d.def_ 21 (d := dd "lies_in" 34) rfl
    have F : FnP K "lies_in" (top 34) (He.fAd K ("lies_in", none)) fd := F
    obtain ⟨cd, h1, h2⟩ := nTab F (tb0 "lies_in" (by decide))
    exact ⟨_, fd, F, He.glo_ok X G (d.fact 21 (f := .glo "lies_in") rfl), FunD.bindsN F (fun _ _ _ _ _ _ us hl => match us, hl with | [_, _], _ => rfl), cd, _, h1, ⟨h2.code, h2.bm, h2.gP⟩, by unfold TK; simp, fun p hp => by
      obtain rfl : p = (tabP K "_law_in_order", ("_law_in_order.<locals>.<lambda>" : Str)) := List.mem_singleton.mp hp
      exact (a2).symm⟩
  have i38 : IsT K mg "outermost_in" 38 ["spans", "numbers"] fun fd => TabH fd (TK K) base mg := by
    obtain ⟨fd, F⟩ := d.def_ 25 (d := dd "outermost_in" 38) rfl
    have F : FnP K "outermost_in" (top 38) (He.fAd K ("outermost_in", none)) fd := F
    obtain ⟨cd, h1, h2⟩ := nTab F (tb0 "outermost_in" (by decide))
    exact ⟨_, fd, F, He.glo_ok X G (d.fact 25 (f := .glo "outermost_in") rfl), FunD.bindsN F (fun _ _ _ _ _ _ us hl => match us, hl with | [_, _], _ => rfl), cd, _, h1, ⟨h2.code, h2.bm, h2.gP⟩, by unfold TK; simp, fun p hp => by
      obtain rfl : p = (tabP K "_law_in_order", ("_law_in_order.<locals>.<lambda>" : Str)) := List.mem_singleton.mp hp
      exact (a3).symm⟩
  have i75 : IsT K mg "_law_in_order" 75 ["spans"] fun fd => TabL fd (TK K) base mg "_law_in_order.<locals>.<lambda>" := by
    obtain ⟨fd, F⟩ := d.def_ 58 (d := dd "_law_in_order" 75) rfl
    have F : FnP K "_law_in_order" (top 75) (He.fAd K ("_law_in_order", none)) fd := F
    obtain ⟨cd, h1, h2⟩ := nTab F (tb0 "_law_in_order" (by decide))
    exact ⟨_, fd, F, He.glo_ok X G (d.fact 58 (f := .glo "_law_in_order") rfl), FunD.bindsN F (fun _ _ _ _ _ _ us hl => match us, hl with | [_], _ => rfl), cd, _, h1, h2, List.mem_singleton.mpr rfl, fun P' hP => by
      have hP : P' ∈ [tabP K "share_columns", tabP K "lies_in", tabP K "outermost_in"] := hP
      simp only [List.mem_cons, List.not_mem_nil, or_false] at hP
      rcases hP with rfl | rfl | rfl
      · exact a1
      · exact a2
      · exact a3, fun p hp _ => by
      obtain rfl : p = (tabP K "_law_in_order", ("_law_in_order.<locals>.<lambda>" : Str)) := List.mem_singleton.mp hp
      rfl⟩
  refine {
    hblt := fun n hn => by
      simp only [bltNames, List.mem_cons, List.not_mem_nil, or_false] at hn
      rcases hn with rfl | rfl | rfl | rfl | rfl | rfl | rfl | rfl | rfl | rfl | rfl | rfl | rfl | rfl | rfl | rfl | rfl | rfl
      · exact He.free_ok X G (d.fact 85 (f := .free "len") rfl)
      · exact He.free_ok X G (d.fact 86 (f := .free "range") rfl)
      · exact He.free_ok X G (d.fact 87 (f := .free "tuple") rfl)
      · exact He.free_ok X G (d.fact 88 (f := .free "list") rfl)
      · exact He.free_ok X G (d.fact 89 (f := .free "sorted") rfl)
      · exact He.free_ok X G (d.fact 90 (f := .free "max") rfl)
      · exact He.free_ok X G (d.fact 91 (f := .free "min") rfl)
      · exact He.free_ok X G (d.fact 92 (f := .free "sum") rfl)
      · exact He.free_ok X G (d.fact 93 (f := .free "int") rfl)
      · exact He.free_ok X G (d.fact 94 (f := .free "isinstance") rfl)
      · exact He.free_ok X G (d.fact 95 (f := .free "repr") rfl)
      · exact He.free_ok X G (d.fact 96 (f := .free "any") rfl)
      · exact He.free_ok X G (d.fact 97 (f := .free "all") rfl)
      · exact He.free_ok X G (d.fact 98 (f := .free "enumerate") rfl)
      · exact He.free_ok X G (d.fact 99 (f := .free "dict") rfl)
      · exact He.free_ok X G (d.fact 100 (f := .free "zip") rfl)
      · exact He.free_ok X G (d.fact 101 (f := .free "bool") rfl)
      · exact He.free_ok X G (d.fact 102 (f := .free "str") rfl)
    hgc := PySem.W.mg_of X G (He.eqO_ok e.1)
    hno := nQ X G (d.fact 103 (f := .glo "NOUGHT") rfl) e.2.1 rfl rfl
    hone := nQ X G (d.fact 104 (f := .glo "ONE") rfl) e.2.2.1 rfl rfl
    hmc := nI X G (d.fact 105 (f := .int "MOST_COLUMNS" 16) rfl)
    hms := nI X G (d.fact 106 (f := .int "MOST_SPANS" 40) rfl)
    i9 := nIs X G d 0 0 rfl rfl (fun _ _ _ _ _ _ us hl => match us, hl with | [_], _ => rfl)
    i10 := nIs X G d 1 1 rfl rfl (fun _ _ _ _ _ _ us hl => match us, hl with | [_, _, _], _ => rfl)
    i11 := nIs X G d 2 2 rfl rfl (fun _ _ _ _ _ _ us hl => match us, hl with | [_, _], _ => rfl)
    i12 := nIs X G d 3 3 rfl rfl (fun _ _ _ _ _ _ us hl => match us, hl with | [_], _ => rfl)
    i13 := nIs X G d 4 4 rfl rfl (fun _ _ _ _ _ _ us hl => match us, hl with | [_, _], _ => rfl)
    i14 := nIs X G d 5 5 rfl rfl (fun _ _ _ _ _ _ us hl => match us, hl with | [_, _], _ => rfl)
    i15 := nIs X G d 6 6 rfl rfl (fun _ _ _ _ _ _ us hl => match us, hl with | [_, _], _ => rfl)
    i16 := nIs X G d 7 7 rfl rfl (fun _ _ _ _ _ _ us hl => match us, hl with | [_, _], _ => rfl)
    i17 := nIs X G d 8 8 rfl rfl (fun _ _ _ _ _ _ us hl => match us, hl with | [_, _], _ => rfl)
    i18 := nIs X G d 9 9 rfl rfl (fun _ _ _ _ _ _ us hl => match us, hl with | [_, _], _ => rfl)
    i19 := nIs X G d 10 10 rfl rfl (fun _ _ _ _ _ _ us hl => match us, hl with | [_, _], _ => rfl)
    i20 := nIs X G d 11 11 rfl rfl (fun _ _ _ _ _ _ us hl => match us, hl with | [_, _], _ => rfl)
    i21 := nIs X G d 12 12 rfl rfl (fun _ _ _ _ _ _ us hl => match us, hl with | [_], _ => rfl)
    i22 := nIs X G d 13 13 rfl rfl (fun _ _ _ _ _ _ us hl => match us, hl with | [_], _ => rfl)
    i26 := nIs X G d 14 14 rfl rfl (fun _ _ _ _ _ _ us hl => match us, hl with | [_, _], _ => rfl)
    i27 := nIs X G d 15 15 rfl rfl (fun _ _ _ _ _ _ us hl => match us, hl with | [_], _ => rfl)
    i28 := nIs X G d 16 16 rfl rfl (fun _ _ _ _ _ _ us hl => match us, hl with | [_], _ => rfl)
    i29 := nIs X G d 17 17 rfl rfl (fun _ _ _ _ _ _ us hl => match us, hl with | [_, _], _ => rfl)
    i30 := nIs X G d 18 18 rfl rfl (fun _ _ _ _ _ _ us hl => match us, hl with | [_], _ => rfl)
    i31 := nIs X G d 19 19 rfl rfl (fun _ _ _ _ _ _ us hl => match us, hl with | [_, _], _ => rfl)
    i32 := i32
    i34 := i34
    i35 := nIs X G d 22 22 rfl rfl (fun _ _ _ _ _ _ us hl => match us, hl with | [_, _], _ => rfl)
    i36 := nIs X G d 23 23 rfl rfl (fun _ _ _ _ _ _ us hl => match us, hl with | [_], _ => rfl)
    i37 := nIs X G d 24 24 rfl rfl (fun _ _ _ _ _ _ us hl => match us, hl with | [_, _], _ => rfl)
    i38 := i38
    i39 := nIs X G d 26 26 rfl rfl (fun _ _ _ _ _ _ us hl => match us, hl with | [_, _], _ => rfl)
    i40 := nIs X G d 27 27 rfl rfl (fun _ _ _ _ _ _ us hl => match us, hl with | [_], _ => rfl)
    i41 := nIs X G d 28 28 rfl rfl (fun _ _ _ _ _ _ us hl => match us, hl with | [_], _ => rfl)
    i42 := nIs X G d 29 29 rfl rfl (fun _ _ _ _ _ _ us hl => match us, hl with | [_], _ => rfl)
    i44 := nIs X G d 30 30 rfl rfl (fun _ _ _ _ _ _ us hl => match us, hl with | [_], _ => rfl)
    i45 := nIs X G d 31 31 rfl rfl (fun _ _ _ _ _ _ us hl => match us, hl with | [_], _ => rfl)
    i46 := nIs X G d 32 32 rfl rfl (fun _ _ _ _ _ _ us hl => match us, hl with | [_], _ => rfl)
    i47 := nIs X G d 33 33 rfl rfl (fun _ _ _ _ _ _ us hl => match us, hl with | [_, _, _], _ => rfl)
    i48 := nIs X G d 34 34 rfl rfl (fun _ _ _ _ _ _ us hl => match us, hl with | [_], _ => rfl)
    i49 := nIs X G d 35 35 rfl rfl (fun _ _ _ _ _ _ us hl => match us, hl with | [_, _], _ => rfl)
    i50 := nIs X G d 36 36 rfl rfl (fun _ _ _ _ _ _ us hl => match us, hl with | [_], _ => rfl)
    i51 := nIs X G d 37 37 rfl rfl (fun _ _ _ _ _ _ us hl => match us, hl with | [_], _ => rfl)
    i52 := nIs X G d 38 38 rfl rfl (fun _ _ _ _ _ _ us hl => match us, hl with | [_], _ => rfl)
    i54 := nIs X G d 39 39 rfl rfl (fun _ _ _ _ _ _ us hl => match us, hl with | [_, _], _ => rfl)
    i55 := nIs X G d 40 40 rfl rfl (fun _ _ _ _ _ _ us hl => match us, hl with | [_], _ => rfl)
    i57 := nIs X G d 41 41 rfl rfl (fun _ _ _ _ _ _ us hl => match us, hl with | [_, _, _], _ => rfl)
    i58 := nIs X G d 42 42 rfl rfl (fun _ _ _ _ _ _ us hl => match us, hl with | [_], _ => rfl)
    i60 := nIs X G d 43 43 rfl rfl (fun _ _ _ _ _ _ us hl => match us, hl with | [_, _], _ => rfl)
    i61 := nIs X G d 44 44 rfl rfl (fun _ _ _ _ _ _ us hl => match us, hl with | [_, _], _ => rfl)
    i62 := nIs X G d 45 45 rfl rfl (fun _ _ _ _ _ _ us hl => match us, hl with | [_, _], _ => rfl)
    i63 := nIs X G d 46 46 rfl rfl (fun _ _ _ _ _ _ us hl => match us, hl with | [_, _], _ => rfl)
    i64 := nIs X G d 47 47 rfl rfl (fun _ _ _ _ _ _ us hl => match us, hl with | [_], _ => rfl)
    i65 := nIs X G d 48 48 rfl rfl (fun _ _ _ _ _ _ us hl => match us, hl with | [_, _], _ => rfl)
    i66 := nIs X G d 49 49 rfl rfl (fun _ _ _ _ _ _ us hl => match us, hl with | [_, _], _ => rfl)
    i67 := nIs X G d 50 50 rfl rfl (fun _ _ _ _ _ _ us hl => match us, hl with | [_, _], _ => rfl)
    i68 := nIs X G d 51 51 rfl rfl (fun _ _ _ _ _ _ us hl => match us, hl with | [_, _], _ => rfl)
    i69 := nIs X G d 52 52 rfl rfl (fun _ _ _ _ _ _ us hl => match us, hl with | [_, _], _ => rfl)
    i70 := nIs X G d 53 53 rfl rfl (fun _ _ _ _ _ _ us hl => match us, hl with | [_, _], _ => rfl)
    i71 := nIs X G d 54 54 rfl rfl (fun _ _ _ _ _ _ us hl => match us, hl with | [_], _ => rfl)
    i72 := nIs X G d 55 55 rfl rfl (fun _ _ _ _ _ _ us hl => match us, hl with | [_], _ => rfl)
    i73 := nIs X G d 56 56 rfl rfl (fun _ _ _ _ _ _ us hl => match us, hl with | [_], _ => rfl)
    i74 := nIs X G d 57 57 rfl rfl (fun _ _ _ _ _ _ us hl => match us, hl with | [_, _], _ => rfl)
    i75 := i75
    i76 := nIs X G d 59 59 rfl rfl (fun _ _ _ _ _ _ us hl => match us, hl with | [_, _], _ => rfl)
    i77 := nIs X G d 60 60 rfl rfl (fun _ _ _ _ _ _ us hl => match us, hl with | [_, _], _ => rfl)
    i78 := nIs X G d 61 61 rfl rfl (fun _ _ _ _ _ _ us hl => match us, hl with | [_], _ => rfl)
    i79 := nIs X G d 62 62 rfl rfl (fun _ _ _ _ _ _ us hl => match us, hl with | [_], _ => rfl)
    i80 := nIs X G d 63 63 rfl rfl (fun _ _ _ _ _ _ us hl => match us, hl with | [_, _, _], _ => rfl)
    i81 := nIs X G d 64 64 rfl rfl (fun _ _ _ _ _ _ us hl => match us, hl with | [_, _, _], _ => rfl)
    i82 := nIs X G d 65 65 rfl rfl (fun _ _ _ _ _ _ us hl => match us, hl with | [_], _ => rfl)
    i83 := nIs X G d 66 66 rfl rfl (fun _ _ _ _ _ _ us hl => match us, hl with | [_, _, _, _], _ => rfl)
    i84 := nIs X G d 67 67 rfl rfl (fun _ _ _ _ _ _ us hl => match us, hl with | [_, _, _], _ => rfl)
    i85 := nIs X G d 68 68 rfl rfl (fun _ _ _ _ _ _ us hl => match us, hl with | [_, _], _ => rfl)
    i86 := nIs X G d 69 69 rfl rfl (fun _ _ _ _ _ _ us hl => match us, hl with | [_, _], _ => rfl)
    i87 := nIs X G d 70 70 rfl rfl (fun _ _ _ _ _ _ us hl => match us, hl with | [_, _, _], _ => rfl)
    i88 := nIs X G d 71 71 rfl rfl (fun _ _ _ _ _ _ us hl => match us, hl with | [_, _, _], _ => rfl)
    i89 := nIs X G d 72 72 rfl rfl (fun _ _ _ _ _ _ us hl => match us, hl with | [_, _], _ => rfl)
    i90 := nIs X G d 73 73 rfl rfl (fun _ _ _ _ _ _ us hl => match us, hl with | [_], _ => rfl)
    i91 := nIs X G d 74 74 rfl rfl (fun _ _ _ _ _ _ us hl => match us, hl with | [_, _], _ => rfl)
    i92 := nIs X G d 75 75 rfl rfl (fun _ _ _ _ _ _ us hl => match us, hl with | [_], _ => rfl)
    i93 := nIs X G d 76 76 rfl rfl (fun _ _ _ _ _ _ us hl => match us, hl with | [_, _, _], _ => rfl)
    i94 := nIs X G d 77 77 rfl rfl (fun _ _ _ _ _ _ us hl => match us, hl with | [_], _ => rfl)
    i95 := nIs X G d 78 78 rfl rfl (fun _ _ _ _ _ _ us hl => match us, hl with | [_, _, _, _], _ => rfl)
    i96 := nIs X G d 79 79 rfl rfl (fun _ _ _ _ _ _ us hl => match us, hl with | [_, _, _], _ => rfl)
    i97 := nIs X G d 80 80 rfl rfl (fun _ _ _ _ _ _ us hl => match us, hl with | [_, _], _ => rfl)
    i98 := nIs X G d 81 81 rfl rfl (fun _ _ _ _ _ _ us hl => match us, hl with | [_, _], _ => rfl)
    i99 := nIs X G d 82 82 rfl rfl (fun _ _ _ _ _ _ us hl => match us, hl with | [_, _, _], _ => rfl)
    i100 := nIs X G d 83 83 rfl rfl (fun _ _ _ _ _ _ us hl => match us, hl with | [_, _], _ => rfl)
  }
/-- the law's promise at the call -/
theorem sp_at {T : Tbs} {H : Hp} {a : Addr} {is : List Int} (tb : ∀ P ∈ T.tb, H P = some (.tbl #[])) (tl : ∀ p ∈ T.tl, H p.1 = some (.tbl #[])) (hS : SqL K H a (is.map V.int)) : SpLaw (K := K) T [.ref a] H (fun v _ => v = .bl true) E0 := by
  refine ⟨is, ⟨T, none⟩, ⟨fun _ => none, H, (0, 0)⟩, rfl, rfl, rfl, ⟨(fun _ _ z => nomatch z), (fun _ z => nomatch z), fun P hP => ⟨⟨#[], tb P hP, True.intro⟩, rfl⟩, fun p hp => ⟨LamX.TabS.nil (tl p hp), rfl⟩⟩, ?_, fun _ => rfl⟩
  refine ⟨⟨a, _, rfl, fun w' le => ?_, Rows.ofI is⟩, rfl, trivial⟩
  rcases hS with (h1 | ⟨o, h1⟩) | h1
  · exact .inl (.inl (le.keep a _ h1 (fun _ z => nomatch z) (fun z => nomatch z)))
  · exact .inl (.inr ⟨o, le.keep a _ h1 (fun _ z => nomatch z) (fun z => nomatch z)⟩)
  · exact .inr h1
theorem law_at {l : Program} {fa : Addr} (X : K.In h) (G : h.Ns mainGlobals mg) (c : He.SaysX faL fnL [] tfL exB w h K) (hfa : mg ("law" : Str) = some (.ref fa)) : ∃ (fd : FuncData) (cs : List (Addr × Addr)) (sp : Sp), (∀ p ∈ cs, h.get? p.2 = some { cls := .none, data := .fields #[] }) ∧ (∀ p ∈ cs, K.lookup p.2 = none) ∧ (∀ p ∈ cs, PySem.W.CodeHd h p.1 p.2) ∧
      (∀ (s : Shared) (v : Value), BindsTo s fd ⟨[v], []⟩ [("script", v)]) ∧ (∀ (H : Hp) (a : Addr) (is : List Int), (∀ p ∈ cs, H p.2 = some (.tbl #[])) → SqL K H a (is.map V.int) → sp [.ref a] H (fun v _ => v = .bl true) E0) ∧
      ∀ base : Heap, K.In base → base.Ns mainGlobals mg → (∀ p ∈ cs, LamX.TabB base mg p.1 p.2) → FnG l w K mg base 56 fa fd ["script"] sp := by
  have d : He.SaysD faL fnL K := c.t.d
  obtain ⟨fd, F⟩ := d.def_ 84 (d := dd "law" 101) rfl
  have e := hfa.symm.trans (He.glo_ok X G (d.fact 84 (f := .glo "law") rfl))
  cases e
  have b := FunD.bindsA (ps := ["script"]) F fun _ _ _ _ _ _ us hl => match us, hl with | [_], _ => rfl
  have per : ∀ {p}, p ∈ tfL.map (He.cT K) → ∃ q ∈ tfL, He.cT K q = p := fun hp => List.mem_map.mp hp
  refine ⟨fd, tfL.map (He.cT K), SpLaw (TK K), fun p hp => ?_, fun p hp => ?_, fun p hp => ?_, fun s v => b s [v] rfl, fun H a is hT hS => sp_at (fun P hP => ?_) (fun p hp => ?_) hS, fun base Xb Gb tb => chain (hd_of X G c tb) F⟩
  · obtain ⟨q, hq, rfl⟩ := per hp
    exact c.empty q hq
  · obtain ⟨q, hq, rfl⟩ := per hp
    exact c.out q hq
  · obtain ⟨q, hq, rfl⟩ := per hp
    exact PySem.W.codeHd_of_K X (c.hd q hq)
  · have hP : P ∈ [tabP K "share_columns", tabP K "lies_in", tabP K "outermost_in"] := hP
    simp only [List.mem_cons, List.not_mem_nil, or_false] at hP
    rcases hP with rfl | rfl | rfl
    · exact hT _ (List.mem_map_of_mem (a := (("share_columns", none) : He.Defn)) (by decide))
    · exact hT _ (List.mem_map_of_mem (a := (("lies_in", none) : He.Defn)) (by decide))
    · exact hT _ (List.mem_map_of_mem (a := (("outermost_in", none) : He.Defn)) (by decide))
  · obtain rfl : p = (tabP K "_law_in_order", ("_law_in_order.<locals>.<lambda>" : Str)) := List.mem_singleton.mp hp
    exact hT _ (List.mem_map_of_mem (a := (("_law_in_order", none) : He.Defn)) (by decide))
end
end Fm
set_option maxHeartbeats 0
/-! Z2: the theorem. -/
namespace Fm
open PySem PySem.W PySem.Calls PyProof.Rows
theorem walk_row : WalkO (view Rw.prog [0, 101]) looseL (XL (view Rw.prog [0, 101]) []) hkX.says Rw.toRowW (HandSHeadRun.topDef Rw.prog 101) [] (fun f vs => PySem.call f vs) := by
  refine gate_walk (l := PySem.Challenge.rw_firmcolumns_k73_whole_prices_by_own_path) (n := 63) (k := 56) (x := "script") rfl (by decide) (by kernel_rfl) ⟨rfl, by decide, by decide⟩ ?F
  intro w mg fa h Y G hmg0
  obtain ⟨K, KX, c⟩ := Y
  have hmg : mg ("law" : PySem.Str) = some (.ref fa) := by
    have e : (HandSHeadRun.topDef Rw.prog 101).name = ("law" : PySem.Str) := by kernel_rfl
    rw [← e]
    exact hmg0
  obtain ⟨fd, cs, sp, h1, h2, h3, h4, h5, h6⟩ := law_at (l := PySem.Challenge.rw_firmcolumns_k73_whole_prices_by_own_path.prog) KX G c hmg
  exact ⟨K, fd, cs, sp, KX, h1, h2, h3, h4, h5, h6⟩
end Fm
theorem PySem.Challenge.cw_firmcolumns_k73_whole_prices_by_own_path_holds : PySem.Challenge.rw_firmcolumns_k73_whole_prices_by_own_path.Holds := by
  exact Fm.fin_row Fm.walk_row
