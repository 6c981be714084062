import PyProof.Rows.All
import Wide.All
import OpenK.AllK
import Wide.FinOn
import PyProof.EqAt
import PyProof.EqKinds
import PyProof.TupleCall
import KE.KStateDown
import KE.KLam
import HandS.Base
import HandS.Call
import HandS.List
import HandS.Comp
import HandS.Ends
import HandS.Dict
import HandS.Iter
import HandS.Text
import HandS.Words
import HandS.WordsList
import HandS.WordsDict
import HandS.More
import HandS.Exc
import HandS.ExcInit
import HandS.ExcField
import HandS.ExcOwn
import HandS.WordsExc
import HandS.TryOnly
import HandS.Codes
import HandS.Lambda
import HandS.Nested
import HandS.EndBits
import HandS.EndTab
import HandS.Defaults
import HandS.Head0
import HandS.Head1
import HandS.Head2
import HandS.HeadHook1
import HandS.HeadHook2
import HandS.HeadHook3
import HandS.HeadHook4
import HandS.HeadWalk
import PySem.Challenge.RW_calmblanks_k61_whole_deep_and_long_texts
import HandS.Evl
import HandS.Wide
import HandS.Style
import HandS.Conv
import HandS.Zip
import HandS.TupAny
import HandS.IsInst
import HandS.Flow
import KE.DataCmp
import KE.SortData
import KE.KDictKeyed
import KE.KeyNested
import KE.GoesEnum

section
set_option Elab.async false
set_option linter.all false
set_option maxRecDepth 100000
set_option maxHeartbeats 4000000
/-! Ka: the text by places, the facts of the top. -/
namespace K61
open PySem PySem.Spec PyProof.Rows L2
abbrev pw : Program := PySem.Challenge.pw_calmblanks_k61_whole_deep_and_long_texts
def top (i : Nat) : Stmt := PySem.Challenge.pw_calmblanks_k61_whole_deep_and_long_texts.main.body.getD i (.Pass ⟨0, 0, 0, 0⟩)
/-- a def of the top, a method of a class of the top -/
def dfn (i : Nat) (x : Str) : He.DefD := ⟨(x, none), x, x, defArgs (top i), defBody (top i), defScope (top i), [], []⟩
def dmt (i j : Nat) (C m q : Str) : He.DefD := ⟨(C, some m), m, q, defArgs (inClass (top i) j), defBody (inClass (top i) j), defScope (inClass (top i) j), [], []⟩
def fn1 : List He.DefD := [dfn 1 "is_integer", dfn 2 "is_within", dfn 3 "is_lot", dfn 4 "is_pair", dmt 7 0 "BadWhole" "__init__" "BadWhole.__init__", dmt 8 0 "BadText" "__init__" "BadText.__init__",
  dfn 12 "divisor", dfn 13 "lowest", dfn 14 "is_fraction", dfn 15 "plus", dfn 16 "times", dfn 17 "over", dfn 18 "add_all",
  dfn 23 "is_sizes", dfn 24 "is_content", dfn 25 "tuples_of", dfn 26 "contents_of", dfn 27 "first_wrong", dfn 28 "first_bad", dfn 29 "is_place", dfn 30 "uneven_pattern", dmt 31 0 "Whole" "__init__" "Whole.__init__"]
def fn2 : List He.DefD := [dfn 35 "words_of", dfn 36 "column_of", dfn 37 "atom_of", dmt 38 0 "Reader" "__init__" "Reader.__init__", dmt 38 1 "Reader" "give_way" "Reader.give_way", dmt 38 2 "Reader" "begin" "Reader.begin", dmt 38 3 "Reader" "take" "Reader.take", dmt 38 4 "Reader" "is_whole" "Reader.is_whole",
  dfn 39 "read_expression", dfn 40 "read_question", dfn 41 "is_met", dfn 42 "answer_of", dfn 43 "answer", dfn 44 "asked"]
def fn3 : List He.DefD := [dfn 46 "_law_hand", dfn 47 "_law_draw", dfn 48 "_law_any", dfn 49 "_law_low", dfn 50 "_law_contents", dfn 51 "_law_weight", dfn 52 "_law_great", dfn 53 "_law_rows", dfn 54 "_law_weights", dfn 55 "_law_is_due", dfn 56 "_law_atom", dfn 57 "_law_deep", dfn 58 "_law_atom_at", dfn 59 "_law_joint_at",
  dfn 60 "_law_deep_words", dfn 61 "_law_atom_so", dfn 62 "_law_deep_so", dfn 63 "_law_text", dfn 64 "_law_deep_answer", dfn 65 "_law_told", dfn 66 "law"]
def fn : List He.DefD := fn1 ++ fn2 ++ fn3
/-- the names of the top's defs and classes -/
def defNames : List Str := (["is_integer", "is_within", "is_lot", "is_pair", "BadWhole", "BadText", "ZERO", "ONE", "divisor", "lowest", "is_fraction", "plus", "times", "over", "add_all", "is_sizes", "is_content", "tuples_of", "contents_of", "first_wrong", "first_bad", "is_place", "uneven_pattern", "Whole"] : List Str) ++
  (["BINDING", "words_of", "column_of", "atom_of", "Reader", "read_expression", "read_question", "is_met", "answer_of", "answer", "asked"] : List Str) ++
  (["_law_hand", "_law_draw", "_law_any", "_law_low", "_law_contents", "_law_weight", "_law_great", "_law_rows", "_law_weights", "_law_is_due", "_law_atom", "_law_deep", "_law_atom_at", "_law_joint_at", "_law_deep_words", "_law_atom_so", "_law_deep_so", "_law_text", "_law_deep_answer", "_law_told", "law"] : List Str)
def freeNames : List Str := ["isinstance", "int", "bool", "tuple", "str", "len", "abs", "all", "zip", "list", "range", "enumerate", "sorted", "sum"]
def fa : List He.Fa := defNames.map He.Fa.glo ++ freeNames.map He.Fa.free ++ [.int "MOST_COLUMNS" 4, .int "MOST_WORTHS" 4, .int "MOST_CONTENTS" 64, .str "FIGURES" "0123", .cls "Whole", .cls "Reader", .noat "Whole" "sizes", .noat "Whole" "shares",
  .noat "Reader" "sizes", .noat "Reader" "steps", .noat "Reader" "waiting", .noat "Reader" "is_wanted", .mkr "Whole", .mkr "Reader", .meth "Reader" "give_way", .meth "Reader" "begin", .meth "Reader" "take", .meth "Reader" "is_whole"]
def ts : List He.Tab := [(fun K => He.ga K "BINDING", ["or", "and", "not"])]
def tf : List He.Defn := [("Whole", some "__init__")]
/-- an own exception class with an __init__ of its own -/
def oexB (K : PySem.W.Frag) (C : Addr) : Bool := (match K.lookup C with
  | some ⟨.type t, _, .cls cd, sl⟩ => (match cd.mro, sl.toList with
    | .ref C' :: bm, [_, _, _, _, some (.builtin n), _] => decide (t = "type") && (C' == C && (decide (n = "ValueError.__new__") && (cd.hasDict && (!cd.hasDel && PySem.HandSPX.refsVE bm))))
    | _, _ => false)
  | _ => false) && (decide (PySem.W.findIn K (.ref C) "__setattr__" = some (some (.builtin "object.__setattr__"))) && (decide (PySem.W.subIn K (.ref C) (.type "BaseException") = some true) && (decide (PySem.W.typeIn K (.ref C) = some (.type "type")) && PySem.W.keepIn K (.ref C))))
theorem oexB_ok {K : PySem.W.Frag} {C : Addr} (h : oexB K C = true) : OexC K C := by
  obtain ⟨h1, h⟩ := He.ba h
  obtain ⟨h2, h⟩ := He.ba h
  obtain ⟨h3, h⟩ := He.ba h
  obtain ⟨h4, h5⟩ := He.ba h
  refine ⟨?_, of_decide_eq_true h2, of_decide_eq_true h3, of_decide_eq_true h4, h5⟩
  split at h1
  · rename_i t dd cd sl ho
    split at h1
    · rename_i C' bm k0 k1 k2 k3 n k5 hm hs
      simp only [Bool.and_eq_true, beq_iff_eq, Bool.not_eq_true', decide_eq_true_eq] at h1
      obtain ⟨rfl, rfl, rfl, hd, hdel, hr⟩ := h1
      obtain ⟨nm, bs, mro, ns, qn, hd', sn, sub, ab, col, del⟩ := cd
      dsimp only at hm hdel hd
      subst hm hdel hd
      have hsl : sl = #[k0, k1, k2, k3, some (.builtin "ValueError.__new__"), k5] := by
        obtain ⟨l⟩ := sl
        simp only at hs
        rw [hs]
      subst hsl
      exact ⟨nm, qn, ns, bs, bm, sn, sub, ab, col, dd, k0, k1, k2, k3, k5, ho, hr⟩
    · cases h1
  · cases h1
/-- facts that the words of the hook do not say -/
def ex (K : PySem.W.Frag) : Bool := oexB K (He.ga K "BadText") && (oexB K (He.ga K "BadWhole") && (xfB K (He.ga K "BadText") && (decide (PySem.W.findIn K (.ref (He.ga K "BadText")) "at" = some none) && (decide (PySem.W.findIn K (.ref (He.ga K "BadWhole")) "part" = some none) &&
  (decide (PySem.W.exmOne K (.ref (He.ga K "BadText")) (.ref (He.ga K "BadText")) = some true) && (decide (PySem.W.findIn K (.ref (He.ga K "BadText")) "__init__" = some (some (.ref (He.ma K (He.ga K "BadText") "__init__")))) &&
  (decide (PySem.W.typeIn K (.ref (He.ma K (He.ga K "BadText") "__init__")) = some (.type "function")) && (He.tupB K "ZERO" [.int 0, .int 1] && (He.tupB K "ONE" [.int 1, .int 1] && He.valsB K (He.ga K "BINDING") [("or", .int 1), ("and", .int 2), ("not", .int 3)])))))))))
abbrev R : PySem.W.OpenRow := PySem.W.OpenLaw.row PySem.Challenge.rw_calmblanks_k61_whole_deep_and_long_texts
abbrev hk : PySem.W.Hook := He.hookX 5 fa fn ts tf ex
def ob (s : PySem.W.SharedT) : He.AlX := He.obsX 5 fa fn ts tf ex (HandSHeadRun.getT s)
theorem ob_eq (s : PySem.W.SharedT) : ob s = hk.obs s.abs := He.obsX_eq (HandSHeadRun.getT_eq s)
end K61
end

section
set_option Elab.async false
set_option linter.all false
set_option maxRecDepth 100000
set_option maxHeartbeats 0
namespace K61
open PySem PySem.W PySem.Calls PyProof.Rows
def loose1 : List PySem.Str := ["is_integer", "is_within", "is_lot", "is_pair", "BlankError", "BadWhole", "BadText", "ZERO", "ONE", "divisor", "lowest", "is_fraction", "plus", "times", "over", "add_all", "MOST_COLUMNS", "MOST_WORTHS", "MOST_CONTENTS", "is_sizes", "is_content", "tuples_of", "contents_of", "first_wrong", "first_bad", "is_place", "uneven_pattern", "Whole"]
def loose2 : List PySem.Str := ["FIGURES", "BINDING", "words_of", "column_of", "atom_of", "Reader", "read_expression", "read_question", "is_met", "answer_of", "answer", "asked"]
def loose3 : List PySem.Str := ["_law_hand", "_law_draw", "_law_any", "_law_low", "_law_contents", "_law_weight", "_law_great", "_law_rows", "_law_weights", "_law_is_due", "_law_atom", "_law_deep", "_law_atom_at", "_law_joint_at", "_law_deep_words", "_law_atom_so", "_law_deep_so", "_law_text", "_law_deep_answer", "_law_told"]
def loose : List PySem.Str := loose1 ++ loose2 ++ loose3
abbrev qv : Program := view R.prog [66]
theorem run0 (w : World) : HandSHeadRun.RunEq R qv hk ob 6000 loose (w.withFollow "special-get-raises" false) := by
  intro os
  kernel_rfl
theorem run1 (w : World) : HandSHeadRun.RunEq R qv hk ob 6000 loose (w.withFollow "special-get-raises" true) := by
  intro os
  kernel_rfl
theorem run (w : World) : HandSHeadRun.RunEq R qv hk ob 6000 loose w := byRow2 "special-get-raises" (P := fun w => HandSHeadRun.RunEq R qv hk ob 6000 loose w) run0 run1 w
end K61
end

section
set_option Elab.async false
set_option linter.all false
set_option maxRecDepth 100000
set_option maxHeartbeats 4000000
/-! Kc: what an expression gives, told as data. -/
namespace L2
open PySem PySem.Spec PyProof.Rows Evl
/-! ### data stay -/
mutual
theorem Dp.ex {K : PySem.W.Frag} {H H' : Hp} (e : Ex H H') : ∀ {v : V} {d : PyData}, Dp K H v d → Dp K H' v d
  | _, _, .non => .non
  | _, _, .bl b => .bl b
  | _, _, .int i => .int i
  | _, _, .str x => .str x
  | _, _, .lst h r => .lst (ex_l e h) (DpAll.ex e r)
  | _, _, .tup h r => .tup (ex_t e h) (DpAll.ex e r)
theorem DpAll.ex {K : PySem.W.Frag} {H H' : Hp} (e : Ex H H') : ∀ {vs : List V} {ds : List PyData}, DpAll K H vs ds → DpAll K H' vs ds
  | _, _, .nil => .nil
  | _, _, .cons h r => .cons (Dp.ex e h) (DpAll.ex e r)
end
section
variable {K : PySem.W.Frag} {H H' H1 H2 : Hp}
theorem DpAll.length : ∀ {vs : List V} {ds : List PyData}, DpAll K H vs ds → vs.length = ds.length
  | _, _, .nil => rfl
  | _, _, .cons _ r => by rw [List.length_cons, List.length_cons, DpAll.length r]
theorem DpAll.get : ∀ {vs : List V} {ds : List PyData} {i : Nat} {d : PyData}, DpAll K H vs ds → ds[i]? = some d → ∃ v, vs[i]? = some v ∧ Dp K H v d
  | _, _, _, _, .nil, h => by simp at h
  | _, _, 0, _, .cons h _, e => ⟨_, rfl, by simp at e; subst e; exact h⟩
  | _, _, i + 1, d, .cons _ r, e => by
    obtain ⟨v, h1, h2⟩ := DpAll.get (i := i) (d := d) r (by simpa using e)
    exact ⟨v, by simpa using h1, h2⟩
theorem DpAll.app : ∀ {vs ws : List V} {ds es : List PyData}, DpAll K H vs ds → DpAll K H ws es → DpAll K H (vs ++ ws) (ds ++ es)
  | _, _, _, _, .nil, s => s
  | _, _, _, _, .cons h r, s => .cons h (DpAll.app r s)
theorem DpAll.snoc {vs : List V} {v : V} {ds : List PyData} {d : PyData} (h : DpAll K H vs ds) (q : Dp K H v d) : DpAll K H (vs ++ [v]) (ds ++ [d]) := h.app (.cons q .nil)
theorem Dp.int_inv {v : V} {i : Int} (h : Dp K H v (.int i)) : v = .int i := by cases h; rfl
theorem Dp.str_inv {v : V} {x : Str} (h : Dp K H v (.str x)) : v = .str x := by cases h; rfl
theorem Dp.bl_inv {v : V} {b : Bool} (h : Dp K H v (.bool b)) : v = .bl b := by cases h; rfl
theorem Dp.non_inv {v : V} (h : Dp K H v .none) : v = .non := by cases h; rfl
theorem Dp.tup_inv {v : V} {ds : List PyData} (h : Dp K H v (.tuple ds)) : ∃ a xs, v = .ref a ∧ SqT K H a xs ∧ DpAll K H xs ds := by cases h with | tup h r => exact ⟨_, _, rfl, h, r⟩
theorem Dp.lst_inv {v : V} {ds : List PyData} (h : Dp K H v (.list ds)) : ∃ a xs, v = .ref a ∧ SqL K H a xs ∧ DpAll K H xs ds := by cases h with | lst h r => exact ⟨_, _, rfl, h, r⟩
theorem DpAll.one_inv {vs : List V} {d : PyData} (h : DpAll K H vs [d]) : ∃ v, vs = [v] ∧ Dp K H v d := by
  cases h with | cons h r => cases r; exact ⟨_, rfl, h⟩
theorem DpAll.two_inv {vs : List V} {d e : PyData} (h : DpAll K H vs [d, e]) : ∃ v u, vs = [v, u] ∧ Dp K H v d ∧ Dp K H u e := by
  cases h with | cons h r => obtain ⟨u, rfl, q⟩ := DpAll.one_inv r; exact ⟨_, _, rfl, h, q⟩
theorem DpAll.three_inv {vs : List V} {d e f : PyData} (h : DpAll K H vs [d, e, f]) : ∃ v u w, vs = [v, u, w] ∧ Dp K H v d ∧ Dp K H u e ∧ Dp K H w f := by
  cases h with | cons h r => obtain ⟨u, w, rfl, q, z⟩ := DpAll.two_inv r; exact ⟨_, _, _, rfl, h, q, z⟩
end
end L2
namespace K61
open PySem PySem.Spec PyProof.Rows L2 Evl
abbrev PD := PyData
/-! ### judgements -/
section
variable {K : PySem.W.Frag} {σ : L2.St} {H H' : Hp} {ta tb tc te : TE} {t u : TT}
/-- the expression gives data d, leaving what is known -/
def EvD (K : PySem.W.Frag) (te : TE) (σ : L2.St) (H : Hp) (d : PD) : Prop := ∀ H1, Ex H H1 → ∀ Q : VK, (∀ v H2, Ex H1 H2 → Dp K H2 v d → Q v H2) → te σ H1 Q
def EvDs (K : PySem.W.Frag) (ta : TA) (σ : L2.St) (H : Hp) (ds : List PD) : Prop := ∀ H1, Ex H H1 → ∀ Q : List V → Hp → Prop, (∀ vs H2, Ex H1 H2 → DpAll K H2 vs ds → Q vs H2) → ta σ H1 Q
/-- slot i holds data d -/
def Sd (K : PySem.W.Frag) (σ : L2.St) (H : Hp) (i : Nat) (d : PD) : Prop := ∃ v, σ[i]? = some (some v) ∧ Dp K H v d
theorem EvD.mono {d : PD} (e : Ex H H') (h : EvD K te σ H d) : EvD K te σ H' d := fun H1 a Q q => h H1 (e.trans a) Q q
theorem EvD.ev {v : V} {d : PD} (h : Ev te σ H v) (hd : Dp K H v d) : EvD K te σ H d := fun H1 e Q q => h H1 e Q fun H2 e2 => q v H2 e2 (hd.ex (e.trans e2))
theorem EvD.is {d d' : PD} (h : EvD K te σ H d) (e : d = d') : EvD K te σ H d' := e ▸ h
theorem EvD.int {i : Int} (h : EvD K te σ H (.int i)) : Ev te σ H (.int i) := fun H1 e Q q => h H1 e Q fun v H2 e2 hv => by rw [hv.int_inv]; exact q H2 e2
theorem EvD.str {x : Str} (h : EvD K te σ H (.str x)) : Ev te σ H (.str x) := fun H1 e Q q => h H1 e Q fun v H2 e2 hv => by rw [hv.str_inv]; exact q H2 e2
theorem EvD.bl {b : Bool} (h : EvD K te σ H (.bool b)) : Ev te σ H (.bl b) := fun H1 e Q q => h H1 e Q fun v H2 e2 hv => by rw [hv.bl_inv]; exact q H2 e2
theorem EvD.non (h : EvD K te σ H .none) : Ev te σ H .non := fun H1 e Q q => h H1 e Q fun v H2 e2 hv => by rw [hv.non_inv]; exact q H2 e2
theorem evI {i : Int} (h : Ev te σ H (.int i)) : EvD K te σ H (.int i) := EvD.ev h (.int i)
theorem evS {x : Str} (h : Ev te σ H (.str x)) : EvD K te σ H (.str x) := EvD.ev h (.str x)
theorem evB {b : Bool} (h : Ev te σ H (.bl b)) : EvD K te σ H (.bool b) := EvD.ev h (.bl b)
theorem ed_var {i : Nat} {d : PD} (h : Sd K σ H i d) : EvD K (tVar i) σ H d := fun H1 e Q q => by
  obtain ⟨v, hs, hd⟩ := h
  exact ⟨v, hs, q v H1 (Ex.refl H1) (hd.ex e)⟩
theorem ed_int {i : Int} : EvD K (tC (.int i)) σ H (.int i) := fun H1 _ Q q => q _ H1 (Ex.refl H1) (.int i)
theorem ed_str {x : Str} : EvD K (tC (.str x)) σ H (.str x) := fun H1 _ Q q => q _ H1 (Ex.refl H1) (.str x)
theorem ed_bl {b : Bool} : EvD K (tC (.bl b)) σ H (.bool b) := fun H1 _ Q q => q _ H1 (Ex.refl H1) (.bl b)
theorem ed_non : EvD K (tC .non) σ H .none := fun H1 _ Q q => q _ H1 (Ex.refl H1) .non
/-- a constant of the top that is data at every heap -/
theorem ed_top {v : V} {d : PD} (h : ∀ H, Dp K H v d) : EvD K (tC v) σ H d := fun H1 _ Q q => q _ H1 (Ex.refl H1) (h H1)
theorem eds_nil : EvDs K tNil σ H [] := fun H1 _ Q q => q [] H1 (Ex.refl H1) .nil
theorem eds_cons {tr : TA} {d : PD} {ds : List PD} (h : EvD K te σ H d) (hr : EvDs K tr σ H ds) : EvDs K (tCons te tr) σ H (d :: ds) := fun H1 e Q q =>
  h H1 e _ fun v H2 e2 hv => hr H2 (e.trans e2) _ fun vs H3 e3 hvs => q _ H3 (e2.trans e3) (.cons (hv.ex e3) hvs)
theorem ed_tup {tr : TA} {ds : List PD} (h : EvDs K tr σ H ds) (hl : ds.length ≤ 100000) : EvD K (tTup tr) σ H (.tuple ds) := fun H1 e Q q =>
  h H1 e _ fun vs H2 e2 hvs => ⟨sz_of (by rw [hvs.length]; exact hl), fun p hp => q _ _ (e2.trans (Ex.new hp)) (.tup (st_of upd_same) (hvs.ex (Ex.new hp)))⟩
theorem ed_lst {tr : TA} {ds : List PD} (h : EvDs K tr σ H ds) (hl : ds.length ≤ 100000) : EvD K (tLst tr) σ H (.list ds) := fun H1 e Q q =>
  h H1 e _ fun vs H2 e2 hvs => ⟨sz_of (by rw [hvs.length]; exact hl), fun p hp => q _ _ (e2.trans (Ex.new hp)) (.lst (sq_of upd_same) (hvs.ex (Ex.new hp)))⟩
/-- a call whose promise is a pure one -/
def Pure (K : PySem.W.Frag) (sp : Sp) (ds : List PD) (d : PD) : Prop := ∀ (vs : List V) (H : Hp), DpAll K H vs ds → ∀ (Q : VK) (E : XK), (∀ v H', Ex H H' → Dp K H' v d → Q v H') → sp vs H Q E
theorem ed_call {sp : Sp} {E : XK} {tr : TA} {ds : List PD} {d : PD} (h : EvDs K tr σ H ds) (hs : Pure K sp ds d) : EvD K (tCall sp [] E tr) σ H d := fun H1 e Q q =>
  h H1 e _ fun vs H2 e2 hvs => hs (vs ++ []) H2 (by rw [List.append_nil]; exact hvs) Q E fun v H3 e3 hv => q v H3 (e2.trans e3) hv
theorem ed_op {r : R2} {x y : PD} {z : PD} (ha : EvD K ta σ H x) (hb : EvD K tb σ H y) (hr : ∀ H1, Ex H H1 → ∀ v w, Dp K H1 v x → Dp K H1 w y → ∀ Q : VK, (∀ u H2, Ex H1 H2 → Dp K H2 u z → Q u H2) → r v w H1 Q) : EvD K (tOp r ta tb) σ H z := fun H1 e Q q =>
  ha H1 e _ fun v H2 e2 hv => hb H2 (e.trans e2) _ fun w H3 e3 hw => hr H3 ((e.trans e2).trans e3) v w (hv.ex e3) hw Q fun u H4 e4 hu => q u H4 ((e2.trans e3).trans e4) hu
theorem ed_I0 {g : Int → Int → Int} {i j : Int} (ha : EvD K ta σ H (.int i)) (hb : EvD K tb σ H (.int j)) : EvD K (tOp (rI0 fun i j => .int (g i j)) ta tb) σ H (.int (g i j)) :=
  evI (ev_op ha.int hb.int rv_I0)
theorem ed_B0 {g : Int → Int → Bool} {i j : Int} (ha : EvD K ta σ H (.int i)) (hb : EvD K tb σ H (.int j)) : EvD K (tOp (rI0 fun i j => .bl (g i j)) ta tb) σ H (.bool (g i j)) :=
  evB (ev_op ha.int hb.int rv_I0)
theorem ed_I {C : Int → Int → Prop} {g : Int → Int → Int} {i j : Int} (ha : EvD K ta σ H (.int i)) (hb : EvD K tb σ H (.int j)) (hc : C i j) : EvD K (tOp (rI C fun i j => .int (g i j)) ta tb) σ H (.int (g i j)) :=
  evI (ev_op ha.int hb.int (rv_I hc))
/-- scalars -/
inductive Sc : PD → V → Prop
  | non : Sc .none .non
  | bl (b : Bool) : Sc (.bool b) (.bl b)
  | int (i : Int) : Sc (.int i) (.int i)
  | str (x : Str) : Sc (.str x) (.str x)
theorem Sc.inv {d : PD} {v w : V} (s : Sc d v) (h : Dp K H w d) : w = v := by cases s <;> cases h <;> rfl
theorem EvD.sc {d : PD} {v : V} (s : Sc d v) (h : EvD K te σ H d) : Ev te σ H v := fun H1 e Q q => h H1 e Q fun w H2 e2 hw => by rw [s.inv hw]; exact q H2 e2
theorem ed_eq {d e : PD} {x y : V} (sx : Sc d x) (sy : Sc e y) (ha : EvD K ta σ H d) (hb : EvD K tb σ H e) (hs : scal x y = true) : EvD K (tOp rEq ta tb) σ H (.bool (decide (x = y))) :=
  evB (ev_op (ha.sc sx) (hb.sc sy) (rv_eq hs))
theorem ed_ne {d e : PD} {x y : V} (sx : Sc d x) (sy : Sc e y) (ha : EvD K ta σ H d) (hb : EvD K tb σ H e) (hs : scal x y = true) : EvD K (tOp rNe ta tb) σ H (.bool (!decide (x = y))) :=
  evB (ev_op (ha.sc sx) (hb.sc sy) (rv_ne hs))
theorem ed_eqI {i j : Int} (ha : EvD K ta σ H (.int i)) (hb : EvD K tb σ H (.int j)) : EvD K (tOp rEq ta tb) σ H (.bool (decide (i = j))) :=
  (ed_eq (.int i) (.int j) ha hb rfl).is (by congr 1; exact decide_eq_decide.mpr ⟨fun h => by cases h; rfl, fun h => by rw [h]⟩)
theorem ed_eqS {x y : Str} (ha : EvD K ta σ H (.str x)) (hb : EvD K tb σ H (.str y)) : EvD K (tOp rEq ta tb) σ H (.bool (decide (x = y))) :=
  (ed_eq (.str x) (.str y) ha hb rfl).is (by congr 1; exact decide_eq_decide.mpr ⟨fun h => by cases h; rfl, fun h => by rw [h]⟩)
theorem ed_neS {x y : Str} (ha : EvD K ta σ H (.str x)) (hb : EvD K tb σ H (.str y)) : EvD K (tOp rNe ta tb) σ H (.bool (!decide (x = y))) :=
  (ed_ne (.str x) (.str y) ha hb rfl).is (by congr 2; exact decide_eq_decide.mpr ⟨fun h => by cases h; rfl, fun h => by rw [h]⟩)
theorem ed_isN {d : PD} (ha : EvD K ta σ H d) : EvD K (tOp (fun x y H Q => y = .non ∧ Q (.bl (decide (x = .non))) H) ta (tC .non)) σ H (.bool (match d with | .none => true | _ => false)) := fun H1 e Q q =>
  ha H1 e _ fun v H2 e2 hv => ⟨rfl, q _ H2 e2 (by cases hv <;> exact .bl _)⟩
theorem ed_notN {d : PD} (ha : EvD K ta σ H d) : EvD K (tOp (fun x y H Q => y = .non ∧ Q (.bl (!decide (x = .non))) H) ta (tC .non)) σ H (.bool (match d with | .none => false | _ => true)) := fun H1 e Q q =>
  ha H1 e _ fun v H2 e2 hv => ⟨rfl, q _ H2 e2 (by cases hv <;> exact .bl _)⟩
theorem dp_at {xs : List V} {ds : List PD} {i : Int} {d : PD} (h : DpAll K H xs ds) (hi : atI ds i = some d) : ∃ v, atI xs i = some v ∧ Dp K H v d := by
  unfold atI at hi ⊢
  rw [h.length]
  cases e : ixN ds.length i with
  | none => rw [e] at hi; cases hi
  | some j =>
    rw [e] at hi
    exact h.get hi
theorem ed_ixT {ds : List PD} {i : Int} {d : PD} (ha : EvD K ta σ H (.tuple ds)) (hb : EvD K tb σ H (.int i)) (hi : atI ds i = some d) : EvD K (tOp (rIxT K) ta tb) σ H d :=
  ed_op ha hb fun H1 _ v w hv hw Q q => by
    obtain ⟨a, xs, rfl, hs, hx⟩ := hv.tup_inv
    obtain ⟨z, hz, hd⟩ := dp_at hx hi
    exact ⟨a, xs, i, z, rfl, hw.int_inv, hs, hz, q z H1 (Ex.refl H1) hd⟩
theorem ed_ixL {ds : List PD} {i : Int} {d : PD} (ha : EvD K ta σ H (.list ds)) (hb : EvD K tb σ H (.int i)) (hi : atI ds i = some d) : EvD K (tOp (rIxL K) ta tb) σ H d :=
  ed_op ha hb fun H1 _ v w hv hw Q q => by
    obtain ⟨a, xs, rfl, hs, hx⟩ := hv.lst_inv
    obtain ⟨z, hz, hd⟩ := dp_at hx hi
    exact ⟨a, xs, i, z, rfl, hw.int_inv, hs, hz, q z H1 (Ex.refl H1) hd⟩
theorem ed_ixS {x : Str} {i : Int} {c : Nat} (ha : EvD K ta σ H (.str x)) (hb : EvD K tb σ H (.int i)) (hl : x.length ≤ 100000) (hi : atI x.cps.toList i = some c) : EvD K (tOp rIxS ta tb) σ H (.str ⟨#[c]⟩) :=
  evS (ev_op ha.str hb.int (rv_ixS hl hi))
theorem ed_lenL {ds : List PD} (ha : EvD K ta σ H (.list ds)) : EvD K (tCB (fun xs H Q => ∃ p ys, xs = [.ref p] ∧ (SqL K H p ys ∨ SqT K H p ys) ∧ Q (.int ys.length) H) (tCons ta tNil)) σ H (.int ds.length) := fun H1 e Q q =>
  ha H1 e _ fun v H2 e2 hv => by
    obtain ⟨a, xs, rfl, hs, hx⟩ := hv.lst_inv
    exact ⟨a, xs, rfl, .inl hs, by rw [hx.length]; exact q _ H2 e2 (.int _)⟩
theorem ed_lenT {ds : List PD} (ha : EvD K ta σ H (.tuple ds)) : EvD K (tCB (fun xs H Q => ∃ p ys, xs = [.ref p] ∧ (SqL K H p ys ∨ SqT K H p ys) ∧ Q (.int ys.length) H) (tCons ta tNil)) σ H (.int ds.length) := fun H1 e Q q =>
  ha H1 e _ fun v H2 e2 hv => by
    obtain ⟨a, xs, rfl, hs, hx⟩ := hv.tup_inv
    exact ⟨a, xs, rfl, .inr hs, by rw [hx.length]; exact q _ H2 e2 (.int _)⟩
theorem ed_lenS {x : Str} (ha : EvD K ta σ H (.str x)) (hl : x.length ≤ 100000) : EvD K (tCB (fun xs H Q => ∃ z, xs = [.str z] ∧ z.length ≤ sizeLine ∧ Q (.int z.length) H) (tCons ta tNil)) σ H (.int x.length) := fun H1 e Q q =>
  ha H1 e _ fun v H2 e2 hv => ⟨x, by rw [hv.str_inv], sz_of hl, q _ H2 e2 (.int _)⟩
theorem ed_catS {x y : Str} (ha : EvD K ta σ H (.str x)) (hb : EvD K tb σ H (.str y)) (hl : x.length + y.length ≤ 100000) : EvD K (tOp (fun x y H Q => ∃ i j, x = .str i ∧ y = .str j ∧ i.length + j.length ≤ sizeLine ∧ Q (.str (i ++ j)) H) ta tb) σ H (.str (x ++ y)) :=
  ed_op ha hb fun H1 _ v w hv hw Q q => ⟨x, y, hv.str_inv, hw.str_inv, sz_of hl, q _ H1 (Ex.refl H1) (.str _)⟩
theorem ed_catT {xs ys : List PD} (ha : EvD K ta σ H (.tuple xs)) (hb : EvD K tb σ H (.tuple ys)) (hl : xs.length + ys.length ≤ 100000) : EvD K (tOp (rCatA K) ta tb) σ H (.tuple (xs ++ ys)) :=
  ed_op ha hb fun H1 _ v w hv hw Q q => by
    obtain ⟨a, vs, rfl, ha, hx⟩ := hv.tup_inv
    obtain ⟨b, ws, rfl, hb, hy⟩ := hw.tup_inv
    refine ⟨a, b, vs, ws, rfl, rfl, ha, hb, sz_of (by rw [hx.length, hy.length]; exact hl), fun e => ?_, fun _ e => ?_, fun _ _ p hp => ?_⟩
    · subst e
      cases hx
      exact q _ H1 (Ex.refl H1) (.tup hb hy)
    · subst e
      cases hy
      rw [List.append_nil] at q
      exact q _ H1 (Ex.refl H1) (.tup ha hx)
    · exact q _ _ (Ex.new hp) (.tup (st_of upd_same) ((hx.app hy).ex (Ex.new hp)))
/-- tests, K told -/
def EvTK (_ : PySem.W.Frag) (t : TT) (σ : L2.St) (H : Hp) (b : Bool) : Prop := EvT t σ H b
theorem etk_D {b : Bool} (h : EvD K te σ H (.bool b)) : EvTK K (tTest te) σ H b := et_test h.bl
theorem etk_DB {b : Bool} (h : EvD K te σ H (.bool b)) : EvTK K (tB te) σ H b := et_B h.bl
theorem etk_not {a : Bool} (h : EvTK K t σ H a) : EvTK K (tNot t) σ H (!a) := et_not h
theorem etk_and {a b : Bool} (h1 : EvTK K t σ H a) (h2 : a = true → EvTK K u σ H b) : EvTK K (tAnd t u) σ H (a && b) := et_and h1 h2
theorem etk_or {a b : Bool} (h1 : EvTK K t σ H a) (h2 : a = false → EvTK K u σ H b) : EvTK K (tOr t u) σ H (a || b) := et_or h1 h2
theorem EvTK.is {a b : Bool} (h : EvTK K t σ H a) (e : a = b) : EvTK K t σ H b := e ▸ h
theorem EvTK.mono {b : Bool} (e : Ex H H') (h : EvTK K t σ H b) : EvTK K t σ H' b := fun H1 a Q q => h H1 (e.trans a) Q q
theorem et_D {b : Bool} (h : EvD K te σ H (.bool b)) : EvT (tTest te) σ H b := et_test h.bl
theorem et_DB {b : Bool} (h : EvD K te σ H (.bool b)) : EvT (tB te) σ H b := et_B h.bl
theorem ed_and {a b : Bool} (h1 : EvD K ta σ H (.bool a)) (h2 : a = true → EvD K tb σ H (.bool b)) : EvD K (tAndV ta tb) σ H (.bool (a && b)) := evB (ev_andV h1.bl fun h => (h2 h).bl)
theorem ed_or {a b : Bool} (h1 : EvD K ta σ H (.bool a)) (h2 : a = false → EvD K tb σ H (.bool b)) : EvD K (tOrV ta tb) σ H (.bool (a || b)) := evB (ev_orV h1.bl fun h => (h2 h).bl)
theorem ed_not {a : Bool} (h1 : EvD K ta σ H (.bool a)) : EvD K (tNotV ta) σ H (.bool (!a)) := evB (ev_notV h1.bl)
theorem ed_if {b : Bool} {d : PD} (h : EvTK K t σ H b) (h1 : b = true → EvD K ta σ H d) (h2 : b = false → EvD K tb σ H d) : EvD K (tIf t ta tb) σ H d := fun H1 e Q q => h H1 e _ fun H2 e2 => by
  cases b with
  | true =>
    show ta σ H2 Q
    exact h1 rfl H2 (e.trans e2) Q fun v H3 e3 => q v H3 (e2.trans e3)
  | false =>
    show tb σ H2 Q
    exact h2 rfl H2 (e.trans e2) Q fun v H3 e3 => q v H3 (e2.trans e3)
theorem ed_chain {g g' : Int → Int → Bool} {i j k : Int} (ha : EvD K ta σ H (.int i)) (hb : EvD K tb σ H (.int j)) (hc : EvD K tc σ H (.int k)) : EvD K (tChain (rI0 fun i j => .bl (g i j)) (rI0 fun i j => .bl (g' i j)) ta tb tc) σ H (.bool (g i j && g' j k)) := fun H1 e Q q =>
  ha H1 e _ fun v H2 e2 hv => hb H2 (e.trans e2) _ fun w H3 e3 hw => ⟨i, j, hv.int_inv, hw.int_inv, g i j, rfl, by
    cases hg : g i j with
    | true =>
      rw [hg] at q
      show tc σ H3 _
      refine hc H3 ((e.trans e2).trans e3) _ fun z H4 e4 hz => ⟨j, k, hw.int_inv, hz.int_inv, ?_⟩
      exact q _ H4 ((e2.trans e3).trans e4) (by rw [Bool.true_and]; exact .bl _)
    | false =>
      rw [hg] at q
      show Q (.bl false) H3
      exact q _ H3 (e2.trans e3) (by rw [Bool.false_and]; exact .bl _)⟩
variable {D : Ends} {tu tw tz : TS} {tz' : TS}
theorem sd_ret {d : PD} (h : EvD K te σ H d) (k : ∀ v H1, Ex H H1 → Dp K H1 v d → D.rt v H1) : tRet te D σ H := h H (Ex.refl H) _ k
theorem sd_asg {i : Nat} {d : PD} (h : EvD K te σ H d) (k : ∀ v H1, Ex H H1 → Dp K H1 v d → D.nx (σ.set i (some v)) H1) : tAsg te (gName i) D σ H := h H (Ex.refl H) _ k
theorem qd_asg {i : Nat} {d : PD} (h : EvD K te σ H d) (k : ∀ v H1, Ex H H1 → Dp K H1 v d → tz D (σ.set i (some v)) H1) : tSeq (tAsg te (gName i)) tz D σ H := h H (Ex.refl H) _ k
theorem sd_drop {d : PD} (h : EvD K te σ H d) (k : ∀ H1, Ex H H1 → D.nx σ H1) : tDrop te D σ H := h H (Ex.refl H) _ fun _ H1 e _ => k H1 e
theorem kq_if (K : PySem.W.Frag) {b : Bool} (h : EvTK K t σ H b) (h1 : b = true → ∀ H1, Ex H H1 → tu { D with nx := tz D } σ H1) (h2 : b = false → ∀ H1, Ex H H1 → tw { D with nx := tz D } σ H1) : tSeq (tIfS t tu tw) tz D σ H := q_if h h1 h2
theorem kq_when (K : PySem.W.Frag) {b : Bool} (h : EvTK K t σ H b) (h1 : b = true → ∀ H1, Ex H H1 → tu { D with nx := tz D } σ H1) (h2 : b = false → ∀ H1, Ex H H1 → tz D σ H1) : tSeq (tIfS t tu tNext) tz D σ H := q_when h h1 h2
theorem ks_if (K : PySem.W.Frag) {b : Bool} (h : EvTK K t σ H b) (h1 : b = true → ∀ H1, Ex H H1 → tu D σ H1) (h2 : b = false → ∀ H1, Ex H H1 → tw D σ H1) : tIfS t tu tw D σ H := s_if h h1 h2
theorem ks_when (K : PySem.W.Frag) {b : Bool} (h : EvTK K t σ H b) (h1 : b = true → ∀ H1, Ex H H1 → tu D σ H1) (h2 : b = false → ∀ H1, Ex H H1 → D.nx σ H1) : tIfS t tu tNext D σ H := s_when h h1 h2
/-- an if that is not taken, that is taken -/
theorem kq_skip (K : PySem.W.Frag) (h : EvTK K t σ H false) (k : ∀ H1, Ex H H1 → tz D σ H1) : tSeq (tIfS t tu tNext) tz D σ H := q_when h (fun h => nomatch h) fun _ => k
theorem kq_take (K : PySem.W.Frag) (h : EvTK K t σ H true) (k : ∀ H1, Ex H H1 → tu { D with nx := tz D } σ H1) : tSeq (tIfS t tu tw) tz D σ H := q_if h (fun _ => k) fun h => nomatch h
theorem ks_take (K : PySem.W.Frag) (h : EvTK K t σ H true) (k : ∀ H1, Ex H H1 → tu D σ H1) : tIfS t tu tw D σ H := s_if h (fun _ => k) fun h => nomatch h
theorem ks_else (K : PySem.W.Frag) (h : EvTK K t σ H false) (k : ∀ H1, Ex H H1 → tw D σ H1) : tIfS t tu tw D σ H := s_if h (fun h => nomatch h) fun _ => k
theorem kq_else (K : PySem.W.Frag) (h : EvTK K t σ H false) (k : ∀ H1, Ex H H1 → tw { D with nx := tz D } σ H1) : tSeq (tIfS t tu tw) tz D σ H := q_if h (fun h => nomatch h) fun _ => k
theorem kq_while (K : PySem.W.Frag) (W : Nat → L2.St → Hp → Prop) (m0 : Nat) (h0 : W m0 σ H)
    (hs : ∀ m σ' H', W m σ' H' → ∃ b, EvTK K t σ' H' b ∧ (b = true → ∀ H1, Ex H' H1 → ∃ N : L2.St → Hp → Prop, (∀ σ2 H2, N σ2 H2 → ∃ m', m' < m ∧ W m' σ2 H2) ∧ tu { D with nx := N, ct := N, bk := tz D } σ' H1) ∧ (b = false → ∀ H1, Ex H' H1 → tz D σ' H1)) : tSeq (tWhile t tu) tz D σ H := q_while W m0 h0 hs
theorem ks_while (K : PySem.W.Frag) (W : Nat → L2.St → Hp → Prop) (m0 : Nat) (h0 : W m0 σ H)
    (hs : ∀ m σ' H', W m σ' H' → ∃ b, EvTK K t σ' H' b ∧ (b = true → ∀ H1, Ex H' H1 → ∃ N : L2.St → Hp → Prop, (∀ σ2 H2, N σ2 H2 → ∃ m', m' < m ∧ W m' σ2 H2) ∧ tu { D with nx := N, ct := N, bk := D.nx } σ' H1) ∧ (b = false → ∀ H1, Ex H' H1 → D.nx σ' H1)) : tWhile t tu D σ H := s_while W m0 h0 hs
end
end K61
end

section
set_option Elab.async false
set_option linter.all false
set_option maxRecDepth 100000
set_option maxHeartbeats 4000000
/-! Kd: walks over data: loops, comprehensions; the frame's facts, calls by name. -/
namespace K61
open PySem PySem.Spec PyProof.Rows L2 Evl RZ
section
variable {K : PySem.W.Frag} {σ : L2.St} {H H' : Hp} {ta tb tc te : TE} {t u : TT}
/-- the walk J goes over the data ds, whatever is added to H -/
structure JD (K : PySem.W.Frag) (J : It) (H : Hp) (ds : List PD) : Prop where
  go : ∀ H1, Ex H H1 → ∀ i, i < ds.length → J.go i H1
  yld : ∀ H1, Ex H H1 → ∀ i x H2, i < ds.length → J.yld i H1 x H2 → Ex H1 H2 ∧ ∃ d, ds[i]? = some d ∧ Dp K H2 x d
  stop : ∀ H1, Ex H H1 → J.stop ds.length H1
theorem JD.mono {J : It} {ds : List PD} (e : Ex H H') (j : JD K J H ds) : JD K J H' ds := ⟨fun H1 e1 => j.go H1 (e.trans e1), fun H1 e1 => j.yld H1 (e.trans e1), fun H1 e1 => j.stop H1 (e.trans e1)⟩
def WkD (K : PySem.W.Frag) (wi : TI) (σ : L2.St) (H : Hp) (ds : List PD) : Prop := ∀ H1, Ex H H1 → ∀ R : It → Hp → Prop, (∀ J H2, Ex H1 H2 → JD K J H2 ds → R J H2) → wi σ H1 R
theorem WkD.mono {wi : TI} {ds : List PD} (e : Ex H H') (h : WkD K wi σ H ds) : WkD K wi σ H' ds := fun H1 e1 => h H1 (e.trans e1)
theorem jd_list {a : Addr} {xs : List V} {ds : List PD} (h : SqL K H a xs) (r : DpAll K H xs ds) : JD K (Itl K a) H ds where
  go := fun H1 e i hi => by
    obtain ⟨v, h1, _⟩ := r.get (List.getElem?_eq_getElem hi)
    exact ⟨xs, v, ex_l e h, h1⟩
  yld := fun H1 e i x H2 hi y => by
    obtain ⟨rfl, y⟩ := y
    refine ⟨Ex.refl _, ds[i], List.getElem?_eq_getElem hi, ?_⟩
    obtain ⟨v, h1, h2⟩ := r.get (List.getElem?_eq_getElem hi)
    have := y xs (ex_l e h)
    rw [h1] at this
    cases this
    exact h2.ex e
  stop := fun H1 e => ⟨xs, ex_l e h, by rw [r.length]; exact Nat.le_refl _⟩
theorem jd_tup {a : Addr} {xs : List V} {ds : List PD} (h : SqT K H a xs) (r : DpAll K H xs ds) : JD K (Itt K a) H ds where
  go := fun H1 e i hi => by
    obtain ⟨v, h1, _⟩ := r.get (List.getElem?_eq_getElem hi)
    exact ⟨xs, v, ex_t e h, h1⟩
  yld := fun H1 e i x H2 hi y => by
    obtain ⟨rfl, y⟩ := y
    refine ⟨Ex.refl _, ds[i], List.getElem?_eq_getElem hi, ?_⟩
    obtain ⟨v, h1, h2⟩ := r.get (List.getElem?_eq_getElem hi)
    have := y xs (ex_t e h)
    rw [h1] at this
    cases this
    exact h2.ex e
  stop := fun H1 e => ⟨xs, ex_t e h, by rw [r.length]; exact Nat.le_refl _⟩
/-- lo, lo + 1, .. -/
def intD (lo : Int) (n : Nat) : List PD := (List.range n).map fun i => .int (lo + (i : Nat))
theorem intD_len {lo : Int} {n : Nat} : (intD lo n).length = n := by unfold intD; rw [List.length_map, List.length_range]
theorem intD_at {lo : Int} {n i : Nat} (h : i < n) : (intD lo n)[i]? = some (.int (lo + (i : Nat))) := by unfold intD; rw [List.getElem?_map, List.getElem?_range h]; rfl
theorem jd_range {lo : Int} {n : Nat} : JD K (Itr lo n) H (intD lo n) where
  go := fun H1 e i hi => by rw [intD_len] at hi; exact hi
  yld := fun H1 e i x H2 hi y => by
    obtain ⟨rfl, rfl⟩ := y
    rw [intD_len] at hi
    exact ⟨Ex.refl _, _, intD_at hi, .int _⟩
  stop := fun H1 e => by rw [intD_len]; exact Nat.le_refl n
def pair2 (a b : PD) : PD := .tuple [a, b]
theorem jd_zipT {a b : Addr} {xs ys : List V} {ds es : List PD} (h : SqT K H a xs) (r : DpAll K H xs ds) (h' : SqT K H b ys) (r' : DpAll K H ys es) (hl : ds.length = es.length) : JD K (ItzT K a b) H (List.zipWith pair2 ds es) where
  go := fun H1 e i hi => by
    rw [List.length_zipWith] at hi
    obtain ⟨v, h1, _⟩ := r.get (List.getElem?_eq_getElem (show i < ds.length by omega))
    obtain ⟨w, h2, _⟩ := r'.get (List.getElem?_eq_getElem (show i < es.length by omega))
    exact ⟨xs, ys, v, w, ex_t e h, ex_t e h', h1, h2⟩
  yld := fun H1 e i x H2 hi y => by
    rw [List.length_zipWith] at hi
    obtain ⟨T, x1, x2, rfl, hT, rfl, y1, y2⟩ := y
    obtain ⟨v, h1, d1⟩ := r.get (List.getElem?_eq_getElem (show i < ds.length by omega))
    obtain ⟨w, h2, d2⟩ := r'.get (List.getElem?_eq_getElem (show i < es.length by omega))
    have z1 := y1 xs (ex_t e h)
    have z2 := y2 ys (ex_t e h')
    rw [h1] at z1; cases z1
    rw [h2] at z2; cases z2
    refine ⟨Ex.new hT, pair2 (ds[i]'(by omega)) (es[i]'(by omega)), ?_, .tup (st_of upd_same) (.cons (d1.ex (e.trans (Ex.new hT))) (.cons (d2.ex (e.trans (Ex.new hT))) .nil))⟩
    rw [List.getElem?_zipWith, List.getElem?_eq_getElem (show i < ds.length by omega), List.getElem?_eq_getElem (show i < es.length by omega)]
  stop := fun H1 e => ⟨xs, ys, ex_t e h, ex_t e h', by rw [List.length_zipWith, r.length, r'.length]; omega⟩
def enumD (ds : List PD) : List PD := ds.zipIdx.map fun p => pair2 (.int (p.2 : Nat)) p.1
theorem enumD_len {ds : List PD} : (enumD ds).length = ds.length := by unfold enumD; rw [List.length_map, List.length_zipIdx]
theorem enumD_at {ds : List PD} {i : Nat} {d : PD} (h : ds[i]? = some d) : (enumD ds)[i]? = some (pair2 (.int (i : Nat)) d) := by
  unfold enumD
  rw [List.getElem?_map, List.getElem?_zipIdx, h]
  simp
theorem jd_enumL {a : Addr} {xs : List V} {ds : List PD} (h : SqL K H a xs) (r : DpAll K H xs ds) : JD K (Ite K a) H (enumD ds) where
  go := fun H1 e i hi => by
    rw [enumD_len] at hi
    obtain ⟨v, h1, _⟩ := r.get (List.getElem?_eq_getElem hi)
    exact ⟨xs, v, ex_l e h, h1⟩
  yld := fun H1 e i x H2 hi y => by
    rw [enumD_len] at hi
    obtain ⟨T, x1, rfl, hT, rfl, y1⟩ := y
    obtain ⟨v, h1, d1⟩ := r.get (List.getElem?_eq_getElem hi)
    have z1 := y1 xs (ex_l e h)
    rw [h1] at z1; cases z1
    exact ⟨Ex.new hT, _, enumD_at (List.getElem?_eq_getElem hi), .tup (st_of upd_same) (.cons (.int _) (.cons (d1.ex (e.trans (Ex.new hT))) .nil))⟩
  stop := fun H1 e => ⟨xs, ex_l e h, by rw [enumD_len, r.length]; exact Nat.le_refl _⟩
theorem wk_list {tl : TE} {ds : List PD} (h : EvD K tl σ H (.list ds)) : WkD K (iList K tl) σ H ds := fun H1 e R q => h H1 e _ fun v H2 e2 hv => by
  obtain ⟨a, xs, rfl, hs, hx⟩ := hv.lst_inv
  exact ⟨a, rfl, ⟨xs, hs⟩, q _ H2 e2 (jd_list hs hx)⟩
theorem wk_tup {tl : TE} {ds : List PD} (h : EvD K tl σ H (.tuple ds)) : WkD K (iTup K tl) σ H ds := fun H1 e R q => h H1 e _ fun v H2 e2 hv => by
  obtain ⟨a, xs, rfl, hs, hx⟩ := hv.tup_inv
  exact ⟨a, rfl, ⟨xs, hs⟩, q _ H2 e2 (jd_tup hs hx)⟩
theorem wk_range1 {ta : TE} {n : Int} (h : EvD K ta σ H (.int n)) (hn : -(2 ^ 62) ≤ n ∧ n < 2 ^ 62) : WkD K (iRng1 (tCons ta tNil)) σ H (intD 0 n.toNat) := fun H1 e R q => h H1 e _ fun v H2 e2 hv => by
  exact ⟨n, by rw [hv.int_inv], hn.1, hn.2, q _ H2 e2 jd_range⟩
theorem wk_zipT {ta tb : TE} {ds es : List PD} (h : EvD K ta σ H (.tuple ds)) (h' : EvD K tb σ H (.tuple es)) (hl : ds.length = es.length) : WkD K (iZipA K (tCons ta (tCons tb tNil))) σ H (List.zipWith pair2 ds es) := fun H1 e R q =>
  h H1 e _ fun v H2 e2 hv => h' H2 (e.trans e2) _ fun w H3 e3 hw => by
    obtain ⟨a, xs, rfl, hs, hx⟩ := hv.tup_inv
    obtain ⟨b, ys, rfl, hs', hx'⟩ := hw.tup_inv
    exact ⟨a, b, xs, ys, rfl, .inr ⟨ex_t e3 hs, hs', q _ H3 (e2.trans e3) (jd_zipT (ex_t e3 hs) (hx.ex e3) hs' hx' hl)⟩⟩
theorem wk_enumL {ta : TE} {ds : List PD} (h : EvD K ta σ H (.list ds)) : WkD K (iEnum K (tCons ta tNil)) σ H (enumD ds) := fun H1 e R q => h H1 e _ fun v H2 e2 hv => by
  obtain ⟨a, xs, rfl, hs, hx⟩ := hv.lst_inv
  exact ⟨a, xs, rfl, hs, q _ H2 e2 (jd_enumL hs hx)⟩
/-! ### loops -/
variable {D : Ends} {wi : TI} {g : TG} {tu : TS} {tz : TS} {tt : TT}
/-- what a turn is to reach -/
def nxt (H0 : Hp) (Pv : Nat → L2.St → Hp → Prop) (i : Nat) : L2.St → Hp → Prop := fun σ H => Ex H0 H ∧ Pv (i + 1) σ H
/-- for: Pv i what holds ahead of turn i; what the walk leans on (H0) must stay -/
theorem sd_for {ds : List PD} (hw : WkD K wi σ H ds) (Pv : Nat → L2.St → Hp → Prop) (h0 : ∀ H1, Ex H H1 → Pv 0 σ H1)
    (turn : ∀ H0, Ex H H0 → ∀ i d, ds[i]? = some d → ∀ σ' H', Ex H0 H' → Pv i σ' H' → ∀ x H1, Ex H' H1 → Dp K H1 x d → g x σ' H1 fun σ2 H2 => tu { D with nx := nxt H0 Pv i, ct := nxt H0 Pv i, bk := D.nx } σ2 H2)
    (hd : ∀ σ' H', Ex H H' → Pv ds.length σ' H' → D.nx σ' H') : tFor wi g tu D σ H := hw H (Ex.refl H) _ fun J H1 e1 j => by
  refine ⟨fun i m σ' H' => m = ds.length - i ∧ i ≤ ds.length ∧ Ex H1 H' ∧ Pv i σ' H', ⟨ds.length, by simp, Nat.zero_le _, Ex.refl _, h0 H1 e1⟩, ?_⟩
  rintro i m σ' H' ⟨rfl, hi, ee, p⟩
  by_cases hlt : i < ds.length
  · refine .inr ⟨j.go H' ee i hlt, nxt H1 Pv i, fun σ2 H2 q => ⟨ds.length - (i + 1), by omega, rfl, hlt, q⟩, fun x H2 y => ?_⟩
    obtain ⟨e2, d, hd', hdp⟩ := j.yld H' ee i x H2 hlt y
    exact turn H1 e1 i d hd' σ' H' ee p x H2 e2 hdp
  · have e : i = ds.length := by omega
    subst e
    exact .inl ⟨j.stop H' ee, hd σ' H' (e1.trans ee) p⟩
theorem qd_for {ds : List PD} (hw : WkD K wi σ H ds) (Pv : Nat → L2.St → Hp → Prop) (h0 : ∀ H1, Ex H H1 → Pv 0 σ H1)
    (turn : ∀ H0, Ex H H0 → ∀ i d, ds[i]? = some d → ∀ σ' H', Ex H0 H' → Pv i σ' H' → ∀ x H1, Ex H' H1 → Dp K H1 x d → g x σ' H1 fun σ2 H2 => tu { D with nx := nxt H0 Pv i, ct := nxt H0 Pv i, bk := tz D } σ2 H2)
    (hd : ∀ σ' H', Ex H H' → Pv ds.length σ' H' → tz D σ' H') : tSeq (tFor wi g tu) tz D σ H := sd_for (D := { D with nx := tz D }) hw Pv h0 turn hd
/-- targets -/
abbrev gPair (K : PySem.W.Frag) (i j : Nat) : TG := gTup K 2 (gCons (gName i) (gCons (gName j) gNil))
theorem g_pair {i j : Nat} {x : V} {d1 d2 : PD} {Q : L2.St → Hp → Prop} (h : Dp K H x (pair2 d1 d2)) (k : ∀ x1 x2, Dp K H x1 d1 → Dp K H x2 d2 → Q ((σ.set i (some x1)).set j (some x2)) H) : gPair K i j x σ H Q := by
  obtain ⟨a, xs, rfl, hs, hx⟩ := Dp.tup_inv h
  obtain ⟨v, u, rfl, q1, q2⟩ := hx.two_inv
  exact ⟨a, _, rfl, hs, rfl, v, _, rfl, u, _, rfl, rfl, k v u q1 q2⟩
theorem g_nest {i j k : Nat} {x : V} {d1 d2 d3 : PD} {Q : L2.St → Hp → Prop} (h : Dp K H x (pair2 d1 (pair2 d2 d3))) (q : ∀ x1 x2 x3, Dp K H x1 d1 → Dp K H x2 d2 → Dp K H x3 d3 → Q (((σ.set i (some x1)).set j (some x2)).set k (some x3)) H) :
    gTup K 2 (gCons (gName i) (gCons (gPair K j k) gNil)) x σ H Q := by
  obtain ⟨a, xs, rfl, hs, hx⟩ := Dp.tup_inv h
  obtain ⟨v, u, rfl, q1, q2⟩ := hx.two_inv
  exact ⟨a, _, rfl, hs, rfl, v, _, rfl, u, _, rfl, g_pair q2 fun x1 x2 h1 h2 => ⟨rfl, q v x1 x2 q1 h1 h2⟩⟩
/-! ### data without lists stay when lists change -/
mutual
def tfr : PD → Bool
  | .tuple ds => tfrs ds
  | .list _ => false
  | .dict _ => false
  | _ => true
def tfrs : List PD → Bool
  | [] => true
  | d :: ds => tfr d && tfrs ds
end
theorem tfrs_mem : ∀ {ds : List PD}, (∀ d ∈ ds, tfr d = true) → tfrs ds = true
  | [], _ => by rw [tfrs]
  | d :: ds, h => by rw [tfrs, h d List.mem_cons_self, tfrs_mem fun e he => h e (List.mem_cons_of_mem _ he)]; rfl
structure Tx (H H' : Hp) : Prop where
  t : ∀ b xs, H b = some (.tup xs) → H' b = some (.tup xs)
  f : ∀ b o u, H b = some (.frz o u) → H' b = some (.frz o u)
theorem Tx.of {H H' : Hp} (e : Ex H H') : Tx H H' := ⟨fun b xs h => e b _ h, fun b o u h => e b _ h⟩
theorem Tx.refl (H : Hp) : Tx H H := ⟨fun _ _ h => h, fun _ _ _ h => h⟩
theorem Tx.trans {H H1 H2 : Hp} (a : Tx H H1) (b : Tx H1 H2) : Tx H H2 := ⟨fun c xs h => b.t c xs (a.t c xs h), fun c o u h => b.f c o u (a.f c o u h)⟩
/-- a list's, a dict's, an instance's place is written -/
theorem Tx.upd {H : Hp} {a : Addr} {o u : HO} (h : H a = some o) (h1 : ∀ xs, o ≠ .tup xs) (h2 : ∀ ob u, o ≠ .frz ob u) : Tx H (L2.upd H a u) := by
  refine ⟨fun b xs e => ?_, fun b ob w e => ?_⟩
  · rw [upd_ne (fun z => by rw [z, h] at e; exact h1 xs (Option.some.inj e))]; exact e
  · rw [upd_ne (fun z => by rw [z, h] at e; exact h2 ob w (Option.some.inj e))]; exact e
theorem Tx.updL {H : Hp} {a : Addr} {xs : List V} {u : HO} (h : H a = some (.lst xs)) : Tx H (L2.upd H a u) := Tx.upd h (fun _ z => by cases z) (fun _ _ z => by cases z)
theorem Tx.updN {H : Hp} {a : Addr} {u : HO} (h : H a = none) : Tx H (L2.upd H a u) := Tx.of (Ex.new h)
theorem Tx.rd {H H' : Hp} (x : Tx H H') {a : Addr} {xs : List V} (h : Rd H a (.tup xs)) : Rd H' a (.tup xs) := by
  rcases h with h | ⟨o, h⟩
  · exact .inl (x.t _ _ h)
  · exact .inr ⟨o, x.f _ _ _ h⟩
theorem Tx.sq {H H' : Hp} (x : Tx H H') {a : Addr} {xs : List V} (h : SqT K H a xs) : SqT K H' a xs := by
  rcases h with h | h
  · exact .inl (x.rd h)
  · exact .inr h
mutual
theorem dp_tx {H H' : Hp} (x : Tx H H') : ∀ {v : V} {d : PD}, tfr d = true → Dp K H v d → Dp K H' v d
  | _, _, _, .non => .non
  | _, _, _, .bl b => .bl b
  | _, _, _, .int i => .int i
  | _, _, _, .str y => .str y
  | _, _, h, .lst _ _ => by rw [tfr] at h; cases h
  | _, _, h, .tup q r => .tup (x.sq q) (dps_tx x (by rw [tfr] at h; exact h) r)
theorem dps_tx {H H' : Hp} (x : Tx H H') : ∀ {vs : List V} {ds : List PD}, tfrs ds = true → DpAll K H vs ds → DpAll K H' vs ds
  | _, _, _, .nil => .nil
  | _, _, h, .cons q r => by
    rw [tfrs, Bool.and_eq_true] at h
    exact .cons (dp_tx x h.1 q) (dps_tx x h.2 r)
end
/-! ### comprehensions -/
theorem ed_lc {vs : List Nat} {ds : List PD} (hw : WkD K wi σ H ds) (keep : PD → Bool) (out : PD → PD) (hl : ds.length ≤ 100000) (hf : ∀ d ∈ ds, tfr (out d) = true)
    (turn : ∀ H0, Ex H H0 → ∀ d, d ∈ ds → ∀ x, Dp K H0 x d → ∀ Q : L2.St → Hp → Prop, (∀ σ2, wipe σ2 vs = wipe σ vs → EvTK K tt σ2 H0 (keep d) → (keep d = true → EvD K te σ2 H0 (out d)) → Q σ2 H0) → g x (wipe σ vs) H0 Q) :
    EvD K (tLc wi g tt te vs) σ H (.list ((ds.filter keep).map out)) := fun H0 e0 Q q => hw H0 e0 _ fun J H1 e1 j => fun Dl hD => by
  refine ⟨fun i m H' => m = ds.length - i ∧ i ≤ ds.length ∧ Ex H1 H' ∧ ∃ acc, H' Dl = some (.lst acc) ∧ DpAll K H' acc (((ds.take i).filter keep).map out), ⟨ds.length, by simp, Nat.zero_le _, Ex.new hD, [], upd_same, .nil⟩, ?_⟩
  rintro i m H' ⟨rfl, hi, ee, acc, ha, hacc⟩
  by_cases hlt : i < ds.length
  · refine .inr ⟨j.go H' ee i hlt, fun H2 => Ex H1 H2 ∧ ∃ acc, H2 Dl = some (.lst acc) ∧ DpAll K H2 acc (((ds.take (i + 1)).filter keep).map out), fun H2 ⟨q1, q2⟩ => ⟨ds.length - (i + 1), by omega, rfl, hlt, q1, q2⟩, fun x H2 y => ?_⟩
    obtain ⟨e2, d, hd', hdp⟩ := j.yld H' ee i x H2 hlt y
    have hmem : d ∈ ds := List.mem_of_getElem? hd'
    have hdi : ds[i] = d := by rw [List.getElem?_eq_getElem hlt] at hd'; exact Option.some.inj hd'
    have etk : ds.take (i + 1) = ds.take i ++ [d] := by rw [List.take_succ_eq_append_getElem hlt, hdi]
    have hlen : acc.length ≤ i := by
      rw [hacc.length, List.length_map]
      exact Nat.le_trans (List.length_filter_le _ _) (by rw [List.length_take]; omega)
    refine turn H2 (((e0.trans e1).trans ee).trans e2) d hmem x hdp _ fun σ2 hw2 ht he => ⟨hw2, ht H2 (Ex.refl _) _ fun H3 e3 => ?_⟩
    have hfl : ∀ e ∈ ((ds.take i).filter keep).map out, tfr e = true := fun e he => by
      obtain ⟨z, hz, rfl⟩ := List.mem_map.mp he
      exact hf z (List.mem_of_mem_take (List.mem_filter.mp hz).1)
    cases hk : keep d with
    | true =>
      show te σ2 H3 _
      refine he hk H3 e3 _ fun v H4 e4 hv => ⟨acc, e4 _ _ (e3 _ _ (e2 _ _ ha)), sz_lt (by omega), ?_, acc ++ [v], upd_same, ?_⟩
      · exact Ex.mut (((ee.trans e2).trans e3).trans e4) hD
      · rw [etk, List.filter_append, List.map_append, List.filter_cons, if_pos hk]
        have tx : Tx H4 (L2.upd H4 Dl (.lst (acc ++ [v]))) := Tx.updL (e4 _ _ (e3 _ _ (e2 _ _ ha)))
        exact (dps_tx tx (tfrs_mem hfl) (hacc.ex ((e2.trans e3).trans e4))).snoc (dp_tx tx (hf d hmem) hv)
    | false =>
      show Ex H1 H3 ∧ _
      refine ⟨(ee.trans e2).trans e3, acc, e3 _ _ (e2 _ _ ha), ?_⟩
      rw [etk, List.filter_append, List.map_append, List.filter_cons, if_neg (by rw [hk]; exact Bool.false_ne_true)]
      show DpAll K H3 acc (_ ++ [])
      rw [List.append_nil]
      exact hacc.ex (e2.trans e3)
  · have e : i = ds.length := by omega
    subst e
    rw [List.take_length] at hacc
    exact .inl ⟨j.stop H' ee, q _ H' (e1.trans ee) (.lst (sq_of ha) hacc)⟩
/-- over a name -/
theorem ed_lcN {vs : List Nat} {ds : List PD} {j : Nat} (hw : WkD K wi σ H ds) (keep : PD → Bool) (out : PD → PD) (hl : ds.length ≤ 100000) (hf : ∀ d ∈ ds, tfr (out d) = true) (hwp : ∀ x, wipe ((wipe σ vs).set j (some x)) vs = wipe σ vs)
    (turn : ∀ H0, Ex H H0 → ∀ d, d ∈ ds → ∀ x, Dp K H0 x d → EvTK K tt ((wipe σ vs).set j (some x)) H0 (keep d) ∧ (keep d = true → EvD K te ((wipe σ vs).set j (some x)) H0 (out d))) :
    EvD K (tLc wi (gName j) tt te vs) σ H (.list ((ds.filter keep).map out)) := ed_lc hw keep out hl hf fun H0 e d hd x hx Q q => q _ (hwp x) (turn H0 e d hd x hx).1 (turn H0 e d hd x hx).2
theorem et_yes : EvTK K tYes σ H true := fun H1 _ _ q => q H1 (Ex.refl H1)
/-- .. without a test -/
theorem ed_lcM {vs : List Nat} {ds : List PD} {j : Nat} (hw : WkD K wi σ H ds) (out : PD → PD) (hl : ds.length ≤ 100000) (hf : ∀ d ∈ ds, tfr (out d) = true) (hwp : ∀ x, wipe ((wipe σ vs).set j (some x)) vs = wipe σ vs)
    (turn : ∀ H0, Ex H H0 → ∀ d, d ∈ ds → ∀ x, Dp K H0 x d → EvD K te ((wipe σ vs).set j (some x)) H0 (out d)) :
    EvD K (tLc wi (gName j) tYes te vs) σ H (.list (ds.map out)) := (ed_lcN hw (fun _ => true) out hl hf hwp fun H0 e d hd x hx => ⟨et_yes, fun _ => turn H0 e d hd x hx⟩).is (by rw [List.filter_eq_self.mpr fun _ _ => rfl])
/-- over a pair of names; p1 p2 the parts of an item -/
theorem ed_lcP {vs : List Nat} {ds : List PD} {i j : Nat} (hw : WkD K wi σ H ds) (keep : PD → Bool) (out : PD → PD) (hl : ds.length ≤ 100000) (hf : ∀ d ∈ ds, tfr (out d) = true) (hwp : ∀ x y, wipe (((wipe σ vs).set i (some x)).set j (some y)) vs = wipe σ vs)
    (turn : ∀ H0, Ex H H0 → ∀ d, d ∈ ds → ∃ d1 d2, d = pair2 d1 d2 ∧ ∀ x y, Dp K H0 x d1 → Dp K H0 y d2 → EvTK K tt (((wipe σ vs).set i (some x)).set j (some y)) H0 (keep d) ∧ (keep d = true → EvD K te (((wipe σ vs).set i (some x)).set j (some y)) H0 (out d))) :
    EvD K (tLc wi (gPair K i j) tt te vs) σ H (.list ((ds.filter keep).map out)) := ed_lc hw keep out hl hf fun H0 e d hd x hx Q q => by
  obtain ⟨d1, d2, rfl, k⟩ := turn H0 e d hd
  exact g_pair hx fun x1 x2 h1 h2 => q _ (hwp x1 x2) (k x1 x2 h1 h2).1 (k x1 x2 h1 h2).2
end
end K61
end

section
set_option Elab.async false
set_option linter.all false
set_option maxRecDepth 100000
set_option maxHeartbeats 4000000
/-! Ke: the top's facts by name; calls of the text's defs. -/
namespace K61
open PySem PySem.Spec PyProof.Rows L2 Evl
/-- what the top has left, at a heap of the law's run -/
structure W0 (P : Program) (w : World) (K : PySem.W.Frag) (mg : Str → Option Value) (base : Heap) : Prop where
  kin : K.In base
  ns : base.Ns mainGlobals mg
  says : He.SaysT fa fn ts w K
  more : ex K = true
  tab : ∀ p ∈ tf, LamX.TabB base mg (He.cT K p).1 (He.cT K p).2
section
variable {P : Program} {w : World} {K : PySem.W.Frag} {mg : Str → Option Value} {base : Heap}
namespace W0
variable (C : W0 P w K mg base)
include C
theorem g_is_integer : mg "is_integer" = some (.ref (He.ga K "is_integer")) := He.glo_ok C.kin C.ns (C.says.d.fact 0 (f := .glo "is_integer") rfl)
theorem g_is_within : mg "is_within" = some (.ref (He.ga K "is_within")) := He.glo_ok C.kin C.ns (C.says.d.fact 1 (f := .glo "is_within") rfl)
theorem g_is_lot : mg "is_lot" = some (.ref (He.ga K "is_lot")) := He.glo_ok C.kin C.ns (C.says.d.fact 2 (f := .glo "is_lot") rfl)
theorem g_is_pair : mg "is_pair" = some (.ref (He.ga K "is_pair")) := He.glo_ok C.kin C.ns (C.says.d.fact 3 (f := .glo "is_pair") rfl)
theorem g_BadWhole : mg "BadWhole" = some (.ref (He.ga K "BadWhole")) := He.glo_ok C.kin C.ns (C.says.d.fact 4 (f := .glo "BadWhole") rfl)
theorem g_BadText : mg "BadText" = some (.ref (He.ga K "BadText")) := He.glo_ok C.kin C.ns (C.says.d.fact 5 (f := .glo "BadText") rfl)
theorem g_ZERO : mg "ZERO" = some (.ref (He.ga K "ZERO")) := He.glo_ok C.kin C.ns (C.says.d.fact 6 (f := .glo "ZERO") rfl)
theorem g_ONE : mg "ONE" = some (.ref (He.ga K "ONE")) := He.glo_ok C.kin C.ns (C.says.d.fact 7 (f := .glo "ONE") rfl)
theorem g_divisor : mg "divisor" = some (.ref (He.ga K "divisor")) := He.glo_ok C.kin C.ns (C.says.d.fact 8 (f := .glo "divisor") rfl)
theorem g_lowest : mg "lowest" = some (.ref (He.ga K "lowest")) := He.glo_ok C.kin C.ns (C.says.d.fact 9 (f := .glo "lowest") rfl)
theorem g_is_fraction : mg "is_fraction" = some (.ref (He.ga K "is_fraction")) := He.glo_ok C.kin C.ns (C.says.d.fact 10 (f := .glo "is_fraction") rfl)
theorem g_plus : mg "plus" = some (.ref (He.ga K "plus")) := He.glo_ok C.kin C.ns (C.says.d.fact 11 (f := .glo "plus") rfl)
theorem g_times : mg "times" = some (.ref (He.ga K "times")) := He.glo_ok C.kin C.ns (C.says.d.fact 12 (f := .glo "times") rfl)
theorem g_over : mg "over" = some (.ref (He.ga K "over")) := He.glo_ok C.kin C.ns (C.says.d.fact 13 (f := .glo "over") rfl)
theorem g_add_all : mg "add_all" = some (.ref (He.ga K "add_all")) := He.glo_ok C.kin C.ns (C.says.d.fact 14 (f := .glo "add_all") rfl)
theorem g_is_sizes : mg "is_sizes" = some (.ref (He.ga K "is_sizes")) := He.glo_ok C.kin C.ns (C.says.d.fact 15 (f := .glo "is_sizes") rfl)
theorem g_is_content : mg "is_content" = some (.ref (He.ga K "is_content")) := He.glo_ok C.kin C.ns (C.says.d.fact 16 (f := .glo "is_content") rfl)
theorem g_tuples_of : mg "tuples_of" = some (.ref (He.ga K "tuples_of")) := He.glo_ok C.kin C.ns (C.says.d.fact 17 (f := .glo "tuples_of") rfl)
theorem g_contents_of : mg "contents_of" = some (.ref (He.ga K "contents_of")) := He.glo_ok C.kin C.ns (C.says.d.fact 18 (f := .glo "contents_of") rfl)
theorem g_first_wrong : mg "first_wrong" = some (.ref (He.ga K "first_wrong")) := He.glo_ok C.kin C.ns (C.says.d.fact 19 (f := .glo "first_wrong") rfl)
theorem g_first_bad : mg "first_bad" = some (.ref (He.ga K "first_bad")) := He.glo_ok C.kin C.ns (C.says.d.fact 20 (f := .glo "first_bad") rfl)
theorem g_is_place : mg "is_place" = some (.ref (He.ga K "is_place")) := He.glo_ok C.kin C.ns (C.says.d.fact 21 (f := .glo "is_place") rfl)
theorem g_uneven_pattern : mg "uneven_pattern" = some (.ref (He.ga K "uneven_pattern")) := He.glo_ok C.kin C.ns (C.says.d.fact 22 (f := .glo "uneven_pattern") rfl)
theorem g_Whole : mg "Whole" = some (.ref (He.ga K "Whole")) := He.glo_ok C.kin C.ns (C.says.d.fact 23 (f := .glo "Whole") rfl)
theorem g_BINDING : mg "BINDING" = some (.ref (He.ga K "BINDING")) := He.glo_ok C.kin C.ns (C.says.d.fact 24 (f := .glo "BINDING") rfl)
theorem g_words_of : mg "words_of" = some (.ref (He.ga K "words_of")) := He.glo_ok C.kin C.ns (C.says.d.fact 25 (f := .glo "words_of") rfl)
theorem g_column_of : mg "column_of" = some (.ref (He.ga K "column_of")) := He.glo_ok C.kin C.ns (C.says.d.fact 26 (f := .glo "column_of") rfl)
theorem g_atom_of : mg "atom_of" = some (.ref (He.ga K "atom_of")) := He.glo_ok C.kin C.ns (C.says.d.fact 27 (f := .glo "atom_of") rfl)
theorem g_Reader : mg "Reader" = some (.ref (He.ga K "Reader")) := He.glo_ok C.kin C.ns (C.says.d.fact 28 (f := .glo "Reader") rfl)
theorem g_read_expression : mg "read_expression" = some (.ref (He.ga K "read_expression")) := He.glo_ok C.kin C.ns (C.says.d.fact 29 (f := .glo "read_expression") rfl)
theorem g_read_question : mg "read_question" = some (.ref (He.ga K "read_question")) := He.glo_ok C.kin C.ns (C.says.d.fact 30 (f := .glo "read_question") rfl)
theorem g_is_met : mg "is_met" = some (.ref (He.ga K "is_met")) := He.glo_ok C.kin C.ns (C.says.d.fact 31 (f := .glo "is_met") rfl)
theorem g_answer_of : mg "answer_of" = some (.ref (He.ga K "answer_of")) := He.glo_ok C.kin C.ns (C.says.d.fact 32 (f := .glo "answer_of") rfl)
theorem g_answer : mg "answer" = some (.ref (He.ga K "answer")) := He.glo_ok C.kin C.ns (C.says.d.fact 33 (f := .glo "answer") rfl)
theorem g_asked : mg "asked" = some (.ref (He.ga K "asked")) := He.glo_ok C.kin C.ns (C.says.d.fact 34 (f := .glo "asked") rfl)
theorem g__law_hand : mg "_law_hand" = some (.ref (He.ga K "_law_hand")) := He.glo_ok C.kin C.ns (C.says.d.fact 35 (f := .glo "_law_hand") rfl)
theorem g__law_draw : mg "_law_draw" = some (.ref (He.ga K "_law_draw")) := He.glo_ok C.kin C.ns (C.says.d.fact 36 (f := .glo "_law_draw") rfl)
theorem g__law_any : mg "_law_any" = some (.ref (He.ga K "_law_any")) := He.glo_ok C.kin C.ns (C.says.d.fact 37 (f := .glo "_law_any") rfl)
theorem g__law_low : mg "_law_low" = some (.ref (He.ga K "_law_low")) := He.glo_ok C.kin C.ns (C.says.d.fact 38 (f := .glo "_law_low") rfl)
theorem g__law_contents : mg "_law_contents" = some (.ref (He.ga K "_law_contents")) := He.glo_ok C.kin C.ns (C.says.d.fact 39 (f := .glo "_law_contents") rfl)
theorem g__law_weight : mg "_law_weight" = some (.ref (He.ga K "_law_weight")) := He.glo_ok C.kin C.ns (C.says.d.fact 40 (f := .glo "_law_weight") rfl)
theorem g__law_great : mg "_law_great" = some (.ref (He.ga K "_law_great")) := He.glo_ok C.kin C.ns (C.says.d.fact 41 (f := .glo "_law_great") rfl)
theorem g__law_rows : mg "_law_rows" = some (.ref (He.ga K "_law_rows")) := He.glo_ok C.kin C.ns (C.says.d.fact 42 (f := .glo "_law_rows") rfl)
theorem g__law_weights : mg "_law_weights" = some (.ref (He.ga K "_law_weights")) := He.glo_ok C.kin C.ns (C.says.d.fact 43 (f := .glo "_law_weights") rfl)
theorem g__law_is_due : mg "_law_is_due" = some (.ref (He.ga K "_law_is_due")) := He.glo_ok C.kin C.ns (C.says.d.fact 44 (f := .glo "_law_is_due") rfl)
theorem g__law_atom : mg "_law_atom" = some (.ref (He.ga K "_law_atom")) := He.glo_ok C.kin C.ns (C.says.d.fact 45 (f := .glo "_law_atom") rfl)
theorem g__law_deep : mg "_law_deep" = some (.ref (He.ga K "_law_deep")) := He.glo_ok C.kin C.ns (C.says.d.fact 46 (f := .glo "_law_deep") rfl)
theorem g__law_atom_at : mg "_law_atom_at" = some (.ref (He.ga K "_law_atom_at")) := He.glo_ok C.kin C.ns (C.says.d.fact 47 (f := .glo "_law_atom_at") rfl)
theorem g__law_joint_at : mg "_law_joint_at" = some (.ref (He.ga K "_law_joint_at")) := He.glo_ok C.kin C.ns (C.says.d.fact 48 (f := .glo "_law_joint_at") rfl)
theorem g__law_deep_words : mg "_law_deep_words" = some (.ref (He.ga K "_law_deep_words")) := He.glo_ok C.kin C.ns (C.says.d.fact 49 (f := .glo "_law_deep_words") rfl)
theorem g__law_atom_so : mg "_law_atom_so" = some (.ref (He.ga K "_law_atom_so")) := He.glo_ok C.kin C.ns (C.says.d.fact 50 (f := .glo "_law_atom_so") rfl)
theorem g__law_deep_so : mg "_law_deep_so" = some (.ref (He.ga K "_law_deep_so")) := He.glo_ok C.kin C.ns (C.says.d.fact 51 (f := .glo "_law_deep_so") rfl)
theorem g__law_text : mg "_law_text" = some (.ref (He.ga K "_law_text")) := He.glo_ok C.kin C.ns (C.says.d.fact 52 (f := .glo "_law_text") rfl)
theorem g__law_deep_answer : mg "_law_deep_answer" = some (.ref (He.ga K "_law_deep_answer")) := He.glo_ok C.kin C.ns (C.says.d.fact 53 (f := .glo "_law_deep_answer") rfl)
theorem g__law_told : mg "_law_told" = some (.ref (He.ga K "_law_told")) := He.glo_ok C.kin C.ns (C.says.d.fact 54 (f := .glo "_law_told") rfl)
theorem g_law : mg "law" = some (.ref (He.ga K "law")) := He.glo_ok C.kin C.ns (C.says.d.fact 55 (f := .glo "law") rfl)
theorem n_isinstance : mg "isinstance" = none := He.free_ok C.kin C.ns (C.says.d.fact 56 (f := .free "isinstance") rfl)
theorem n_int : mg "int" = none := He.free_ok C.kin C.ns (C.says.d.fact 57 (f := .free "int") rfl)
theorem n_bool : mg "bool" = none := He.free_ok C.kin C.ns (C.says.d.fact 58 (f := .free "bool") rfl)
theorem n_tuple : mg "tuple" = none := He.free_ok C.kin C.ns (C.says.d.fact 59 (f := .free "tuple") rfl)
theorem n_str : mg "str" = none := He.free_ok C.kin C.ns (C.says.d.fact 60 (f := .free "str") rfl)
theorem n_len : mg "len" = none := He.free_ok C.kin C.ns (C.says.d.fact 61 (f := .free "len") rfl)
theorem n_abs : mg "abs" = none := He.free_ok C.kin C.ns (C.says.d.fact 62 (f := .free "abs") rfl)
theorem n_all : mg "all" = none := He.free_ok C.kin C.ns (C.says.d.fact 63 (f := .free "all") rfl)
theorem n_zip : mg "zip" = none := He.free_ok C.kin C.ns (C.says.d.fact 64 (f := .free "zip") rfl)
theorem n_list : mg "list" = none := He.free_ok C.kin C.ns (C.says.d.fact 65 (f := .free "list") rfl)
theorem n_range : mg "range" = none := He.free_ok C.kin C.ns (C.says.d.fact 66 (f := .free "range") rfl)
theorem n_enumerate : mg "enumerate" = none := He.free_ok C.kin C.ns (C.says.d.fact 67 (f := .free "enumerate") rfl)
theorem n_sorted : mg "sorted" = none := He.free_ok C.kin C.ns (C.says.d.fact 68 (f := .free "sorted") rfl)
theorem n_sum : mg "sum" = none := He.free_ok C.kin C.ns (C.says.d.fact 69 (f := .free "sum") rfl)
theorem c_MOST_COLUMNS : ∃ u, mg "MOST_COLUMNS" = some u ∧ RelV (.int 4) u := let ⟨t, h⟩ := He.int_ok C.kin C.ns (C.says.d.fact 70 (f := .int "MOST_COLUMNS" 4) rfl); ⟨_, h, t, rfl⟩
theorem c_MOST_WORTHS : ∃ u, mg "MOST_WORTHS" = some u ∧ RelV (.int 4) u := let ⟨t, h⟩ := He.int_ok C.kin C.ns (C.says.d.fact 71 (f := .int "MOST_WORTHS" 4) rfl); ⟨_, h, t, rfl⟩
theorem c_MOST_CONTENTS : ∃ u, mg "MOST_CONTENTS" = some u ∧ RelV (.int 64) u := let ⟨t, h⟩ := He.int_ok C.kin C.ns (C.says.d.fact 72 (f := .int "MOST_CONTENTS" 64) rfl); ⟨_, h, t, rfl⟩
theorem c_FIGURES : ∃ u, mg "FIGURES" = some u ∧ RelV (.str "0123") u := let ⟨t, h⟩ := He.str_ok C.kin C.ns (C.says.d.fact 73 (f := .str "FIGURES" "0123") rfl); ⟨_, h, t, rfl⟩
theorem cls_Whole : Cls K (He.ga K "Whole") := He.cls_ok (C.says.d.fact 74 (f := .cls "Whole") rfl)
theorem cls_Reader : Cls K (He.ga K "Reader") := He.cls_ok (C.says.d.fact 75 (f := .cls "Reader") rfl)
theorem na_Whole_sizes : NoAttr K (He.ga K "Whole") "sizes" := He.noat_ok (C.says.d.fact 76 (f := .noat "Whole" "sizes") rfl)
theorem na_Whole_shares : NoAttr K (He.ga K "Whole") "shares" := He.noat_ok (C.says.d.fact 77 (f := .noat "Whole" "shares") rfl)
theorem na_Reader_sizes : NoAttr K (He.ga K "Reader") "sizes" := He.noat_ok (C.says.d.fact 78 (f := .noat "Reader" "sizes") rfl)
theorem na_Reader_steps : NoAttr K (He.ga K "Reader") "steps" := He.noat_ok (C.says.d.fact 79 (f := .noat "Reader" "steps") rfl)
theorem na_Reader_waiting : NoAttr K (He.ga K "Reader") "waiting" := He.noat_ok (C.says.d.fact 80 (f := .noat "Reader" "waiting") rfl)
theorem na_Reader_is_wanted : NoAttr K (He.ga K "Reader") "is_wanted" := He.noat_ok (C.says.d.fact 81 (f := .noat "Reader" "is_wanted") rfl)
theorem mk_Whole : Mk K (He.ga K "Whole") (He.ma K (He.ga K "Whole") "__init__") := He.mkr_ok (C.says.d.fact 82 (f := .mkr "Whole") rfl)
theorem mk_Reader : Mk K (He.ga K "Reader") (He.ma K (He.ga K "Reader") "__init__") := He.mkr_ok (C.says.d.fact 83 (f := .mkr "Reader") rfl)
theorem me_Reader_give_way : Meth K (He.ga K "Reader") "give_way" (He.ma K (He.ga K "Reader") "give_way") := He.meth_ok (C.says.d.fact 84 (f := .meth "Reader" "give_way") rfl)
theorem me_Reader_begin : Meth K (He.ga K "Reader") "begin" (He.ma K (He.ga K "Reader") "begin") := He.meth_ok (C.says.d.fact 85 (f := .meth "Reader" "begin") rfl)
theorem me_Reader_take : Meth K (He.ga K "Reader") "take" (He.ma K (He.ga K "Reader") "take") := He.meth_ok (C.says.d.fact 86 (f := .meth "Reader" "take") rfl)
theorem me_Reader_is_whole : Meth K (He.ga K "Reader") "is_whole" (He.ma K (He.ga K "Reader") "is_whole") := He.meth_ok (C.says.d.fact 87 (f := .meth "Reader" "is_whole") rfl)
theorem f_is_integer : ∃ fd, FunD K "is_integer" "is_integer" (defArgs (top 1)) (defBody (top 1)) (defScope (top 1)) [] [] (He.ga K "is_integer") fd := C.says.d.def_ 0 (d := dfn 1 "is_integer") rfl
theorem f_is_within : ∃ fd, FunD K "is_within" "is_within" (defArgs (top 2)) (defBody (top 2)) (defScope (top 2)) [] [] (He.ga K "is_within") fd := C.says.d.def_ 1 (d := dfn 2 "is_within") rfl
theorem f_is_lot : ∃ fd, FunD K "is_lot" "is_lot" (defArgs (top 3)) (defBody (top 3)) (defScope (top 3)) [] [] (He.ga K "is_lot") fd := C.says.d.def_ 2 (d := dfn 3 "is_lot") rfl
theorem f_is_pair : ∃ fd, FunD K "is_pair" "is_pair" (defArgs (top 4)) (defBody (top 4)) (defScope (top 4)) [] [] (He.ga K "is_pair") fd := C.says.d.def_ 3 (d := dfn 4 "is_pair") rfl
theorem f_BadWhole___init__ : ∃ fd, FunD K "__init__" "BadWhole.__init__" (defArgs (inClass (top 7) 0)) (defBody (inClass (top 7) 0)) (defScope (inClass (top 7) 0)) [] [] (He.ma K (He.ga K "BadWhole") "__init__") fd := C.says.d.def_ 4 (d := dmt 7 0 "BadWhole" "__init__" "BadWhole.__init__") rfl
theorem f_BadText___init__ : ∃ fd, FunD K "__init__" "BadText.__init__" (defArgs (inClass (top 8) 0)) (defBody (inClass (top 8) 0)) (defScope (inClass (top 8) 0)) [] [] (He.ma K (He.ga K "BadText") "__init__") fd := C.says.d.def_ 5 (d := dmt 8 0 "BadText" "__init__" "BadText.__init__") rfl
theorem f_divisor : ∃ fd, FunD K "divisor" "divisor" (defArgs (top 12)) (defBody (top 12)) (defScope (top 12)) [] [] (He.ga K "divisor") fd := C.says.d.def_ 6 (d := dfn 12 "divisor") rfl
theorem f_lowest : ∃ fd, FunD K "lowest" "lowest" (defArgs (top 13)) (defBody (top 13)) (defScope (top 13)) [] [] (He.ga K "lowest") fd := C.says.d.def_ 7 (d := dfn 13 "lowest") rfl
theorem f_is_fraction : ∃ fd, FunD K "is_fraction" "is_fraction" (defArgs (top 14)) (defBody (top 14)) (defScope (top 14)) [] [] (He.ga K "is_fraction") fd := C.says.d.def_ 8 (d := dfn 14 "is_fraction") rfl
theorem f_plus : ∃ fd, FunD K "plus" "plus" (defArgs (top 15)) (defBody (top 15)) (defScope (top 15)) [] [] (He.ga K "plus") fd := C.says.d.def_ 9 (d := dfn 15 "plus") rfl
theorem f_times : ∃ fd, FunD K "times" "times" (defArgs (top 16)) (defBody (top 16)) (defScope (top 16)) [] [] (He.ga K "times") fd := C.says.d.def_ 10 (d := dfn 16 "times") rfl
theorem f_over : ∃ fd, FunD K "over" "over" (defArgs (top 17)) (defBody (top 17)) (defScope (top 17)) [] [] (He.ga K "over") fd := C.says.d.def_ 11 (d := dfn 17 "over") rfl
theorem f_add_all : ∃ fd, FunD K "add_all" "add_all" (defArgs (top 18)) (defBody (top 18)) (defScope (top 18)) [] [] (He.ga K "add_all") fd := C.says.d.def_ 12 (d := dfn 18 "add_all") rfl
theorem f_is_sizes : ∃ fd, FunD K "is_sizes" "is_sizes" (defArgs (top 23)) (defBody (top 23)) (defScope (top 23)) [] [] (He.ga K "is_sizes") fd := C.says.d.def_ 13 (d := dfn 23 "is_sizes") rfl
theorem f_is_content : ∃ fd, FunD K "is_content" "is_content" (defArgs (top 24)) (defBody (top 24)) (defScope (top 24)) [] [] (He.ga K "is_content") fd := C.says.d.def_ 14 (d := dfn 24 "is_content") rfl
theorem f_tuples_of : ∃ fd, FunD K "tuples_of" "tuples_of" (defArgs (top 25)) (defBody (top 25)) (defScope (top 25)) [] [] (He.ga K "tuples_of") fd := C.says.d.def_ 15 (d := dfn 25 "tuples_of") rfl
theorem f_contents_of : ∃ fd, FunD K "contents_of" "contents_of" (defArgs (top 26)) (defBody (top 26)) (defScope (top 26)) [] [] (He.ga K "contents_of") fd := C.says.d.def_ 16 (d := dfn 26 "contents_of") rfl
theorem f_first_wrong : ∃ fd, FunD K "first_wrong" "first_wrong" (defArgs (top 27)) (defBody (top 27)) (defScope (top 27)) [] [] (He.ga K "first_wrong") fd := C.says.d.def_ 17 (d := dfn 27 "first_wrong") rfl
theorem f_first_bad : ∃ fd, FunD K "first_bad" "first_bad" (defArgs (top 28)) (defBody (top 28)) (defScope (top 28)) [] [] (He.ga K "first_bad") fd := C.says.d.def_ 18 (d := dfn 28 "first_bad") rfl
theorem f_is_place : ∃ fd, FunD K "is_place" "is_place" (defArgs (top 29)) (defBody (top 29)) (defScope (top 29)) [] [] (He.ga K "is_place") fd := C.says.d.def_ 19 (d := dfn 29 "is_place") rfl
theorem f_uneven_pattern : ∃ fd, FunD K "uneven_pattern" "uneven_pattern" (defArgs (top 30)) (defBody (top 30)) (defScope (top 30)) [] [] (He.ga K "uneven_pattern") fd := C.says.d.def_ 20 (d := dfn 30 "uneven_pattern") rfl
theorem f_Whole___init__ : ∃ fd, FunD K "__init__" "Whole.__init__" (defArgs (inClass (top 31) 0)) (defBody (inClass (top 31) 0)) (defScope (inClass (top 31) 0)) [] [] (He.ma K (He.ga K "Whole") "__init__") fd := C.says.d.def_ 21 (d := dmt 31 0 "Whole" "__init__" "Whole.__init__") rfl
theorem f_words_of : ∃ fd, FunD K "words_of" "words_of" (defArgs (top 35)) (defBody (top 35)) (defScope (top 35)) [] [] (He.ga K "words_of") fd := C.says.d.def_ 22 (d := dfn 35 "words_of") rfl
theorem f_column_of : ∃ fd, FunD K "column_of" "column_of" (defArgs (top 36)) (defBody (top 36)) (defScope (top 36)) [] [] (He.ga K "column_of") fd := C.says.d.def_ 23 (d := dfn 36 "column_of") rfl
theorem f_atom_of : ∃ fd, FunD K "atom_of" "atom_of" (defArgs (top 37)) (defBody (top 37)) (defScope (top 37)) [] [] (He.ga K "atom_of") fd := C.says.d.def_ 24 (d := dfn 37 "atom_of") rfl
theorem f_Reader___init__ : ∃ fd, FunD K "__init__" "Reader.__init__" (defArgs (inClass (top 38) 0)) (defBody (inClass (top 38) 0)) (defScope (inClass (top 38) 0)) [] [] (He.ma K (He.ga K "Reader") "__init__") fd := C.says.d.def_ 25 (d := dmt 38 0 "Reader" "__init__" "Reader.__init__") rfl
theorem f_Reader_give_way : ∃ fd, FunD K "give_way" "Reader.give_way" (defArgs (inClass (top 38) 1)) (defBody (inClass (top 38) 1)) (defScope (inClass (top 38) 1)) [] [] (He.ma K (He.ga K "Reader") "give_way") fd := C.says.d.def_ 26 (d := dmt 38 1 "Reader" "give_way" "Reader.give_way") rfl
theorem f_Reader_begin : ∃ fd, FunD K "begin" "Reader.begin" (defArgs (inClass (top 38) 2)) (defBody (inClass (top 38) 2)) (defScope (inClass (top 38) 2)) [] [] (He.ma K (He.ga K "Reader") "begin") fd := C.says.d.def_ 27 (d := dmt 38 2 "Reader" "begin" "Reader.begin") rfl
theorem f_Reader_take : ∃ fd, FunD K "take" "Reader.take" (defArgs (inClass (top 38) 3)) (defBody (inClass (top 38) 3)) (defScope (inClass (top 38) 3)) [] [] (He.ma K (He.ga K "Reader") "take") fd := C.says.d.def_ 28 (d := dmt 38 3 "Reader" "take" "Reader.take") rfl
theorem f_Reader_is_whole : ∃ fd, FunD K "is_whole" "Reader.is_whole" (defArgs (inClass (top 38) 4)) (defBody (inClass (top 38) 4)) (defScope (inClass (top 38) 4)) [] [] (He.ma K (He.ga K "Reader") "is_whole") fd := C.says.d.def_ 29 (d := dmt 38 4 "Reader" "is_whole" "Reader.is_whole") rfl
theorem f_read_expression : ∃ fd, FunD K "read_expression" "read_expression" (defArgs (top 39)) (defBody (top 39)) (defScope (top 39)) [] [] (He.ga K "read_expression") fd := C.says.d.def_ 30 (d := dfn 39 "read_expression") rfl
theorem f_read_question : ∃ fd, FunD K "read_question" "read_question" (defArgs (top 40)) (defBody (top 40)) (defScope (top 40)) [] [] (He.ga K "read_question") fd := C.says.d.def_ 31 (d := dfn 40 "read_question") rfl
theorem f_is_met : ∃ fd, FunD K "is_met" "is_met" (defArgs (top 41)) (defBody (top 41)) (defScope (top 41)) [] [] (He.ga K "is_met") fd := C.says.d.def_ 32 (d := dfn 41 "is_met") rfl
theorem f_answer_of : ∃ fd, FunD K "answer_of" "answer_of" (defArgs (top 42)) (defBody (top 42)) (defScope (top 42)) [] [] (He.ga K "answer_of") fd := C.says.d.def_ 33 (d := dfn 42 "answer_of") rfl
theorem f_answer : ∃ fd, FunD K "answer" "answer" (defArgs (top 43)) (defBody (top 43)) (defScope (top 43)) [] [] (He.ga K "answer") fd := C.says.d.def_ 34 (d := dfn 43 "answer") rfl
theorem f_asked : ∃ fd, FunD K "asked" "asked" (defArgs (top 44)) (defBody (top 44)) (defScope (top 44)) [] [] (He.ga K "asked") fd := C.says.d.def_ 35 (d := dfn 44 "asked") rfl
theorem f__law_hand : ∃ fd, FunD K "_law_hand" "_law_hand" (defArgs (top 46)) (defBody (top 46)) (defScope (top 46)) [] [] (He.ga K "_law_hand") fd := C.says.d.def_ 36 (d := dfn 46 "_law_hand") rfl
theorem f__law_draw : ∃ fd, FunD K "_law_draw" "_law_draw" (defArgs (top 47)) (defBody (top 47)) (defScope (top 47)) [] [] (He.ga K "_law_draw") fd := C.says.d.def_ 37 (d := dfn 47 "_law_draw") rfl
theorem f__law_any : ∃ fd, FunD K "_law_any" "_law_any" (defArgs (top 48)) (defBody (top 48)) (defScope (top 48)) [] [] (He.ga K "_law_any") fd := C.says.d.def_ 38 (d := dfn 48 "_law_any") rfl
theorem f__law_low : ∃ fd, FunD K "_law_low" "_law_low" (defArgs (top 49)) (defBody (top 49)) (defScope (top 49)) [] [] (He.ga K "_law_low") fd := C.says.d.def_ 39 (d := dfn 49 "_law_low") rfl
theorem f__law_contents : ∃ fd, FunD K "_law_contents" "_law_contents" (defArgs (top 50)) (defBody (top 50)) (defScope (top 50)) [] [] (He.ga K "_law_contents") fd := C.says.d.def_ 40 (d := dfn 50 "_law_contents") rfl
theorem f__law_weight : ∃ fd, FunD K "_law_weight" "_law_weight" (defArgs (top 51)) (defBody (top 51)) (defScope (top 51)) [] [] (He.ga K "_law_weight") fd := C.says.d.def_ 41 (d := dfn 51 "_law_weight") rfl
theorem f__law_great : ∃ fd, FunD K "_law_great" "_law_great" (defArgs (top 52)) (defBody (top 52)) (defScope (top 52)) [] [] (He.ga K "_law_great") fd := C.says.d.def_ 42 (d := dfn 52 "_law_great") rfl
theorem f__law_rows : ∃ fd, FunD K "_law_rows" "_law_rows" (defArgs (top 53)) (defBody (top 53)) (defScope (top 53)) [] [] (He.ga K "_law_rows") fd := C.says.d.def_ 43 (d := dfn 53 "_law_rows") rfl
theorem f__law_weights : ∃ fd, FunD K "_law_weights" "_law_weights" (defArgs (top 54)) (defBody (top 54)) (defScope (top 54)) [] [] (He.ga K "_law_weights") fd := C.says.d.def_ 44 (d := dfn 54 "_law_weights") rfl
theorem f__law_is_due : ∃ fd, FunD K "_law_is_due" "_law_is_due" (defArgs (top 55)) (defBody (top 55)) (defScope (top 55)) [] [] (He.ga K "_law_is_due") fd := C.says.d.def_ 45 (d := dfn 55 "_law_is_due") rfl
theorem f__law_atom : ∃ fd, FunD K "_law_atom" "_law_atom" (defArgs (top 56)) (defBody (top 56)) (defScope (top 56)) [] [] (He.ga K "_law_atom") fd := C.says.d.def_ 46 (d := dfn 56 "_law_atom") rfl
theorem f__law_deep : ∃ fd, FunD K "_law_deep" "_law_deep" (defArgs (top 57)) (defBody (top 57)) (defScope (top 57)) [] [] (He.ga K "_law_deep") fd := C.says.d.def_ 47 (d := dfn 57 "_law_deep") rfl
theorem f__law_atom_at : ∃ fd, FunD K "_law_atom_at" "_law_atom_at" (defArgs (top 58)) (defBody (top 58)) (defScope (top 58)) [] [] (He.ga K "_law_atom_at") fd := C.says.d.def_ 48 (d := dfn 58 "_law_atom_at") rfl
theorem f__law_joint_at : ∃ fd, FunD K "_law_joint_at" "_law_joint_at" (defArgs (top 59)) (defBody (top 59)) (defScope (top 59)) [] [] (He.ga K "_law_joint_at") fd := C.says.d.def_ 49 (d := dfn 59 "_law_joint_at") rfl
theorem f__law_deep_words : ∃ fd, FunD K "_law_deep_words" "_law_deep_words" (defArgs (top 60)) (defBody (top 60)) (defScope (top 60)) [] [] (He.ga K "_law_deep_words") fd := C.says.d.def_ 50 (d := dfn 60 "_law_deep_words") rfl
theorem f__law_atom_so : ∃ fd, FunD K "_law_atom_so" "_law_atom_so" (defArgs (top 61)) (defBody (top 61)) (defScope (top 61)) [] [] (He.ga K "_law_atom_so") fd := C.says.d.def_ 51 (d := dfn 61 "_law_atom_so") rfl
theorem f__law_deep_so : ∃ fd, FunD K "_law_deep_so" "_law_deep_so" (defArgs (top 62)) (defBody (top 62)) (defScope (top 62)) [] [] (He.ga K "_law_deep_so") fd := C.says.d.def_ 52 (d := dfn 62 "_law_deep_so") rfl
theorem f__law_text : ∃ fd, FunD K "_law_text" "_law_text" (defArgs (top 63)) (defBody (top 63)) (defScope (top 63)) [] [] (He.ga K "_law_text") fd := C.says.d.def_ 53 (d := dfn 63 "_law_text") rfl
theorem f__law_deep_answer : ∃ fd, FunD K "_law_deep_answer" "_law_deep_answer" (defArgs (top 64)) (defBody (top 64)) (defScope (top 64)) [] [] (He.ga K "_law_deep_answer") fd := C.says.d.def_ 54 (d := dfn 64 "_law_deep_answer") rfl
theorem f__law_told : ∃ fd, FunD K "_law_told" "_law_told" (defArgs (top 65)) (defBody (top 65)) (defScope (top 65)) [] [] (He.ga K "_law_told") fd := C.says.d.def_ 55 (d := dfn 65 "_law_told") rfl
theorem f_law : ∃ fd, FunD K "law" "law" (defArgs (top 66)) (defBody (top 66)) (defScope (top 66)) [] [] (He.ga K "law") fd := C.says.d.def_ 56 (d := dfn 66 "law") rfl
theorem dict_BINDING : ∃ es n, KDict K w (He.ga K "BINDING") es n := C.says.tab 0 (t := (fun K => He.ga K "BINDING", ["or", "and", "not"])) rfl
theorem exs : oexB K (He.ga K "BadText") = true ∧ oexB K (He.ga K "BadWhole") = true ∧ xfB K (He.ga K "BadText") = true ∧ PySem.W.findIn K (.ref (He.ga K "BadText")) "at" = some none ∧ PySem.W.findIn K (.ref (He.ga K "BadWhole")) "part" = some none ∧
    PySem.W.exmOne K (.ref (He.ga K "BadText")) (.ref (He.ga K "BadText")) = some true ∧ PySem.W.findIn K (.ref (He.ga K "BadText")) "__init__" = some (some (.ref (He.ma K (He.ga K "BadText") "__init__"))) ∧
    PySem.W.typeIn K (.ref (He.ma K (He.ga K "BadText") "__init__")) = some (.type "function") ∧ He.tupB K "ZERO" [.int 0, .int 1] = true ∧ He.tupB K "ONE" [.int 1, .int 1] = true ∧ He.valsB K (He.ga K "BINDING") [("or", .int 1), ("and", .int 2), ("not", .int 3)] = true := by
  have h := C.more
  unfold ex at h
  simp only [Bool.and_eq_true, decide_eq_true_eq] at h
  exact h
theorem t_ZERO (H : Hp) : Dp K H (.ref (He.ga K "ZERO")) (.tuple [.int 0, .int 1]) := .tup (He.tupB_ok C.exs.2.2.2.2.2.2.2.2.1 H) (.cons (.int 0) (.cons (.int 1) .nil))
theorem t_ONE (H : Hp) : Dp K H (.ref (He.ga K "ONE")) (.tuple [.int 1, .int 1]) := .tup (He.tupB_ok C.exs.2.2.2.2.2.2.2.2.2.1 H) (.cons (.int 1) (.cons (.int 1) .nil))
theorem c_ZERO : ∃ u, mg "ZERO" = some u ∧ RelV (.ref (He.ga K "ZERO")) u := ⟨_, C.g_ZERO, rfl⟩
theorem c_ONE : ∃ u, mg "ONE" = some u ∧ RelV (.ref (He.ga K "ONE")) u := ⟨_, C.g_ONE, rfl⟩
theorem c_BINDING : ∃ u, mg "BINDING" = some u ∧ RelV (.ref (He.ga K "BINDING")) u := ⟨_, C.g_BINDING, rfl⟩
end W0
/-- a def of the module, under its name, from which no exception leaves -/
structure Cl (P : Program) (w : World) (K : PySem.W.Frag) (mg : Str → Option Value) (base : Heap) (k : Nat) (x : Str) (ps : List Str) (sp : Sp) : Prop where
  ex : ∃ (f : Addr) (fd : FuncData), FnOk P w K mg base CX0 k f fd ps sp ∧ mg x = some (.ref f) ∧ PySem.W.keepIn K (.ref f) = true ∧ Binds K fd ps []
theorem Cl.imp {k : Nat} {x : Str} {ps : List Str} {sp sp' : Sp} (c : Cl P w K mg base k x ps sp) (h : ∀ vs H Q E, sp' vs H Q E → sp vs H Q E) : Cl P w K mg base k x ps sp' := by
  obtain ⟨f, fd, F, a, b, d⟩ := c.ex
  exact ⟨f, fd, F.imp h, a, b, d⟩
abbrev Bx (P : Program) (w : World) (K : PySem.W.Frag) (mg : Str → Option Value) (base : Heap) (N : List Str) (x : Str) (st : Stmt) (f : Addr) (cdv : Value) (A : Around) (outer : List Env) (s : Shared) (H : Hp) (E : XK) : Cx := (cxOf CX0 P w K mg base N x (defScope st) f cdv A outer s H E).nox
/-- THE RULE for a def of the module: its body as a term of rules, the term's reading -/
theorem Cl.of {x : Str} {st : Stmt} {f : Addr} {N ps : List Str} {k : Nat} {sp : Sp} (F : ∃ fd, FunD K x x (defArgs st) (defBody st) (defScope st) [] [] f fd) (hm : mg x = some (.ref f)) (S : FnScope N ps (defScope st))
    (hb : ∀ (kV doc pm : Value) (an : Option Addr) (cdv ct : Value) (us : List Value), us.length = ps.length → bindArgs (PySem.W.fnOf x x (defArgs st) (defBody st) (defScope st) .none kV doc pm an cdv ct) ⟨us, []⟩ = pure (ps.zip us))
    (len : ∀ vs H Q E, sp vs H Q E → vs.length = ps.length)
    (hbody : ∀ (cdv : Value) (A : Around) (outer : List Env) (s : Shared) (H : Hp) (vs : List V) (Q : VK) (E : XK), Room k (A.deeper (envOfC x (defScope st) s.heap.objs.size f cdv)) → sp vs H Q E →
      ∃ t, PSs (Bx P w K mg base N x st f cdv A outer s H E) (defBody st) t ∧ t { nx := fun _ H' => Q .non H', rt := Q } (start N vs) H) : Cl P w K mg base (k + 1) x ps sp := by
  obtain ⟨fd, F⟩ := F
  refine ⟨f, fd, F.ok S len fun cdv A outer s H vs Q E hr h => ?_, hm, F.kp, F.bindsN hb⟩
  obtain ⟨t, h1, h2⟩ := hbody cdv A outer s H vs Q E hr h
  exact ⟨t, PSs.nox h1, h2⟩
/-- a call of such a def -/
theorem pe_cl {X : Cx} {k j : Nat} {x : Str} {ps : List Str} {sp : Sp} {p pos : Pos} {e : Expr} {es : List Expr} {t : TA} (c : Cl X.prog X.w X.K X.mg X.base k x ps sp) (hr : Room j X.A) (hk : k ≤ j) (hg : Gl X x) (ha : PA X (e :: es) t)
    (hdb : (x == ("__debug__" : Str)) = false := by decide) (he : starEach (e :: es) X.env = (false, eval e X.env) :: starEach es X.env := by rfl) (hpl : (backTo pos (starEach es X.env)).any (·.1) = false := by rfl) :
    PE X (.Call (.Name x p) (e :: es) [] pos) (tCall sp [] E0 t) := by
  obtain ⟨f, fd, F, hm, kp, b⟩ := c.ex
  exact pe_call F (hr.mono hk) hg hm kp b .nil pass0 ha hdb he hpl
/-- the promise of a def on data: pre the arguments, the answer -/
def spD (K : PySem.W.Frag) (R : List PD → PD → Prop) : Sp := fun vs H Q _ => ∃ ds d, R ds d ∧ DpAll K H vs ds ∧ ∀ v H', Ex H H' → Dp K H' v d → Q v H'
theorem spD_pure {R : List PD → PD → Prop} {ds : List PD} {d : PD} (h : R ds d) : Pure K (spD K R) ds d := fun vs H hv Q E q => ⟨ds, d, h, hv, q⟩
end
end K61
end

section
set_option Elab.async false
set_option linter.all false
set_option maxRecDepth 100000
set_option maxHeartbeats 4000000
/-! Kf: further rules and what they give as data. -/
namespace K61
open PySem PySem.Spec PyProof.Rows L2 Evl
/-! ### isinstance -/
def tyD : PD → String
  | .none => "NoneType" | .bool _ => "bool" | .int _ => "int" | .str _ => "str" | .list _ => "list" | .tuple _ => "tuple" | .dict _ => "dict"
theorem tyX_of {K : PySem.W.Frag} {H : Hp} {v : V} {d : PD} (h : Dp K H v d) : TyX K H v (.type (tyD d)) := by
  cases h with
  | non => exact .base .non
  | bl b => exact .base (.bl b)
  | int i => exact .base (.int i)
  | str x => exact .base (.str x)
  | lst hs r =>
    rcases hs with (h | ⟨o, h⟩) | ⟨o, its, n, k1, k2, k3, k4, k5, k6⟩
    · exact .base (.lst h)
    · exact .base (.frz h)
    · exact .kList k1 k2
  | tup hs r =>
    rcases hs with (h | ⟨o, h⟩) | ⟨o, its, n, k1, k2, k3⟩
    · exact .base (.tup h)
    · exact .fTuple h
    · exact .kTuple k1 k2
section
variable {K : PySem.W.Frag} {σ : L2.St} {H H' : Hp} {ta tb tc te : TE} {t u : TT}
theorem pe_isi {X : Cx} {T : Str} {Tn : String} {a : Expr} {ta : TE} {p p2 pos : Pos} (hx : X.mg "isinstance" = none) (hT : X.mg T = none) (ha : PE X a ta) (hg : Gl X "isinstance" := by rfl) (hgT : Gl X T := by rfl) (hv : bootBuiltins T = some (.type Tn) := by decide +kernel) (hn : T ≠ "__name__" := by decide) (hd : (T == ("__debug__" : Str)) = false := by decide)
    (he : starEach [a, .Name T p2] X.env = (false, eval a X.env) :: starEach [.Name T p2] X.env := by rfl) (hpl : (backTo pos (starEach [.Name T p2] X.env)).any (·.1) = false := by rfl) :
    PE X (.Call (.Name "isinstance" p) [a, .Name T p2] [] pos) (tCB (rIsi X.K) (tCons ta (tCons (tC (.ty Tn)) tNil))) :=
  pe_callB call_isi hg hx (by decide +kernel) (pa_cons ha (pa_cons (pe_bltn (v := .ty Tn) hgT hT hv rfl hn hd) pa_nil) (hs := he)) (by decide) (by decide) he hpl
theorem ed_isi {d : PD} {T : String} {b : Bool} (h : EvD K ta σ H d) (hk : kitB (tyD d) T = some b) : EvD K (tCB (rIsi K) (tCons ta (tCons (tC (.ty T)) tNil))) σ H (.bool b) := fun H1 e Q q =>
  h H1 e _ fun v H2 e2 hv => ⟨v, .ty T, .type (tyD d), .type T, b, rfl, .ty T, tyX_of hv, kit_ty hk, q _ H2 e2 (.bl b)⟩
/-! ### order, equality of data -/
def rLtD (K : PySem.W.Frag) : R2 := fun x y H Q => ∃ d e, Dp K H x d ∧ Dp K H y e ∧ PySem.W.alike d e = true ∧ d ≠ .none ∧ d.depth ≤ 60 ∧ Q (.bl (PySem.W.dataLt d e)) H
theorem op_ltD {X : Cx} (hu : X.A.units + 64 < cLine) : OpR X (compareOp .Lt) (rLtD X.K) := by
  intro pins s σ H x y v u Q I rx ry h
  obtain ⟨d, e, hd, he, al, hn, hp, q⟩ := h
  obtain ⟨as, r1⟩ := Dp.reads I d x v hd rx
  obtain ⟨bs, r2⟩ := Dp.reads I e y u he ry
  exact PySem.W.lt_data r1 r2 al hn (by have := Nat.min_le_left d.depth e.depth; omega) ⟨.bl _, H, I, rfl, q⟩
theorem ed_ltD {d e : PD} (ha : EvD K ta σ H d) (hb : EvD K tb σ H e) (al : PySem.W.alike d e = true) (hn : d ≠ .none) (hp : d.depth ≤ 60) : EvD K (tOp (rLtD K) ta tb) σ H (.bool (PySem.W.dataLt d e)) :=
  ed_op ha hb fun H1 _ v w hv hw Q q => ⟨d, e, hv, hw, al, hn, hp, q _ H1 (Ex.refl H1) (.bl _)⟩
theorem ed_eqD {d e : PD} (ha : EvD K ta σ H d) (hb : EvD K tb σ H e) (s1 : SeqAt.shaped d = true) (s2 : SeqAt.shaped e = true) : EvD K (tOp (rEqD K) ta tb) σ H (.bool (PyData.eqv d e)) :=
  ed_op ha hb fun H1 _ v w hv hw Q q => ⟨d, e, hv, hw, s1, s2, q _ H1 (Ex.refl H1) (.bl _)⟩
theorem ed_neD {d e : PD} (ha : EvD K ta σ H d) (hb : EvD K tb σ H e) (s1 : SeqAt.shaped d = true) (s2 : SeqAt.shaped e = true) : EvD K (tOp (rNeD K) ta tb) σ H (.bool (!PyData.eqv d e)) :=
  ed_op ha hb fun H1 _ v w hv hw Q q => ⟨d, e, hv, hw, s1, s2, q _ H1 (Ex.refl H1) (.bl _)⟩
/-! ### flat items in a list, a tuple -/
def flatD : PD → Bool
  | .none => true | .bool _ => true | .int _ => true | .str _ => true | _ => false
def vOf : PD → V
  | .bool b => .bl b | .int i => .int i | .str x => .str x | _ => .non
theorem flat_v {v : V} {d : PD} (h : Dp K H v d) (f : flatD d = true) : v = vOf d ∧ flatV v = true := by cases h <;> first | exact ⟨rfl, rfl⟩ | cases f
theorem flat_vs : ∀ {vs : List V} {ds : List PD}, DpAll K H vs ds → ds.all flatD = true → vs = ds.map vOf ∧ vs.all flatV = true
  | _, _, .nil, _ => ⟨rfl, rfl⟩
  | _, _, .cons h r, f => by
    rw [List.all_cons, Bool.and_eq_true] at f
    obtain ⟨e1, e2⟩ := flat_v h f.1
    obtain ⟨e3, e4⟩ := flat_vs r f.2
    exact ⟨by rw [List.map_cons, ← e1, ← e3], by rw [List.all_cons, e2, e4]; rfl⟩
theorem ed_inT {x : PD} {ds : List PD} {neg : Bool} (ha : EvD K ta σ H x) (hb : EvD K tb σ H (.tuple ds)) (fx : flatD x = true) (fs : ds.all flatD = true) : EvD K (tOp (rIn K neg) ta tb) σ H (.bool (if neg then !inV (vOf x) (ds.map vOf) else inV (vOf x) (ds.map vOf))) :=
  ed_op ha hb fun H1 _ v w hv hw Q q => by
    obtain ⟨a, xs, rfl, hs, hx⟩ := hw.tup_inv
    obtain ⟨e1, e2⟩ := flat_v hv fx
    obtain ⟨e3, e4⟩ := flat_vs hx fs
    refine ⟨a, xs, rfl, .inr hs, e2, e4, ?_⟩
    rw [e1, e3]
    exact q _ H1 (Ex.refl H1) (.bl _)
theorem ed_inL {x : PD} {ds : List PD} {neg : Bool} (ha : EvD K ta σ H x) (hb : EvD K tb σ H (.list ds)) (fx : flatD x = true) (fs : ds.all flatD = true) : EvD K (tOp (rIn K neg) ta tb) σ H (.bool (if neg then !inV (vOf x) (ds.map vOf) else inV (vOf x) (ds.map vOf))) :=
  ed_op ha hb fun H1 _ v w hv hw Q q => by
    obtain ⟨a, xs, rfl, hs, hx⟩ := hw.lst_inv
    obtain ⟨e1, e2⟩ := flat_v hv fx
    obtain ⟨e3, e4⟩ := flat_vs hx fs
    refine ⟨a, xs, rfl, .inl hs, e2, e4, ?_⟩
    rw [e1, e3]
    exact q _ H1 (Ex.refl H1) (.bl _)
/-! ### built-ins -/
theorem ed_abs {i : Int} (h : EvD K ta σ H (.int i)) : EvD K (tCB (fun xs H Q => ∃ i, xs = [.int i] ∧ Q (.int (if i < 0 then -i else i)) H) (tCons ta tNil)) σ H (.int i.natAbs) := fun H1 e Q q =>
  h H1 e _ fun v H2 e2 hv => ⟨i, by rw [hv.int_inv], by
    have e : (if i < 0 then -i else i) = (i.natAbs : Int) := by split <;> omega
    rw [e]
    exact q _ H2 e2 (.int _)⟩
theorem ed_intI {i : Int} (h : EvD K ta σ H (.int i)) : EvD K (tCB (fun xs H Q => (∃ i, xs = [.int i] ∧ Q (.int i) H) ∨ ∃ k, xs = [.bl k] ∧ Q (.int (if k then 1 else 0)) H) (tCons ta tNil)) σ H (.int i) := fun H1 e Q q =>
  h H1 e _ fun v H2 e2 hv => .inl ⟨i, by rw [hv.int_inv], q _ H2 e2 (.int _)⟩
theorem ed_intB {b : Bool} (h : EvD K ta σ H (.bool b)) : EvD K (tCB (fun xs H Q => (∃ i, xs = [.int i] ∧ Q (.int i) H) ∨ ∃ k, xs = [.bl k] ∧ Q (.int (if k then 1 else 0)) H) (tCons ta tNil)) σ H (.int (if b then 1 else 0)) := fun H1 e Q q =>
  h H1 e _ fun v H2 e2 hv => .inr ⟨b, by rw [hv.bl_inv], q _ H2 e2 (.int _)⟩
theorem ed_intS {x : Str} {n : Int} (h : EvD K ta σ H (.str x)) (hn : PySem.intText? x = some n) (hl : x.length ≤ 640) : EvD K (tCB (fun xs H Q => ∃ a n, xs = [.str a] ∧ PySem.intText? a = some n ∧ a.length ≤ 640 ∧ Q (.int n) H) (tCons ta tNil)) σ H (.int n) := fun H1 e Q q =>
  h H1 e _ fun v H2 e2 hv => ⟨x, n, by rw [hv.str_inv], hn, hl, q _ H2 e2 (.int _)⟩
theorem ed_strI {i : Int} (h : EvD K ta σ H (.int i)) (hl : i.natAbs.log2 < 1920) : EvD K (tCB (fun xs H Q => ∃ i, xs = [.int i] ∧ i.natAbs.log2 < 1920 ∧ Q (.str (toString i)) H) (tCons ta tNil)) σ H (.str (toString i)) := fun H1 e Q q =>
  h H1 e _ fun v H2 e2 hv => ⟨i, by rw [hv.int_inv], hl, q _ H2 e2 (.str _)⟩
theorem dps_ints : ∀ {vs : List V} {ns : List Int}, DpAll K H vs (ns.map PyData.int) → vs = ns.map V.int
  | _, [], h => by cases h; rfl
  | _, n :: ns, h => by
    rw [List.map_cons] at h ⊢
    cases h with | cons h r => rw [h.int_inv, dps_ints r]
theorem dps_bls : ∀ {vs : List V} {bs : List Bool}, DpAll K H vs (bs.map PyData.bool) → vs = bs.map V.bl
  | _, [], h => by cases h; rfl
  | _, n :: ns, h => by
    rw [List.map_cons] at h ⊢
    cases h with | cons h r => rw [h.bl_inv, dps_bls r]
theorem dps_strs : ∀ {vs : List V} {bs : List Str}, DpAll K H vs (bs.map PyData.str) → vs = bs.map V.str
  | _, [], h => by cases h; rfl
  | _, n :: ns, h => by
    rw [List.map_cons] at h ⊢
    cases h with | cons h r => rw [h.str_inv, dps_strs r]
theorem dps_ints' : ∀ {ns : List Int}, DpAll K H (ns.map V.int) (ns.map PyData.int)
  | [] => .nil
  | n :: ns => .cons (.int n) dps_ints'
theorem dps_strs' : ∀ {ns : List Str}, DpAll K H (ns.map V.str) (ns.map PyData.str)
  | [] => .nil
  | n :: ns => .cons (.str n) dps_strs'
theorem ed_sum {ns : List Int} (h : EvD K ta σ H (.list (ns.map PyData.int))) : EvD K (tCB (rSum K) (tCons ta tNil)) σ H (.int ns.sum) := fun H1 e Q q =>
  h H1 e _ fun v H2 e2 hv => by
    obtain ⟨a, xs, rfl, hs, hx⟩ := hv.lst_inv
    exact ⟨a, ns, rfl, by rw [← dps_ints hx]; exact hs, q _ H2 e2 (.int _)⟩
theorem ed_all {bs : List Bool} (h : EvD K ta σ H (.list (bs.map PyData.bool))) : EvD K (tCB (rAll K) (tCons ta tNil)) σ H (.bool (bs.all id)) := fun H1 e Q q =>
  h H1 e _ fun v H2 e2 hv => by
    obtain ⟨a, xs, rfl, hs, hx⟩ := hv.lst_inv
    exact ⟨a, bs, rfl, by rw [← dps_bls hx]; exact hs, q _ H2 e2 (.bl _)⟩
/-- tuple(list) -/
theorem ed_tupL {ds : List PD} (h : EvD K ta σ H (.list ds)) (hf : tfrs ds = true) : EvD K (tCB (fun xs H Q => ∃ p ys, xs = [.ref p] ∧ ((SqL K H p ys ∧ ∀ l, H l = none → Q (.ref l) (upd H l (.tup ys))) ∨ (SqT K H p ys ∧ Q (.ref p) H))) (tCons ta tNil)) σ H (.tuple ds) := fun H1 e Q q =>
  h H1 e _ fun v H2 e2 hv => by
    obtain ⟨a, xs, rfl, hs, hx⟩ := hv.lst_inv
    exact ⟨a, xs, rfl, .inl ⟨hs, fun l hl => q _ _ (e2.trans (Ex.new hl)) (.tup (st_of upd_same) (hx.ex (Ex.new hl)))⟩⟩
/-- list slices -/
theorem dps_cut {vs : List V} {ds : List PD} (h : DpAll K H vs ds) (lo hi : Option Int) : DpAll K H (cutV vs lo hi) ((ds.drop (HT.sIx ds.length 0 lo)).take (HT.sIx ds.length ds.length hi - HT.sIx ds.length 0 lo)) := by
  have tk : ∀ {vs : List V} {ds : List PD} (n : Nat), DpAll K H vs ds → DpAll K H (vs.take n) (ds.take n) := by
    intro vs ds n h
    induction n generalizing vs ds with
    | zero => simp only [List.take_zero]; exact .nil
    | succ n ih => cases h with
      | nil => simp only [List.take_nil]; exact .nil
      | cons a r => simp only [List.take_succ_cons]; exact .cons a (ih r)
  have dr : ∀ {vs : List V} {ds : List PD} (n : Nat), DpAll K H vs ds → DpAll K H (vs.drop n) (ds.drop n) := by
    intro vs ds n h
    induction n generalizing vs ds with
    | zero => exact h
    | succ n ih => cases h with
      | nil => exact .nil
      | cons a r => exact ih r
  unfold cutV
  rw [h.length]
  exact tk _ (dr _ h)
theorem eo_D {i : Int} (h : EvD K te σ H (.int i)) : EvO (tPart te) σ H (some i) := eo_some h.int
theorem ed_sl {tl th : TO} {ds : List PD} {lo hi : Option Int} (h : EvD K te σ H (.list ds)) (h1 : EvO tl σ H lo) (h2 : EvO th σ H hi) : EvD K (tSl (rSlL K) te tl th) σ H (.list ((ds.drop (HT.sIx ds.length 0 lo)).take (HT.sIx ds.length ds.length hi - HT.sIx ds.length 0 lo))) := fun H1 e Q q =>
  h H1 e _ fun v H2 e2 hv => h1 H2 (e.trans e2) _ fun H3 e3 => h2 H3 ((e.trans e2).trans e3) _ fun H4 e4 => by
    obtain ⟨a, xs, rfl, hs, hx⟩ := hv.lst_inv
    have e34 := e3.trans e4
    exact ⟨a, xs, rfl, ex_l e34 hs, fun p hp => q _ _ ((e2.trans e34).trans (Ex.new hp)) (.lst (sq_of upd_same) ((dps_cut (hx.ex e34) lo hi).ex (Ex.new hp)))⟩
end
end K61
end

section
set_option Elab.async false
set_option linter.all false
set_option maxRecDepth 100000
set_option maxHeartbeats 4000000
namespace K61
open PySem PySem.Spec PyProof.Rows L2 Evl
theorem k_ii : kitB "int" "int" = some true := by decide +kernel
theorem k_ib : kitB "int" "bool" = some false := by decide +kernel
theorem k_tt : kitB "tuple" "tuple" = some true := by decide +kernel
theorem k_ss : kitB "str" "str" = some true := by decide +kernel
theorem k_nt : kitB "NoneType" "tuple" = some false := by decide +kernel
local macro_rules | `(tactic| walk_at "evs") => `(tactic| first
  | exact ed_int | exact ed_str | exact ed_bl | exact ed_non
  | exact ed_var ⟨_, rfl, by first | assumption | exact .int _ | exact .str _ | exact .bl _ | exact .non⟩
  | exact ed_top (W0.t_ZERO (by assumption)) | exact ed_top (W0.t_ONE (by assumption))
  | refine ed_I0 ?_ ?_ | refine ed_B0 ?_ ?_ | refine ed_I ?_ ?_ ?_
  | refine ed_call ?_ ?_ | refine eds_cons ?_ ?_ | exact eds_nil
  | refine ed_ixT ?_ ?_ ?_ | refine ed_ixL ?_ ?_ ?_
  | refine ed_tup ?_ ?_ | refine ed_lst ?_ ?_
  | ((refine ed_lenL ?_); (walk_at "ev"); done) | ((refine ed_lenT ?_); (walk_at "ev"); done) | refine ed_lenS ?_ ?_
  | refine ed_abs ?_ | ((refine ed_intI ?_); (walk_at "ev"); done) | refine ed_intB ?_ | refine ed_isi ?_ ?_
  | ((refine ed_eqI ?_ ?_ <;> walk_at "ev"); done) | ((refine ed_eqS ?_ ?_ <;> walk_at "ev"); done) | refine ed_neS ?_ ?_
  | refine ed_eqD ?_ ?_ ?_ ?_ | refine ed_neD ?_ ?_ ?_ ?_ | refine ed_ltD ?_ ?_ ?_ ?_ ?_
  | refine ed_isN ?_ | refine ed_notN ?_
  | refine ed_chain ?_ ?_ ?_ | refine ed_not ?_ | refine ed_and ?_ ?_ | refine ed_or ?_ ?_
  | refine ed_catS ?_ ?_ ?_ | refine ed_catT ?_ ?_ ?_
  | refine etk_D ?_ | refine etk_DB ?_ | refine etk_not ?_ | refine etk_and ?_ ?_ | refine etk_or ?_ ?_
  | exact rfl | assumption | omega | refine (fun (_ : _ = true) => ?_) | refine (fun (_ : _ = false) => ?_))
local macro_rules | `(tactic| walk_at "ev") => `(tactic| (walk_at "evs" <;> (try walk_at "ev")))

section
variable {P : Program} {w : World} {K : PySem.W.Frag} {mg : Str → Option Value} {base : Heap}
/-! ### is_integer -/
def R_is_integer (ds : List PD) (d : PD) : Prop := ∃ v : Int, ds = [.int v] ∧ d = .bool true
abbrev sp_is_integer (K : PySem.W.Frag) : Sp := spD K R_is_integer
theorem pu_is_integer {v : Int} : Pure K (sp_is_integer K) [.int v] (.bool true) := spD_pure ⟨_, rfl, rfl⟩
theorem sc_is_integer : FnScope ["thing"] ["thing"] (defScope (top 1)) := ⟨rfl, rfl, rfl, by decide +kernel, rfl, by decide +kernel, by decide +kernel⟩
theorem ok_is_integer (C : W0 P w K mg base) : Cl P w K mg base 1 "is_integer" ["thing"] (sp_is_integer K) := by
  refine Cl.of C.f_is_integer C.g_is_integer sc_is_integer (fun _ _ _ _ _ _ us hl => match us, hl with | [_], _ => rfl) (fun vs H Q E h => by obtain ⟨ds, d, ⟨v, rfl, rfl⟩, hd, _⟩ := h; exact hd.length) fun cdv A outer s H vs Q E hr h => ?_
  obtain ⟨_, _, ⟨v, rfl, rfl⟩, hd, k⟩ := h
  obtain ⟨x, rfl, h0⟩ := hd.one_inv
  refine ⟨_, (pss_one (ps_ret (pe_and (pe_isi (Tn := "int") C.n_isinstance C.n_int (pv 0)) (pe_one (pe_not (pe_isi (Tn := "bool") C.n_isinstance C.n_bool (pv 0))))))), ?_⟩
  refine sd_ret (d := .bool (true && !false)) ?_ k
  exact ed_and (ed_isi (d := .int v) (by walk_at "ev") k_ii) fun _ => ed_not (ed_isi (d := .int v) (by walk_at "ev") k_ib)
/-! ### is_within -/
def R_is_within (ds : List PD) (d : PD) : Prop := ∃ v l m : Int, ds = [.int v, .int l, .int m] ∧ d = .bool (decide (l ≤ v) && decide (v ≤ m))
abbrev sp_is_within (K : PySem.W.Frag) : Sp := spD K R_is_within
theorem pu_is_within {v l m : Int} : Pure K (sp_is_within K) [.int v, .int l, .int m] (.bool (decide (l ≤ v) && decide (v ≤ m))) := spD_pure ⟨_, _, _, rfl, rfl⟩
theorem sc_is_within : FnScope ["thing", "least", "most"] ["thing", "least", "most"] (defScope (top 2)) := ⟨rfl, rfl, rfl, by decide +kernel, rfl, by decide +kernel, by decide +kernel⟩
theorem ok_is_within (C : W0 P w K mg base) : Cl P w K mg base 2 "is_within" ["thing", "least", "most"] (sp_is_within K) := by
  have o_is_integer := ok_is_integer C
  refine Cl.of C.f_is_within C.g_is_within sc_is_within (fun _ _ _ _ _ _ us hl => match us, hl with | [_, _, _], _ => rfl) (fun vs H Q E h => by obtain ⟨ds, d, ⟨v, l, m, rfl, rfl⟩, hd, _⟩ := h; exact hd.length) fun cdv A outer s H vs Q E hr h => ?_
  obtain ⟨_, _, ⟨v, l, m, rfl, rfl⟩, hd, k⟩ := h
  obtain ⟨x, y, z, rfl, h0, h1, h2⟩ := hd.three_inv
  refine ⟨_, (pss_one (ps_ret (pe_and (pe_cl o_is_integer hr (by decide) rfl (pa_cons (pv 0) pa_nil)) (pe_one (pe_chain op_le op_le (pv 1) (pv 0) (pv 2)))))), ?_⟩
  refine sd_ret (d := .bool (true && (decide (l ≤ v) && decide (v ≤ m)))) ?_ (by rw [Bool.true_and]; exact k)
  exact ed_and (ed_call (eds_cons (by walk_at "ev") eds_nil) pu_is_integer) fun _ => (by walk_at "ev")
/-! ### is_pair -/
def R_is_pair (ds : List PD) (d : PD) : Prop := ∃ xs : List PD, ds = [.tuple xs] ∧ d = .bool (decide ((xs.length : Int) = 2))
abbrev sp_is_pair (K : PySem.W.Frag) : Sp := spD K R_is_pair
theorem pu_is_pair {x y : PD} : Pure K (sp_is_pair K) [.tuple [x, y]] (.bool true) := spD_pure ⟨_, rfl, rfl⟩
theorem sc_is_pair : FnScope ["thing"] ["thing"] (defScope (top 4)) := ⟨rfl, rfl, rfl, by decide +kernel, rfl, by decide +kernel, by decide +kernel⟩
theorem ok_is_pair (C : W0 P w K mg base) : Cl P w K mg base 1 "is_pair" ["thing"] (sp_is_pair K) := by
  refine Cl.of C.f_is_pair C.g_is_pair sc_is_pair (fun _ _ _ _ _ _ us hl => match us, hl with | [_], _ => rfl) (fun vs H Q E h => by obtain ⟨ds, d, ⟨xs, rfl, rfl⟩, hd, _⟩ := h; exact hd.length) fun cdv A outer s H vs Q E hr h => ?_
  obtain ⟨_, _, ⟨xs, rfl, rfl⟩, hd, k⟩ := h
  obtain ⟨x, rfl, h0⟩ := hd.one_inv
  refine ⟨_, (pss_one (ps_ret (pe_and (pe_isi (Tn := "tuple") C.n_isinstance C.n_tuple (pv 0)) (pe_one (pe_cmpR op_eq (pe_callB call_len_seq (by rfl) C.n_len (by decide +kernel) (pa_cons (pv 0) pa_nil)) pe_int (nomark _)))))), ?_⟩
  refine sd_ret (d := .bool (true && decide ((xs.length : Int) = 2))) ?_ (by rw [Bool.true_and]; exact k)
  exact ed_and (ed_isi (d := .tuple xs) (by walk_at "ev") k_tt) fun _ => (by walk_at "ev")
/-! ### divisor -/
def R_divisor (ds : List PD) (d : PD) : Prop := ∃ a b : Nat, ds = [.int a, .int b] ∧ d = .int (Nat.gcd a b : Nat)
abbrev sp_divisor (K : PySem.W.Frag) : Sp := spD K R_divisor
theorem pu_divisor {a b : Nat} : Pure K (sp_divisor K) [.int a, .int b] (.int (Nat.gcd a b : Nat)) := spD_pure ⟨_, _, rfl, rfl⟩
theorem sc_divisor : FnScope ["one", "other"] ["one", "other"] (defScope (top 12)) := ⟨rfl, rfl, rfl, by decide +kernel, rfl, by decide +kernel, by decide +kernel⟩
theorem ok_divisor (C : W0 P w K mg base) : Cl P w K mg base 1 "divisor" ["one", "other"] (sp_divisor K) := by
  refine Cl.of C.f_divisor C.g_divisor sc_divisor (fun _ _ _ _ _ _ us hl => match us, hl with | [_, _], _ => rfl) (fun vs H Q E h => by obtain ⟨ds, d, ⟨a, b, rfl, rfl⟩, hd, _⟩ := h; exact hd.length) fun cdv A outer s H vs Q E hr h => ?_
  obtain ⟨_, _, ⟨a, b, rfl, rfl⟩, hd, k⟩ := h
  obtain ⟨x, y, rfl, h0, h1⟩ := hd.two_inv
  refine ⟨_, (pss_cons (ps_while PassesOwn.never (pt_cmpR op_gt (pv 1) pe_int (nomark _)) (pss_one (ps_par (i := 0) (j := 1) rfl sc_divisor.nd rfl rfl (by decide) rfl rfl (pa_cons (pv 1) (pa_cons (pe_op op_mod (pv 0) (pv 1)) pa_nil)) (by rfl))))
      (pss_one (ps_ret (pv 0)))), ?_⟩
  refine kq_while K (fun m σ' H' => Ex H H' ∧ ∃ c d : Nat, σ' = [some (.int c), some (.int d)] ∧ m = d ∧ Nat.gcd c d = Nat.gcd a b) b ⟨Ex.refl _, a, b, by rw [h0.int_inv, h1.int_inv]; rfl, rfl, rfl⟩ ?_
  rintro m σ' H' ⟨e, c, d, rfl, rfl, hg⟩
  refine ⟨decide ((0 : Int) < (m : Int)), by walk_at "ev", fun hb H1 e1 => ?_, fun hb H1 e1 => ?_⟩
  · have hd0 : 0 < m := by have := of_decide_eq_true hb; omega
    refine ⟨fun σ2 H2 => Ex H H2 ∧ σ2 = [some (.int m), some (.int ((c % m : Nat) : Int))], fun σ2 H2 ⟨e2, h2⟩ => ⟨c % m, Nat.mod_lt _ hd0, e2, m, c % m, h2, rfl, by rw [← hg, Nat.gcd_comm m, ← Nat.gcd_rec, Nat.gcd_comm]⟩, ?_⟩
    have ht : EvDs K (tCons (tVar 1) (tCons (tOp (rI (fun _ j => 0 < j) fun i j => V.int (i % j)) (tVar 0) (tVar 1)) tNil)) [some (.int c), some (.int m)] H1 [.int m, .int ((c : Int) % (m : Int))] := by
      walk_at "ev"
    refine ht H1 (Ex.refl _) _ fun vs H2 e2 hv => ?_
    obtain ⟨v1, v2, rfl, q1, q2⟩ := hv.two_inv
    refine ⟨v1, v2, rfl, (e.trans e1).trans e2, ?_⟩
    rw [q1.int_inv, q2.int_inv, Int.natCast_emod]
    rfl
  · have hd0 : m = 0 := by have := of_decide_eq_false hb; omega
    subst hd0
    refine sd_ret (K := K) (d := .int c) (by walk_at "ev") fun v H2 e2 hv => ?_
    rw [Nat.gcd_zero_right] at hg
    rw [hg] at hv
    exact k v H2 ((e.trans e1).trans e2) hv
/-! ### lowest -/
/-- a quotient in lowest terms -/
def fr (t b : Int) : PD := .tuple [.int (t / (Nat.gcd t.natAbs b.natAbs : Nat)), .int (b / (Nat.gcd t.natAbs b.natAbs : Nat))]
def R_lowest (ds : List PD) (d : PD) : Prop := ∃ t b : Int, ds = [.int t, .int b] ∧ 0 < b ∧ b < 2 ^ 5000 ∧ d = fr t b
abbrev sp_lowest (K : PySem.W.Frag) : Sp := spD K R_lowest
theorem pu_lowest {t b : Int} (h : 0 < b) (h2 : b < 2 ^ 5000) : Pure K (sp_lowest K) [.int t, .int b] (fr t b) := spD_pure ⟨_, _, rfl, h, h2, rfl⟩
theorem cdiv_gcd {t b : Int} (h : 0 < b) (h2 : b < 2 ^ 5000) : CDivW t ((Nat.gcd t.natAbs b.natAbs : Nat) : Int) := by
  have hg : 0 < Nat.gcd t.natAbs b.natAbs := Nat.gcd_pos_of_pos_right _ (by omega)
  have hl : Nat.gcd t.natAbs b.natAbs ≤ b.natAbs := Nat.gcd_le_right _ (by omega)
  refine wide_div (b := 5000) (by omega) ?_ (by decide) (by decide)
  rw [Int.natAbs_natCast]
  have e : ((2 : Int) ^ 5000) = ((2 ^ 5000 : Nat) : Int) := by norm_cast
  rw [e] at h2
  omega
theorem sc_lowest : FnScope ["top", "bottom", "common"] ["top", "bottom"] (defScope (top 13)) := ⟨rfl, rfl, rfl, by decide +kernel, rfl, by decide +kernel, by decide +kernel⟩
theorem ok_lowest (C : W0 P w K mg base) : Cl P w K mg base 2 "lowest" ["top", "bottom"] (sp_lowest K) := by
  have o_divisor := ok_divisor C
  refine Cl.of C.f_lowest C.g_lowest sc_lowest (fun _ _ _ _ _ _ us hl => match us, hl with | [_, _], _ => rfl) (fun vs H Q E h => by obtain ⟨ds, d, ⟨a, b, rfl, _, _, rfl⟩, hd, _⟩ := h; exact hd.length) fun cdv A outer s H vs Q E hr h => ?_
  obtain ⟨_, _, ⟨t, b, rfl, hb, hb2, rfl⟩, hd, k⟩ := h
  obtain ⟨x, y, rfl, h0, h1⟩ := hd.two_inv
  refine ⟨_, (pss_cons (ps_set (i := 2) sc_lowest.nd rfl (Or.inl rfl) (pe_cl o_divisor hr (by decide) rfl (pa_cons (pe_callB call_abs (by rfl) C.n_abs (by decide +kernel) (pa_cons (pv 0) pa_nil)) (pa_cons (pv 1) pa_nil))))
      (pss_one (ps_ret (pe_tup (pa_cons (pe_op op_fdivW (pv 0) (pv 2)) (pa_cons (pe_op op_fdivW (pv 1) (pv 2)) pa_nil)))))), ?_⟩
  have hbn : (b.natAbs : Int) = b := by omega
  refine qd_asg (d := .int (Nat.gcd t.natAbs b.natAbs : Nat)) (ed_call (eds_cons (by walk_at "ev") (eds_cons (d := .int b.natAbs) (by rw [hbn]; walk_at "ev") eds_nil)) pu_divisor) fun v2 H1 e1 h2 => ?_
  have h0 := h0.ex e1
  have h1 := h1.ex e1
  refine sd_ret (d := fr t b) ?_ fun v H2 e2 hv => k v H2 (e1.trans e2) hv
  refine ed_tup (eds_cons (ed_I ?_ ?_ (cdiv_gcd hb hb2)) (eds_cons (ed_I ?_ ?_ ?_) eds_nil)) (by simp)
  · walk_at "ev"
  · walk_at "ev"
  · walk_at "ev"
  · walk_at "ev"
  · exact cdiv_gcd hb hb2
end
end K61
end

section
set_option Elab.async false
set_option linter.all false
set_option maxRecDepth 100000
set_option maxHeartbeats 4000000
/-! M1: fractions as data. -/
namespace K61
open PySem
/-- a fraction as data -/
def rt (q : Rat) : PD := .tuple [.int q.num, .int (q.den : Int)]
theorem fr_rt {t b : Int} (h : 0 < b) : fr t b = rt (mkRat t b.toNat) := by
  obtain ⟨n, rfl⟩ : ∃ n : Nat, b = (n : Int) := ⟨b.toNat, by omega⟩
  have hn : n ≠ 0 := by omega
  unfold fr rt
  rw [Rat.num_mkRat, Rat.den_mkRat, Int.toNat_natCast, if_neg hn, if_neg hn, Int.natAbs_natCast, Nat.gcd_comm n t.natAbs]
  rfl
def small (q : Rat) : Prop := q.num.natAbs < 2 ^ 1000 ∧ q.den < 2 ^ 1000
theorem fr_add {p q : Rat} : fr (p.num * (q.den : Int) + q.num * (p.den : Int)) ((p.den : Int) * (q.den : Int)) = rt (p + q) := by
  have hp := p.den_pos
  have hq := q.den_pos
  rw [fr_rt (by exact_mod_cast Nat.mul_pos hp hq), Rat.add_def']
  congr 2
theorem fr_mul {p q : Rat} : fr (p.num * q.num) ((p.den : Int) * (q.den : Int)) = rt (p * q) := by
  have hp := p.den_pos
  have hq := q.den_pos
  rw [fr_rt (by exact_mod_cast Nat.mul_pos hp hq), Rat.mul_def']
  congr 2
theorem fr_div {p q : Rat} (h : 0 < q.num) : fr (p.num * (q.den : Int)) ((p.den : Int) * q.num) = rt (p / q) := by
  have hp := p.den_pos
  have hd : 0 < (p.den : Int) * q.num := Int.mul_pos (by omega) h
  rw [fr_rt hd]
  congr 1
  have e : p / q = Rat.divInt p.num p.den * Rat.divInt q.den q.num := by rw [Rat.div_def, Rat.inv_def, Rat.num_divInt_den]
  rw [e, Rat.divInt_mul_divInt, ← Rat.divInt_ofNat]
  congr 1
  omega
end K61
end

section
set_option Elab.async false
set_option linter.all false
set_option maxRecDepth 100000
set_option maxHeartbeats 4000000
namespace K61
open PySem PySem.Spec PyProof.Rows L2 Evl
local macro_rules | `(tactic| walk_at "evs") => `(tactic| first
  | exact ed_int | exact ed_str | exact ed_bl | exact ed_non
  | exact ed_var ⟨_, rfl, by first | assumption | exact .int _ | exact .str _ | exact .bl _ | exact .non⟩
  | exact ed_top (W0.t_ZERO (by assumption)) | exact ed_top (W0.t_ONE (by assumption))
  | refine ed_I0 ?_ ?_ | refine ed_B0 ?_ ?_ | refine ed_I ?_ ?_ ?_
  | refine ed_call ?_ ?_ | refine eds_cons ?_ ?_ | exact eds_nil
  | ((apply ed_ixT); (focus (walk_at "ev"; done)); (focus (walk_at "ev"; done)); (focus (exact rfl)); done)
  | ((apply ed_ixL); (focus (walk_at "ev"; done)); (focus (walk_at "ev"; done)); (focus (exact rfl)); done)
  | refine ed_tup ?_ ?_ | refine ed_lst ?_ ?_
  | ((refine ed_lenL ?_); (walk_at "ev"); done) | ((refine ed_lenT ?_); (walk_at "ev"); done) | refine ed_lenS ?_ ?_
  | refine ed_abs ?_ | ((refine ed_intI ?_); (walk_at "ev"); done) | refine ed_intB ?_ | refine ed_isi ?_ ?_
  | ((refine ed_eqI ?_ ?_ <;> walk_at "ev"); done) | ((refine ed_eqS ?_ ?_ <;> walk_at "ev"); done) | refine ed_neS ?_ ?_
  | refine ed_eqD ?_ ?_ ?_ ?_ | refine ed_neD ?_ ?_ ?_ ?_ | refine ed_ltD ?_ ?_ ?_ ?_ ?_
  | refine ed_isN ?_ | refine ed_notN ?_
  | refine ed_chain ?_ ?_ ?_ | refine ed_not ?_ | refine ed_and ?_ ?_ | refine ed_or ?_ ?_
  | refine ed_catS ?_ ?_ ?_ | refine ed_catT ?_ ?_ ?_
  | refine etk_D ?_ | refine etk_DB ?_ | refine etk_not ?_ | refine etk_and ?_ ?_ | refine etk_or ?_ ?_
  | exact rfl | assumption | omega | refine (fun (_ : _ = true) => ?_) | refine (fun (_ : _ = false) => ?_))
local macro_rules | `(tactic| walk_at "ev") => `(tactic| (walk_at "evs" <;> (try walk_at "ev")))

section
variable {P : Program} {w : World} {K : PySem.W.Frag} {mg : Str → Option Value} {base : Heap}
/-! ### is_fraction -/
def R_is_fraction (ds : List PD) (d : PD) : Prop := ∃ q : Rat, ds = [rt q] ∧ d = .bool true
abbrev sp_is_fraction (K : PySem.W.Frag) : Sp := spD K R_is_fraction
theorem pu_is_fraction {q : Rat} : Pure K (sp_is_fraction K) [rt q] (.bool true) := spD_pure ⟨_, rfl, rfl⟩
theorem sc_is_fraction : FnScope ["thing"] ["thing"] (defScope (top 14)) := ⟨rfl, rfl, rfl, by decide +kernel, rfl, by decide +kernel, by decide +kernel⟩
theorem ok_is_fraction (C : W0 P w K mg base) : Cl P w K mg base 2 "is_fraction" ["thing"] (sp_is_fraction K) := by
  have o_divisor := ok_divisor C
  have o_is_integer := ok_is_integer C
  have o_is_pair := ok_is_pair C
  refine Cl.of C.f_is_fraction C.g_is_fraction sc_is_fraction (fun _ _ _ _ _ _ us hl => match us, hl with | [_], _ => rfl) (fun vs H Q E h => by obtain ⟨ds, d, ⟨q, rfl, rfl⟩, hd, _⟩ := h; exact hd.length) fun cdv A outer s H vs Q E hr h => ?_
  obtain ⟨_, _, ⟨q, rfl, rfl⟩, hd, k⟩ := h
  obtain ⟨x, rfl, h0⟩ := hd.one_inv
  have hq := q.den_pos
  have hr' : Nat.gcd q.num.natAbs q.den = 1 := q.reduced
  refine ⟨_, (pss_cons (ps_if (PW.pt (pw_or (pt_not (pt_val (pe_cl o_is_pair hr (by decide) rfl (pa_cons (pv 0) pa_nil)))) (pw_or (pt_not (pt_val (pe_cl o_is_integer hr (by decide) rfl (pa_cons (pe_ix ix_tup (pv 0) pe_int (fun _ _ => rfl)) pa_nil)))) (pw_or1 (pt_not (pt_val (pe_cl o_is_integer hr (by decide) rfl (pa_cons (pe_ix ix_tup (pv 0) pe_int (fun _ _ => rfl)) pa_nil)))))))) (pss_one (ps_ret pe_bl)) pss_nil)
      (pss_one (ps_ret (pe_and (pe_cmpR op_gt (pe_ix ix_tup (pv 0) pe_int (fun _ _ => rfl)) pe_int (nomark _)) (pe_one (pe_cmpR op_eq (pe_cl o_divisor hr (by decide) rfl (pa_cons (pe_callB call_abs (by rfl) C.n_abs (by decide +kernel) (pa_cons (pe_ix ix_tup (pv 0) pe_int (fun _ _ => rfl)) pa_nil)) (pa_cons (pe_ix ix_tup (pv 0) pe_int (fun _ _ => rfl)) pa_nil))) pe_int (nomark _))))))), ?_⟩
  have h0' : Dp K H x (.tuple [.int q.num, .int (q.den : Int)]) := h0
  refine kq_skip K (etk_or (a := false) (b := false) (etk_not (a := true) (etk_D (ed_call (eds_cons (by walk_at "ev") eds_nil) pu_is_pair))) fun _ => etk_or (a := false) (b := false) (etk_not (a := true) (etk_D (ed_call (eds_cons (d := .int q.num) (by walk_at "ev") eds_nil) pu_is_integer))) fun _ => (etk_not (a := true) (etk_D (ed_call (eds_cons (d := .int (q.den : Int)) (by walk_at "ev") eds_nil) pu_is_integer)))) fun H1 e1 => ?_
  have h0' := h0'.ex e1
  refine sd_ret (d := .bool (decide ((0 : Int) < (q.den : Int)) && decide ((Nat.gcd q.num.natAbs q.den : Nat) = (1 : Int)))) ?_ fun v H2 e2 hv => k v H2 (e1.trans e2) (by rw [hr', decide_eq_true (by omega)] at hv; exact hv)
  refine ed_and (by walk_at "ev") fun _ => ed_eqI (ed_call (eds_cons (d := .int q.num.natAbs) (ed_abs (by walk_at "ev")) (eds_cons (d := .int (q.den : Int)) (by walk_at "ev") eds_nil)) pu_divisor) (by walk_at "ev")
/-! ### plus, times, over -/
theorem small_mul {i j : Int} (h1 : i.natAbs < 2 ^ 1000) (h2 : j.natAbs < 2 ^ 1000) : CMulW i j := wide_mul h1 h2 (by decide) (by decide) (by decide)
theorem small_n {p : Rat} (h : small p) : ((p.den : Int)).natAbs < 2 ^ 1000 := by rw [Int.natAbs_natCast]; exact h.2
theorem small_dd {m n : Nat} (h1 : m < 2 ^ 1000) (h2 : n < 2 ^ 1000) : (m : Int) * (n : Int) < 2 ^ 5000 := by
  have h : m * n < 2 ^ 1000 * 2 ^ 1000 := Nat.mul_lt_mul'' h1 h2
  rw [← Nat.pow_add] at h
  have h3 : m * n < 2 ^ 5000 := Nat.lt_of_lt_of_le h (Nat.pow_le_pow_right (by decide) (by decide))
  exact_mod_cast h3
def R_plus (ds : List PD) (d : PD) : Prop := ∃ p q : Rat, small p ∧ small q ∧ ds = [rt p, rt q] ∧ d = rt (p + q)
abbrev sp_plus (K : PySem.W.Frag) : Sp := spD K R_plus
theorem pu_plus {p q : Rat} (hp : small p) (hq : small q) : Pure K (sp_plus K) [rt p, rt q] (rt (p + q)) := spD_pure ⟨_, _, hp, hq, rfl, rfl⟩
theorem sc_plus : FnScope ["one", "other"] ["one", "other"] (defScope (top 15)) := ⟨rfl, rfl, rfl, by decide +kernel, rfl, by decide +kernel, by decide +kernel⟩
theorem ok_plus (C : W0 P w K mg base) : Cl P w K mg base 3 "plus" ["one", "other"] (sp_plus K) := by
  have o_lowest := ok_lowest C
  refine Cl.of C.f_plus C.g_plus sc_plus (fun _ _ _ _ _ _ us hl => match us, hl with | [_, _], _ => rfl) (fun vs H Q E h => by obtain ⟨ds, d, ⟨p, q, _, _, rfl, rfl⟩, hd, _⟩ := h; exact hd.length) fun cdv A outer s H vs Q E hr h => ?_
  obtain ⟨_, _, ⟨p, q, hp, hq, rfl, rfl⟩, hd, k⟩ := h
  obtain ⟨x, y, rfl, h0, h1⟩ := hd.two_inv
  have h0 : Dp K H x (.tuple [.int p.num, .int (p.den : Int)]) := h0
  have h1 : Dp K H y (.tuple [.int q.num, .int (q.den : Int)]) := h1
  refine ⟨_, (pss_one (ps_ret (pe_cl o_lowest hr (by decide) rfl (pa_cons (pe_op op_add (pe_op op_mulW (pe_ix ix_tup (pv 0) pe_int (fun _ _ => rfl)) (pe_ix ix_tup (pv 1) pe_int (fun _ _ => rfl))) (pe_op op_mulW (pe_ix ix_tup (pv 1) pe_int (fun _ _ => rfl)) (pe_ix ix_tup (pv 0) pe_int (fun _ _ => rfl)))) (pa_cons (pe_op op_mulW (pe_ix ix_tup (pv 0) pe_int (fun _ _ => rfl)) (pe_ix ix_tup (pv 1) pe_int (fun _ _ => rfl))) pa_nil))))), ?_⟩
  refine sd_ret (d := rt (p + q)) ((ed_call (eds_cons (d := .int (p.num * (q.den : Int) + q.num * (p.den : Int))) ?_ (eds_cons (d := .int ((p.den : Int) * (q.den : Int))) ?_ eds_nil)) (pu_lowest (by have := p.den_pos; have := q.den_pos; exact_mod_cast Nat.mul_pos p.den_pos q.den_pos) (small_dd hp.2 hq.2))).is fr_add) k
  · refine ed_I0 (ed_I (i := p.num) (j := q.den) ?_ ?_ (small_mul hp.1 (small_n hq))) (ed_I (i := q.num) (j := p.den) ?_ ?_ (small_mul hq.1 (small_n hp))) <;> walk_at "ev"
  · refine ed_I (i := p.den) (j := q.den) ?_ ?_ (small_mul (small_n hp) (small_n hq)) <;> walk_at "ev"
def R_times (ds : List PD) (d : PD) : Prop := ∃ p q : Rat, small p ∧ small q ∧ ds = [rt p, rt q] ∧ d = rt (p * q)
abbrev sp_times (K : PySem.W.Frag) : Sp := spD K R_times
theorem pu_times {p q : Rat} (hp : small p) (hq : small q) : Pure K (sp_times K) [rt p, rt q] (rt (p * q)) := spD_pure ⟨_, _, hp, hq, rfl, rfl⟩
theorem sc_times : FnScope ["one", "other"] ["one", "other"] (defScope (top 16)) := ⟨rfl, rfl, rfl, by decide +kernel, rfl, by decide +kernel, by decide +kernel⟩
theorem ok_times (C : W0 P w K mg base) : Cl P w K mg base 3 "times" ["one", "other"] (sp_times K) := by
  have o_lowest := ok_lowest C
  refine Cl.of C.f_times C.g_times sc_times (fun _ _ _ _ _ _ us hl => match us, hl with | [_, _], _ => rfl) (fun vs H Q E h => by obtain ⟨ds, d, ⟨p, q, _, _, rfl, rfl⟩, hd, _⟩ := h; exact hd.length) fun cdv A outer s H vs Q E hr h => ?_
  obtain ⟨_, _, ⟨p, q, hp, hq, rfl, rfl⟩, hd, k⟩ := h
  obtain ⟨x, y, rfl, h0, h1⟩ := hd.two_inv
  have h0 : Dp K H x (.tuple [.int p.num, .int (p.den : Int)]) := h0
  have h1 : Dp K H y (.tuple [.int q.num, .int (q.den : Int)]) := h1
  refine ⟨_, (pss_one (ps_ret (pe_cl o_lowest hr (by decide) rfl (pa_cons (pe_op op_mulW (pe_ix ix_tup (pv 0) pe_int (fun _ _ => rfl)) (pe_ix ix_tup (pv 1) pe_int (fun _ _ => rfl))) (pa_cons (pe_op op_mulW (pe_ix ix_tup (pv 0) pe_int (fun _ _ => rfl)) (pe_ix ix_tup (pv 1) pe_int (fun _ _ => rfl))) pa_nil))))), ?_⟩
  refine sd_ret (d := rt (p * q)) ((ed_call (eds_cons (d := .int (p.num * q.num)) ?_ (eds_cons (d := .int ((p.den : Int) * (q.den : Int))) ?_ eds_nil)) (pu_lowest (by exact_mod_cast Nat.mul_pos p.den_pos q.den_pos) (small_dd hp.2 hq.2))).is fr_mul) k
  · refine ed_I (i := p.num) (j := q.num) ?_ ?_ (small_mul hp.1 hq.1) <;> walk_at "ev"
  · refine ed_I (i := p.den) (j := q.den) ?_ ?_ (small_mul (small_n hp) (small_n hq)) <;> walk_at "ev"
def R_over (ds : List PD) (d : PD) : Prop := ∃ p q : Rat, small p ∧ small q ∧ 0 < q.num ∧ ds = [rt p, rt q] ∧ d = rt (p / q)
abbrev sp_over (K : PySem.W.Frag) : Sp := spD K R_over
theorem pu_over {p q : Rat} (hp : small p) (hq : small q) (h : 0 < q.num) : Pure K (sp_over K) [rt p, rt q] (rt (p / q)) := spD_pure ⟨_, _, hp, hq, h, rfl, rfl⟩
theorem sc_over : FnScope ["one", "other"] ["one", "other"] (defScope (top 17)) := ⟨rfl, rfl, rfl, by decide +kernel, rfl, by decide +kernel, by decide +kernel⟩
theorem ok_over (C : W0 P w K mg base) : Cl P w K mg base 3 "over" ["one", "other"] (sp_over K) := by
  have o_lowest := ok_lowest C
  refine Cl.of C.f_over C.g_over sc_over (fun _ _ _ _ _ _ us hl => match us, hl with | [_, _], _ => rfl) (fun vs H Q E h => by obtain ⟨ds, d, ⟨p, q, _, _, _, rfl, rfl⟩, hd, _⟩ := h; exact hd.length) fun cdv A outer s H vs Q E hr h => ?_
  obtain ⟨_, _, ⟨p, q, hp, hq, hn, rfl, rfl⟩, hd, k⟩ := h
  obtain ⟨x, y, rfl, h0, h1⟩ := hd.two_inv
  have h0 : Dp K H x (.tuple [.int p.num, .int (p.den : Int)]) := h0
  have h1 : Dp K H y (.tuple [.int q.num, .int (q.den : Int)]) := h1
  refine ⟨_, (pss_one (ps_ret (pe_cl o_lowest hr (by decide) rfl (pa_cons (pe_op op_mulW (pe_ix ix_tup (pv 0) pe_int (fun _ _ => rfl)) (pe_ix ix_tup (pv 1) pe_int (fun _ _ => rfl))) (pa_cons (pe_op op_mulW (pe_ix ix_tup (pv 0) pe_int (fun _ _ => rfl)) (pe_ix ix_tup (pv 1) pe_int (fun _ _ => rfl))) pa_nil))))), ?_⟩
  refine sd_ret (d := rt (p / q)) ((ed_call (eds_cons (d := .int (p.num * (q.den : Int))) ?_ (eds_cons (d := .int ((p.den : Int) * q.num)) ?_ eds_nil)) (pu_lowest (Int.mul_pos (by have := p.den_pos; omega) hn) (by
    have h := small_dd hp.2 hq.1
    rwa [Int.natAbs_of_nonneg (by omega)] at h))).is (fr_div hn)) k
  · refine ed_I (i := p.num) (j := q.den) ?_ ?_ (small_mul hp.1 (small_n hq)) <;> walk_at "ev"
  · refine ed_I (i := p.den) (j := q.num) ?_ ?_ (small_mul (small_n hp) hq.1) <;> walk_at "ev"
/-! ### add_all -/
def sumR (qs : List Rat) : Rat := qs.foldl (· + ·) 0
theorem sumR_snoc {qs : List Rat} {q : Rat} : sumR (qs ++ [q]) = sumR qs + q := by unfold sumR; rw [List.foldl_append]; rfl
def R_add_all (ds : List PD) (d : PD) : Prop := ∃ qs : List Rat, (∀ q ∈ qs, small q) ∧ (∀ i, small (sumR (qs.take i))) ∧ ds = [.list (qs.map rt)] ∧ d = rt (sumR qs)
abbrev sp_add_all (K : PySem.W.Frag) : Sp := spD K R_add_all
theorem pu_add_all {qs : List Rat} (h1 : ∀ q ∈ qs, small q) (h2 : ∀ i, small (sumR (qs.take i))) : Pure K (sp_add_all K) [.list (qs.map rt)] (rt (sumR qs)) := spD_pure ⟨_, h1, h2, rfl, rfl⟩
theorem tfr_rt {q : Rat} : tfr (rt q) = true := rfl
theorem sc_add_all : FnScope ["some", "found", "part"] ["some"] (defScope (top 18)) := ⟨rfl, rfl, rfl, by decide +kernel, rfl, by decide +kernel, by decide +kernel⟩
theorem ok_add_all (C : W0 P w K mg base) : Cl P w K mg base 4 "add_all" ["some"] (sp_add_all K) := by
  have o_plus := ok_plus C
  refine Cl.of C.f_add_all C.g_add_all sc_add_all (fun _ _ _ _ _ _ us hl => match us, hl with | [_], _ => rfl) (fun vs H Q E h => by obtain ⟨ds, d, ⟨qs, _, _, rfl, rfl⟩, hd, _⟩ := h; exact hd.length) fun cdv A outer s H vs Q E hr h => ?_
  obtain ⟨_, _, ⟨qs, hs, hp, rfl, rfl⟩, hd, k⟩ := h
  obtain ⟨x, rfl, h0⟩ := hd.one_inv
  refine ⟨_, (pss_cons (ps_set (i := 1) sc_add_all.nd rfl (Or.inl rfl) (C8.pe_gc rfl C.c_ZERO))
      (pss_cons (ps_for PassesOwn.never rfl (pi_list (pv 0)) (pg_name (i := 2) sc_add_all.nd rfl (Or.inl rfl)) (pss_one (ps_set (i := 1) sc_add_all.nd rfl (Or.inl rfl) (pe_cl o_plus hr (by decide) rfl (pa_cons (pv 1) (pa_cons (pv 2) pa_nil))))))
      (pss_one (ps_ret (pv 1))))), ?_⟩
  refine qd_asg (d := rt 0) (ed_top (W0.t_ZERO C)) fun v1 H1 e1 h1 => ?_
  have h0 := h0.ex e1
  refine qd_for (ds := qs.map rt) (wk_list (ed_var ⟨_, rfl, h0⟩)) (fun i σ' H' => ∃ y z, σ' = [some x, some y, z] ∧ Dp K H' y (rt (sumR (qs.take i)))) (fun H2 e2 => ⟨_, _, rfl, h1.ex e2⟩) ?_ ?_
  · rintro H0 e0 i d hd σ' H' e2 ⟨y, z, rfl, hy⟩ u H2 e3 hu
    rw [List.getElem?_map] at hd
    obtain ⟨q, hq, rfl⟩ := Option.map_eq_some_iff.mp hd
    have hm : q ∈ qs := List.mem_of_getElem? hq
    have hy := hy.ex e3
    refine sd_asg (K := K) (d := rt (sumR (qs.take i) + q)) (ed_call (eds_cons (ed_var ⟨_, rfl, hy⟩) (eds_cons (ed_var ⟨_, rfl, hu⟩) eds_nil)) (pu_plus (hp i) (hs q hm))) fun v H3 e4 hv => ⟨(e2.trans e3).trans e4, _, _, rfl, ?_⟩
    obtain ⟨hi, rfl⟩ := List.getElem?_eq_some_iff.mp hq
    rw [List.take_succ_eq_append_getElem hi, sumR_snoc]
    exact hv
  · rintro σ' H' e2 ⟨y, z, rfl, hy⟩
    rw [List.length_map, List.take_length] at hy
    exact sd_ret (ed_var ⟨_, rfl, hy⟩) fun v H2 e3 hv => k v H2 (e1.trans (e2.trans e3)) hv
end
end K61
end

section
set_option Elab.async false
set_option linter.all false
set_option maxRecDepth 100000
set_option maxHeartbeats 4000000
/-! Kg: comprehensions over a family; loops on a ground below the heap; results told by a set. -/
namespace K61
open PySem PySem.Spec PyProof.Rows L2 Evl RZ
section
variable {K : PySem.W.Frag} {σ : L2.St} {H H' : Hp} {ta tb tc te : TE} {t u : TT} {wi : TI} {gg : TG} {tt : TT} {α : Type}
/-- a fresh list of the data ds -/
def EvF (K : PySem.W.Frag) (te : TE) (σ : L2.St) (H : Hp) (ds : List PD) : Prop := ∀ H1, Ex H H1 → ∀ Q : VK, (∀ b vs H2, Ex H1 H2 → H1 b = none → H2 b = some (.lst vs) → DpAll K H2 vs ds → Q (.ref b) H2) → te σ H1 Q
theorem EvF.ed {ds : List PD} (h : EvF K te σ H ds) : EvD K te σ H (.list ds) := fun H1 e Q q => h H1 e Q fun b vs H2 e2 _ hb hv => q _ H2 e2 (.lst (sq_of hb) hv)
theorem EvF.mono {ds : List PD} (e : Ex H H') (h : EvF K te σ H ds) : EvF K te σ H' ds := fun H1 a => h H1 (e.trans a)
theorem EvF.is {ds ds' : List PD} (h : EvF K te σ H ds) (e : ds = ds') : EvF K te σ H ds' := e ▸ h
theorem ef_lst {tr : TA} {ds : List PD} (h : EvDs K tr σ H ds) (hl : ds.length ≤ 100000) : EvF K (tLst tr) σ H ds := fun H1 e Q q =>
  h H1 e _ fun vs H2 e2 hvs => ⟨sz_of (by rw [hvs.length]; exact hl), fun p hp => q _ _ _ (e2.trans (Ex.new hp)) (fresh_back e2 hp) upd_same (hvs.ex (Ex.new hp))⟩
theorem ef_if {b : Bool} {ds : List PD} (h : EvTK K t σ H b) (h1 : b = true → EvF K ta σ H ds) (h2 : b = false → EvF K tb σ H ds) : EvF K (tIf t ta tb) σ H ds := fun H1 e Q q => h H1 e _ fun H2 e2 => by
  cases b with
  | true =>
    show ta σ H2 Q
    exact h1 rfl H2 (e.trans e2) Q fun b vs H3 e3 hb => q b vs H3 (e2.trans e3) (fresh_back e2 hb)
  | false =>
    show tb σ H2 Q
    exact h2 rfl H2 (e.trans e2) Q fun b vs H3 e3 hb => q b vs H3 (e2.trans e3) (fresh_back e2 hb)
theorem ef_lcA {vs : List Nat} {xs : List α} {f g : α → PD} (hw : WkD K wi σ H (xs.map f)) (keep : α → Bool) (hl : xs.length ≤ 100000) (hf : ∀ a ∈ xs, tfr (g a) = true)
    (turn : ∀ H0, Ex H H0 → ∀ a, a ∈ xs → ∀ x, Dp K H0 x (f a) → ∀ Q : L2.St → Hp → Prop, (∀ σ2, wipe σ2 vs = wipe σ vs → EvTK K tt σ2 H0 (keep a) → (keep a = true → EvD K te σ2 H0 (g a)) → Q σ2 H0) → gg x (wipe σ vs) H0 Q) :
    EvF K (tLc wi gg tt te vs) σ H ((xs.filter keep).map g) := fun H0 e0 Q q => hw H0 e0 _ fun J H1 e1 j => fun Dl hD => by
  have hlm : (xs.map f).length = xs.length := List.length_map ..
  refine ⟨fun i m H' => m = xs.length - i ∧ i ≤ xs.length ∧ Ex H1 H' ∧ ∃ acc, H' Dl = some (.lst acc) ∧ DpAll K H' acc (((xs.take i).filter keep).map g), ⟨xs.length, by simp, Nat.zero_le _, Ex.new hD, [], upd_same, .nil⟩, ?_⟩
  rintro i m H' ⟨rfl, hi, ee, acc, ha, hacc⟩
  by_cases hlt : i < xs.length
  · refine .inr ⟨j.go H' ee i (by omega), fun H2 => Ex H1 H2 ∧ ∃ acc, H2 Dl = some (.lst acc) ∧ DpAll K H2 acc (((xs.take (i + 1)).filter keep).map g), fun H2 ⟨q1, q2⟩ => ⟨xs.length - (i + 1), by omega, rfl, hlt, q1, q2⟩, fun x H2 y => ?_⟩
    obtain ⟨e2, d, hd', hdp⟩ := j.yld H' ee i x H2 (by omega) y
    rw [List.getElem?_map] at hd'
    obtain ⟨a, ha', rfl⟩ := Option.map_eq_some_iff.mp hd'
    have hmem : a ∈ xs := List.mem_of_getElem? ha'
    have hdi : xs[i] = a := by rw [List.getElem?_eq_getElem hlt] at ha'; exact Option.some.inj ha'
    have etk : xs.take (i + 1) = xs.take i ++ [a] := by rw [List.take_succ_eq_append_getElem hlt, hdi]
    have hlen : acc.length ≤ i := by
      rw [hacc.length, List.length_map]
      exact Nat.le_trans (List.length_filter_le _ _) (by rw [List.length_take]; omega)
    refine turn H2 (((e0.trans e1).trans ee).trans e2) a hmem x hdp _ fun σ2 hw2 ht he => ⟨hw2, ht H2 (Ex.refl _) _ fun H3 e3 => ?_⟩
    have hfl : ∀ e ∈ ((xs.take i).filter keep).map g, tfr e = true := fun e he => by
      obtain ⟨z, hz, rfl⟩ := List.mem_map.mp he
      exact hf z (List.mem_of_mem_take (List.mem_filter.mp hz).1)
    cases hk : keep a with
    | true =>
      show te σ2 H3 _
      refine he hk H3 e3 _ fun v H4 e4 hv => ⟨acc, e4 _ _ (e3 _ _ (e2 _ _ ha)), sz_lt (by omega), ?_, acc ++ [v], upd_same, ?_⟩
      · exact Ex.mut (((ee.trans e2).trans e3).trans e4) hD
      · rw [etk, List.filter_append, List.map_append, List.filter_cons, if_pos hk]
        have tx : Tx H4 (L2.upd H4 Dl (.lst (acc ++ [v]))) := Tx.updL (e4 _ _ (e3 _ _ (e2 _ _ ha)))
        exact (dps_tx tx (tfrs_mem hfl) (hacc.ex ((e2.trans e3).trans e4))).snoc (dp_tx tx (hf a hmem) hv)
    | false =>
      show Ex H1 H3 ∧ _
      refine ⟨(ee.trans e2).trans e3, acc, e3 _ _ (e2 _ _ ha), ?_⟩
      rw [etk, List.filter_append, List.map_append, List.filter_cons, if_neg (by rw [hk]; exact Bool.false_ne_true)]
      show DpAll K H3 acc (_ ++ [])
      rw [List.append_nil]
      exact hacc.ex (e2.trans e3)
  · have e : i = xs.length := by omega
    subst e
    rw [List.take_length] at hacc
    exact .inl ⟨by have := j.stop H' ee; rwa [hlm] at this, q _ _ H' (e1.trans ee) (fresh_back e1 hD) ha hacc⟩
theorem ed_lcA {vs : List Nat} {xs : List α} {f g : α → PD} (hw : WkD K wi σ H (xs.map f)) (keep : α → Bool) (hl : xs.length ≤ 100000) (hf : ∀ a ∈ xs, tfr (g a) = true)
    (turn : ∀ H0, Ex H H0 → ∀ a, a ∈ xs → ∀ x, Dp K H0 x (f a) → ∀ Q : L2.St → Hp → Prop, (∀ σ2, wipe σ2 vs = wipe σ vs → EvTK K tt σ2 H0 (keep a) → (keep a = true → EvD K te σ2 H0 (g a)) → Q σ2 H0) → gg x (wipe σ vs) H0 Q) :
    EvD K (tLc wi gg tt te vs) σ H (.list ((xs.filter keep).map g)) := (ef_lcA hw keep hl hf turn).ed
theorem ef_lcAM {vs : List Nat} {xs : List α} {f g : α → PD} {j : Nat} (hw : WkD K wi σ H (xs.map f)) (hl : xs.length ≤ 100000) (hf : ∀ a ∈ xs, tfr (g a) = true) (hwp : ∀ x, wipe ((wipe σ vs).set j (some x)) vs = wipe σ vs)
    (turn : ∀ H0, Ex H H0 → ∀ a, a ∈ xs → ∀ x, Dp K H0 x (f a) → EvD K te ((wipe σ vs).set j (some x)) H0 (g a)) :
    EvF K (tLc wi (gName j) tYes te vs) σ H (xs.map g) := (ef_lcA hw (fun _ => true) hl hf fun H0 e d hd x hx Q q => q _ (hwp x) et_yes fun _ => turn H0 e d hd x hx).is (by rw [List.filter_eq_self.mpr fun _ _ => rfl])
/-- the items fresh lists -/
theorem ef_lcF {vs : List Nat} {xs : List α} {f : α → PD} {g : α → List PD} {j : Nat} (hw : WkD K wi σ H (xs.map f)) (hl : xs.length ≤ 100000) (hf : ∀ a ∈ xs, tfrs (g a) = true) (hwp : ∀ x, wipe ((wipe σ vs).set j (some x)) vs = wipe σ vs)
    (turn : ∀ H0, Ex H H0 → ∀ a, a ∈ xs → ∀ x, Dp K H0 x (f a) → EvF K te ((wipe σ vs).set j (some x)) H0 (g a)) :
    EvF K (tLc wi (gName j) tYes te vs) σ H (xs.map fun a => .list (g a)) := fun H0 e0 Q q => hw H0 e0 _ fun J H1 e1 j => fun Dl hD => by
  have hlm : (xs.map f).length = xs.length := List.length_map ..
  refine ⟨fun i m H' => m = xs.length - i ∧ i ≤ xs.length ∧ Ex H1 H' ∧ ∃ acc : List V, H' Dl = some (.lst acc) ∧ acc.length = i ∧ DpAll K (fun b => if b = Dl then none else H' b) acc ((xs.take i).map fun a => .list (g a)), ⟨xs.length, by simp, Nat.zero_le _, Ex.new hD, [], upd_same, rfl, .nil⟩, ?_⟩
  rintro i m H' ⟨rfl, hi, ee, acc, ha, hal, hacc⟩
  have exD : ∀ H, Ex (fun b => if b = Dl then none else H b) H := fun H b o h => by
    have h : (if b = Dl then none else H b) = some o := h
    split at h
    · cases h
    · exact h
  by_cases hlt : i < xs.length
  · refine .inr ⟨j.go H' ee i (by omega), fun H2 => Ex H1 H2 ∧ ∃ acc : List V, H2 Dl = some (.lst acc) ∧ acc.length = i + 1 ∧ DpAll K (fun b => if b = Dl then none else H2 b) acc ((xs.take (i + 1)).map fun a => .list (g a)), fun H2 ⟨q1, q2⟩ => ⟨xs.length - (i + 1), by omega, rfl, hlt, q1, q2⟩, fun x H2 y => ?_⟩
    obtain ⟨e2, d, hd', hdp⟩ := j.yld H' ee i x H2 (by omega) y
    rw [List.getElem?_map] at hd'
    obtain ⟨a, ha', rfl⟩ := Option.map_eq_some_iff.mp hd'
    have hmem : a ∈ xs := List.mem_of_getElem? ha'
    have hdi : xs[i] = a := by rw [List.getElem?_eq_getElem hlt] at ha'; exact Option.some.inj ha'
    have etk : xs.take (i + 1) = xs.take i ++ [a] := by rw [List.take_succ_eq_append_getElem hlt, hdi]
    refine ⟨hwp x, et_yes (K := K) H2 (Ex.refl _) _ fun H3 e3 => ?_⟩
    refine turn H2 (((e0.trans e1).trans ee).trans e2) a hmem x hdp H3 e3 _ fun b ws H4 e4 hb hbl hv => ⟨acc, e4 _ _ (e3 _ _ (e2 _ _ ha)), sz_lt (by omega), ?_, acc ++ [.ref b], upd_same, by rw [List.length_append, hal]; rfl, ?_⟩
    · exact Ex.mut (((ee.trans e2).trans e3).trans e4) hD
    · have hne : b ≠ Dl := ne_of_none (e3 _ _ (e2 _ _ ha)) hb |>.symm
      rw [etk, List.map_append]
      have es : ∀ c, c ≠ Dl → (if c = Dl then none else upd H4 Dl (.lst (acc ++ [.ref b])) c) = H4 c := fun c hc => by rw [if_neg hc, upd_ne hc]
      refine DpAll.app (hacc.ex fun c o h => ?_) (.cons (.lst (xs := ws) (sq_of ?_) ?_) .nil)
      · have hc : c ≠ Dl := fun z => by rw [z] at h; simp at h
        show (if c = Dl then none else upd H4 Dl (.lst (acc ++ [.ref b])) c) = some o
        rw [es c hc]
        exact e4 _ _ (e3 _ _ (e2 _ _ (exD H' c o h)))
      · show (if b = Dl then none else upd H4 Dl (.lst (acc ++ [.ref b])) b) = some (.lst ws)
        rw [es b hne]
        exact hbl
      · refine dps_tx (H := H4) ⟨fun c xs h => ?_, fun c o u h => ?_⟩ (hf a hmem) hv
        · have hc : c ≠ Dl := fun z => by rw [z, e4 _ _ (e3 _ _ (e2 _ _ ha))] at h; cases h
          show (if c = Dl then none else upd H4 Dl (.lst (acc ++ [.ref b])) c) = _
          rw [es c hc]; exact h
        · have hc : c ≠ Dl := fun z => by rw [z, e4 _ _ (e3 _ _ (e2 _ _ ha))] at h; cases h
          show (if c = Dl then none else upd H4 Dl (.lst (acc ++ [.ref b])) c) = _
          rw [es c hc]; exact h
  · have e : i = xs.length := by omega
    subst e
    rw [List.take_length] at hacc
    exact .inl ⟨by have := j.stop H' ee; rwa [hlm] at this, q _ _ H' (e1.trans ee) (fresh_back e1 hD) ha (hacc.ex (exD H'))⟩
theorem dps_rg {n : Int} : DpAll K H (rgV 0 n) (intD 0 n.toNat) := by
  unfold rgV intD
  rw [Int.sub_zero]
  generalize List.range n.toNat = l
  induction l with
  | nil => exact .nil
  | cons a l ih => exact .cons (.int _) ih
theorem ef_listRg {n : Int} (h : EvD K ta σ H (.int n)) (h0 : 0 ≤ n) (hn : n ≤ 100000) : EvF K (tLstRg (tRg1 ta)) σ H (intD 0 n.toNat) := fun H1 e Q q =>
  h H1 e _ fun v H2 e2 hv => ⟨n, hv.int_inv, RgOk.of_le (by omega) (by omega) (by omega) (by omega), fun p hp => q _ _ _ (e2.trans (Ex.new hp)) (fresh_back e2 hp) upd_same dps_rg⟩
/-! ### statements on fresh lists -/
variable {D : Ends} {tz : TS}
theorem qd_asgF {i : Nat} {ds : List PD} (h : EvF K te σ H ds) (k : ∀ p vs H1, H p = none → Ex H H1 → H1 p = some (.lst vs) → DpAll K H1 vs ds → tz D (σ.set i (some (.ref p))) H1) : tSeq (tAsg te (gName i)) tz D σ H := h H (Ex.refl H) _ fun b vs H1 e hb hl hv => k b vs H1 hb e hl hv
theorem sd_asgF {i : Nat} {ds : List PD} (h : EvF K te σ H ds) (k : ∀ p vs H1, H p = none → Ex H H1 → H1 p = some (.lst vs) → DpAll K H1 vs ds → D.nx (σ.set i (some (.ref p))) H1) : tAsg te (gName i) D σ H := h H (Ex.refl H) _ fun b vs H1 e hb hl hv => k b vs H1 hb e hl hv
theorem sd_ext {i : Nat} {l : Addr} {xs : List V} {ds : List PD} (hs : σ[i]? = some (some (.ref l))) (hl : H l = some (.lst xs)) (h : EvF K te σ H ds) (hz : xs.length + ds.length ≤ 100000) (k : ∀ vs H1, Ex H H1 → DpAll K H1 vs ds → D.nx σ (upd H1 l (.lst (xs ++ vs)))) :
    tDrop (tBM K "list" rExtend (tVar i) (tCons te tNil)) D σ H :=
  ⟨_, hs, Or.inl ⟨rfl, xs, sq_of hl⟩, h H (Ex.refl H) _ fun b vs H1 e1 hb hbl hv => ⟨l, b, xs, vs, rfl, rfl, e1 _ _ hl, hbl, sz_of (by rw [hv.length]; exact hz), k vs H1 e1 hv⟩⟩
theorem qd_ext {i : Nat} {l : Addr} {xs : List V} {ds : List PD} (hs : σ[i]? = some (some (.ref l))) (hl : H l = some (.lst xs)) (h : EvF K te σ H ds) (hz : xs.length + ds.length ≤ 100000) (k : ∀ vs H1, Ex H H1 → DpAll K H1 vs ds → tz D σ (upd H1 l (.lst (xs ++ vs)))) :
    tSeq (tDrop (tBM K "list" rExtend (tVar i) (tCons te tNil))) tz D σ H := sd_ext (D := { D with nx := tz D }) hs hl h hz k
theorem sd_app {i : Nat} {l : Addr} {xs : List V} {d : PD} (hs : σ[i]? = some (some (.ref l))) (hl : H l = some (.lst xs)) (h : EvD K te σ H d) (hz : xs.length < 100000) (k : ∀ v H1, Ex H H1 → Dp K H1 v d → D.nx σ (upd H1 l (.lst (xs ++ [v])))) :
    tDrop (tBM K "list" rAppend (tVar i) (tCons te tNil)) D σ H :=
  ⟨_, hs, Or.inl ⟨rfl, xs, sq_of hl⟩, h H (Ex.refl H) _ fun v H1 e1 hv => ⟨l, xs, v, rfl, rfl, e1 _ _ hl, sz_lt hz, k v H1 e1 hv⟩⟩
theorem qd_app {i : Nat} {l : Addr} {xs : List V} {d : PD} (hs : σ[i]? = some (some (.ref l))) (hl : H l = some (.lst xs)) (h : EvD K te σ H d) (hz : xs.length < 100000) (k : ∀ v H1, Ex H H1 → Dp K H1 v d → tz D σ (upd H1 l (.lst (xs ++ [v])))) :
    tSeq (tDrop (tBM K "list" rAppend (tVar i) (tCons te tNil))) tz D σ H := sd_app (D := { D with nx := tz D }) hs hl h hz k
/-- over a name -/
theorem ed_lcAN {vs : List Nat} {xs : List α} {f g : α → PD} {j : Nat} (hw : WkD K wi σ H (xs.map f)) (keep : α → Bool) (hl : xs.length ≤ 100000) (hf : ∀ a ∈ xs, tfr (g a) = true) (hwp : ∀ x, wipe ((wipe σ vs).set j (some x)) vs = wipe σ vs)
    (turn : ∀ H0, Ex H H0 → ∀ a, a ∈ xs → ∀ x, Dp K H0 x (f a) → EvTK K tt ((wipe σ vs).set j (some x)) H0 (keep a) ∧ (keep a = true → EvD K te ((wipe σ vs).set j (some x)) H0 (g a))) :
    EvD K (tLc wi (gName j) tt te vs) σ H (.list ((xs.filter keep).map g)) := ed_lcA hw keep hl hf fun H0 e d hd x hx Q q => q _ (hwp x) (turn H0 e d hd x hx).1 (turn H0 e d hd x hx).2
/-- .. without a test -/
theorem ed_lcAM {vs : List Nat} {xs : List α} {f g : α → PD} {j : Nat} (hw : WkD K wi σ H (xs.map f)) (hl : xs.length ≤ 100000) (hf : ∀ a ∈ xs, tfr (g a) = true) (hwp : ∀ x, wipe ((wipe σ vs).set j (some x)) vs = wipe σ vs)
    (turn : ∀ H0, Ex H H0 → ∀ a, a ∈ xs → ∀ x, Dp K H0 x (f a) → EvD K te ((wipe σ vs).set j (some x)) H0 (g a)) :
    EvD K (tLc wi (gName j) tYes te vs) σ H (.list (xs.map g)) := (ed_lcAN hw (fun _ => true) hl hf hwp fun H0 e d hd x hx => ⟨et_yes, fun _ => turn H0 e d hd x hx⟩).is (by rw [List.filter_eq_self.mpr fun _ _ => rfl])
/-- over a pair of names -/
theorem ed_lcAP {vs : List Nat} {xs : List α} {f1 f2 g : α → PD} {i j : Nat} (hw : WkD K wi σ H (xs.map fun a => pair2 (f1 a) (f2 a))) (keep : α → Bool) (hl : xs.length ≤ 100000) (hf : ∀ a ∈ xs, tfr (g a) = true) (hwp : ∀ x y, wipe (((wipe σ vs).set i (some x)).set j (some y)) vs = wipe σ vs)
    (turn : ∀ H0, Ex H H0 → ∀ a, a ∈ xs → ∀ x y, Dp K H0 x (f1 a) → Dp K H0 y (f2 a) → EvTK K tt (((wipe σ vs).set i (some x)).set j (some y)) H0 (keep a) ∧ (keep a = true → EvD K te (((wipe σ vs).set i (some x)).set j (some y)) H0 (g a))) :
    EvD K (tLc wi (gPair K i j) tt te vs) σ H (.list ((xs.filter keep).map g)) := ed_lcA hw keep hl hf fun H0 e a ha x hx Q q =>
  g_pair hx fun x1 x2 h1 h2 => q _ (hwp x1 x2) (turn H0 e a ha x1 x2 h1 h2).1 (turn H0 e a ha x1 x2 h1 h2).2
theorem ed_lcAPM {vs : List Nat} {xs : List α} {f1 f2 g : α → PD} {i j : Nat} (hw : WkD K wi σ H (xs.map fun a => pair2 (f1 a) (f2 a))) (hl : xs.length ≤ 100000) (hf : ∀ a ∈ xs, tfr (g a) = true) (hwp : ∀ x y, wipe (((wipe σ vs).set i (some x)).set j (some y)) vs = wipe σ vs)
    (turn : ∀ H0, Ex H H0 → ∀ a, a ∈ xs → ∀ x y, Dp K H0 x (f1 a) → Dp K H0 y (f2 a) → EvD K te (((wipe σ vs).set i (some x)).set j (some y)) H0 (g a)) :
    EvD K (tLc wi (gPair K i j) tYes te vs) σ H (.list (xs.map g)) := (ed_lcAP hw (fun _ => true) hl hf hwp fun H0 e d hd x y hx hy => ⟨et_yes, fun _ => turn H0 e d hd x y hx hy⟩).is (by rw [List.filter_eq_self.mpr fun _ _ => rfl])
/-! ### readings that name K (in a comprehension's block) -/
theorem op_catAK {X : Cx} {K0 : PySem.W.Frag} (h : X.K = K0) : OpR X (binaryOp .Add) (rCatA K0) := h ▸ op_catA
theorem ix_tupK {X : Cx} {K0 : PySem.W.Frag} (h : X.K = K0) : IxR X (rIxT K0) := h ▸ ix_tup
theorem ix_listK {X : Cx} {K0 : PySem.W.Frag} (h : X.K = K0) : IxR X (rIxL K0) := h ▸ ix_list
theorem pg_tupK {X : Cx} {K0 : PySem.W.Frag} {es : List Expr} {k : Nat} {t : TGs} {n : Nat} {pos : Pos} (h : X.K = K0) (hc : X.calm = true) (hp : PGs X es t)
    (hn : (assignEach es X.env).length = n := by rfl) (hst : (assignEach es X.env).findIdx? (·.1) = none := by rfl) : PG X (.Tuple es k pos) (gTup K0 n t) := h ▸ pg_tup hc hp hn hst
theorem pe_isiK {X : Cx} {K0 : PySem.W.Frag} (h : X.K = K0) {T : Str} {Tn : String} {a : Expr} {ta : TE} {p p2 pos : Pos} (hx : X.mg "isinstance" = none) (hT : X.mg T = none) (ha : PE X a ta) (hg : Gl X "isinstance" := by rfl) (hgT : Gl X T := by rfl) (hv : bootBuiltins T = some (.type Tn) := by decide +kernel) (hn : T ≠ "__name__" := by decide) (hd : (T == ("__debug__" : Str)) = false := by decide)
    (he : starEach [a, .Name T p2] X.env = (false, eval a X.env) :: starEach [.Name T p2] X.env := by rfl) (hpl : (backTo pos (starEach [.Name T p2] X.env)).any (·.1) = false := by rfl) :
    PE X (.Call (.Name "isinstance" p) [a, .Name T p2] [] pos) (tCB (rIsi K0) (tCons ta (tCons (tC (.ty Tn)) tNil))) := h ▸ pe_isi hx hT ha hg hgT hv hn hd he hpl
/-! ### walks that leave the heap, told on a ground G below it -/
variable {G : Hp} {tu : TS}
def WkV (K : PySem.W.Frag) (wi : TI) (σ : L2.St) (G : Hp) (ds : List PD) : Prop := ∀ H1, Ex G H1 → ∀ R : It → Hp → Prop, (∀ J, JD K J G ds → R J H1) → wi σ H1 R
theorem wv_list {i : Nat} {ds : List PD} (h : Sd K σ G i (.list ds)) : WkV K (iList K (tVar i)) σ G ds := fun H1 e R q => by
  obtain ⟨v, hs, hv⟩ := h
  obtain ⟨a, xs, rfl, hs', hx⟩ := hv.lst_inv
  exact ⟨_, hs, a, rfl, ⟨xs, ex_l e hs'⟩, q _ (jd_list hs' hx)⟩
theorem wv_tup {i : Nat} {ds : List PD} (h : Sd K σ G i (.tuple ds)) : WkV K (iTup K (tVar i)) σ G ds := fun H1 e R q => by
  obtain ⟨v, hs, hv⟩ := h
  obtain ⟨a, xs, rfl, hs', hx⟩ := hv.tup_inv
  exact ⟨_, hs, a, rfl, ⟨xs, ex_t e hs'⟩, q _ (jd_tup hs' hx)⟩
theorem wv_enumL {i : Nat} {ds : List PD} (h : Sd K σ G i (.list ds)) : WkV K (iEnum K (tCons (tVar i) tNil)) σ G (enumD ds) := fun H1 e R q => by
  obtain ⟨v, hs, hv⟩ := h
  obtain ⟨a, xs, rfl, hs', hx⟩ := hv.lst_inv
  exact ⟨_, hs, a, xs, rfl, ex_l e hs', q _ (jd_enumL hs' hx)⟩
theorem wv_range1 {n : Int} (h : Ev ta σ G (.int n)) (hn : -(2 ^ 62) ≤ n ∧ n < 2 ^ 62) (hp : ∀ H1 Q, Ex G H1 → Q (.int n) H1 → ta σ H1 Q) : WkV K (iRng1 (tCons ta tNil)) σ G (intD 0 n.toNat) := fun H1 e R q => hp H1 _ e ⟨n, rfl, hn.1, hn.2, q _ jd_range⟩
/-- for: what is leant on is G -/
theorem sd_forV {ds : List PD} (eG : Ex G H) (hw : WkV K wi σ G ds) (Pv : Nat → L2.St → Hp → Prop) (h0 : Pv 0 σ H)
    (turn : ∀ i d, ds[i]? = some d → ∀ σ' H', Ex G H' → Pv i σ' H' → ∀ x H1, Ex H' H1 → Dp K H1 x d → gg x σ' H1 fun σ2 H2 => tu { D with nx := nxt G Pv i, ct := nxt G Pv i, bk := D.nx } σ2 H2)
    (hd : ∀ σ' H', Ex G H' → Pv ds.length σ' H' → D.nx σ' H') : tFor wi gg tu D σ H := hw H eG _ fun J j => by
  refine ⟨fun i m σ' H' => m = ds.length - i ∧ i ≤ ds.length ∧ Ex G H' ∧ Pv i σ' H', ⟨ds.length, by simp, Nat.zero_le _, eG, h0⟩, ?_⟩
  rintro i m σ' H' ⟨rfl, hi, ee, p⟩
  by_cases hlt : i < ds.length
  · refine .inr ⟨j.go H' ee i hlt, nxt G Pv i, fun σ2 H2 q => ⟨ds.length - (i + 1), by omega, rfl, hlt, q⟩, fun x H2 y => ?_⟩
    obtain ⟨e2, d, hd', hdp⟩ := j.yld H' ee i x H2 hlt y
    exact turn i d hd' σ' H' ee p x H2 e2 hdp
  · have e : i = ds.length := by omega
    subst e
    exact .inl ⟨j.stop H' ee, hd σ' H' ee p⟩
theorem qd_forV {ds : List PD} (eG : Ex G H) (hw : WkV K wi σ G ds) (Pv : Nat → L2.St → Hp → Prop) (h0 : Pv 0 σ H)
    (turn : ∀ i d, ds[i]? = some d → ∀ σ' H', Ex G H' → Pv i σ' H' → ∀ x H1, Ex H' H1 → Dp K H1 x d → gg x σ' H1 fun σ2 H2 => tu { D with nx := nxt G Pv i, ct := nxt G Pv i, bk := tz D } σ2 H2)
    (hd : ∀ σ' H', Ex G H' → Pv ds.length σ' H' → tz D σ' H') : tSeq (tFor wi gg tu) tz D σ H := sd_forV (D := { D with nx := tz D }) eG hw Pv h0 turn hd
end
end K61
end

section
set_option Elab.async false
set_option linter.all false
set_option maxRecDepth 100000
set_option maxHeartbeats 4000000
namespace K61
open PySem PySem.Spec PyProof.Rows L2 Evl RZ
local macro_rules | `(tactic| walk_at "evs") => `(tactic| first
  | exact ed_int | exact ed_str | exact ed_bl | exact ed_non
  | exact ed_var ⟨_, rfl, by first | assumption | exact .int _ | exact .str _ | exact .bl _ | exact .non⟩
  | exact ed_top (W0.t_ZERO (by assumption)) | exact ed_top (W0.t_ONE (by assumption))
  | refine ed_I0 ?_ ?_ | refine ed_B0 ?_ ?_ | refine ed_I ?_ ?_ ?_
  | refine ed_call ?_ ?_ | refine eds_cons ?_ ?_ | exact eds_nil
  | ((apply ed_ixT); (focus (walk_at "ev"; done)); (focus (walk_at "ev"; done)); (focus (exact rfl)); done)
  | ((apply ed_ixL); (focus (walk_at "ev"; done)); (focus (walk_at "ev"; done)); (focus (exact rfl)); done)
  | refine ed_tup ?_ ?_ | refine ed_lst ?_ ?_
  | ((refine ed_lenL ?_); (walk_at "ev"); done) | ((refine ed_lenT ?_); (walk_at "ev"); done) | refine ed_lenS ?_ ?_
  | refine ed_abs ?_ | ((refine ed_intI ?_); (walk_at "ev"); done) | refine ed_intB ?_ | refine ed_isi ?_ ?_
  | ((refine ed_eqI ?_ ?_ <;> walk_at "ev"); done) | ((refine ed_eqS ?_ ?_ <;> walk_at "ev"); done) | refine ed_neS ?_ ?_
  | refine ed_eqD ?_ ?_ ?_ ?_ | refine ed_neD ?_ ?_ ?_ ?_ | refine ed_ltD ?_ ?_ ?_ ?_ ?_
  | refine ed_isN ?_ | refine ed_notN ?_
  | refine ed_chain ?_ ?_ ?_ | refine ed_not ?_ | refine ed_and ?_ ?_ | refine ed_or ?_ ?_
  | refine ed_catS ?_ ?_ ?_ | refine ed_catT ?_ ?_ ?_
  | refine etk_D ?_ | refine etk_DB ?_ | refine etk_not ?_ | refine etk_and ?_ ?_ | refine etk_or ?_ ?_
  | exact rfl | assumption | omega | refine (fun (_ : _ = true) => ?_) | refine (fun (_ : _ = false) => ?_))
local macro_rules | `(tactic| walk_at "ev") => `(tactic| (walk_at "evs" <;> (try walk_at "ev")))

section
variable {X : Cx}
theorem ip_mul : PIp X .Mult (fun x y H Q => ∃ i j, x = .int i ∧ y = .int j ∧ CMulW i j ∧ Q (.int (i * j)) H) := by
  intro pins s σ H x y v u Q I r1 r2 h
  obtain ⟨i, j, e1, e2, hc, q⟩ := h
  subst e1; subst e2
  obtain ⟨t, rfl⟩ := r1
  obtain ⟨t', rfl⟩ := r2
  exact imul_int ⟨.int _, H, I.tok _, ⟨_, rfl⟩, q⟩ hc.ok
end
section
variable {P : Program} {w : World} {K : PySem.W.Frag} {mg : Str → Option Value} {base : Heap}
/-- a tuple, a list of ints -/
def tI (ns : List Int) : PD := .tuple (ns.map PyData.int)
def lI (ns : List Int) : PD := .list (ns.map PyData.int)
theorem ed_neg {σ : L2.St} {H : Hp} {ta : TE} {i : Int} (h : EvD K ta σ H (.int i)) : EvD K (tUn (rU fun i => .int (-i)) ta) σ H (.int (-i)) := fun H1 e Q q => h H1 e _ fun v H2 e2 hv => ⟨i, hv.int_inv, q _ H2 e2 (.int _)⟩
theorem etk_chain {g g' : Int → Int → Bool} {σ : L2.St} {H : Hp} {ta tb tc : TE} {i j k : Int} (ha : EvD K ta σ H (.int i)) (hb : EvD K tb σ H (.int j)) (hc : EvD K tc σ H (.int k)) : EvTK K (tTest (tChain (rI0 fun i j => .bl (g i j)) (rI0 fun i j => .bl (g' i j)) ta tb tc)) σ H (g i j && g' j k) := etk_D (ed_chain ha hb hc)
theorem tfr_tI {ns : List Int} : tfr (tI ns) = true := by
  unfold tI
  rw [tfr]
  exact tfrs_mem fun d hd => by obtain ⟨n, _, rfl⟩ := List.mem_map.mp hd; rfl
/-! ### is_lot -/
def R_is_lot (ds : List PD) (d : PD) : Prop := ∃ (ns : List Int) (m : Int), (ns = [] ∨ ns = [0]) ∧ 0 < m ∧ ds = [tI ns, .int m] ∧ d = .bool true
abbrev sp_is_lot (K : PySem.W.Frag) : Sp := spD K R_is_lot
theorem pu_is_lot {ns : List Int} {m : Int} (h : ns = [] ∨ ns = [0]) (h2 : 0 < m) : Pure K (sp_is_lot K) [tI ns, .int m] (.bool true) := spD_pure ⟨_, _, h, h2, rfl, rfl⟩
theorem sc_is_lot : FnScope ["thing", "many", "last", "number"] ["thing", "many"] (defScope (top 3)) := ⟨rfl, rfl, rfl, by decide +kernel, rfl, by decide +kernel, by decide +kernel⟩
theorem ok_is_lot (C : W0 P w K mg base) : Cl P w K mg base 3 "is_lot" ["thing", "many"] (sp_is_lot K) := by
  have o_is_within := ok_is_within C
  refine Cl.of C.f_is_lot C.g_is_lot sc_is_lot (fun _ _ _ _ _ _ us hl => match us, hl with | [_, _], _ => rfl) (fun vs H Q E h => by obtain ⟨ds, d, ⟨ns, m, _, _, rfl, rfl⟩, hd, _⟩ := h; exact hd.length) fun cdv A outer s H vs Q E hr h => ?_
  obtain ⟨_, _, ⟨ns, m, hns, hm, rfl, rfl⟩, hd, k⟩ := h
  obtain ⟨x, y, rfl, h0, h1⟩ := hd.two_inv
  have h0 : Dp K H x (.tuple (ns.map PyData.int)) := h0
  refine ⟨_, (pss_cons (ps_if (pt_not (pt_val (pe_isi (Tn := "tuple") C.n_isinstance C.n_tuple (pv 0)))) (pss_one (ps_ret pe_bl)) pss_nil)
      (pss_cons (ps_set (i := 2) sc_is_lot.nd rfl (Or.inl rfl) (pe_un un_neg pe_int))
      (pss_cons (ps_for PassesOwn.never rfl (pi_tup (pv 0)) (pg_name (i := 3) sc_is_lot.nd rfl (Or.inl rfl)) (pss_cons (ps_if (pt_not (pt_val (pe_cl o_is_within hr (by decide) rfl (pa_cons (pv 3) (pa_cons (pe_op op_add (pv 2) pe_int) (pa_cons (pe_op op_sub (pv 1) pe_int) pa_nil)))))) (pss_one (ps_ret pe_bl)) pss_nil)
      (pss_one (ps_set (i := 2) sc_is_lot.nd rfl (Or.inl rfl) (pv 3)))))
      (pss_one (ps_ret pe_bl))))), ?_⟩
  refine kq_skip K (etk_not (a := true) (etk_D (ed_isi (d := .tuple _) (ed_var ⟨_, rfl, h0⟩) k_tt))) fun H1 e1 => ?_
  have h0 := h0.ex e1
  have h1 := h1.ex e1
  refine qd_asg (K := K) (d := .int (-1)) (ed_neg ed_int) fun v2 H2 e2 h2 => ?_
  have h0 := h0.ex e2
  have h1 := h1.ex e2
  refine qd_for (wk_tup (ed_var ⟨_, rfl, h0⟩)) (fun i σ' H' => ∃ u z, σ' = [some x, some y, some u, z] ∧ Dp K H' u (.int (if i = 0 then -1 else 0))) (fun H3 e3 => ⟨_, _, rfl, h2.ex e3⟩) ?_ ?_
  · rintro H0 e0 i d hd σ' H' e3 ⟨u, z, rfl, hu⟩ q H4 e4 hq
    rw [List.getElem?_map] at hd
    obtain ⟨n, hn, rfl⟩ := Option.map_eq_some_iff.mp hd
    have hn0 : i = 0 ∧ n = 0 := by
      rcases hns with rfl | rfl
      · simp at hn
      · obtain ⟨hi, e⟩ := List.getElem?_eq_some_iff.mp hn
        have : i = 0 := by simpa using hi
        subst this
        exact ⟨rfl, by simpa using e.symm⟩
    obtain ⟨rfl, rfl⟩ := hn0
    have hu := hu.ex e4
    have h1 := h1.ex ((e0.trans e3).trans e4)
    refine kq_skip K (etk_not (a := true) (etk_D ((ed_call (eds_cons (d := .int 0) (by walk_at "ev") (eds_cons (d := .int (-1 + 1)) (ed_I0 (by walk_at "ev") (by walk_at "ev")) (eds_cons (d := .int (m - 1)) (by walk_at "ev") eds_nil))) pu_is_within).is (by rw [decide_eq_true (show (-1 + 1 : Int) ≤ 0 by omega), decide_eq_true (show (0 : Int) ≤ m - 1 by omega)]; rfl)))) fun H5 e5 => ?_
    refine sd_asg (K := K) (d := .int 0) (ed_var ⟨_, rfl, hq.ex e5⟩) fun v H6 e6 hv => ⟨((e3.trans e4).trans e5).trans e6, _, _, rfl, hv⟩
  · rintro σ' H' e3 _
    exact sd_ret (K := K) (d := .bool true) ed_bl fun v H4 e4 hv => k v H4 (((e1.trans e2).trans e3).trans e4) hv
/-! ### is_sizes -/
def okSizes (ns : List Int) : Prop := ns = [2] ∨ ns = [3] ∨ ns = [2, 2]
theorem okSizes.mem {ns : List Int} (h : okSizes ns) {n : Int} (hn : n ∈ ns) : 2 ≤ n ∧ n ≤ 3 := by
  rcases h with rfl | rfl | rfl <;> simp at hn <;> omega
def R_is_sizes (ds : List PD) (d : PD) : Prop := ∃ ns : List Int, okSizes ns ∧ ds = [tI ns] ∧ d = .bool true
abbrev sp_is_sizes (K : PySem.W.Frag) : Sp := spD K R_is_sizes
theorem pu_is_sizes {ns : List Int} (h : okSizes ns) : Pure K (sp_is_sizes K) [tI ns] (.bool true) := spD_pure ⟨_, h, rfl, rfl⟩
def prodI (ns : List Int) : Int := ns.foldl (· * ·) 1
theorem sc_is_sizes : FnScope ["thing", "size", "product"] ["thing"] (defScope (top 23)) := ⟨rfl, rfl, rfl, by decide +kernel, rfl, by decide +kernel, by decide +kernel⟩
theorem ok_is_sizes (C : W0 P w K mg base) : Cl P w K mg base 3 "is_sizes" ["thing"] (sp_is_sizes K) := by
  have o_is_within := ok_is_within C
  refine Cl.of C.f_is_sizes C.g_is_sizes sc_is_sizes (fun _ _ _ _ _ _ us hl => match us, hl with | [_], _ => rfl) (fun vs H Q E h => by obtain ⟨ds, d, ⟨ns, _, rfl, rfl⟩, hd, _⟩ := h; exact hd.length) fun cdv A outer s H vs Q E hr h => ?_
  obtain ⟨_, _, ⟨ns, hns, rfl, rfl⟩, hd, k⟩ := h
  obtain ⟨x, rfl, h0⟩ := hd.one_inv
  have h0 : Dp K H x (.tuple (ns.map PyData.int)) := h0
  have hl : 1 ≤ ns.length ∧ ns.length ≤ 2 := by rcases hns with rfl | rfl | rfl <;> simp
  refine ⟨_, (pss_cons (ps_if (PW.pt (pw_or (pt_not (pt_val (pe_isi (Tn := "tuple") C.n_isinstance C.n_tuple (pv 0)))) (pw_or1 (pt_not (pt_chain op_le op_le pe_int (pe_callB call_len_seq (by rfl) C.n_len (by decide +kernel) (pa_cons (pv 0) pa_nil)) (C8.pe_gc rfl C.c_MOST_COLUMNS)))))) (pss_one (ps_ret pe_bl)) pss_nil)
      (pss_cons (ps_if (pt_not (pt_val (pe_callB (cr_all rfl) (by rfl) C.n_all (by decide +kernel) (pa_cons (pe_lc (own := [("size", 1)]) rfl sc_is_sizes.nd (pi_tup (pv 0)) (blkOk_by (N := ["thing", "size", "product"]) (sc := (defScope (top 23))) (own := [("size", 1)]) (by decide +kernel)) (fun _ _ _ _ _ => (pg_name (i := 1) sc_is_sizes.nd rfl (Or.inl rfl))) (fun _ _ _ _ _ => pts_nil) (fun _ _ _ _ _ => (pe_cl o_is_within hr (by decide) rfl (pa_cons (pv 1) (pa_cons pe_int (pa_cons (C8.pe_gc rfl C.c_MOST_WORTHS) pa_nil)))))) pa_nil)))) (pss_one (ps_ret pe_bl)) pss_nil)
      (pss_cons (ps_set (i := 2) sc_is_sizes.nd rfl (Or.inl rfl) pe_int)
      (pss_cons (ps_for PassesOwn.never rfl (pi_tup (pv 0)) (pg_name (i := 1) sc_is_sizes.nd rfl (Or.inl rfl)) (pss_one (ps_aug (i := 2) sc_is_sizes.nd rfl (Or.inl rfl) (pv 1) ip_mul)))
      (pss_one (ps_ret (pe_cmpR op_le (pv 2) (C8.pe_gc rfl C.c_MOST_CONTENTS) (nomark _)))))))), ?_⟩
  refine kq_skip K (etk_or (a := false) (b := false) (etk_not (a := true) (etk_D (ed_isi (d := .tuple _) (ed_var ⟨_, rfl, h0⟩) k_tt))) fun _ => ?_) fun H1 e1 => ?_
  · refine etk_not (a := true) (EvTK.is (a := decide ((1 : Int) ≤ ((ns.map PyData.int).length : Int)) && decide (((ns.map PyData.int).length : Int) ≤ 4)) ?_ (by rw [List.length_map, decide_eq_true (by omega), decide_eq_true (by omega)]; rfl))
    exact etk_chain (by walk_at "ev") (by walk_at "ev") (by walk_at "ev")
  have h0 := h0.ex e1
  refine kq_skip K (etk_not (a := true) (etk_D ((ed_all (bs := ns.map fun _ => true) ((ed_lcAM (xs := ns) (f := PyData.int) (g := fun _ => .bool true) (wk_tup (ed_var ⟨_, rfl, h0⟩)) (by omega) (fun _ _ => rfl) (fun _ => rfl) fun H2 e2 n hn v hv => ?_).is (by rw [List.map_map]; rfl))).is (by
    have : (ns.map fun _ => true).all id = true := by rw [List.all_eq_true]; intro b hb; obtain ⟨_, _, rfl⟩ := List.mem_map.mp hb; rfl
    rw [this])))) fun H1' e1' => ?_
  · have hb := hns.mem hn
    exact (ed_call (eds_cons (d := .int n) (ed_var ⟨_, rfl, hv⟩) (eds_cons (d := .int 2) (by walk_at "ev") (eds_cons (d := .int 4) (by walk_at "ev") eds_nil))) pu_is_within).is (by rw [decide_eq_true (by omega), decide_eq_true (by omega)]; rfl)
  have h0 := h0.ex e1'
  refine qd_asg (K := K) (d := .int 1) ed_int fun v2 H2 e2 h2 => ?_
  have h0 := h0.ex e2
  refine qd_for (wk_tup (ed_var ⟨_, rfl, h0⟩)) (fun i σ' H' => ∃ z u, σ' = [some x, z, some u] ∧ Dp K H' u (.int (prodI (ns.take i)))) (fun H3 e3 => ⟨_, _, rfl, h2.ex e3⟩) ?_ ?_
  · rintro H0 e0 i d hd σ' H' e3 ⟨z, u, rfl, hu⟩ q H4 e4 hq
    rw [List.getElem?_map] at hd
    obtain ⟨n, hn, rfl⟩ := Option.map_eq_some_iff.mp hd
    have hb := hns.mem (List.mem_of_getElem? hn)
    have hu' := hu.int_inv
    have hq' := hq.int_inv
    subst hu' hq'
    refine ⟨_, rfl, ?_⟩
    refine ⟨_, rfl, prodI (ns.take i), n, rfl, rfl, ?_, e3.trans e4, _, _, rfl, ?_⟩
    · have hp : (prodI (ns.take i)).natAbs < 2 ^ 1000 := by
        have h3 : (prodI (ns.take i)).natAbs ≤ 16 := by
          rcases hns with rfl | rfl | rfl <;> (match i with | 0 => decide | 1 => decide | 2 => decide | _ + 3 => simp [prodI])
        exact Nat.lt_of_le_of_lt h3 (by decide)
      exact wide_mul (a := 1000) (b := 1000) hp (Nat.lt_of_le_of_lt (show n.natAbs ≤ 16 by omega) (by decide)) (by decide) (by decide) (by decide)
    · obtain ⟨hi, rfl⟩ := List.getElem?_eq_some_iff.mp hn
      have e : prodI (ns.take (i + 1)) = prodI (ns.take i) * ns[i] := by
        rw [List.take_succ_eq_append_getElem hi]; unfold prodI; rw [List.foldl_append]; rfl
      rw [e]
      exact .int _
  · rintro σ' H' e3 ⟨z, u, rfl, hu⟩
    refine sd_ret (K := K) (d := .bool true) ?_ fun v H4 e4 hv => k v H4 (e1.trans (e1'.trans (e2.trans (e3.trans e4)))) hv
    rw [List.length_map, List.take_length] at hu
    have hu' := hu.int_inv
    subst hu'
    refine EvD.is (ed_B0 (i := prodI ns) (j := 64) (by walk_at "ev") (by walk_at "ev")) ?_
    rcases hns with rfl | rfl | rfl <;> rfl
end
end K61
end

section
set_option Elab.async false
set_option linter.all false
set_option maxRecDepth 100000
set_option maxHeartbeats 4000000
namespace K61
open PySem PySem.Spec PyProof.Rows L2 Evl RZ
local macro_rules | `(tactic| walk_at "evs") => `(tactic| first
  | exact ed_int | exact ed_str | exact ed_bl | exact ed_non
  | exact ed_var ⟨_, rfl, by first | assumption | exact .int _ | exact .str _ | exact .bl _ | exact .non⟩
  | exact ed_top (W0.t_ZERO (by assumption)) | exact ed_top (W0.t_ONE (by assumption))
  | refine ed_I0 ?_ ?_ | refine ed_B0 ?_ ?_ | refine ed_I ?_ ?_ ?_
  | refine ed_call ?_ ?_ | refine eds_cons ?_ ?_ | exact eds_nil
  | ((apply ed_ixT); (focus (walk_at "ev"; done)); (focus (walk_at "ev"; done)); (focus (exact rfl)); done)
  | ((apply ed_ixL); (focus (walk_at "ev"; done)); (focus (walk_at "ev"; done)); (focus (exact rfl)); done)
  | refine ed_tup ?_ ?_ | refine ed_lst ?_ ?_
  | ((refine ed_lenL ?_); (walk_at "ev"); done) | ((refine ed_lenT ?_); (walk_at "ev"); done) | refine ed_lenS ?_ ?_
  | refine ed_abs ?_ | ((refine ed_intI ?_); (walk_at "ev"); done) | refine ed_intB ?_ | refine ed_isi ?_ ?_
  | ((refine ed_eqI ?_ ?_ <;> walk_at "ev"); done) | ((refine ed_eqS ?_ ?_ <;> walk_at "ev"); done) | refine ed_neS ?_ ?_
  | refine ed_eqD ?_ ?_ ?_ ?_ | refine ed_neD ?_ ?_ ?_ ?_ | refine ed_ltD ?_ ?_ ?_ ?_ ?_
  | refine ed_isN ?_ | refine ed_notN ?_
  | refine ed_chain ?_ ?_ ?_ | refine ed_not ?_ | refine ed_and ?_ ?_ | refine ed_or ?_ ?_
  | refine ed_catS ?_ ?_ ?_ | refine ed_catT ?_ ?_ ?_
  | refine etk_D ?_ | refine etk_DB ?_ | refine etk_not ?_ | refine etk_and ?_ ?_ | refine etk_or ?_ ?_
  | exact rfl | assumption | omega | refine (fun (_ : _ = true) => ?_) | refine (fun (_ : _ = false) => ?_))
local macro_rules | `(tactic| walk_at "ev") => `(tactic| (walk_at "evs" <;> (try walk_at "ev")))

section
variable {P : Program} {w : World} {K : PySem.W.Frag} {mg : Str → Option Value} {base : Heap}
/-! ### is_content -/
def okContent (ss ws : List Int) : Prop := ss.length = ws.length ∧ ss.length ≤ 100 ∧ ∀ p ∈ ws.zip ss, 0 ≤ p.1 ∧ p.1 < p.2
def R_is_content (ds : List PD) (d : PD) : Prop := ∃ ss ws : List Int, okContent ss ws ∧ ds = [tI ss, tI ws] ∧ d = .bool true
abbrev sp_is_content (K : PySem.W.Frag) : Sp := spD K R_is_content
theorem pu_is_content {ss ws : List Int} (h : okContent ss ws) : Pure K (sp_is_content K) [tI ss, tI ws] (.bool true) := spD_pure ⟨_, _, h, rfl, rfl⟩
theorem zip_ints {ss ws : List Int} : List.zipWith pair2 (ws.map PyData.int) (ss.map PyData.int) = (ws.zip ss).map fun p => pair2 (.int p.1) (.int p.2) := by
  induction ws generalizing ss with
  | nil => rfl
  | cons w ws ih => cases ss with
    | nil => rfl
    | cons s ss => simp only [List.map_cons, List.zipWith_cons_cons, List.zip_cons_cons, ih]
theorem sc_is_content : FnScope ["sizes", "thing", "worth", "size"] ["sizes", "thing"] (defScope (top 24)) := ⟨rfl, rfl, rfl, by decide +kernel, rfl, by decide +kernel, by decide +kernel⟩
theorem ok_is_content (C : W0 P w K mg base) : Cl P w K mg base 3 "is_content" ["sizes", "thing"] (sp_is_content K) := by
  have o_is_within := ok_is_within C
  refine Cl.of C.f_is_content C.g_is_content sc_is_content (fun _ _ _ _ _ _ us hl => match us, hl with | [_, _], _ => rfl) (fun vs H Q E h => by obtain ⟨ds, d, ⟨_, _, _, rfl, rfl⟩, hd, _⟩ := h; exact hd.length) fun cdv A outer s H vs Q E hr h => ?_
  obtain ⟨_, _, ⟨ss, ws, ⟨hl, hl2, hok⟩, rfl, rfl⟩, hd, k⟩ := h
  obtain ⟨x, y, rfl, h0, h1⟩ := hd.two_inv
  have h0 : Dp K H x (.tuple (ss.map PyData.int)) := h0
  have h1 : Dp K H y (.tuple (ws.map PyData.int)) := h1
  refine ⟨_, (pss_cons (ps_if (PW.pt (pw_or (pt_not (pt_val (pe_isi (Tn := "tuple") C.n_isinstance C.n_tuple (pv 1)))) (pw_or1 (pt_cmpR op_ne (pe_callB call_len_seq (by rfl) C.n_len (by decide +kernel) (pa_cons (pv 1) pa_nil)) (pe_callB call_len_seq (by rfl) C.n_len (by decide +kernel) (pa_cons (pv 0) pa_nil)) (nomark _))))) (pss_one (ps_ret pe_bl)) pss_nil)
      (pss_one (ps_ret (pe_callB (cr_all rfl) (by rfl) C.n_all (by decide +kernel) (pa_cons (pe_lc (own := [("worth", 2), ("size", 3)]) rfl sc_is_content.nd (RZ.pi_zipA (by rfl) C.n_zip (pa_cons (pv 1) (pa_cons (pv 0) pa_nil))) (blkOk_by (N := ["sizes", "thing", "worth", "size"]) (sc := (defScope (top 24))) (own := [("worth", 2), ("size", 3)]) (by decide +kernel)) (fun _ _ _ _ _ => (pg_tupK (K0 := K) (n := 2) rfl rfl (pgs_cons (pg_name (i := 2) sc_is_content.nd rfl (Or.inl rfl)) (pgs_cons (pg_name (i := 3) sc_is_content.nd rfl (Or.inl rfl)) pgs_nil)))) (fun _ _ _ _ _ => pts_nil) (fun _ _ _ _ _ => (pe_cl o_is_within hr (by decide) rfl (pa_cons (pv 2) (pa_cons pe_int (pa_cons (pe_op op_sub (pv 3) pe_int) pa_nil)))))) pa_nil))))), ?_⟩
  refine kq_skip K (etk_or (a := false) (b := false) (etk_not (a := true) (etk_D (ed_isi (d := .tuple _) (ed_var ⟨_, rfl, h1⟩) k_tt))) fun _ => etk_D ((ed_ne (.int _) (.int _) (ed_lenT (ed_var ⟨_, rfl, h1⟩)) (ed_lenT (ed_var ⟨_, rfl, h0⟩)) rfl).is (by rw [List.length_map, List.length_map, hl]; simp))) fun H1 e1 => ?_
  have h0 := h0.ex e1
  have h1 := h1.ex e1
  refine sd_ret (K := K) (d := .bool ((((ws.zip ss).map fun _ => true)).all id)) (ed_all ((ed_lcAPM (xs := ws.zip ss) (f1 := fun p => .int p.1) (f2 := fun p => .int p.2) (g := fun _ => .bool true) ?_ ?_ (fun _ _ => rfl) (fun _ _ => rfl) ?_).is (by rw [List.map_map]; rfl))) fun v H2 e2 hv => k v H2 (e1.trans e2) (by
    have : ((ws.zip ss).map fun _ => true).all id = true := by rw [List.all_eq_true]; intro b hb; obtain ⟨_, _, rfl⟩ := List.mem_map.mp hb; rfl
    rw [this] at hv
    exact hv)
  · have := wk_zipT (K := K) (ed_var (K := K) (σ := L2.start ["sizes", "thing", "worth", "size"] [x, y]) (i := 1) ⟨_, rfl, h1⟩) (ed_var (i := 0) ⟨_, rfl, h0⟩) (by rw [List.length_map, List.length_map, hl])
    rw [zip_ints] at this
    exact this
  · rw [List.length_zip]; omega
  · intro H2 e2 p hp u v hu hv
    obtain ⟨b1, b2⟩ := hok p hp
    exact (ed_call (eds_cons (d := .int p.1) (ed_var ⟨_, rfl, hu⟩) (eds_cons (d := .int 0) ed_int (eds_cons (d := .int (p.2 - 1)) (ed_I0 (ed_var ⟨_, rfl, hv⟩) ed_int) eds_nil))) pu_is_within).is (by rw [decide_eq_true b1, decide_eq_true (by omega)]; rfl)
/-! ### tuples_of -/
def extI (row : List Int) (front : List Int) : List (List Int) := row.map fun item => front ++ [item]
def stepI (found : List (List Int)) (row : List Int) : List (List Int) := found.flatMap (extI row)
def tuplesI (rows : List (List Int)) : List (List Int) := rows.foldl stepI [[]]
theorem tuplesI_snoc {rows : List (List Int)} {row : List Int} : tuplesI (rows ++ [row]) = stepI (tuplesI rows) row := by unfold tuplesI; rw [List.foldl_append]; rfl
structure okRows (rows : List (List Int)) : Prop where
  a : ∀ row ∈ rows, row.length ≤ 100
  b : ∀ i, (tuplesI (rows.take i)).length ≤ 100
  c : ∀ i, ∀ f ∈ tuplesI (rows.take i), f.length ≤ 100
def R_tuples_of (ds : List PD) (d : PD) : Prop := ∃ rows : List (List Int), okRows rows ∧ ds = [.list (rows.map lI)] ∧ d = .list ((tuplesI rows).map tI)
abbrev sp_tuples_of (K : PySem.W.Frag) : Sp := spD K R_tuples_of
theorem pu_tuples_of {rows : List (List Int)} (h : okRows rows) : Pure K (sp_tuples_of K) [.list (rows.map lI)] (.list ((tuplesI rows).map tI)) := spD_pure ⟨_, h, rfl, rfl⟩
theorem flat_len {found : List (List Int)} {row : List Int} : (stepI found row).length = found.length * row.length := by
  unfold stepI
  induction found with
  | nil => simp
  | cons a l ih => rw [List.flatMap_cons, List.length_append, ih, List.length_cons, extI, List.length_map, Nat.add_mul]; omega
theorem sc_tuples_of : FnScope ["rows", "found", "row", "longer", "front", "item"] ["rows"] (defScope (top 25)) := ⟨rfl, rfl, rfl, by decide +kernel, rfl, by decide +kernel, by decide +kernel⟩
theorem ok_tuples_of (C : W0 P w K mg base) : Cl P w K mg base 1 "tuples_of" ["rows"] (sp_tuples_of K) := by
  refine Cl.of C.f_tuples_of C.g_tuples_of sc_tuples_of (fun _ _ _ _ _ _ us hl => match us, hl with | [_], _ => rfl) (fun vs H Q E h => by obtain ⟨ds, d, ⟨_, _, rfl, rfl⟩, hd, _⟩ := h; exact hd.length) fun cdv A outer s H vs Q E hr h => ?_
  obtain ⟨_, _, ⟨rows, hok, rfl, rfl⟩, hd, k⟩ := h
  obtain ⟨x, rfl, h0⟩ := hd.one_inv
  refine ⟨_, (pss_cons (ps_set (i := 1) sc_tuples_of.nd rfl (Or.inl rfl) (pe_lst (pa_cons (pe_tup pa_nil) pa_nil)))
      (pss_cons (ps_for PassesOwn.never rfl (pi_list (pv 0)) (pg_name (i := 2) sc_tuples_of.nd rfl (Or.inl rfl)) (pss_cons (ps_set (i := 3) sc_tuples_of.nd rfl (Or.inl rfl) (pe_lst pa_nil))
      (pss_cons (ps_for PassesOwn.never rfl (pi_list (pv 1)) (pg_name (i := 4) sc_tuples_of.nd rfl (Or.inr rfl)) (pss_one (ps_expr (pe_bm PySem.F.plainAttrs_list PySem.F.slot_list_extend PySem.F.type_list_extend mt_extend (pv 3) (pa_cons (pe_lc (own := [("item", 5)]) rfl sc_tuples_of.nd (pi_list (pv 2)) (blkOk_by (N := ["rows", "found", "row", "longer", "front", "item"]) (sc := (defScope (top 25))) (own := [("item", 5)]) (by decide +kernel)) (fun _ _ _ _ _ => (pg_name (i := 5) sc_tuples_of.nd rfl (Or.inl rfl))) (fun _ _ _ _ _ => pts_nil) (fun _ _ _ _ _ => (pe_op (op_catAK (K0 := K) rfl) (pv 4) (pe_tup (pa_cons (pv 5) pa_nil))))) pa_nil)))))
      (pss_one (ps_set (i := 1) sc_tuples_of.nd rfl (Or.inl rfl) (pv 3))))))
      (pss_one (ps_ret (pv 1))))), ?_⟩
  refine qd_asg (K := K) (d := .list ((tuplesI (rows.take 0)).map tI)) (ed_lst (eds_cons (ed_tup eds_nil (by decide)) eds_nil) (show 1 ≤ 100000 by decide)) fun v1 H1 e1 h1 => ?_
  have h0 := h0.ex e1
  refine qd_for (wk_list (ed_var ⟨_, rfl, h0⟩)) (fun i σ' H' => ∃ u z1 z2 z3 , σ' = [some x, some u, z1, z2, z3, none] ∧ Dp K H' u (.list ((tuplesI (rows.take i)).map tI))) (fun H2 e2 => ⟨_, _, _, _, rfl, h1.ex e2⟩) ?_ ?_
  · rintro H0 e0 i d hd σ' H' e2 ⟨u, z1, z2, z3, rfl, hu⟩ q G e3 hq
    rw [List.getElem?_map] at hd
    obtain ⟨row, hrow, rfl⟩ := Option.map_eq_some_iff.mp hd
    have hrl := hok.a row (List.mem_of_getElem? hrow)
    have hfl := hok.b i
    have hfc := hok.c i
    have hu := hu.ex e3
    generalize hfe : tuplesI (rows.take i) = found at hu hfl hfc
    refine qd_asgF (K := K) (ds := []) (ef_lst eds_nil (by simp)) fun p vs H2 hp e4 hpl hvs => ?_
    cases hvs
    refine qd_forV (K := K) (G := G) (ds := found.map tI) e4 (wv_list ⟨_, rfl, hu⟩) (fun j σ' H' => ∃ z, σ' = [some x, some u, some q, some (.ref p), z, none] ∧ ∃ acc, H' p = some (.lst acc) ∧ DpAll K H' acc ((stepI (found.take j) row).map tI)) ⟨_, rfl, [], hpl, .nil⟩ ?_ ?_
    · rintro j d2 hd2 σ2 H3 e5 ⟨z, rfl, acc, ha, hacc⟩ fr H4 e6 hfr
      rw [List.getElem?_map] at hd2
      obtain ⟨front, hfront, rfl⟩ := Option.map_eq_some_iff.mp hd2
      have hfm := hfc front (List.mem_of_getElem? hfront)
      have hal : acc.length ≤ 10000 := by
        rw [hacc.length, List.length_map, flat_len, List.length_take]
        exact Nat.mul_le_mul (show min j found.length ≤ 100 by omega) hrl
      have hq5 := hq.ex (e5.trans e6)
      refine sd_ext (K := K) (ds := (extI row front).map tI) rfl (e6 _ _ ha) ?_ (by rw [List.length_map, extI, List.length_map]; omega) fun vs H5 e7 hvs => ⟨Ex.mut ((e5.trans e6).trans e7) hp, ?_⟩
      · refine (ef_lcAM (xs := row) (f := PyData.int) (g := fun item => tI (front ++ [item])) (wk_list (ed_var ⟨_, rfl, hq5⟩)) (by omega) (fun _ _ => tfr_tI) (fun _ => rfl) fun H6 e8 item hitem v hv => ?_).is (by unfold extI; rw [List.map_map]; rfl)
        have := ed_catT (K := K) (xs := front.map PyData.int) (ys := [.int item]) (ed_var (σ := [some x, some u, some q, some (.ref p), some fr, some v]) (i := 4) ⟨_, rfl, (hfr.ex e8 : Dp K H6 fr (tI front))⟩) (ed_tup (eds_cons (ed_var (i := 5) ⟨_, rfl, hv⟩) eds_nil) (by simp)) (by rw [List.length_map]; simp; omega)
        exact this.is (by unfold tI; rw [List.map_append]; rfl)
      · refine ⟨_, rfl, acc ++ vs, upd_same, ?_⟩
        obtain ⟨hj, hjf⟩ := List.getElem?_eq_some_iff.mp hfront
        have e : stepI (found.take (j + 1)) row = stepI (found.take j) row ++ extI row front := by
          rw [List.take_succ_eq_append_getElem hj, hjf]; unfold stepI; rw [List.flatMap_append]; simp
        rw [e, List.map_append]
        have tx : Tx H5 (L2.upd H5 p (.lst (acc ++ vs))) := Tx.updL (e7 _ _ (e6 _ _ ha))
        have hm : ∀ l : List (List Int), tfrs (l.map tI) = true := fun l => tfrs_mem fun d hd => by obtain ⟨_, _, rfl⟩ := List.mem_map.mp hd; exact tfr_tI
        exact (dps_tx tx (hm _) (hacc.ex (e6.trans e7))).app (dps_tx tx (hm _) hvs)
    · rintro σ2 H3 e5 ⟨z, rfl, acc, ha, hacc⟩
      rw [List.length_map, List.take_length] at hacc
      refine sd_asg (K := K) (d := .list ((stepI found row).map tI)) (ed_var ⟨_, rfl, .lst (sq_of ha) hacc⟩) fun v H4 e6 hv => ⟨(((e2.trans e3).trans e5).trans e6), _, _, _, _, rfl, ?_⟩
      obtain ⟨hi, hie⟩ := List.getElem?_eq_some_iff.mp hrow
      rw [List.take_succ_eq_append_getElem hi, hie, tuplesI_snoc, hfe]
      exact hv
  · rintro σ' H' e2 ⟨u, z1, z2, z3, rfl, hu⟩
    rw [List.length_map, List.take_length] at hu
    exact sd_ret (K := K) (ed_var ⟨_, rfl, hu⟩) fun v H2 e3 hv => k v H2 (e1.trans (e2.trans e3)) hv
/-! ### contents_of -/
def rgI (n : Int) : List Int := (List.range n.toNat).map fun i => ((i : Nat) : Int)
def contentsI (ns : List Int) : List (List Int) := tuplesI (ns.map rgI)
theorem okSizes.rows {ns : List Int} (h : okSizes ns) : okRows (ns.map rgI) := by
  have hh : ∀ i, (tuplesI ((ns.map rgI).take i)).length ≤ 100 ∧ ∀ f ∈ tuplesI ((ns.map rgI).take i), f.length ≤ 100 := by
    intro i
    rcases h with rfl | rfl | rfl <;> (match i with | 0 => decide | 1 => decide | 2 => decide | _ + 3 => rw [List.take_of_length_le (by simp)]; decide)
  exact ⟨by rcases h with rfl | rfl | rfl <;> decide, fun i => (hh i).1, fun i => (hh i).2⟩
theorem intD_rg {n : Int} : PyData.list (intD 0 n.toNat) = lI (rgI n) := by
  unfold intD lI rgI
  rw [List.map_map]
  congr 1
  exact List.map_congr_left fun i _ => by simp
def R_contents_of (ds : List PD) (d : PD) : Prop := ∃ ns : List Int, okSizes ns ∧ ds = [tI ns] ∧ d = .list ((contentsI ns).map tI)
abbrev sp_contents_of (K : PySem.W.Frag) : Sp := spD K R_contents_of
theorem pu_contents_of {ns : List Int} (h : okSizes ns) : Pure K (sp_contents_of K) [tI ns] (.list ((contentsI ns).map tI)) := spD_pure ⟨_, h, rfl, rfl⟩
theorem sc_contents_of : FnScope ["sizes", "size"] ["sizes"] (defScope (top 26)) := ⟨rfl, rfl, rfl, by decide +kernel, rfl, by decide +kernel, by decide +kernel⟩
theorem ok_contents_of (C : W0 P w K mg base) : Cl P w K mg base 2 "contents_of" ["sizes"] (sp_contents_of K) := by
  have o_tuples_of := ok_tuples_of C
  refine Cl.of C.f_contents_of C.g_contents_of sc_contents_of (fun _ _ _ _ _ _ us hl => match us, hl with | [_], _ => rfl) (fun vs H Q E h => by obtain ⟨ds, d, ⟨_, _, rfl, rfl⟩, hd, _⟩ := h; exact hd.length) fun cdv A outer s H vs Q E hr h => ?_
  obtain ⟨_, _, ⟨ns, hns, rfl, rfl⟩, hd, k⟩ := h
  obtain ⟨x, rfl, h0⟩ := hd.one_inv
  have h0 : Dp K H x (.tuple (ns.map PyData.int)) := h0
  have hl : ns.length ≤ 2 := by rcases hns with rfl | rfl | rfl <;> simp
  refine ⟨_, (pss_one (ps_ret (pe_cl o_tuples_of hr (by decide) rfl (pa_cons (pe_lc (own := [("size", 1)]) rfl sc_contents_of.nd (pi_tup (pv 0)) (blkOk_by (N := ["sizes", "size"]) (sc := (defScope (top 26))) (own := [("size", 1)]) (by decide +kernel)) (fun _ _ _ _ _ => (pg_name (i := 1) sc_contents_of.nd rfl (Or.inl rfl))) (fun _ _ _ _ _ => pts_nil) (fun _ _ _ _ _ => (pe_listRg rfl rfl C.n_list (prg_1 rfl C.n_range (pv 1))))) pa_nil)))), ?_⟩
  refine sd_ret (K := K) (ed_call (eds_cons (d := .list ((ns.map rgI).map lI)) ?_ eds_nil) (pu_tuples_of hns.rows)) k
  refine EvF.ed ((ef_lcF (xs := ns) (f := PyData.int) (g := fun n => intD 0 n.toNat) (wk_tup (ed_var ⟨_, rfl, h0⟩)) (by omega) (fun n _ => tfrs_mem fun d hd => by unfold intD at hd; obtain ⟨_, _, rfl⟩ := List.mem_map.mp hd; rfl) (fun _ => rfl) fun H1 e1 n hn v hv => ?_).is ?_)
  · have := hns.mem hn
    exact ef_listRg (ed_var ⟨_, rfl, hv⟩) (by omega) (by omega)
  · rw [List.map_map]
    exact List.map_congr_left fun n _ => intD_rg
/-! ### is_place -/
def R_is_place (ds : List PD) (d : PD) : Prop := ∃ ss ws ns : List Int, okContent ss ws ∧ 0 < ss.length ∧ (ns = [] ∨ ns = [0]) ∧ ds = [tI ss, pair2 (tI ws) (tI ns)] ∧ d = .bool true
abbrev sp_is_place (K : PySem.W.Frag) : Sp := spD K R_is_place
theorem pu_is_place {ss ws ns : List Int} (h : okContent ss ws) (h2 : 0 < ss.length) (h3 : ns = [] ∨ ns = [0]) : Pure K (sp_is_place K) [tI ss, pair2 (tI ws) (tI ns)] (.bool true) := spD_pure ⟨_, _, _, h, h2, h3, rfl, rfl⟩
theorem sc_is_place : FnScope ["sizes", "thing"] ["sizes", "thing"] (defScope (top 29)) := ⟨rfl, rfl, rfl, by decide +kernel, rfl, by decide +kernel, by decide +kernel⟩
theorem ok_is_place (C : W0 P w K mg base) : Cl P w K mg base 4 "is_place" ["sizes", "thing"] (sp_is_place K) := by
  have o_is_content := ok_is_content C
  have o_is_lot := ok_is_lot C
  have o_is_pair := ok_is_pair C
  refine Cl.of C.f_is_place C.g_is_place sc_is_place (fun _ _ _ _ _ _ us hl => match us, hl with | [_, _], _ => rfl) (fun vs H Q E h => by obtain ⟨ds, d, ⟨_, _, _, _, _, _, rfl, rfl⟩, hd, _⟩ := h; exact hd.length) fun cdv A outer s H vs Q E hr h => ?_
  obtain ⟨_, _, ⟨ss, ws, ns, hok, hl, hns, rfl, rfl⟩, hd, k⟩ := h
  obtain ⟨x, y, rfl, h0, h1⟩ := hd.two_inv
  have h1 : Dp K H y (.tuple [tI ws, tI ns]) := h1
  refine ⟨_, (pss_one (ps_ret (pe_and (pe_cl o_is_pair hr (by decide) rfl (pa_cons (pv 1) pa_nil)) (pe_and (pe_cl o_is_content hr (by decide) rfl (pa_cons (pv 0) (pa_cons (pe_ix ix_tup (pv 1) pe_int (fun _ _ => rfl)) pa_nil))) (pe_one (pe_cl o_is_lot hr (by decide) rfl (pa_cons (pe_ix ix_tup (pv 1) pe_int (fun _ _ => rfl)) (pa_cons (pe_callB call_len_seq (by rfl) C.n_len (by decide +kernel) (pa_cons (pv 0) pa_nil)) pa_nil)))))))), ?_⟩
  refine sd_ret (K := K) (d := .bool (true && (true && true))) ?_ k
  have h0' : Dp K H x (.tuple (ss.map PyData.int)) := h0
  refine ed_and (ed_call (eds_cons (ed_var ⟨_, rfl, h1⟩) eds_nil) pu_is_pair) fun _ => ed_and (ed_call (eds_cons (ed_var ⟨_, rfl, h0⟩) (eds_cons (d := tI ws) (by walk_at "ev") eds_nil)) (pu_is_content hok)) fun _ => ed_call (eds_cons (d := tI ns) (by walk_at "ev") (eds_cons (d := .int ((ss.map PyData.int).length : Int)) (ed_lenT (ed_var ⟨_, rfl, h0'⟩)) eds_nil)) (pu_is_lot hns (by rw [List.length_map]; omega))
end
end K61
end

section
set_option Elab.async false
set_option linter.all false
set_option maxRecDepth 100000
set_option maxHeartbeats 4000000
/-! Kn: dicts whose keys are nested tuples, whose values are ints. -/
namespace K61
open PySem PySem.Spec PyProof.Rows L2 Evl
mutual
def nk : PD → NestedKey
  | .int i => .num i
  | .str x => .text x
  | .tuple ds => .tup (nks ds)
  | _ => .none
def nks : List PD → List NestedKey
  | [] => []
  | d :: ds => nk d :: nks ds
end
mutual
def keyD : PD → Bool
  | .int _ => true
  | .str _ => true
  | .tuple ds => keyDs ds
  | _ => false
def keyDs : List PD → Bool
  | [] => true
  | d :: ds => keyD d && keyDs ds
end
section
variable {X : Cx} {pins : List (Addr × Obj)} {σ : L2.St} {H : Hp} {s : Shared}
mutual
theorem nested_of (I : Inv X pins σ H s) : ∀ (d : PD) (v : V) (u : Value), keyD d = true → Dp X.K H v d → RelV v u → NestedIs s.heap (nk d) u
  | .int i, _, _, _, h, r => by
    cases h
    obtain ⟨t, rfl⟩ := r
    exact .int i t
  | .str x, _, _, _, h, r => by
    cases h
    obtain ⟨t, rfl⟩ := r
    exact .text x t
  | .tuple ds, _, _, k, h, r => by
    cases h with
    | tup hs ha =>
      cases r
      obtain ⟨its, rv, ⟨o, ho, hc, n, hd⟩, _⟩ := I.tuple hs
      rw [keyD] at k
      have q := nesteds_of I ds _ its k ha rv
      rw [nk]
      exact .tup ho hc hd (by simpa using q)
  | .none, _, _, k, _, _ => by rw [keyD] at k <;> first | cases k | simp
  | .bool _, _, _, k, _, _ => by rw [keyD] at k <;> first | cases k | simp
  | .list _, _, _, k, _, _ => by rw [keyD] at k <;> first | cases k | simp
  | .dict _, _, _, k, _, _ => by rw [keyD] at k <;> first | cases k | simp
theorem nesteds_of (I : Inv X pins σ H s) : ∀ (ds : List PD) (vs : List V) (us : List Value), keyDs ds = true → DpAll X.K H vs ds → Vals vs us → NestedAll s.heap (nks ds) us
  | [], _, _, _, h, r => by
    cases h
    cases r
    rw [nks]
    exact .nil
  | d :: ds, _, _, k, h, r => by
    cases h with
    | cons h1 h2 =>
      cases r with
      | cons r1 r2 =>
        rw [keyDs, Bool.and_eq_true] at k
        rw [nks]
        exact .cons (nested_of I d _ _ k.1 h1 r1) (nesteds_of I ds _ _ k.2 h2 r2)
end
end
/-- the dict at d, its very object -/
def NdO (d : Addr) (o : Obj) : HO := .ext fun h => h.get? d = some o
def NdF (P : Program) (w : World) (o : Obj) (xs : List (NestedKey × Addr × Value)) : Prop :=
  o.ExactDict ∧ (∃ es ep, o.data = .dict es ep ∧ es.toList = xs.map (entryOfKey (nestedKind P w))) ∧ (xs.map (·.1)).Nodup
/-- a key that is a tuple -/
def tupK (k : PD) : Prop := keyD k = true ∧ (nk k).depth ≤ 8 ∧ ∃ ds, k = .tuple ds
def KeyE (K : PySem.W.Frag) (H : Hp) (p : PD × Int) (q : NestedKey × Addr × Value) : Prop := q.1 = nk p.1 ∧ tupK p.1 ∧ Dp K H (.ref q.2.1) p.1 ∧ ∃ t, q.2.2 = .int p.2 t
/-- at d stands a dict of the keys and values kvs -/
structure NdX (P : Program) (w : World) (K : PySem.W.Frag) (H : Hp) (d : Addr) (kvs : List (PD × Int)) (o : Obj) (xs : List (NestedKey × Addr × Value)) : Prop where
  at_ : H d = some (NdO d o)
  lo : (d == sysModules) = false
  f : NdF P w o xs
  sz : kvs.length ≤ 1000
  ks : Paired (KeyE K H) kvs xs
def Nd (P : Program) (w : World) (K : PySem.W.Frag) (H : Hp) (d : Addr) (kvs : List (PD × Int)) : Prop := ∃ o xs, NdX P w K H d kvs o xs
def isK (k : PD) (p : PD × Int) : Bool := decide (nk p.1 = nk k)
def getN (kvs : List (PD × Int)) (k : PD) : Option Int := (kvs.find? (isK k)).map (·.2)
def putN (kvs : List (PD × Int)) (k : PD) (n : Int) : List (PD × Int) := if (getN kvs k).isSome then kvs.map fun p => if isK k p then (p.1, n) else p else kvs ++ [(k, n)]
section
variable {P : Program} {w : World} {K : PySem.W.Frag} {H H' : Hp} {d : Addr} {kvs : List (PD × Int)} {o : Obj} {xs : List (NestedKey × Addr × Value)} {k : PD}
theorem NdX.ex (e : Ex H H') (n : NdX P w K H d kvs o xs) : NdX P w K H' d kvs o xs := ⟨e _ _ n.at_, n.lo, n.f, n.sz, Paired.mapP n.ks fun _ _ q => ⟨q.1, q.2.1, q.2.2.1.ex e, q.2.2.2⟩⟩
theorem Nd.ex (e : Ex H H') (n : Nd P w K H d kvs) : Nd P w K H' d kvs := let ⟨o, xs, q⟩ := n; ⟨o, xs, q.ex e⟩
theorem getN_at (h : Paired (KeyE K H) kvs xs) : (∀ n, getN kvs k = some n → ∃ a t, atKey xs (nk k) = some (a, .int n t)) ∧ (getN kvs k = none → atKey xs (nk k) = none) := by
  induction h with
  | nil => exact ⟨fun n e => by simp [getN] at e, fun _ => rfl⟩
  | @cons p q kvs xs r t ih =>
    obtain ⟨q1, q2, q3⟩ := q
    obtain ⟨e1, _, _, t', e4⟩ := r
    simp only at e1 e4
    subst e1 e4
    unfold getN atKey at ih ⊢
    rw [List.find?_cons, List.find?_cons]
    have e : isK k p = decide (nk p.1 = nk k) := rfl
    simp only
    rw [e]
    cases hq : decide (nk p.1 = nk k) with
    | true => exact ⟨fun n e => by simp at e; subst e; exact ⟨_, _, rfl⟩, fun e => by simp at e⟩
    | false => exact ih
theorem key_depth (h : tupK k) {X : Cx} {pins : List (Addr × Obj)} {σ : L2.St} {s : Shared} (I : Inv X pins σ H s) {a : Addr} (hd : Dp X.K H (.ref a) k) : (nestedKind X.prog X.w).is s.heap (nk k) a :=
  ⟨nested_of I k _ _ h.1 hd rfl, h.2.1⟩
theorem NdX.dict {X : Cx} {pins : List (Addr × Obj)} {σ : L2.St} {s : Shared} (I : Inv X pins σ H s) (n : NdX X.prog X.w X.K H d kvs o xs) : s.heap.get? d = some o ∧ s.heap.DictOfH (nestedKind X.prog X.w) d xs ∧ xs.length = kvs.length := by
  have ho : s.heap.get? d = some o := (I.hok d _ n.at_).1
  obtain ⟨hx, ⟨es, ep, h1, h2⟩, hn⟩ := n.f
  refine ⟨ho, ⟨o, es, ep, ho, hx, h1, h2, fun x hxm => ?_, hn⟩, (Paired.length n.ks).symm⟩
  have all : ∀ {kvs : List (PD × Int)} {xs : List (NestedKey × Addr × Value)}, Paired (KeyE X.K H) kvs xs → ∀ x ∈ xs, (nestedKind X.prog X.w).is s.heap x.1 x.2.1 := by
    intro kvs xs h
    induction h with
    | nil => intro x hx; cases hx
    | @cons p q kvs xs r t ih =>
      intro x hx
      rcases List.mem_cons.mp hx with e | hx
      · subst e
        obtain ⟨e1, e2, e3, _⟩ := r
        rw [e1]
        exact key_depth e2 I e3
      · exact ih x hx
  exact all n.ks x hxm
theorem NdX.put (n : NdX P w K H d kvs o xs) {a : Addr} {v : Int} {t : Tok} (hk : tupK k) (hd : Dp K H' (.ref a) k) (e : Tx H H') (hf : ∀ p ∈ kvs, tfr p.1 = true) : Paired (KeyE K H') (putN kvs k v) (storedH xs (nk k) a (.int v t)) := by
  have g := getN_at (k := k) n.ks
  have base : Paired (KeyE K H') kvs xs := by
    have all : ∀ {kvs : List (PD × Int)} {xs : List (NestedKey × Addr × Value)}, (∀ p ∈ kvs, tfr p.1 = true) → Paired (KeyE K H) kvs xs → Paired (KeyE K H') kvs xs := by
      intro kvs xs hf h
      induction h with
      | nil => exact .nil
      | @cons p q kvs xs r t ih => exact .cons ⟨r.1, r.2.1, dp_tx e (hf _ List.mem_cons_self) r.2.2.1, r.2.2.2⟩ (ih fun p hp => hf p (List.mem_cons_of_mem _ hp))
    exact all hf n.ks
  unfold putN storedH
  cases hg : getN kvs k with
  | none =>
    rw [g.2 hg, if_neg (by simp), if_neg (by simp)]
    have app : ∀ {kvs : List (PD × Int)} {xs : List (NestedKey × Addr × Value)}, Paired (KeyE K H') kvs xs → Paired (KeyE K H') (kvs ++ [(k, v)]) (xs ++ [(nk k, a, .int v t)]) := by
      intro kvs xs h
      induction h with
      | nil => exact .cons ⟨rfl, hk, hd, _, rfl⟩ .nil
      | @cons p q kvs xs r t ih => exact .cons r ih
    exact app base
  | some m =>
    obtain ⟨a', t', e'⟩ := g.1 m hg
    rw [e']
    simp only [Option.isSome_some, if_true]
    have mp : ∀ {kvs : List (PD × Int)} {xs : List (NestedKey × Addr × Value)}, Paired (KeyE K H') kvs xs → Paired (KeyE K H') (kvs.map fun p => if isK k p then (p.1, v) else p) (xs.map (putAt (nk k) (.int v t))) := by
      intro kvs xs h
      induction h with
      | nil => exact .nil
      | @cons p q kvs xs r t' ih =>
        refine .cons ?_ ih
        obtain ⟨q1, q2, q3⟩ := q
        obtain ⟨e1, e2, e3, t2, e4⟩ := r
        simp only at e1 e3 e4
        subst e1 e4
        unfold putAt
        by_cases hq : nk p.1 = nk k
        · have e : isK k p = true := decide_eq_true hq
          simp only [e, hq, if_true]
          exact ⟨hq.symm, e2, e3, _, rfl⟩
        · have e : isK k p = false := decide_eq_false hq
          simp only [e, hq, if_false]
          exact ⟨rfl, e2, e3, _, rfl⟩
    exact mp base
end
/-! ### rules -/
section
variable {X : Cx} {o i e f value tg : Expr} {pos pos' apos cpos : Pos} {td ty tv tx : TE}
theorem extO_ok {P : Program} {w : World} {H : Hp} {h : Heap} {d : Addr} {ob : Obj} (e : h.get? d = some ob) : ObjOk P w H h d (NdO d ob) := ⟨e, ⟨ob, e⟩, fun _ _ q st => st _ q⟩
def tNNew (P : Program) (w : World) : TE := fun _ H Q => ∀ p o, H p = none → (p == sysModules) = false → NdF P w o [] → Q (.ref p) (upd H p (NdO p o))
theorem pe_nnew : PE X (.Dict [] [] pos) (tNNew X.prog X.w) := ⟨fun pins s σ H Q I h =>
  wpAny_Dict_empty ⟨.ref s.heap.objs.size, _, I.laid (a := s.heap.objs.size) (o := NdO s.heap.objs.size { cls := .type "dict", data := .dict #[] }) (t' := s.toks) (fun _ _ q => Heap.get?_push_of_some _ q) (Nat.le_refl _) (extO_ok (Heap.get?_push_size _ rfl)), rfl,
    h _ _ (I.hok.fresh (Nat.le_refl _)) (beq_eq_false_iff_ne.mpr (Ne.symm (Nat.ne_of_lt I.big))) ⟨⟨rfl, rfl, rfl⟩, ⟨#[], 0, rfl, rfl⟩, List.nodup_nil⟩⟩⟩
theorem room8 {A : Around} {P : Program} {w : World} (hu : A.units + 64 < cLine) : (nestedKind P w).room A.in1 := by
  show A.in1.units + 8 < cLine
  have e : A.in1.units = A.units + 1 := rfl
  omega
/-- d[y] -/
def tNGet (P : Program) (w : World) (K : PySem.W.Frag) (td ty : TE) : TE := fun σ H Q => td σ H fun x H1 => ty σ H1 fun y H2 => ∃ d kvs k n, x = .ref d ∧ Nd P w K H2 d kvs ∧ tupK k ∧ Dp K H2 y k ∧ getN kvs k = some n ∧ Q (.int n) H2
theorem Dp.ref_of {K : PySem.W.Frag} {H : Hp} {v : V} {k : PD} (h : tupK k) (hd : Dp K H v k) : ∃ b, v = .ref b := by
  obtain ⟨_, _, ds, rfl⟩ := h
  obtain ⟨a, _, e, _⟩ := hd.tup_inv
  exact ⟨a, e⟩
theorem pe_nget {P : Program} {w : World} {K : PySem.W.Frag} (hP : X.prog = P) (hw : X.w = w) (hK : X.K = K) (hu : X.A.units + 64 < cLine) (ho : PE X o td) (hi : PE X i ty) (hs : NoSl i) : PE X (.Subscript o i pos) (tNGet P w K td ty) := by
  subst hP hw hK
  refine ⟨fun pins s σ H Q I h => ?_⟩
  refine subD_of PySem.F.slot_dict_getitem.lookup hs (thn (ho.run pins s σ H _ I h) fun u s1 ⟨x, H1, I1, rx, q1⟩ => thn (hi.run pins s1 σ H1 _ I1 q1) fun iv s2 ⟨y, H2, I2, ry, d, kvs, k, n, ex, nd, tk, hd, hg, q2⟩ => ?_)
  subst ex
  obtain rfl : u = Value.ref d := rx
  obtain ⟨ob, xs, nx⟩ := nd
  obtain ⟨h1, h2, _⟩ := nx.dict I2
  obtain ⟨b, rfl⟩ := Dp.ref_of tk hd
  obtain rfl : iv = Value.ref b := ry
  obtain ⟨a, t, ha⟩ := (getN_at nx.ks).1 n hg
  exact ⟨h2.typeIs, wpAny_getItem_heap (room8 hu) (key_depth tk I2 hd) h2 ha ⟨.int n, H2, I2.tok _, ⟨t, rfl⟩, q2⟩⟩
/-- d.get(y, x) -/
def tNGet2 (P : Program) (w : World) (K : PySem.W.Frag) (td ty tx : TE) : TE := fun σ H Q => td σ H fun x H1 => ∃ d kvs, x = .ref d ∧ Nd P w K H1 d kvs ∧ ty σ H1 fun y H2 => tx σ H2 fun z H3 => ∃ kvs k n, Nd P w K H3 d kvs ∧ tupK k ∧ Dp K H3 y k ∧ z = .int n ∧ Q (.int ((getN kvs k).getD n)) H3
theorem pe_nget2 {P : Program} {w : World} {K : PySem.W.Frag} (hP : X.prog = P) (hw : X.w = w) (hK : X.K = K) (hu : X.A.units + 64 < cLine) (ho : PE X o td) (he : PE X e ty) (hf : PE X f tx) (m : M2 X o "get" apos e f cpos) : PE X (.Call (.Attribute o "get" apos) [e, f] [] cpos) (tNGet2 P w K td ty tx) := by
  subst hP hw hK
  refine ⟨fun pins s σ H Q I h => ?_⟩
  refine wpAny_Call_method m.base m.few m.line PySem.F.plainAttrs_dict PySem.F.slot_dict_get PySem.F.type_dict_get (thn (ho.run pins s σ H _ I h) fun u s1 ⟨x, H1, I1, rx, d, kvs0, ex, nd0, q1⟩ => ?_)
  subst ex
  obtain rfl : u = Value.ref d := rx
  obtain ⟨ob0, xs0, nx0⟩ := nd0
  obtain ⟨h01, h02, _⟩ := nx0.dict I1
  refine ⟨h02.typeIs, fun a q => ?_, ?_⟩
  · cases q
    exact ⟨ob0, h01, nx0.f.1.2.1⟩
  rw [m.trees]
  refine Calls.callWith_builtin rfl (Calls.evalArgs_plain (Calls.spliced_cons (thn (he.run pins s1 σ H1 _ I1 q1) fun iv s2 ⟨y, H2, I2, ry, q2⟩ =>
    Calls.spliced_cons (thn (hf.run pins s2 σ H2 _ I2 q2) fun fv s3 ⟨z, H3, I3, rz, kvs, k, n, nd, tk, hd, ez, q3⟩ => Calls.spliced_nil ?_))))
  subst ez
  obtain ⟨ob, xs, nx⟩ := nd
  obtain ⟨h1, h2, _⟩ := nx.dict I3
  obtain ⟨b, rfl⟩ := Dp.ref_of tk hd
  obtain rfl : iv = Value.ref b := ry
  obtain ⟨t0, rfl⟩ := rz
  refine call_meetsIn PySem.F.slot_dict_get h2.typeIs PySem.F.entry_dict_get (PySem.F.args_dict_get_3 _ _ _) (meetsH_dict_get_default (nestedKind X.prog X.w) d b nx.lo (.int n t0)) ⟨room8 hu, nk k, xs, key_depth tk I3 hd, h2, .int ((getN kvs k).getD n), H3, I3.tok _, ?_, q3⟩
  cases hg : getN kvs k with
  | none => rw [(getN_at nx.ks).2 hg]; exact ⟨t0, rfl⟩
  | some v =>
    obtain ⟨a, t, ha⟩ := (getN_at nx.ks).1 v hg
    rw [ha]
    exact ⟨t, rfl⟩
/-- d[y] = v -/
def sNPut (P : Program) (w : World) (K : PySem.W.Frag) (td ty tv : TE) : TS := fun D σ H => tv σ H fun v H1 => td σ H1 fun x H2 => ty σ H2 fun y H3 => ∃ d kvs k n, x = .ref d ∧ Nd P w K H3 d kvs ∧ kvs.length < 1000 ∧ (∀ p ∈ kvs, tfr p.1 = true) ∧ tfr k = true ∧ tupK k ∧ Dp K H3 y k ∧ v = .int n ∧
  ∀ o, Nd P w K (upd H3 d (NdO d o)) d (putN kvs k n) → D.nx σ (upd H3 d (NdO d o))
theorem putN_len {kvs : List (PD × Int)} {k : PD} {n : Int} : (putN kvs k n).length ≤ kvs.length + 1 := by
  unfold putN
  split
  · rw [List.length_map]; omega
  · rw [List.length_append]; simp
theorem tx_ext {H : Hp} {d : Addr} {o : Obj} {u : HO} (h : H d = some (NdO d o)) : Tx H (upd H d u) := Tx.upd h (fun _ z => by unfold NdO at z; cases z) (fun _ _ z => by unfold NdO at z; cases z)
theorem ps_nput {P : Program} {w : World} {K : PySem.W.Frag} (hP : X.prog = P) (hw : X.w = w) (hK : X.K = K) (hu : X.A.units + 64 < cLine) (ho : PE X o td) (hi : PE X i ty) (hv : PE X value tv) (hs : swapsWith value (some (.Subscript o i pos')) pos.line X.env = pure false) :
    PS X (.Assign [.Subscript o i pos'] value pos) (sNPut P w K td ty tv) := by
  subst hP hw hK
  refine ⟨fun pins s σ H D I h => ?_⟩
  refine wpAny_Assign_Subscript (thn (hv.run pins s σ H _ I h) fun r s1 ⟨v, H1, I1, rv, q1⟩ => thn (ho.run pins s1 σ H1 _ I1 q1) fun u s2 ⟨x, H2, I2, rx, q2⟩ => thn (hi.run pins s2 σ H2 _ I2 q2) fun iv s3 ⟨y, H3, I3, ry, d, kvs, k, n, ex, nd, hl, hf, hfk, tk, hd, ev, q3⟩ => ?_) hs
  subst ex ev
  obtain rfl : u = Value.ref d := rx
  obtain ⟨ob, xs, nx⟩ := nd
  obtain ⟨h1, h2, hlen⟩ := nx.dict I3
  obtain ⟨b, rfl⟩ := Dp.ref_of tk hd
  obtain rfl : iv = Value.ref b := ry
  obtain ⟨t, rfl⟩ := rv
  refine wpAny_setItem_heap (hsz := by rw [hlen, sizeLine_eq]; omega) (room8 hu) (key_depth tk I3 hd) h2 fun h' hm' sb => ?_
  obtain ⟨o', es', ep', a1, a2, a3, a4, a5, a6⟩ := hm'
  have tx : Tx H3 (upd H3 d (NdO d o')) := tx_ext nx.at_
  have I4 : Inv X pins σ (upd H3 d (NdO d o')) { s3 with heap := h', toks := s3.toks + (nestedKind X.prog X.w).draws (nk k) } :=
    I3.write (x := d) (e := d) (by rw [nx.at_]; exact True.intro) (.inl rfl) (fun b o hb e => (sb.2 b hb).trans e) ⟨o', a1⟩ (extO_ok a1)
  exact ⟨σ, _, I4, q3 o' ⟨o', _, upd_same, nx.lo, ⟨a2, ⟨es', ep', a3, a4⟩, a6⟩, Nat.le_trans putN_len hl, nx.put tk (dp_tx tx hfk hd) tx hf⟩⟩
/-! ### walks -/
def Itn (d : Addr) (o : Obj) (ks : List Addr) : It :=
  ⟨fun i H => H d = some (NdO d o) ∧ i < ks.length, fun i H x H' => H' = H ∧ ∃ q, ks[i]? = some q ∧ x = .ref q, fun i H => H d = some (NdO d o) ∧ ks.length ≤ i⟩
theorem turn_n {P : Program} {w : World} {K : PySem.W.Frag} {d : Addr} {o : Obj} {es : Array DictEntry} {ep : Nat} {xs : List (NestedKey × Addr × Value)} (it : Addr) (hod : o.data = .dict es ep) (hes : es.toList = xs.map (entryOfKey (nestedKind P w))) : Turn P w K tg (Itn d o (xs.map (·.2.1))) [it] it (fun i h => h.IsKeyIter it d i xs.length ep) where
  mem := by simp
  obj := fun i h st b hb => by
    have e : b = it := by simpa using hb
    subst e
    obtain ⟨oi, e, c, dd⟩ := st
    exact ⟨oi, e, fun v z => by rw [dd] at z; cases z⟩
  keep := fun i h h' st k => st.at fun oi e => k it (by simp) oi e
  item := by
    intro X hP hw hK hc i pins s σ H E I hf st hg
    subst hP hw hK
    obtain ⟨hd, hi⟩ := hg
    rw [List.length_map] at hi
    obtain ⟨f0, f1, f2, f3, f4, f5⟩ := hf it (by simp)
    have hgd : s.heap.get? d = some o := (I.hok d _ hd).1
    have hsz : es.size = xs.length := size_of_entries hes
    have hen : es[i]? = some (entryOfKey (nestedKind X.prog X.w) xs[i]) := by rw [entry_at hes, List.getElem?_eq_getElem hi]; rfl
    refine next_key_item st hgd hod hsz hen fun h' st' sb => ?_
    have I1 : Inv X pins σ H { s with heap := h' } := I.turned (t' := s.toks) (fun b ob hb e => (sb.2 b hb).trans e) f0 f1 f3 f4 f5
    obtain ⟨oi, e, c, dd⟩ := id st'
    exact ⟨_, rfl, go_of (s := { s with heap := h' }) e c dd (by decide) ⟨.ref xs[i].2.1, H, I1, rfl, ⟨rfl, xs[i].2.1, by rw [List.getElem?_map, List.getElem?_eq_getElem hi]; rfl, rfl⟩, st', fun b hb => (hf b hb).1⟩⟩
  done := by
    intro X hP hw hK hc i pins s σ H E I hf st hg
    subst hP hw hK
    obtain ⟨hd, hi⟩ := hg
    rw [List.length_map] at hi
    obtain ⟨f0, f1, f2, f3, f4, f5⟩ := hf it (by simp)
    have hgd : s.heap.get? d = some o := (I.hok d _ hd).1
    exact next_key_end (I.ok.hd hc) st hgd hod (size_of_entries hes) hi fun h' eb => ⟨rfl, I.turned (t' := s.toks) (fun b ob hb e => eb b ob hb e) f0 f1 f3 f4 f5⟩
  self := fun A i s Q E st h => by
    refine wpAny_pyIter_slot st.typeIs F.slot_dict_keyiterator_iter (wpAny_call_entry F.slot_dict_keyiterator_iter st.typeIs F.entry_dict_keyiterator_iter ?_ (F.args_dict_keyiterator_iter_1 _))
    show wpAny _ _ (ret (.ref it)) _ _ s
    exact wpAny_pure ⟨_, rfl, "dict_keyiterator", _, st.typeIs, F.slot_dict_keyiterator_next.lookup, h⟩
/-- for k in d -/
def iNKeys (P : Program) (w : World) (K : PySem.W.Frag) (td : TE) : TI := fun σ H R => td σ H fun x H1 => ∃ d kvs o xs, x = .ref d ∧ NdX P w K H1 d kvs o xs ∧ R (Itn d o (xs.map (·.2.1))) H1
theorem pi_nkeys {P : Program} {w : World} {K : PySem.W.Frag} (hP : X.prog = P) (hw : X.w = w) (hK : X.K = K) (he : PE X e td) : PI X tg e (iNKeys P w K td) := by
  subst hP hw hK
  refine ⟨fun pins s σ H R I h => ?_⟩
  refine thn (he.run pins s σ H _ I h) fun u s1 ⟨x, H1, I1, rx, d, kvs, o, xs, ex, nx, q⟩ => ?_
  subst ex
  obtain rfl : u = Value.ref d := rx
  obtain ⟨h1, h2, _⟩ := nx.dict I1
  obtain ⟨hx, ⟨es, ep, h3, h4⟩, _⟩ := nx.f
  refine iter_keys nx.lo h1 hx h3 (pi_one (tk := s1.toks) I1 _ (turn_n _ h3 h4) ⟨_, Heap.get?_push_size _ rfl, rfl, ?_⟩ q)
  rw [size_of_entries h4] <;> rfl
end
section
variable {P : Program} {w : World} {K : PySem.W.Frag} {H : Hp} {d : Addr} {kvs : List (PD × Int)} {o : Obj} {xs : List (NestedKey × Addr × Value)}
theorem jd_n (n : NdX P w K H d kvs o xs) : JD K (Itn d o (xs.map (·.2.1))) H (kvs.map (·.1)) where
  go := fun H1 e i hi => ⟨e _ _ n.at_, by rw [List.length_map] at hi ⊢; rw [← Paired.length n.ks]; exact hi⟩
  yld := fun H1 e i x H2 hi y => by
    obtain ⟨rfl, q, hq, rfl⟩ := y
    rw [List.length_map] at hi
    obtain ⟨p, hp, _, _, e3, _⟩ := paired_get n.ks (List.getElem?_eq_getElem hi)
    rw [List.getElem?_map, hp] at hq
    cases hq
    exact ⟨Ex.refl _, kvs[i].1, by rw [List.getElem?_map, List.getElem?_eq_getElem hi]; rfl, e3.ex e⟩
  stop := fun H1 e => ⟨e _ _ n.at_, by rw [List.length_map, List.length_map, ← Paired.length n.ks]; exact Nat.le_refl _⟩
end
end K61
end

section
set_option Elab.async false
set_option linter.all false
set_option maxRecDepth 100000
set_option maxHeartbeats 4000000
/-! Ks: sorted(d) of a dict of nested keys. -/
namespace K61
open PySem PySem.Spec PyProof.Rows L2 Evl PySem.W PySem.SeqAt
section
variable {prog : Program} {w : World} {A : Around} {s : Shared} {E : Value → Shared → Prop}
theorem call_tuple_ltK {Q : Value → Shared → Prop} {l b : Addr} {items items2 : Array Value} {e r : Nat → Bool} (hl : s.heap.IsTuple l items) (hb : s.heap.IsTuple b items2)
    (he : ∀ j (h1 : j < items.size) (h2 : j < items2.size), EqAt A.in1 s items[j] items2[j] (e j)) (hr : ∀ j (h1 : j < items.size) (h2 : j < items2.size), e j = false → RcLt A.in1 s items[j] items2[j] (r j))
    (h : Q (.bool (firstLt e r (decide (items.size < items2.size)) (List.range (min items.size items2.size)))) s) : wpAny (model prog w) A (call (.builtin "tuple.__lt__") [.ref l, .ref b]) Q E s := by
  obtain ⟨⟨cls, dd, data, sl⟩, ho, hc, n, hd⟩ := id hl
  obtain ⟨⟨cls2, dd2, data2, sl2⟩, ho2, hc2, n2, hd2⟩ := id hb
  simp only at hc hd hc2 hd2
  subst hc hd hc2 hd2
  exact call_meets F.slot_tuple_lt ⟨_, ho, rfl⟩ F.entry_tuple_lt (F.args_tuple_lt_2 _ _) (PySem.SeqAt.tuple_ltAt l b items items2 n n2 dd dd2 sl sl2 e r) ⟨ho, ho2, he, hr, h⟩
theorem oneLt_tuples {xs ys : List PyData} {a b : Value} {as bs : List Addr} {Q : Bool → Shared → Prop} (ra : Reads s.heap a (.tuple xs) as) (rb : Reads s.heap b (.tuple ys) bs) (hal : alikeAll xs ys = true)
    (hu : A.units + min (PyData.tuple xs).depth (PyData.tuple ys).depth < cLine) (hq : Q (dataLt (.tuple xs) (.tuple ys)) s) : wpAny (model prog w) A (oneLt' true a b) Q E s := by
  cases ra with
  | @tuple l o vs n _ as₁ h1 h2 h3 h4 =>
    cases rb with
    | @tuple l' o' vs' n' _ bs₁ k1 k2 k3 k4 =>
      have n1 : vs.size = xs.length := by simpa using ReadsAll.length _ _ _ h4
      have n2 : vs'.size = ys.length := by simpa using ReadsAll.length _ _ _ k4
      rw [dataLt_tuple, ← firstLt_toks xs ys hal, ← n1, ← n2] at hq
      rw [oneLt'_eq]
      simp only [if_true]
      refine wpAny_bind (wpAny_cRoomFor (room_here hu) ?_)
      refine wpAny_bind (wpAny_callSpecialIfBound?_slot (T := "tuple") ⟨_, h1, h2⟩ F.slot_tuple_lt (call_tuple_ltK (e := pairEq xs ys) (r := fun j => dataLt (xs.getD j .none) (ys.getD j .none)) ⟨_, h1, h2, _, h3⟩ ⟨_, k1, k2, _, k3⟩ (fun j j1 j2 => ?_) (fun j j1 j2 hj => ?_) ?_))
      · have := eqAt_alikeAll xs ys A.in1 s vs.toList vs'.toList _ _ h4 k4 hal (room_in hu) j (by simpa using j1) (by simpa using j2)
        simpa using this
      · have := rcLt_alikeAll xs ys A.in1 s vs.toList vs'.toList _ _ h4 k4 hal (room_in hu) j (by simpa using j1) (by simpa using j2) hj
        simpa using this
      · exact wpAny_truthy_bool hq
theorem mapM_each {α β : Type} {M : Model} {f : α → Sem β} {R : α → β → Prop} (hf : ∀ v r, R v r → ∀ (Q' : β → Shared → Prop), Q' r s → wpAny M A (f v) Q' E s) : ∀ {l : List α} {rs : List β} {Q : List β → Shared → Prop}, EachIs R l rs → Q rs s → wpAny M A (l.mapM f) Q E s
  | _, _, _, .nil, h => by rw [List.mapM_nil]; exact wpAny_pure h
  | x :: l, r :: rs, Q, .cons q t, h => by
    rw [List.mapM_cons]
    exact wpAny_bind (hf x r q _ (wpAny_bind (mapM_each hf (Q := fun bs s' => wpAny M A (pure (r :: bs)) Q E s') t (wpAny_pure h))))
def FirstOf (h : Heap) (v : Value) (r : Option Value) : Prop := ∃ a o xs n, v = .ref a ∧ h.get? a = some o ∧ o.cls = .type "tuple" ∧ o.data = .seq xs n ∧ r = xs[0]?
theorem first_run {v : Value} {r : Option Value} {M : Model} (q : FirstOf s.heap v r) (Q : Option Value → Shared → Prop) (h : Q r s) : wpAny M A (firstOfTuple' v) Q E s := by
  obtain ⟨a, o, xs, n, rfl, ho, hc, hd, rfl⟩ := q
  rw [kas_first_eq]
  refine wpAny_bind (Looks.here (show Looks M s.heap (typeOf (.ref a)) o.cls from (Looks.ld ho).andThen .now) ?_)
  rw [hc, if_neg (by first | decide | simp)]
  exact wpAny_bind (listItems_at ho hd (wpAny_pure h))
theorem kind_first {vs : List Value} {rs : List (Option Value)} {Q : SortKind → Shared → Prop} (e : EachIs (FirstOf s.heap) vs rs) (h0 : ∃ r, rs = none :: r) (h : Q oneType' s) : wpAny (model prog w) A (keyKind' vs.toArray) Q E s := by
  obtain ⟨r0, rfl⟩ := h0
  rw [keyKind'_eq, List.mapM_toArray, map_eq_pure_bind]
  refine wpAny_bind (wpAny_bind (mapM_each (R := FirstOf s.heap) (fun v r q Q' hq => first_run q Q' hq) e (wpAny_pure ?_)))
  rw [if_neg (by simp), if_neg (by simp)]
  rw [oneTypeOnly'_eq, List.mapM_toArray, map_eq_pure_bind]
  have ty : ∀ v ∈ vs, Looks (model prog w) s.heap (typeOf v) (.type "tuple") := fun v hv => by
    obtain ⟨r, _, a, o, xs, n, rfl, ho, hc, _, _⟩ := e.left v hv
    have q : Looks (model prog w) s.heap (typeOf (.ref a)) o.cls := (Looks.ld ho).andThen .now
    rw [hc] at q
    exact q
  refine wpAny_bind (wpAny_bind (wpAny_bind (kas_mapM (r := Value.type "tuple") _ (fun v hv Q' hq => (ty v hv).here hq) (wpAny_pure ?_))))
  obtain ⟨v0, vr, rfl⟩ : ∃ v0 vr, vs = v0 :: vr := by cases e; exact ⟨_, _, rfl⟩
  have hall : ((List.map (fun _ => Value.type "tuple") (v0 :: vr)).toArray.all fun x => x == Value.type "tuple") = true := by
    simp only [List.all_toArray, List.all_map, List.all_eq_true]
    intro _ _
    exact beq_self_eq_true _
  have h0 : (List.map (fun _ => Value.type "tuple") (v0 :: vr)).toArray[0]? = some (Value.type "tuple") := by simp
  rw [h0]
  simp only [hall, if_true]
  exact wpAny_pure (wpAny_pure h)
/-- what can be sorted: alike tuples, none empty or the first empty -/
structure S0 (ds : List PyData) : Prop where
  al : AllAlike ds
  tu : ∀ d ∈ ds, ∃ xs, d = .tuple xs
  k : (∀ d ∈ ds, ∃ x r, d = .tuple (x :: r)) ∨ ∃ rest, ds = .tuple [] :: rest
  dp : ∀ d ∈ ds, d.depth ≤ 8
  sz : ds.length ≤ 1000
theorem firsts_of : ∀ {vs : List Value} {ds : List PyData}, EachIs (fun v d => ∃ as, Reads s.heap v d as) vs ds → (∀ d ∈ ds, ∃ xs, d = .tuple xs) → ∃ rs, EachIs (FirstOf s.heap) vs rs ∧ ∀ rest, ds = .tuple [] :: rest → ∃ r, rs = none :: r
  | _, _, .nil, _ => ⟨[], .nil, fun _ z => by cases z⟩
  | _, d :: ds, .cons ⟨as, r⟩ t, h => by
    obtain ⟨rs, e, _⟩ := firsts_of t fun d hd => h d (List.mem_cons_of_mem _ hd)
    obtain ⟨xs, rfl⟩ := h d List.mem_cons_self
    cases r with
    | @tuple l o vs n _ as₁ h1 h2 h3 h4 =>
      refine ⟨vs[0]? :: rs, .cons ⟨l, o, vs, n, rfl, h1, h2, h3, rfl⟩ e, fun rest z => ?_⟩
      have hx : xs = [] := by
        have := (List.cons.inj z).1
        cases this
        rfl
      subst hx
      have n1 : vs.size = 0 := by simpa using ReadsAll.length _ _ _ h4
      exact ⟨rs, by rw [Array.getElem?_eq_none (by omega)]⟩
theorem sortsAt {vs : List Value} {ds : List PyData} (e : EachIs (fun v d => ∃ as, Reads s.heap v d as) vs ds) (h : S0 ds) (hu : A.units + 8 < cLine) : SortsAt prog w A s (dataKind s.heap ds) vs := by
  rcases h.k with hk | ⟨rest, hr⟩
  · exact SortsAt.data e h.al (.inl hk) fun d hd => by have := h.dp d hd; omega
  · refine ⟨fun v hv => ?_, oneType', ?_, fun h2 E Q hq => ?_⟩
    · obtain ⟨d, hd, as, r⟩ := e.left v hv
      exact ⟨_, dataKind_some h.al hd r⟩
    · intro E x y a b Q ha hb hq
      obtain ⟨d, as, hd, ra, rfl⟩ := dataKind_inv ha
      obtain ⟨d', as', hd', rb, rfl⟩ := dataKind_inv hb
      obtain ⟨xs, rfl⟩ := h.tu d hd
      obtain ⟨ys, rfl⟩ := h.tu d' hd'
      have hal : alikeAll xs ys = true := by simpa [alike] using h.al _ hd _ hd'
      rw [keyLt'_oneType]
      refine oneLt_tuples ra rb hal ?_ hq
      have := h.dp _ hd
      have := Nat.min_le_left (PyData.tuple xs).depth (PyData.tuple ys).depth
      omega
    · obtain ⟨rs, e1, e2⟩ := firsts_of e h.tu
      exact kind_first e1 (e2 rest hr) hq
end
/-- a sorted list's items as data -/
theorem out_data {K : PySem.W.Frag} {H : Hp} : ∀ {out : List Value} {ds : List PyData}, EachIs (fun v d => ∃ a, v = .ref a ∧ Dp K H (.ref a) d) out ds → ∃ vs, Vals vs out ∧ DpAll K H vs ds
  | _, _, .nil => ⟨[], .nil, .nil⟩
  | _, _, .cons ⟨a, e, h⟩ t => by
    obtain ⟨vs, h1, h2⟩ := out_data t
    exact ⟨.ref a :: vs, .cons (by rw [e]; exact rfl) h1, .cons h h2⟩
section
variable {X : Cx}
theorem cr_sortN {P : Program} {w : World} {K : PySem.W.Frag} (hP : X.prog = P) (hw : X.w = w) (hK : X.K = K) (hcalm : X.calm = true) (hu : X.A.units + 64 < cLine) : CallR X (.builtin "sorted") (fun xs H Q => ∃ d kvs, xs = [.ref d] ∧ Nd P w K H d kvs ∧ S0 (kvs.map (·.1)) ∧
    ∀ p vs, H p = none → DpAll K H vs ((kvs.map (·.1)).mergeSort (dataLe false id)) → Q (.ref p) (upd H p (.lst vs))) := by
  subst hP hw hK
  intro pins s σ H xs us Q I r q
  obtain ⟨d, kvs, ex, ⟨o, xs, nx⟩, hS, q⟩ := q
  subst ex
  obtain ⟨u, eu, rx⟩ := vals1 r
  subst eu
  cases rx
  obtain ⟨h1, h2, hlen⟩ := nx.dict I
  obtain ⟨hx, ⟨es, ep, h3, h4⟩, _⟩ := nx.f
  have hes : es.size = xs.length := size_of_entries h4
  have h16 : es.size ≤ sizeLine := by rw [hes, hlen, sizeLine_eq]; have := nx.sz; omega
  refine Calls.call_function_entry PyProof.Rows.kind_sorted PyProof.Rows.plain_sorted PyProof.Rows.entry_sorted (PyProof.Rows.args_sorted1 _) ?_
  unfold Builtin.«sorted»
  refine wpAny_bind (m := checkCount "sorted" 1 1 _) (wpAny_pure ?_)
  refine wpAny_bind (PySem.W.kdu_collect (A := X.A.in1) (PySem.KdlSrc.rawDict (es := es) (ep := ep) nx.lo) (I.ok.hd hcalm) ⟨o, h1, hx, h3⟩ h16 fun h' tk acc hk hacc => ?_)
  have I1 : Inv X pins σ H { s with heap := h', toks := tk } := I.kept hk
  have hal : acc.toList.length = xs.length := by rw [Array.length_toList, hacc.1, hes]
  have each : EachIs (fun v b => ∃ a, v = .ref a ∧ Dp X.K H (.ref a) b) acc.toList (kvs.map (·.1)) := by
    refine EachIs.of_zip (by rw [hal, List.length_map, hlen]) fun p hp => ?_
    obtain ⟨i, hi, hpi⟩ := List.getElem_of_mem hp
    rw [List.length_zip, hal, List.length_map, hlen, Nat.min_self] at hi
    rw [List.getElem_zip] at hpi
    have hia : i < acc.toList.length := by rw [hal, hlen]; exact hi
    obtain ⟨hi2, e2⟩ := hacc.2 i (acc.toList[i]) (by rw [← Array.getElem?_toList]; exact List.getElem?_eq_getElem hia)
    obtain ⟨qx, hqx, _, _, e3, _⟩ := paired_get nx.ks (List.getElem?_eq_getElem hi)
    have hen : es[i]? = some (entryOfKey (nestedKind X.prog X.w) qx) := by rw [entry_at h4, hqx]; rfl
    rw [Array.getElem?_eq_getElem hi2] at hen
    have hen := Option.some.inj hen
    rw [hen] at e2
    refine ⟨qx.2.1, ?_, ?_⟩
    · rw [← hpi]
      exact e2
    · rw [← hpi]
      simpa using e3
  refine wpAny_bind (wpAny_newList ?_ (by rw [hal, hlen, sizeLine_eq]; have := nx.sz; omega))
  have hoL : (h'.push (seqObj "list" acc.toList.toArray 0)).get? h'.objs.size = some (seqObj "list" acc.toList.toArray 0) := Heap.get?_push_size _ rfl
  show wpAny _ _ _ _ _ { s with heap := h'.push (seqObj "list" acc.toList.toArray 0), toks := tk }
  have hks : ∀ b ob, h'.get? b = some ob → (sortingHeap (h'.push (seqObj "list" acc.toList.toArray 0)) h'.objs.size acc.toList).get? b = some ob := fun b ob e => sortingHeap_old (Nat.ne_of_lt (Heap.lt_size e)) (Heap.get?_push_of_some _ e)
  have er : EachIs (fun v b => ∃ as, Reads (sortingHeap (h'.push (seqObj "list" acc.toList.toArray 0)) h'.objs.size acc.toList) v b as) acc.toList (kvs.map (·.1)) := each.mono fun v b ⟨a, e, hd⟩ => by
    obtain ⟨as, r⟩ := Dp.reads I1 b (.ref a) v hd e
    exact ⟨as, PyProof.Rows.Reads.keeps hks r⟩
  have hA : ∀ A' : Around, A'.units ≤ X.A.units + 8 → A'.units + 8 < cLine := fun A' h => by omega
  refine wpAny_bind (wpAny_holding (wpAny_call_entry PyProof.Rows.slot_list_sort ⟨_, hoL, rfl⟩ PyProof.Rows.entry_list_sort
    (list_sort_vals (κ := dataKind (sortingHeap (h'.push (seqObj "list" acc.toList.toArray 0)) h'.objs.size acc.toList) (kvs.map (·.1))) hoL (sortsAt (s := { s with heap := sortingHeap (h'.push (seqObj "list" acc.toList.toArray 0)) h'.objs.size acc.toList, toks := tk }) er hS (hA _ ?_)) (by rw [hal, hlen, sizeLine_eq]; have := nx.sz; omega) ⟨_, rfl, ?_⟩) (PyProof.Rows.args_list_sort _)))
  · show X.A.units + 1 + 1 ≤ _
    omega
  · have eid : (kvs.map (·.1)).map id = kvs.map (·.1) := List.map_id _
    have eo := sortVals_data (h' := sortingHeap (h'.push (seqObj "list" acc.toList.toArray 0)) h'.objs.size acc.toList) (R := fun v b => ∃ a, v = .ref a ∧ Dp X.K H (.ref a) b) (enc := id) (vs := acc.toList) (bs := kvs.map fun x => x.1) false each (show EachIs (fun v (b : PD) => ∃ as, Reads (sortingHeap (h'.push (seqObj "list" acc.toList.toArray 0)) h'.objs.size acc.toList) v (id b) as) acc.toList (kvs.map fun x => x.1) from er) (by rw [eid]; exact hS.al)
    rw [eid] at eo
    generalize hout : sortVals (dataKind (sortingHeap (h'.push (seqObj "list" acc.toList.toArray 0)) h'.objs.size acc.toList) (kvs.map (·.1))) false acc.toList acc.toList = out at eo ⊢
    obtain ⟨vs, r1, r2⟩ := out_data eo
    obtain ⟨e', he'⟩ := PyProof.Rows.sortedHeap_at (vs := acc.toList) (out := out.toArray) hoL
    have hvl : vs.length ≤ 1000 := by
      rw [r2.length, List.length_mergeSort, List.length_map]
      exact nx.sz
    refine wpAny_pure ⟨_, rfl, .ref h'.objs.size, upd H h'.objs.size (.lst vs), I1.laid (t' := tk) (fun b u e => ?_) (Nat.le_refl _)
      (show ObjOk X.prog X.w _ _ _ (.lst vs) from ⟨by rw [sizeLine_eq]; omega, out, e', r1, he'⟩), rfl, q _ vs (I1.hok.fresh (Nat.le_refl _)) r2⟩
    have hb : b < h'.objs.size := Heap.lt_size e
    rw [PyProof.Rows.sortedHeap_old (Nat.ne_of_lt hb) (by rw [size_push']; exact Nat.lt_succ_of_lt hb)]
    exact Heap.get?_push_of_some _ e
end
end K61
end

section
set_option Elab.async false
set_option linter.all false
set_option maxRecDepth 100000
set_option maxHeartbeats 4000000
/-! Kenum: enumerate over a tuple. -/
namespace K61
open PySem PySem.Spec PyProof.Rows L2 Evl
theorem meets_enum1 {v : Value} {o : Obj} {H : Heap → Prop} (B : PySem.Begins v o H) :
    Meets (Builtin.«enumerate.__new__» ⟨[.type "enumerate", v], []⟩) (fun _ R s => H s.heap ∧
      R (.ok (.ret (.ref (s.heap.push o).objs.size))) { s with heap := (s.heap.push o).push { cls := .type "enumerate", data := .fields #[.none, .bool false, .ref s.heap.objs.size, rawInt 0, .none, .none] } }) :=
  .of_wp fun prog w A R s h => by
    obtain ⟨hp, g, d, tk, os⟩ := s; obtain ⟨h1, h⟩ := h
    have hsub := sub_enumerate
    have q1 : ∀ {A' : Around} {E : Value → Shared → Prop} {Q : Value → Shared → Prop}, Q (.ref hp.objs.size) ⟨hp.push o, g, d, tk, os⟩ → wpAny (model prog w) A' (pyIter v) Q E ⟨hp, g, d, tk, os⟩ :=
      fun q => B.iter prog w _ _ ⟨hp, g, d, tk, os⟩ _ h1 q
    wp_walk using q1
    refine wpAny_stack_any fun st => wpAny_pure ?_
    split
    · rename_i c _ _ _ _ _
      cases (c == Value.type "enumerate")
      · wp_walk using q1
        exact ⟨_, rfl, h⟩
      · wp_walk using q1
        exact ⟨_, rfl, h⟩
    · wp_walk using q1
      exact ⟨_, rfl, h⟩
section
variable {prog : Program} {w : World} {A : Around} {E : Value → Shared → Prop} {s : Shared}
theorem enum_begins1 {v : Value} {o : Obj} {H : Heap → Prop} {Q : Value → Shared → Prop} (B : PySem.Begins v o H) (h1 : H s.heap)
    (h : ∀ h', IsEnum h' (s.heap.objs.size + 1) s.heap.objs.size 0 .none → h'.get? s.heap.objs.size = some o → h'.objs.size = s.heap.objs.size + 2 →
      (∀ b o, s.heap.get? b = some o → h'.get? b = some o) → Q (.ref (s.heap.objs.size + 1)) { s with heap := h' }) :
    wpAny (model prog w) A (call (.type "enumerate") [v]) Q E s := by
  refine callType_new F.called_enumerate (by decide) (F.typeCall_enumerate_1 _) (F.newCall_enumerate_1 _) (fun obj => F.args_object_init_2 obj _) F.entry_enumerate_new
    (meets_enum1 B) ⟨h1, ?_⟩
  have hz : (s.heap.push o).objs.size = s.heap.objs.size + 1 := Heap.size_push ..
  show _ ∧ _
  rw [hz]
  have he : IsEnum ((s.heap.push o).push { cls := .type "enumerate", data := .fields #[.none, .bool false, .ref s.heap.objs.size, rawInt 0, .none, .none] }) (s.heap.objs.size + 1) s.heap.objs.size 0 .none := by
    have := Heap.get?_push_size (s.heap.push o) (o := { cls := .type "enumerate", data := .fields #[.none, .bool false, .ref s.heap.objs.size, rawInt 0, .none, .none] }) rfl
    rw [hz] at this; exact this
  refine ⟨⟨_, he, rfl⟩, h _ he (Heap.get?_push_of_some _ (Heap.get?_push_size _ B.free)) (by rw [Heap.size_push, hz]) fun b o x => Heap.get?_push_of_some _ (Heap.get?_push_of_some _ x)⟩
end
def IteT (K : PySem.W.Frag) (a : Addr) : It :=
  ⟨fun i H => ∃ (xs : List V) (x : V), SqT K H a xs ∧ xs[i]? = some x, fun i H v H' => ∃ T x, v = .ref T ∧ H T = none ∧ H' = upd H T (.tup [.int (i : Nat), x]) ∧ ∀ xs, SqT K H a xs → xs[i]? = some x, fun i H => ∃ xs : List V, SqT K H a xs ∧ xs.length ≤ i⟩
theorem turn_enumT {P : Program} {w : World} {K : PySem.W.Frag} {elts : List Expr} {kk : Nat} {tpos : Pos} (a e it : Addr) :
    Turn P w K (.Tuple elts kk tpos) (IteT K a) [e, it] e (fun i h => (∃ old, IsEnum h e it ((i : Nat) : Int) old) ∧ h.IsTupleIter it a i ∧ e ≠ it ∧ a ≠ it ∧ a ≠ e) where
  mem := by simp
  obj := fun i h st b hb => by
    obtain ⟨⟨old, he⟩, ⟨o, ho, hc, hd⟩, _⟩ := st
    have e' : b = e ∨ b = it := by simpa using hb
    rcases e' with z | z
    · rw [z]; exact ⟨_, he, fun v q => nomatch q⟩
    · rw [z]; exact ⟨o, ho, fun v q => by rw [hd] at q; cases q⟩
  keep := fun i h h' st k => let ⟨⟨old, he⟩, hi, hne⟩ := st; ⟨⟨old, k e (by simp) _ he⟩, hi.at fun o q => k it (by simp) o q, hne⟩
  item := by
    intro X hP hw hK hc i pins s σ H E I hf st hg
    subst hP hw hK
    obtain ⟨⟨old, he⟩, hit, hne, hai, hae⟩ := st
    obtain ⟨xs, x, hq, hx⟩ := hg
    obtain ⟨its, rv, p, hz⟩ := I.tuple hq
    obtain ⟨u, hu, ru⟩ := rv.get hx
    have hel : e < s.heap.objs.size := Heap.lt_size he
    have hil : it < s.heap.objs.size := by obtain ⟨_, q, _⟩ := hit; exact Heap.lt_size q
    have hin : i < its.toArray.size := by have := (List.getElem?_eq_some_iff.mp hu).1; simpa using this
    refine wpAny_pyNext_enum_itemD (Draws.tuple (A := X.A.in1) (show X.A.in1.handled = none from I.ok.hd hc) it a hai its.toArray) he ⟨hit, p⟩ hin hne (by simp; exact ⟨hne, Ne.symm hae⟩) fun x' h' tk hPx ho ⟨hit', _⟩ hT hsz hk => ?_
    have ex : x' = u := by
      have h1 : its.toArray[i]? = some x' := hPx
      rw [List.getElem?_toArray, hu] at h1
      exact (Option.some.inj h1).symm
    subst ex
    refine ⟨_, rfl, wpAny_letOwnedTupleGo_enum (s := { s with heap := h', toks := tk + 1 }) ho fun h'' he' sb => ?_⟩
    have hT2 : h''.get? s.heap.objs.size = some { cls := .type "tuple", data := .seq #[.int i tk, x'] } := (sb.2 _ (Nat.ne_of_gt hel)).trans hT
    have new : ObjOk X.prog X.w (upd H s.heap.objs.size (.tup [.int (i : Nat), x])) h'' s.heap.objs.size (.tup [.int (i : Nat), x]) :=
      ⟨by show 2 ≤ sizeLine; decide, [.int i tk, x'], .cons ⟨_, rfl⟩ (.cons ru .nil), ⟨_, hT2, rfl, _, rfl⟩⟩
    have I1 : Inv X pins σ (upd H s.heap.objs.size (.tup [.int (i : Nat), x])) { s with heap := h'', toks := tk + 1 } :=
      I.turnedNew (ch := [e, it]) (fun b ob hb q => (sb.2 b (fun z => hb (by simp [z]))).trans (hk b ob (fun z => hb (by simp [z])) (fun z => hb (by simp [z])) q)) hf (Nat.le_refl _) new
    refine ⟨.ref s.heap.objs.size, _, I1, rfl, ⟨_, x, rfl, I.hok.fresh (Nat.le_refl _), rfl, fun ys hy => by rw [I.tuple_inj hy hq]; exact hx⟩, ⟨⟨x', ?_⟩, hit'.at fun o q => (sb.2 it (Ne.symm hne)).trans q, hne, hai, hae⟩, fun b hb => ?_⟩
    · have e1 : ((i + 1 : Nat) : Int) = (i : Int) + 1 := by omega
      rw [e1]; exact he'
    · have hb' : b < s.heap.objs.size := by
        have e' : b = e ∨ b = it := by simpa using hb
        rcases e' with z | z
        · rw [z]; exact hel
        · rw [z]; exact hil
      rw [upd_ne (Nat.ne_of_lt hb')]
      exact (hf b hb).1
  done := by
    intro X hP hw hK hc i pins s σ H E I hf st hg
    subst hP hw hK
    obtain ⟨⟨old, he⟩, hit, hne, hai, hae⟩ := st
    obtain ⟨xs, hq, hx⟩ := hg
    obtain ⟨its, rv, p, hz⟩ := I.tuple hq
    obtain ⟨f0, f1, f2, f3, f4, f5⟩ := hf it (by simp)
    have hl := rv.length
    have hT : s.TypeIs (.ref e) "enumerate" := ⟨_, he, rfl⟩
    unfold pyNext
    refine wpAny_bind (wpAny_attempt (wpAny_callSpecial?_slot (name := Str.ofString "__next__") hT F.slot_enumerate_next
      (wpAny_call_entry F.slot_enumerate_next hT F.entry_enumerate_next ?_ (F.args_enumerate_next_1 _))))
    show wpAny _ _ (field (.ref e) 2 >>= _) _ _ _
    refine wpAny_bind (wpAny_field he rfl (x := .ref it) rfl ?_)
    refine wpAny_bind (wpAny_nextOf_tuple_end (show X.A.in1.handled = none from I.ok.hd hc) hit p (by simp; omega) fun h' x eb hx' => ?_)
    obtain ⟨o, ho, hc'⟩ := hx'
    refine wpAny_bind (wpAny_isInstance (T := "StopIteration") (b := true) ⟨o, ho, hc'⟩ isSubtype_stop ?_)
    exact wpAny_pure ⟨rfl, I.turned (t' := s.toks) (fun b o hb q => eb b o hb q) f0 f1 f3 f4 f5⟩
  self := fun A i s Q E st h => let ⟨⟨_, he⟩, _⟩ := st; wpAny_pyIter_enum he h
def iEnumT (K : PySem.W.Frag) (ta : TA) : TI := fun σ H R => ta σ H fun vs H1 => ∃ a xs, vs = [.ref a] ∧ SqT K H1 a xs ∧ R (IteT K a) H1
theorem pi_enumT {X : Cx} {e : Expr} {ta : TA} {p pos tpos : Pos} {elts : List Expr} {kk : Nat} (hg : Gl X "enumerate") (hm : X.mg "enumerate" = none) (ha : PA X [e] ta) (hs : starEach [e] X.env = [(false, eval e X.env)] := by rfl) :
    PI X (.Tuple elts kk tpos) (.Call (.Name "enumerate" p) [e] [] pos) (iEnumT X.K ta) := by
  refine ⟨fun pins s σ H R I h => ?_⟩
  refine Call_ (ld_blt I hg hm boot_enumerate (PyProof.Rows.callWith_type1 (thn (ha.run pos pins s σ H _ I h) fun us s1 ⟨vs, H1, I1, r1, q1⟩ => ?_) hs rfl))
  obtain ⟨a, xs, ex, hq, q⟩ := q1
  subst ex
  cases r1 with
  | cons r rr =>
    cases rr
    cases r
    obtain ⟨its, rv, p', hz⟩ := I1.tuple hq
    have hal : a < s1.heap.objs.size := by obtain ⟨o, ho, _⟩ := p'; exact Heap.lt_size ho
    refine enum_begins1 (begins_tuple a its.toArray) p' fun h' he hit hsz hk => wpAny_pyIter_enum he ?_
    have I2 : Inv X pins σ H1 { s1 with heap := h' } := I1.kept (t' := s1.toks) hk
    refine ⟨s1.heap.objs.size + 1, [s1.heap.objs.size + 1, s1.heap.objs.size], _, _, H1, rfl, I2, turn_enumT a (s1.heap.objs.size + 1) s1.heap.objs.size, ⟨⟨.none, he⟩, ⟨_, hit, rfl, rfl⟩, Nat.succ_ne_self _, Nat.ne_of_lt hal, Nat.ne_of_lt (Nat.lt_succ_of_lt hal)⟩, fun b hb => ?_, q⟩
    have e' : b = s1.heap.objs.size + 1 ∨ b = s1.heap.objs.size := by simpa using hb
    have hle : s1.heap.objs.size ≤ b := by
      rcases e' with z | z
      · rw [z]; exact Nat.le_add_right _ _
      · rw [z]; exact Nat.le_refl _
    exact I1.fpOk hle (I1.hok.fresh hle)
section
variable {K : PySem.W.Frag} {σ : L2.St} {H : Hp} {ta : TE}
theorem jd_enumT {a : Addr} {xs : List V} {ds : List PD} (h : SqT K H a xs) (r : DpAll K H xs ds) : JD K (IteT K a) H (enumD ds) where
  go := fun H1 e i hi => by
    rw [enumD_len] at hi
    obtain ⟨v, h1, _⟩ := r.get (List.getElem?_eq_getElem hi)
    exact ⟨xs, v, ex_t e h, h1⟩
  yld := fun H1 e i x H2 hi y => by
    rw [enumD_len] at hi
    obtain ⟨T, x1, rfl, hT, rfl, y1⟩ := y
    obtain ⟨v, h1, d1⟩ := r.get (List.getElem?_eq_getElem hi)
    have z1 := y1 xs (ex_t e h)
    rw [h1] at z1; cases z1
    exact ⟨Ex.new hT, _, enumD_at (List.getElem?_eq_getElem hi), .tup (st_of upd_same) (.cons (.int _) (.cons (d1.ex (e.trans (Ex.new hT))) .nil))⟩
  stop := fun H1 e => ⟨xs, ex_t e h, by rw [enumD_len, r.length]; exact Nat.le_refl _⟩
theorem wk_enumT {ds : List PD} (h : EvD K ta σ H (.tuple ds)) : WkD K (iEnumT K (tCons ta tNil)) σ H (enumD ds) := fun H1 e R q => h H1 e _ fun v H2 e2 hv => by
  obtain ⟨a, xs, rfl, hs, hx⟩ := hv.tup_inv
  exact ⟨a, xs, rfl, hs, q _ H2 e2 (jd_enumT hs hx)⟩
end
end K61
end

section
set_option Elab.async false
set_option linter.all false
set_option maxRecDepth 100000
set_option maxHeartbeats 4000000
/-! Kl: the lambda of Whole.__init__, called in first_wrong. -/
namespace K61
open PySem PySem.Spec PyProof.Rows L2 Evl
def lamE : Expr := match (defBody (inClass (top 31) 0)).getD 0 (.Pass ⟨0, 0, 0, 0⟩) with
  | .Assign _ (.Call _ [_, _, l] _ _) _ => l
  | _ => .Name "x" ⟨0, 0, 0, 0⟩
def lamA : Arguments := match lamE with | .Lambda p _ _ _ => p | _ => defArgs (top 1)
def lamB : Expr := match lamE with | .Lambda _ b _ _ => b | _ => lamE
def lamS : Scope := match lamE with | .Lambda _ _ s _ => s | _ => defScope (top 1)
def lamP : Pos := match lamE with | .Lambda _ _ _ p => p | _ => ⟨0, 0, 0, 0⟩
theorem lamE_eq : lamE = .Lambda lamA lamB lamS lamP := by rfl
theorem lam_bind {q : Str} {cl : List (Str × Addr)} {pm cv ctv u : Value} : bindArgs (PySem.W.kla_fn "<lambda>" q lamA lamB lamS cl pm cv ctv) ⟨[u], []⟩ = pure [(("thing" : Str), u)] := by rfl
theorem lam_names : lamS.names = [(("thing" : Str), NameKind.local), ("sizes", .free), ("is_place", .globalImplicit)] := by rfl
/-- the place c is not known -/
def dropH (H : Hp) (c : Addr) : Hp := fun b => if b = c then none else H b
theorem dropH_c {H : Hp} {c : Addr} : dropH H c c = none := if_pos rfl
theorem dropH_ne {H : Hp} {c b : Addr} (h : b ≠ c) : dropH H c b = H b := if_neg h
theorem dropH_ex {H : Hp} {c : Addr} : Ex (dropH H c) H := fun b o h => by
  by_cases e : b = c
  · rw [e, dropH_c] at h; cases h
  · rw [dropH_ne e] at h; exact h
section
variable {P : Program} {w : World} {H : Hp} {h : Heap} {c : Addr} {co : Obj}
theorem hok_drop (ok : HOk P w H h) (hc : H c = some (NdO c co)) : HOk P w (dropH H c) h := fun b o e => by
  have hb : b ≠ c := fun z => by rw [z, dropH_c] at e; cases e
  rw [dropH_ne hb] at e
  refine (ok b o e).stay (fun _ _ _ q => q) (fun d q => ?_) fun d xs q => ?_
  · rw [dropH_ne (fun z => by rw [z, hc] at q; unfold NdO at q; cases q)]; exact q
  · rw [dropH_ne (fun z => by rw [z, hc] at q; unfold NdO at q; cases q)]; exact q
theorem hok_add (ok : HOk P w H h) (hc : H c = none) (ho : h.get? c = some co) : HOk P w (upd H c (NdO c co)) h := fun b o e => by
  by_cases hb : b = c
  · subst hb
    rw [upd_same] at e
    cases e
    exact extO_ok ho
  · rw [upd_ne hb] at e
    exact (ok b o e).stay (fun _ _ _ q => q) (fun d q => by rw [upd_ne (ne_of_none q hc)]; exact q) fun d xs q => by rw [upd_ne (ne_of_none q hc)]; exact q
theorem un_add {fs : List Addr} {H H' : Hp} {h h' : Heap} (u : Un fs [] (dropH H c) H' h h') (hc : H c = some (NdO c co)) (hc' : H' c = none) : Un fs [] H (upd H' c (NdO c co)) h h' where
  keep := fun b o e n => u.keep b o e (by
    have hb : b ≠ c := fun z => by rw [z, hc] at n; cases n
    rw [dropH_ne hb]; exact n)
  slot := fun b o e n => u.slot b o e (by
    have hb : b ≠ c := fun z => by rw [z, hc] at n; cases n
    rw [dropH_ne hb]; exact n)
  free := fun b o e n hx => by
    have hb : b ≠ c := fun z => by rw [z, hc] at n; cases n
    rw [upd_ne hb]
    exact u.free b o e (by rw [dropH_ne hb]; exact n) hx
  there := u.there
  tups := fun b xs e => by
    have hb : b ≠ c := fun z => by rw [z, hc] at e; unfold NdO at e; cases e
    rw [upd_ne hb]
    exact u.tups b xs (by rw [dropH_ne hb]; exact e)
  frzs := fun b o v e => by
    have hb : b ≠ c := fun z => by rw [z, hc] at e; unfold NdO at e; cases e
    rw [upd_ne hb]
    exact u.frzs b o v (by rw [dropH_ne hb]; exact e)
  tbls := fun b ps e => by
    have hb : b ≠ c := fun z => by rw [z, hc] at e; unfold NdO at e; cases e
    rw [upd_ne hb]
    exact u.tbls b ps (by rw [dropH_ne hb]; exact e)
end
/-- at f stands the lambda, its cell holding the sizes -/
structure IsKeyX (K : PySem.W.Frag) (H : Hp) (f : Addr) (ss : List Int) (q : Str) (c c' : Addr) (pm ctv : Value) (co : Obj) (u : Value) (sv : V) : Prop where
  f : H f = some (NdO f (PySem.W.kla_obj "<lambda>" q lamA lamB lamS [("sizes", c)] pm c' ctv))
  c : H c = some (NdO c co)
  cell : co.data = .cell (some u)
  rel : RelV sv u
  dp : Dp K H sv (tI ss)
  code : H c' = some (LamX.CodeO c' q)
def IsKey (K : PySem.W.Frag) (H : Hp) (f : Addr) (ss : List Int) : Prop := ∃ q c c' pm ctv co u sv, IsKeyX K H f ss q c c' pm ctv co u sv
theorem IsKey.ex {K : PySem.W.Frag} {H H' : Hp} {f : Addr} {ss : List Int} (e : Ex H H') (k : IsKey K H f ss) : IsKey K H' f ss :=
  let ⟨q, c, c', pm, ctv, co, u, sv, x⟩ := k
  ⟨q, c, c', pm, ctv, co, u, sv, e _ _ x.f, e _ _ x.c, x.cell, x.rel, x.dp.ex e, e _ _ x.code⟩
/-- the context of the lambda's body -/
abbrev keyEnv (q : Str) (L f c' c : Addr) : Env := PySem.W.envX q lamS L f (.ref c') [("sizes", c)]
def keyCx (X : Cx) (s : Shared) (H : Hp) (q : Str) (f c' c : Addr) : Cx where
  prog := X.prog
  w := X.w
  K := X.K
  mg := X.mg
  base := X.base
  A := X.A.deeper (keyEnv q s.heap.objs.size f c' c)
  N := ["thing", "sizes"]
  s_0 := s
  H_0 := H
  env := keyEnv q s.heap.objs.size f c' c
  outer := X.stack
  stack := keyEnv q s.heap.objs.size f c' c :: X.stack
  ex := []
  fn := fun _ => false
  calm := true
  pn := []
  xe := fun _ _ => False
section
variable {X : Cx} {pins : List (Addr × Obj)} {σ : L2.St} {H : Hp} {s : Shared}
theorem key_start {f c c' : Addr} {q : Str} {co : Obj} {u : Value} {sv y : V} {uy : Value} {h₁ : Heap} {tk : Nat} (I : Inv X pins σ H s) (hd : X.A.handled = none) (hc : H c = some (NdO c co)) (hcell : co.data = .cell (some u)) (rel : RelV sv u) (ry : RelV y uy)
    (hns : h₁.Ns s.heap.objs.size fun x => ([("thing", uy)] : List (Str × Value)).reverse.lookup x) (kp : ∀ b o, s.heap.get? b = some o → h₁.get? b = some o) :
    Inv (keyCx X s (dropH H c) q f c' c) [] [some y, some sv] (dropH H c) { s with heap := h₁, toks := tk } := by
  have e0 := I.env0
  have hok := hok_drop I.hok hc
  have hco : s.heap.get? c = some co := (I.hok c _ hc).1
  have clk : ∀ x c1, (([("sizes", c)] : List (Str × Addr)).lookup x = some c1) → x = "sizes" ∧ c1 = c := fun x c1 e => by
    rw [List.lookup_cons] at e
    split at e
    · rename_i hx
      exact ⟨by simpa using hx, (Option.some.inj e).symm⟩
    · cases e
  have noA : ∀ b : Addr, b ∉ (keyCx X s (dropH H c) q f c' c).ex := fun b z => absurd (show b ∈ ([] : List Addr) from z) (by simp)
  have bs : ∀ b o, X.base.get? b = some o → s.heap.get? b = some o ∧ dropH H c b = none := fun b o e => by
    obtain ⟨h1, h2⟩ := e0.bs b o e
    refine ⟨h1, ?_⟩
    by_cases hb : b = c
    · rw [hb]; exact dropH_c
    · rw [dropH_ne hb]; exact h2
  have fr : dropH H c s.heap.objs.size = none := hok.fresh (Nat.le_refl _)
  refine ⟨⟨e0.mod, rfl, rfl, rfl, Nat.le_refl _, fun x z c1 e1 e2 => by rw [(clk _ _ e1).1, (clk _ _ e2).1], fun x hy => ?_, fun y c z _ => ?_, fun _ => hd, Around.frames_deeper e0.frames, .inr ⟨rfl, rfl⟩, fun b z => absurd z (noA b), bs, e0.bsz, fun b _ _ => noA b,
      fun b z => absurd z (noA b), e0.funs, fun b hb => ?_⟩,
    rfl, e0.bare, Un.kept kp, ⟨_, hns, fun i x v e1 e2 e3 => ?_⟩, fun x c1 e => ?_, fr, fun x c1 e => ?_, fun q hq => absurd (show q ∈ ([] : List (Addr × Obj)) ++ [] from hq) (by simp), hok.kept kp, rfl⟩
  · have hy : lamS.names.lookup x = some .cell ∨ lamS.names.lookup x = some .free := hy
    rw [lam_names] at hy
    refine ⟨c, ?_⟩
    show ([("sizes", c)] : List (Str × Addr)).lookup x = some c
    by_cases hx : x = "sizes"
    · subst hx; rfl
    · exfalso
      have h1 : (x == ("sizes" : Str)) = false := by simpa using hx
      simp only [List.lookup_cons, h1] at hy
      split at hy
      · rcases hy with hy | hy <;> cases hy
      · split at hy
        · rcases hy with hy | hy <;> cases hy
        · rcases hy with hy | hy <;> cases hy
  · have z : false = true := z
    cases z
  · have hb : b ∈ frs X.stack := hb
    by_cases hbc : b = c
    · rw [hbc]; exact dropH_c
    · show dropH H c b = none
      rw [dropH_ne hbc]
      exact e0.frf b hb
  · match i, e1, e2 with
    | 0, e1, e2 =>
      have e1 : some ("thing" : Str) = some x := e1
      have e2 : some (some y) = some (some v) := e2
      cases e1
      cases e2
      exact ⟨uy, ry, .inl ⟨rfl, rfl⟩⟩
    | 1, e1, e2 =>
      have e1 : some ("sizes" : Str) = some x := e1
      have e2 : some (some sv) = some (some v) := e2
      cases e1
      cases e2
      exact ⟨u, rel, .inr ⟨.inr rfl, c, rfl, ⟨co, kp _ _ hco, hcell⟩⟩⟩
    | i + 2, e1, _ =>
      have e1 : ([] : List Str)[i]? = some x := e1
      simp at e1
  · obtain ⟨_, rfl⟩ := clk x c1 e
    exact ⟨some u, co, kp _ _ hco, hcell⟩
  · obtain ⟨_, rfl⟩ := clk x c1 e
    exact dropH_c
end
end K61
end

section
set_option Elab.async false
set_option linter.all false
set_option maxRecDepth 100000
set_option maxHeartbeats 4000000
/-! Kl2: the call of the lambda, by the name that holds it. -/
namespace K61
open PySem PySem.Spec PyProof.Rows L2 Evl
theorem tfr_pair {a b : PD} (ha : tfr a = true) (hb : tfr b = true) : tfr (pair2 a b) = true := by
  unfold pair2
  simp only [tfr, tfrs, ha, hb, Bool.and_self]
def tKey (K : PySem.W.Frag) (i : Nat) (t : TA) : TE := fun σ H Q => ∃ f ss, σ[i]? = some (some (.ref f)) ∧ IsKey K H f ss ∧ t σ H fun vs H1 => IsKey K H1 f ss ∧ ∃ y ws ns, vs = [y] ∧ okContent ss ws ∧ 0 < ss.length ∧ (ns = [] ∨ ns = [0]) ∧ Dp K H1 y (pair2 (tI ws) (tI ns)) ∧ ∀ H2, Ex H1 H2 → Q (.bl true) H2
section
variable {X : Cx} {x : Str} {i : Nat} {e : Expr} {t : TA} {p pos : Pos}
theorem pe_key (C : W0 X.prog X.w X.K X.mg X.base) (hr : Room 5 X.A) (hN : X.N[i]? = some x) (hv : Vis X.env.scope x) (ha : PA X [e] t) (hdb : (x == ("__debug__" : Str)) = false := by decide) (hcd : (x == ("__classdict__" : Str)) = false := by decide)
    (hst : starEach [e] X.env = (false, eval e X.env) :: starEach [] X.env := by rfl) : PE X (.Call (.Name x p) [e] [] pos) (tKey X.K i t) := by
  refine ⟨fun pins s σ H Q I h => ?_⟩
  obtain ⟨f, ss, hs, hkey, ht⟩ := h
  refine wpAny_Call_Name_kw (thn ((pe_var (pos := p) hN hv hdb hcd).run pins s σ H (fun v H1 => v = .ref f ∧ H1 = H) I ⟨.ref f, hs, rfl, rfl⟩) fun u s1 ⟨v, H1, I1, r1, q1⟩ => ?_)
  obtain ⟨rfl, rfl⟩ := q1
  obtain rfl : u = Value.ref f := r1
  have fa : ∀ {s2 : Shared} {σ2 : L2.St} {H2 : Hp}, Inv X pins σ2 H2 s2 → IsKey X.K H2 f ss → PySem.W.FnAt f s2.heap := fun I2 hk => by
    obtain ⟨q, c, c', pm, ctv, co, u, sv, k⟩ := hk
    exact ⟨_, _, _, _, (I2.hok f _ k.f).1⟩
  refine PySem.W.callWith_F (first := []) (fa I1 hkey) (thn (ha.run pos pins s1 σ H1 _ I1 ht) fun us s2 ⟨vs, H2, I2, rv, hk2, y, ws, ns, hvs, hok, hl, hps, hy, q⟩ => ⟨fa I2 hk2, ?_⟩) hst rfl
  subst hvs
  obtain ⟨uy, rfl, ry⟩ := rv.one
  obtain ⟨q0, c, c', pm, ctv, co, uc, sv, k⟩ := hk2
  have of2 : s2.heap.get? f = some (PySem.W.kla_obj "<lambda>" q0 lamA lamB lamS [("sizes", c)] pm c' ctv) := (I2.hok f _ k.f).1
  obtain ⟨⟨oc, vs, t, hoc, hdc, hvc⟩, _, _⟩ := I2.hok c' _ k.code
  have hco : s2.heap.get? c = some co := (I2.hok c _ k.c).1
  have rc : codeAny (model X.prog X.w) X.A (.call (.ref f) ⟨[uy], []⟩) (CR CX0 X.stack X.prog X.w H2 s2 Q E0) s2 := by
    refine PySem.W.kla_callFunE hr.depth of2 rfl rfl rfl rfl ⟨c', oc, vs, t, rfl, hoc, hdc, hvc⟩ ?_
    rw [lam_bind]
    refine wpAny_pure (wpAny_newFunctionEnv (fun y hy => ?_) (fun y hy => ?_) (fun h₁ hns hsb => ⟨I2.nolimit.fresh _ hsb, ?_⟩) rfl)
    · rw [show (PySem.W.kla_fn "<lambda>" q0 lamA lamB lamS [("sizes", c)] pm (.ref c') ctv).scope.names = _ from lam_names] at hy
      simp at hy
      rcases hy with rfl | rfl | rfl <;> simp
    · have hy : y = (("thing" : Str), uy) := by simpa using hy
      subst hy
      rfl
    show codeAny _ _ (.expr lamB (keyEnv q0 s2.heap.objs.size f c' c)) _ _
    have kp : ∀ b o, s2.heap.get? b = some o → h₁.get? b = some o := fun b o e => hsb.extBut b o (Nat.ne_of_lt (Heap.lt_size e)) (Heap.get?_push_of_some _ e)
    have J := key_start (q := q0) (f := f) (c' := c') (tk := s2.toks + ([(("thing" : Str), uy)] : List (Str × Value)).length) I2 hr.hd k.c k.cell k.rel ry hns kp
    have hbody : PE (keyCx X s2 (dropH H2 c) q0 f c' c) lamB (tCall (sp_is_place X.K) [] E0 (tCons (tVar 1) (tCons (tVar 0) tNil))) :=
      pe_cl (ok_is_place (show W0 (keyCx X s2 (dropH H2 c) q0 f c' c).prog _ _ _ _ from C)) (show Room 4 (keyCx X s2 (dropH H2 c) q0 f c' c).A from hr.deeper _) (Nat.le_refl _) rfl (pa_cons (pv 1) (pa_cons (pv 0) pa_nil))
    have dd : ∀ {v : V} {d : PD}, tfr d = true → Dp X.K H2 v d → Dp X.K (dropH H2 c) v d := fun hf hd => dp_tx ⟨fun b xs h => by
      rw [dropH_ne (fun z => by rw [z, k.c] at h; unfold NdO at h; cases h)]; exact h, fun b o u h => by
      rw [dropH_ne (fun z => by rw [z, k.c] at h; unfold NdO at h; cases h)]; exact h⟩ hf hd
    have hq : tCall (sp_is_place X.K) [] E0 (tCons (tVar 1) (tCons (tVar 0) tNil)) [some y, some sv] (dropH H2 c) (fun v H' => v = .bl true ∧ Ex (dropH H2 c) H') := by
      refine ⟨sv, rfl, y, rfl, ?_⟩
      refine ⟨[tI ss, pair2 (tI ws) (tI ns)], .bool true, ⟨ss, ws, ns, hok, hl, hps, rfl, rfl⟩, .cons (dd tfr_tI k.dp) (.cons (dd (tfr_pair tfr_tI tfr_tI) hy) .nil), fun v H' e hv => ⟨hv.bl_inv, e⟩⟩
    refine PySem.W.kla_codeExpr (wpAny_mono (hbody.run [] _ _ _ _ J hq) (fun v s' hq => ?_) fun e s' hq => hq.elim)
    obtain ⟨w', H', J', rv, rfl, e⟩ := hq
    have un0 : Un (frs X.stack) [] (dropH H2 c) H' s2.heap s'.heap := J'.base
    have hcfr : c ∉ frs X.stack := fun z => by
      have := I2.env0.frf c z
      rw [k.c] at this; cases this
    have hc' : s'.heap.get? c = some co := un0.keep c co hco dropH_c hcfr (by simp)
    have hcn : H' c = none := un0.free c co hco dropH_c (by simp)
    refine ⟨.bl true, upd H' c (NdO c co), J'.os, J'.bare, un_add un0 k.c hcn, hok_add J'.hok hcn hc', rv, q _ fun b o hb => ?_⟩
    by_cases hbc : b = c
    · rw [hbc, k.c] at hb
      rw [hbc, upd_same]
      exact hb
    · rw [upd_ne hbc]
      exact e _ _ (by rw [dropH_ne hbc]; exact hb)
  refine wpAny_call (codeAny_mono rc fun r s' hq => ?_)
  cases r with
  | error e => exact (pass0 : Passes CX0 X E0) pins σ H2 s2 e s' I2 hq
  | ok fl =>
    cases fl with
    | ret u => exact I2.after hq
    | next => exact False.elim hq
    | brk => exact False.elim hq
    | cont => exact False.elim hq
end
end K61
end

section
set_option Elab.async false
set_option linter.all false
set_option maxRecDepth 100000
set_option maxHeartbeats 4000000
namespace K61
open PySem PySem.Spec PyProof.Rows L2 Evl RZ
local macro_rules | `(tactic| walk_at "evs") => `(tactic| first
  | exact ed_int | exact ed_str | exact ed_bl | exact ed_non
  | exact ed_var ⟨_, rfl, by first | assumption | exact .int _ | exact .str _ | exact .bl _ | exact .non⟩
  | exact ed_top (W0.t_ZERO (by assumption)) | exact ed_top (W0.t_ONE (by assumption))
  | refine ed_I0 ?_ ?_ | refine ed_B0 ?_ ?_ | refine ed_I ?_ ?_ ?_
  | refine ed_call ?_ ?_ | refine eds_cons ?_ ?_ | exact eds_nil
  | ((apply ed_ixT); (focus (walk_at "ev"; done)); (focus (walk_at "ev"; done)); (focus (exact rfl)); done)
  | ((apply ed_ixL); (focus (walk_at "ev"; done)); (focus (walk_at "ev"; done)); (focus (exact rfl)); done)
  | refine ed_tup ?_ ?_ | refine ed_lst ?_ ?_
  | ((refine ed_lenL ?_); (walk_at "ev"); done) | ((refine ed_lenT ?_); (walk_at "ev"); done) | refine ed_lenS ?_ ?_
  | refine ed_abs ?_ | ((refine ed_intI ?_); (walk_at "ev"); done) | refine ed_intB ?_ | refine ed_isi ?_ ?_
  | ((refine ed_eqI ?_ ?_ <;> walk_at "ev"); done) | ((refine ed_eqS ?_ ?_ <;> walk_at "ev"); done) | refine ed_neS ?_ ?_
  | refine ed_eqD ?_ ?_ ?_ ?_ | refine ed_neD ?_ ?_ ?_ ?_ | refine ed_ltD ?_ ?_ ?_ ?_ ?_
  | refine ed_isN ?_ | refine ed_notN ?_
  | refine ed_chain ?_ ?_ ?_ | refine ed_not ?_ | refine ed_and ?_ ?_ | refine ed_or ?_ ?_
  | refine ed_catS ?_ ?_ ?_ | refine ed_catT ?_ ?_ ?_
  | refine etk_D ?_ | refine etk_DB ?_ | refine etk_not ?_ | refine etk_and ?_ ?_ | refine etk_or ?_ ?_
  | exact rfl | assumption | omega | refine (fun (_ : _ = true) => ?_) | refine (fun (_ : _ = false) => ?_))
local macro_rules | `(tactic| walk_at "ev") => `(tactic| (walk_at "evs" <;> (try walk_at "ev")))

/-- a row of shares -/
structure Row where
  ws : List Int
  ns : List Int
  q : Rat
def placeD (r : Row) : PD := pair2 (tI r.ws) (tI r.ns)
def shareD (r : Row) : PD := pair2 (placeD r) (rt r.q)
structure okShares (ss : List Int) (rows : List Row) : Prop where
  c : ∀ r ∈ rows, okContent ss r.ws
  p : ∀ r ∈ rows, r.ns = [] ∨ r.ns = [0]
  pos : ∀ r ∈ rows, 0 < r.q.num
  sm : ∀ r ∈ rows, small r.q
  sums : ∀ i, small (sumR ((rows.map (·.q)).take i))
  one : sumR (rows.map (·.q)) = 1
  asc : ∀ i r r', rows[i]? = some r → rows[i + 1]? = some r' → PySem.W.dataLt (placeD r) (placeD r') = true
  n : rows.length ≤ 100
theorem alike_place {r r' : Row} : PySem.W.alike (placeD r) (placeD r') = true := by
  unfold placeD pair2 tI
  simp [PySem.W.alike, PySem.W.alikeAll, PySem.W.alike_ints]
theorem depth_place {r : Row} : (placeD r).depth ≤ 60 := by
  unfold placeD pair2 tI
  simp [PyData.depth, PyData.depthAll, PySem.W.depth_ints]
def lastD (rows : List Row) : Nat → PD
  | 0 => .none
  | j + 1 => match rows[j]? with | some r => placeD r | none => .none
theorem lastD_succ {rows : List Row} {j : Nat} {r : Row} (h : rows[j]? = some r) : lastD rows (j + 1) = placeD r := by simp [lastD, h]
section
variable {P : Program} {w : World} {K : PySem.W.Frag} {mg : Str → Option Value} {base : Heap} {σ : L2.St} {H : Hp} {te : TE}
theorem ed_key {i : Nat} {f : Addr} {ss ws ns : List Int} (hs : σ[i]? = some (some (.ref f))) (hk : IsKey K H f ss) (h : EvD K te σ H (pair2 (tI ws) (tI ns))) (h1 : okContent ss ws) (h2 : 0 < ss.length) (h3 : ns = [] ∨ ns = [0]) : EvD K (tKey K i (tCons te tNil)) σ H (.bool true) := fun H1 e Q q =>
  ⟨f, ss, hs, hk.ex e, h H1 e _ fun v H2 e2 hv => ⟨hk.ex (e.trans e2), v, ws, ns, rfl, h1, h2, h3, hv, fun H3 e3 => q _ H3 (e2.trans e3) (.bl true)⟩⟩
/-! ### first_wrong -/
def sp_first_wrong (K : PySem.W.Frag) : Sp := fun vs H Q _ => ∃ x f ss rows, vs = [x, .ref f] ∧ Dp K H x (.tuple (rows.map shareD)) ∧ IsKey K H f ss ∧ 0 < ss.length ∧ okShares ss rows ∧ ∀ H', Ex H H' → Q .non H'
theorem sc_first_wrong : FnScope ["shares", "is_key", "last", "at", "item"] ["shares", "is_key"] (defScope (top 27)) := ⟨rfl, rfl, rfl, by decide +kernel, rfl, by decide +kernel, by decide +kernel⟩
theorem ok_first_wrong (C : W0 P w K mg base) : Cl P w K mg base 6 "first_wrong" ["shares", "is_key"] (sp_first_wrong K) := by
  have o_is_fraction := ok_is_fraction C
  have o_is_pair := ok_is_pair C
  refine Cl.of C.f_first_wrong C.g_first_wrong sc_first_wrong (fun _ _ _ _ _ _ us hl => match us, hl with | [_, _], _ => rfl) (fun vs H Q E h => by obtain ⟨x, f, ss, rows, rfl, _⟩ := h; rfl) fun cdv A outer s H vs Q E hr h => ?_
  obtain ⟨x, f, ss, rows, rfl, h0, hkey, hl, hok, k⟩ := h
  refine ⟨_, (pss_cons (ps_set (i := 2) sc_first_wrong.nd rfl (Or.inl rfl) pe_non)
      (pss_cons (ps_for PassesOwn.never rfl (pi_enumT (by rfl) C.n_enumerate (pa_cons (pv 0) pa_nil)) (pg_tup rfl (pgs_cons (pg_name (i := 3) sc_first_wrong.nd rfl (Or.inl rfl)) (pgs_cons (pg_name (i := 4) sc_first_wrong.nd rfl (Or.inl rfl)) pgs_nil))) (pss_cons (ps_if (PW.pt (pw_or (pt_not (pt_val (pe_cl o_is_pair hr (by decide) rfl (pa_cons (pv 4) pa_nil)))) (pw_or (pt_not (pt_val (pe_key C (hr.mono (by decide)) (i := 1) rfl (Or.inl rfl) (pa_cons (pe_ix ix_tup (pv 4) pe_int (fun _ _ => rfl)) pa_nil)))) (pw_or (pt_not (pt_val (pe_cl o_is_fraction hr (by decide) rfl (pa_cons (pe_ix ix_tup (pv 4) pe_int (fun _ _ => rfl)) pa_nil)))) (pw_or1 (pt_cmpR op_le (pe_ix ix_tup (pe_ix ix_tup (pv 4) pe_int (fun _ _ => rfl)) pe_int (fun _ _ => rfl)) pe_int (nomark _))))))) (pss_one (ps_ret (pv 3))) pss_nil)
      (pss_cons (ps_if (PW.pt (pw_and (pt_cmpR op_notN (pv 2) pe_non (nomark _)) (pw_and1 (pt_not (pt_cmpR (op_ltD hr.units) (pv 2) (pe_ix ix_tup (pv 4) pe_int (fun _ _ => rfl)) (nomark _)))))) (pss_one (ps_ret (pv 3))) pss_nil)
      (pss_one (ps_set (i := 2) sc_first_wrong.nd rfl (Or.inl rfl) (pe_ix ix_tup (pv 4) pe_int (fun _ _ => rfl)))))))
      (pss_one (ps_ret pe_non)))), ?_⟩
  refine qd_asg (K := K) (d := .none) ed_non fun v2 H1 e1 h2 => ?_
  have h0 := h0.ex e1
  have hkey := hkey.ex e1
  refine qd_for (wk_enumT (ed_var ⟨_, rfl, h0⟩)) (fun i σ' H' => ∃ l z1 z2, σ' = [some x, some (.ref f), some l, z1, z2] ∧ Dp K H' l (lastD rows i)) (fun H2 e2 => ⟨_, _, _, rfl, h2.ex e2⟩) ?_ ?_
  · rintro H0 e0 i d hd σ' H' e2 ⟨l, z1, z2, rfl, hlst⟩ q H2 e3 hq
    have hi : i < rows.length := by
      have := (List.getElem?_eq_some_iff.mp hd).1
      rwa [enumD_len, List.length_map] at this
    have hr' : rows[i]? = some rows[i] := List.getElem?_eq_getElem hi
    rw [enumD_at (d := shareD rows[i]) (by rw [List.getElem?_map, hr']; rfl)] at hd
    cases hd
    generalize hri : rows[i] = r at hr' hq
    have hm : r ∈ rows := List.mem_of_getElem? hr'
    refine g_pair hq fun x1 x2 hx1 hx2 => ?_
    have hlst := hlst.ex e3
    have hkey := hkey.ex ((e0.trans e2).trans e3)
    have hx2 : Dp K H2 x2 (.tuple [placeD r, rt r.q]) := hx2
    have hp0 : EvD K (tOp (rIxT K) (tVar 4) (tC (.int 0))) [some x, some (.ref f), some l, some x1, some x2] H2 (placeD r) := by walk_at "ev"
    have hp1 : EvD K (tOp (rIxT K) (tVar 4) (tC (.int 1))) [some x, some (.ref f), some l, some x1, some x2] H2 (rt r.q) := by walk_at "ev"
    refine kq_skip K (etk_or (a := false) (b := false) (etk_not (a := true) (etk_D (ed_call (eds_cons (ed_var ⟨_, rfl, hx2⟩) eds_nil) pu_is_pair))) fun _ => etk_or (a := false) (b := false) (etk_not (a := true) (etk_D (ed_key rfl hkey hp0 (hok.c r hm) hl (hok.p r hm)))) fun _ =>
      etk_or (a := false) (b := false) (etk_not (a := true) (etk_D (ed_call (eds_cons hp1 eds_nil) pu_is_fraction))) fun _ => etk_D ((ed_B0 (i := r.q.num) (j := 0) (ed_ixT (ds := [.int r.q.num, .int (r.q.den : Int)]) hp1 ed_int rfl) ed_int).is (by rw [decide_eq_false]; have := hok.pos r hm; omega))) fun H3 e4 => ?_
    refine kq_skip K ?_ fun H4 e5 => ?_
    · match i, hi, hri, hr', hlst with
      | 0, _, _, _, hlst => exact etk_and (a := false) (b := false) (etk_D (ed_notN (d := .none) (ed_var ⟨_, rfl, hlst.ex e4⟩))) fun h => nomatch h
      | j + 1, hi, hri, hr', hlst =>
        have hj : rows[j]? = some rows[j] := List.getElem?_eq_getElem (by omega)
        have hlst : Dp K H3 l (placeD rows[j]) := by
          have := hlst.ex e4
          rw [lastD_succ hj] at this
          exact this
        refine etk_and (a := true) (b := false) (etk_D (ed_notN (d := placeD rows[j]) (ed_var ⟨_, rfl, hlst⟩))) fun _ => etk_not (a := true) (etk_D ((ed_ltD (ed_var ⟨_, rfl, hlst⟩) (hp0.mono e4) alike_place (by unfold placeD pair2; simp) depth_place).is ?_))
        rw [hok.asc j _ _ hj hr']
    · refine sd_asg (K := K) (d := placeD r) (hp0.mono (e4.trans e5)) fun v H5 e6 hv => ⟨(((e2.trans e3).trans e4).trans e5).trans e6, _, _, _, rfl, ?_⟩
      rw [lastD_succ hr']
      exact hv
  · rintro σ' H' e2 _
    exact sd_ret (K := K) (d := .none) ed_non fun v H4 e4 hv => by rw [hv.non_inv]; exact k H4 ((e1.trans e2).trans e4)
/-! ### first_bad -/
def sp_first_bad (K : PySem.W.Frag) : Sp := fun vs H Q _ => ∃ x y f ss rows, vs = [x, y, .ref f] ∧ Dp K H x (tI ss) ∧ okSizes ss ∧ Dp K H y (.tuple (rows.map shareD)) ∧ IsKey K H f ss ∧ okShares ss rows ∧ ∀ H', Ex H H' → Q .non H'
theorem tfrs_map {α : Type} {l : List α} {f : α → PD} (h : ∀ a ∈ l, tfr (f a) = true) : tfrs (l.map f) = true := tfrs_mem fun d hd => by obtain ⟨a, ha, rfl⟩ := List.mem_map.mp hd; exact h a ha
theorem sc_first_bad : FnScope ["sizes", "shares", "is_key", "wrong", "key", "share"] ["sizes", "shares", "is_key"] (defScope (top 28)) := ⟨rfl, rfl, rfl, by decide +kernel, rfl, by decide +kernel, by decide +kernel⟩
theorem ok_first_bad (C : W0 P w K mg base) : Cl P w K mg base 7 "first_bad" ["sizes", "shares", "is_key"] (sp_first_bad K) := by
  have o_add_all := ok_add_all C
  have o_first_wrong := ok_first_wrong C
  have o_is_sizes := ok_is_sizes C
  refine Cl.of C.f_first_bad C.g_first_bad sc_first_bad (fun _ _ _ _ _ _ us hl => match us, hl with | [_, _, _], _ => rfl) (fun vs H Q E h => by obtain ⟨x, y, f, ss, rows, rfl, _⟩ := h; rfl) fun cdv A outer s H vs Q E hr h => ?_
  obtain ⟨x, y, f, ss, rows, rfl, h0, hss, h1, hkey, hok, k⟩ := h
  refine ⟨_, (pss_cons (ps_if (pt_not (pt_val (pe_cl o_is_sizes hr (by decide) rfl (pa_cons (pv 0) pa_nil)))) (pss_one (ps_ret pe_str)) pss_nil)
      (pss_cons (ps_if (pt_not (pt_val (pe_isi (Tn := "tuple") C.n_isinstance C.n_tuple (pv 1)))) (pss_one (ps_ret pe_str)) pss_nil)
      (pss_cons (ps_set (i := 3) sc_first_bad.nd rfl (Or.inl rfl) (pe_cl o_first_wrong hr (by decide) rfl (pa_cons (pv 1) (pa_cons (pv 2) pa_nil))))
      (pss_cons (ps_if (pt_cmpR op_notN (pv 3) pe_non (nomark _)) (pss_one (ps_ret (pv 3))) pss_nil)
      (pss_one (ps_ret (pe_ifExp (pt_cmpR (op_eqD hr.units) (pe_cl o_add_all hr (by decide) rfl (pa_cons (pe_lc (own := [("key", 4), ("share", 5)]) rfl sc_first_bad.nd (pi_tup (pv 1)) (blkOk_by (N := ["sizes", "shares", "is_key", "wrong", "key", "share"]) (sc := (defScope (top 28))) (own := [("key", 4), ("share", 5)]) (by decide +kernel)) (fun _ _ _ _ _ => (pg_tupK (K0 := K) (n := 2) rfl rfl (pgs_cons (pg_name (i := 4) sc_first_bad.nd rfl (Or.inl rfl)) (pgs_cons (pg_name (i := 5) sc_first_bad.nd rfl (Or.inl rfl)) pgs_nil)))) (fun _ _ _ _ _ => pts_nil) (fun _ _ _ _ _ => (pv 5))) pa_nil)) (C8.pe_gc rfl C.c_ONE) (nomark _)) pe_non pe_str))))))), ?_⟩
  refine kq_skip K (etk_not (a := true) (etk_D (ed_call (eds_cons (ed_var ⟨_, rfl, h0⟩) eds_nil) (pu_is_sizes hss)))) fun H1 e1 => ?_
  have h1 := h1.ex e1
  have hkey := hkey.ex e1
  refine kq_skip K (etk_not (a := true) (etk_D (ed_isi (d := .tuple _) (ed_var ⟨_, rfl, h1⟩) k_tt))) fun H2 e2 => ?_
  have h1 := h1.ex e2
  have hkey := hkey.ex e2
  have hl : 0 < ss.length := by rcases hss with rfl | rfl | rfl <;> simp
  refine qd_asg (K := K) (d := .none) (fun H3 e3 Q q => ⟨y, rfl, .ref f, rfl, y, f, ss, rows, rfl, h1.ex e3, hkey.ex e3, hl, hok, fun H' e => q _ H' e .non⟩) fun v3 H3 e3 h3 => ?_
  have h1 := h1.ex e3
  refine kq_skip K (etk_D (ed_notN (d := .none) (ed_var ⟨_, rfl, h3⟩))) fun H4 e4 => ?_
  have h1 := h1.ex e4
  refine sd_ret (K := K) (d := .none) (ed_if (b := true) (etk_D ((ed_eqD (d := rt 1) (e := rt 1) ?_ (ed_top (W0.t_ONE C)) rfl rfl).is (by congr 1))) (fun _ => ed_non) fun h => nomatch h) fun v H5 e5 hv => by rw [hv.non_inv]; exact k H5 ((((e1.trans e2).trans e3).trans e4).trans e5)
  refine EvD.is (ed_call (eds_cons (d := .list ((rows.map (·.q)).map rt)) ?_ eds_nil) (pu_add_all (qs := rows.map (·.q)) (fun q hq => by obtain ⟨r, hr, rfl⟩ := List.mem_map.mp hq; exact hok.sm r hr) hok.sums)) (by rw [hok.one])
  refine (ed_lcAPM (xs := rows) (f1 := placeD) (f2 := fun r => rt r.q) (g := fun r => rt r.q) (wk_tup (ed_var ⟨_, rfl, h1⟩)) (by have := hok.n; omega) (fun _ _ => tfr_rt) (fun _ _ => rfl) fun H5 e5 r hr u v hu hv => ed_var ⟨_, rfl, hv⟩).is (by rw [List.map_map]; rfl)
end
end K61
end

section
set_option Elab.async false
set_option linter.all false
set_option maxRecDepth 100000
set_option maxHeartbeats 4000000
namespace K61
open PySem PySem.Spec PyProof.Rows L2 Evl RZ
local macro_rules | `(tactic| walk_at "evs") => `(tactic| first
  | exact ed_int | exact ed_str | exact ed_bl | exact ed_non
  | exact ed_var ⟨_, rfl, by first | assumption | exact .int _ | exact .str _ | exact .bl _ | exact .non⟩
  | exact ed_top (W0.t_ZERO (by assumption)) | exact ed_top (W0.t_ONE (by assumption))
  | refine ed_I0 ?_ ?_ | refine ed_B0 ?_ ?_ | refine ed_I ?_ ?_ ?_
  | refine ed_call ?_ ?_ | refine eds_cons ?_ ?_ | exact eds_nil
  | ((apply ed_ixT); (focus (walk_at "ev"; done)); (focus (walk_at "ev"; done)); (focus (exact rfl)); done)
  | ((apply ed_ixL); (focus (walk_at "ev"; done)); (focus (walk_at "ev"; done)); (focus (exact rfl)); done)
  | refine ed_tup ?_ ?_ | refine ed_lst ?_ ?_
  | ((refine ed_lenL ?_); (walk_at "ev"); done) | ((refine ed_lenT ?_); (walk_at "ev"); done) | refine ed_lenS ?_ ?_
  | refine ed_abs ?_ | ((refine ed_intI ?_); (walk_at "ev"); done) | refine ed_intB ?_ | refine ed_isi ?_ ?_
  | ((refine ed_eqI ?_ ?_ <;> walk_at "ev"); done) | ((refine ed_eqS ?_ ?_ <;> walk_at "ev"); done) | refine ed_neS ?_ ?_
  | refine ed_eqD ?_ ?_ ?_ ?_ | refine ed_neD ?_ ?_ ?_ ?_ | refine ed_ltD ?_ ?_ ?_ ?_ ?_
  | refine ed_isN ?_ | refine ed_notN ?_
  | refine ed_chain ?_ ?_ ?_ | refine ed_not ?_ | refine ed_and ?_ ?_ | refine ed_or ?_ ?_
  | refine ed_catS ?_ ?_ ?_ | refine ed_catT ?_ ?_ ?_
  | refine etk_D ?_ | refine etk_DB ?_ | refine etk_not ?_ | refine etk_and ?_ ?_ | refine etk_or ?_ ?_
  | exact rfl | assumption | omega | refine (fun (_ : _ = true) => ?_) | refine (fun (_ : _ = false) => ?_))
local macro_rules | `(tactic| walk_at "ev") => `(tactic| (walk_at "evs" <;> (try walk_at "ev")))

section
variable {P : Program} {w : World} {K : PySem.W.Frag} {mg : Str → Option Value} {base : Heap} {σ : L2.St} {H : Hp} {td ty tv tx : TE} {D : Ends}
theorem ed_nget {i : Nat} {d : Addr} {kvs : List (PD × Int)} {k : PD} {n : Int} (hs : σ[i]? = some (some (.ref d))) (hn : Nd P w K H d kvs) (hk : EvD K ty σ H k) (tk : tupK k) (hg : getN kvs k = some n) : EvD K (tNGet P w K (tVar i) ty) σ H (.int n) := fun H1 e Q q =>
  ⟨_, hs, hk H1 e _ fun v H2 e2 hv => ⟨d, kvs, k, n, rfl, hn.ex (e.trans e2), tk, hv, hg, q _ H2 e2 (.int n)⟩⟩
theorem ed_nget2 {i : Nat} {d : Addr} {kvs : List (PD × Int)} {k : PD} {n : Int} (hs : σ[i]? = some (some (.ref d))) (hn : Nd P w K H d kvs) (hk : EvD K ty σ H k) (tk : tupK k) (hx : EvD K tx σ H (.int n)) : EvD K (tNGet2 P w K (tVar i) ty tx) σ H (.int ((getN kvs k).getD n)) := fun H1 e Q q =>
  ⟨_, hs, d, kvs, rfl, hn.ex e, hk H1 e _ fun v H2 e2 hv => hx H2 (e.trans e2) _ fun z H3 e3 hz => ⟨kvs, k, n, hn.ex ((e.trans e2).trans e3), tk, hv.ex e3, hz.int_inv, q _ H3 (e2.trans e3) (.int _)⟩⟩
theorem sd_nput {i : Nat} {d : Addr} {kvs : List (PD × Int)} {k : PD} {n : Int} (hs : σ[i]? = some (some (.ref d))) (hn : Nd P w K H d kvs) (hv : EvD K tv σ H (.int n)) (hk : EvD K ty σ H k) (tk : tupK k) (hl : kvs.length < 1000) (hf : ∀ p ∈ kvs, tfr p.1 = true) (hfk : tfr k = true)
    (q : ∀ o H1, Ex H H1 → Nd P w K (upd H1 d (NdO d o)) d (putN kvs k n) → D.nx σ (upd H1 d (NdO d o))) : sNPut P w K (tVar i) ty tv D σ H :=
  hv H (Ex.refl H) _ fun v H1 e1 hv' => ⟨_, hs, hk H1 e1 _ fun y H2 e2 hy => ⟨d, kvs, k, n, rfl, hn.ex (e1.trans e2), hl, hf, hfk, tk, hy, hv'.int_inv, fun o h => q o H2 (e1.trans e2) h⟩⟩
theorem ed_sortN {i : Nat} {d : Addr} {kvs : List (PD × Int)} (hs : σ[i]? = some (some (.ref d))) (hn : Nd P w K H d kvs) (h : S0 (kvs.map (·.1))) : EvF K (tCB (fun xs H Q => ∃ d kvs, xs = [.ref d] ∧ Nd P w K H d kvs ∧ S0 (kvs.map (·.1)) ∧
    ∀ p vs, H p = none → DpAll K H vs ((kvs.map (·.1)).mergeSort (PySem.W.dataLe false id)) → Q (.ref p) (upd H p (.lst vs))) (tCons (tVar i) tNil)) σ H ((kvs.map (·.1)).mergeSort (PySem.W.dataLe false id)) := fun H1 e Q q =>
  ⟨_, hs, d, kvs, rfl, hn.ex e, h, fun p vs hp hv => q p vs _ (Ex.new hp) hp upd_same (hv.ex (Ex.new hp))⟩
/-- how often each pattern stands -/
def tally (ps : List (List Int)) : List (PD × Int) := ps.foldl (fun kvs p => putN kvs (tI p) ((getN kvs (tI p)).getD 0 + 1)) []
theorem tally_snoc {ps : List (List Int)} {p : List Int} : tally (ps ++ [p]) = putN (tally ps) (tI p) ((getN (tally ps) (tI p)).getD 0 + 1) := by unfold tally; rw [List.foldl_append]; rfl
theorem keyDs_ints {ns : List Int} : keyDs (ns.map PyData.int) = true := by
  induction ns with
  | nil => simp [keyDs]
  | cons n ns ih => simp [keyDs, keyD, ih]
theorem depthAll_ints {ns : List Int} : NestedKey.depthAll (nks (ns.map PyData.int)) = 0 := by
  induction ns with
  | nil => simp [nks, NestedKey.depthAll]
  | cons n ns ih => simp [nks, nk, NestedKey.depthAll, NestedKey.depth, ih]
theorem tupK_tI {ns : List Int} : tupK (tI ns) := ⟨by unfold tI; simp [keyD, keyDs_ints], by unfold tI; simp [nk, NestedKey.depth, depthAll_ints], _, rfl⟩
theorem putN_keys {kvs : List (PD × Int)} {k : PD} {n : Int} {Pk : PD → Prop} (h : ∀ p ∈ kvs, Pk p.1) (hk : Pk k) : ∀ p ∈ putN kvs k n, Pk p.1 := by
  unfold putN
  split
  · intro p hp
    obtain ⟨a, ha, rfl⟩ := List.mem_map.mp hp
    split
    · exact h a ha
    · exact h a ha
  · intro p hp
    rcases List.mem_append.mp hp with hp | hp
    · exact h p hp
    · have : p = (k, n) := by simpa using hp
      subst this
      exact hk
theorem tally_keys : ∀ {ps : List (List Int)}, ∀ p ∈ tally ps, ∃ ns, p.1 = tI ns := by
  intro ps
  unfold tally
  have all : ∀ (ps : List (List Int)) (kvs : List (PD × Int)), (∀ p ∈ kvs, ∃ ns, p.1 = tI ns) → ∀ p ∈ ps.foldl (fun kvs p => putN kvs (tI p) ((getN kvs (tI p)).getD 0 + 1)) kvs, ∃ ns, p.1 = tI ns := by
    intro ps
    induction ps with
    | nil => intro kvs h; exact h
    | cons p ps ih => intro kvs h; exact ih _ (putN_keys (Pk := fun k => ∃ ns, k = tI ns) h ⟨p, rfl⟩)
  exact all ps [] (by simp)
theorem tally_len : ∀ {ps : List (List Int)}, (tally ps).length ≤ ps.length := by
  intro ps
  have all : ∀ (ps : List (List Int)) (kvs : List (PD × Int)), (ps.foldl (fun kvs p => putN kvs (tI p) ((getN kvs (tI p)).getD 0 + 1)) kvs).length ≤ kvs.length + ps.length := by
    intro ps
    induction ps with
    | nil => intro kvs; exact Nat.le_refl _
    | cons p ps ih =>
      intro kvs
      have := putN_len (kvs := kvs) (k := tI p) (n := (getN kvs (tI p)).getD 0 + 1)
      refine Nat.le_trans (ih _) ?_
      show (putN kvs (tI p) ((getN kvs (tI p)).getD 0 + 1)).length + ps.length ≤ kvs.length + (ps.length + 1)
      omega
  have := all ps []
  rw [List.length_nil, Nat.zero_add] at this
  exact this
structure okEven (ss : List Int) (ps : List (List Int)) : Prop where
  s : S0 ((tally ps).map (·.1))
  c : ∀ p ∈ tally ps, getN (tally ps) p.1 = some ((contentsI ss).length : Int)
def sp_uneven_pattern (K : PySem.W.Frag) : Sp := fun vs H Q _ => ∃ (x y : V) (ss : List Int) (rows : List Row), vs = [x, y] ∧ Dp K H x (tI ss) ∧ okSizes ss ∧ Dp K H y (.tuple (rows.map shareD)) ∧ rows.length ≤ 100 ∧ okEven ss (rows.map (·.ns)) ∧ ∀ H', Ex H H' → Q .non H'
theorem sc_uneven_pattern : FnScope ["sizes", "shares", "many", "place", "share", "pattern"] ["sizes", "shares"] (defScope (top 30)) := ⟨rfl, rfl, rfl, by decide +kernel, rfl, by decide +kernel, by decide +kernel⟩
theorem ok_uneven_pattern (C : W0 P w K mg base) : Cl P w K mg base 3 "uneven_pattern" ["sizes", "shares"] (sp_uneven_pattern K) := by
  have o_contents_of := ok_contents_of C
  refine Cl.of C.f_uneven_pattern C.g_uneven_pattern sc_uneven_pattern (fun _ _ _ _ _ _ us hl => match us, hl with | [_, _], _ => rfl) (fun vs H Q E h => by obtain ⟨x, y, ss, rows, rfl, _⟩ := h; rfl) fun cdv A outer s H vs Q E hr h => ?_
  obtain ⟨x, y, ss, rows, rfl, h0, hss, h1, hn, hev, k⟩ := h
  refine ⟨_, (pss_cons (ps_set (i := 2) sc_uneven_pattern.nd rfl (Or.inl rfl) pe_nnew)
      (pss_cons (ps_for PassesOwn.never rfl (pi_tup (pv 1)) (pg_tup rfl (pgs_cons (pg_name (i := 3) sc_uneven_pattern.nd rfl (Or.inl rfl)) (pgs_cons (pg_name (i := 4) sc_uneven_pattern.nd rfl (Or.inl rfl)) pgs_nil))) (pss_one (ps_nput (P := P) (w := w) (K := K) rfl rfl rfl hr.units (pv 2) (pe_ix ix_tup (pv 3) pe_int (fun _ _ => rfl)) (pe_op op_add (pe_nget2 (P := P) (w := w) (K := K) rfl rfl rfl hr.units (pv 2) (pe_ix ix_tup (pv 3) pe_int (fun _ _ => rfl)) pe_int ⟨by rfl, by rfl, by rfl, by rfl⟩) pe_int) rfl)))
      (pss_cons (ps_for PassesOwn.never rfl (pi_list (pe_callB (cr_sortN (P := P) (w := w) (K := K) rfl rfl rfl rfl hr.units) (by rfl) C.n_sorted (by decide +kernel) (pa_cons (pv 2) pa_nil))) (pg_name (i := 5) sc_uneven_pattern.nd rfl (Or.inl rfl)) (pss_one (ps_if (pt_cmpR op_lt (pe_nget (P := P) (w := w) (K := K) rfl rfl rfl hr.units (pv 2) (pv 5) (fun _ _ => rfl)) (pe_callB call_len_seq (by rfl) C.n_len (by decide +kernel) (pa_cons (pe_cl o_contents_of hr (by decide) rfl (pa_cons (pv 0) pa_nil)) pa_nil)) (nomark _)) (pss_one (ps_ret (pv 5))) pss_nil)))
      (pss_one (ps_ret pe_non))))), ?_⟩
  refine fun d o hd hlo hf => ?_
  have e1 : Ex H (upd H d (NdO d o)) := Ex.new hd
  refine qd_forV (K := K) (G := H) e1 (wv_tup ⟨_, rfl, h1⟩) (fun i σ' H' => ∃ z1 z2, σ' = [some x, some y, some (.ref d), z1, z2, none] ∧ Nd P w K H' d (tally ((rows.map (·.ns)).take i))) ⟨_, _, rfl, o, [], upd_same, hlo, hf, by simp [tally], .nil⟩ ?_ ?_
  · rintro i dd hdd σ' H' e2 ⟨z1, z2, rfl, hnd⟩ q H2 e3 hq
    rw [List.getElem?_map] at hdd
    obtain ⟨r, hr, rfl⟩ := Option.map_eq_some_iff.mp hdd
    refine g_pair hq fun x1 x2 hx1 hx2 => ?_
    have hnd := hnd.ex e3
    have hx1 : Dp K H2 x1 (.tuple [tI r.ws, tI r.ns]) := hx1
    obtain ⟨hi, hri⟩ := List.getElem?_eq_some_iff.mp hr
    have hp : EvD K (tOp (rIxT K) (tVar 3) (tC (.int 1))) [some x, some y, some (.ref d), some x1, some x2, none] H2 (tI r.ns) := by walk_at "ev"
    refine sd_nput (d := d) (kvs := tally ((rows.map (·.ns)).take i)) (k := tI r.ns) (n := (getN (tally ((rows.map (·.ns)).take i)) (tI r.ns)).getD 0 + 1) rfl hnd (ed_I0 (ed_nget2 rfl hnd hp tupK_tI ed_int) ed_int) hp tupK_tI ?_ ?_ tfr_tI fun o' H3 e4 hnd' => ⟨Ex.mut ((e2.trans e3).trans e4) hd, _, _, rfl, ?_⟩
    · exact Nat.lt_of_le_of_lt tally_len (by rw [List.length_take, List.length_map]; omega)
    · intro p hp
      obtain ⟨ns, e⟩ := tally_keys p hp
      rw [e]
      exact tfr_tI
    · have e : (rows.map (·.ns)).take (i + 1) = (rows.map (·.ns)).take i ++ [r.ns] := by
        rw [List.take_succ_eq_append_getElem (by rw [List.length_map]; exact hi), List.getElem_map, hri]
      rw [e, tally_snoc]
      exact hnd'
  · rintro σ' H' e2 ⟨z1, z2, rfl, hnd⟩
    rw [List.length_map, List.take_of_length_le (by rw [List.length_map]; exact Nat.le_refl _)] at hnd
    have hm : ∀ dk ∈ ((tally (rows.map (·.ns))).map (·.1)).mergeSort (PySem.W.dataLe false id), getN (tally (rows.map (·.ns))) dk = some ((contentsI ss).length : Int) ∧ ∃ ns, dk = tI ns := fun dk hdk => by
      have := List.mem_mergeSort.mp hdk
      obtain ⟨p, hp, rfl⟩ := List.mem_map.mp this
      exact ⟨hev.c p hp, tally_keys p hp⟩
    refine qd_for (K := K) (wk_list (ed_sortN rfl hnd hev.s).ed) (fun i σ' H' => ∃ z3, σ' = [some x, some y, some (.ref d), z1, z2, z3] ∧ Ex H H' ∧ Nd P w K H' d (tally (rows.map (·.ns)))) (fun H3 e3 => ⟨_, rfl, e2.trans e3, hnd.ex e3⟩) ?_ ?_
    · rintro H0 e0 i dd hdd σ' H3 e3 ⟨z3, rfl, eH, hnd⟩ q H4 e4 hq
      obtain ⟨hg, ns, rfl⟩ := hm dd (List.mem_of_getElem? hdd)
      have hnd := hnd.ex e4
      have h0 := h0.ex (eH.trans e4)
      refine ks_when K (b := false) (etk_D ((ed_B0 (i := ((contentsI ss).length : Int)) (j := (((contentsI ss).map tI).length : Int)) (ed_nget rfl hnd (ed_var ⟨_, rfl, hq⟩) tupK_tI hg) (ed_lenL (ed_call (eds_cons (ed_var ⟨_, rfl, h0⟩) eds_nil) (pu_contents_of hss)))).is (by rw [List.length_map, decide_eq_false (by omega)]))) (fun h => nomatch h) fun _ H5 e5 => ⟨(e3.trans e4).trans e5, _, rfl, (eH.trans e4).trans e5, hnd.ex e5⟩
    · rintro σ' H3 e3 ⟨z3, rfl, eH, hnd⟩
      exact sd_ret (K := K) (d := .none) ed_non fun v H4 e4 hv => by rw [hv.non_inv]; exact k H4 (eH.trans e4)
end
end K61
end

section
set_option Elab.async false
set_option linter.all false
set_option maxRecDepth 100000
set_option maxHeartbeats 4000000
/-! Kl3: the lambda is made; the call that gets it. -/
namespace K61
open PySem PySem.Spec PyProof.Rows L2 Evl LamX
theorem lam_clo {cells : List (Str × Addr)} {c : Addr} (h : cells.lookup ("sizes" : Str) = some c) : cloFrom cells lamS.names [] = [(("sizes" : Str), c)] := by
  rw [lam_names]
  simp only [cloFrom]
  rw [if_neg (by decide), if_pos (by decide), if_neg (by decide), h]
  rfl
theorem Dp.exN {K : PySem.W.Frag} {H H' : Hp} (e : ExtN H H') {v : V} {d : PD} (h : Dp K H v d) : Dp K H' v d := by
  have e' : Ex (fun b => match H b with | some (.tbl _) => none | o => o) H' := fun b o hb => by
    have hb : (match H b with | some (.tbl _) => none | o => o) = some o := hb
    cases hH : H b with
    | none => rw [hH] at hb; cases hb
    | some u =>
      rw [hH] at hb
      have : u = o ∧ ∀ ps, u ≠ .tbl ps := by
        cases u <;> simp at hb <;> exact ⟨hb, fun ps z => by cases z⟩
      obtain ⟨rfl, hn⟩ := this
      exact e b u hH hn
  have go : Dp K (fun b => match H b with | some (.tbl _) => none | o => o) v d := by
    have rd : ∀ {a : Addr} {u : HO}, (∀ ps, u ≠ .tbl ps) → Rd H a u → Rd (fun b => match H b with | some (.tbl _) => none | o => o) a u := fun {a u} hn h => by
      rcases h with h | ⟨o, h⟩
      · refine .inl ?_
        show (match H a with | some (.tbl _) => none | o => o) = some u
        rw [h]
        cases u <;> first | rfl | exact absurd rfl (hn _)
      · refine .inr ⟨o, ?_⟩
        show (match H a with | some (.tbl _) => none | o => o) = some (.frz o u)
        rw [h]
    have key : (∀ {v : V} {d : PD}, Dp K H v d → Dp K (fun b => match H b with | some (.tbl _) => none | o => o) v d) := by
      intro v d h
      refine Dp.rec (motive_1 := fun v d _ => Dp K (fun b => match H b with | some (.tbl _) => none | o => o) v d) (motive_2 := fun vs ds _ => DpAll K (fun b => match H b with | some (.tbl _) => none | o => o) vs ds) .non (fun b => .bl b) (fun i => .int i) (fun x => .str x) (fun h _ r => ?_) (fun h _ r => ?_) .nil (fun _ _ a b => .cons a b) h
      · exact .lst (h.elim (fun h => .inl (rd (fun ps z => by cases z) h)) .inr) r
      · exact .tup (h.elim (fun h => .inl (rd (fun ps z => by cases z) h)) .inr) r
    exact key h
  exact go.ex e'
section
variable {X : Cx} {pins : List (Addr × Obj)} {σ : L2.St} {H : Hp} {s : Shared}
theorem tabS_grown {P c' : Addr} {q : Str} {ps : Array Value} {H1 : Hp} {p1 p2 : Nat} (hP : H P = some (.tbl ps)) (ht : TriplesOk ps.toList) (ha : ∀ (pos : Pos) (cv : Value), codeAmong pos ps.toList = some cv → ∃ c, cv = .ref c ∧ H c = some (CodeO c q)) (hE : ExtN H H1) {pos : Pos}
    (h1 : H1 P = some (.tbl (ps ++ #[rawInt pos.line, rawInt pos.col, .ref c']))) (h2 : H1 c' = some (CodeO c' q)) : TabS H1 P q := by
  have eL : (ps ++ #[rawInt pos.line, rawInt pos.col, .ref c']).toList = ps.toList ++ [rawInt pos.line, rawInt pos.col, .ref c'] := by simp
  refine ⟨_, h1, by rw [eL]; exact PySem.TriplesOk_snoc _ _ _ _ ht, fun p' cv hcv => ?_⟩
  rw [eL] at hcv
  rcases among_app _ ht hcv with z | z
  · obtain ⟨c0, e1, e2⟩ := ha p' cv z
    exact ⟨c0, e1, hE _ _ e2 codeO_ne⟩
  · exact ⟨c', z, h2⟩
def tLam (P : Addr) (q : Str) (c : Addr) : TE := fun _ H Q => TabS H P q ∧ ∀ f c' pm ctv H1, ExtN H H1 → TabS H1 P q → H f = none → H1 f = some (NdO f (PySem.W.kla_obj "<lambda>" q lamA lamB lamS [("sizes", c)] pm c' ctv)) → H1 c' = some (CodeO c' q) → Q (.ref f) H1
theorem pe_lam {cd P c : Addr} (TB : TabB X.base X.mg cd P) (hcode : X.env.code = .ref cd) (hc : X.env.cells.lookup ("sizes" : Str) = some c) : PE X lamE (tLam P (X.env.qual ++ "<lambda>") c) := by
  refine ⟨fun pins s σ H Q I h => ?_⟩
  obtain ⟨⟨ps, hP, ht, ha⟩, q⟩ := h
  rw [lamE_eq]
  refine PySem.W.kla_eval rfl ?_
  have bP : s.heap.BuiltinsAt X.mg P := TB.bm.keeps I.bk
  have hP' : s.heap.get? P = some { cls := .none, data := .fields ps } := I.hok P _ hP
  have hclo : closureFor lamS X.env = pure [(("sizes" : Str), c)] := by
    rw [← lam_clo hc]
    refine closure_ok fun y hy hf => ?_
    rw [lam_names] at hy
    simp at hy
    rcases hy with rfl | rfl | rfl
    · cases hf
    · exact ⟨c, hc⟩
    · cases hf
  cases hcA : codeAmong lamP ps.toList with
  | none =>
    refine PySem.W.kla_makeFunction (mg := X.mg) (c := cd) (P := P) (ps := ps) hclo I.ok.glob (I.mod.glob.keeps I.bk) hcode (TB.code.keeps I.bk) hP' ht hcA TB.gP bP fun c' ctv h' tk hx hge hlt hrec htb => ?_
    obtain ⟨c2, oc, vs, t, e2, hoc, hd, hv⟩ := hrec
    cases e2
    have nC : H c' = none := I.hok.fresh hge
    have hsz : s.heap.objs.size ≤ h'.objs.size := Nat.le_trans hge (Nat.le_of_lt hlt)
    have nF : H h'.objs.size = none := I.hok.fresh hsz
    have I1 := inv_table (t' := tk) (more := #[rawInt lamP.line, rawInt lamP.col, .ref c']) (h' := h') I hP (fun b o hb e => hx b o hb e) htb hge ⟨oc, vs, t, hoc, hd, hv⟩
    have I2 := I1.laid (a := h'.objs.size) (t' := tk) (h' := h'.push (PySem.W.kla_obj "<lambda>" (X.env.qual ++ "<lambda>") lamA lamB lamS [("sizes", c)] ((X.mg "__name__").getD .none) c' ctv)) (fun b u e => Heap.get?_push_of_some _ e) (Nat.le_refl _) (extO_ok (Heap.get?_push_size _ rfl))
    have n1 : h'.objs.size ≠ c' := Nat.ne_of_gt hlt
    have n2 : h'.objs.size ≠ P := Nat.ne_of_gt (Nat.lt_of_lt_of_le (Heap.lt_size hP') hsz)
    have nPc : P ≠ c' := ne_of_none hP nC
    have hE : ExtN H (upd (upd (upd H P (.tbl (ps ++ #[rawInt lamP.line, rawInt lamP.col, .ref c']))) c' (CodeO c' (X.env.qual ++ "<lambda>"))) h'.objs.size (NdO h'.objs.size (PySem.W.kla_obj "<lambda>" (X.env.qual ++ "<lambda>") lamA lamB lamS [("sizes", c)] ((X.mg "__name__").getD .none) c' ctv))) := fun b o e n => by
      rw [upd_ne (ne_of_none e nF), upd_ne (ne_of_none e nC), upd_ne (fun z => n ps (Option.some.inj (e.symm.trans (by rw [z]; exact hP))))]
      exact e
    refine ⟨.ref h'.objs.size, _, I2, rfl, q h'.objs.size c' _ ctv _ hE (tabS_grown (p1 := 0) (p2 := 0) (c' := c') (pos := lamP) hP ht ha hE ?_ ?_) nF upd_same ?_⟩
    · rw [upd_ne (Ne.symm n2), upd_ne nPc, upd_same]
    · rw [upd_ne (Ne.symm n1), upd_same]
    · rw [upd_ne (Ne.symm n1), upd_same]
  | some cv =>
    obtain ⟨c', e, hco⟩ := ha lamP cv hcA
    subst e
    refine PySem.W.kla_makeFunctionHit (mg := X.mg) (c := cd) (P := P) (ps := ps) hclo I.ok.glob (I.mod.glob.keeps I.bk) hcode (TB.code.keeps I.bk) hP' ht hcA bP fun ctv h' tk hx hsz => ?_
    have nF : H h'.objs.size = none := I.hok.fresh hsz
    have I1 : Inv X pins σ H { s with heap := h', toks := tk } := I.kept hx
    have I2 := I1.laid (a := h'.objs.size) (t' := tk) (h' := h'.push (PySem.W.kla_obj "<lambda>" (X.env.qual ++ "<lambda>") lamA lamB lamS [("sizes", c)] ((X.mg "__name__").getD .none) c' ctv)) (fun b u e => Heap.get?_push_of_some _ e) (Nat.le_refl _) (extO_ok (Heap.get?_push_size _ rfl))
    have hE : Ex H (upd H h'.objs.size (NdO h'.objs.size (PySem.W.kla_obj "<lambda>" (X.env.qual ++ "<lambda>") lamA lamB lamS [("sizes", c)] ((X.mg "__name__").getD .none) c' ctv))) := Ex.new nF
    exact ⟨.ref h'.objs.size, _, I2, rfl, q h'.objs.size c' _ ctv _ (ExtN.of hE) (TabS.ext ⟨ps, hP, ht, ha⟩ hE) nF upd_same (hE _ _ hco)⟩
end
/-! ### the call, the cell known while it runs -/
theorem un_sub {fs : List Addr} {H H' : Hp} {h h' : Heap} {c : Addr} {co : Obj} (u : Un fs [] (upd H c (NdO c co)) H' h h') (hc : H c = none) (h1 : h.get? c = some co) (h2 : h'.get? c = some co) (hf : c ∉ fs) : Un fs [] H (dropH H' c) h h' where
  keep := fun b o e n hb hx => by
    by_cases z : b = c
    · subst z
      rw [h1] at e; cases e
      exact h2
    · exact u.keep b o e (by rw [upd_ne z]; exact n) hb hx
  slot := fun b o e n hb hx => u.slot b o e (by rw [upd_ne (fun z => hf (by rw [← z]; exact hb))]; exact n) hb hx
  free := fun b o e n hx => by
    by_cases z : b = c
    · rw [z]; exact dropH_c
    · rw [dropH_ne z]
      exact u.free b o e (by rw [upd_ne z]; exact n) hx
  there := u.there
  tups := fun b xs e => by
    have z : b ≠ c := fun z => by rw [z, hc] at e; cases e
    rw [dropH_ne z]
    exact u.tups b xs (by rw [upd_ne z]; exact e)
  frzs := fun b o v e => by
    have z : b ≠ c := fun z => by rw [z, hc] at e; cases e
    rw [dropH_ne z]
    exact u.frzs b o v (by rw [upd_ne z]; exact e)
  tbls := fun b ps e => by
    have z : b ≠ c := fun z => by rw [z, hc] at e; cases e
    rw [dropH_ne z]
    exact u.tbls b ps (by rw [upd_ne z]; exact e)
section
variable {X : Cx} {k j i : Nat} {x y : Str} {ps : List Str} {sp : Sp} {p pos : Pos} {e : Expr} {es : List Expr} {t : TA} {c : Addr}
def tCallC (sp : Sp) (i : Nat) (c : Addr) (t : TA) : TE := fun σ H Q => ∃ v, σ[i]? = some (some v) ∧ t σ H fun vs H1 => ∀ co u, H1 c = none → co.data = .cell (some u) → RelV v u → sp vs (upd H1 c (NdO c co)) (fun r H' => H' c = some (NdO c co) ∧ Q r (dropH H' c)) E0
theorem pe_clC (cl : Cl X.prog X.w X.K X.mg X.base k x ps sp) (hr : Room j X.A) (hk : k ≤ j) (hg : Gl X x) (ha : PA X (e :: es) t) (hN : X.N[i]? = some y) (hy : X.env.kindOf y = some .cell) (hv : Vis X.env.scope y) (hc : X.env.cells.lookup y = some c) (hfn : X.fn y = true)
    (hdb : (x == ("__debug__" : Str)) = false := by decide) (he : starEach (e :: es) X.env = (false, eval e X.env) :: starEach es X.env := by rfl) (hpl : (backTo pos (starEach es X.env)).any (·.1) = false := by rfl) :
    PE X (.Call (.Name x p) (e :: es) [] pos) (tCallC sp i c t) := by
  obtain ⟨f, fd, F, hm, kp, b⟩ := cl.ex
  refine ⟨fun pins s σ H Q I h => ?_⟩
  obtain ⟨v, hs, h⟩ := h
  refine wpAny_Call_Name_kw (ld_glob I hg hm ?_ hdb)
  refine PySem.W.callWith_K (h₀ := X.base) I.ok.mod.kin kp (thn (ha.run pos pins s σ H _ I h) fun us s1 ⟨vs, H1, I1, r, q⟩ => ⟨I1.kIn, ?_⟩) he hpl
  obtain ⟨m, hn, hl⟩ := id I1.loc
  obtain ⟨u, ru, look⟩ := hl i y v hN hs hv
  obtain ⟨co, hco, hcd⟩ : ∃ co, s1.heap.get? c = some co ∧ co.data = .cell (some u) := by
    rcases look with ⟨k0, _⟩ | ⟨_, c1, e1, o, h1, h2⟩
    · rw [hy] at k0; cases k0
    · rw [hc] at e1; cases e1
      exact ⟨o, h1, h2⟩
  have hcn : H1 c = none := I1.freeC y c hc
  have hge : X.s_0.heap.objs.size ≤ c := I1.ok.cab y c hfn hc
  have e0 := I1.env0
  have hcf : c ∉ frs X.stack := fun z => by
    rcases List.mem_cons.mp (I1.stkSub c z) with z | z
    · exact I1.cne y c hc z
    · obtain ⟨_, o, ho, _⟩ := I1.ok.funs.mem z
      exact absurd (Nat.lt_of_lt_of_le (Heap.lt_size ho) hge) (Nat.lt_irrefl _)
  have hq := q co u hcn hcd ru
  have hok := hok_add I1.hok hcn hco
  have e0' : Env0 X.prog X.w X.K X.mg X.base X.A X.stack s1 (upd H1 c (NdO c co)) := ⟨e0.frames, e0.mod, fun b o hb => by
      obtain ⟨h1, h2⟩ := e0.bs b o hb
      refine ⟨h1, ?_⟩
      rw [upd_ne (fun z => by
        have := Heap.lt_size hb
        rw [z] at this
        exact absurd (Nat.lt_of_lt_of_le this (Nat.le_trans I1.ok.bsz hge)) (Nat.lt_irrefl _))]
      exact h2, e0.bsz, e0.funs, fun b hb => by
      rw [upd_ne (fun z => hcf (by rw [← z]; exact hb))]
      exact e0.frf b hb, hok, e0.bare⟩
  have hl : vs.length = ps.length := F.len _ _ _ _ hq
  have hul : us.length = ps.length := by rw [← r.length, hl]
  have bt : BindsTo s1 fd ⟨us, []⟩ (ps.zip us) := by
    have := b s1 us I1.kIn (by rw [List.append_nil]; exact hul)
    rwa [List.append_nil] at this
  refine wpAny_call (codeAny_mono (F.run X.A X.stack s1 _ ⟨us, []⟩ us vs _ E0 (hr.mono hk) e0' bt r hq) fun rr s' hq => ?_)
  cases rr with
  | error e => exact (pass0 : Passes CX0 X E0) pins σ _ s1 e s' I1 (show CX0 X.stack H1 s1 E0 e s' from hq.elim)
  | ok fl =>
    cases fl with
    | ret u' =>
      obtain ⟨w', H', a1, a2, a3, a4, a5, a6, a7⟩ := (show CE X.stack X.prog X.w (upd H1 c (NdO c co)) s1 _ u' s' from hq)
      exact I1.after ⟨w', dropH H' c, a1, a2, un_sub a3 hcn hco (a4 c _ a6).1 hcf, hok_drop a4 a6, a5, a7⟩
    | next => exact False.elim hq
    | brk => exact False.elim hq
    | cont => exact False.elim hq
end
end K61
end

section
set_option Elab.async false
set_option linter.all false
set_option maxRecDepth 100000
set_option maxHeartbeats 4000000
namespace K61
open PySem PySem.Spec PyProof.Rows L2 Evl RZ LamX
local macro_rules | `(tactic| walk_at "evs") => `(tactic| first
  | exact ed_int | exact ed_str | exact ed_bl | exact ed_non
  | exact ed_var ⟨_, rfl, by first | assumption | exact .int _ | exact .str _ | exact .bl _ | exact .non⟩
  | exact ed_top (W0.t_ZERO (by assumption)) | exact ed_top (W0.t_ONE (by assumption))
  | refine ed_I0 ?_ ?_ | refine ed_B0 ?_ ?_ | refine ed_I ?_ ?_ ?_
  | refine ed_call ?_ ?_ | refine eds_cons ?_ ?_ | exact eds_nil
  | ((apply ed_ixT); (focus (walk_at "ev"; done)); (focus (walk_at "ev"; done)); (focus (exact rfl)); done)
  | ((apply ed_ixL); (focus (walk_at "ev"; done)); (focus (walk_at "ev"; done)); (focus (exact rfl)); done)
  | refine ed_tup ?_ ?_ | refine ed_lst ?_ ?_
  | ((refine ed_lenL ?_); (walk_at "ev"); done) | ((refine ed_lenT ?_); (walk_at "ev"); done) | refine ed_lenS ?_ ?_
  | refine ed_abs ?_ | ((refine ed_intI ?_); (walk_at "ev"); done) | refine ed_intB ?_ | refine ed_isi ?_ ?_
  | ((refine ed_eqI ?_ ?_ <;> walk_at "ev"); done) | ((refine ed_eqS ?_ ?_ <;> walk_at "ev"); done) | refine ed_neS ?_ ?_
  | refine ed_eqD ?_ ?_ ?_ ?_ | refine ed_neD ?_ ?_ ?_ ?_ | refine ed_ltD ?_ ?_ ?_ ?_ ?_
  | refine ed_isN ?_ | refine ed_notN ?_
  | refine ed_chain ?_ ?_ ?_ | refine ed_not ?_ | refine ed_and ?_ ?_ | refine ed_or ?_ ?_
  | refine ed_catS ?_ ?_ ?_ | refine ed_catT ?_ ?_ ?_
  | refine etk_D ?_ | refine etk_DB ?_ | refine etk_not ?_ | refine etk_and ?_ ?_ | refine etk_or ?_ ?_
  | exact rfl | assumption | omega | refine (fun (_ : _ = true) => ?_) | refine (fun (_ : _ = false) => ?_))
local macro_rules | `(tactic| walk_at "ev") => `(tactic| (walk_at "evs" <;> (try walk_at "ev")))

section
variable {P : Program} {w : World} {K : PySem.W.Frag} {mg : Str → Option Value} {base : Heap} {σ : L2.St} {H : Hp} {te : TE}
/-- a statement that is never reached -/
theorem ps_never {X : Cx} {st : Stmt} : PS X st (fun _ _ _ => False) := ⟨fun _ _ _ _ _ _ h => h.elim⟩
abbrev wI : He.Defn := ("Whole", some "__init__")
abbrev qL : Str := (("Whole.__init__" : Str) ++ ".<locals>.") ++ "<lambda>"
abbrev tabP (K : PySem.W.Frag) : Addr := (He.cT K wI).2
theorem sc_Whole___init__ : FnScope ["self", "sizes", "shares", "bad"] ["self", "sizes", "shares"] (defScope (inClass (top 31) 0)) := ⟨rfl, rfl, rfl, by decide +kernel, rfl, by decide +kernel, by decide +kernel⟩
def WholeAt (K : PySem.W.Frag) (H : Hp) (a : Addr) (x y : V) : Prop := ∃ dx, H a = some (.ins (He.ga K "Whole") dx (putF "shares" y (putF "sizes" x [])))
def sp_WholeInit (K : PySem.W.Frag) : Sp := fun vs H Q _ => ∃ (self dx : Addr) (x y : V) (ss : List Int) (rows : List Row), vs = [.ref self, x, y] ∧ H self = some (.ins (He.ga K "Whole") dx []) ∧ Dp K H x (tI ss) ∧ okSizes ss ∧ Dp K H y (.tuple (rows.map shareD)) ∧ okShares ss rows ∧ okEven ss (rows.map (·.ns)) ∧ TabS H (tabP K) qL ∧
  ∀ H', (∀ b o, b ≠ self → H b = some o → (∀ ps, o ≠ .tbl ps) → H' b = some o) → WholeAt K H' self x y → Q .non H'
theorem extN_tx {H H' : Hp} (e : ExtN H H') : Tx H H' := ⟨fun b xs h => e b _ h (fun _ z => by cases z), fun b o u h => e b _ h (fun _ z => by cases z)⟩
theorem ok_WholeInit (C : W0 P w K mg base) : ∃ fd, FnOk P w K mg base CX0 9 (He.ma K (He.ga K "Whole") "__init__") fd ["self", "sizes", "shares"] (sp_WholeInit K) ∧ Binds K fd ["self", "sizes", "shares"] [] := by
  have o_first_bad := ok_first_bad C
  have o_uneven_pattern := ok_uneven_pattern C
  have TB : TabB base mg (He.cT K wI).1 (tabP K) := C.tab wI (by simp [tf])
  obtain ⟨fd, F⟩ := C.f_Whole___init__
  refine ⟨fd, ?_, F.bindsN fun _ _ _ _ _ _ us hl => match us, hl with | [_, _, _], _ => rfl⟩
  obtain ⟨oc, od, dV, kV, doc, pm, an, cdv, ct, osl, rfl, lk, hcd, _, _⟩ := F.ex
  obtain ⟨cd, rfl⟩ := He.codeIn_ref hcd
  have hcT : (He.cT K wI).1 = cd := He.codeOf_eq (p := wI) lk rfl
  rw [hcT] at TB
  refine fn_of lk hcd sc_Whole___init__ (fun vs H Q E h => by obtain ⟨self, dx, x, y, ss, rows, rfl, _⟩ := h; rfl) fun A outer s H vs Q E hr h => ?_
  obtain ⟨self, dx, x, y, ss, rows, rfl, hself, h0, hss, h1, hok, hev, hT, k⟩ := h
  obtain ⟨c, hc⟩ := cell_has (sc := defScope (inClass (top 31) 0)) (n := s.heap.objs.size + 1) (x := "sizes") rfl
  refine ⟨_, PSs.nox (pss_cons (ps_set (i := 3) sc_Whole___init__.nd rfl (Or.inl rfl) (pe_clC (i := 1) (y := "sizes") o_first_bad hr (by decide) rfl (pa_cons (pv 1) (pa_cons (pv 2) (pa_cons (show PE _ lamE _ from pe_lam TB rfl hc) pa_nil))) rfl rfl (.inr (.inl rfl)) hc rfl))
      (pss_cons (ps_if (pt_cmpR op_isN (pv 3) pe_non (nomark _)) (pss_one (ps_set (i := 3) sc_Whole___init__.nd rfl (Or.inl rfl) (pe_cl o_uneven_pattern hr (by decide) rfl (pa_cons (pv 1) (pa_cons (pv 2) pa_nil))))) pss_nil)
      (pss_cons (ps_if (pt_cmpR op_notN (pv 3) pe_non (nomark _)) (pss_one ps_never) pss_nil)
      (pss_cons (ps_fld (pv 0) (pv 1) rfl)
      (pss_one (ps_fld (pv 0) (pv 2) rfl)))))), ?_⟩
  have hf0 : tfr (tI ss) = true := tfr_tI
  refine ⟨x, rfl, x, rfl, y, rfl, hT, fun f c' pm ctv H1 eN hT1 hfn hf1 hc1 co u hcn hcell ru => ?_⟩
  have hx1 : Dp K H1 x (tI ss) := Dp.exN eN h0
  have hy1 : Dp K H1 y (.tuple (rows.map shareD)) := Dp.exN eN h1
  have eC : Ex H1 (upd H1 c (NdO c co)) := Ex.new hcn
  refine ⟨x, y, f, ss, rows, rfl, hx1.ex eC, hss, hy1.ex eC, ⟨qL, c, c', pm, ctv, co, u, x, eC _ _ hf1, upd_same, hcell, ru, hx1.ex eC, eC _ _ hc1⟩, hok, fun H' e' => ⟨e' _ _ upd_same, ?_⟩⟩
  have e2 : Ex H1 (dropH H' c) := fun b o hb => by
    rw [dropH_ne (ne_of_none hb hcn)]
    exact e' _ _ (eC _ _ hb)
  generalize dropH H' c = H2 at e2 ⊢
  have eN2 : ExtN H H2 := fun b o hb n => e2 _ _ (eN _ _ hb n)
  have hx2 : Dp K H2 x (tI ss) := hx1.ex e2
  have hy2 : Dp K H2 y (.tuple (rows.map shareD)) := hy1.ex e2
  refine kq_take K (etk_D (ed_isN (d := .none) (ed_var ⟨_, rfl, .non⟩))) fun H3 e3 => ?_
  refine sd_asg (K := K) (d := .none) (fun H4 e4 Q q => ⟨x, rfl, y, rfl, x, y, ss, rows, rfl, hx2.ex (e3.trans e4), hss, hy2.ex (e3.trans e4), hok.n, hev, fun H' e => q _ H' e .non⟩) fun v4 H4 e4 h4 => ?_
  have h4' := h4.non_inv
  subst h4'
  dsimp only
  refine kq_skip K (etk_D (ed_notN (d := .none) (ed_var ⟨_, rfl, .non⟩))) fun H5 e5 => ?_
  have eN5 : ExtN H H5 := fun b o hb n => e5 _ _ (e4 _ _ (e3 _ _ (eN2 b o hb n)))
  refine ⟨x, rfl, .ref self, rfl, self, _, dx, [], rfl, eN5 _ _ hself (fun _ z => by cases z), C.cls_Whole, C.na_Whole_sizes, by simp, ?_⟩
  refine ⟨y, rfl, .ref self, rfl, self, _, dx, _, rfl, upd_same, C.cls_Whole, C.na_Whole_shares, by simp [putF], ?_⟩
  rw [upd_upd]
  refine k _ (fun b o hb h n => ?_) ⟨dx, upd_same⟩
  rw [upd_ne hb]
  exact eN5 _ _ h n
end
end K61
end

section
set_option Elab.async false
set_option linter.all false
set_option maxRecDepth 100000
set_option maxHeartbeats 4000000
namespace K61
open PySem PySem.Spec PyProof.Rows L2 Evl RZ SX
local macro_rules | `(tactic| walk_at "evs") => `(tactic| first
  | exact ed_int | exact ed_str | exact ed_bl | exact ed_non
  | exact ed_var ⟨_, rfl, by first | assumption | exact .int _ | exact .str _ | exact .bl _ | exact .non⟩
  | exact ed_top (W0.t_ZERO (by assumption)) | exact ed_top (W0.t_ONE (by assumption))
  | refine ed_I0 ?_ ?_ | refine ed_B0 ?_ ?_ | refine ed_I ?_ ?_ ?_
  | refine ed_call ?_ ?_ | refine eds_cons ?_ ?_ | exact eds_nil
  | ((apply ed_ixT); (focus (walk_at "ev"; done)); (focus (walk_at "ev"; done)); (focus (exact rfl)); done)
  | ((apply ed_ixL); (focus (walk_at "ev"; done)); (focus (walk_at "ev"; done)); (focus (exact rfl)); done)
  | refine ed_tup ?_ ?_ | refine ed_lst ?_ ?_
  | ((refine ed_lenL ?_); (walk_at "ev"); done) | ((refine ed_lenT ?_); (walk_at "ev"); done) | refine ed_lenS ?_ ?_
  | refine ed_abs ?_ | ((refine ed_intI ?_); (walk_at "ev"); done) | refine ed_intB ?_ | refine ed_isi ?_ ?_
  | ((refine ed_eqI ?_ ?_ <;> walk_at "ev"); done) | ((refine ed_eqS ?_ ?_ <;> walk_at "ev"); done) | refine ed_neS ?_ ?_
  | refine ed_eqD ?_ ?_ ?_ ?_ | refine ed_neD ?_ ?_ ?_ ?_ | refine ed_ltD ?_ ?_ ?_ ?_ ?_
  | refine ed_isN ?_ | refine ed_notN ?_
  | refine ed_chain ?_ ?_ ?_ | refine ed_not ?_ | refine ed_and ?_ ?_ | refine ed_or ?_ ?_
  | refine ed_catS ?_ ?_ ?_ | refine ed_catT ?_ ?_ ?_
  | refine etk_D ?_ | refine etk_DB ?_ | refine etk_not ?_ | refine etk_and ?_ ?_ | refine etk_or ?_ ?_
  | exact rfl | assumption | omega | refine (fun (_ : _ = true) => ?_) | refine (fun (_ : _ = false) => ?_))
local macro_rules | `(tactic| walk_at "ev") => `(tactic| (walk_at "evs" <;> (try walk_at "ev")))

section
variable {P : Program} {w : World} {K : PySem.W.Frag} {mg : Str → Option Value} {base : Heap} {σ : L2.St} {H : Hp} {ta tb te : TE} {tl th : TO} {D : Ends}
theorem ed_notInS {c : Nat} {y : Str} (ha : EvD K ta σ H (.str ⟨#[c]⟩)) (hb : EvD K tb σ H (.str y)) : EvD K (tOp (fun x y H Q => ∃ i j, x = .str i ∧ y = .str j ∧ Q (.bl (!(!(Builtin.Str.occurrences j i 0 j.length 1).isEmpty))) H) ta tb) σ H (.bool (!decide (c ∈ y.cps.toList))) :=
  ed_op ha hb fun H1 _ v u hv hu Q q => ⟨_, _, hv.str_inv, hu.str_inv, by rw [StrLaws.found_one]; exact q _ H1 (Ex.refl H1) (.bl _)⟩
theorem ed_inS {c : Nat} {y : Str} (ha : EvD K ta σ H (.str ⟨#[c]⟩)) (hb : EvD K tb σ H (.str y)) : EvD K (tOp (fun x y H Q => ∃ i j, x = .str i ∧ y = .str j ∧ Q (.bl (!(Builtin.Str.occurrences j i 0 j.length 1).isEmpty)) H) ta tb) σ H (.bool (decide (c ∈ y.cps.toList))) :=
  ed_op ha hb fun H1 _ v u hv hu Q q => ⟨_, _, hv.str_inv, hu.str_inv, by rw [StrLaws.found_one]; exact q _ H1 (Ex.refl H1) (.bl _)⟩
theorem ed_slS {x : Str} {lo hi : Option Int} (h : EvD K te σ H (.str x)) (hl : x.length ≤ 100000) (h1 : EvO tl σ H lo) (h2 : EvO th σ H hi) : EvD K (tSl rSlS te tl th) σ H (.str (cutS x lo hi)) := fun H1 e Q q =>
  h H1 e _ fun v H2 e2 hv => h1 H2 (e.trans e2) _ fun H3 e3 => h2 H3 ((e.trans e2).trans e3) _ fun H4 e4 => ⟨x, hv.str_inv, sz_of hl, q _ H4 ((e2.trans e3).trans e4) (.str _)⟩
theorem cutS_S {a : List Nat} {p e : Nat} (h1 : p ≤ e) (h2 : e ≤ a.length) : cutS (S a) (some (p : Int)) (some (e : Int)) = S ((a.drop p).take (e - p)) := by
  unfold cutS
  rw [HT.sIx_nat, HT.sIx_nat, S_len, Nat.min_eq_left h2, Nat.min_eq_left (Nat.le_trans h1 h2)]
theorem atI_nat {α : Type} {xs : List α} {i : Nat} {x : α} (h : xs[i]? = some x) : atI xs (i : Int) = some x := by
  obtain ⟨hi, _⟩ := List.getElem?_eq_some_iff.mp h
  unfold atI
  rw [ixN_nat hi]
  exact h
theorem sd_augI {i : Nat} {a b : Int} {f : Int → Int → Int} (hs : σ[i]? = some (some (.int a))) (h : EvD K te σ H (.int b)) (k : ∀ H1, Ex H H1 → D.nx (σ.set i (some (.int (f a b)))) H1) : tAug i te (ipI f) D σ H := s_aug hs h.int k
/-! ### words_of -/
def sep (c : Nat) : Prop := c = 32 ∨ c = 40 ∨ c = 41
inductive Seg (cs : List Nat) : Nat → List (Nat × Nat) → Prop
  | done : Seg cs cs.length []
  | space {p : Nat} {l : List (Nat × Nat)} : cs[p]? = some 32 → Seg cs (p + 1) l → Seg cs p l
  | paren {p c : Nat} {l : List (Nat × Nat)} : cs[p]? = some c → c = 40 ∨ c = 41 → Seg cs (p + 1) l → Seg cs p ((p, p + 1) :: l)
  | word {p e : Nat} {l : List (Nat × Nat)} : p < e → e ≤ cs.length → (∀ i, p ≤ i → i < e → ∃ c, cs[i]? = some c ∧ ¬ sep c) → (e = cs.length ∨ ∃ c, cs[e]? = some c ∧ sep c) → Seg cs e l → Seg cs p ((p, e) :: l)
theorem Seg.len {cs : List Nat} {p : Nat} {l : List (Nat × Nat)} (h : Seg cs p l) : p + l.length ≤ cs.length := by
  induction h with
  | done => simp
  | space _ _ ih => omega
  | paren _ _ _ ih => simp only [List.length_cons]; omega
  | word _ _ _ _ _ ih => simp only [List.length_cons]; omega
def wordD (cs : List Nat) (p : Nat × Nat) : PD := pair2 (.int (p.1 : Nat)) (.str (S ((cs.drop p.1).take (p.2 - p.1))))
theorem tfr_word {cs : List Nat} {p : Nat × Nat} : tfr (wordD cs p) = true := rfl
theorem sep_mem {c : Nat} : (c ∈ ((" ()" : Str)).cps.toList) ↔ sep c := by
  have e : ((" ()" : Str)).cps.toList = [32, 40, 41] := by decide
  rw [e]
  simp [sep]
def R_words_of (ds : List PD) (d : PD) : Prop := ∃ (cs : List Nat) (items : List (Nat × Nat)), cs.length ≤ 99999 ∧ Seg cs 0 items ∧ ds = [.str (S cs)] ∧ d = .list (items.map (wordD cs))
abbrev sp_words_of (K : PySem.W.Frag) : Sp := spD K R_words_of
theorem pu_words_of {cs : List Nat} {items : List (Nat × Nat)} (h : cs.length ≤ 99999) (h2 : Seg cs 0 items) : Pure K (sp_words_of K) [.str (S cs)] (.list (items.map (wordD cs))) := spD_pure ⟨_, _, h, h2, rfl, rfl⟩
theorem sc_words_of : FnScope ["text", "found", "place", "end"] ["text"] (defScope (top 35)) := ⟨rfl, rfl, rfl, by decide +kernel, rfl, by decide +kernel, by decide +kernel⟩
theorem ok_words_of (C : W0 P w K mg base) : Cl P w K mg base 1 "words_of" ["text"] (sp_words_of K) := by
  refine Cl.of C.f_words_of C.g_words_of sc_words_of (fun _ _ _ _ _ _ us hl => match us, hl with | [_], _ => rfl) (fun vs H Q E h => by obtain ⟨ds, d, ⟨_, _, _, _, rfl, rfl⟩, hd, _⟩ := h; exact hd.length) fun cdv A outer s H vs Q E hr h => ?_
  obtain ⟨_, _, ⟨cs, items, hl, hseg, rfl, rfl⟩, hd, k⟩ := h
  obtain ⟨x, rfl, h0⟩ := hd.one_inv
  have h0' := h0.str_inv
  subst h0'
  have hlS : (S cs).length ≤ 100000 := by rw [S_len]; omega
  have htl : (S cs).cps.toList = cs := rfl
  refine ⟨_, (pss_cons (ps_set (i := 1) sc_words_of.nd rfl (Or.inl rfl) (pe_lst pa_nil))
      (pss_cons (ps_set (i := 2) sc_words_of.nd rfl (Or.inl rfl) pe_int)
      (pss_cons (ps_while PassesOwn.never (pt_cmpR op_lt (pv 2) (pe_callB call_len_str (by rfl) C.n_len (by decide +kernel) (pa_cons (pv 0) pa_nil)) (nomark _)) (pss_cons (ps_set (i := 3) sc_words_of.nd rfl (Or.inl rfl) (pe_op op_add (pv 2) pe_int))
      (pss_cons (ps_if (pt_cmpR op_notIn_str (pe_ix ix_str (pv 0) (pv 2) (fun _ _ => rfl)) pe_str (by rfl)) (pss_one (ps_while PassesOwn.never (PW.pt (pw_and (pt_cmpR op_lt (pv 3) (pe_callB call_len_str (by rfl) C.n_len (by decide +kernel) (pa_cons (pv 0) pa_nil)) (nomark _)) (pw_and1 (pt_cmpR op_notIn_str (pe_ix ix_str (pv 0) (pv 3) (fun _ _ => rfl)) pe_str (by rfl))))) (pss_one (ps_aug (i := 3) sc_words_of.nd rfl (Or.inl rfl) pe_int ip_add)))) pss_nil)
      (pss_cons (ps_if (pt_cmpR op_ne (pe_ix ix_str (pv 0) (pv 2) (fun _ _ => rfl)) pe_str (nomark _)) (pss_one (ps_expr (pe_bm PySem.F.plainAttrs_list PySem.F.slot_list_append PySem.F.type_list_append mt_append (pv 1) (pa_cons (pe_tup (pa_cons (pv 2) (pa_cons (pe_slice sl_str (pv 0) (po_some (pv 2)) (po_some (pv 3))) pa_nil))) pa_nil)))) pss_nil)
      (pss_one (ps_set (i := 2) sc_words_of.nd rfl (Or.inl rfl) (pv 3)))))))
      (pss_one (ps_ret (pv 1)))))), ?_⟩
  refine qd_asgF (K := K) (ds := []) (ef_lst eds_nil (by simp)) fun l vs H1 hp e1 hpl hvs => ?_
  cases hvs
  refine qd_asg (K := K) (d := .int ((0 : Nat) : Int)) ed_int fun v2 H2 e2 h2 => ?_
  have h2' := h2.int_inv
  subst h2'
  refine kq_while K (fun m σ' H' => Ex H H' ∧ ∃ place rest done acc z, σ' = [some (.str (S cs)), some (.ref l), some (.int ((place : Nat) : Int)), z] ∧ m = cs.length - place ∧ Seg cs place rest ∧ done ++ rest = items ∧ H' l = some (.lst acc) ∧ DpAll K H' acc (done.map (wordD cs))) cs.length ⟨e1.trans e2, 0, items, [], [], _, rfl, by simp, hseg, rfl, e2 _ _ hpl, .nil⟩ ?_
  rintro m σ' H' ⟨eH, place, rest, done, acc, z, rfl, rfl, hs, hdr, ha, hacc⟩
  have hlen := hs.len
  have hal : acc.length < 100000 := by
    have h1 := hacc.length
    have h2 := hseg.len
    rw [List.length_map] at h1
    have h3 := congrArg List.length hdr
    rw [List.length_append] at h3
    omega
  refine ⟨decide (((place : Nat) : Int) < ((S cs).length : Int)), etk_D (ed_B0 (by walk_at "ev") (ed_lenS (by walk_at "ev") hlS)), fun hb H3 e3 => ?_, fun hb H3 e3 => ?_⟩
  · have hlt : place < cs.length := by have := of_decide_eq_true hb; rw [S_len] at this; omega
    -- what the turn is to reach
    have fin : ∀ (σ2 : L2.St) (H4 : Hp) (e' : Nat) (rest' done' : List (Nat × Nat)) (acc' : List V) (z' : Option V), place < e' → e' ≤ cs.length → σ2 = [some (.str (S cs)), some (.ref l), some (.int ((e' : Nat) : Int)), z'] → Ex H H4 → Seg cs e' rest' → done' ++ rest' = items → H4 l = some (.lst acc') → DpAll K H4 acc' (done'.map (wordD cs)) →
        ∃ m', m' < cs.length - place ∧ (Ex H H4 ∧ ∃ place rest done acc z, σ2 = [some (.str (S cs)), some (.ref l), some (.int ((place : Nat) : Int)), z] ∧ m' = cs.length - place ∧ Seg cs place rest ∧ done ++ rest = items ∧ H4 l = some (.lst acc) ∧ DpAll K H4 acc (done.map (wordD cs))) :=
      fun σ2 H4 e' rest' done' acc' z' h1 h1' h2 h3 h4 h5 h6 h7 => ⟨cs.length - e', by omega, h3, e', rest', done', acc', z', h2, rfl, h4, h5, h6, h7⟩
    refine ⟨fun σ2 H4 => ∃ e' rest' done' acc' z', place < e' ∧ e' ≤ cs.length ∧ σ2 = [some (.str (S cs)), some (.ref l), some (.int ((e' : Nat) : Int)), z'] ∧ Ex H H4 ∧ Seg cs e' rest' ∧ done' ++ rest' = items ∧ H4 l = some (.lst acc') ∧ DpAll K H4 acc' (done'.map (wordD cs)), fun σ2 H4 ⟨e', rest', done', acc', z', h1, h1', h2, h3, h4, h5, h6, h7⟩ => fin σ2 H4 e' rest' done' acc' z' h1 h1' h2 h3 h4 h5 h6 h7, ?_⟩
    have eH3 := eH.trans e3
    have ha3 := e3 _ _ ha
    have hacc3 := hacc.ex e3
    refine qd_asg (K := K) (d := .int ((place : Nat) + 1 : Int)) (ed_I0 (by walk_at "ev") (by walk_at "ev")) fun v3 H4 e4 h3 => ?_
    have h3' := h3.int_inv
    subst h3'
    have ev1 : ((place : Nat) + 1 : Int) = ((place + 1 : Nat) : Int) := by omega
    have eH4 := eH3.trans e4
    have ha4 := e4 _ _ ha3
    have hacc4 := hacc3.ex e4
    rw [ev1]
    show tSeq _ _ _ [some (.str (S cs)), some (.ref l), some (.int ((place : Nat) : Int)), some (.int ((place + 1 : Nat) : Int))] H4
    have ixp : ∀ {c : Nat} {z : Option V} {H : Hp}, cs[place]? = some c → EvD K (tOp rIxS (tVar 0) (tVar 2)) [some (.str (S cs)), some (.ref l), some (.int ((place : Nat) : Int)), z] H (.str ⟨#[c]⟩) := fun hc => ed_ixS (ed_var ⟨_, rfl, .str _⟩) (ed_var ⟨_, rfl, .int _⟩) hlS (atI_nat hc)
    -- the end of a turn that keeps a word
    have keepW : ∀ (e' : Nat) (rest' : List (Nat × Nat)) (H5 : Hp) (c : Nat), rest = (place, e') :: rest' → place < e' → e' ≤ cs.length → cs[place]? = some c → c ≠ 32 → Seg cs e' rest' → Ex H H5 → H5 l = some (.lst acc) → DpAll K H5 acc (done.map (wordD cs)) → ∀ tt : TT, (∀ H6, EvTK K tt [some (.str (S cs)), some (.ref l), some (.int ((place : Nat) : Int)), some (.int ((e' : Nat) : Int))] H6 true) → ∀ D : Ends,
        D.nx = (fun σ2 H4 => ∃ e' rest' done' acc' z', place < e' ∧ e' ≤ cs.length ∧ σ2 = [some (.str (S cs)), some (.ref l), some (.int ((e' : Nat) : Int)), z'] ∧ Ex H H4 ∧ Seg cs e' rest' ∧ done' ++ rest' = items ∧ H4 l = some (.lst acc') ∧ DpAll K H4 acc' (done'.map (wordD cs))) →
        tSeq (tIfS tt (tDrop (tBM K "list" rAppend (tVar 1) (tCons (tTup (tCons (tVar 2) (tCons (tSl rSlS (tVar 0) (tPart (tVar 2)) (tPart (tVar 3))) tNil))) tNil))) tNext) (tAsg (tVar 3) (gName 2)) D [some (.str (S cs)), some (.ref l), some (.int ((place : Nat) : Int)), some (.int ((e' : Nat) : Int))] H5 := by
      intro e' rest' H5 c hr h1 h2 hc hne hs' eH5 ha5 hacc5 tt htt D hD
      refine kq_take K (htt H5) fun H6 e6 => ?_
      refine sd_app (K := K) (l := l) (d := wordD cs (place, e')) rfl (e6 _ _ ha5) (ed_tup (eds_cons (ed_var ⟨_, rfl, .int _⟩) (eds_cons ((ed_slS (ed_var ⟨_, rfl, .str _⟩) hlS (eo_D (K := K) (ed_var ⟨_, rfl, .int _⟩)) (eo_D (K := K) (ed_var ⟨_, rfl, .int _⟩))).is (by rw [cutS_S (by omega) h2])) eds_nil)) (by simp)) hal fun v H7 e7 hv => ?_
      dsimp only
      refine sd_asg (K := K) (d := .int ((e' : Nat) : Int)) (ed_var ⟨_, rfl, .int _⟩) fun v3 H8 e8 h8 => ?_
      have h8' := h8.int_inv
      subst h8'
      rw [hD]
      have tx : Tx H7 (L2.upd H7 l (.lst (acc ++ [v]))) := Tx.updL (e7 _ _ (e6 _ _ ha5))
      refine ⟨e', rest', done ++ [(place, e')], acc ++ [v], _, h1, h2, rfl, (Ex.mut ((eH5.trans e6).trans e7) hp).trans e8, hs', by rw [← hdr, hr]; simp, e8 _ _ upd_same, ?_⟩
      rw [List.map_append]
      refine DpAll.ex e8 (((dps_tx tx ?_ (hacc5.ex (e6.trans e7))).snoc (dp_tx tx tfr_word hv)))
      exact tfrs_map fun _ _ => tfr_word
    cases hs with
    | done => omega
    | space hc hs' =>
      refine kq_skip K (etk_D ((ed_notInS (ixp hc) ed_str).is (by rw [decide_eq_true (sep_mem.mpr (.inl rfl))]; rfl))) fun H5 e5 => ?_
      refine kq_skip K (etk_D ((ed_neS (ixp hc) ed_str).is (by congr 1))) fun H6 e6 => ?_
      refine sd_asg (K := K) (d := .int ((place + 1 : Nat) : Int)) (ed_var ⟨_, rfl, .int _⟩) fun v3 H7 e7 h8 => ?_
      have h8' := h8.int_inv
      subst h8'
      exact ⟨place + 1, rest, done, acc, _, by omega, by omega, rfl, ((eH4.trans e5).trans e6).trans e7, hs', hdr, e7 _ _ (e6 _ _ (e5 _ _ ha4)), hacc4.ex ((e5.trans e6).trans e7)⟩
    | @paren _ c rest' hc hcc hs' =>
      refine kq_skip K (etk_D ((ed_notInS (ixp hc) ed_str).is (by rw [decide_eq_true (sep_mem.mpr (.inr hcc))]; rfl))) fun H5 e5 => ?_
      refine keepW (place + 1) rest' H5 c rfl (by omega) (by omega) hc (by omega) hs' (eH4.trans e5) (e5 _ _ ha4) (hacc4.ex e5) _ (fun H6 => etk_D ((ed_neS (ixp hc) ed_str).is (by rw [decide_eq_false]; rfl; intro z; have := congrArg (fun s : Str => s.cps.toList) z; revert this; rcases hcc with rfl | rfl <;> decide))) _ rfl
    | @word _ e rest' hpe hel hin hout hs' =>
      obtain ⟨c, hc, hnc⟩ := hin place (Nat.le_refl _) hpe
      refine kq_take K (etk_D ((ed_notInS (ixp hc) ed_str).is (by rw [decide_eq_false (fun z => hnc (sep_mem.mp z))]; rfl))) fun H5 e5 => ?_
      dsimp only
      refine ks_while K (fun m σ' H' => Ex H5 H' ∧ ∃ j : Nat, place < j ∧ j ≤ e ∧ m = e - j ∧ σ' = [some (.str (S cs)), some (.ref l), some (.int ((place : Nat) : Int)), some (.int ((j : Nat) : Int))]) (e - (place + 1)) ⟨Ex.refl _, place + 1, by omega, by omega, rfl, rfl⟩ ?_
      rintro m σ' H6 ⟨e6, j, hj1, hj2, rfl, rfl⟩
      by_cases hje : j < e
      · obtain ⟨cj, hcj, hncj⟩ := hin j (by omega) hje
        refine ⟨true, etk_and (a := true) (b := true) (etk_D ((ed_B0 (i := (j : Int)) (j := ((S cs).length : Int)) (by walk_at "ev") (ed_lenS (by walk_at "ev") hlS)).is (by rw [decide_eq_true (by rw [S_len]; omega)]))) fun _ => etk_D ((ed_notInS (ed_ixS (ed_var ⟨_, rfl, .str _⟩) (ed_var ⟨_, rfl, .int _⟩) hlS (atI_nat hcj)) ed_str).is (by rw [decide_eq_false (fun z => hncj (sep_mem.mp z))]; rfl)), fun _ H7 e7 => ?_, fun h => nomatch h⟩
        refine ⟨fun σ2 H2 => Ex H5 H2 ∧ σ2 = [some (.str (S cs)), some (.ref l), some (.int ((place : Nat) : Int)), some (.int (((j + 1) : Nat) : Int))], fun σ2 H2 ⟨q1, q2⟩ => ⟨e - (j + 1), by omega, q1, j + 1, by omega, by omega, rfl, q2⟩, ?_⟩
        refine sd_augI (K := K) (a := (j : Int)) (b := 1) rfl ed_int fun H8 e8 => ⟨(e6.trans e7).trans e8, ?_⟩
        rw [show ((j + 1 : Nat) : Int) = (j : Int) + 1 by omega]
        rfl
      · have hjE : j = e := by omega
        subst hjE
        refine ⟨false, ?_, (fun h => nomatch h), fun _ H7 e7 => ?_⟩
        · rcases hout with hE | ⟨cj, hcj, hsj⟩
          · exact etk_and (a := false) (b := false) (etk_D ((ed_B0 (i := (j : Int)) (j := ((S cs).length : Int)) (by walk_at "ev") (ed_lenS (by walk_at "ev") hlS)).is (by rw [decide_eq_false (by rw [S_len]; omega)]))) fun h => nomatch h
          · have hjl := (List.getElem?_eq_some_iff.mp hcj).1
            exact etk_and (a := true) (b := false) (etk_D ((ed_B0 (i := (j : Int)) (j := ((S cs).length : Int)) (by walk_at "ev") (ed_lenS (by walk_at "ev") hlS)).is (by rw [decide_eq_true (by rw [S_len]; omega)]))) fun _ => etk_D ((ed_notInS (ed_ixS (ed_var ⟨_, rfl, .str _⟩) (ed_var ⟨_, rfl, .int _⟩) hlS (atI_nat hcj)) ed_str).is (by rw [decide_eq_true (sep_mem.mpr hsj)]; rfl))
        · have e57 := (e5.trans e6).trans e7
          refine keepW j rest' H7 c rfl hpe hel hc (fun z => hnc (.inl z)) hs' (eH4.trans e57) (e57 _ _ ha4) (hacc4.ex e57) _ (fun H8 => etk_D ((ed_neS (ixp hc) ed_str).is (by rw [decide_eq_false]; rfl; intro z; have := congrArg (fun s : Str => s.cps.toList) z; exact hnc (.inl (by simpa using (show [c] = [32] from this)))))) _ rfl
  · have hge : place = cs.length := by have := of_decide_eq_false hb; rw [S_len] at this; omega
    have hr0 : rest = [] := by
      cases hs with
      | done => rfl
      | space hc _ => have := (List.getElem?_eq_some_iff.mp hc).1; omega
      | paren hc _ _ => have := (List.getElem?_eq_some_iff.mp hc).1; omega
      | word h1 h2 _ _ _ => omega
    subst hr0
    rw [List.append_nil] at hdr
    subst hdr
    refine sd_ret (K := K) (ed_var ⟨_, rfl, .lst (sq_of (e3 _ _ ha)) (hacc.ex e3)⟩) fun v H4 e4 hv => k v H4 ((eH.trans e3).trans e4) hv
end
end K61
end

section
set_option Elab.async false
set_option linter.all false
set_option maxRecDepth 100000
set_option maxHeartbeats 4000000
namespace K61
open PySem PySem.Spec PyProof.Rows L2 Evl RZ SX
local macro_rules | `(tactic| walk_at "evs") => `(tactic| first
  | exact ed_int | exact ed_str | exact ed_bl | exact ed_non
  | exact ed_var ⟨_, rfl, by first | assumption | exact .int _ | exact .str _ | exact .bl _ | exact .non⟩
  | exact ed_top (W0.t_ZERO (by assumption)) | exact ed_top (W0.t_ONE (by assumption))
  | refine ed_I0 ?_ ?_ | refine ed_B0 ?_ ?_ | refine ed_I ?_ ?_ ?_
  | refine ed_call ?_ ?_ | refine eds_cons ?_ ?_ | exact eds_nil
  | ((apply ed_ixT); (focus (walk_at "ev"; done)); (focus (walk_at "ev"; done)); (focus (exact rfl)); done)
  | ((apply ed_ixL); (focus (walk_at "ev"; done)); (focus (walk_at "ev"; done)); (focus (exact rfl)); done)
  | refine ed_tup ?_ ?_ | refine ed_lst ?_ ?_
  | ((refine ed_lenL ?_); (walk_at "ev"); done) | ((refine ed_lenT ?_); (walk_at "ev"); done) | refine ed_lenS ?_ ?_
  | refine ed_abs ?_ | ((refine ed_intI ?_); (walk_at "ev"); done) | refine ed_intB ?_ | refine ed_isi ?_ ?_
  | ((refine ed_eqI ?_ ?_ <;> walk_at "ev"); done) | ((refine ed_eqS ?_ ?_ <;> walk_at "ev"); done) | refine ed_neS ?_ ?_
  | refine ed_eqD ?_ ?_ ?_ ?_ | refine ed_neD ?_ ?_ ?_ ?_ | refine ed_ltD ?_ ?_ ?_ ?_ ?_
  | refine ed_isN ?_ | refine ed_notN ?_
  | refine ed_chain ?_ ?_ ?_ | refine ed_not ?_ | refine ed_and ?_ ?_ | refine ed_or ?_ ?_
  | refine ed_catS ?_ ?_ ?_ | refine ed_catT ?_ ?_ ?_
  | refine etk_D ?_ | refine etk_DB ?_ | refine etk_not ?_ | refine etk_and ?_ ?_ | refine etk_or ?_ ?_
  | exact rfl | assumption | omega | refine (fun (_ : _ = true) => ?_) | refine (fun (_ : _ = false) => ?_))
local macro_rules | `(tactic| walk_at "ev") => `(tactic| (walk_at "evs" <;> (try walk_at "ev")))

inductive Atom where
  | yes | no | blank (k : Nat) | worth (k v : Nat)
deriving DecidableEq
def Atom.cps : Atom → List Nat
  | .yes => [121, 101, 115]
  | .no => [110, 111]
  | .blank k => [98, 48 + k]
  | .worth k v => [99, 48 + k, 61, 48 + v]
def Atom.ok (ss : List Int) : Atom → Prop
  | .yes => True
  | .no => True
  | .blank k => k < ss.length
  | .worth k v => ∃ s, ss[k]? = some s ∧ (v : Int) < s
def Atom.step : Atom → PD
  | .yes => .tuple [.str "yes"]
  | .no => .tuple [.str "no"]
  | .blank k => .tuple [.str "blank", .int (k : Nat)]
  | .worth k v => .tuple [.str "worth", .int (k : Nat), .int (v : Nat)]
theorem dig_text {k : Nat} (h : k < 4) : PySem.intText? ⟨#[48 + k]⟩ = some ((k : Nat) : Int) := by
  match k, h with
  | 0, _ => decide +kernel
  | 1, _ => decide +kernel
  | 2, _ => decide +kernel
  | 3, _ => decide +kernel
theorem fig_mem {k : Nat} (h : k < 4) : (48 + k) ∈ (("0123" : Str)).cps.toList := by
  have e : (("0123" : Str)).cps.toList = [48, 49, 50, 51] := by decide
  rw [e]
  simp
  omega
section
variable {P : Program} {w : World} {K : PySem.W.Frag} {mg : Str → Option Value} {base : Heap} {σ : L2.St} {H : Hp} {ta tb te : TE}
theorem ed_neI {i j : Int} (ha : EvD K ta σ H (.int i)) (hb : EvD K tb σ H (.int j)) : EvD K (tOp rNe ta tb) σ H (.bool (!decide (i = j))) :=
  (ed_ne (.int i) (.int j) ha hb rfl).is (by congr 2; exact decide_eq_decide.mpr ⟨fun h => by cases h; rfl, fun h => by rw [h]⟩)
theorem S_one_ne {a b : Nat} : (!decide ((⟨#[a]⟩ : Str) = ⟨#[b]⟩)) = !decide (a = b) := by
  congr 1
  exact decide_eq_decide.mpr ⟨fun h => by have := S_inj (a := [a]) (b := [b]) h; simpa using this, fun h => by rw [h]⟩
/-! ### column_of -/
inductive R_column_of : List PD → PD → Prop
  | long {ss : List Int} {cs : List Nat} {x : Str} : cs.length = 4 → R_column_of [tI ss, .str (S cs), .str x] .none
  | hit {ss : List Int} {a k : Nat} : k < ss.length → k < 4 → R_column_of [tI ss, .str (S [a, 48 + k]), .str (S [a])] (.int (k : Nat))
abbrev sp_column_of (K : PySem.W.Frag) : Sp := spD K R_column_of
theorem sc_column_of : FnScope ["sizes", "word", "sign"] ["sizes", "word", "sign"] (defScope (top 36)) := ⟨rfl, rfl, rfl, by decide +kernel, rfl, by decide +kernel, by decide +kernel⟩
theorem ok_column_of (C : W0 P w K mg base) : Cl P w K mg base 1 "column_of" ["sizes", "word", "sign"] (sp_column_of K) := by
  refine Cl.of C.f_column_of C.g_column_of sc_column_of (fun _ _ _ _ _ _ us hl => match us, hl with | [_, _, _], _ => rfl) (fun vs H Q E h => by obtain ⟨ds, d, h, hd, _⟩ := h; cases h <;> exact hd.length) fun cdv A outer s H vs Q E hr h => ?_
  obtain ⟨_, _, h, hd, k⟩ := h
  refine ⟨_, (pss_cons (ps_if (PW.pt (pw_or (pt_cmpR op_ne (pe_callB call_len_str (by rfl) C.n_len (by decide +kernel) (pa_cons (pv 1) pa_nil)) pe_int (nomark _)) (pw_or (pt_cmpR op_ne (pe_ix ix_str (pv 1) pe_int (fun _ _ => rfl)) (pv 2) (nomark _)) (pw_or (pt_cmpR op_notIn_str (pe_ix ix_str (pv 1) pe_int (fun _ _ => rfl)) (C8.pe_gc rfl C.c_FIGURES) (by rfl)) (pw_or1 (pt_cmpR op_ge (pe_callTy call_int_str (by rfl) C.n_int (by decide +kernel) (pa_cons (pe_ix ix_str (pv 1) pe_int (fun _ _ => rfl)) pa_nil)) (pe_callB call_len_seq (by rfl) C.n_len (by decide +kernel) (pa_cons (pv 0) pa_nil)) (nomark _))))))) (pss_one (ps_ret pe_non)) pss_nil)
      (pss_one (ps_ret (pe_callTy call_int_str (by rfl) C.n_int (by decide +kernel) (pa_cons (pe_ix ix_str (pv 1) pe_int (fun _ _ => rfl)) pa_nil))))), ?_⟩
  cases h with
  | @long ss cs x hl =>
    obtain ⟨v0, v1, v2, rfl, h0, h1, h2⟩ := hd.three_inv
    have hlS : (S cs).length ≤ 100000 := by rw [S_len]; omega
    refine kq_take K (etk_or (a := true) (b := false) (etk_D ((ed_neI (ed_lenS (ed_var ⟨_, rfl, h1⟩) hlS) ed_int).is (by rw [S_len, decide_eq_false (by omega)]; rfl))) fun h => nomatch h) fun H1 e1 => ?_
    exact sd_ret (K := K) (d := .none) ed_non fun v H2 e2 hv => k v H2 (e1.trans e2) hv
  | @hit ss a n hn hn4 =>
    obtain ⟨v0, v1, v2, rfl, h0, h1, h2⟩ := hd.three_inv
    have hlS : (S [a, 48 + n]).length ≤ 100000 := by rw [S_len]; simp
    have h0 : Dp K H v0 (.tuple (ss.map PyData.int)) := h0
    have ixw : ∀ {H : Hp} (i : Nat) (c : Nat), [a, 48 + n][i]? = some c → Dp K H v1 (.str (S [a, 48 + n])) → EvD K (tOp rIxS (tVar 1) (tC (.int (i : Nat)))) [some v0, some v1, some v2] H (.str ⟨#[c]⟩) := fun i c hc h1 => ed_ixS (ed_var ⟨_, rfl, h1⟩) ed_int hlS (atI_nat hc)
    refine kq_skip K (etk_or (a := false) (b := false) (etk_D ((ed_neI (ed_lenS (ed_var ⟨_, rfl, h1⟩) hlS) ed_int).is (by rw [S_len, decide_eq_true (by simp)]; rfl))) fun _ =>
      etk_or (a := false) (b := false) (etk_D ((ed_neS (ixw 0 a rfl h1) (ed_var ⟨_, rfl, h2⟩)).is (by rw [decide_eq_true rfl]; rfl))) fun _ =>
      etk_or (a := false) (b := false) (etk_D ((ed_notInS (ixw 1 (48 + n) rfl h1) ed_str).is (by rw [decide_eq_true (fig_mem hn4)]; rfl))) fun _ =>
      etk_D ((ed_B0 (i := (n : Int)) (j := ((ss.map PyData.int).length : Int)) (ed_intS (ixw 1 (48 + n) rfl h1) (dig_text hn4) (by simp [Str.length])) (ed_lenT (ed_var ⟨_, rfl, h0⟩))).is (by rw [List.length_map, decide_eq_false (by omega)]))) fun H1 e1 => ?_
    exact sd_ret (K := K) (ed_intS (ixw 1 (48 + n) rfl (h1.ex e1)) (dig_text hn4) (by simp [Str.length])) fun v H2 e2 hv => k v H2 (e1.trans e2) hv
/-! ### atom_of -/
def R_atom_of (ds : List PD) (d : PD) : Prop := ∃ (ss : List Int) (a : Atom), okSizes ss ∧ a.ok ss ∧ ds = [tI ss, .str (S a.cps)] ∧ d = a.step
abbrev sp_atom_of (K : PySem.W.Frag) : Sp := spD K R_atom_of
theorem pu_atom_of {ss : List Int} {a : Atom} (h : okSizes ss) (h2 : a.ok ss) : Pure K (sp_atom_of K) [tI ss, .str (S a.cps)] a.step := spD_pure ⟨_, _, h, h2, rfl, rfl⟩
theorem inV_yn {x : Str} : inV (.str x) [.str "yes", .str "no"] = ((("yes" : Str) == x) || (("no" : Str) == x)) := by simp [inV, eqV]
theorem sc_atom_of : FnScope ["sizes", "word", "column"] ["sizes", "word"] (defScope (top 37)) := ⟨rfl, rfl, rfl, by decide +kernel, rfl, by decide +kernel, by decide +kernel⟩
theorem ok_atom_of (C : W0 P w K mg base) : Cl P w K mg base 2 "atom_of" ["sizes", "word"] (sp_atom_of K) := by
  have o_column_of := ok_column_of C
  refine Cl.of C.f_atom_of C.g_atom_of sc_atom_of (fun _ _ _ _ _ _ us hl => match us, hl with | [_, _], _ => rfl) (fun vs H Q E h => by obtain ⟨ds, d, ⟨_, _, _, _, rfl, rfl⟩, hd, _⟩ := h; exact hd.length) fun cdv A outer s H vs Q E hr h => ?_
  obtain ⟨_, _, ⟨ss, a, hss, ha, rfl, rfl⟩, hd, k⟩ := h
  obtain ⟨v0, v1, rfl, h0, h1⟩ := hd.two_inv
  refine ⟨_, (pss_cons (ps_if (pt_cmpR op_in_seq (pv 1) (pe_tup (pa_cons pe_str (pa_cons pe_str pa_nil))) (by rfl)) (pss_one (ps_ret (pe_tup (pa_cons (pv 1) pa_nil)))) pss_nil)
      (pss_cons (ps_set (i := 2) sc_atom_of.nd rfl (Or.inl rfl) (pe_cl o_column_of hr (by decide) rfl (pa_cons (pv 0) (pa_cons (pv 1) (pa_cons pe_str pa_nil)))))
      (pss_cons (ps_if (pt_cmpR op_notN (pv 2) pe_non (nomark _)) (pss_one (ps_ret (pe_tup (pa_cons pe_str (pa_cons (pv 2) pa_nil))))) pss_nil)
      (pss_cons (ps_set (i := 2) sc_atom_of.nd rfl (Or.inl rfl) (pe_cl o_column_of hr (by decide) rfl (pa_cons (pv 0) (pa_cons (pe_slice sl_str (pv 1) po_none (po_some pe_int)) (pa_cons pe_str pa_nil)))))
      (pss_cons (ps_if (PW.pt (pw_or (pt_cmpR op_isN (pv 2) pe_non (nomark _)) (pw_or (pt_cmpR op_ne (pe_callB call_len_str (by rfl) C.n_len (by decide +kernel) (pa_cons (pv 1) pa_nil)) pe_int (nomark _)) (pw_or (pt_cmpR op_ne (pe_ix ix_str (pv 1) pe_int (fun _ _ => rfl)) pe_str (nomark _)) (pw_or1 (pt_cmpR op_notIn_str (pe_ix ix_str (pv 1) pe_int (fun _ _ => rfl)) (C8.pe_gc rfl C.c_FIGURES) (by rfl))))))) (pss_one (ps_ret pe_non)) pss_nil)
      (pss_one (ps_ret (pe_ifExp (pt_cmpR op_lt (pe_callTy call_int_str (by rfl) C.n_int (by decide +kernel) (pa_cons (pe_ix ix_str (pv 1) pe_int (fun _ _ => rfl)) pa_nil)) (pe_ix ix_tup (pv 0) (pv 2) (fun _ _ => rfl)) (nomark _)) (pe_tup (pa_cons pe_str (pa_cons (pv 2) (pa_cons (pe_callTy call_int_str (by rfl) C.n_int (by decide +kernel) (pa_cons (pe_ix ix_str (pv 1) pe_int (fun _ _ => rfl)) pa_nil)) pa_nil)))) pe_non)))))))), ?_⟩
  have h1' := h1.str_inv
  subst h1'
  have h0t : Dp K H v0 (.tuple (ss.map PyData.int)) := h0
  have inYN : ∀ {H : Hp} {z : Option V}, EvD K (tOp (rIn K false) (tVar 1) (tTup (tCons (tC (.str "yes")) (tCons (tC (.str "no")) tNil)))) [some v0, some (.str (S a.cps)), z] H (.bool ((("yes" : Str) == S a.cps) || (("no" : Str) == S a.cps))) := fun {H z} =>
    (ed_inT (neg := false) (ed_var ⟨_, rfl, .str _⟩) (ed_tup (eds_cons ed_str (eds_cons ed_str eds_nil)) (by simp)) rfl rfl).is (by rw [← inV_yn]; rfl)
  cases a with
  | yes =>
    refine kq_take K (etk_D (inYN.is (d' := .bool true) (congrArg PyData.bool (by decide)))) fun H1 e1 => ?_
    exact sd_ret (K := K) (d := Atom.yes.step) (ed_tup (eds_cons (ed_var ⟨_, rfl, .str _⟩) eds_nil) (by simp)) fun v H2 e2 hv => k v H2 (e1.trans e2) hv
  | no =>
    refine kq_take K (etk_D (inYN.is (d' := .bool true) (congrArg PyData.bool (by decide)))) fun H1 e1 => ?_
    exact sd_ret (K := K) (d := Atom.no.step) (ed_tup (eds_cons (ed_var ⟨_, rfl, .str _⟩) eds_nil) (by simp)) fun v H2 e2 hv => k v H2 (e1.trans e2) hv
  | blank n =>
    have hn : n < ss.length := ha
    have hn4 : n < 4 := by have : ss.length ≤ 2 := by rcases hss with rfl | rfl | rfl <;> simp
                           omega
    refine kq_skip K (etk_D (inYN.is (d' := .bool false) (congrArg PyData.bool (by match n, hn4 with | 0, _ => decide | 1, _ => decide | 2, _ => decide | 3, _ => decide)))) fun H1 e1 => ?_
    refine qd_asg (K := K) (d := .int (n : Nat)) (ed_call (eds_cons (ed_var ⟨_, rfl, h0.ex e1⟩) (eds_cons (ed_var ⟨_, rfl, .str _⟩) (eds_cons ed_str eds_nil))) (spD_pure (.hit (a := 98) hn hn4))) fun v2 H2 e2 h2 => ?_
    refine kq_take K (etk_D (ed_notN (d := .int (n : Nat)) (ed_var ⟨_, rfl, h2⟩))) fun H3 e3 => ?_
    exact sd_ret (K := K) (d := (Atom.blank n).step) (ed_tup (eds_cons ed_str (eds_cons (ed_var ⟨_, rfl, h2.ex e3⟩) eds_nil)) (by simp)) fun v H4 e4 hv => k v H4 ((e1.trans e2).trans (e3.trans e4)) hv
  | worth n m =>
    obtain ⟨sz, hsz, hm⟩ := ha
    have hn : n < ss.length := (List.getElem?_eq_some_iff.mp hsz).1
    have hb := hss.mem (List.mem_of_getElem? hsz)
    have hn4 : n < 4 := by have : ss.length ≤ 2 := by rcases hss with rfl | rfl | rfl <;> simp
                           omega
    have hm4 : m < 4 := by omega
    have hlS : (S (Atom.worth n m).cps).length ≤ 100000 := by rw [S_len]; simp [Atom.cps]
    refine kq_skip K (etk_D (inYN.is (d' := .bool false) (congrArg PyData.bool (by
      match n, hn4 with
      | 0, _ => match m, hm4 with | 0, _ => decide | 1, _ => decide | 2, _ => decide | 3, _ => decide
      | 1, _ => match m, hm4 with | 0, _ => decide | 1, _ => decide | 2, _ => decide | 3, _ => decide
      | 2, _ => match m, hm4 with | 0, _ => decide | 1, _ => decide | 2, _ => decide | 3, _ => decide
      | 3, _ => match m, hm4 with | 0, _ => decide | 1, _ => decide | 2, _ => decide | 3, _ => decide)))) fun H1 e1 => ?_
    refine qd_asg (K := K) (d := .none) (ed_call (eds_cons (ed_var ⟨_, rfl, h0.ex e1⟩) (eds_cons (ed_var ⟨_, rfl, .str _⟩) (eds_cons ed_str eds_nil))) (spD_pure (.long rfl))) fun v2 H2 e2 h2 => ?_
    refine kq_skip K (etk_D (ed_notN (d := .none) (ed_var ⟨_, rfl, h2⟩))) fun H3 e3 => ?_
    refine qd_asg (K := K) (d := .int (n : Nat)) (ed_call (eds_cons (ed_var ⟨_, rfl, h0.ex ((e1.trans e2).trans e3)⟩) (eds_cons (d := .str (S [99, 48 + n])) ((ed_slS (lo := none) (hi := some ((2 : Nat) : Int)) (ed_var ⟨_, rfl, .str _⟩) hlS eo_none (eo_D (K := K) ed_int)).is (by
      unfold cutS
      rw [HT.sIx_nat, HT.sIx_none, S_len]
      rfl)) (eds_cons ed_str eds_nil))) (spD_pure (.hit (a := 99) hn hn4))) fun v4 H4 e4 h4 => ?_
    have ixw : ∀ {H : Hp} {z : Option V} (i : Nat) (c : Nat), (Atom.worth n m).cps[i]? = some c → EvD K (tOp rIxS (tVar 1) (tC (.int (i : Nat)))) [some v0, some (.str (S (Atom.worth n m).cps)), z] H (.str ⟨#[c]⟩) := fun i c hc => ed_ixS (ed_var ⟨_, rfl, .str _⟩) ed_int hlS (atI_nat hc)
    refine kq_skip K (etk_or (a := false) (b := false) (etk_D (ed_isN (d := .int (n : Nat)) (ed_var ⟨_, rfl, h4⟩))) fun _ =>
      etk_or (a := false) (b := false) (etk_D ((ed_neI (ed_lenS (ed_var ⟨_, rfl, .str _⟩) hlS) ed_int).is (by rw [S_len]; rfl))) fun _ =>
      etk_or (a := false) (b := false) (etk_D ((ed_neS (ixw 2 61 rfl) ed_str).is (by congr 1))) fun _ =>
      etk_D ((ed_notInS (ixw 3 (48 + m) rfl) ed_str).is (by rw [decide_eq_true (fig_mem hm4)]; rfl))) fun H5 e5 => ?_
    have e05 := (((e1.trans e2).trans e3).trans e4).trans e5
    have hix : atI (ss.map PyData.int) ((n : Nat) : Int) = some (.int sz) := atI_nat (by rw [List.getElem?_map, hsz]; rfl)
    refine sd_ret (K := K) (d := (Atom.worth n m).step) (ed_if (b := true) (etk_D ((ed_B0 (i := (m : Int)) (j := sz) (ed_intS (ixw 3 (48 + m) rfl) (dig_text hm4) (by simp [Str.length])) (ed_ixT (ed_var ⟨_, rfl, h0t.ex e05⟩) (ed_var ⟨_, rfl, h4.ex e5⟩) hix)).is (by rw [decide_eq_true hm])))
      (fun _ => ed_tup (eds_cons ed_str (eds_cons (ed_var ⟨_, rfl, h4.ex e5⟩) (eds_cons (ed_intS (ixw 3 (48 + m) rfl) (dig_text hm4) (by simp [Str.length])) eds_nil))) (by simp)) fun h => nomatch h) fun v H6 e6 hv => k v H6 (e05.trans e6) hv
end
end K61
end

section
set_option Elab.async false
set_option linter.all false
set_option maxRecDepth 100000
set_option maxHeartbeats 4000000
namespace K61
open PySem PySem.Spec PyProof.Rows L2 Evl RZ SX
local macro_rules | `(tactic| walk_at "evs") => `(tactic| first
  | exact ed_int | exact ed_str | exact ed_bl | exact ed_non
  | exact ed_var ⟨_, rfl, by first | assumption | exact .int _ | exact .str _ | exact .bl _ | exact .non⟩
  | exact ed_top (W0.t_ZERO (by assumption)) | exact ed_top (W0.t_ONE (by assumption))
  | refine ed_I0 ?_ ?_ | refine ed_B0 ?_ ?_ | refine ed_I ?_ ?_ ?_
  | refine ed_call ?_ ?_ | refine eds_cons ?_ ?_ | exact eds_nil
  | ((apply ed_ixT); (focus (walk_at "ev"; done)); (focus (walk_at "ev"; done)); (focus (exact rfl)); done)
  | ((apply ed_ixL); (focus (walk_at "ev"; done)); (focus (walk_at "ev"; done)); (focus (exact rfl)); done)
  | refine ed_tup ?_ ?_ | refine ed_lst ?_ ?_
  | ((refine ed_lenL ?_); (walk_at "ev"); done) | ((refine ed_lenT ?_); (walk_at "ev"); done) | refine ed_lenS ?_ ?_
  | refine ed_abs ?_ | ((refine ed_intI ?_); (walk_at "ev"); done) | refine ed_intB ?_ | refine ed_isi ?_ ?_
  | ((refine ed_eqI ?_ ?_ <;> walk_at "ev"); done) | ((refine ed_eqS ?_ ?_ <;> walk_at "ev"); done) | refine ed_neS ?_ ?_
  | refine ed_eqD ?_ ?_ ?_ ?_ | refine ed_neD ?_ ?_ ?_ ?_ | refine ed_ltD ?_ ?_ ?_ ?_ ?_
  | refine ed_isN ?_ | refine ed_notN ?_
  | refine ed_chain ?_ ?_ ?_ | refine ed_not ?_ | refine ed_and ?_ ?_ | refine ed_or ?_ ?_
  | refine ed_catS ?_ ?_ ?_ | refine ed_catT ?_ ?_ ?_
  | refine etk_D ?_ | refine etk_DB ?_ | refine etk_not ?_ | refine etk_and ?_ ?_ | refine etk_or ?_ ?_
  | exact rfl | assumption | omega | refine (fun (_ : _ = true) => ?_) | refine (fun (_ : _ = false) => ?_))
local macro_rules | `(tactic| walk_at "ev") => `(tactic| (walk_at "evs" <;> (try walk_at "ev")))

inductive Step where
  | atom (a : Atom) | not | and | or
deriving DecidableEq
def Step.d : Step → PD
  | .atom a => a.step
  | .not => .tuple [.str "not"]
  | .and => .tuple [.str "and"]
  | .or => .tuple [.str "or"]
def val (ws ns : List Int) : Atom → Bool
  | .yes => true
  | .no => false
  | .blank k => !ns.contains ((k : Nat) : Int)
  | .worth k v => decide (ws[k]? = some ((v : Nat) : Int))
def exec (f : Atom → Bool) : List Step → List Bool → Option (List Bool)
  | [], p => some p
  | .atom a :: r, p => exec f r (f a :: p)
  | .not :: r, b :: p => exec f r ((!b) :: p)
  | .and :: r, b :: a :: p => exec f r ((a && b) :: p)
  | .or :: r, b :: a :: p => exec f r ((a || b) :: p)
  | _, _ => none
def Step.okw (ws : List Int) : Step → Prop
  | .atom (.worth k _) => k < ws.length
  | _ => True
section
variable {P : Program} {w : World} {K : PySem.W.Frag} {mg : Str → Option Value} {base : Heap} {σ : L2.St} {H : Hp} {ta tb te : TE}
theorem inV_ints {k : Int} {ns : List Int} : inV (.int k) ((ns.map PyData.int).map vOf) = ns.contains k := by
  induction ns with
  | nil => rfl
  | cons n ns ih =>
    simp only [List.map_cons, List.contains_cons]
    show (eqV (.int n) (.int k) || inV (.int k) ((ns.map PyData.int).map vOf)) = _
    rw [ih]
    have : eqV (.int n) (.int k) = (k == n) := by
      show (n == k) = (k == n)
      exact BEq.comm
    rw [this]
def R_is_met (ds : List PD) (d : PD) : Prop := ∃ (steps : List Step) (ws ns : List Int) (b : Bool), steps.length ≤ 50000 ∧ (∀ s ∈ steps, s.okw ws) ∧ exec (val ws ns) steps [] = some [b] ∧ ds = [.list (steps.map Step.d), tI ws, tI ns] ∧ d = .bool b
abbrev sp_is_met (K : PySem.W.Frag) : Sp := spD K R_is_met
theorem pu_is_met {steps : List Step} {ws ns : List Int} {b : Bool} (h1 : steps.length ≤ 50000) (h2 : ∀ s ∈ steps, s.okw ws) (h3 : exec (val ws ns) steps [] = some [b]) : Pure K (sp_is_met K) [.list (steps.map Step.d), tI ws, tI ns] (.bool b) := spD_pure ⟨_, _, _, _, h1, h2, h3, rfl, rfl⟩
/-- xs.pop() -/
theorem pop_run {i : Nat} {l : Addr} {xs : List V} {y : V} {Q : VK} (hs : σ[i]? = some (some (.ref l))) (hl : H l = some (.lst (xs ++ [y]))) (q : Q y (upd H l (.lst xs))) : tBM0 K "list" rPop (tVar i) σ H Q :=
  ⟨_, hs, Or.inl ⟨rfl, _, sq_of hl⟩, l, _, y, rfl, rfl, hl, by simp, by rw [List.dropLast_concat]; exact q⟩
theorem bls_dps {H : Hp} : ∀ {bs : List Bool}, DpAll K H (bs.map V.bl) (bs.map PyData.bool)
  | [] => .nil
  | b :: bs => .cons (.bl b) bls_dps
theorem sc_is_met : FnScope ["steps", "content", "pattern", "pile", "step", "last", "first"] ["steps", "content", "pattern"] (defScope (top 41)) := ⟨rfl, rfl, rfl, by decide +kernel, rfl, by decide +kernel, by decide +kernel⟩
theorem ok_is_met (C : W0 P w K mg base) : Cl P w K mg base 1 "is_met" ["steps", "content", "pattern"] (sp_is_met K) := by
  refine Cl.of C.f_is_met C.g_is_met sc_is_met (fun _ _ _ _ _ _ us hl => match us, hl with | [_, _, _], _ => rfl) (fun vs H Q E h => by obtain ⟨ds, d, ⟨_, _, _, _, _, _, _, rfl, rfl⟩, hd, _⟩ := h; exact hd.length) fun cdv A outer s H vs Q E hr h => ?_
  obtain ⟨_, _, ⟨steps, ws, ns, b, hl, hw, hex, rfl, rfl⟩, hd, k⟩ := h
  obtain ⟨x0, x1, x2, rfl, h0, h1, h2⟩ := hd.three_inv
  have h1 : Dp K H x1 (.tuple (ws.map PyData.int)) := h1
  have h2 : Dp K H x2 (.tuple (ns.map PyData.int)) := h2
  refine ⟨_, (pss_cons (ps_set (i := 3) sc_is_met.nd rfl (Or.inl rfl) (pe_lst pa_nil))
      (pss_cons (ps_for PassesOwn.never rfl (pi_list (pv 0)) (pg_name (i := 4) sc_is_met.nd rfl (Or.inl rfl)) (pss_one (ps_if (pt_cmpR op_eq (pe_ix ix_tup (pv 4) pe_int (fun _ _ => rfl)) pe_str (nomark _)) (pss_one (ps_expr (pe_bm PySem.F.plainAttrs_list PySem.F.slot_list_append PySem.F.type_list_append mt_append (pv 3) (pa_cons (pe_cmpR op_eq (pe_ix ix_tup (pv 1) (pe_ix ix_tup (pv 4) pe_int (fun _ _ => rfl)) (fun _ _ => rfl)) (pe_ix ix_tup (pv 4) pe_int (fun _ _ => rfl)) (nomark _)) pa_nil)))) (pss_one (ps_if (pt_cmpR op_eq (pe_ix ix_tup (pv 4) pe_int (fun _ _ => rfl)) pe_str (nomark _)) (pss_one (ps_expr (pe_bm PySem.F.plainAttrs_list PySem.F.slot_list_append PySem.F.type_list_append mt_append (pv 3) (pa_cons (pe_cmpR op_notIn_seq (pe_ix ix_tup (pv 4) pe_int (fun _ _ => rfl)) (pv 2) (by rfl)) pa_nil)))) (pss_one (ps_if (pt_cmpR op_in_seq (pe_ix ix_tup (pv 4) pe_int (fun _ _ => rfl)) (pe_tup (pa_cons pe_str (pa_cons pe_str pa_nil))) (by rfl)) (pss_one (ps_expr (pe_bm PySem.F.plainAttrs_list PySem.F.slot_list_append PySem.F.type_list_append mt_append (pv 3) (pa_cons (pe_cmpR op_eq (pe_ix ix_tup (pv 4) pe_int (fun _ _ => rfl)) pe_str (nomark _)) pa_nil)))) (pss_one (ps_if (pt_cmpR op_eq (pe_ix ix_tup (pv 4) pe_int (fun _ _ => rfl)) pe_str (nomark _)) (pss_one (ps_expr (pe_bm PySem.F.plainAttrs_list PySem.F.slot_list_append PySem.F.type_list_append mt_append (pv 3) (pa_cons (pe_not (pe_bm0 PySem.F.plainAttrs_list PySem.F.slot_list_pop PySem.F.type_list_pop mt_pop (pv 3))) pa_nil)))) (pss_cons (ps_par (i := 5) (j := 6) rfl sc_is_met.nd rfl rfl (by decide) rfl rfl (pa_cons (pe_bm0 PySem.F.plainAttrs_list PySem.F.slot_list_pop PySem.F.type_list_pop mt_pop (pv 3)) (pa_cons (pe_bm0 PySem.F.plainAttrs_list PySem.F.slot_list_pop PySem.F.type_list_pop mt_pop (pv 3)) pa_nil)) (by rfl))
      (pss_one (ps_expr (pe_bm PySem.F.plainAttrs_list PySem.F.slot_list_append PySem.F.type_list_append mt_append (pv 3) (pa_cons (pe_ifExp (pt_cmpR op_eq (pe_ix ix_tup (pv 4) pe_int (fun _ _ => rfl)) pe_str (nomark _)) (pe_and (pv 6) (pe_one (pv 5))) (pe_or (pv 6) (pe_one (pv 5)))) pa_nil))))))))))))))
      (pss_one (ps_ret (pe_ix ix_list (pv 3) pe_int (fun _ _ => rfl)))))), ?_⟩
  refine qd_asgF (K := K) (ds := []) (ef_lst eds_nil (by simp)) fun l vs H1 hp e1 hpl hvs => ?_
  cases hvs
  refine qd_forV (K := K) (G := H) (ds := steps.map Step.d) e1 (wv_list ⟨_, rfl, h0⟩) (fun i σ' H' => ∃ z1 z2 z3 pile, σ' = [some x0, some x1, some x2, some (.ref l), z1, z2, z3] ∧ H' l = some (.lst (pile.reverse.map V.bl)) ∧ pile.length ≤ i ∧ exec (val ws ns) (steps.drop i) pile = some [b]) ⟨_, _, _, [], rfl, hpl, Nat.le_refl _, hex⟩ ?_ ?_
  · rintro i d hd σ' H2 e2 ⟨z1, z2, z3, pile, rfl, hpile, hpi, hexi⟩ q H3 e3 hq
    rw [List.getElem?_map] at hd
    obtain ⟨st, hst, rfl⟩ := Option.map_eq_some_iff.mp hd
    obtain ⟨hi, hie⟩ := List.getElem?_eq_some_iff.mp hst
    rw [List.drop_eq_getElem_cons hi, hie] at hexi
    have hwst := hw st (List.mem_of_getElem? hst)
    have hpile := e3 _ _ hpile
    have eH3 := e2.trans e3
    -- what a turn reaches: pile', the rest
    have fin : ∀ (H4 : Hp) (z2 z3 : Option V) (p' : List Bool), Ex H H4 → p'.length ≤ i + 1 → exec (val ws ns) (steps.drop (i + 1)) p' = some [b] → H4 l = some (.lst (p'.reverse.map V.bl)) → nxt H (fun i σ' H' => ∃ z1 z2 z3 pile, σ' = [some x0, some x1, some x2, some (.ref l), z1, z2, z3] ∧ H' l = some (.lst (pile.reverse.map V.bl)) ∧ pile.length ≤ i ∧ exec (val ws ns) (steps.drop i) pile = some [b]) i [some x0, some x1, some x2, some (.ref l), some q, z2, z3] H4 :=
      fun H4 z2 z3 p' h1 h2 h3 h4 => ⟨h1, _, _, _, p', rfl, h4, h2, h3⟩
    have snoc : ∀ (p : List Bool) (c : Bool), (p.reverse.map V.bl) ++ [.bl c] = ((c :: p).reverse.map V.bl) := fun p c => by simp
    -- step[0] as a text
    have ix0 : ∀ (x : Str) (r : List PD), st.d = .tuple (.str x :: r) → ∀ {H : Hp} {z2 z3 : Option V}, Dp K H q st.d → EvD K (tOp (rIxT K) (tVar 4) (tC (.int 0))) [some x0, some x1, some x2, some (.ref l), some q, z2, z3] H (.str x) := fun x r h {H z2 z3} hq => ed_ixT (ds := .str x :: r) (ed_var ⟨_, rfl, by rw [h] at hq; exact hq⟩) ed_int (atI_nat (i := 0) rfl)
    have app : ∀ (te : TE) (c : Bool) (p : List Bool) (H4 : Hp) (z2 z3 : Option V) (D : Ends), EvD K te [some x0, some x1, some x2, some (.ref l), some q, z2, z3] H4 (.bool c) → H4 l = some (.lst (p.reverse.map V.bl)) → p.length ≤ 60000 → (∀ H5, Ex H4 H5 → D.nx [some x0, some x1, some x2, some (.ref l), some q, z2, z3] (upd H5 l (.lst ((c :: p).reverse.map V.bl)))) →
        tDrop (tBM K "list" rAppend (tVar 3) (tCons te tNil)) D [some x0, some x1, some x2, some (.ref l), some q, z2, z3] H4 := by
      intro te c p H4 z2 z3 D hte hp4 hlen k
      refine sd_app (K := K) rfl hp4 hte (by simp; omega) fun v H5 e5 hv => ?_
      rw [hv.bl_inv, snoc]
      exact k H5 e5
    have hlen : pile.length ≤ 60000 := by omega
    cases st with
    | atom a =>
      cases a with
      | worth n m =>
        have hq' : Dp K H3 q (.tuple [.str "worth", .int (n : Nat), .int (m : Nat)]) := hq
        refine ks_take K (etk_D ((ed_eqS (ix0 "worth" _ rfl hq) ed_str).is (by rw [decide_eq_true rfl]))) fun H4 e4 => ?_
        have hn : n < ws.length := hwst
        have hws : ws[n]? = some ws[n] := List.getElem?_eq_getElem hn
        refine app _ (val ws ns (.worth n m)) pile H4 _ _ _ ((ed_eqI (i := ws[n]) (j := (m : Int)) (ed_ixT (i := (n : Int)) (ed_var ⟨_, rfl, h1.ex (eH3.trans e4)⟩) (ed_ixT (ds := [.str "worth", .int (n : Nat), .int (m : Nat)]) (ed_var ⟨_, rfl, hq'.ex e4⟩) ed_int rfl) (atI_nat (by rw [List.getElem?_map, hws]; rfl))) (ed_ixT (ds := [.str "worth", .int (n : Nat), .int (m : Nat)]) (ed_var ⟨_, rfl, hq'.ex e4⟩) ed_int rfl)).is (by
          show _ = PyData.bool (decide (ws[n]? = some (m : Int))); rw [hws]; congr 1; exact decide_eq_decide.mpr ⟨fun h => by rw [h], fun h => Option.some.inj h⟩)) (e4 _ _ hpile) hlen fun H5 e5 => fin _ _ _ _ (Ex.mut ((eH3.trans e4).trans e5) hp) (by simp; omega) hexi upd_same
      | blank n =>
        have hq' : Dp K H3 q (.tuple [.str "blank", .int (n : Nat)]) := hq
        refine ks_else K (etk_D ((ed_eqS (ix0 "blank" _ rfl hq) ed_str).is (congrArg PyData.bool (by decide)))) fun H4 e4 => ?_
        refine ks_take K (etk_D ((ed_eqS (ix0 "blank" _ rfl (hq.ex e4)) ed_str).is (by rw [decide_eq_true rfl]))) fun H5 e5 => ?_
        have e45 := e4.trans e5
        refine app _ (val ws ns (.blank n)) pile H5 _ _ _ ((ed_inT (neg := true) (x := .int (n : Nat)) (ed_ixT (ds := [.str "blank", .int (n : Nat)]) (ed_var ⟨_, rfl, hq'.ex e45⟩) ed_int rfl) (ed_var ⟨_, rfl, h2.ex (eH3.trans e45)⟩) rfl (by rw [List.all_eq_true]; intro d hd; obtain ⟨_, _, rfl⟩ := List.mem_map.mp hd; rfl)).is (by
          rw [if_pos rfl]; show PyData.bool (!inV (.int (n : Nat)) _) = PyData.bool (!ns.contains (n : Int)); rw [inV_ints])) (e45 _ _ hpile) hlen fun H6 e6 => fin _ _ _ _ (Ex.mut ((eH3.trans e45).trans e6) hp) (by simp; omega) hexi upd_same
      | yes =>
        refine ks_else K (etk_D ((ed_eqS (ix0 "yes" _ rfl hq) ed_str).is (congrArg PyData.bool (by decide)))) fun H4 e4 => ?_
        refine ks_else K (etk_D ((ed_eqS (ix0 "yes" _ rfl (hq.ex e4)) ed_str).is (congrArg PyData.bool (by decide)))) fun H5 e5 => ?_
        have e45 := e4.trans e5
        refine ks_take K (etk_D ((ed_inT (neg := false) (ix0 "yes" _ rfl (hq.ex e45)) (ed_tup (eds_cons ed_str (eds_cons ed_str eds_nil)) (by simp)) rfl rfl).is (d' := .bool true) (congrArg PyData.bool (by decide)))) fun H6 e6 => ?_
        have e46 := e45.trans e6
        refine app _ true pile H6 _ _ _ ((ed_eqS (ix0 "yes" _ rfl (hq.ex e46)) ed_str).is (by rw [decide_eq_true rfl])) (e46 _ _ hpile) hlen fun H7 e7 => fin _ _ _ _ (Ex.mut ((eH3.trans e46).trans e7) hp) (by simp; omega) hexi upd_same
      | no =>
        refine ks_else K (etk_D ((ed_eqS (ix0 "no" _ rfl hq) ed_str).is (congrArg PyData.bool (by decide)))) fun H4 e4 => ?_
        refine ks_else K (etk_D ((ed_eqS (ix0 "no" _ rfl (hq.ex e4)) ed_str).is (congrArg PyData.bool (by decide)))) fun H5 e5 => ?_
        have e45 := e4.trans e5
        refine ks_take K (etk_D ((ed_inT (neg := false) (ix0 "no" _ rfl (hq.ex e45)) (ed_tup (eds_cons ed_str (eds_cons ed_str eds_nil)) (by simp)) rfl rfl).is (d' := .bool true) (congrArg PyData.bool (by decide)))) fun H6 e6 => ?_
        have e46 := e45.trans e6
        refine app _ false pile H6 _ _ _ ((ed_eqS (ix0 "no" _ rfl (hq.ex e46)) ed_str).is (congrArg PyData.bool (by decide))) (e46 _ _ hpile) hlen fun H7 e7 => fin _ _ _ _ (Ex.mut ((eH3.trans e46).trans e7) hp) (by simp; omega) hexi upd_same
    | not =>
      match pile, hexi, hpile, hpi, hlen with
      | [], hexi, _, _, _ => simp [exec] at hexi
      | c :: p, hexi, hpile, hpi, hlen =>
        refine ks_else K (etk_D ((ed_eqS (ix0 "not" _ rfl hq) ed_str).is (congrArg PyData.bool (by decide)))) fun H4 e4 => ?_
        refine ks_else K (etk_D ((ed_eqS (ix0 "not" _ rfl (hq.ex e4)) ed_str).is (congrArg PyData.bool (by decide)))) fun H5 e5 => ?_
        have e45 := e4.trans e5
        refine ks_else K (etk_D ((ed_inT (neg := false) (ix0 "not" _ rfl (hq.ex e45)) (ed_tup (eds_cons ed_str (eds_cons ed_str eds_nil)) (by simp)) rfl rfl).is (d' := .bool false) (congrArg PyData.bool (by decide)))) fun H6 e6 => ?_
        have e46 := e45.trans e6
        refine ks_take K (etk_D ((ed_eqS (ix0 "not" _ rfl (hq.ex e46)) ed_str).is (by rw [decide_eq_true rfl]))) fun H7 e7 => ?_
        have e47 := e46.trans e7
        have hp7 := e47 _ _ hpile
        rw [← snoc] at hp7
        refine ⟨_, rfl, Or.inl ⟨rfl, _, sq_of hp7⟩, pop_run (K := K) rfl hp7 ⟨c, rfl, l, _, _, rfl, rfl, upd_same, sz_lt (by simp at hlen ⊢; omega), ?_⟩⟩
        rw [upd_upd, snoc]
        exact fin _ _ _ ((!c) :: p) (Ex.mut (eH3.trans e47) hp) (by simp at hpi ⊢; omega) hexi upd_same
    | and =>
      match pile, hexi, hpile, hpi, hlen with
      | [], hexi, _, _, _ => simp [exec] at hexi
      | [_], hexi, _, _, _ => simp [exec] at hexi
      | c :: a :: p, hexi, hpile, hpi, hlen =>
        refine ks_else K (etk_D ((ed_eqS (ix0 "and" _ rfl hq) ed_str).is (congrArg PyData.bool (by decide)))) fun H4 e4 => ?_
        refine ks_else K (etk_D ((ed_eqS (ix0 "and" _ rfl (hq.ex e4)) ed_str).is (congrArg PyData.bool (by decide)))) fun H5 e5 => ?_
        have e45 := e4.trans e5
        refine ks_else K (etk_D ((ed_inT (neg := false) (ix0 "and" _ rfl (hq.ex e45)) (ed_tup (eds_cons ed_str (eds_cons ed_str eds_nil)) (by simp)) rfl rfl).is (d' := .bool false) (congrArg PyData.bool (by decide)))) fun H6 e6 => ?_
        have e46 := e45.trans e6
        refine ks_else K (etk_D ((ed_eqS (ix0 "and" _ rfl (hq.ex e46)) ed_str).is (congrArg PyData.bool (by decide)))) fun H7 e7 => ?_
        have e47 := e46.trans e7
        have hp7 := e47 _ _ hpile
        rw [← snoc, ← snoc] at hp7
        refine pop_run (K := K) rfl hp7 (pop_run (K := K) rfl upd_same ⟨_, _, rfl, ?_⟩)
        rw [upd_upd]
        have eH7 : Ex H (upd H7 l (.lst (p.reverse.map V.bl))) := Ex.mut (eH3.trans e47) hp
        have hq7 : Dp K (upd H7 l (.lst (p.reverse.map V.bl))) q Step.and.d := dp_tx (Tx.updL hp7) rfl (hq.ex e47)
        refine app _ (a && c) p _ (some (.bl c)) (some (.bl a)) _ (ed_if (b := true) (etk_D ((ed_eqS (ix0 "and" _ rfl hq7) ed_str).is (by rw [decide_eq_true rfl]))) (fun _ => ed_and (ed_var ⟨_, rfl, .bl _⟩) fun _ => ed_var ⟨_, rfl, .bl _⟩) fun h => nomatch h) upd_same (by simp at hlen; omega) fun H8 e8 => fin _ _ _ ((a && c) :: p) (Ex.mut (eH7.trans e8) hp) (by simp at hpi ⊢; omega) hexi upd_same
    | or =>
      match pile, hexi, hpile, hpi, hlen with
      | [], hexi, _, _, _ => simp [exec] at hexi
      | [_], hexi, _, _, _ => simp [exec] at hexi
      | c :: a :: p, hexi, hpile, hpi, hlen =>
        refine ks_else K (etk_D ((ed_eqS (ix0 "or" _ rfl hq) ed_str).is (congrArg PyData.bool (by decide)))) fun H4 e4 => ?_
        refine ks_else K (etk_D ((ed_eqS (ix0 "or" _ rfl (hq.ex e4)) ed_str).is (congrArg PyData.bool (by decide)))) fun H5 e5 => ?_
        have e45 := e4.trans e5
        refine ks_else K (etk_D ((ed_inT (neg := false) (ix0 "or" _ rfl (hq.ex e45)) (ed_tup (eds_cons ed_str (eds_cons ed_str eds_nil)) (by simp)) rfl rfl).is (d' := .bool false) (congrArg PyData.bool (by decide)))) fun H6 e6 => ?_
        have e46 := e45.trans e6
        refine ks_else K (etk_D ((ed_eqS (ix0 "or" _ rfl (hq.ex e46)) ed_str).is (congrArg PyData.bool (by decide)))) fun H7 e7 => ?_
        have e47 := e46.trans e7
        have hp7 := e47 _ _ hpile
        rw [← snoc, ← snoc] at hp7
        refine pop_run (K := K) rfl hp7 (pop_run (K := K) rfl upd_same ⟨_, _, rfl, ?_⟩)
        rw [upd_upd]
        have eH7 : Ex H (upd H7 l (.lst (p.reverse.map V.bl))) := Ex.mut (eH3.trans e47) hp
        have hq7 : Dp K (upd H7 l (.lst (p.reverse.map V.bl))) q Step.or.d := dp_tx (Tx.updL hp7) rfl (hq.ex e47)
        refine app _ (a || c) p _ (some (.bl c)) (some (.bl a)) _ (ed_if (b := false) (etk_D ((ed_eqS (ix0 "or" _ rfl hq7) ed_str).is (congrArg PyData.bool (by decide)))) (fun h => nomatch h) fun _ => ed_or (ed_var ⟨_, rfl, .bl _⟩) fun _ => ed_var ⟨_, rfl, .bl _⟩) upd_same (by simp at hlen; omega) fun H8 e8 => fin _ _ _ ((a || c) :: p) (Ex.mut (eH7.trans e8) hp) (by simp at hpi ⊢; omega) hexi upd_same
  · rintro σ' H2 e2 ⟨z1, z2, z3, pile, rfl, hpile, _, hexi⟩
    rw [List.length_map, List.drop_length] at hexi
    have hp : pile = [b] := Option.some.inj hexi
    subst hp
    refine sd_ret (K := K) (d := .bool b) (ed_ixL (ds := [.bool b]) (ed_var ⟨_, rfl, .lst (sq_of hpile) (.cons (.bl b) .nil)⟩) ed_int rfl) fun v H3 e3 hv => k v H3 (e2.trans e3) hv
end
end K61
end

section
set_option Elab.async false
set_option linter.all false
set_option maxRecDepth 100000
set_option maxHeartbeats 4000000
namespace K61
open PySem PySem.Spec PyProof.Rows L2 Evl RZ SX
local macro_rules | `(tactic| walk_at "evs") => `(tactic| first
  | exact ed_int | exact ed_str | exact ed_bl | exact ed_non
  | exact ed_var ⟨_, rfl, by first | assumption | exact .int _ | exact .str _ | exact .bl _ | exact .non⟩
  | exact ed_top (W0.t_ZERO (by assumption)) | exact ed_top (W0.t_ONE (by assumption))
  | refine ed_I0 ?_ ?_ | refine ed_B0 ?_ ?_ | refine ed_I ?_ ?_ ?_
  | refine ed_call ?_ ?_ | refine eds_cons ?_ ?_ | exact eds_nil
  | ((apply ed_ixT); (focus (walk_at "ev"; done)); (focus (walk_at "ev"; done)); (focus (exact rfl)); done)
  | ((apply ed_ixL); (focus (walk_at "ev"; done)); (focus (walk_at "ev"; done)); (focus (exact rfl)); done)
  | refine ed_tup ?_ ?_ | refine ed_lst ?_ ?_
  | ((refine ed_lenL ?_); (walk_at "ev"); done) | ((refine ed_lenT ?_); (walk_at "ev"); done) | refine ed_lenS ?_ ?_
  | refine ed_abs ?_ | ((refine ed_intI ?_); (walk_at "ev"); done) | refine ed_intB ?_ | refine ed_isi ?_ ?_
  | ((refine ed_eqI ?_ ?_ <;> walk_at "ev"); done) | ((refine ed_eqS ?_ ?_ <;> walk_at "ev"); done) | refine ed_neS ?_ ?_
  | refine ed_eqD ?_ ?_ ?_ ?_ | refine ed_neD ?_ ?_ ?_ ?_ | refine ed_ltD ?_ ?_ ?_ ?_ ?_
  | refine ed_isN ?_ | refine ed_notN ?_
  | refine ed_chain ?_ ?_ ?_ | refine ed_not ?_ | refine ed_and ?_ ?_ | refine ed_or ?_ ?_
  | refine ed_catS ?_ ?_ ?_ | refine ed_catT ?_ ?_ ?_
  | refine etk_D ?_ | refine etk_DB ?_ | refine etk_not ?_ | refine etk_and ?_ ?_ | refine etk_or ?_ ?_
  | exact rfl | assumption | omega | refine (fun (_ : _ = true) => ?_) | refine (fun (_ : _ = false) => ?_))
local macro_rules | `(tactic| walk_at "ev") => `(tactic| (walk_at "evs" <;> (try walk_at "ev")))

/-- the steps can be run on every row and give f -/
structure Runs (rows : List Row) (steps : List Step) (f : Row → Bool) : Prop where
  n : steps.length ≤ 50000
  w : ∀ r ∈ rows, ∀ s ∈ steps, s.okw r.ws
  x : ∀ r ∈ rows, exec (val r.ws r.ns) steps [] = some [f r]
/-- fractions that can be added up -/
structure Adds (qs : List Rat) : Prop where
  a : ∀ q ∈ qs, small q
  b : ∀ i, small (sumR (qs.take i))
inductive Asks where
  | share (s : List Step) (f : Row → Bool)
  | mean (k : Nat)
def Asks.qd (S2 : List Step) : Asks → PD
  | .share s _ => .tuple [.str "share", .list (s.map Step.d), .list (S2.map Step.d)]
  | .mean k => .tuple [.str "mean", .int (k : Nat), .list (S2.map Step.d)]
/-- what is added up on top -/
def Asks.tops (A : List Row) : Asks → List Rat
  | .share _ f => (A.filter f).map (·.q)
  | .mean k => A.map fun r => ((r.ws.getD k 0 : Int) : Rat) * r.q
def Asks.ok (A : List Row) : Asks → Prop
  | .share s f => Runs A s f
  | .mean k => ∀ r ∈ A, k < r.ws.length ∧ small ((r.ws.getD k 0 : Int) : Rat)
def ansD (A : List Row) (a : Asks) : PD := if sumR (A.map (·.q)) = 0 then .none else rt (sumR (a.tops A) / sumR (A.map (·.q)))
structure okAsk (rows : List Row) (S2 : List Step) (f2 : Row → Bool) (a : Asks) : Prop where
  n : rows.length ≤ 1000
  r2 : Runs rows S2 f2
  sm : ∀ r ∈ rows, small r.q
  ok : a.ok (rows.filter f2)
  ab : Adds ((rows.filter f2).map (·.q))
  at_ : Adds (a.tops (rows.filter f2))
  sb : small (sumR ((rows.filter f2).map (·.q)))
  stt : small (sumR (a.tops (rows.filter f2)))
  pos : sumR ((rows.filter f2).map (·.q)) ≠ 0 → 0 < (sumR ((rows.filter f2).map (·.q))).num
section
variable {P : Program} {w : World} {K : PySem.W.Frag} {mg : Str → Option Value} {base : Heap} {σ : L2.St} {H : Hp} {ta tb te : TE}
theorem g_triple {i j k : Nat} {x : V} {d1 d2 d3 : PD} {Q : L2.St → Hp → Prop} (h : Dp K H x (.tuple [d1, d2, d3])) (q : ∀ x1 x2 x3, Dp K H x1 d1 → Dp K H x2 d2 → Dp K H x3 d3 → Q (((σ.set i (some x1)).set j (some x2)).set k (some x3)) H) :
    gTup K 3 (gCons (gName i) (gCons (gName j) (gCons (gName k) gNil))) x σ H Q := by
  obtain ⟨a, xs, rfl, hs, hx⟩ := Dp.tup_inv h
  obtain ⟨u, v, z, rfl, q1, q2, q3⟩ := hx.three_inv
  exact ⟨a, _, rfl, hs, rfl, u, _, rfl, v, _, rfl, z, _, rfl, rfl, q u v z q1 q2 q3⟩
theorem rt_int {c : Int} : PyData.tuple [.int c, .int 1] = rt (c : Rat) := rfl
theorem eqv_rt {p q : Rat} (h : p.num ≠ q.num) : PyData.eqv (rt p) (rt q) = false := by
  unfold rt
  simp [PyData.eqv, PyData.eqvAll, h]
theorem eqv_rt_self {p : Rat} : PyData.eqv (rt p) (rt p) = true := by
  unfold rt
  simp [PyData.eqv, PyData.eqvAll]
def R_answer_of (ds : List PD) (d : PD) : Prop := ∃ (rows : List Row) (S2 : List Step) (f2 : Row → Bool) (a : Asks), okAsk rows S2 f2 a ∧ ds = [.tuple (rows.map shareD), a.qd S2] ∧ d = ansD (rows.filter f2) a
abbrev sp_answer_of (K : PySem.W.Frag) : Sp := spD K R_answer_of
theorem sc_answer_of : FnScope ["shares", "question", "kind", "thing", "behind", "some", "base", "place", "part"] ["shares", "question"] (defScope (top 42)) := ⟨rfl, rfl, rfl, by decide +kernel, rfl, by decide +kernel, by decide +kernel⟩
theorem ok_answer_of (C : W0 P w K mg base) : Cl P w K mg base 5 "answer_of" ["shares", "question"] (sp_answer_of K) := by
  have o_add_all := ok_add_all C
  have o_is_met := ok_is_met C
  have o_over := ok_over C
  have o_times := ok_times C
  refine Cl.of C.f_answer_of C.g_answer_of sc_answer_of (fun _ _ _ _ _ _ us hl => match us, hl with | [_, _], _ => rfl) (fun vs H Q E h => by obtain ⟨ds, d, ⟨_, _, _, _, _, rfl, rfl⟩, hd, _⟩ := h; exact hd.length) fun cdv A outer s H vs Q E hr h => ?_
  obtain ⟨_, _, ⟨rows, S2, f2, a, hok, rfl, rfl⟩, hd, k⟩ := h
  obtain ⟨x0, x1, rfl, h0, h1⟩ := hd.two_inv
  refine ⟨_, (pss_cons (ps_asg (pv 1) (pg_tup rfl (pgs_cons (pg_name (i := 2) sc_answer_of.nd rfl (Or.inl rfl)) (pgs_cons (pg_name (i := 3) sc_answer_of.nd rfl (Or.inr rfl)) (pgs_cons (pg_name (i := 4) sc_answer_of.nd rfl (Or.inr rfl)) pgs_nil)))))
      (pss_cons (ps_setLc (i := 5) (own := [("place", 7), ("part", 8)]) rfl sc_answer_of.nd rfl rfl (sw_true rfl rfl rfl (by decide +kernel)) (pi_tup (pv 0)) (blkOk_by (N := ["shares", "question", "kind", "thing", "behind", "some", "base", "place", "part"]) (sc := (defScope (top 42))) (own := [("place", 7), ("part", 8)]) (by decide +kernel)) (fun _ _ _ _ _ => (pg_tupK (K0 := K) (n := 2) rfl rfl (pgs_cons (pg_name (i := 7) sc_answer_of.nd rfl (Or.inl rfl)) (pgs_cons (pg_name (i := 8) sc_answer_of.nd rfl (Or.inl rfl)) pgs_nil)))) (fun _ _ _ _ _ => (pts_one (pt_val (pe_cl o_is_met hr (by decide) rfl (pa_cons (pv 4) (pa_cons (pe_ix (ix_tupK (K0 := K) rfl) (pv 7) pe_int (fun _ _ => rfl)) (pa_cons (pe_ix (ix_tupK (K0 := K) rfl) (pv 7) pe_int (fun _ _ => rfl)) pa_nil))))))) (fun _ _ _ _ _ => (pe_tup (pa_cons (pv 7) (pa_cons (pv 8) pa_nil)))))
      (pss_cons (ps_set (i := 6) sc_answer_of.nd rfl (Or.inl rfl) (pe_cl o_add_all hr (by decide) rfl (pa_cons (pe_lc (own := [("place", 7), ("part", 8)]) rfl sc_answer_of.nd (pi_list (pv 5)) (blkOk_by (N := ["shares", "question", "kind", "thing", "behind", "some", "base", "place", "part"]) (sc := (defScope (top 42))) (own := [("place", 7), ("part", 8)]) (by decide +kernel)) (fun _ _ _ _ _ => (pg_tupK (K0 := K) (n := 2) rfl rfl (pgs_cons (pg_name (i := 7) sc_answer_of.nd rfl (Or.inl rfl)) (pgs_cons (pg_name (i := 8) sc_answer_of.nd rfl (Or.inl rfl)) pgs_nil)))) (fun _ _ _ _ _ => pts_nil) (fun _ _ _ _ _ => (pv 8))) pa_nil)))
      (pss_cons (ps_if (pt_cmpR (op_eqD hr.units) (pv 6) (C8.pe_gc rfl C.c_ZERO) (nomark _)) (pss_one (ps_ret pe_non)) pss_nil)
      (pss_cons (ps_if (pt_cmpR op_eq (pv 2) pe_str (nomark _)) (pss_one (ps_ret (pe_cl o_over hr (by decide) rfl (pa_cons (pe_cl o_add_all hr (by decide) rfl (pa_cons (pe_lc (own := [("place", 7), ("part", 8)]) rfl sc_answer_of.nd (pi_list (pv 5)) (blkOk_by (N := ["shares", "question", "kind", "thing", "behind", "some", "base", "place", "part"]) (sc := (defScope (top 42))) (own := [("place", 7), ("part", 8)]) (by decide +kernel)) (fun _ _ _ _ _ => (pg_tupK (K0 := K) (n := 2) rfl rfl (pgs_cons (pg_name (i := 7) sc_answer_of.nd rfl (Or.inl rfl)) (pgs_cons (pg_name (i := 8) sc_answer_of.nd rfl (Or.inl rfl)) pgs_nil)))) (fun _ _ _ _ _ => pts_nil) (fun _ _ _ _ _ => (pe_cl o_times hr (by decide) rfl (pa_cons (pe_tup (pa_cons (pe_ix (ix_tupK (K0 := K) rfl) (pe_ix (ix_tupK (K0 := K) rfl) (pv 7) pe_int (fun _ _ => rfl)) (pv 3) (fun _ _ => rfl)) (pa_cons pe_int pa_nil))) (pa_cons (pv 8) pa_nil))))) pa_nil)) (pa_cons (pv 6) pa_nil))))) pss_nil)
      (pss_one (ps_ret (pe_cl o_over hr (by decide) rfl (pa_cons (pe_cl o_add_all hr (by decide) rfl (pa_cons (pe_lc (own := [("place", 7), ("part", 8)]) rfl sc_answer_of.nd (pi_list (pv 5)) (blkOk_by (N := ["shares", "question", "kind", "thing", "behind", "some", "base", "place", "part"]) (sc := (defScope (top 42))) (own := [("place", 7), ("part", 8)]) (by decide +kernel)) (fun _ _ _ _ _ => (pg_tupK (K0 := K) (n := 2) rfl rfl (pgs_cons (pg_name (i := 7) sc_answer_of.nd rfl (Or.inl rfl)) (pgs_cons (pg_name (i := 8) sc_answer_of.nd rfl (Or.inl rfl)) pgs_nil)))) (fun _ _ _ _ _ => (pts_one (pt_val (pe_cl o_is_met hr (by decide) rfl (pa_cons (pv 3) (pa_cons (pe_ix (ix_tupK (K0 := K) rfl) (pv 7) pe_int (fun _ _ => rfl)) (pa_cons (pe_ix (ix_tupK (K0 := K) rfl) (pv 7) pe_int (fun _ _ => rfl)) pa_nil))))))) (fun _ _ _ _ _ => (pv 8))) pa_nil)) (pa_cons (pv 6) pa_nil)))))))))), ?_⟩
  obtain ⟨kd, th, hqd⟩ : ∃ (kd : Str) (th : PD), a.qd S2 = .tuple [.str kd, th, .list (S2.map Step.d)] := by cases a <;> exact ⟨_, _, rfl⟩
  have h1' : Dp K H x1 (.tuple [.str kd, th, .list (S2.map Step.d)]) := by rw [← hqd]; exact h1
  refine ⟨x1, rfl, g_triple h1' fun y1 y2 y3 hy1 hy2 hy3 => ?_⟩
  dsimp only
  have metT : ∀ {H : Hp} (i : Nat) (S : List Step) (f : Row → Bool) (σ : L2.St), (∃ z, σ[i]? = some (some z) ∧ Dp K H z (.list (S.map Step.d))) → Runs rows S f → ∀ r ∈ rows, (∃ z, σ[7]? = some (some z) ∧ Dp K H z (placeD r)) → EvD K (tCall (sp_is_met K) [] E0 (tCons (tVar i) (tCons (tOp (rIxT K) (tVar 7) (tC (.int 0))) (tCons (tOp (rIxT K) (tVar 7) (tC (.int 1))) tNil)))) σ H (.bool (f r)) := by
    intro H i S f σ hi hr r hm hp
    obtain ⟨z, hz1, hz2⟩ := hp
    have hz2 : Dp K H z (.tuple [tI r.ws, tI r.ns]) := hz2
    exact ed_call (eds_cons (ed_var hi) (eds_cons (ed_ixT (ds := [tI r.ws, tI r.ns]) (ed_var ⟨z, hz1, hz2⟩) ed_int rfl) (eds_cons (ed_ixT (ds := [tI r.ws, tI r.ns]) (ed_var ⟨z, hz1, hz2⟩) ed_int rfl) eds_nil))) (pu_is_met hr.n (hr.w r hm) (hr.x r hm))
  refine qd_asg (K := K) (d := .list ((rows.filter f2).map shareD)) ?_ fun v5 H1 e1 h5 => ?_
  · refine ed_lcAP (xs := rows) (f1 := placeD) (f2 := fun r => rt r.q) (g := shareD) (wk_tup (ed_var ⟨_, rfl, h0⟩)) f2 (by have := hok.n; omega) (fun _ _ => tfr_pair (tfr_pair tfr_tI tfr_tI) tfr_rt) (fun _ _ => rfl) fun H1 e1 r hr u v hu hv => ⟨etk_D (metT 4 S2 f2 _ ⟨_, rfl, hy3.ex e1⟩ hok.r2 r hr ⟨_, rfl, hu⟩), fun _ => ed_tup (eds_cons (ed_var ⟨_, rfl, hu⟩) (eds_cons (ed_var ⟨_, rfl, hv⟩) eds_nil)) (by simp)⟩
  generalize hA : rows.filter f2 = A at h5
  have hAn : A.length ≤ 1000 := by rw [← hA]; exact Nat.le_trans (List.length_filter_le _ _) hok.n
  have hAm : ∀ r ∈ A, r ∈ rows := fun r hr => by rw [← hA] at hr; exact (List.mem_filter.mp hr).1
  have hok1 := hok.ok; have hok2 := hok.ab; have hok3 := hok.at_; have hok4 := hok.sb; have hok5 := hok.stt; have hok6 := hok.pos
  rw [hA] at hok1 hok2 hok3 hok4 hok5 hok6 k
  refine qd_asg (K := K) (d := rt (sumR (A.map (·.q)))) (ed_call (eds_cons (d := .list ((A.map (·.q)).map rt)) ?_ eds_nil) (pu_add_all hok2.a hok2.b)) fun v6 H2 e2 h6 => ?_
  · exact (ed_lcAPM (xs := A) (f1 := placeD) (f2 := fun r => rt r.q) (g := fun r => rt r.q) (wk_list (ed_var ⟨_, rfl, h5⟩)) (by omega) (fun _ _ => tfr_rt) (fun _ _ => rfl) fun H5 e5 r hr u v hu hv => ed_var ⟨_, rfl, hv⟩).is (by rw [List.map_map]; rfl)
  by_cases hz : sumR (A.map (·.q)) = 0
  · refine kq_take K (etk_D ((ed_eqD (ed_var ⟨_, rfl, h6⟩) (ed_top (W0.t_ZERO C)) rfl rfl).is (by rw [hz]; congr 1))) fun H3 e3 => ?_
    refine sd_ret (K := K) (d := .none) ed_non fun v H4 e4 hv => k v H4 ((e1.trans e2).trans (e3.trans e4)) (by unfold ansD; rw [if_pos hz]; exact hv)
  · have hpos := hok6 hz
    refine kq_skip K (etk_D ((ed_eqD (d := rt (sumR (A.map (·.q)))) (e := rt 0) (ed_var ⟨_, rfl, h6⟩) (ed_top (W0.t_ZERO C)) rfl rfl).is (by rw [eqv_rt (by rw [show (0 : Rat).num = 0 from rfl]; omega)]))) fun H3 e3 => ?_
    have kk : ∀ v H4, Ex H3 H4 → Dp K H4 v (rt (sumR (a.tops A) / sumR (A.map (·.q)))) → Q v H4 := fun v H4 e4 hv => k v H4 ((e1.trans e2).trans (e3.trans e4)) (by unfold ansD; rw [if_neg hz]; exact hv)
    have h5 := h5.ex (e2.trans e3)
    have h6 := h6.ex e3
    have hy1 := hy1.ex ((e1.trans e2).trans e3)
    have hy2 := hy2.ex ((e1.trans e2).trans e3)
    have hy1' := hy1.str_inv
    subst hy1'
    cases a with
    | mean n =>
      cases hqd
      have hy2' := hy2.int_inv
      subst hy2'
      refine kq_take K (etk_D ((ed_eqS (ed_var ⟨_, rfl, .str _⟩) ed_str).is (congrArg PyData.bool (by decide)))) fun H4 e4 => ?_
      refine sd_ret (K := K) (ed_call (eds_cons (d := rt (sumR ((Asks.mean n).tops A))) (ed_call (eds_cons (d := .list (((Asks.mean n).tops A).map rt)) ?_ eds_nil) (pu_add_all hok3.a hok3.b)) (eds_cons (ed_var ⟨_, rfl, h6.ex e4⟩) eds_nil)) (pu_over hok5 hok4 hpos)) fun v H5 e5 hv => kk v H5 (e4.trans e5) hv
      refine (ed_lcAPM (xs := A) (f1 := placeD) (f2 := fun r => rt r.q) (g := fun r => rt (((r.ws.getD n 0 : Int) : Rat) * r.q)) (wk_list (ed_var ⟨_, rfl, h5.ex e4⟩)) (by omega) (fun _ _ => tfr_rt) (fun _ _ => rfl) fun H5 e5 r hr u v hu hv => ?_).is (by unfold Asks.tops; rw [List.map_map]; rfl)
      obtain ⟨hn, hsm⟩ := hok1 r hr
      have hu : Dp K H5 u (.tuple [tI r.ws, tI r.ns]) := hu
      have hg : r.ws[n]? = some (r.ws.getD n 0) := by rw [List.getElem?_eq_getElem hn, List.getD_eq_getElem?_getD, List.getElem?_eq_getElem hn]; rfl
      refine ed_call (eds_cons (d := rt ((r.ws.getD n 0 : Int) : Rat)) ((ed_tup (eds_cons (ed_ixT (ds := r.ws.map PyData.int) (i := (n : Int)) (d := .int (r.ws.getD n 0)) (ed_ixT (ds := [tI r.ws, tI r.ns]) (ed_var ⟨_, rfl, hu⟩) ed_int rfl) (ed_var ⟨_, rfl, .int _⟩) (atI_nat (by rw [List.getElem?_map, hg]; rfl))) (eds_cons ed_int eds_nil)) (by simp)).is rt_int) (eds_cons (ed_var ⟨_, rfl, hv⟩) eds_nil)) (pu_times hsm (hok.sm r (hAm r hr)))
    | share S1 f1 =>
      cases hqd
      refine kq_skip K (etk_D ((ed_eqS (ed_var ⟨_, rfl, .str _⟩) ed_str).is (congrArg PyData.bool (by decide)))) fun H4 e4 => ?_
      have hok1 : Runs A S1 f1 := hok1
      refine sd_ret (K := K) (ed_call (eds_cons (d := rt (sumR ((Asks.share S1 f1).tops A))) (ed_call (eds_cons (d := .list (((Asks.share S1 f1).tops A).map rt)) ?_ eds_nil) (pu_add_all hok3.a hok3.b)) (eds_cons (ed_var ⟨_, rfl, h6.ex e4⟩) eds_nil)) (pu_over hok5 hok4 hpos)) fun v H5 e5 hv => kk v H5 (e4.trans e5) hv
      refine (ed_lcAP (xs := A) (f1 := placeD) (f2 := fun r => rt r.q) (g := fun r => rt r.q) (wk_list (ed_var ⟨_, rfl, h5.ex e4⟩)) f1 (by omega) (fun _ _ => tfr_rt) (fun _ _ => rfl) fun H5 e5 r hr u v hu hv => ⟨etk_D ?_, fun _ => ed_var ⟨_, rfl, hv⟩⟩).is (by unfold Asks.tops; rw [List.map_map]; rfl)
      have hu' : Dp K H5 u (.tuple [tI r.ws, tI r.ns]) := hu
      exact ed_call (eds_cons (ed_var ⟨_, rfl, hy2.ex (e4.trans e5)⟩) (eds_cons (ed_ixT (ds := [tI r.ws, tI r.ns]) (ed_var ⟨_, rfl, hu'⟩) ed_int rfl) (eds_cons (ed_ixT (ds := [tI r.ws, tI r.ns]) (ed_var ⟨_, rfl, hu'⟩) ed_int rfl) eds_nil))) (pu_is_met hok1.n (hok1.w r hr) (hok1.x r hr))
end
end K61
end

section
set_option Elab.async false
set_option linter.all false
set_option maxRecDepth 100000
set_option maxHeartbeats 4000000
namespace K61
open PySem PySem.Spec PyProof.Rows L2 Evl RZ SX
local macro_rules | `(tactic| walk_at "evs") => `(tactic| first
  | exact ed_int | exact ed_str | exact ed_bl | exact ed_non
  | exact ed_var ⟨_, rfl, by first | assumption | exact .int _ | exact .str _ | exact .bl _ | exact .non⟩
  | exact ed_top (W0.t_ZERO (by assumption)) | exact ed_top (W0.t_ONE (by assumption))
  | refine ed_I0 ?_ ?_ | refine ed_B0 ?_ ?_ | refine ed_I ?_ ?_ ?_
  | refine ed_call ?_ ?_ | refine eds_cons ?_ ?_ | exact eds_nil
  | ((apply ed_ixT); (focus (walk_at "ev"; done)); (focus (walk_at "ev"; done)); (focus (exact rfl)); done)
  | ((apply ed_ixL); (focus (walk_at "ev"; done)); (focus (walk_at "ev"; done)); (focus (exact rfl)); done)
  | refine ed_tup ?_ ?_ | refine ed_lst ?_ ?_
  | ((refine ed_lenL ?_); (walk_at "ev"); done) | ((refine ed_lenT ?_); (walk_at "ev"); done) | refine ed_lenS ?_ ?_
  | refine ed_abs ?_ | ((refine ed_intI ?_); (walk_at "ev"); done) | refine ed_intB ?_ | refine ed_isi ?_ ?_
  | ((refine ed_eqI ?_ ?_ <;> walk_at "ev"); done) | ((refine ed_eqS ?_ ?_ <;> walk_at "ev"); done) | refine ed_neS ?_ ?_
  | refine ed_eqD ?_ ?_ ?_ ?_ | refine ed_neD ?_ ?_ ?_ ?_ | refine ed_ltD ?_ ?_ ?_ ?_ ?_
  | refine ed_isN ?_ | refine ed_notN ?_
  | refine ed_chain ?_ ?_ ?_ | refine ed_not ?_ | refine ed_and ?_ ?_ | refine ed_or ?_ ?_
  | refine ed_catS ?_ ?_ ?_ | refine ed_catT ?_ ?_ ?_
  | refine etk_D ?_ | refine etk_DB ?_ | refine etk_not ?_ | refine etk_and ?_ ?_ | refine etk_or ?_ ?_
  | exact rfl | assumption | omega | refine (fun (_ : _ = true) => ?_) | refine (fun (_ : _ = false) => ?_))
local macro_rules | `(tactic| walk_at "ev") => `(tactic| (walk_at "evs" <;> (try walk_at "ev")))

inductive Op where
  | lp | not | and | or
deriving DecidableEq
def Op.s : Op → Str
  | .lp => "("
  | .not => "not"
  | .and => "and"
  | .or => "or"
def Op.bind : Op → Int
  | .lp => 0
  | .or => 1
  | .and => 2
  | .not => 3
def Op.step : Op → Step
  | .lp => .not
  | .not => .not
  | .and => .and
  | .or => .or
/-- give_way: what waits, what is done -/
def gw (b : Int) : List Op → List Step → List Op × List Step
  | [], st => ([], st)
  | o :: ws, st => if o ≠ .lp ∧ b ≤ o.bind then gw b ws (st ++ [o.step]) else (o :: ws, st)
theorem gw_len {b : Int} : ∀ (ws : List Op) (st : List Step), (gw b ws st).1.length + (gw b ws st).2.length = ws.length + st.length
  | [], st => rfl
  | o :: ws, st => by
    unfold gw
    split
    · rw [gw_len ws, List.length_append]; simp; omega
    · rfl
abbrev rdC (K : PySem.W.Frag) : Addr := He.ga K "Reader"
def opV (ws : List Op) : List V := ws.reverse.map fun o => V.str o.s
def opD (ws : List Op) : List PD := ws.reverse.map fun o => PyData.str o.s
theorem opV_cons {o : Op} {ws : List Op} : opV (o :: ws) = opV ws ++ [.str o.s] := by simp [opV]
theorem opD_cons {o : Op} {ws : List Op} : opD (o :: ws) = opD ws ++ [.str o.s] := by simp [opD]
theorem op_dps {K : PySem.W.Frag} {H : Hp} {ws : List Op} : DpAll K H (opV ws) (opD ws) := by
  unfold opV opD
  generalize ws.reverse = l
  induction l with
  | nil => exact .nil
  | cons o l ih => exact .cons (.str _) ih
def rdF (x : V) (l1 l2 : Addr) (b : Bool) : List (Str × V) := [("sizes", x), ("steps", .ref l1), ("waiting", .ref l2), ("is_wanted", .bl b)]
/-- the reader at a -/
structure RdX (K : PySem.W.Frag) (H : Hp) (a dx : Addr) (x : V) (l1 l2 : Addr) (ss : List Int) (st : List Step) (ws : List Op) (b : Bool) : Prop where
  a : H a = some (.ins (rdC K) dx (rdF x l1 l2 b))
  s : ∃ vs, H l1 = some (.lst vs) ∧ DpAll K H vs (st.map Step.d)
  w : H l2 = some (.lst (opV ws))
  ne : l1 ≠ l2
  x : Dp K H x (tI ss)
def Keep (a l1 l2 : Addr) (H H' : Hp) : Prop := ∀ b o, b ≠ a → b ≠ l1 → b ≠ l2 → H b = some o → H' b = some o
theorem Keep.refl {a l1 l2 : Addr} {H : Hp} : Keep a l1 l2 H H := fun _ _ _ _ _ h => h
theorem Keep.trans {a l1 l2 : Addr} {H H1 H2 : Hp} (x : Keep a l1 l2 H H1) (y : Keep a l1 l2 H1 H2) : Keep a l1 l2 H H2 := fun b o h1 h2 h3 h => y b o h1 h2 h3 (x b o h1 h2 h3 h)
theorem Keep.of {a l1 l2 : Addr} {H H' : Hp} (e : Ex H H') : Keep a l1 l2 H H' := fun b o _ _ _ h => e b o h
theorem Keep.ex {a l1 l2 : Addr} {G H H' : Hp} (x : Keep a l1 l2 H H') (e : Ex G H) (h1 : G a = none) (h2 : G l1 = none) (h3 : G l2 = none) : Ex G H' := fun b o h =>
  x b o (fun z => by rw [z, h1] at h; cases h) (fun z => by rw [z, h2] at h; cases h) (fun z => by rw [z, h3] at h; cases h) (e b o h)
theorem Keep.upd {a l1 l2 c : Addr} {H : Hp} {o : HO} (h : c = a ∨ c = l1 ∨ c = l2) : Keep a l1 l2 H (upd H c o) := fun b u h1 h2 h3 hb => by
  rw [upd_ne (fun z => by rcases h with h | h | h <;> rw [h] at z <;> first | exact h1 z | exact h2 z | exact h3 z)]
  exact hb
theorem step_tfr {s : Step} : tfr s.d = true := by
  cases s with
  | atom a => cases a <;> rfl
  | not => rfl
  | and => rfl
  | or => rfl
section
variable {P : Program} {w : World} {K : PySem.W.Frag} {mg : Str → Option Value} {base : Heap} {σ : L2.St} {H H' : Hp} {ta tb te : TE} {a dx l1 l2 : Addr} {x : V} {ss : List Int} {st st' : List Step} {ws ws' : List Op} {b b' : Bool}
theorem RdX.ex (e : Ex H H') (r : RdX K H a dx x l1 l2 ss st ws b) : RdX K H' a dx x l1 l2 ss st ws b :=
  ⟨e _ _ r.a, let ⟨vs, h1, h2⟩ := r.s; ⟨vs, e _ _ h1, h2.ex e⟩, e _ _ r.w, r.ne, r.x.ex e⟩
/-- a new state of the reader -/
theorem RdX.to (r : RdX K H a dx x l1 l2 ss st ws b) (t : Tx H H') (ha : H' a = some (.ins (rdC K) dx (rdF x l1 l2 b'))) {vs : List V} (h1 : H' l1 = some (.lst vs)) (hd : DpAll K H' vs (st'.map Step.d)) (h2 : H' l2 = some (.lst (opV ws'))) : RdX K H' a dx x l1 l2 ss st' ws' b' :=
  ⟨ha, ⟨vs, h1, hd⟩, h2, r.ne, dp_tx t tfr_tI r.x⟩
theorem RdX.na1 (r : RdX K H a dx x l1 l2 ss st ws b) : a ≠ l1 := fun z => by
  obtain ⟨vs, h, _⟩ := r.s
  rw [← z, r.a] at h; cases h
theorem RdX.na2 (r : RdX K H a dx x l1 l2 ss st ws b) : a ≠ l2 := fun z => by
  have h := r.w
  rw [← z, r.a] at h; cases h
theorem ev_fld {i : Nat} {f : Str} {v : V} {fs : List (Str × V)} {CA : Addr} (hs : σ[i]? = some (some (.ref a))) (ha : H a = some (.ins CA dx fs)) (c : Cls K CA) (n : NoAttr K CA f) (hl : fs.lookup f = some v) : Ev (tFld K (tVar i) f) σ H v := fun H1 e Q q =>
  ⟨_, hs, a, CA, dx, fs, v, rfl, e _ _ ha, c, n, hl, q H1 (Ex.refl H1)⟩
theorem ed_wait (C : W0 P w K mg base) {i : Nat} (hs : σ[i]? = some (some (.ref a))) (r : RdX K H a dx x l1 l2 ss st ws b) : EvD K (tFld K (tVar i) "waiting") σ H (.list (opD ws)) :=
  EvD.ev (ev_fld hs r.a C.cls_Reader C.na_Reader_waiting rfl) (.lst (sq_of r.w) op_dps)
theorem ed_wanted (C : W0 P w K mg base) {i : Nat} (hs : σ[i]? = some (some (.ref a))) (r : RdX K H a dx x l1 l2 ss st ws b) : EvD K (tFld K (tVar i) "is_wanted") σ H (.bool b) :=
  EvD.ev (ev_fld hs r.a C.cls_Reader C.na_Reader_is_wanted rfl) (.bl b)
theorem ed_stepsF (C : W0 P w K mg base) {i : Nat} (hs : σ[i]? = some (some (.ref a))) (r : RdX K H a dx x l1 l2 ss st ws b) : EvD K (tFld K (tVar i) "steps") σ H (.list (st.map Step.d)) := by
  obtain ⟨vs, h1, h2⟩ := r.s
  exact EvD.ev (ev_fld hs r.a C.cls_Reader C.na_Reader_steps rfl) (.lst (sq_of h1) h2)
theorem ed_sizesF (C : W0 P w K mg base) {i : Nat} (hs : σ[i]? = some (some (.ref a))) (r : RdX K H a dx x l1 l2 ss st ws b) : EvD K (tFld K (tVar i) "sizes") σ H (tI ss) :=
  EvD.ev (ev_fld hs r.a C.cls_Reader C.na_Reader_sizes rfl) r.x
theorem inV_lp : inV (.str "(") ((opD ws).map vOf) = ws.contains .lp := by
  unfold opD
  rw [← List.contains_reverse]
  generalize ws.reverse = l
  induction l with
  | nil => rfl
  | cons o l ih =>
    simp only [List.map_cons, List.contains_cons]
    show (eqV (.str o.s) (.str "(") || inV (.str "(") ((l.map fun o => PyData.str o.s).map vOf)) = _
    rw [ih]
    congr 1
    cases o <;> decide
theorem opD_flat : (opD ws).all flatD = true := by
  rw [List.all_eq_true]
  intro d hd
  obtain ⟨o, _, rfl⟩ := List.mem_map.mp hd
  rfl
theorem ed_lpIn (C : W0 P w K mg base) {i : Nat} (hs : σ[i]? = some (some (.ref a))) (r : RdX K H a dx x l1 l2 ss st ws b) : EvD K (tOp (rIn K true) (tC (.str "(")) (tFld K (tVar i) "waiting")) σ H (.bool (!ws.contains .lp)) :=
  (ed_inL (neg := true) (x := .str "(") ed_str (ed_wait C hs r) rfl opD_flat).is (by rw [if_pos rfl]; show PyData.bool (!inV (.str "(") _) = _; rw [inV_lp])
/-! ### methods -/
theorem met_of {m q : Str} {sT : Stmt} {f CA : Addr} {N ps : List Str} {k : Nat} {sp : Sp} (F : ∃ fd, FunD K m q (defArgs sT) (defBody sT) (defScope sT) [] [] f fd) (c : Cls K CA) (me : Meth K CA m f) (S : FnScope N ps (defScope sT))
    (hb : ∀ (kV doc pm : Value) (an : Option Addr) (cdv ct : Value) (us : List Value), us.length = ps.length → bindArgs (PySem.W.fnOf m q (defArgs sT) (defBody sT) (defScope sT) .none kV doc pm an cdv ct) ⟨us, []⟩ = pure (ps.zip us))
    (len : ∀ vs H Q E, sp vs H Q E → vs.length = ps.length)
    (hbody : ∀ (cdv : Value) (A : Around) (outer : List Env) (s : Shared) (H : Hp) (vs : List V) (Q : VK) (E : XK), Room k (A.deeper (envOfC q (defScope sT) s.heap.objs.size f cdv)) → sp vs H Q E →
      ∃ t, PSs (cxOf CX0 P w K mg base N q (defScope sT) f cdv A outer s H E).nox (defBody sT) t ∧ t { nx := fun _ H' => Q .non H', rt := Q } (start N vs) H) : C8.Met P w K mg base (k + 1) CA m sp [] := by
  obtain ⟨fd, F⟩ := F
  refine ⟨f, fd, ps, [], c, me, F.ok S len fun cdv A outer s H vs Q E hr h => ?_, F.bindsN hb, .nil⟩
  obtain ⟨t, h1, h2⟩ := hbody cdv A outer s H vs Q E hr h
  exact ⟨t, PSs.nox h1, h2⟩
theorem at_last {α : Type} {l : List α} {y : α} : atI (l ++ [y]) (-1) = some y := by
  unfold atI ixN
  rw [if_neg (by decide), if_pos (by rw [List.length_append, List.length_singleton]; omega)]
  have e : ((-1 : Int) + ((l ++ [y]).length : Nat)).toNat = l.length := by rw [List.length_append, List.length_singleton]; omega
  rw [Option.bind_some, e]
  simp
theorem kbind (C : W0 P w K mg base) {o : Op} (h : o ≠ .lp) : KDct K w (He.ga K "BINDING") o.s (.int o.bind) := by
  obtain ⟨es, n, D⟩ := C.dict_BINDING
  have hv := C.exs.2.2.2.2.2.2.2.2.2.2
  have go : ∀ q ∈ ([("or", .int 1), ("and", .int 2), ("not", .int 3)] : List (Str × He.Dv)), ∃ u, PySem.W.nsIn K (He.ga K "BINDING") q.1 = some (some u) ∧ RelV (q.2.v K) u := fun q hq => He.valsB_ok hv hq
  cases o with
  | lp => exact absurd rfl h
  | or => obtain ⟨u, h1, h2⟩ := go ("or", .int 1) (by simp); exact ⟨es, n, u, D.at_, D.lit, h1, h2⟩
  | and => obtain ⟨u, h1, h2⟩ := go ("and", .int 2) (by simp); exact ⟨es, n, u, D.at_, D.lit, h1, h2⟩
  | not => obtain ⟨u, h1, h2⟩ := go ("not", .int 3) (by simp); exact ⟨es, n, u, D.at_, D.lit, h1, h2⟩
theorem ed_bind (C : W0 P w K mg base) {o : Op} (h : o ≠ .lp) (he : EvD K te σ H (.str o.s)) : EvD K (tOp (rIxD K w) (tC (.ref (He.ga K "BINDING"))) te) σ H (.int o.bind) := fun H1 e Q q =>
  he H1 e _ fun v H2 e2 hv => ⟨_, o.s, .int o.bind, rfl, hv.str_inv, kbind C h, q _ H2 e2 (.int _)⟩
/-! ### give_way -/
def sp_give_way (K : PySem.W.Frag) : Sp := fun vs H Q _ => ∃ (a dx l1 l2 : Addr) (x : V) (ss : List Int) (st : List Step) (ws : List Op) (b : Bool) (n : Int), vs = [.ref a, .int n] ∧ RdX K H a dx x l1 l2 ss st ws b ∧ st.length + ws.length ≤ 60000 ∧
  ∀ H', Keep a l1 l2 H H' → RdX K H' a dx x l1 l2 ss (gw n ws st).2 (gw n ws st).1 b → Q .non H'
theorem sc_Reader_give_way : FnScope ["self", "binding"] ["self", "binding"] (defScope (inClass (top 38) 1)) := ⟨rfl, rfl, rfl, by decide +kernel, rfl, by decide +kernel, by decide +kernel⟩
theorem ok_Reader_give_way (C : W0 P w K mg base) : C8.Met P w K mg base 1 (rdC K) "give_way" (sp_give_way K) [] := by
  refine met_of C.f_Reader_give_way C.cls_Reader C.me_Reader_give_way sc_Reader_give_way (fun _ _ _ _ _ _ us hl => match us, hl with | [_, _], _ => rfl) (fun vs H Q E h => by obtain ⟨a, dx, l1, l2, x, ss, st, ws, b, n, rfl, _⟩ := h; rfl) fun cdv A outer s H vs Q E hr h => ?_
  obtain ⟨a, dx, l1, l2, x, ss, st, ws, b, n, rfl, hr0, hlen, k⟩ := h
  refine ⟨_, (pss_one (ps_while PassesOwn.never (PW.pt (pw_and (pt_cmpR op_gt (pe_callB call_len_seq (by rfl) C.n_len (by decide +kernel) (pa_cons (pe_fld (pv 0) rfl) pa_nil)) pe_int (nomark _)) (pw_and (pt_cmpR op_ne (pe_ix ix_list (pe_fld (pv 0) rfl) (pe_un un_neg pe_int) (fun _ _ => rfl)) pe_str (nomark _)) (pw_and1 (pt_cmpR op_ge (pe_ix ix_kdict (C8.pe_gc rfl C.c_BINDING) (pe_ix ix_list (pe_fld (pv 0) rfl) (pe_un un_neg pe_int) (fun _ _ => rfl)) (fun _ _ => rfl)) (pv 1) (nomark _)))))) (pss_one (ps_expr (pe_bm PySem.F.plainAttrs_list PySem.F.slot_list_append PySem.F.type_list_append mt_append (pe_fld (pv 0) rfl) (pa_cons (pe_tup (pa_cons (pe_bm0 PySem.F.plainAttrs_list PySem.F.slot_list_pop PySem.F.type_list_pop mt_pop (pe_fld (pv 0) rfl)) pa_nil)) pa_nil)))))), ?_⟩
  refine ks_while K (fun m σ' H' => ∃ st' ws', σ' = [some (.ref a), some (.int n)] ∧ m = ws'.length ∧ RdX K H' a dx x l1 l2 ss st' ws' b ∧ Keep a l1 l2 H H' ∧ gw n ws' st' = gw n ws st ∧ st'.length + ws'.length ≤ 60000) ws.length ⟨st, ws, rfl, rfl, hr0, Keep.refl, rfl, hlen⟩ ?_
  rintro m σ' H' ⟨st', ws', rfl, rfl, r, kp, hg, hl⟩
  have stop : gw n ws' st' = (ws', st') → ∀ H1, Ex H' H1 → Q .non H1 := fun h H1 e => by
    rw [h] at hg
    refine k H1 (kp.trans (Keep.of e)) ?_
    rw [← hg]
    exact r.ex e
  have wlen : EvD K (tCB (fun xs H Q => ∃ p ys, xs = [.ref p] ∧ (SqL K H p ys ∨ SqT K H p ys) ∧ Q (.int ys.length) H) (tCons (tFld K (tVar 0) "waiting") tNil)) [some (.ref a), some (.int n)] H' (.int ((opD ws').length : Int)) := ed_lenL (ed_wait C rfl r)
  cases ws' with
  | nil => exact ⟨false, etk_and (a := false) (b := false) (etk_D ((ed_B0 (j := 0) wlen ed_int).is rfl)) (fun h => nomatch h), (fun h => nomatch h), fun _ H1 e => stop rfl H1 e⟩
  | cons o r' =>
    have top : EvD K (tOp (rIxL K) (tFld K (tVar 0) "waiting") (tUn (rU fun i => .int (-i)) (tC (.int 1)))) [some (.ref a), some (.int n)] H' (.str o.s) := ed_ixL (ed_wait C rfl r) (ed_neg ed_int) (by rw [opD_cons]; exact at_last)
    have t1 : EvD K (tOp (rI0 fun i j => .bl (decide (j < i))) (tCB (fun xs H Q => ∃ p ys, xs = [.ref p] ∧ (SqL K H p ys ∨ SqT K H p ys) ∧ Q (.int ys.length) H) (tCons (tFld K (tVar 0) "waiting") tNil)) (tC (.int 0))) [some (.ref a), some (.int n)] H' (.bool true) := (ed_B0 (j := 0) wlen ed_int).is (by rw [opD_cons, decide_eq_true (by simp)])
    by_cases ho : o = .lp
    · subst ho
      exact ⟨false, etk_and (a := true) (b := false) (etk_D t1) fun _ => etk_and (a := false) (b := false) (etk_D ((ed_neS top ed_str).is (congrArg PyData.bool (by decide)))) (fun h => nomatch h), (fun h => nomatch h), fun _ H1 e => stop (by unfold gw; rw [if_neg (fun h => h.1 rfl)]) H1 e⟩
    have t2 : EvD K (tOp rNe (tOp (rIxL K) (tFld K (tVar 0) "waiting") (tUn (rU fun i => .int (-i)) (tC (.int 1)))) (tC (.str "("))) [some (.ref a), some (.int n)] H' (.bool true) := (ed_neS top ed_str).is (congrArg PyData.bool (by cases o <;> first | exact absurd rfl ho | decide))
    have t3 := ed_B0 (g := fun i j => decide (j ≤ i)) (j := n) (ed_bind C ho top) (ed_var (K := K) (i := 1) ⟨_, rfl, .int n⟩)
    by_cases hb : n ≤ o.bind
    · refine ⟨true, etk_and (a := true) (b := true) (etk_D t1) fun _ => etk_and (a := true) (b := true) (etk_D t2) fun _ => etk_D (t3.is (by rw [decide_eq_true hb])), fun _ H1 e1 => ?_, fun h => nomatch h⟩
      refine ⟨fun σ2 H2 => σ2 = [some (.ref a), some (.int n)] ∧ RdX K H2 a dx x l1 l2 ss (st' ++ [o.step]) r' b ∧ Keep a l1 l2 H H2, fun σ2 H2 ⟨q1, q2, q3⟩ => ⟨r'.length, by simp, st' ++ [o.step], r', q1, rfl, q2, q3, by rw [← hg]; conv => rhs; unfold gw; rw [if_pos ⟨ho, hb⟩], by simp at hl ⊢; omega⟩, ?_⟩
      have r1 := r.ex e1
      obtain ⟨vs, hl1, hvs⟩ := r1.s
      have hw1 := r1.w
      rw [opV_cons] at hw1
      refine ⟨_, rfl, a, _, dx, _, .ref l1, rfl, r1.a, C.cls_Reader, C.na_Reader_steps, rfl, Or.inl ⟨rfl, vs, sq_of hl1⟩, ?_⟩
      refine ⟨_, rfl, a, _, dx, _, .ref l2, rfl, r1.a, C.cls_Reader, C.na_Reader_waiting, rfl, Or.inl ⟨rfl, _, sq_of hw1⟩, l2, _, .str o.s, rfl, rfl, hw1, by simp, ?_⟩
      rw [List.dropLast_concat]
      refine ⟨sz_of (by simp), fun p hp => ⟨l1, vs, .ref p, rfl, rfl, ?_, sz_lt (by
        have := hvs.length
        rw [List.length_map] at this
        simp at hl
        omega), rfl, ?_, ?_⟩⟩
      · rw [upd_ne (ne_of_none (show upd H1 l2 (.lst (opV r')) l1 = some (.lst vs) by rw [upd_ne r1.ne]; exact hl1) hp), upd_ne r1.ne]
        exact hl1
      · have hp1 : H1 p = none := by
          by_cases z : p = l2
          · rw [z, upd_same] at hp; cases hp
          · rwa [upd_ne z] at hp
        have np1 : l1 ≠ p := ne_of_none hl1 hp1
        have np2 : l2 ≠ p := ne_of_none hw1 hp1
        have npa : a ≠ p := ne_of_none r1.a hp1
        have tx : Tx H1 (upd (upd (upd H1 l2 (.lst (opV r'))) p (.tup [.str o.s])) l1 (.lst (vs ++ [.ref p]))) := (Tx.updL hw1).trans ((Tx.updN hp).trans (Tx.updL (by rw [upd_ne np1, upd_ne r1.ne]; exact hl1)))
        refine r1.to (vs := vs ++ [.ref p]) tx ?_ upd_same ?_ ?_
        · rw [upd_ne r1.na1, upd_ne npa, upd_ne r1.na2]; exact r1.a
        · rw [List.map_append]
          refine (dps_tx tx (tfrs_map fun _ _ => step_tfr) hvs).snoc ?_
          have : (o.step).d = .tuple [.str o.s] := by cases o <;> first | exact absurd rfl ho | rfl
          rw [this]
          refine .tup (st_of ?_) (.cons (.str _) .nil)
          rw [upd_ne (Ne.symm np1), upd_same]
        · rw [upd_ne (Ne.symm r1.ne), upd_ne np2, upd_same]
      · exact kp.trans ((Keep.of e1).trans ((Keep.upd (.inr (.inr rfl))).trans ((Keep.of (Ex.new hp)).trans (Keep.upd (.inr (.inl rfl))))))
    · exact ⟨false, etk_and (a := true) (b := false) (etk_D t1) fun _ => etk_and (a := true) (b := false) (etk_D t2) fun _ => etk_D (t3.is (by rw [decide_eq_false hb])), (fun h => nomatch h), fun _ H1 e => stop (by unfold gw; rw [if_neg (fun h => hb h.2)]) H1 e⟩
end
end K61
end

section
set_option Elab.async false
set_option linter.all false
set_option maxRecDepth 100000
set_option maxHeartbeats 4000000
namespace K61
open PySem PySem.Spec PyProof.Rows L2 Evl RZ SX
local macro_rules | `(tactic| walk_at "evs") => `(tactic| first
  | exact ed_int | exact ed_str | exact ed_bl | exact ed_non
  | exact ed_var ⟨_, rfl, by first | assumption | exact .int _ | exact .str _ | exact .bl _ | exact .non⟩
  | exact ed_top (W0.t_ZERO (by assumption)) | exact ed_top (W0.t_ONE (by assumption))
  | refine ed_I0 ?_ ?_ | refine ed_B0 ?_ ?_ | refine ed_I ?_ ?_ ?_
  | refine ed_call ?_ ?_ | refine eds_cons ?_ ?_ | exact eds_nil
  | ((apply ed_ixT); (focus (walk_at "ev"; done)); (focus (walk_at "ev"; done)); (focus (exact rfl)); done)
  | ((apply ed_ixL); (focus (walk_at "ev"; done)); (focus (walk_at "ev"; done)); (focus (exact rfl)); done)
  | refine ed_tup ?_ ?_ | refine ed_lst ?_ ?_
  | ((refine ed_lenL ?_); (walk_at "ev"); done) | ((refine ed_lenT ?_); (walk_at "ev"); done) | refine ed_lenS ?_ ?_
  | refine ed_abs ?_ | ((refine ed_intI ?_); (walk_at "ev"); done) | refine ed_intB ?_ | refine ed_isi ?_ ?_
  | ((refine ed_eqI ?_ ?_ <;> walk_at "ev"); done) | ((refine ed_eqS ?_ ?_ <;> walk_at "ev"); done) | refine ed_neS ?_ ?_
  | refine ed_eqD ?_ ?_ ?_ ?_ | refine ed_neD ?_ ?_ ?_ ?_ | refine ed_ltD ?_ ?_ ?_ ?_ ?_
  | refine ed_isN ?_ | refine ed_notN ?_
  | refine ed_chain ?_ ?_ ?_ | refine ed_not ?_ | refine ed_and ?_ ?_ | refine ed_or ?_ ?_
  | refine ed_catS ?_ ?_ ?_ | refine ed_catT ?_ ?_ ?_
  | refine etk_D ?_ | refine etk_DB ?_ | refine etk_not ?_ | refine etk_and ?_ ?_ | refine etk_or ?_ ?_
  | exact rfl | assumption | omega | refine (fun (_ : _ = true) => ?_) | refine (fun (_ : _ = false) => ?_))
local macro_rules | `(tactic| walk_at "ev") => `(tactic| (walk_at "evs" <;> (try walk_at "ev")))

inductive Tok where
  | lp | rp | not | and | or | atom (a : Atom)
deriving DecidableEq
def Tok.s : Tok → Str
  | .lp => "("
  | .rp => ")"
  | .not => "not"
  | .and => "and"
  | .or => "or"
  | .atom a => S a.cps
def Tok.ok (ss : List Int) : Tok → Prop
  | .atom a => a.ok ss
  | _ => True
/-- the reader's state: steps, what waits, whether an atom is wanted -/
structure RS where
  st : List Step
  ws : List Op
  b : Bool
def takeR (t : Tok) (r : RS) : Option RS :=
  if r.b then
    match t with
    | .lp => some ⟨r.st, .lp :: r.ws, true⟩
    | .not => some ⟨r.st, .not :: r.ws, true⟩
    | .atom a => some ⟨r.st ++ [.atom a], r.ws, false⟩
    | _ => none
  else
    match t with
    | .and => some ⟨(gw 2 r.ws r.st).2, .and :: (gw 2 r.ws r.st).1, true⟩
    | .or => some ⟨(gw 1 r.ws r.st).2, .or :: (gw 1 r.ws r.st).1, true⟩
    | .rp => if r.ws.contains .lp then some ⟨(gw 0 r.ws r.st).2, (gw 0 r.ws r.st).1.tail, false⟩ else none
    | _ => none
theorem gw_lp : ∀ (ws : List Op) (st : List Step), ws.contains .lp = true → ∃ r, (gw 0 ws st).1 = .lp :: r
  | [], _, h => by simp at h
  | o :: ws, st, h => by
    unfold gw
    by_cases ho : o = .lp
    · subst ho
      rw [if_neg (fun h => h.1 rfl)]
      exact ⟨ws, rfl⟩
    · rw [if_pos ⟨ho, by cases o <;> simp [Op.bind]⟩]
      refine gw_lp ws _ ?_
      rw [List.contains_cons] at h
      have : (Op.lp == o) = false := by simpa using fun z => ho z.symm
      rw [this] at h
      exact h
theorem putF_le {f : Str} {v : V} : ∀ {fs : List (Str × V)} {n : Nat}, fs.length ≤ n → (putF f v fs).length ≤ n + 1
  | [], n, _ => by simp [putF]
  | (g, y) :: r, n, h => by
    unfold putF
    split
    · simp at h ⊢; omega
    · match n, h with
      | 0, h => simp at h
      | n + 1, h => have := putF_le (f := f) (v := v) (fs := r) (n := n) (by simpa using h); simp; omega
theorem atom_ne_s {a : Atom} {l : List Nat} (h : l ≠ a.cps) : ((S l : Str) == S a.cps) = false := by
  rw [S_beq_eq]
  exact decide_eq_false h
section
variable {P : Program} {w : World} {K : PySem.W.Frag} {mg : Str → Option Value} {base : Heap} {σ : L2.St} {H H' : Hp} {ta tb te : TE} {a dx l1 l2 : Addr} {x : V} {ss : List Int} {st st' : List Step} {ws ws' : List Op} {b b' : Bool} {D : Ends}
theorem inV_two {x p q : Str} : inV (.str x) [.str p, .str q] = ((p == x) || (q == x)) := by simp [inV, eqV]
theorem ed_inTwo {i : Nat} {x p q : Str} (hs : σ[i]? = some (some (.str x))) : EvD K (tOp (rIn K false) (tVar i) (tTup (tCons (tC (.str p)) (tCons (tC (.str q)) tNil)))) σ H (.bool ((p == x) || (q == x))) :=
  (ed_inT (neg := false) (x := .str x) (ed_var ⟨_, hs, .str _⟩) (ed_tup (eds_cons ed_str (eds_cons ed_str eds_nil)) (by simp)) rfl rfl).is (by rw [← inV_two]; rfl)
/-- self.waiting.append(text) -/
theorem sd_push (C : W0 P w K mg base) {i : Nat} {o : Op} (hs : σ[i]? = some (some (.ref a))) (r : RdX K H a dx x l1 l2 ss st ws b) (hl : ws.length ≤ 60000) (he : EvD K te σ H (.str o.s)) (k : ∀ H1, Keep a l1 l2 H H1 → RdX K H1 a dx x l1 l2 ss st (o :: ws) b → D.nx σ H1) : tDrop (tBM K "list" rAppend (tFld K (tVar i) "waiting") (tCons te tNil)) D σ H := by
  refine ⟨_, hs, a, _, dx, _, .ref l2, rfl, r.a, C.cls_Reader, C.na_Reader_waiting, rfl, Or.inl ⟨rfl, _, sq_of r.w⟩, he H (Ex.refl H) _ fun v H1 e1 hv => ?_⟩
  have r1 := r.ex e1
  refine ⟨l2, _, v, rfl, rfl, r1.w, sz_lt (by simp [opV]; omega), k _ ((Keep.of e1).trans (Keep.upd (.inr (.inr rfl)))) ?_⟩
  obtain ⟨vs, h1, hvs⟩ := r1.s
  have tx : Tx H1 (upd H1 l2 (.lst (opV ws ++ [v]))) := Tx.updL r1.w
  refine r1.to (vs := vs) tx (by rw [upd_ne r1.na2]; exact r1.a) (by rw [upd_ne r1.ne]; exact h1) (dps_tx tx (tfrs_map fun _ _ => step_tfr) hvs) ?_
  rw [upd_same, opV_cons, hv.str_inv]
/-- self.steps.append(step) -/
theorem sd_step (C : W0 P w K mg base) {i : Nat} {s : Step} (hs : σ[i]? = some (some (.ref a))) (r : RdX K H a dx x l1 l2 ss st ws b) (hl : st.length ≤ 60000) (he : EvD K te σ H s.d) (k : ∀ H1, Keep a l1 l2 H H1 → RdX K H1 a dx x l1 l2 ss (st ++ [s]) ws b → D.nx σ H1) : tDrop (tBM K "list" rAppend (tFld K (tVar i) "steps") (tCons te tNil)) D σ H := by
  obtain ⟨vs0, h10, hvs0⟩ := r.s
  refine ⟨_, hs, a, _, dx, _, .ref l1, rfl, r.a, C.cls_Reader, C.na_Reader_steps, rfl, Or.inl ⟨rfl, _, sq_of h10⟩, he H (Ex.refl H) _ fun v H1 e1 hv => ?_⟩
  have r1 := r.ex e1
  have h1 := e1 _ _ h10
  have hvs := hvs0.ex e1
  have hlen : vs0.length = st.length := by rw [hvs.length, List.length_map]
  refine ⟨l1, vs0, v, rfl, rfl, h1, sz_lt (by omega), k _ ((Keep.of e1).trans (Keep.upd (.inr (.inl rfl)))) ?_⟩
  have tx : Tx H1 (upd H1 l1 (.lst (vs0 ++ [v]))) := Tx.updL h1
  refine r1.to (vs := vs0 ++ [v]) tx (by rw [upd_ne r1.na1]; exact r1.a) upd_same ?_ (by rw [upd_ne (Ne.symm r1.ne)]; exact r1.w)
  rw [List.map_append]
  exact (dps_tx tx (tfrs_map fun _ _ => step_tfr) hvs).snoc (dp_tx tx step_tfr hv)
/-- self.is_wanted = b' -/
theorem sd_wanted (C : W0 P w K mg base) {i : Nat} (hs : σ[i]? = some (some (.ref a))) (r : RdX K H a dx x l1 l2 ss st ws b) (k : ∀ H1, Keep a l1 l2 H H1 → RdX K H1 a dx x l1 l2 ss st ws b' → D.nx σ H1) : sFld K (tVar i) (tC (.bl b')) "is_wanted" D σ H := by
  refine ⟨_, hs, a, _, dx, _, rfl, r.a, C.cls_Reader, C.na_Reader_is_wanted, by simp [rdF], k _ (Keep.upd (.inl rfl)) ?_⟩
  obtain ⟨vs, h1, hvs⟩ := r.s
  have tx : Tx H (upd H a (.ins (rdC K) dx (putF "is_wanted" (.bl b') (rdF x l1 l2 b)))) := Tx.upd r.a (fun _ z => by cases z) (fun _ _ z => by cases z)
  exact r.to (vs := vs) tx upd_same (by rw [upd_ne (Ne.symm r.na1)]; exact h1) (dps_tx tx (tfrs_map fun _ _ => step_tfr) hvs) (by rw [upd_ne (Ne.symm r.na2)]; exact r.w)
/-! ### begin -/
def sp_begin (K : PySem.W.Frag) : Sp := fun vs H Q _ => ∃ (a dx l1 l2 : Addr) (x : V) (ss : List Int) (st : List Step) (ws : List Op) (t : Tok) (r' : RS), vs = [.ref a, .str t.s] ∧ RdX K H a dx x l1 l2 ss st ws true ∧ st.length + ws.length ≤ 60000 ∧ okSizes ss ∧ t.ok ss ∧ takeR t ⟨st, ws, true⟩ = some r' ∧
  ∀ H', Keep a l1 l2 H H' → RdX K H' a dx x l1 l2 ss r'.st r'.ws r'.b → Q (.bl true) H'
theorem sc_Reader_begin : FnScope ["self", "word", "step"] ["self", "word"] (defScope (inClass (top 38) 2)) := ⟨rfl, rfl, rfl, by decide +kernel, rfl, by decide +kernel, by decide +kernel⟩
theorem ok_Reader_begin (C : W0 P w K mg base) : C8.Met P w K mg base 3 (rdC K) "begin" (sp_begin K) [] := by
  have o_atom_of := ok_atom_of C
  refine met_of C.f_Reader_begin C.cls_Reader C.me_Reader_begin sc_Reader_begin (fun _ _ _ _ _ _ us hl => match us, hl with | [_, _], _ => rfl) (fun vs H Q E h => by obtain ⟨a, dx, l1, l2, x, ss, st, ws, t, r', rfl, _⟩ := h; rfl) fun cdv A outer s H vs Q E hr h => ?_
  obtain ⟨a, dx, l1, l2, x, ss, st, ws, t, r', rfl, r, hlen, hss, ht, htk, k⟩ := h
  refine ⟨_, (pss_cons (ps_if (pt_cmpR op_in_seq (pv 1) (pe_tup (pa_cons pe_str (pa_cons pe_str pa_nil))) (by rfl)) (pss_cons (ps_expr (pe_bm PySem.F.plainAttrs_list PySem.F.slot_list_append PySem.F.type_list_append mt_append (pe_fld (pv 0) rfl) (pa_cons (pv 1) pa_nil)))
      (pss_one (ps_ret pe_bl))) pss_nil)
      (pss_cons (ps_set (i := 2) sc_Reader_begin.nd rfl (Or.inl rfl) (pe_cl o_atom_of hr (by decide) rfl (pa_cons (pe_fld (pv 0) rfl) (pa_cons (pv 1) pa_nil))))
      (pss_cons (ps_if (pt_cmpR op_isN (pv 2) pe_non (nomark _)) (pss_one (ps_ret pe_bl)) pss_nil)
      (pss_cons (ps_expr (pe_bm PySem.F.plainAttrs_list PySem.F.slot_list_append PySem.F.type_list_append mt_append (pe_fld (pv 0) rfl) (pa_cons (pv 2) pa_nil)))
      (pss_cons (ps_fld (pv 0) pe_bl rfl)
      (pss_one (ps_ret pe_bl))))))), ?_⟩
  cases t with
  | lp =>
    have e : r' = ⟨st, .lp :: ws, true⟩ := (Option.some.inj htk).symm
    refine kq_take K (etk_D ((ed_inTwo rfl).is (congrArg PyData.bool (by decide)))) fun H1 e1 => ?_
    try dsimp only
    refine sd_push C (o := .lp) rfl (r.ex e1) (by omega) (ed_var ⟨_, rfl, .str _⟩) fun H2 k2 r2 => ?_
    dsimp only
    exact sd_ret (K := K) (d := .bool true) ed_bl fun v H3 e3 hv => by
      rw [hv.bl_inv]
      refine k H3 ((Keep.of e1).trans (k2.trans (Keep.of e3))) ?_
      rw [e]
      exact r2.ex e3
  | not =>
    have e : r' = ⟨st, .not :: ws, true⟩ := (Option.some.inj htk).symm
    refine kq_take K (etk_D ((ed_inTwo rfl).is (congrArg PyData.bool (by decide)))) fun H1 e1 => ?_
    try dsimp only
    refine sd_push C (o := .not) rfl (r.ex e1) (by omega) (ed_var ⟨_, rfl, .str _⟩) fun H2 k2 r2 => ?_
    dsimp only
    exact sd_ret (K := K) (d := .bool true) ed_bl fun v H3 e3 hv => by
      rw [hv.bl_inv]
      refine k H3 ((Keep.of e1).trans (k2.trans (Keep.of e3))) ?_
      rw [e]
      exact r2.ex e3
  | atom at_ =>
    have e : r' = ⟨st ++ [.atom at_], ws, false⟩ := (Option.some.inj htk).symm
    have hin : ((("not" : Str) == S at_.cps) || (("(" : Str) == S at_.cps)) = false := by
      have h1 : (("not" : Str) == S at_.cps) = false := atom_ne_s (l := [110, 111, 116]) (by cases at_ <;> simp [Atom.cps])
      have h2 : (("(" : Str) == S at_.cps) = false := atom_ne_s (l := [40]) (by cases at_ <;> simp [Atom.cps])
      rw [h1, h2]; rfl
    refine kq_skip K (etk_D ((ed_inTwo rfl).is (congrArg PyData.bool hin))) fun H1 e1 => ?_
    have r1 := r.ex e1
    refine qd_asg (K := K) (d := at_.step) (ed_call (eds_cons (ed_sizesF C rfl r1) (eds_cons (ed_var ⟨_, rfl, .str _⟩) eds_nil)) (pu_atom_of hss ht)) fun v2 H2 e2 h2 => ?_
    have hnn : EvD K (tOp (fun x y H Q => y = .non ∧ Q (.bl (decide (x = .non))) H) (tVar 2) (tC .non)) [some (.ref a), some (.str (S at_.cps)), some v2] H2 (.bool false) := (ed_isN (ed_var ⟨_, rfl, h2⟩)).is (by cases at_ <;> rfl)
    refine kq_skip K (etk_D hnn) fun H3 e3 => ?_
    have r3 := (r1.ex e2).ex e3
    try dsimp only
    refine sd_step C (s := .atom at_) rfl r3 (by omega) (ed_var ⟨_, rfl, h2.ex e3⟩) fun H4 k4 r4 => ?_
    try dsimp only
    refine sd_wanted C (b' := false) rfl r4 fun H5 k5 r5 => ?_
    dsimp only
    exact sd_ret (K := K) (d := .bool true) ed_bl fun v H6 e6 hv => by
      rw [hv.bl_inv]
      refine k H6 ((Keep.of (e1.trans (e2.trans e3))).trans (k4.trans (k5.trans (Keep.of e6)))) ?_
      rw [e]
      exact r5.ex e6
  | rp => cases htk
  | and => cases htk
  | or => cases htk
/-! ### is_whole -/
def sp_is_whole (K : PySem.W.Frag) : Sp := fun vs H Q _ => ∃ (a dx l1 l2 : Addr) (x : V) (ss : List Int) (st : List Step) (ws : List Op) (b : Bool), vs = [.ref a] ∧ RdX K H a dx x l1 l2 ss st ws b ∧ ∀ H', Ex H H' → Q (.bl (!b && !ws.contains .lp)) H'
theorem sc_Reader_is_whole : FnScope ["self"] ["self"] (defScope (inClass (top 38) 4)) := ⟨rfl, rfl, rfl, by decide +kernel, rfl, by decide +kernel, by decide +kernel⟩
theorem ok_Reader_is_whole (C : W0 P w K mg base) : C8.Met P w K mg base 1 (rdC K) "is_whole" (sp_is_whole K) [] := by
  refine met_of C.f_Reader_is_whole C.cls_Reader C.me_Reader_is_whole sc_Reader_is_whole (fun _ _ _ _ _ _ us hl => match us, hl with | [_], _ => rfl) (fun vs H Q E h => by obtain ⟨a, dx, l1, l2, x, ss, st, ws, b, rfl, _⟩ := h; rfl) fun cdv A outer s H vs Q E hr h => ?_
  obtain ⟨a, dx, l1, l2, x, ss, st, ws, b, rfl, r, k⟩ := h
  refine ⟨_, (pss_one (ps_ret (pe_and (pe_not (pe_fld (pv 0) rfl)) (pe_one (pe_cmpR op_notIn_seq pe_str (pe_fld (pv 0) rfl) (by rfl)))))), ?_⟩
  exact sd_ret (K := K) (d := .bool (!b && !ws.contains .lp)) (ed_and (ed_not (ed_wanted C rfl r)) fun _ => ed_lpIn C rfl r) fun v H1 e1 hv => by rw [hv.bl_inv]; exact k H1 e1
/-! ### __init__ -/
def sp_rdInit (K : PySem.W.Frag) : Sp := fun vs H Q _ => ∃ (a dx : Addr) (x : V) (ss : List Int), vs = [.ref a, x] ∧ H a = some (.ins (rdC K) dx []) ∧ Dp K H x (tI ss) ∧ ∀ l1 l2 H', (∀ b o, b ≠ a → H b = some o → H' b = some o) → H l1 = none → H l2 = none → RdX K H' a dx x l1 l2 ss [] [] true → Q .non H'
theorem sc_Reader___init__ : FnScope ["self", "sizes"] ["self", "sizes"] (defScope (inClass (top 38) 0)) := ⟨rfl, rfl, rfl, by decide +kernel, rfl, by decide +kernel, by decide +kernel⟩
theorem ok_rdInit (C : W0 P w K mg base) : C8.Mak P w K mg base 1 "Reader" (rdC K) (sp_rdInit K) [] := by
  obtain ⟨fd, F⟩ := C.f_Reader___init__
  refine ⟨_, fd, ["self", "sizes"], [], C.mk_Reader, F.ok sc_Reader___init__ (fun vs H Q E h => by obtain ⟨a, dx, x, ss, rfl, _⟩ := h; rfl) (fun cdv A outer s H vs Q E hr h => ?_), C.g_Reader, F.bindsN (fun _ _ _ _ _ _ us hl => match us, hl with | [_, _], _ => rfl), .nil⟩
  obtain ⟨a, dx, x, ss, rfl, ha, hx, k⟩ := h
  refine ⟨_, PSs.nox (pss_cons (ps_fld (pv 0) (pv 1) rfl)
      (pss_cons (ps_fld (pv 0) (pe_lst pa_nil) rfl)
      (pss_cons (ps_fld (pv 0) (pe_lst pa_nil) rfl)
      (pss_one (ps_fld (pv 0) pe_bl rfl))))), ?_⟩
  refine ⟨x, rfl, .ref a, rfl, a, _, dx, [], rfl, ha, C.cls_Reader, C.na_Reader_sizes, by simp, ?_⟩
  refine ⟨sz_of (by simp), fun l1 h1 => ⟨.ref a, rfl, a, _, dx, _, rfl, by rw [upd_ne (ne_of_none upd_same h1), upd_same], C.cls_Reader, C.na_Reader_steps, Nat.lt_of_le_of_lt (putF_le (fs := []) (n := 0) (Nat.le_refl 0)) (by decide), ?_⟩⟩
  refine ⟨sz_of (by simp), fun l2 h2 => ⟨.ref a, rfl, a, _, dx, _, rfl, by rw [upd_ne (ne_of_none upd_same h2), upd_same], C.cls_Reader, C.na_Reader_waiting, Nat.lt_of_le_of_lt (putF_le (putF_le (fs := []) (n := 0) (Nat.le_refl 0))) (by decide), ?_⟩⟩
  refine ⟨.ref a, rfl, a, _, dx, _, rfl, upd_same, C.cls_Reader, C.na_Reader_is_wanted, Nat.lt_of_le_of_lt (putF_le (putF_le (putF_le (fs := []) (n := 0) (Nat.le_refl 0)))) (by decide), ?_⟩
  have na1 : l1 ≠ a := fun z => by rw [z, upd_same] at h1; cases h1
  have hl1 : H l1 = none := by rwa [upd_ne na1] at h1
  have na2 : l2 ≠ a := fun z => by rw [z, upd_same] at h2; cases h2
  have n21 : l2 ≠ l1 := fun z => by rw [upd_ne na2, z, upd_same] at h2; cases h2
  have hl2 : H l2 = none := by rwa [upd_ne na2, upd_ne n21, upd_ne na2] at h2
  rw [upd_upd]
  refine k l1 l2 _ (fun b o hb h => ?_) hl1 hl2 ⟨upd_same, ⟨[], ?_, .nil⟩, ?_, Ne.symm n21, ?_⟩
  · rw [upd_ne hb, upd_ne (fun z => by rw [z, hl2] at h; cases h), upd_ne hb, upd_ne (fun z => by rw [z, hl1] at h; cases h), upd_ne hb]
    exact h
  · rw [upd_ne na1, upd_ne (Ne.symm n21), upd_ne na1, upd_same]
  · rw [upd_ne na2, upd_same]; rfl
  · refine dp_tx ⟨fun b xs h => ?_, fun b o u h => ?_⟩ tfr_tI hx
    · have hb : b ≠ a := fun z => by rw [z, ha] at h; cases h
      rw [upd_ne hb, upd_ne (fun z => by rw [z, hl2] at h; cases h), upd_ne hb, upd_ne (fun z => by rw [z, hl1] at h; cases h), upd_ne hb]
      exact h
    · have hb : b ≠ a := fun z => by rw [z, ha] at h; cases h
      rw [upd_ne hb, upd_ne (fun z => by rw [z, hl2] at h; cases h), upd_ne hb, upd_ne (fun z => by rw [z, hl1] at h; cases h), upd_ne hb]
      exact h
/-! ### take -/
def sp_take (K : PySem.W.Frag) : Sp := fun vs H Q _ => ∃ (a dx l1 l2 : Addr) (x : V) (ss : List Int) (r0 : RS) (t : Tok), vs = [.ref a, .str t.s] ∧ RdX K H a dx x l1 l2 ss r0.st r0.ws r0.b ∧ r0.st.length + r0.ws.length ≤ 50000 ∧ okSizes ss ∧ t.ok ss ∧
  ((∃ r', takeR t r0 = some r' ∧ ∀ H', Keep a l1 l2 H H' → RdX K H' a dx x l1 l2 ss r'.st r'.ws r'.b → Q (.bl true) H') ∨ (r0.b = false ∧ t = .rp ∧ r0.ws.contains .lp = false ∧ ∀ H', Ex H H' → Q (.bl false) H'))
theorem sc_Reader_take : FnScope ["self", "word"] ["self", "word"] (defScope (inClass (top 38) 3)) := ⟨rfl, rfl, rfl, by decide +kernel, rfl, by decide +kernel, by decide +kernel⟩
theorem ok_Reader_take (C : W0 P w K mg base) : C8.Met P w K mg base 4 (rdC K) "take" (sp_take K) [] := by
  have o_Reader_begin := ok_Reader_begin C
  have o_Reader_give_way := ok_Reader_give_way C
  refine met_of C.f_Reader_take C.cls_Reader C.me_Reader_take sc_Reader_take (fun _ _ _ _ _ _ us hl => match us, hl with | [_, _], _ => rfl) (fun vs H Q E h => by obtain ⟨a, dx, l1, l2, x, ss, r0, t, rfl, _⟩ := h; rfl) fun cdv A outer s H vs Q E hr h => ?_
  obtain ⟨a, dx, l1, l2, x, ss, ⟨st, ws, b⟩, t, rfl, r, hlen, hss, ht, hcase⟩ := h
  refine ⟨_, (pss_cons (ps_if (pt_val (pe_fld (pv 0) rfl)) (pss_one (ps_ret (C8.pe_mt o_Reader_begin hr (by decide) (pv 0) (pa_cons (pv 1) pa_nil)))) pss_nil)
      (pss_cons (ps_if (pt_cmpR op_in_seq (pv 1) (pe_tup (pa_cons pe_str (pa_cons pe_str pa_nil))) (by rfl)) (pss_cons (ps_expr (C8.pe_mt o_Reader_give_way hr (by decide) (pv 0) (pa_cons (pe_ix ix_kdict (C8.pe_gc rfl C.c_BINDING) (pv 1) (fun _ _ => rfl)) pa_nil)))
      (pss_cons (ps_expr (pe_bm PySem.F.plainAttrs_list PySem.F.slot_list_append PySem.F.type_list_append mt_append (pe_fld (pv 0) rfl) (pa_cons (pv 1) pa_nil)))
      (pss_cons (ps_fld (pv 0) pe_bl rfl)
      (pss_one (ps_ret pe_bl))))) pss_nil)
      (pss_cons (ps_if (PW.pt (pw_or (pt_cmpR op_ne (pv 1) pe_str (nomark _)) (pw_or1 (pt_cmpR op_notIn_seq pe_str (pe_fld (pv 0) rfl) (by rfl))))) (pss_one (ps_ret pe_bl)) pss_nil)
      (pss_cons (ps_expr (C8.pe_mt o_Reader_give_way hr (by decide) (pv 0) (pa_cons pe_int pa_nil)))
      (pss_cons (ps_expr (pe_bm0 PySem.F.plainAttrs_list PySem.F.slot_list_pop PySem.F.type_list_pop mt_pop (pe_fld (pv 0) rfl)))
      (pss_one (ps_ret pe_bl))))))), ?_⟩
  have r : RdX K H a dx x l1 l2 ss st ws b := r
  have hlen : st.length + ws.length ≤ 50000 := hlen
  cases b with
  | true =>
    rcases hcase with ⟨r', htk, k⟩ | ⟨h, _⟩
    · refine kq_take K (etk_D (ed_wanted C rfl r)) fun H1 e1 => ?_
      refine ⟨_, rfl, a, dx, _, rfl, (r.ex e1).a, rfl, _, rfl, a, dx, l1, l2, x, ss, st, ws, t, r', rfl, r.ex e1, by omega, hss, ht, htk, fun H' k' r2 => k H' ((Keep.of e1).trans k') r2⟩
    · cases h
  | false =>
    refine kq_skip K (etk_D (ed_wanted C rfl r)) fun H1 e1 => ?_
    have r1 := r.ex e1
    cases t with
    | and =>
      rcases hcase with ⟨r', htk, k⟩ | ⟨_, h, _⟩
      · have e : r' = ⟨(gw 2 ws st).2, .and :: (gw 2 ws st).1, true⟩ := (Option.some.inj htk).symm
        refine kq_take K (etk_D ((ed_inTwo rfl).is (congrArg PyData.bool (by decide)))) fun H2 e2 => ?_
        have r2 := r1.ex e2
        refine ⟨_, rfl, a, dx, _, rfl, r2.a, rfl, ed_bind C (o := .and) (by decide) (ed_var ⟨_, rfl, .str _⟩) H2 (Ex.refl H2) _ fun v H3 e3 hv => ?_⟩
        have r3 := r2.ex e3
        refine ⟨a, dx, l1, l2, x, ss, st, ws, false, 2, by rw [hv.int_inv]; rfl, r3, by omega, fun H4 k4 r4 => ?_⟩
        try dsimp only
        refine sd_push C (o := .and) rfl r4 (by have := gw_len (b := 2) ws st; omega) (ed_var ⟨_, rfl, .str _⟩) fun H5 k5 r5 => ?_
        try dsimp only
        refine sd_wanted C (b' := true) rfl r5 fun H6 k6 r6 => ?_
        dsimp only
        exact sd_ret (K := K) (d := .bool true) ed_bl fun v H7 e7 hv => by
          rw [hv.bl_inv]
          refine k H7 ((Keep.of (e1.trans (e2.trans e3))).trans (k4.trans (k5.trans (k6.trans (Keep.of e7))))) ?_
          rw [e]
          exact r6.ex e7
      · cases h
    | or =>
      rcases hcase with ⟨r', htk, k⟩ | ⟨_, h, _⟩
      · have e : r' = ⟨(gw 1 ws st).2, .or :: (gw 1 ws st).1, true⟩ := (Option.some.inj htk).symm
        refine kq_take K (etk_D ((ed_inTwo rfl).is (congrArg PyData.bool (by decide)))) fun H2 e2 => ?_
        have r2 := r1.ex e2
        refine ⟨_, rfl, a, dx, _, rfl, r2.a, rfl, ed_bind C (o := .or) (by decide) (ed_var ⟨_, rfl, .str _⟩) H2 (Ex.refl H2) _ fun v H3 e3 hv => ?_⟩
        have r3 := r2.ex e3
        refine ⟨a, dx, l1, l2, x, ss, st, ws, false, 1, by rw [hv.int_inv]; rfl, r3, by omega, fun H4 k4 r4 => ?_⟩
        try dsimp only
        refine sd_push C (o := .or) rfl r4 (by have := gw_len (b := 1) ws st; omega) (ed_var ⟨_, rfl, .str _⟩) fun H5 k5 r5 => ?_
        try dsimp only
        refine sd_wanted C (b' := true) rfl r5 fun H6 k6 r6 => ?_
        dsimp only
        exact sd_ret (K := K) (d := .bool true) ed_bl fun v H7 e7 hv => by
          rw [hv.bl_inv]
          refine k H7 ((Keep.of (e1.trans (e2.trans e3))).trans (k4.trans (k5.trans (k6.trans (Keep.of e7))))) ?_
          rw [e]
          exact r6.ex e7
      · cases h
    | rp =>
      refine kq_skip K (etk_D ((ed_inTwo rfl).is (congrArg PyData.bool (by decide)))) fun H2 e2 => ?_
      have r2 := r1.ex e2
      rcases hcase with ⟨r', htk, k⟩ | ⟨_, _, hno, k⟩
      · have hlp : ws.contains .lp = true := by
          unfold takeR at htk
          simp only [Bool.false_eq_true, if_false] at htk
          split at htk
          · assumption
          · cases htk
        have e : r' = ⟨(gw 0 ws st).2, (gw 0 ws st).1.tail, false⟩ := by
          unfold takeR at htk
          simp only [Bool.false_eq_true, if_false] at htk
          rw [if_pos hlp] at htk
          exact (Option.some.inj htk).symm
        obtain ⟨rest, hgw⟩ := gw_lp ws st hlp
        refine kq_skip K (etk_or (a := false) (b := false) (etk_D ((ed_neS (ed_var ⟨_, rfl, .str _⟩) ed_str).is (congrArg PyData.bool (by decide)))) fun _ => etk_D ((ed_lpIn C rfl r2).is (by rw [hlp]; rfl))) fun H3 e3 => ?_
        have r3 := r2.ex e3
        refine ⟨_, rfl, a, dx, _, rfl, r3.a, rfl, a, dx, l1, l2, x, ss, st, ws, false, 0, rfl, r3, by omega, fun H4 k4 r4 => ?_⟩
        have hw4 := r4.w
        rw [hgw, opV_cons] at hw4
        refine ⟨_, rfl, a, _, dx, _, .ref l2, rfl, r4.a, C.cls_Reader, C.na_Reader_waiting, rfl, Or.inl ⟨rfl, _, sq_of hw4⟩, l2, _, .str "(", rfl, rfl, hw4, by simp [Op.s], ?_⟩
        rw [List.dropLast_concat]
        obtain ⟨vs, h1, hvs⟩ := r4.s
        have tx : Tx H4 (upd H4 l2 (.lst (opV rest))) := Tx.updL hw4
        have r5 : RdX K (upd H4 l2 (.lst (opV rest))) a dx x l1 l2 ss (gw 0 ws st).2 rest false := r4.to (vs := vs) tx (by rw [upd_ne r4.na2]; exact r4.a) (by rw [upd_ne r4.ne]; exact h1) (dps_tx tx (tfrs_map fun _ _ => step_tfr) hvs) upd_same
        dsimp only
        refine sd_ret (K := K) (d := .bool true) ed_bl fun v H7 e7 hv => ?_
        rw [hv.bl_inv]
        refine k H7 ((Keep.of (e1.trans (e2.trans e3))).trans (k4.trans ((Keep.upd (.inr (.inr rfl))).trans (Keep.of e7)))) ?_
        rw [e]
        show RdX K H7 a dx x l1 l2 ss (gw 0 ws st).2 (gw 0 ws st).1.tail false
        rw [hgw]
        exact r5.ex e7
      · refine kq_take K (etk_or (a := false) (b := true) (etk_D ((ed_neS (ed_var ⟨_, rfl, .str _⟩) ed_str).is (congrArg PyData.bool (by decide)))) fun _ => etk_D ((ed_lpIn C rfl r2).is (by rw [hno]; rfl))) fun H3 e3 => ?_
        exact sd_ret (K := K) (d := .bool false) ed_bl fun v H7 e7 hv => by rw [hv.bl_inv]; exact k H7 (((e1.trans e2).trans e3).trans e7)
    | lp => rcases hcase with ⟨r', htk, k⟩ | ⟨_, h, _⟩ <;> first | cases htk | cases h
    | not => rcases hcase with ⟨r', htk, k⟩ | ⟨_, h, _⟩ <;> first | cases htk | cases h
    | atom at_ => rcases hcase with ⟨r', htk, k⟩ | ⟨_, h, _⟩ <;> first | cases htk | cases h
end
end K61
end

section
set_option Elab.async false
set_option linter.all false
set_option maxRecDepth 100000
set_option maxHeartbeats 4000000
namespace K61
open PySem PySem.Spec PyProof.Rows L2 Evl RZ SX
local macro_rules | `(tactic| walk_at "evs") => `(tactic| first
  | exact ed_int | exact ed_str | exact ed_bl | exact ed_non
  | exact ed_var ⟨_, rfl, by first | assumption | exact .int _ | exact .str _ | exact .bl _ | exact .non⟩
  | exact ed_top (W0.t_ZERO (by assumption)) | exact ed_top (W0.t_ONE (by assumption))
  | refine ed_I0 ?_ ?_ | refine ed_B0 ?_ ?_ | refine ed_I ?_ ?_ ?_
  | refine ed_call ?_ ?_ | refine eds_cons ?_ ?_ | exact eds_nil
  | ((apply ed_ixT); (focus (walk_at "ev"; done)); (focus (walk_at "ev"; done)); (focus (exact rfl)); done)
  | ((apply ed_ixL); (focus (walk_at "ev"; done)); (focus (walk_at "ev"; done)); (focus (exact rfl)); done)
  | refine ed_tup ?_ ?_ | refine ed_lst ?_ ?_
  | ((refine ed_lenL ?_); (walk_at "ev"); done) | ((refine ed_lenT ?_); (walk_at "ev"); done) | refine ed_lenS ?_ ?_
  | refine ed_abs ?_ | ((refine ed_intI ?_); (walk_at "ev"); done) | refine ed_intB ?_ | refine ed_isi ?_ ?_
  | ((refine ed_eqI ?_ ?_ <;> walk_at "ev"); done) | ((refine ed_eqS ?_ ?_ <;> walk_at "ev"); done) | refine ed_neS ?_ ?_
  | refine ed_eqD ?_ ?_ ?_ ?_ | refine ed_neD ?_ ?_ ?_ ?_ | refine ed_ltD ?_ ?_ ?_ ?_ ?_
  | refine ed_isN ?_ | refine ed_notN ?_
  | refine ed_chain ?_ ?_ ?_ | refine ed_not ?_ | refine ed_and ?_ ?_ | refine ed_or ?_ ?_
  | refine ed_catS ?_ ?_ ?_ | refine ed_catT ?_ ?_ ?_
  | refine etk_D ?_ | refine etk_DB ?_ | refine etk_not ?_ | refine etk_and ?_ ?_ | refine etk_or ?_ ?_
  | exact rfl | assumption | omega | refine (fun (_ : _ = true) => ?_) | refine (fun (_ : _ = false) => ?_))
local macro_rules | `(tactic| walk_at "ev") => `(tactic| (walk_at "evs" <;> (try walk_at "ev")))

abbrev btC (K : PySem.W.Frag) : Addr := He.ga K "BadText"
section
variable {P : Program} {w : World} {K : PySem.W.Frag} {mg : Str → Option Value} {base : Heap} {σ : L2.St} {H H' : Hp} {ta tb te : TE}
/-! ### BadText -/
def sp_bt (K : PySem.W.Frag) : Sp := fun vs H Q _ => ∃ (a : Addr) (v : V), vs = [.ref a, v] ∧ H a = some (exo a (btC K) none) ∧ ∀ dx, H dx = none → dx ≠ a → Q .non (upd (upd H dx (exd dx [("at", v)])) a (exo a (btC K) (some dx)))
theorem sc_BadText___init__ : FnScope ["self", "at"] ["self", "at"] (defScope (inClass (top 8) 0)) := ⟨rfl, rfl, rfl, by decide +kernel, rfl, by decide +kernel, by decide +kernel⟩
theorem ok_bt (C : W0 P w K mg base) : ∃ fd, FnOk P w K mg base CX0 1 (He.ma K (btC K) "__init__") fd ["self", "at"] (sp_bt K) ∧ Binds K fd ["self", "at"] [] := by
  obtain ⟨fd, F⟩ := C.f_BadText___init__
  refine ⟨fd, F.ok sc_BadText___init__ (fun vs H Q E h => by obtain ⟨a, v, rfl, _⟩ := h; rfl) (fun cdv A outer s H vs Q E hr h => ?_), F.bindsN (fun _ _ _ _ _ _ us hl => match us, hl with | [_, _], _ => rfl)⟩
  obtain ⟨a, v, rfl, ha, k⟩ := h
  refine ⟨_, PSs.nox (pss_one (ps_ost (pv 0) (pv 1))), ?_⟩
  exact ⟨v, rfl, .ref a, rfl, a, btC K, rfl, oexB_ok C.exs.1, C.exs.2.2.2.1, .inl ⟨ha, fun dx h1 h2 => k dx h1 h2⟩⟩
theorem pmk_bt {X : Cx} {e : Expr} {es : List Expr} {t : TA} {p pos : Pos} (C : W0 X.prog X.w X.K X.mg X.base) (hr : Room 2 X.A) (ha : PA X (e :: es) t) (hg : Gl X "BadText" := by rfl)
    (he : starEach (e :: es) X.env = (false, eval e X.env) :: starEach es X.env := by rfl) (hpl : (backTo pos (starEach es X.env)).any (·.1) = false := by rfl) :
    PMk X (.Call (.Name "BadText" p) (e :: es) [] pos) (tMkO (btC X.K) (sp_bt X.K) [] t) := by
  obtain ⟨fd, F, b⟩ := ok_bt C
  exact pmk_oex (oexB_ok C.exs.1) C.exs.2.2.2.2.2.2.1 C.exs.2.2.2.2.2.2.2.1 F hr b .nil pass0 hg C.g_BadText ha (by decide) he hpl
/-- what a BadText leaves -/
def BadE (K : PySem.W.Frag) (H : Hp) (n : Int) (E : XK) : Prop := ∀ dd H', Ex H H' → H' dd = some (.xd [("at", .int n)]) → E (.ref (btC K)) (some dd) H'
theorem BadE.ex {n : Int} {E : XK} (e : Ex H H') (h : BadE K H n E) : BadE K H' n E := fun dd H1 e1 => h dd H1 (e.trans e1)
theorem raise_run {n : Int} {W : XK} (h : EvD K te σ H (.int n)) (k : BadE K H n W) : tMkO (btC K) (sp_bt K) [] (tCons te tNil) σ H W := by
  refine h H (Ex.refl H) _ fun v H1 e1 hv => ⟨by show 1 ≤ 1000; decide, fun a ha => ⟨a, v, rfl, upd_same, fun dx h1 h2 => ⟨rfl, dx, [("at", v)], upd_same, by rw [upd_ne h2, upd_same], by rwa [upd_ne h2] at h1, k _ _ (fun b o hb => ?_) ?_⟩⟩⟩
  · have hb1 := e1 _ _ hb
    have h1' : H1 dx = none := by rwa [upd_ne h2] at h1
    have nb : b ≠ dx := ne_of_none hb1 h1'
    have na : b ≠ a := ne_of_none hb1 ha
    rw [upd_ne nb, del_ne na, upd_ne na, upd_ne nb, upd_ne na]
    exact hb1
  · rw [upd_same, hv.int_inv]
/-! ### defs that may let a BadText out -/
structure ClX (P : Program) (w : World) (K : PySem.W.Frag) (mg : Str → Option Value) (base : Heap) (k : Nat) (x : Str) (ps : List Str) (sp : Sp) : Prop where
  ex : ∃ (f : Addr) (fd : FuncData), FnOk P w K mg base (L2.CX P w) k f fd ps sp ∧ mg x = some (.ref f) ∧ PySem.W.keepIn K (.ref f) = true ∧ Binds K fd ps []
theorem ClX.of {x : Str} {st : Stmt} {f : Addr} {N ps : List Str} {k : Nat} {sp : Sp} (F : ∃ fd, FunD K x x (defArgs st) (defBody st) (defScope st) [] [] f fd) (hm : mg x = some (.ref f)) (S : FnScope N ps (defScope st))
    (hb : ∀ (kV doc pm : Value) (an : Option Addr) (cdv ct : Value) (us : List Value), us.length = ps.length → bindArgs (PySem.W.fnOf x x (defArgs st) (defBody st) (defScope st) .none kV doc pm an cdv ct) ⟨us, []⟩ = pure (ps.zip us))
    (len : ∀ vs H Q E, sp vs H Q E → vs.length = ps.length)
    (hbody : ∀ (cdv : Value) (A : Around) (outer : List Env) (s : Shared) (H : Hp) (vs : List V) (Q : VK) (E : XK), Room k (A.deeper (envOfC x (defScope st) s.heap.objs.size f cdv)) → sp vs H Q E →
      ∃ t, PSs (cxOf (L2.CX P w) P w K mg base N x (defScope st) f cdv A outer s H E) (defBody st) t ∧ t { nx := fun _ H' => Q .non H', rt := Q } (start N vs) H) : ClX P w K mg base (k + 1) x ps sp := by
  obtain ⟨fd, F⟩ := F
  exact ⟨f, fd, F.ok S len fun cdv A outer s H vs Q E hr h => hbody cdv A outer s H vs Q E hr h, hm, F.kp, F.bindsN hb⟩
theorem pe_clX {X : Cx} {k j : Nat} {x : Str} {ps : List Str} {sp : Sp} {W : WX} {p pos : Pos} {e : Expr} {es : List Expr} {t : TA} (c : ClX X.prog X.w X.K X.mg X.base k x ps sp) (hr : Room j X.A) (hk : k ≤ j) (hg : Gl X x) (tk : Takes X W) (ha : PA X (e :: es) t)
    (hdb : (x == ("__debug__" : Str)) = false := by decide) (he : starEach (e :: es) X.env = (false, eval e X.env) :: starEach es X.env := by rfl) (hpl : (backTo pos (starEach es X.env)).any (·.1) = false := by rfl) :
    PE X (.Call (.Name x p) (e :: es) [] pos) (tCallS sp (WE W) t) := by
  obtain ⟨f, fd, F, hm, kp, b⟩ := c.ex
  exact pe_callS F (hr.mono hk) hg hm kp b (fun σ => passAt tk σ) ha hdb he hpl
/-! ### read_expression -/
abbrev Wrd := Option Tok
def Wrd.s : Wrd → Str
  | none => "if"
  | some t => t.s
def placedD (p : Nat × Wrd) : PD := pair2 (.int (p.1 : Nat)) (.str p.2.s)
def RS.whole (r : RS) : Bool := !r.b && !r.ws.contains .lp
inductive Out where
  | ok (st : List Step) (n : Nat)
  | bad (at_ : Int)
/-- what is read: none where nothing is promised -/
def runE (first : Bool) (len : Int) : List (Nat × Wrd) → RS → Nat → Option Out
  | [], r, i => some (if r.whole then .ok (gw 0 r.ws r.st).2 i else .bad len)
  | (_, none) :: _, r, i => if first && r.whole then some (.ok (gw 0 r.ws r.st).2 i) else none
  | (p, some t) :: l, r, i => match takeR t r with
    | some r' => runE first len l r' (i + 1)
    | none => if r.b = false ∧ t = .rp ∧ r.ws.contains .lp = false then some (.bad (p : Nat)) else none
theorem takeR_len {t : Tok} {r r' : RS} (h : takeR t r = some r') : r'.st.length + r'.ws.length ≤ r.st.length + r.ws.length + 1 := by
  unfold takeR at h
  have g := fun b => gw_len (b := b) r.ws r.st
  split at h
  · cases t with
    | lp => cases h; simp; omega
    | not => cases h; simp; omega
    | atom a => cases h; simp; omega
    | rp => cases h
    | and => cases h
    | or => cases h
  · cases t with
    | and => cases h; have := g 2; simp; omega
    | or => cases h; have := g 1; simp; omega
    | rp =>
      simp only at h
      split at h
      · cases h; have := g 0; simp; omega
      · cases h
    | lp => cases h
    | not => cases h
    | atom _ => cases h
theorem tok_if {t : Tok} : (t.s = ("if" : Str)) → False := fun h => by
  have e : (("if" : Str)) = S [105, 102] := by rfl
  cases t with
  | atom a =>
    have h : S a.cps = S [105, 102] := h.trans e
    have := S_inj h
    cases a <;> simp [Atom.cps] at this
  | _ => revert h; decide
def sp_re (K : PySem.W.Frag) : Sp := fun vs H Q E => ∃ (x wl : V) (ss : List Int) (ws : List (Nat × Wrd)) (len : Int) (first : Bool) (out : Out), vs = [x, wl, .int len, .bl first] ∧ Dp K H x (tI ss) ∧ okSizes ss ∧ Dp K H wl (.list (ws.map placedD)) ∧ ws.length ≤ 40000 ∧ (∀ p ∈ ws, ∀ t, p.2 = some t → t.ok ss) ∧ runE first len ws ⟨[], [], true⟩ 0 = some out ∧
  (match out with
  | .ok st n => ∀ v H', Ex H H' → Dp K H' v (.tuple [.list (st.map Step.d), .int (n : Nat)]) → Q v H'
  | .bad n => BadE K H n E)
theorem sc_read_expression : FnScope ["sizes", "words", "length", "is_first", "reader", "at", "place", "word"] ["sizes", "words", "length", "is_first"] (defScope (top 39)) := ⟨rfl, rfl, rfl, by decide +kernel, rfl, by decide +kernel, by decide +kernel⟩
theorem ok_read_expression (C : W0 P w K mg base) : ClX P w K mg base 6 "read_expression" ["sizes", "words", "length", "is_first"] (sp_re K) := by
  have o_Reader_give_way := ok_Reader_give_way C
  have o_Reader_is_whole := ok_Reader_is_whole C
  have o_Reader_take := ok_Reader_take C
  have o_rdInit := ok_rdInit C
  refine ClX.of C.f_read_expression C.g_read_expression sc_read_expression (fun _ _ _ _ _ _ us hl => match us, hl with | [_, _, _, _], _ => rfl) (fun vs H Q E h => by obtain ⟨x, wl, ss, ws, len, first, out, rfl, _⟩ := h; rfl) fun cdv A outer s H vs Q E hr h => ?_
  obtain ⟨x, wl, ss, ws, len, first, out, rfl, h0, hss, h1, hwl, htok, hrun, k⟩ := h
  refine ⟨_, (pss_cons (ps_set (i := 4) sc_read_expression.nd rfl (Or.inl rfl) (C8.pe_mk o_rdInit hr (by decide) rfl (pa_cons (pv 0) pa_nil)))
      (pss_cons (ps_for (passes_of rfl) rfl (pi_enum (by rfl) C.n_enumerate (pa_cons (pv 1) pa_nil)) (pg_tup rfl (pgs_cons (pg_name (i := 5) sc_read_expression.nd rfl (Or.inl rfl)) (pgs_cons (pg_tup rfl (pgs_cons (pg_name (i := 6) sc_read_expression.nd rfl (Or.inl rfl)) (pgs_cons (pg_name (i := 7) sc_read_expression.nd rfl (Or.inl rfl)) pgs_nil))) pgs_nil))) (pss_cons (ps_if (PW.pt (pw_and (pt_cmpR op_eq (pv 7) pe_str (nomark _)) (pw_and (pt_val (pv 3)) (pw_and1 (pt_val (C8.pe_mt0 o_Reader_is_whole hr (by decide) (pv 4))))))) (pss_cons (ps_expr (C8.pe_mt o_Reader_give_way hr (by decide) (pv 4) (pa_cons pe_int pa_nil)))
      (pss_one (ps_ret (pe_tup (pa_cons (pe_fld (pv 4) rfl) (pa_cons (pv 5) pa_nil)))))) pss_nil)
      (pss_one (ps_if (pt_not (pt_val (C8.pe_mt o_Reader_take hr (by decide) (pv 4) (pa_cons (pv 7) pa_nil)))) (pss_one (ps_raise rfl (takes_of rfl rfl rfl rfl) (pmk_bt C (hr.mono (by decide)) (pa_cons (pv 6) pa_nil)))) pss_nil))))
      (pss_cons (ps_if (pt_not (pt_val (C8.pe_mt0 o_Reader_is_whole hr (by decide) (pv 4)))) (pss_one (ps_raise rfl (takes_of rfl rfl rfl rfl) (pmk_bt C (hr.mono (by decide)) (pa_cons (pv 2) pa_nil)))) pss_nil)
      (pss_cons (ps_expr (C8.pe_mt o_Reader_give_way hr (by decide) (pv 4) (pa_cons pe_int pa_nil)))
      (pss_one (ps_ret (pe_tup (pa_cons (pe_fld (pv 4) rfl) (pa_cons (pe_callB call_len_seq (by rfl) C.n_len (by decide +kernel) (pa_cons (pv 1) pa_nil)) pa_nil))))))))), ?_⟩
  refine ⟨x, rfl, fun a dx ha hdx hne => ?_⟩
  have na : a ≠ dx := Ne.symm hne
  have tx0 : Tx H (upd (upd H dx (.own a)) a (.ins (rdC K) dx [])) := Tx.of ((Ex.new hdx).trans (Ex.new (by rw [upd_ne na]; exact ha)))
  refine ⟨a, dx, x, ss, rfl, upd_same, dp_tx tx0 tfr_tI h0, fun l1 l2 H1 kp hl1 hl2 r0 => ⟨rfl, ?_⟩⟩
  have nl : ∀ l, upd (upd H dx (.own a)) a (.ins (rdC K) dx []) l = none → H l = none := fun l h => by
    by_cases z : l = a
    · rw [z, upd_same] at h; cases h
    · rw [upd_ne z] at h
      by_cases z2 : l = dx
      · rw [z2, upd_same] at h; cases h
      · rwa [upd_ne z2] at h
  have hl1 := nl l1 hl1
  have hl2 := nl l2 hl2
  have eG : Ex H H1 := fun b o hb => kp b o (ne_of_none hb ha) (by rw [upd_ne (ne_of_none hb ha), upd_ne (ne_of_none hb hdx)]; exact hb)
  have kx : ∀ {H2 H3 : Hp}, Ex H H2 → Keep a l1 l2 H2 H3 → Ex H H3 := fun e k' => k'.ex e ha hl1 hl2
  refine qd_forV (K := K) (G := H) (ds := enumD (ws.map placedD)) eG (wv_enumL ⟨_, rfl, h1⟩) (fun i σ' H' => ∃ z1 z2 z3 r, σ' = [some x, some wl, some (.int len), some (.bl first), some (.ref a), z1, z2, z3] ∧ RdX K H' a dx x l1 l2 ss r.st r.ws r.b ∧ r.st.length + r.ws.length ≤ i ∧ runE first len (ws.drop i) r i = some out) ⟨_, _, _, ⟨[], [], true⟩, rfl, r0, Nat.le_refl _, hrun⟩ ?_ ?_
  · rintro i d hd σ' H2 e2 ⟨z1, z2, z3, r, rfl, hr2, hlen, hri⟩ q H3 e3 hq
    have hi : i < ws.length := by
      have := (List.getElem?_eq_some_iff.mp hd).1
      rwa [enumD_len, List.length_map] at this
    have hwi : ws[i]? = some ws[i] := List.getElem?_eq_getElem hi
    rw [enumD_at (d := placedD ws[i]) (by rw [List.getElem?_map, hwi]; rfl)] at hd
    cases hd
    rw [List.drop_eq_getElem_cons hi] at hri
    generalize hwe : ws[i] = pw at hri hq hwi
    obtain ⟨pp, wd⟩ := pw
    refine g_nest hq fun y1 y2 y3 hy1 hy2 hy3 => ?_
    have hy1' := hy1.int_inv
    subst hy1'
    have hy2' := hy2.int_inv
    subst hy2'
    have hy3' := hy3.str_inv
    subst hy3'
    have r3 := hr2.ex e3
    have e23 := e2.trans e3
    dsimp only
    have wholeT : ∀ {H : Hp} {z1 z2 z3 : Option V}, RdX K H a dx x l1 l2 ss r.st r.ws r.b → EvD K (tMeth (rdC K) "is_whole" (sp_is_whole K) [] E0 (tVar 4) tNil) [some x, some wl, some (.int len), some (.bl first), some (.ref a), z1, z2, z3] H (.bool r.whole) := fun {H z1 z2 z3} rr H1 e Q q =>
      ⟨_, rfl, a, dx, _, rfl, (rr.ex e).a, rfl, a, dx, l1, l2, x, ss, r.st, r.ws, r.b, rfl, rr.ex e, fun H' e' => q _ H' e' (.bl _)⟩
    cases wd with
    | none =>
      have hfw : first = true ∧ r.whole = true := by
        unfold runE at hri
        split at hri
        · rename_i h
          simpa using h
        · cases hri
      have hout : out = .ok (gw 0 r.ws r.st).2 i := by
        unfold runE at hri
        rw [hfw.1, hfw.2] at hri
        exact (Option.some.inj hri).symm
      subst hout
      refine kq_take K (etk_and (a := true) (b := true) (etk_D ((ed_eqS (ed_var ⟨_, rfl, .str _⟩) ed_str).is (congrArg PyData.bool (decide_eq_true rfl)))) fun _ => etk_and (a := true) (b := true) (etk_D ((ed_var ⟨_, rfl, .bl _⟩ : EvD K _ _ _ (.bool first)).is (by rw [hfw.1]))) fun _ => etk_D ((wholeT r3).is (by rw [hfw.2]))) fun H4 e4 => ?_
      have r4 := r3.ex e4
      refine ⟨_, rfl, a, dx, _, rfl, r4.a, rfl, a, dx, l1, l2, x, ss, r.st, r.ws, r.b, 0, rfl, r4, by omega, fun H5 k5 r5 => ?_⟩
      refine sd_ret (K := K) (d := .tuple [.list ((gw 0 r.ws r.st).2.map Step.d), .int (i : Nat)]) (ed_tup (eds_cons (ed_stepsF C rfl r5) (eds_cons (ed_var ⟨_, rfl, .int _⟩) eds_nil)) (by simp)) fun v H6 e6 hv => k v H6 ((kx (e23.trans e4) k5).trans e6) hv
    | some t =>
      refine kq_skip K (etk_and (a := false) (b := false) (etk_D ((ed_eqS (ed_var ⟨_, rfl, .str _⟩) ed_str).is (congrArg PyData.bool (decide_eq_false tok_if)))) fun h => nomatch h) fun H4 e4 => ?_
      have r4 := r3.ex e4
      have e24 := e23.trans e4
      have htk : t.ok ss := htok (pp, some t) (List.mem_of_getElem? hwi) t rfl
      unfold runE at hri
      cases hT : takeR t r with
      | some r' =>
        rw [hT] at hri
        refine ⟨_, rfl, a, dx, _, rfl, r4.a, rfl, _, rfl, a, dx, l1, l2, x, ss, r, t, rfl, r4, by omega, hss, htk, .inl ⟨r', hT, fun H5 k5 r5 => ⟨true, rfl, ?_⟩⟩⟩
        have := takeR_len hT
        exact ⟨kx e24 k5, _, _, _, r', rfl, r5, by omega, hri⟩
      | none =>
        rw [hT] at hri
        simp only at hri
        split at hri
        · rename_i hc
          have hout : out = .bad (pp : Nat) := (Option.some.inj hri).symm
          subst hout
          refine ⟨_, rfl, a, dx, _, rfl, r4.a, rfl, _, rfl, a, dx, l1, l2, x, ss, r, t, rfl, r4, by omega, hss, htk, .inr ⟨hc.1, hc.2.1, hc.2.2, fun H5 e5 => ⟨false, rfl, ?_⟩⟩⟩
          exact raise_run (ed_var ⟨_, rfl, .int _⟩) (BadE.ex (e24.trans e5) k)
        · cases hri
  · rintro σ' H2 e2 ⟨z1, z2, z3, r, rfl, hr2, hlen, hri⟩
    rw [enumD_len, List.length_map, List.drop_length] at hri
    rw [enumD_len, List.length_map] at hlen
    unfold runE at hri
    have wholeT : EvD K (tMeth (rdC K) "is_whole" (sp_is_whole K) [] E0 (tVar 4) tNil) [some x, some wl, some (.int len), some (.bl first), some (.ref a), z1, z2, z3] H2 (.bool r.whole) := fun H1 e Q q =>
      ⟨_, rfl, a, dx, _, rfl, (hr2.ex e).a, rfl, a, dx, l1, l2, x, ss, r.st, r.ws, r.b, rfl, hr2.ex e, fun H' e' => q _ H' e' (.bl _)⟩
    cases hw : r.whole with
    | true =>
      rw [hw] at hri
      have hout : out = .ok (gw 0 r.ws r.st).2 ws.length := (Option.some.inj hri).symm
      subst hout
      refine kq_skip K (etk_not (a := true) (etk_D (wholeT.is (by rw [hw])))) fun H3 e3 => ?_
      have r3 := hr2.ex e3
      refine ⟨_, rfl, a, dx, _, rfl, r3.a, rfl, a, dx, l1, l2, x, ss, r.st, r.ws, r.b, 0, rfl, r3, by omega, fun H5 k5 r5 => ?_⟩
      have e5 := kx (e2.trans e3) k5
      refine sd_ret (K := K) (d := .tuple [.list ((gw 0 r.ws r.st).2.map Step.d), .int (ws.length : Nat)]) (ed_tup (eds_cons (ed_stepsF C rfl r5) (eds_cons ((ed_lenL (ed_var ⟨_, rfl, h1.ex e5⟩)).is (by rw [List.length_map])) eds_nil)) (by simp)) fun v H6 e6 hv => k v H6 (e5.trans e6) hv
    | false =>
      rw [hw] at hri
      have hout : out = .bad len := (Option.some.inj hri).symm
      subst hout
      refine kq_take K (etk_not (a := false) (etk_D (wholeT.is (by rw [hw])))) fun H3 e3 => ?_
      exact raise_run (ed_var ⟨_, rfl, .int _⟩) (BadE.ex (e2.trans e3) k)
end
end K61
end

section
set_option Elab.async false
set_option linter.all false
set_option maxRecDepth 100000
set_option maxHeartbeats 4000000
namespace K61
open PySem PySem.Spec PyProof.Rows L2 Evl RZ SX
local macro_rules | `(tactic| walk_at "evs") => `(tactic| first
  | exact ed_int | exact ed_str | exact ed_bl | exact ed_non
  | exact ed_var ⟨_, rfl, by first | assumption | exact .int _ | exact .str _ | exact .bl _ | exact .non⟩
  | exact ed_top (W0.t_ZERO (by assumption)) | exact ed_top (W0.t_ONE (by assumption))
  | refine ed_I0 ?_ ?_ | refine ed_B0 ?_ ?_ | refine ed_I ?_ ?_ ?_
  | refine ed_call ?_ ?_ | refine eds_cons ?_ ?_ | exact eds_nil
  | ((apply ed_ixT); (focus (walk_at "ev"; done)); (focus (walk_at "ev"; done)); (focus (exact rfl)); done)
  | ((apply ed_ixL); (focus (walk_at "ev"; done)); (focus (walk_at "ev"; done)); (focus (exact rfl)); done)
  | refine ed_tup ?_ ?_ | refine ed_lst ?_ ?_
  | ((refine ed_lenL ?_); (walk_at "ev"); done) | ((refine ed_lenT ?_); (walk_at "ev"); done) | refine ed_lenS ?_ ?_
  | refine ed_abs ?_ | ((refine ed_intI ?_); (walk_at "ev"); done) | refine ed_intB ?_ | refine ed_isi ?_ ?_
  | ((refine ed_eqI ?_ ?_ <;> walk_at "ev"); done) | ((refine ed_eqS ?_ ?_ <;> walk_at "ev"); done) | refine ed_neS ?_ ?_
  | refine ed_eqD ?_ ?_ ?_ ?_ | refine ed_neD ?_ ?_ ?_ ?_ | refine ed_ltD ?_ ?_ ?_ ?_ ?_
  | refine ed_isN ?_ | refine ed_notN ?_
  | refine ed_chain ?_ ?_ ?_ | refine ed_not ?_ | refine ed_and ?_ ?_ | refine ed_or ?_ ?_
  | refine ed_catS ?_ ?_ ?_ | refine ed_catT ?_ ?_ ?_
  | refine etk_D ?_ | refine etk_DB ?_ | refine etk_not ?_ | refine etk_and ?_ ?_ | refine etk_or ?_ ?_
  | exact rfl | assumption | omega | refine (fun (_ : _ = true) => ?_) | refine (fun (_ : _ = false) => ?_))
local macro_rules | `(tactic| walk_at "ev") => `(tactic| (walk_at "evs" <;> (try walk_at "ev")))

def pl (p : Nat × Wrd) : Nat × Str := (p.1, p.2.s)
def qD (p : Nat × Str) : PD := pair2 (.int (p.1 : Nat)) (.str p.2)
theorem qD_pl {ws : List (Nat × Wrd)} : (ws.map pl).map qD = ws.map placedD := by rw [List.map_map]; rfl
inductive OutQ where
  | ok (a : Asks) (S2 : List Step)
  | bad (n : Int)
def r00 : RS := ⟨[], [], true⟩
/-- how a question's words are read -/
inductive Parse (ss : List Int) (len : Int) : List (Nat × Str) → OutQ → Prop
  | share {p0 : Nat} {ws : List (Nat × Wrd)} {S1 : List Step} {f : Row → Bool} : runE true len ws r00 0 = some (.ok S1 ws.length) → (∀ p ∈ ws, ∀ t, p.2 = some t → t.ok ss) → Parse ss len ((p0, "share") :: ws.map pl) (.ok (.share S1 f) [.atom .yes])
  | shareBad {p0 : Nat} {ws : List (Nat × Wrd)} {n : Int} : runE true len ws r00 0 = some (.bad n) → (∀ p ∈ ws, ∀ t, p.2 = some t → t.ok ss) → Parse ss len ((p0, "share") :: ws.map pl) (.bad n)
  | two {p0 p : Nat} {w1 w2 : List (Nat × Wrd)} {S1 S2 : List Step} {f : Row → Bool} {n : Nat} : runE true len (w1 ++ (p, none) :: w2) r00 0 = some (.ok S1 w1.length) → (∀ p ∈ w1 ++ w2, ∀ t, p.2 = some t → t.ok ss) → runE false len w2 r00 0 = some (.ok S2 n) → Parse ss len ((p0, "share") :: (w1 ++ (p, none) :: w2).map pl) (.ok (.share S1 f) S2)
  | twoBad {p0 p : Nat} {w1 w2 : List (Nat × Wrd)} {S1 : List Step} {n : Int} : runE true len (w1 ++ (p, none) :: w2) r00 0 = some (.ok S1 w1.length) → (∀ p ∈ w1 ++ w2, ∀ t, p.2 = some t → t.ok ss) → runE false len w2 r00 0 = some (.bad n) → Parse ss len ((p0, "share") :: (w1 ++ (p, none) :: w2).map pl) (.bad n)
  | mean {p0 p1 p2 k : Nat} {w2 : List (Nat × Wrd)} {S2 : List Step} {n : Nat} : k < ss.length → k < 4 → (∀ p ∈ w2, ∀ t, p.2 = some t → t.ok ss) → runE false len w2 r00 0 = some (.ok S2 n) → Parse ss len ((p0, "mean") :: (p1, S [99, 48 + k]) :: (p2, "if") :: w2.map pl) (.ok (.mean k) S2)
  | meanBad {p0 p1 p2 k : Nat} {w2 : List (Nat × Wrd)} {n : Int} : k < ss.length → k < 4 → (∀ p ∈ w2, ∀ t, p.2 = some t → t.ok ss) → runE false len w2 r00 0 = some (.bad n) → Parse ss len ((p0, "mean") :: (p1, S [99, 48 + k]) :: (p2, "if") :: w2.map pl) (.bad n)
section
variable {P : Program} {w : World} {K : PySem.W.Frag} {mg : Str → Option Value} {base : Heap} {σ : L2.St} {H H' : Hp} {ta tb te : TE}
theorem ed_slFrom {ds : List PD} {tl : TE} {n : Nat} (h : EvD K te σ H (.list ds)) (h1 : EvD K tl σ H (.int (n : Nat))) : EvD K (tSl (rSlL K) te (tPart tl) tNoPart) σ H (.list (ds.drop n)) := (ed_sl h (eo_D h1) eo_none).is (by
  rw [HT.sIx_nat, HT.sIx_none]
  congr 1
  by_cases hn : n ≤ ds.length
  · rw [Nat.min_eq_left hn, List.take_of_length_le (by rw [List.length_drop]; omega)]
  · rw [Nat.min_eq_right (by omega), List.drop_of_length_le (Nat.le_refl _), List.drop_of_length_le (by omega)]
    simp)
theorem re_run {tt : TA} {W : WX} {ss : List Int} {ws : List (Nat × Wrd)} {len : Int} {first : Bool} {out : Out} {Q : VK} (h : EvDs K tt σ H [tI ss, .list (ws.map placedD), .int len, .bool first]) (hss : okSizes ss) (hl : ws.length ≤ 40000) (ht : ∀ p ∈ ws, ∀ t, p.2 = some t → t.ok ss) (hrun : runE first len ws r00 0 = some out)
    (k : match out with | .ok st n => ∀ v H', Ex H H' → Dp K H' v (.tuple [.list (st.map Step.d), .int (n : Nat)]) → Q v H' | .bad n => BadE K H n (WE W σ)) : tCallS (sp_re K) (WE W) tt σ H Q := by
  refine h H (Ex.refl H) _ fun vs H1 e1 hv => ?_
  obtain ⟨v0, vs1, rfl, hv0, hv⟩ : ∃ v0 vs1, vs = v0 :: vs1 ∧ Dp K H1 v0 (tI ss) ∧ DpAll K H1 vs1 [.list (ws.map placedD), .int len, .bool first] := by cases hv with | cons a b => exact ⟨_, _, rfl, a, b⟩
  obtain ⟨v1, v2, v3, rfl, hv1, hv2, hv3⟩ := hv.three_inv
  refine ⟨v0, v1, ss, ws, len, first, out, by rw [hv2.int_inv, hv3.bl_inv], hv0, hss, hv1, hl, ht, hrun, ?_⟩
  cases out with
  | ok st n => exact fun v H' e hv => k v H' (e1.trans e) hv
  | bad n => exact BadE.ex e1 k
def sp_rq (K : PySem.W.Frag) : Sp := fun vs H Q E => ∃ (x : V) (ss : List Int) (cs : List Nat) (items : List (Nat × Nat)) (words : List (Nat × Str)) (out : OutQ), vs = [x, .str (S cs)] ∧ Dp K H x (tI ss) ∧ okSizes ss ∧ cs.length ≤ 99999 ∧ Seg cs 0 items ∧ items.map (wordD cs) = words.map qD ∧ words.length ≤ 40000 ∧ Parse ss (cs.length : Nat) words out ∧
  (match out with
  | .ok a S2 => ∀ v H', Ex H H' → Dp K H' v (a.qd S2) → Q v H'
  | .bad n => BadE K H n E)
theorem sc_read_question : FnScope ["sizes", "text", "words", "kind", "steps", "many", "rest", "column"] ["sizes", "text"] (defScope (top 40)) := ⟨rfl, rfl, rfl, by decide +kernel, rfl, by decide +kernel, by decide +kernel⟩
theorem ok_read_question (C : W0 P w K mg base) : ClX P w K mg base 7 "read_question" ["sizes", "text"] (sp_rq K) := by
  have o_column_of := ok_column_of C
  have o_read_expression := ok_read_expression C
  have o_words_of := ok_words_of C
  refine ClX.of C.f_read_question C.g_read_question sc_read_question (fun _ _ _ _ _ _ us hl => match us, hl with | [_, _], _ => rfl) (fun vs H Q E h => by obtain ⟨x, ss, cs, items, words, out, rfl, _⟩ := h; rfl) fun cdv A outer s H vs Q E hr h => ?_
  obtain ⟨x, ss, cs, items, words, out, rfl, h0, hss, hcl, hseg, hitems, hwl, hpar, k⟩ := h
  refine ⟨_, (pss_cons (ps_if (pt_not (pt_val (pe_isi (Tn := "str") C.n_isinstance C.n_str (pv 1)))) (pss_one (ps_raise rfl (takes_of rfl rfl rfl rfl) (pmk_bt C (hr.mono (by decide)) (pa_cons (pe_un un_neg pe_int) pa_nil)))) pss_nil)
      (pss_cons (ps_set (i := 2) sc_read_question.nd rfl (Or.inl rfl) (pe_cl o_words_of hr (by decide) rfl (pa_cons (pv 1) pa_nil)))
      (pss_cons (ps_if (pt_cmpR op_eq (pe_callB call_len_seq (by rfl) C.n_len (by decide +kernel) (pa_cons (pv 2) pa_nil)) pe_int (nomark _)) (pss_one (ps_raise rfl (takes_of rfl rfl rfl rfl) (pmk_bt C (hr.mono (by decide)) (pa_cons (pe_callB call_len_str (by rfl) C.n_len (by decide +kernel) (pa_cons (pv 1) pa_nil)) pa_nil)))) pss_nil)
      (pss_cons (ps_set (i := 3) sc_read_question.nd rfl (Or.inl rfl) (pe_ix ix_tup (pe_ix ix_list (pv 2) pe_int (fun _ _ => rfl)) pe_int (fun _ _ => rfl)))
      (pss_cons (ps_if (pt_cmpR op_eq (pv 3) pe_str (nomark _)) (pss_cons (ps_asg (pe_clX o_read_expression hr (by decide) rfl (takes_of rfl rfl rfl rfl) (pa_cons (pv 0) (pa_cons (pe_slice sl_list (pv 2) (po_some pe_int) po_none) (pa_cons (pe_callB call_len_str (by rfl) C.n_len (by decide +kernel) (pa_cons (pv 1) pa_nil)) (pa_cons pe_bl pa_nil))))) (pg_tup rfl (pgs_cons (pg_name (i := 4) sc_read_question.nd rfl (Or.inl rfl)) (pgs_cons (pg_name (i := 5) sc_read_question.nd rfl (Or.inl rfl)) pgs_nil))))
      (pss_cons (ps_set (i := 6) sc_read_question.nd rfl (Or.inl rfl) (pe_slice sl_list (pv 2) (po_some (pe_op op_add pe_int (pv 5))) po_none))
      (pss_one (ps_ret (pe_tup (pa_cons (pv 3) (pa_cons (pv 4) (pa_cons (pe_ifExp (pt_cmpR op_gt (pe_callB call_len_seq (by rfl) C.n_len (by decide +kernel) (pa_cons (pv 6) pa_nil)) pe_int (nomark _)) (pe_ix ix_tup (pe_clX o_read_expression hr (by decide) rfl (takes_of rfl rfl rfl rfl) (pa_cons (pv 0) (pa_cons (pe_slice sl_list (pv 6) (po_some pe_int) po_none) (pa_cons (pe_callB call_len_str (by rfl) C.n_len (by decide +kernel) (pa_cons (pv 1) pa_nil)) (pa_cons pe_bl pa_nil))))) pe_int (fun _ _ => rfl)) (pe_lst (pa_cons (pe_tup (pa_cons pe_str pa_nil)) pa_nil))) pa_nil)))))))) pss_nil)
      (pss_cons (ps_if (pt_cmpR op_ne (pv 3) pe_str (nomark _)) (pss_one (ps_raise rfl (takes_of rfl rfl rfl rfl) (pmk_bt C (hr.mono (by decide)) (pa_cons (pe_ix ix_tup (pe_ix ix_list (pv 2) pe_int (fun _ _ => rfl)) pe_int (fun _ _ => rfl)) pa_nil)))) pss_nil)
      (pss_cons (ps_if (pt_cmpR op_lt (pe_callB call_len_seq (by rfl) C.n_len (by decide +kernel) (pa_cons (pv 2) pa_nil)) pe_int (nomark _)) (pss_one (ps_raise rfl (takes_of rfl rfl rfl rfl) (pmk_bt C (hr.mono (by decide)) (pa_cons (pe_callB call_len_str (by rfl) C.n_len (by decide +kernel) (pa_cons (pv 1) pa_nil)) pa_nil)))) pss_nil)
      (pss_cons (ps_set (i := 7) sc_read_question.nd rfl (Or.inl rfl) (pe_cl o_column_of hr (by decide) rfl (pa_cons (pv 0) (pa_cons (pe_ix ix_tup (pe_ix ix_list (pv 2) pe_int (fun _ _ => rfl)) pe_int (fun _ _ => rfl)) (pa_cons pe_str pa_nil)))))
      (pss_cons (ps_if (pt_cmpR op_isN (pv 7) pe_non (nomark _)) (pss_one (ps_raise rfl (takes_of rfl rfl rfl rfl) (pmk_bt C (hr.mono (by decide)) (pa_cons (pe_ix ix_tup (pe_ix ix_list (pv 2) pe_int (fun _ _ => rfl)) pe_int (fun _ _ => rfl)) pa_nil)))) pss_nil)
      (pss_cons (ps_if (pt_cmpR op_lt (pe_callB call_len_seq (by rfl) C.n_len (by decide +kernel) (pa_cons (pv 2) pa_nil)) pe_int (nomark _)) (pss_one (ps_raise rfl (takes_of rfl rfl rfl rfl) (pmk_bt C (hr.mono (by decide)) (pa_cons (pe_callB call_len_str (by rfl) C.n_len (by decide +kernel) (pa_cons (pv 1) pa_nil)) pa_nil)))) pss_nil)
      (pss_cons (ps_if (pt_cmpR op_ne (pe_ix ix_tup (pe_ix ix_list (pv 2) pe_int (fun _ _ => rfl)) pe_int (fun _ _ => rfl)) pe_str (nomark _)) (pss_one (ps_raise rfl (takes_of rfl rfl rfl rfl) (pmk_bt C (hr.mono (by decide)) (pa_cons (pe_ix ix_tup (pe_ix ix_list (pv 2) pe_int (fun _ _ => rfl)) pe_int (fun _ _ => rfl)) pa_nil)))) pss_nil)
      (pss_one (ps_ret (pe_tup (pa_cons (pv 3) (pa_cons (pv 7) (pa_cons (pe_ix ix_tup (pe_clX o_read_expression hr (by decide) rfl (takes_of rfl rfl rfl rfl) (pa_cons (pv 0) (pa_cons (pe_slice sl_list (pv 2) (po_some pe_int) po_none) (pa_cons (pe_callB call_len_str (by rfl) C.n_len (by decide +kernel) (pa_cons (pv 1) pa_nil)) (pa_cons pe_bl pa_nil))))) pe_int (fun _ _ => rfl)) pa_nil))))))))))))))))), ?_⟩
  have hlS : (S cs).length ≤ 100000 := by rw [S_len]; omega
  refine kq_skip K (etk_not (a := true) (etk_D (ed_isi (d := .str (S cs)) (ed_var ⟨_, rfl, .str _⟩) k_ss))) fun H1 e1 => ?_
  have h0 := h0.ex e1
  refine qd_asg (K := K) (d := .list (words.map qD)) ((ed_call (eds_cons (ed_var ⟨_, rfl, .str _⟩) eds_nil) (pu_words_of hcl hseg)).is (by rw [hitems])) fun v2 H2 e2 h2 => ?_
  have h0 := h0.ex e2
  have e12 := e1.trans e2
  have hne : 0 < words.length := by cases hpar <;> simp
  refine kq_skip K (etk_D ((ed_eqI (i := ((words.map qD).length : Int)) (j := 0) (ed_lenL (ed_var ⟨_, rfl, h2⟩)) ed_int).is (by rw [List.length_map, decide_eq_false (by omega)]))) fun H3 e3 => ?_
  have h0 := h0.ex e3
  have h2 := h2.ex e3
  have e13 := e12.trans e3
  -- word i's text
  have wtext : ∀ {H : Hp} {σ : L2.St} (i : Nat) (p : Nat) (t : Str), words[i]? = some (p, t) → (∃ v, σ[2]? = some (some v) ∧ Dp K H v (.list (words.map qD))) → EvD K (tOp (rIxT K) (tOp (rIxL K) (tVar 2) (tC (.int (i : Nat)))) (tC (.int 1))) σ H (.str t) := fun i p t hw hv =>
    ed_ixT (ds := [.int (p : Nat), .str t]) (ed_ixL (d := qD (p, t)) (ed_var hv) ed_int (atI_nat (by rw [List.getElem?_map, hw]; rfl))) ed_int rfl
  have hfin : ∀ (a : Asks) (S2 : List Step), out = .ok a S2 → ∀ v H', Ex H3 H' → Dp K H' v (a.qd S2) → Q v H' := fun a S2 ho v H' e hv => by subst ho; exact k v H' (e13.trans e) hv
  have hbad : ∀ n, out = .bad n → BadE K H3 n E := fun n ho => by subst ho; exact BadE.ex e13 k
  clear k
  have lenE : ∀ {H : Hp} {σ : L2.St}, σ[1]? = some (some (.str (S cs))) → EvD K (tCB (fun xs H Q => ∃ z, xs = [.str z] ∧ z.length ≤ sizeLine ∧ Q (.int z.length) H) (tCons (tVar 1) tNil)) σ H (.int (cs.length : Nat)) := fun hs => (ed_lenS (ed_var ⟨_, hs, .str _⟩) hlS).is (by rw [S_len])
  cases hpar with
  | @mean p0 p1 p2 c w2 S2 n hk hk4 htok hrun =>
    refine qd_asg (K := K) (d := .str "mean") (wtext 0 p0 _ rfl ⟨_, rfl, h2⟩) fun v3 H4 e4 h3 => ?_
    have h3' := h3.str_inv
    subst h3'
    have h0 := h0.ex e4; have h2 := h2.ex e4
    refine kq_skip K (etk_D ((ed_eqS (ed_var ⟨_, rfl, .str _⟩) ed_str).is (congrArg PyData.bool (by decide)))) fun H5 e5 => ?_
    have h0 := h0.ex e5; have h2 := h2.ex e5
    refine kq_skip K (etk_D ((ed_neS (ed_var ⟨_, rfl, .str _⟩) ed_str).is (congrArg PyData.bool (by decide)))) fun H6 e6 => ?_
    have h0 := h0.ex e6; have h2 := h2.ex e6
    refine kq_skip K (etk_D ((ed_B0 (j := 2) (ed_lenL (ed_var ⟨_, rfl, h2⟩)) ed_int).is (by rw [decide_eq_false (by simp; omega)]))) fun H7 e7 => ?_
    have h0 := h0.ex e7; have h2 := h2.ex e7
    refine qd_asg (K := K) (d := .int (c : Nat)) (ed_call (eds_cons (ed_var ⟨_, rfl, h0⟩) (eds_cons (wtext 1 p1 _ rfl ⟨_, rfl, h2⟩) (eds_cons ed_str eds_nil))) (spD_pure (.hit (a := 99) hk hk4))) fun v7 H8 e8 h7 => ?_
    have h0 := h0.ex e8; have h2 := h2.ex e8
    have h7' := h7.int_inv
    subst h7'
    refine kq_skip K (etk_D (ed_isN (d := .int (c : Nat)) (ed_var ⟨_, rfl, .int _⟩))) fun H9 e9 => ?_
    have h0 := h0.ex e9; have h2 := h2.ex e9
    refine kq_skip K (etk_D ((ed_B0 (j := 3) (ed_lenL (ed_var ⟨_, rfl, h2⟩)) ed_int).is (by rw [decide_eq_false (by simp; omega)]))) fun H10 e10 => ?_
    have h0 := h0.ex e10; have h2 := h2.ex e10
    refine kq_skip K (etk_D ((ed_neS (wtext 2 p2 _ rfl ⟨_, rfl, h2⟩) ed_str).is (congrArg PyData.bool (by decide)))) fun H11 e11 => ?_
    have h0 := h0.ex e11; have h2 := h2.ex e11
    have e311 := ((((((e4.trans e5).trans e6).trans e7).trans e8).trans e9).trans e10).trans e11
    refine ⟨.str "mean", rfl, .int (c : Nat), rfl, ?_⟩
    refine re_run (W := fun cls d _ H => E cls d H) (eds_cons (ed_var ⟨_, rfl, h0⟩) (eds_cons (d := .list (w2.map placedD)) ((ed_slFrom (n := 3) (ed_var ⟨_, rfl, h2⟩) ed_int).is (by rw [← qD_pl]; rfl)) (eds_cons (lenE rfl) (eds_cons ed_bl eds_nil)))) hss (by simp at hwl; omega) htok hrun fun v H12 e12 hv => ?_
    obtain ⟨b, xs, rfl, hs, hx⟩ := hv.tup_inv
    obtain ⟨u1, u2, rfl, hu1, hu2⟩ := hx.two_inv
    refine ⟨b, _, 0, u1, rfl, rfl, hs, rfl, ?_⟩
    refine ⟨sz_of (by simp), fun p hp => hfin (.mean c) S2 rfl _ _ ((e311.trans e12).trans (Ex.new hp)) (.tup (st_of upd_same) (.cons (.str _) (.cons (.int _) (.cons (hu1.ex (Ex.new hp)) .nil))))⟩
  | @meanBad p0 p1 p2 c w2 n hk hk4 htok hrun =>
    refine qd_asg (K := K) (d := .str "mean") (wtext 0 p0 _ rfl ⟨_, rfl, h2⟩) fun v3 H4 e4 h3 => ?_
    have h3' := h3.str_inv
    subst h3'
    have h0 := h0.ex e4; have h2 := h2.ex e4
    refine kq_skip K (etk_D ((ed_eqS (ed_var ⟨_, rfl, .str _⟩) ed_str).is (congrArg PyData.bool (by decide)))) fun H5 e5 => ?_
    have h0 := h0.ex e5; have h2 := h2.ex e5
    refine kq_skip K (etk_D ((ed_neS (ed_var ⟨_, rfl, .str _⟩) ed_str).is (congrArg PyData.bool (by decide)))) fun H6 e6 => ?_
    have h0 := h0.ex e6; have h2 := h2.ex e6
    refine kq_skip K (etk_D ((ed_B0 (j := 2) (ed_lenL (ed_var ⟨_, rfl, h2⟩)) ed_int).is (by rw [decide_eq_false (by simp; omega)]))) fun H7 e7 => ?_
    have h0 := h0.ex e7; have h2 := h2.ex e7
    refine qd_asg (K := K) (d := .int (c : Nat)) (ed_call (eds_cons (ed_var ⟨_, rfl, h0⟩) (eds_cons (wtext 1 p1 _ rfl ⟨_, rfl, h2⟩) (eds_cons ed_str eds_nil))) (spD_pure (.hit (a := 99) hk hk4))) fun v7 H8 e8 h7 => ?_
    have h0 := h0.ex e8; have h2 := h2.ex e8
    have h7' := h7.int_inv
    subst h7'
    refine kq_skip K (etk_D (ed_isN (d := .int (c : Nat)) (ed_var ⟨_, rfl, .int _⟩))) fun H9 e9 => ?_
    have h0 := h0.ex e9; have h2 := h2.ex e9
    refine kq_skip K (etk_D ((ed_B0 (j := 3) (ed_lenL (ed_var ⟨_, rfl, h2⟩)) ed_int).is (by rw [decide_eq_false (by simp; omega)]))) fun H10 e10 => ?_
    have h0 := h0.ex e10; have h2 := h2.ex e10
    refine kq_skip K (etk_D ((ed_neS (wtext 2 p2 _ rfl ⟨_, rfl, h2⟩) ed_str).is (congrArg PyData.bool (by decide)))) fun H11 e11 => ?_
    have h0 := h0.ex e11; have h2 := h2.ex e11
    have e311 := ((((((e4.trans e5).trans e6).trans e7).trans e8).trans e9).trans e10).trans e11
    refine ⟨.str "mean", rfl, .int (c : Nat), rfl, ?_⟩
    exact re_run (W := fun cls d _ H => E cls d H) (eds_cons (ed_var ⟨_, rfl, h0⟩) (eds_cons (d := .list (w2.map placedD)) ((ed_slFrom (n := 3) (ed_var ⟨_, rfl, h2⟩) ed_int).is (by rw [← qD_pl]; rfl)) (eds_cons (lenE rfl) (eds_cons ed_bl eds_nil)))) hss (by simp at hwl; omega) htok hrun (BadE.ex e311 (hbad n rfl))
  | @share p0 ws S1 f hrun htok =>
    refine qd_asg (K := K) (d := .str "share") (wtext 0 p0 _ rfl ⟨_, rfl, h2⟩) fun v3 H4 e4 h3 => ?_
    have h3' := h3.str_inv
    subst h3'
    have h0 := h0.ex e4; have h2 := h2.ex e4
    refine kq_take K (etk_D ((ed_eqS (ed_var ⟨_, rfl, .str _⟩) ed_str).is (congrArg PyData.bool (by decide)))) fun H5 e5 => ?_
    have h0 := h0.ex e5; have h2 := h2.ex e5
    refine re_run (W := fun cls d _ H => E cls d H) (eds_cons (ed_var ⟨_, rfl, h0⟩) (eds_cons (d := .list (ws.map placedD)) ((ed_slFrom (n := 1) (ed_var ⟨_, rfl, h2⟩) ed_int).is (by rw [← qD_pl]; rfl)) (eds_cons (lenE rfl) (eds_cons ed_bl eds_nil)))) hss (by simp at hwl; omega) htok hrun fun v H6 e6 hv => ?_
    refine g_pair hv fun y1 y2 hy1 hy2 => ?_
    have h2 := h2.ex e6
    have hy2' := hy2.int_inv
    subst hy2'
    dsimp only
    refine qd_asg (K := K) (d := .list []) ((ed_slFrom (n := 1 + ws.length) (ed_var ⟨_, rfl, h2⟩) ((ed_I0 ed_int (ed_var (i := 5) ⟨_, rfl, .int _⟩)).is (by congr 1))).is (by rw [List.drop_of_length_le (by simp; omega)])) fun v6 H7 e7 h6 => ?_
    refine sd_ret (K := K) (d := .tuple [.str "share", .list (S1.map Step.d), .list [Atom.yes.step]]) (ed_tup (eds_cons (ed_var ⟨_, rfl, .str _⟩) (eds_cons (ed_var ⟨_, rfl, hy1.ex e7⟩) (eds_cons (ed_if (b := false) (etk_D (ed_B0 (i := 0) (j := 0) (ed_lenL (ds := []) (ed_var ⟨_, rfl, h6⟩)) ed_int)) (fun h => nomatch h) fun _ => ed_lst (eds_cons (ed_tup (eds_cons ed_str eds_nil) (by simp)) eds_nil) (by simp)) eds_nil))) (by simp)) fun v H8 e8 hv => hfin (.share S1 f) [.atom .yes] rfl v H8 ((((e4.trans e5).trans e6).trans e7).trans e8) hv
  | @shareBad p0 ws n hrun htok =>
    refine qd_asg (K := K) (d := .str "share") (wtext 0 p0 _ rfl ⟨_, rfl, h2⟩) fun v3 H4 e4 h3 => ?_
    have h3' := h3.str_inv
    subst h3'
    have h0 := h0.ex e4; have h2 := h2.ex e4
    refine kq_take K (etk_D ((ed_eqS (ed_var ⟨_, rfl, .str _⟩) ed_str).is (congrArg PyData.bool (by decide)))) fun H5 e5 => ?_
    have h0 := h0.ex e5; have h2 := h2.ex e5
    exact re_run (W := fun cls d _ H => E cls d H) (eds_cons (ed_var ⟨_, rfl, h0⟩) (eds_cons (d := .list (ws.map placedD)) ((ed_slFrom (n := 1) (ed_var ⟨_, rfl, h2⟩) ed_int).is (by rw [← qD_pl]; rfl)) (eds_cons (lenE rfl) (eds_cons ed_bl eds_nil)))) hss (by simp at hwl; omega) htok hrun (BadE.ex (e4.trans e5) (hbad n rfl))
  | @two p0 p w1 w2 S1 S2 f n hrun htok hrun2 =>
    have htok1 : ∀ q ∈ w1 ++ (p, none) :: w2, ∀ t, q.2 = some t → t.ok ss := fun q hq t ht => by
      rcases List.mem_append.mp hq with hq | hq
      · exact htok q (List.mem_append_left _ hq) t ht
      · rcases List.mem_cons.mp hq with rfl | hq
        · cases ht
        · exact htok q (List.mem_append_right _ hq) t ht
    refine qd_asg (K := K) (d := .str "share") (wtext 0 p0 _ rfl ⟨_, rfl, h2⟩) fun v3 H4 e4 h3 => ?_
    have h3' := h3.str_inv
    subst h3'
    have h0 := h0.ex e4; have h2 := h2.ex e4
    refine kq_take K (etk_D ((ed_eqS (ed_var ⟨_, rfl, .str _⟩) ed_str).is (congrArg PyData.bool (by decide)))) fun H5 e5 => ?_
    have h0 := h0.ex e5; have h2 := h2.ex e5
    refine re_run (W := fun cls d _ H => E cls d H) (eds_cons (ed_var ⟨_, rfl, h0⟩) (eds_cons (d := .list ((w1 ++ (p, none) :: w2).map placedD)) ((ed_slFrom (n := 1) (ed_var ⟨_, rfl, h2⟩) ed_int).is (by rw [← qD_pl]; rfl)) (eds_cons (lenE rfl) (eds_cons ed_bl eds_nil)))) hss (by simp at hwl ⊢; omega) htok1 hrun fun v H6 e6 hv => ?_
    refine g_pair hv fun y1 y2 hy1 hy2 => ?_
    have h0 := h0.ex e6; have h2 := h2.ex e6
    have hy2' := hy2.int_inv
    subst hy2'
    dsimp only
    refine qd_asg (K := K) (d := .list (((p, none) :: w2).map placedD)) ((ed_slFrom (n := 1 + w1.length) (ed_var ⟨_, rfl, h2⟩) ((ed_I0 ed_int (ed_var (i := 5) ⟨_, rfl, .int _⟩)).is (by congr 1))).is (by
      congr 1
      rw [Nat.add_comm, List.map_cons, List.drop_succ_cons, qD_pl, List.map_append, List.drop_append, List.length_map]
      simp)) fun v6 H7 e7 h6 => ?_
    have h0 := h0.ex e7
    have e47 := ((e4.trans e5).trans e6).trans e7
    refine ⟨.str "share", rfl, y1, rfl, ?_⟩
    show tIf _ _ _ _ H7 _
    have tst : EvTK K (tTest (tOp (rI0 fun i j => .bl (decide (j < i))) (tCB (fun xs H Q => ∃ p ys, xs = [.ref p] ∧ (SqL K H p ys ∨ SqT K H p ys) ∧ Q (.int ys.length) H) (tCons (tVar 6) tNil)) (tC (.int 0)))) [some x, some (.str (S cs)), some v2, some (.str "share"), some y1, some (.int (w1.length : Nat)), some v6, none] H7 true := etk_D ((ed_B0 (j := 0) (ed_lenL (ed_var ⟨_, rfl, h6⟩)) ed_int).is (by rw [decide_eq_true (by simp)]))
    refine tst H7 (Ex.refl _) _ fun H8 e8 => ?_
    refine re_run (W := fun cls d _ H => E cls d H) (eds_cons (ed_var ⟨_, rfl, h0.ex e8⟩) (eds_cons (d := .list (w2.map placedD)) ((ed_slFrom (n := 1) (ed_var ⟨_, rfl, h6.ex e8⟩) ed_int).is rfl) (eds_cons (lenE rfl) (eds_cons ed_bl eds_nil)))) hss (by simp at hwl; omega) (fun q hq t ht => htok q (List.mem_append_right _ hq) t ht) hrun2 fun v H9 e9 hv => ?_
    obtain ⟨b, xs, rfl, hs, hx⟩ := hv.tup_inv
    obtain ⟨u1, u2, rfl, hu1, hu2⟩ := hx.two_inv
    refine ⟨b, _, 0, u1, rfl, rfl, hs, rfl, ?_⟩
    refine ⟨sz_of (by simp), fun p' hp => hfin (.share S1 f) S2 rfl _ _ (((e47.trans e8).trans e9).trans (Ex.new hp)) (.tup (st_of upd_same) (.cons (.str _) (.cons (hy1.ex (((e7.trans e8).trans e9).trans (Ex.new hp))) (.cons (hu1.ex (Ex.new hp)) .nil))))⟩
  | @twoBad p0 p w1 w2 S1 n hrun htok hrun2 =>
    have htok1 : ∀ q ∈ w1 ++ (p, none) :: w2, ∀ t, q.2 = some t → t.ok ss := fun q hq t ht => by
      rcases List.mem_append.mp hq with hq | hq
      · exact htok q (List.mem_append_left _ hq) t ht
      · rcases List.mem_cons.mp hq with rfl | hq
        · cases ht
        · exact htok q (List.mem_append_right _ hq) t ht
    refine qd_asg (K := K) (d := .str "share") (wtext 0 p0 _ rfl ⟨_, rfl, h2⟩) fun v3 H4 e4 h3 => ?_
    have h3' := h3.str_inv
    subst h3'
    have h0 := h0.ex e4; have h2 := h2.ex e4
    refine kq_take K (etk_D ((ed_eqS (ed_var ⟨_, rfl, .str _⟩) ed_str).is (congrArg PyData.bool (by decide)))) fun H5 e5 => ?_
    have h0 := h0.ex e5; have h2 := h2.ex e5
    refine re_run (W := fun cls d _ H => E cls d H) (eds_cons (ed_var ⟨_, rfl, h0⟩) (eds_cons (d := .list ((w1 ++ (p, none) :: w2).map placedD)) ((ed_slFrom (n := 1) (ed_var ⟨_, rfl, h2⟩) ed_int).is (by rw [← qD_pl]; rfl)) (eds_cons (lenE rfl) (eds_cons ed_bl eds_nil)))) hss (by simp at hwl ⊢; omega) htok1 hrun fun v H6 e6 hv => ?_
    refine g_pair hv fun y1 y2 hy1 hy2 => ?_
    have h0 := h0.ex e6; have h2 := h2.ex e6
    have hy2' := hy2.int_inv
    subst hy2'
    dsimp only
    refine qd_asg (K := K) (d := .list (((p, none) :: w2).map placedD)) ((ed_slFrom (n := 1 + w1.length) (ed_var ⟨_, rfl, h2⟩) ((ed_I0 ed_int (ed_var (i := 5) ⟨_, rfl, .int _⟩)).is (by congr 1))).is (by
      congr 1
      rw [Nat.add_comm, List.map_cons, List.drop_succ_cons, qD_pl, List.map_append, List.drop_append, List.length_map]
      simp)) fun v6 H7 e7 h6 => ?_
    have h0 := h0.ex e7
    have e47 := ((e4.trans e5).trans e6).trans e7
    refine ⟨.str "share", rfl, y1, rfl, ?_⟩
    show tIf _ _ _ _ H7 _
    have tst : EvTK K (tTest (tOp (rI0 fun i j => .bl (decide (j < i))) (tCB (fun xs H Q => ∃ p ys, xs = [.ref p] ∧ (SqL K H p ys ∨ SqT K H p ys) ∧ Q (.int ys.length) H) (tCons (tVar 6) tNil)) (tC (.int 0)))) [some x, some (.str (S cs)), some v2, some (.str "share"), some y1, some (.int (w1.length : Nat)), some v6, none] H7 true := etk_D ((ed_B0 (j := 0) (ed_lenL (ed_var ⟨_, rfl, h6⟩)) ed_int).is (by rw [decide_eq_true (by simp)]))
    refine tst H7 (Ex.refl _) _ fun H8 e8 => ?_
    exact re_run (W := fun cls d _ H => E cls d H) (eds_cons (ed_var ⟨_, rfl, h0.ex e8⟩) (eds_cons (d := .list (w2.map placedD)) ((ed_slFrom (n := 1) (ed_var ⟨_, rfl, h6.ex e8⟩) ed_int).is rfl) (eds_cons (lenE rfl) (eds_cons ed_bl eds_nil)))) hss (by simp at hwl; omega) (fun q hq t ht => htok q (List.mem_append_right _ hq) t ht) hrun2 (BadE.ex (e47.trans e8) (hbad n rfl))
end
end K61
end

section
set_option Elab.async false
set_option linter.all false
set_option maxRecDepth 100000
set_option maxHeartbeats 4000000
namespace K61
open PySem PySem.Spec PyProof.Rows L2 Evl RZ SX
local macro_rules | `(tactic| walk_at "evs") => `(tactic| first
  | exact ed_int | exact ed_str | exact ed_bl | exact ed_non
  | exact ed_var ⟨_, rfl, by first | assumption | exact .int _ | exact .str _ | exact .bl _ | exact .non⟩
  | exact ed_top (W0.t_ZERO (by assumption)) | exact ed_top (W0.t_ONE (by assumption))
  | refine ed_I0 ?_ ?_ | refine ed_B0 ?_ ?_ | refine ed_I ?_ ?_ ?_
  | refine ed_call ?_ ?_ | refine eds_cons ?_ ?_ | exact eds_nil
  | ((apply ed_ixT); (focus (walk_at "ev"; done)); (focus (walk_at "ev"; done)); (focus (exact rfl)); done)
  | ((apply ed_ixL); (focus (walk_at "ev"; done)); (focus (walk_at "ev"; done)); (focus (exact rfl)); done)
  | refine ed_tup ?_ ?_ | refine ed_lst ?_ ?_
  | ((refine ed_lenL ?_); (walk_at "ev"); done) | ((refine ed_lenT ?_); (walk_at "ev"); done) | refine ed_lenS ?_ ?_
  | refine ed_abs ?_ | ((refine ed_intI ?_); (walk_at "ev"); done) | refine ed_intB ?_ | refine ed_isi ?_ ?_
  | ((refine ed_eqI ?_ ?_ <;> walk_at "ev"); done) | ((refine ed_eqS ?_ ?_ <;> walk_at "ev"); done) | refine ed_neS ?_ ?_
  | refine ed_eqD ?_ ?_ ?_ ?_ | refine ed_neD ?_ ?_ ?_ ?_ | refine ed_ltD ?_ ?_ ?_ ?_ ?_
  | refine ed_isN ?_ | refine ed_notN ?_
  | refine ed_chain ?_ ?_ ?_ | refine ed_not ?_ | refine ed_and ?_ ?_ | refine ed_or ?_ ?_
  | refine ed_catS ?_ ?_ ?_ | refine ed_catT ?_ ?_ ?_
  | refine etk_D ?_ | refine etk_DB ?_ | refine etk_not ?_ | refine etk_and ?_ ?_ | refine etk_or ?_ ?_
  | exact rfl | assumption | omega | refine (fun (_ : _ = true) => ?_) | refine (fun (_ : _ = false) => ?_))
local macro_rules | `(tactic| walk_at "ev") => `(tactic| (walk_at "evs" <;> (try walk_at "ev")))

section
variable {P : Program} {w : World} {K : PySem.W.Frag} {mg : Str → Option Value} {base : Heap} {σ : L2.St} {H H' : Hp} {ta tb te : TE} {a : Addr} {x y : V}
theorem WholeAt.ex (e : Ex H H') (h : WholeAt K H a x y) : WholeAt K H' a x y := let ⟨dx, h⟩ := h; ⟨dx, e _ _ h⟩
theorem whole_f {f : Str} {v : V} {i : Nat} (C : W0 P w K mg base) (hs : σ[i]? = some (some (.ref a))) (h : WholeAt K H a x y) (n : NoAttr K (He.ga K "Whole") f) (hl : (putF "shares" y (putF "sizes" x [])).lookup f = some v) : Ev (tFld K (tVar i) f) σ H v := by
  obtain ⟨dx, h⟩ := h
  exact ev_fld hs h C.cls_Whole n hl
theorem ev_shares {i : Nat} (C : W0 P w K mg base) (hs : σ[i]? = some (some (.ref a))) (h : WholeAt K H a x y) : Ev (tFld K (tVar i) "shares") σ H y := whole_f C hs h C.na_Whole_shares (by rw [lookup_putF, if_pos rfl])
theorem ev_sizes {i : Nat} (C : W0 P w K mg base) (hs : σ[i]? = some (some (.ref a))) (h : WholeAt K H a x y) : Ev (tFld K (tVar i) "sizes") σ H x := whole_f C hs h C.na_Whole_sizes (by rw [lookup_putF, if_neg (by decide), lookup_putF, if_pos rfl])
/-! ### answer -/
def sp_answer (K : PySem.W.Frag) : Sp := fun vs H Q _ => ∃ (a : Addr) (x y q : V) (rows : List Row) (S2 : List Step) (f2 : Row → Bool) (ask : Asks), vs = [.ref a, q] ∧ WholeAt K H a x y ∧ Dp K H y (.tuple (rows.map shareD)) ∧ Dp K H q (ask.qd S2) ∧ okAsk rows S2 f2 ask ∧ ∀ v H', Ex H H' → Dp K H' v (ansD (rows.filter f2) ask) → Q v H'
theorem sc_answer : FnScope ["whole", "question"] ["whole", "question"] (defScope (top 43)) := ⟨rfl, rfl, rfl, by decide +kernel, rfl, by decide +kernel, by decide +kernel⟩
theorem ok_answer (C : W0 P w K mg base) : Cl P w K mg base 6 "answer" ["whole", "question"] (sp_answer K) := by
  have o_answer_of := ok_answer_of C
  refine Cl.of C.f_answer C.g_answer sc_answer (fun _ _ _ _ _ _ us hl => match us, hl with | [_, _], _ => rfl) (fun vs H Q E h => by obtain ⟨a, x, y, q, rows, S2, f2, ask, rfl, _⟩ := h; rfl) fun cdv A outer s H vs Q E hr h => ?_
  obtain ⟨a, x, y, q, rows, S2, f2, ask, rfl, hw, hy, hq, hok, k⟩ := h
  refine ⟨_, (pss_one (ps_ret (pe_cl o_answer_of hr (by decide) rfl (pa_cons (pe_fld (pv 0) rfl) (pa_cons (pv 1) pa_nil))))), ?_⟩
  exact sd_ret (K := K) (ed_call (eds_cons (EvD.ev (ev_shares C rfl hw) hy) (eds_cons (ed_var ⟨_, rfl, hq⟩) eds_nil)) (spD_pure ⟨rows, S2, f2, ask, hok, rfl, rfl⟩)) fun v H1 e1 hv => k v H1 e1 hv
/-! ### asked -/
/-- what is told of a text -/
inductive Told where
  | told (d : PD)
  | bad (n : Int)
structure okText (ss : List Int) (rows : List Row) (cs : List Nat) (t : Told) : Prop where
  hs : okSizes ss
  n : cs.length ≤ 99999
  ex : ∃ (items : List (Nat × Nat)) (words : List (Nat × Str)) (out : OutQ), Seg cs 0 items ∧ items.map (wordD cs) = words.map qD ∧ words.length ≤ 40000 ∧ Parse ss (cs.length : Nat) words out ∧
    match out with
    | .ok ask S2 => ∃ f2, okAsk rows S2 f2 ask ∧ t = .told (ansD (rows.filter f2) ask)
    | .bad n => t = .bad n
theorem nest_run {sp : Sp} {E : L2.St → XK} {te : TE} {i : Nat} {Q : List V → Hp → Prop} (h : te σ H (fun x H1 => ∃ v, σ[i]? = some (some v) ∧ sp [x, v] H1 (fun r H2 => Q [r] H2) (E σ))) : tCons (tCallS sp E (tCons te (tCons (tVar i) tNil))) tNil σ H Q := h
def sp_asked (K : PySem.W.Frag) : Sp := fun vs H Q E => ∃ (a : Addr) (x y : V) (ss : List Int) (rows : List Row) (cs : List Nat) (t : Told), vs = [.ref a, .str (S cs)] ∧ WholeAt K H a x y ∧ Dp K H x (tI ss) ∧ Dp K H y (.tuple (rows.map shareD)) ∧ okText ss rows cs t ∧
  (match t with
  | .told d => ∀ v H', Ex H H' → Dp K H' v d → Q v H'
  | .bad n => BadE K H n E)
theorem sc_asked : FnScope ["whole", "text"] ["whole", "text"] (defScope (top 44)) := ⟨rfl, rfl, rfl, by decide +kernel, rfl, by decide +kernel, by decide +kernel⟩
theorem ok_asked (C : W0 P w K mg base) : ClX P w K mg base 8 "asked" ["whole", "text"] (sp_asked K) := by
  have o_answer := ok_answer C
  have o_read_question := ok_read_question C
  refine ClX.of C.f_asked C.g_asked sc_asked (fun _ _ _ _ _ _ us hl => match us, hl with | [_, _], _ => rfl) (fun vs H Q E h => by obtain ⟨a, x, y, ss, rows, cs, t, rfl, _⟩ := h; rfl) fun cdv A outer s H vs Q E hr h => ?_
  obtain ⟨a, x, y, ss, rows, cs, t, rfl, hw, hx, hy, ⟨hss, hcl, items, words, out, hseg, hit, hwl, hpar, hout⟩, k⟩ := h
  refine ⟨_, (pss_one (ps_ret (pe_cl o_answer hr (by decide) rfl (pa_cons (pv 0) (pa_cons (pe_clX o_read_question hr (by decide) rfl (takes_of rfl rfl rfl rfl) (pa_cons (pe_fld (pv 0) rfl) (pa_cons (pv 1) pa_nil))) pa_nil))))), ?_⟩
  refine ⟨.ref a, rfl, ?_⟩
  refine nest_run ?_
  refine (ev_sizes (σ := [some (.ref a), some (.str (S cs))]) (i := 0) C rfl hw) H (Ex.refl H) _ fun H1 e1 => ?_
  refine ⟨.str (S cs), rfl, ?_⟩
  refine ⟨x, ss, cs, items, words, out, rfl, hx.ex e1, hss, hcl, hseg, hit, hwl, hpar, ?_⟩
  cases out with
  | ok ask S2 =>
    obtain ⟨f2, hok, rfl⟩ := hout
    exact fun v H2 e2 hv => ⟨a, x, y, v, rows, S2, f2, ask, rfl, hw.ex (e1.trans e2), hy.ex (e1.trans e2), hv, hok, fun v' H3 e3 hv' => k v' H3 ((e1.trans e2).trans e3) hv'⟩
  | bad n =>
    subst hout
    exact BadE.ex e1 k
/-! ### _law_told -/
def Told.d : Told → PD
  | .told d => .tuple [.str "told", d]
  | .bad n => .tuple [.str "bad", .int n]
def sp_told (K : PySem.W.Frag) : Sp := fun vs H Q _ => ∃ (a : Addr) (x y : V) (ss : List Int) (rows : List Row) (cs : List Nat) (t : Told), vs = [.ref a, .str (S cs)] ∧ WholeAt K H a x y ∧ Dp K H x (tI ss) ∧ Dp K H y (.tuple (rows.map shareD)) ∧ okText ss rows cs t ∧ ∀ v H', Ex H H' → Dp K H' v t.d → Q v H'
theorem sc__law_told : FnScope ["_law_whole", "_law_text_here", "_law_answer", "e"] ["_law_whole", "_law_text_here"] (defScope (top 65)) := ⟨rfl, rfl, rfl, by decide +kernel, rfl, by decide +kernel, by decide +kernel⟩
theorem ok__law_told (C : W0 P w K mg base) : Cl P w K mg base 10 "_law_told" ["_law_whole", "_law_text_here"] (sp_told K) := by
  have o_asked := ok_asked C
  refine Cl.of C.f__law_told C.g__law_told sc__law_told (fun _ _ _ _ _ _ us hl => match us, hl with | [_, _], _ => rfl) (fun vs H Q E h => by obtain ⟨a, x, y, ss, rows, cs, t, rfl, _⟩ := h; rfl) fun cdv A outer s H vs Q E hr h => ?_
  obtain ⟨a, x, y, ss, rows, cs, t, rfl, hw, hx, hy, hok, k⟩ := h
  have hr1 : Room 8 _ := hr.mono (by decide)
  refine ⟨_, (pss_cons (ps_try_as (i := 3) (c := .ref (btC K)) (tb := fun W => tAsg (tCallS (sp_asked K) (WE W) (tCons (tVar 0) (tCons (tVar 1) tNil))) (gName 2)) (ts := fun a cls d => tRet (tTup (tCons (tC (.str "bad")) (tCons (tXf a cls d (btC K) "at" (tVar 3)) tNil)))) (Wout := fun _ _ _ _ => False) rfl rfl sc__law_told.nd rfl rfl ⟨rfl, by decide, Or.inl C.g_BadText⟩ takes0
        (fun W pn xe tk _ => pss_one (ps_set (i := 2) sc__law_told.nd rfl (Or.inl rfl) (by exact (pe_clX o_asked hr1 (Nat.le_refl _) rfl tk (pa_cons (pv 0) (pa_cons (pv 1) pa_nil))))))
        (fun a oe cls d pn hz hf => pss_one (ps_ret (by exact (pe_tup (pa_cons pe_str (pa_cons (pe_xf (xfB_ok C.exs.2.2.1) C.exs.2.2.2.1 hz hf (pv 3)) pa_nil)))))))
      (pss_one (ps_ret (pe_tup (pa_cons pe_str (pa_cons (pv 2) pa_nil)))))), ?_⟩
  refine ⟨.ref a, rfl, .str (S cs), rfl, a, x, y, ss, rows, cs, t, rfl, hw, hx, hy, hok, ?_⟩
  cases t with
  | told d =>
    intro v H1 e1 hv
    exact sd_ret (K := K) (d := .tuple [.str "told", d]) (ed_tup (eds_cons ed_str (eds_cons (ed_var ⟨_, rfl, hv⟩) eds_nil)) (by simp)) fun v H2 e2 hv => k v H2 (e1.trans e2) hv
  | bad n =>
    intro dd H1 e1 hdd
    refine ⟨true, C.exs.2.2.2.2.2.1, fun _ ae hae => ?_, fun h => nomatch h⟩
    refine ⟨.ref ae, rfl, rfl, rfl, dd, _, .int n, rfl, hdd, rfl, sz_of (by simp), fun p hp => k _ _ (e1.trans (Ex.new hp)) (.tup (st_of upd_same) (.cons (.str _) (.cons (.int _) .nil)))⟩
end
end K61
end

section
set_option Elab.async false
set_option linter.all false
set_option maxRecDepth 100000
set_option maxHeartbeats 4000000
/-! Kh: the hand: a dict that is written, told only as a valid one. -/
namespace K61
open PySem PySem.Spec PyProof.Rows L2 Evl RZ
section
variable {X : Cx} {pins : List (Addr × Obj)} {σ : L2.St} {H H' : Hp} {s : Shared}
/-- what is tracked is told otherwise -/
theorem inv_retrack (I : Inv X pins σ H s) (hn : ∀ b, H b = none → H' b = none) (ht : ∀ b xs, H b = some (.tup xs) → H' b = some (.tup xs)) (hf : ∀ b o u, H b = some (.frz o u) → H' b = some (.frz o u)) (hb : ∀ b ps, H b = some (.tbl ps) → H' b = some (.tbl ps)) (hok : HOk X.prog X.w H' s.heap) : Inv X pins σ H' s :=
  ⟨I.ok, I.os, I.bare, ⟨I.base.keep, I.base.slot, fun b o e n hx => hn b (I.base.free b o e n hx), I.base.there, fun b xs e => ht b xs (I.base.tups b xs e), fun b o u e => hf b o u (I.base.frzs b o u e), fun b ps e => by
    obtain ⟨more, h⟩ := I.base.tbls b ps e
    exact ⟨more, hb _ _ h⟩⟩, I.loc, I.cell, hn _ I.free, fun x c e => hn _ (I.freeC x c e), fun p hp => by
    obtain ⟨h1, h2, h3⟩ := I.pin p hp
    exact ⟨h1, hn _ h2, h3⟩, hok, I.len⟩
theorem pss_in {ss : List Stmt} {t : TS} (h : PSs X ss t) {Pre : Hp → Prop} {Op : Hp → Hp → Prop} (ho : ∀ (pins : List (Addr × Obj)) (σ : L2.St) (s : Shared) (H : Hp), Inv X pins σ H s → Pre H → ∃ H2, Inv X pins σ H2 s ∧ Op H H2) : PSs X ss (fun D σ H => Pre H ∧ ∀ H2, Op H H2 → t D σ H2) :=
  ⟨fun pins s σ H D I ⟨p, q⟩ => by
    obtain ⟨H2, I2, o⟩ := ho pins σ s H I p
    exact h.run pins s σ H2 D I2 (q H2 o)⟩
theorem pss_out {ss : List Stmt} {t : TS} (h : PSs X ss t) {Cl : Hp → Hp → Prop} (hc : ∀ (pins : List (Addr × Obj)) (σ : L2.St) (s : Shared) (H H2 : Hp), Inv X pins σ H s → Cl H H2 → Inv X pins σ H2 s) : PSs X ss (fun D σ H => t { nx := fun _ _ => False, rt := fun v H' => ∃ H2, Cl H' H2 ∧ D.rt v H2 } σ H) :=
  ⟨fun pins s σ H D I q => thn (h.run pins s σ H _ I q) fun f s' hs => by
    cases f with
    | next => obtain ⟨_, _, _, z⟩ := hs; exact z.elim
    | brk => obtain ⟨_, _, _, z⟩ := hs; exact z.elim
    | cont => obtain ⟨_, _, _, z⟩ := hs; exact z.elim
    | ret u =>
      obtain ⟨v, σ', H', I', r, H2, c, q⟩ := hs
      exact ⟨v, σ', H2, hc _ _ _ _ _ I' c, r, q⟩⟩
end
/-! ### the hand -/
def hkv (g sm : Addr) (s t : Int) : List (Key × V) := [(.inr "great", .ref g), (.inr "small", .ref sm), (.inr "sum", .int s), (.inr "turn", .int t)]
def dOk (P : Program) (w : World) (d g sm : Addr) (h : Heap) : Prop := ∃ s t : Int, (d == sysModules) = false ∧ ∃ vs, KV (hkv g sm s t) vs ∧ h.DictOf (mixKind P w) d vs
def gOk (g : Addr) (h : Heap) : Prop := ∃ (ns : List Int) (its : List Value) (n : Nat), ns.length ≤ 100 ∧ Vals (ns.map V.int) its ∧ h.get? g = some { cls := .type "list", data := .seq its.toArray n }
def DrO (P : Program) (w : World) (d g sm : Addr) : HO := .ext (dOk P w d g sm)
def GrO (g : Addr) : HO := .ext (gOk g)
/-- at d stands a valid hand -/
structure HandX (P : Program) (w : World) (H : Hp) (d g sm : Addr) (sms : List Int) : Prop where
  atd : H d = some (DrO P w d g sm)
  atg : H g = some (GrO g)
  ats : H sm = some (.lst (sms.map V.int))
  ne : d ≠ g
  l : sms ≠ [] ∧ sms.length ≤ 100
def Hand (P : Program) (w : World) (H : Hp) (d : Addr) : Prop := ∃ g sm sms, HandX P w H d g sm sms
section
variable {P : Program} {w : World} {K : PySem.W.Frag} {H H' G : Hp} {d g sm : Addr} {sms : List Int} {h : Heap}
theorem HandX.ds (x : HandX P w H d g sm sms) : d ≠ sm := fun z => by
  have h1 := x.atd
  rw [z, x.ats] at h1
  unfold DrO at h1
  cases h1
theorem HandX.gs (x : HandX P w H d g sm sms) : g ≠ sm := fun z => by
  have h1 := x.atg
  rw [z, x.ats] at h1
  unfold GrO at h1
  cases h1
theorem HandX.ex (e : Ex H H') (x : HandX P w H d g sm sms) : HandX P w H' d g sm sms := ⟨e _ _ x.atd, e _ _ x.atg, e _ _ x.ats, x.ne, x.l⟩
theorem Hand.ex (e : Ex H H') (x : Hand P w H d) : Hand P w H' d := let ⟨g, sm, sms, x⟩ := x; ⟨g, sm, sms, x.ex e⟩
/-- the hand's dict aside -/
theorem Hand.drop (x : Hand P w H d) : ∃ φ, H d = some (.ext φ) := let ⟨_, _, _, x⟩ := x; ⟨_, x.atd⟩
theorem dp_drop {φ : Heap → Prop} (hd : H d = some (.ext φ)) {v : V} {x : PD} (h : Dp K H v x) : Dp K (dropH H d) v x := by
  have rd : ∀ {a : Addr} {u : HO}, (∀ φ, u ≠ .ext φ) → Rd H a u → Rd (dropH H d) a u := fun {a u} hn h => by
    rcases h with h | ⟨o, h⟩
    · refine .inl ?_
      rw [dropH_ne (fun z => by rw [z, hd] at h; cases h; exact hn _ rfl)]
      exact h
    · refine .inr ⟨o, ?_⟩
      rw [dropH_ne (fun z => by rw [z, hd] at h; cases h)]
      exact h
  refine Dp.rec (motive_1 := fun v x _ => Dp K (dropH H d) v x) (motive_2 := fun vs xs _ => DpAll K (dropH H d) vs xs) .non (fun b => .bl b) (fun i => .int i) (fun x => .str x) (fun h _ r => ?_) (fun h _ r => ?_) .nil (fun _ _ a b => .cons a b) h
  · exact .lst (h.elim (fun h => .inl (rd (fun ps z => by cases z) h)) .inr) r
  · exact .tup (h.elim (fun h => .inl (rd (fun ps z => by cases z) h)) .inr) r
theorem dps_drop {φ : Heap → Prop} (hd : H d = some (.ext φ)) : ∀ {vs : List V} {xs : List PD}, DpAll K H vs xs → DpAll K (dropH H d) vs xs
  | _, _, .nil => .nil
  | _, _, .cons a b => .cons (dp_drop hd a) (dps_drop hd b)
/-- what G knows, with a hand beside it -/
theorem dropH_exG (e : Ex G H) (h : G d = none) : Ex G (dropH H d) := fun b o hb => by
  rw [dropH_ne (ne_of_none hb h)]
  exact e _ _ hb
theorem dOk_of {s t : Int} {P : Program} {w : World} {H : Hp} (x : ObjOk P w H h d (.dK (hkv g sm s t))) {H2 : Hp} : ObjOk P w H2 h d (DrO P w d g sm) := by
  obtain ⟨_, lo, vs, kv, dd⟩ := x
  refine ⟨⟨s, t, lo, vs, kv, dd⟩, ?_, ?_⟩
  · obtain ⟨o, _, _, e, _⟩ := dd
    exact ⟨o, e⟩
  · rintro ha hb ⟨s, t, a5, vs, kv, o, es, ep, e, r⟩ st
    exact ⟨s, t, a5, vs, kv, o, es, ep, st _ e, r⟩
theorem gOk_of {ns : List Int} (h2 : ns.length ≤ 100) {P : Program} {w : World} {H : Hp} (x : ObjOk P w H h g (.lst (ns.map V.int))) {H2 : Hp} : ObjOk P w H2 h g (GrO g) := by
  obtain ⟨_, its, n, r, e⟩ := x
  refine ⟨⟨ns, its, n, h2, r, e⟩, ⟨_, e⟩, ?_⟩
  rintro ha hb ⟨ns, its, n, a2, a3, a4⟩ st
  exact ⟨ns, its, n, a2, a3, st _ a4⟩
/-- the hand opened -/
structure Opened (H H2 : Hp) (d g sm : Addr) (gs : List Int) (s t : Int) : Prop where
  eq : H2 = upd (upd H g (.lst (gs.map V.int))) d (.dK (hkv g sm s t))
  gl : gs.length ≤ 100
theorem hand_open {X : Cx} {pins : List (Addr × Obj)} {σ : L2.St} {s : Shared} (I : Inv X pins σ H s) (x : HandX X.prog X.w H d g sm sms) : ∃ H2, Inv X pins σ H2 s ∧ ∃ gs s0 t, Opened H H2 d g sm gs s0 t := by
  obtain ⟨⟨s0, t, a5, vs, kv, dd⟩, _, _⟩ := I.hok d _ x.atd
  obtain ⟨⟨gs, its, m, b2, b3, b4⟩, _, _⟩ := I.hok g _ x.atg
  refine ⟨_, ?_, gs, s0, t, rfl, b2⟩
  have nd : ∀ {b u}, H b = some u → (∀ φ, u ≠ .ext φ) → b ≠ d ∧ b ≠ g := fun {b u} hb hu => ⟨fun z => by rw [z, x.atd] at hb; cases hb; exact hu _ rfl, fun z => by rw [z, x.atg] at hb; cases hb; exact hu _ rfl⟩
  have keep : ∀ {b u}, H b = some u → (∀ φ, u ≠ .ext φ) → upd (upd H g (.lst (gs.map V.int))) d (.dK (hkv g sm s0 t)) b = some u := fun {b u} hb hu => by
    obtain ⟨z1, z2⟩ := nd hb hu
    rw [upd_ne z1, upd_ne z2]
    exact hb
  refine inv_retrack I (fun b hb => ?_) (fun b xs hb => keep hb (fun _ z => by cases z)) (fun b o u hb => keep hb (fun _ z => by cases z)) (fun b ps hb => keep hb (fun _ z => by cases z)) fun b u hb => ?_
  · rw [upd_ne (fun z => by rw [z, x.atd] at hb; cases hb), upd_ne (fun z => by rw [z, x.atg] at hb; cases hb)]
    exact hb
  · by_cases z : b = d
    · subst z
      rw [upd_same] at hb
      cases hb
      exact ⟨by rw [sizeLine_eq]; simp [hkv], a5, vs, kv, dd⟩
    · rw [upd_ne z] at hb
      by_cases z2 : b = g
      · subst z2
        rw [upd_same] at hb
        cases hb
        exact ⟨by rw [List.length_map, sizeLine_eq]; omega, its, m, b3, b4⟩
      · rw [upd_ne z2] at hb
        exact (I.hok b u hb).stay (fun _ _ _ q => q) (fun c hc => keep hc (fun _ z => by cases z)) fun c xs hc => keep hc (fun _ z => by cases z)
/-- .. and closed -/
structure Closed (P : Program) (w : World) (H H2 : Hp) (d g sm : Addr) : Prop where
  ex : ∃ (gs : List Int) (s t : Int), H d = some (.dK (hkv g sm s t)) ∧ H g = some (.lst (gs.map V.int)) ∧ gs.length ≤ 100
  eq : H2 = upd (upd H g (GrO g)) d (DrO P w d g sm)
theorem hand_close {X : Cx} {pins : List (Addr × Obj)} {σ : L2.St} {s : Shared} {H2 : Hp} (I : Inv X pins σ H s) (x : Closed X.prog X.w H H2 d g sm) : Inv X pins σ H2 s := by
  obtain ⟨⟨gs, s0, t, hd, hg, b2⟩, rfl⟩ := x
  have nd : ∀ {b u}, H b = some u → (∀ kvs, u ≠ .dK kvs) → (∀ xs, u ≠ .lst xs) → b ≠ d ∧ b ≠ g := fun {b u} hb hu hv => ⟨fun z => by rw [z, hd] at hb; cases hb; exact hu _ rfl, fun z => by rw [z, hg] at hb; cases hb; exact hv _ rfl⟩
  have keep : ∀ {b u}, H b = some u → (∀ kvs, u ≠ .dK kvs) → (∀ xs, u ≠ .lst xs) → upd (upd H g (GrO g)) d (DrO X.prog X.w d g sm) b = some u := fun {b u} hb hu hv => by
    obtain ⟨z1, z2⟩ := nd hb hu hv
    rw [upd_ne z1, upd_ne z2]
    exact hb
  refine inv_retrack I (fun b hb => ?_) (fun b xs hb => keep hb (fun _ z => by cases z) (fun _ z => by cases z)) (fun b o u hb => keep hb (fun _ z => by cases z) (fun _ z => by cases z)) (fun b ps hb => keep hb (fun _ z => by cases z) (fun _ z => by cases z)) fun b u hb => ?_
  · rw [upd_ne (fun z => by rw [z, hd] at hb; cases hb), upd_ne (fun z => by rw [z, hg] at hb; cases hb)]
    exact hb
  · by_cases z : b = d
    · subst z
      rw [upd_same] at hb
      cases hb
      exact dOk_of (I.hok b _ hd)
    · rw [upd_ne z] at hb
      by_cases z2 : b = g
      · subst z2
        rw [upd_same] at hb
        cases hb
        exact gOk_of b2 (I.hok b _ hg)
      · rw [upd_ne z2] at hb
        exact (I.hok b u hb).stay (fun _ _ _ q => q) (fun c hc => keep hc (fun _ z => by cases z) (fun _ z => by cases z)) fun c xs hc => keep hc (fun _ z => by cases z) (fun _ z => by cases z)
end
end K61
end

section
set_option Elab.async false
set_option linter.all false
set_option maxRecDepth 100000
set_option maxHeartbeats 4000000
namespace K61
open PySem PySem.Spec PyProof.Rows L2 Evl RZ
local macro_rules | `(tactic| walk_at "evs") => `(tactic| first
  | exact ed_int | exact ed_str | exact ed_bl | exact ed_non
  | exact ed_var ⟨_, rfl, by first | assumption | exact .int _ | exact .str _ | exact .bl _ | exact .non⟩
  | exact ed_top (W0.t_ZERO (by assumption)) | exact ed_top (W0.t_ONE (by assumption))
  | refine ed_I0 ?_ ?_ | refine ed_B0 ?_ ?_ | refine ed_I ?_ ?_ ?_
  | refine ed_call ?_ ?_ | refine eds_cons ?_ ?_ | exact eds_nil
  | ((apply ed_ixT); (focus (walk_at "ev"; done)); (focus (walk_at "ev"; done)); (focus (exact rfl)); done)
  | ((apply ed_ixL); (focus (walk_at "ev"; done)); (focus (walk_at "ev"; done)); (focus (exact rfl)); done)
  | refine ed_tup ?_ ?_ | refine ed_lst ?_ ?_
  | ((refine ed_lenL ?_); (walk_at "ev"); done) | ((refine ed_lenT ?_); (walk_at "ev"); done) | refine ed_lenS ?_ ?_
  | refine ed_abs ?_ | ((refine ed_intI ?_); (walk_at "ev"); done) | refine ed_intB ?_ | refine ed_isi ?_ ?_
  | ((refine ed_eqI ?_ ?_ <;> walk_at "ev"); done) | ((refine ed_eqS ?_ ?_ <;> walk_at "ev"); done) | refine ed_neS ?_ ?_
  | refine ed_eqD ?_ ?_ ?_ ?_ | refine ed_neD ?_ ?_ ?_ ?_ | refine ed_ltD ?_ ?_ ?_ ?_ ?_
  | refine ed_isN ?_ | refine ed_notN ?_
  | refine ed_chain ?_ ?_ ?_ | refine ed_not ?_ | refine ed_and ?_ ?_ | refine ed_or ?_ ?_
  | refine ed_catS ?_ ?_ ?_ | refine ed_catT ?_ ?_ ?_
  | refine etk_D ?_ | refine etk_DB ?_ | refine etk_not ?_ | refine etk_and ?_ ?_ | refine etk_or ?_ ?_
  | exact rfl | assumption | omega | refine (fun (_ : _ = true) => ?_) | refine (fun (_ : _ = false) => ?_))
local macro_rules | `(tactic| walk_at "ev") => `(tactic| (walk_at "evs" <;> (try walk_at "ev")))

section
variable {P : Program} {w : World} {K : PySem.W.Frag} {mg : Str → Option Value} {base : Heap} {σ : L2.St} {H H' : Hp} {ta tb te : TE} {D : Ends}
theorem ev_dget {i : Nat} {d : Addr} {kvs : List (Key × V)} {k : Str} {v : V} (hs : σ[i]? = some (some (.ref d))) (h : H d = some (.dK kvs)) (hv : valV kvs (.inr k) = some v) : Ev (tDGet (tVar i) (tC (.str k))) σ H v := fun H1 e Q q =>
  ⟨_, hs, d, v, rfl, by have := DGet.k (k := Sum.inr k) (e _ _ h); rw [hv] at this; exact this, q H1 (Ex.refl H1)⟩
theorem put_turn {g sm : Addr} {s t t' : Int} : putK (hkv g sm s t) (.inr "turn") (.int t') = hkv g sm s t' := by rfl
theorem ed_op3 {g : Int → Int → Int} {i j : Int} (ha : EvD K ta σ H (.int i)) (hb : EvD K tb σ H (.int j)) (hc : CMul i j) (g1 : g = fun i j => i * j) : EvD K (tOp (rI CMul fun i j => .int (i * j)) ta tb) σ H (.int (i * j)) := ed_I ha hb hc
theorem cmul_l {i j : Int} (h : -(2 ^ 64) < i ∧ i < 2 ^ 64) : CMul i j := .inl h
theorem cmul_r {i j : Int} (h : -(2 ^ 64) < j ∧ j < 2 ^ 64) : CMul i j := .inr h
/-! ### _law_draw -/
def sp__law_draw (P : Program) (w : World) (K : PySem.W.Frag) : Sp := fun vs H Q _ => ∃ (d : Addr) (m : Int), vs = [.ref d, .int m] ∧ Hand P w H d ∧ 0 < m ∧ m < 2 ^ 5000 ∧ ∀ (r : Int) (H' : Hp), 0 ≤ r → r < m → Ex H H' → Q (.int r) H'
theorem sc__law_draw : FnScope ["_law_hand_here", "_law_many", "_law_number", "_law_turn", "_law_seed"] ["_law_hand_here", "_law_many"] (defScope (top 47)) := ⟨rfl, rfl, rfl, by decide +kernel, rfl, by decide +kernel, by decide +kernel⟩
theorem ok__law_draw (C : W0 P w K mg base) : Cl P w K mg base 1 "_law_draw" ["_law_hand_here", "_law_many"] (sp__law_draw P w K) := by
  refine Cl.of C.f__law_draw C.g__law_draw sc__law_draw (fun _ _ _ _ _ _ us hl => match us, hl with | [_, _], _ => rfl) (fun vs H Q E h => by obtain ⟨d, m, rfl, _⟩ := h; rfl) fun cdv A outer s H vs Q E hr h => ?_
  have hu := hu_of hr
  obtain ⟨d, m, rfl, ⟨g, sm, sms, hx⟩, hm, hm2, k⟩ := h
  have hcd : CDivW 0 m := wide_div (b := 5000) hm (by
    have e : ((2 : Int) ^ 5000) = ((2 ^ 5000 : Nat) : Int) := by norm_cast
    rw [e] at hm2
    omega) (by decide) (by decide)
  refine ⟨_, pss_in (Pre := fun H' => HandX P w H' d g sm sms) (Op := fun H H2 => ∃ gs s0 t, Opened H H2 d g sm gs s0 t) (pss_out (Cl := fun H H2 => Closed P w H H2 d g sm) ((pss_cons (ps_if (pt_cmpR op_gt (pe_callB call_len_seq (by rfl) C.n_len (by decide +kernel) (pa_cons (pe_dget hu (pv 0) pe_str (fun _ _ => rfl)) pa_nil)) pe_int (nomark _)) (pss_cons (ps_set (i := 2) sc__law_draw.nd rfl (Or.inl rfl) (pe_ix ix_list (pe_dget hu (pv 0) pe_str (fun _ _ => rfl)) pe_int (fun _ _ => rfl)))
      (pss_cons (ps_asg (pe_op op_fdivW (pv 2) (pv 1)) (pg_sub (pe_dget hu (pv 0) pe_str (fun _ _ => rfl)) pe_int set_list))
      (pss_cons (ps_if (pt_cmpR op_lt (pv 2) (pv 1) (nomark _)) (pss_one (ps_expr (pe_bm PySem.F.plainAttrs_list PySem.F.slot_list_pop PySem.F.type_list_pop mt_popAt (pe_dget hu (pv 0) pe_str (fun _ _ => rfl)) (pa_cons pe_int pa_nil)))) pss_nil)
      (pss_one (ps_ret (pe_op op_mod (pe_callTy call_int1 (by rfl) C.n_int (by decide +kernel) (pa_cons (pv 2) pa_nil)) (pv 1))))))) pss_nil)
      (pss_cons (ps_set (i := 3) sc__law_draw.nd rfl (Or.inl rfl) (pe_op op_add (pe_dget hu (pv 0) pe_str (fun _ _ => rfl)) pe_int))
      (pss_cons (ps_dput hu (pv 0) pe_str (pv 3) rfl)
      (pss_cons (ps_set (i := 4) sc__law_draw.nd rfl (Or.inl rfl) (pe_op op_add (pe_ix ix_list (pe_dget hu (pv 0) pe_str (fun _ _ => rfl)) (pe_op op_mod (pe_callTy call_int1 (by rfl) C.n_int (by decide +kernel) (pa_cons (pv 3) pa_nil)) (pe_callB call_len_seq (by rfl) C.n_len (by decide +kernel) (pa_cons (pe_dget hu (pv 0) pe_str (fun _ _ => rfl)) pa_nil))) (fun _ _ => rfl)) (pe_op op_mul pe_int (pe_dget hu (pv 0) pe_str (fun _ _ => rfl)))))
      (pss_cons (ps_set (i := 2) sc__law_draw.nd rfl (Or.inl rfl) (pe_op op_mod (pe_callTy call_int1 (by rfl) C.n_int (by decide +kernel) (pa_cons (pe_op op_mul (pe_op op_add (pe_op op_add (pv 4) (pe_op op_mul pe_int (pv 3))) pe_int) pe_int) pa_nil)) pe_int))
      (pss_cons (ps_set (i := 2) sc__law_draw.nd rfl (Or.inl rfl) (pe_op op_mod (pe_callTy call_int1 (by rfl) C.n_int (by decide +kernel) (pa_cons (pe_op op_mul (pv 2) (pe_op op_add (pe_op op_fdivW (pv 2) pe_int) pe_int)) pa_nil)) pe_int))
      (pss_cons (ps_set (i := 2) sc__law_draw.nd rfl (Or.inl rfl) (pe_op op_mod (pe_callTy call_int1 (by rfl) C.n_int (by decide +kernel) (pa_cons (pe_op op_add (pe_op op_mul (pv 2) (pe_op op_add (pe_op op_fdivW (pv 2) pe_int) pe_int)) (pv 3)) pa_nil)) pe_int))
      (pss_one (ps_ret (pe_op op_mod (pe_callTy call_int1 (by rfl) C.n_int (by decide +kernel) (pa_cons (pe_op op_fdivW (pv 2) pe_int) pa_nil)) (pv 1)))))))))))) (fun pins σ s H H2 I c => hand_close I c)) (fun pins σ s H I x => hand_open I x), hx, fun H2 ⟨gs, s0, t, hop⟩ => ?_⟩
  obtain ⟨rfl, hgl⟩ := hop
  -- what closes
  have fin : ∀ (H3 : Hp) (r : Int) (gs' : List Int) (s' t' : Int), 0 ≤ r → r < m → (∀ b o, b ≠ d → b ≠ g → H b = some o → H3 b = some o) → H3 d = some (.dK (hkv g sm s' t')) → H3 g = some (.lst (gs'.map V.int)) → gs'.length ≤ 100 → ∃ H4, Closed P w H3 H4 d g sm ∧ Q (.int r) H4 := by
    intro H3 r gs' s' t' h1 h2 hk hd hg hl
    refine ⟨_, ⟨⟨gs', s', t', hd, hg, hl⟩, rfl⟩, k r _ h1 h2 fun b o hb => ?_⟩
    by_cases z : b = d
    · rw [z, hx.atd] at hb
      rw [z, upd_same]
      exact hb
    · rw [upd_ne z]
      by_cases z2 : b = g
      · rw [z2, hx.atg] at hb
        rw [z2, upd_same]
        exact hb
      · rw [upd_ne z2]
        exact hk b o z z2 hb
  have hd0 : upd (upd H g (.lst (gs.map V.int))) d (.dK (hkv g sm s0 t)) d = some (.dK (hkv g sm s0 t)) := upd_same
  have hg0 : upd (upd H g (.lst (gs.map V.int))) d (.dK (hkv g sm s0 t)) g = some (.lst (gs.map V.int)) := by rw [upd_ne (Ne.symm hx.ne), upd_same]
  have hs0 : upd (upd H g (.lst (gs.map V.int))) d (.dK (hkv g sm s0 t)) sm = some (.lst (sms.map V.int)) := by rw [upd_ne (Ne.symm hx.ds), upd_ne (Ne.symm hx.gs)]; exact hx.ats
  have hk0 : ∀ b o, b ≠ d → b ≠ g → H b = some o → upd (upd H g (.lst (gs.map V.int))) d (.dK (hkv g sm s0 t)) b = some o := fun b o h1 h2 h => by rw [upd_ne h1, upd_ne h2]; exact h
  generalize upd (upd H g (.lst (gs.map V.int))) d (.dK (hkv g sm s0 t)) = H0 at hd0 hg0 hs0 hk0
  have great : ∀ {H1 : Hp} {σ : L2.St} {gs : List Int}, H1 d = some (.dK (hkv g sm s0 t)) → H1 g = some (.lst (gs.map V.int)) → σ[0]? = some (some (.ref d)) → EvD K (tDGet (tVar 0) (tC (.str "great"))) σ H1 (.list (gs.map PyData.int)) := fun h1 h2 hs => EvD.ev (ev_dget hs h1 (v := .ref g) rfl) (.lst (sq_of h2) dps_ints')
  cases gs with
  | cons x r =>
    refine kq_take K (etk_D ((ed_B0 (j := 0) (ed_lenL (great hd0 hg0 rfl)) ed_int).is (by rw [decide_eq_true (by simp)]))) fun H1 e1 => ?_
    have hd1 := e1 _ _ hd0; have hg1 := e1 _ _ hg0
    have hk1 : ∀ b o, b ≠ d → b ≠ g → H b = some o → H1 b = some o := fun b o a1 a2 a3 => e1 _ _ (hk0 b o a1 a2 a3)
    refine qd_asg (K := K) (d := .int x) (ed_ixL (ds := (x :: r).map PyData.int) (i := 0) (great hd1 hg1 rfl) ed_int (atI_nat (i := 0) rfl)) fun v2 H2 e2 h2 => ?_
    have h2' := h2.int_inv
    subst h2'
    have hd2 := e2 _ _ hd1; have hg2 := e2 _ _ hg1
    have hk2 : ∀ b o, b ≠ d → b ≠ g → H b = some o → H2 b = some o := fun b o a1 a2 a3 => e2 _ _ (hk1 b o a1 a2 a3)
    refine s_setL (D := { nx := _, rt := _ }) (l := g) (j := 0) (v := .int (x / m)) hg2 (EvD.int (K := K) (ed_I (g := fun i j => i / j) (ed_var ⟨_, rfl, .int _⟩) (ed_var ⟨_, rfl, .int _⟩) ⟨hcd.1, hcd.2⟩)) (ev_dget rfl hd2 (v := .ref g) rfl) (EvD.int (K := K) ed_int) (by simp) fun H3 e3 => ?_
    have eset : (List.map V.int (x :: r)).set 0 (.int (x / m)) = ((x / m) :: r).map V.int := by simp
    rw [eset]
    have hd3 : upd H3 g (.lst (((x / m) :: r).map V.int)) d = some (.dK (hkv g sm s0 t)) := by rw [upd_ne hx.ne]; exact e3 _ _ hd2
    have hk3 : ∀ b o, b ≠ d → b ≠ g → H b = some o → upd H3 g (.lst (((x / m) :: r).map V.int)) b = some o := fun b o a1 a2 a3 => by rw [upd_ne a2]; exact e3 _ _ (hk2 b o a1 a2 a3)
    have hg3 : upd H3 g (.lst (((x / m) :: r).map V.int)) g = some (.lst (((x / m) :: r).map V.int)) := upd_same
    generalize upd H3 g (.lst (((x / m) :: r).map V.int)) = H4 at hd3 hk3 hg3
    have hmod : ∀ (H5 : Hp) (gs' : List Int), H5 d = some (.dK (hkv g sm s0 t)) → H5 g = some (.lst (gs'.map V.int)) → gs'.length ≤ 100 → (∀ b o, b ≠ d → b ≠ g → H b = some o → H5 b = some o) → tRet (tOp (rI (fun _ j => 0 < j) fun i j => V.int (i % j)) (tCB (fun xs H Q => (∃ i, xs = [.int i] ∧ Q (.int i) H) ∨ ∃ k, xs = [.bl k] ∧ Q (.int (if k then 1 else 0)) H) (tCons (tVar 2) tNil)) (tVar 1)) { nx := fun _ _ => False, rt := fun v H' => ∃ H2, Closed P w H' H2 d g sm ∧ Q v H2 } [some (.ref d), some (.int m), some (.int x), none, none] H5 := by
      intro H5 gs' h1 h2 h3 h4
      refine sd_ret (K := K) (d := .int (x % m)) (ed_I (g := fun i j => i % j) (ed_intI (ed_var ⟨_, rfl, .int _⟩)) (ed_var ⟨_, rfl, .int _⟩) hm) fun v H6 e6 hv => ?_
      rw [hv.int_inv]
      exact fin H6 (x % m) gs' s0 t (Int.emod_nonneg _ (by omega)) (Int.emod_lt_of_pos _ hm) (fun b o a1 a2 a3 => e6 _ _ (h4 b o a1 a2 a3)) (e6 _ _ h1) (e6 _ _ h2) h3
    have hltm : EvTK K (tTest (tOp (rI0 fun i j => .bl (decide (i < j))) (tVar 2) (tVar 1))) [some (.ref d), some (.int m), some (.int x), none, none] H4 (decide (x < m)) := etk_D (ed_B0 (ed_var ⟨_, rfl, .int _⟩) (ed_var ⟨_, rfl, .int _⟩))
    dsimp only
    cases hb : decide (x < m) with
    | true =>
      refine kq_take K (hltm.is hb) fun H5 e5 => ?_
      refine ⟨_, rfl, d, .ref g, rfl, ?_, Or.inl ⟨rfl, _, sq_of (e5 _ _ hg3)⟩, g, _, 0, 0, .int (x / m), rfl, rfl, e5 _ _ hg3, by decide, by decide, by simp [seqIndex?], by simp, ?_⟩
      · have := DGet.k (k := Sum.inr ("great" : Str)) (e5 _ _ hd3)
        exact this
      · have ee : (((x / m) :: r).map V.int).eraseIdx 0 = r.map V.int := by simp
        rw [ee]
        exact hmod _ r (by rw [upd_ne hx.ne]; exact e5 _ _ hd3) upd_same (by simp at hgl; omega) fun b o a1 a2 a3 => by rw [upd_ne a2]; exact e5 _ _ (hk3 b o a1 a2 a3)
    | false =>
      refine kq_skip K (hltm.is hb) fun H5 e5 => ?_
      exact hmod H5 ((x / m) :: r) (e5 _ _ hd3) (e5 _ _ hg3) (by simp at hgl ⊢; omega) fun b o a1 a2 a3 => e5 _ _ (hk3 b o a1 a2 a3)
  | nil =>
    refine kq_skip K (etk_D ((ed_B0 (j := 0) (ed_lenL (great hd0 hg0 rfl)) ed_int).is (by rw [decide_eq_false (by simp)]))) fun H1 e1 => ?_
    have hd1 := e1 _ _ hd0; have hg1 := e1 _ _ hg0; have hs1 := e1 _ _ hs0
    have hk1 : ∀ b o, b ≠ d → b ≠ g → H b = some o → H1 b = some o := fun b o a1 a2 a3 => e1 _ _ (hk0 b o a1 a2 a3)
    refine qd_asg (K := K) (d := .int (t + 1)) (ed_I0 (EvD.ev (ev_dget rfl hd1 (v := .int t) rfl) (.int t)) ed_int) fun v3 H2 e2 h3 => ?_
    have h3' := h3.int_inv
    subst h3'
    have hd2 := e2 _ _ hd1; have hg2 := e2 _ _ hg1; have hs2 := e2 _ _ hs1
    have hk2 : ∀ b o, b ≠ d → b ≠ g → H b = some o → H2 b = some o := fun b o a1 a2 a3 => e2 _ _ (hk1 b o a1 a2 a3)
    refine ⟨_, rfl, _, rfl, d, _, rfl, DPut.k (k := Sum.inr ("turn" : Str)) hd2 (by rw [sizeLine_eq]; simp [hkv]), ?_⟩
    rw [put_turn]
    have hd3 : upd H2 d (.dK (hkv g sm s0 (t + 1))) d = some (.dK (hkv g sm s0 (t + 1))) := upd_same
    have hg3 : upd H2 d (.dK (hkv g sm s0 (t + 1))) g = some (.lst (([] : List Int).map V.int)) := by rw [upd_ne (Ne.symm hx.ne)]; exact hg2
    have hs3 : upd H2 d (.dK (hkv g sm s0 (t + 1))) sm = some (.lst (sms.map V.int)) := by rw [upd_ne (Ne.symm hx.ds)]; exact hs2
    have hk3 : ∀ b o, b ≠ d → b ≠ g → H b = some o → upd H2 d (.dK (hkv g sm s0 (t + 1))) b = some o := fun b o a1 a2 a3 => by rw [upd_ne a1]; exact hk2 b o a1 a2 a3
    generalize upd H2 d (.dK (hkv g sm s0 (t + 1))) = H3 at hd3 hg3 hs3 hk3
    dsimp only
    have hne : 0 < sms.length := List.length_pos_iff.mpr hx.l.1
    have small' : EvD K (tDGet (tVar 0) (tC (.str "small"))) [some (.ref d), some (.int m), none, some (.int (t + 1)), none] H3 (.list (sms.map PyData.int)) := EvD.ev (ev_dget rfl hd3 (v := .ref sm) rfl) (.lst (sq_of hs3) dps_ints')
    have hi0 : 0 ≤ (t + 1) % (sms.length : Int) := Int.emod_nonneg _ (by omega)
    have hi1 : (t + 1) % (sms.length : Int) < sms.length := Int.emod_lt_of_pos _ (by omega)
    obtain ⟨ix, hix⟩ : ∃ ix : Nat, (t + 1) % (sms.length : Int) = ix := ⟨((t + 1) % (sms.length : Int)).toNat, by omega⟩
    have hixl : ix < sms.length := by omega
    refine qd_asg (K := K) (d := .int (sms[ix] + 31 * s0)) (ed_I0 (ed_ixL (ds := sms.map PyData.int) (i := (ix : Int)) small' ((ed_I (g := fun i j => i % j) (ed_intI (ed_var ⟨_, rfl, .int _⟩)) (ed_lenL small') (by rw [List.length_map]; omega)).is (by rw [List.length_map, hix])) (atI_nat (by rw [List.getElem?_map, List.getElem?_eq_getElem hixl]; rfl))) (ed_I (g := fun i j => i * j) ed_int (EvD.ev (ev_dget rfl hd3 (v := .int s0) rfl) (.int s0)) (cmul_l (by decide)))) fun v4 H4 e4 h4 => ?_
    have h4' := h4.int_inv
    subst h4'
    generalize hsd : sms[ix] + 31 * s0 = seed
    refine qd_asg (K := K) (d := .int ((seed + 104729 * (t + 1) + 3) * 48271 % 2147483647)) (ed_I (g := fun i j => i % j) (ed_intI (ed_I (g := fun i j => i * j) (ed_I0 (ed_I0 (ed_var ⟨_, rfl, .int _⟩) (ed_I (g := fun i j => i * j) ed_int (ed_var ⟨_, rfl, .int _⟩) (cmul_l (by decide)))) ed_int) ed_int (cmul_r (by decide)))) ed_int (by decide)) fun v5 H5 e5 h5 => ?_
    have h5' := h5.int_inv
    subst h5'
    have b5 : 0 ≤ (seed + 104729 * (t + 1) + 3) * 48271 % 2147483647 ∧ (seed + 104729 * (t + 1) + 3) * 48271 % 2147483647 < 2147483647 := ⟨Int.emod_nonneg _ (by decide), Int.emod_lt_of_pos _ (by decide)⟩
    generalize (seed + 104729 * (t + 1) + 3) * 48271 % 2147483647 = n1 at b5
    refine qd_asg (K := K) (d := .int (n1 * (n1 / 1009 + 69621) % 2147483629)) (ed_I (g := fun i j => i % j) (ed_intI (ed_I (g := fun i j => i * j) (ed_var ⟨_, rfl, .int _⟩) (ed_I0 (ed_I (g := fun i j => i / j) (ed_var ⟨_, rfl, .int _⟩) ed_int ⟨by decide, by decide⟩) ed_int) (cmul_l (by omega)))) ed_int (by decide)) fun v6 H6 e6 h6 => ?_
    have h6' := h6.int_inv
    subst h6'
    have b6 : 0 ≤ n1 * (n1 / 1009 + 69621) % 2147483629 ∧ n1 * (n1 / 1009 + 69621) % 2147483629 < 2147483629 := ⟨Int.emod_nonneg _ (by decide), Int.emod_lt_of_pos _ (by decide)⟩
    generalize n1 * (n1 / 1009 + 69621) % 2147483629 = n2 at b6
    refine qd_asg (K := K) (d := .int ((n2 * (n2 / 2003 + 40692) + (t + 1)) % 2147483399)) (ed_I (g := fun i j => i % j) (ed_intI (ed_I0 (ed_I (g := fun i j => i * j) (ed_var ⟨_, rfl, .int _⟩) (ed_I0 (ed_I (g := fun i j => i / j) (ed_var ⟨_, rfl, .int _⟩) ed_int ⟨by decide, by decide⟩) ed_int) (cmul_l (by omega))) (ed_var ⟨_, rfl, .int _⟩))) ed_int (by decide)) fun v7 H7 e7 h7 => ?_
    have h7' := h7.int_inv
    subst h7'
    generalize (n2 * (n2 / 2003 + 40692) + (t + 1)) % 2147483399 = n3
    refine sd_ret (K := K) (d := .int (n3 / 64 % m)) (ed_I (g := fun i j => i % j) (ed_intI (ed_I (g := fun i j => i / j) (ed_var ⟨_, rfl, .int _⟩) ed_int ⟨by decide, by decide⟩)) (ed_var ⟨_, rfl, .int _⟩) hm) fun v8 H8 e8 hv => ?_
    rw [hv.int_inv]
    have e38 := (((e4.trans e5).trans e6).trans e7).trans e8
    exact fin H8 _ [] s0 (t + 1) (Int.emod_nonneg _ (by omega)) (Int.emod_lt_of_pos _ hm) (fun b o a1 a2 a3 => e38 _ _ (hk3 b o a1 a2 a3)) (e38 _ _ hd3) (e38 _ _ hg3) (by simp)
end
end K61
end

section
set_option Elab.async false
set_option linter.all false
set_option maxRecDepth 100000
set_option maxHeartbeats 4000000
/-! Kr: what an expression gives, told as one of a set of data. -/
namespace K61
open PySem PySem.Spec PyProof.Rows L2 Evl RZ
section
variable {P : Program} {w : World} {K : PySem.W.Frag} {σ : L2.St} {H H' : Hp} {ta tb tc te : TE} {t u : TT} {wi : TI} {α : Type}
def EvR (K : PySem.W.Frag) (te : TE) (σ : L2.St) (H : Hp) (R : PD → Prop) : Prop := ∀ H1, Ex H H1 → ∀ Q : VK, (∀ v H2 d, R d → Ex H1 H2 → Dp K H2 v d → Q v H2) → te σ H1 Q
def EvRs (K : PySem.W.Frag) (ta : TA) (σ : L2.St) (H : Hp) (R : List PD → Prop) : Prop := ∀ H1, Ex H H1 → ∀ Q : List V → Hp → Prop, (∀ vs H2 ds, R ds → Ex H1 H2 → DpAll K H2 vs ds → Q vs H2) → ta σ H1 Q
theorem er_D {d : PD} {R : PD → Prop} (h : EvD K te σ H d) (r : R d) : EvR K te σ H R := fun H1 e Q q => h H1 e Q fun v H2 e2 hv => q v H2 d r e2 hv
theorem EvR.mono {R : PD → Prop} (e : Ex H H') (h : EvR K te σ H R) : EvR K te σ H' R := fun H1 a Q q => h H1 (e.trans a) Q q
theorem EvR.imp {R R' : PD → Prop} (h : EvR K te σ H R) (r : ∀ d, R d → R' d) : EvR K te σ H R' := fun H1 a Q q => h H1 a Q fun v H2 d hd => q v H2 d (r d hd)
theorem ers_nil : EvRs K tNil σ H (fun ds => ds = []) := fun H1 _ Q q => q [] H1 [] rfl (Ex.refl H1) .nil
theorem ers_cons {tr : TA} {A : PD → Prop} {B : List PD → Prop} (h : EvR K te σ H A) (hr : EvRs K tr σ H B) : EvRs K (tCons te tr) σ H (fun ds => ∃ d es, ds = d :: es ∧ A d ∧ B es) := fun H1 e Q q =>
  h H1 e _ fun v H2 d hd e2 hv => hr H2 (e.trans e2) _ fun vs H3 es he e3 hvs => q _ H3 (d :: es) ⟨d, es, rfl, hd, he⟩ (e2.trans e3) (.cons (hv.ex e3) hvs)
theorem er_lst {tr : TA} {R : List PD → Prop} (h : EvRs K tr σ H R) (hl : ∀ ds, R ds → ds.length ≤ 100000) : EvR K (tLst tr) σ H (fun d => ∃ ds, d = .list ds ∧ R ds) := fun H1 e Q q =>
  h H1 e _ fun vs H2 ds hd e2 hvs => ⟨sz_of (by rw [hvs.length]; exact hl ds hd), fun p hp => q _ _ _ ⟨ds, rfl, hd⟩ (e2.trans (Ex.new hp)) (.lst (sq_of upd_same) (hvs.ex (Ex.new hp)))⟩
theorem er_op {r : R2} {A B R : PD → Prop} (ha : EvR K ta σ H A) (hb : EvR K tb σ H B) (hr : ∀ x y, A x → B y → ∀ H1, Ex H H1 → ∀ v w, Dp K H1 v x → Dp K H1 w y → ∀ Q : VK, (∀ u H2 z, R z → Ex H1 H2 → Dp K H2 u z → Q u H2) → r v w H1 Q) : EvR K (tOp r ta tb) σ H R := fun H1 e Q q =>
  ha H1 e _ fun v H2 x hx e2 hv => hb H2 (e.trans e2) _ fun w H3 y hy e3 hw => hr x y hx hy H3 ((e.trans e2).trans e3) v w (hv.ex e3) hw Q fun u H4 z hz e4 hu => q u H4 z hz ((e2.trans e3).trans e4) hu
/-- whole numbers of a set -/
def RI (A : Int → Prop) (d : PD) : Prop := ∃ i, d = .int i ∧ A i
def RS' (A : Str → Prop) (d : PD) : Prop := ∃ i, d = .str i ∧ A i
theorem er_I0 {g : Int → Int → Int} {A B R : Int → Prop} (ha : EvR K ta σ H (RI A)) (hb : EvR K tb σ H (RI B)) (h : ∀ i j, A i → B j → R (g i j)) : EvR K (tOp (rI0 fun i j => .int (g i j)) ta tb) σ H (RI R) :=
  er_op ha hb fun x y hx hy H1 _ v w hv hw Q q => by
    obtain ⟨i, rfl, hi⟩ := hx
    obtain ⟨j, rfl, hj⟩ := hy
    exact ⟨i, j, hv.int_inv, hw.int_inv, q _ H1 _ ⟨_, rfl, h i j hi hj⟩ (Ex.refl H1) (.int _)⟩
theorem er_catS {A B R : Str → Prop} (ha : EvR K ta σ H (RS' A)) (hb : EvR K tb σ H (RS' B)) (h : ∀ i j, A i → B j → i.length + j.length ≤ 100000 ∧ R (i ++ j)) : EvR K (tOp (fun x y H Q => ∃ i j, x = .str i ∧ y = .str j ∧ i.length + j.length ≤ sizeLine ∧ Q (.str (i ++ j)) H) ta tb) σ H (RS' R) :=
  er_op ha hb fun x y hx hy H1 _ v w hv hw Q q => by
    obtain ⟨i, rfl, hi⟩ := hx
    obtain ⟨j, rfl, hj⟩ := hy
    exact ⟨i, j, hv.str_inv, hw.str_inv, sz_of (h i j hi hj).1, q _ H1 _ ⟨_, rfl, (h i j hi hj).2⟩ (Ex.refl H1) (.str _)⟩
/-- any of a list -/
theorem er_ixL {L : List PD → Prop} {R : PD → Prop} {I : Int → Prop} (ha : EvR K ta σ H (fun d => ∃ ds, d = .list ds ∧ L ds)) (hb : EvR K tb σ H (RI I)) (h : ∀ ds i, L ds → I i → ∃ z, atI ds i = some z ∧ R z) : EvR K (tOp (rIxL K) ta tb) σ H R :=
  er_op ha hb fun x y hx hy H1 _ v w hv hw Q q => by
    obtain ⟨ds, rfl, hds⟩ := hx
    obtain ⟨j, rfl, hj⟩ := hy
    obtain ⟨z, hz, rz⟩ := h ds j hds hj
    obtain ⟨a, xs, rfl, hs, hx⟩ := hv.lst_inv
    obtain ⟨z', hz', hd⟩ := dp_at hx hz
    exact ⟨a, xs, j, z', rfl, hw.int_inv, hs, hz', q z' H1 z rz (Ex.refl H1) hd⟩
theorem er_ixT {L : List PD → Prop} {R : PD → Prop} {I : Int → Prop} (ha : EvR K ta σ H (fun d => ∃ ds, d = .tuple ds ∧ L ds)) (hb : EvR K tb σ H (RI I)) (h : ∀ ds i, L ds → I i → ∃ z, atI ds i = some z ∧ R z) : EvR K (tOp (rIxT K) ta tb) σ H R :=
  er_op ha hb fun x y hx hy H1 _ v w hv hw Q q => by
    obtain ⟨ds, rfl, hds⟩ := hx
    obtain ⟨j, rfl, hj⟩ := hy
    obtain ⟨z, hz, rz⟩ := h ds j hds hj
    obtain ⟨a, xs, rfl, hs, hx⟩ := hv.tup_inv
    obtain ⟨z', hz', hd⟩ := dp_at hx hz
    exact ⟨a, xs, j, z', rfl, hw.int_inv, hs, hz', q z' H1 z rz (Ex.refl H1) hd⟩
/-- a test whose answer nobody knows -/
def EvRT (K : PySem.W.Frag) (t : TT) (σ : L2.St) (H : Hp) : Prop := ∀ H1, Ex H H1 → ∀ Q : Bool → Hp → Prop, (∀ b H2, Ex H1 H2 → Q b H2) → t σ H1 Q
theorem ert_eqI {A B : Int → Prop} (ha : EvR K ta σ H (RI A)) (hb : EvR K tb σ H (RI B)) : EvRT K (tTest (tOp rEq ta tb)) σ H := fun H1 e Q q =>
  ha H1 e _ fun v H2 x hx e2 hv => hb H2 (e.trans e2) _ fun w H3 y hy e3 hw => by
    obtain ⟨i, rfl, _⟩ := hx
    obtain ⟨j, rfl, _⟩ := hy
    rw [hv.int_inv, hw.int_inv]
    exact ⟨rfl, _, rfl, q _ H3 (e2.trans e3)⟩
theorem er_if {R : PD → Prop} (h : EvRT K t σ H) (h1 : EvR K ta σ H R) (h2 : EvR K tb σ H R) : EvR K (tIf t ta tb) σ H R := fun H1 e Q q => h H1 e _ fun b H2 e2 => by
  cases b with
  | true =>
    show ta σ H2 Q
    exact h1 H2 (e.trans e2) Q fun v H3 d hd e3 => q v H3 d hd (e2.trans e3)
  | false =>
    show tb σ H2 Q
    exact h2 H2 (e.trans e2) Q fun v H3 d hd e3 => q v H3 d hd (e2.trans e3)
theorem er_ifK {R : PD → Prop} {b : Bool} (h : EvTK K t σ H b) (h1 : b = true → EvR K ta σ H R) (h2 : b = false → EvR K tb σ H R) : EvR K (tIf t ta tb) σ H R := fun H1 e Q q => h H1 e _ fun H2 e2 => by
  cases b with
  | true =>
    show ta σ H2 Q
    exact h1 rfl H2 (e.trans e2) Q fun v H3 d hd e3 => q v H3 d hd (e2.trans e3)
  | false =>
    show tb σ H2 Q
    exact h2 rfl H2 (e.trans e2) Q fun v H3 d hd e3 => q v H3 d hd (e2.trans e3)
/-! calls with the hand ahead -/
variable {sp : Sp} {E : XK} {hd : Addr}
theorem er_hand {i : Nat} {A R : PD → Prop} (hs : σ[i]? = some (some (.ref hd))) (hb : EvR K tb σ H A) (hsp : ∀ H1 v x, Ex H H1 → A x → Dp K H1 v x → ∀ Q, (∀ v' H2 y, R y → Ex H1 H2 → Dp K H2 v' y → Q v' H2) → sp [.ref hd, v] H1 Q E) : EvR K (tCall sp [] E (tCons (tVar i) (tCons tb tNil))) σ H R := fun H1 e Q q => by
  refine ⟨_, hs, hb H1 e _ fun v H2 x hx e2 hv => hsp H2 v x (e.trans e2) hx hv Q fun v' H3 y hy e3 hv' => q v' H3 y hy (e2.trans e3) hv'⟩
theorem er_hand1 {i : Nat} {R : PD → Prop} (hs : σ[i]? = some (some (.ref hd))) (hsp : ∀ H1, Ex H H1 → ∀ Q, (∀ v' H2 y, R y → Ex H1 H2 → Dp K H2 v' y → Q v' H2) → sp [.ref hd] H1 Q E) : EvR K (tCall sp [] E (tCons (tVar i) tNil)) σ H R := fun H1 e Q q => ⟨_, hs, hsp H1 e Q q⟩
variable {D : Ends} {tz : TS}
theorem sr_ret {R : PD → Prop} (h : EvR K te σ H R) (k : ∀ v H1 d, R d → Ex H H1 → Dp K H1 v d → D.rt v H1) : tRet te D σ H := h H (Ex.refl H) _ k
theorem qr_asg {i : Nat} {R : PD → Prop} (h : EvR K te σ H R) (k : ∀ v H1 d, R d → Ex H H1 → Dp K H1 v d → tz D (σ.set i (some v)) H1) : tSeq (tAsg te (gName i)) tz D σ H := h H (Ex.refl H) _ k
theorem sr_asg {i : Nat} {R : PD → Prop} (h : EvR K te σ H R) (k : ∀ v H1 d, R d → Ex H H1 → Dp K H1 v d → D.nx (σ.set i (some v)) H1) : tAsg te (gName i) D σ H := h H (Ex.refl H) _ k
theorem qd_par {i j : Nat} {d e : PD} {xs : TA} (h : EvDs K xs σ H [d, e]) (k : ∀ x y H1, Ex H H1 → Dp K H1 x d → Dp K H1 y e → tz D ((σ.set i (some x)).set j (some y)) H1) : tSeq (tPar i j xs) tz D σ H := h H (Ex.refl H) _ fun vs H1 e1 hv => by
  obtain ⟨x, y, rfl, hx, hy⟩ := hv.two_inv
  exact ⟨x, y, rfl, k x y H1 e1 hx hy⟩
theorem sd_par {i j : Nat} {d e : PD} {xs : TA} (h : EvDs K xs σ H [d, e]) (k : ∀ x y H1, Ex H H1 → Dp K H1 x d → Dp K H1 y e → D.nx ((σ.set i (some x)).set j (some y)) H1) : tPar i j xs D σ H := h H (Ex.refl H) _ fun vs H1 e1 hv => by
  obtain ⟨x, y, rfl, hx, hy⟩ := hv.two_inv
  exact ⟨x, y, rfl, k x y H1 e1 hx hy⟩
theorem qd_par3 {i j l : Nat} {d e f : PD} {xs : TA} (h : EvDs K xs σ H [d, e, f]) (k : ∀ x y z H1, Ex H H1 → Dp K H1 x d → Dp K H1 y e → Dp K H1 z f → tz D (((σ.set i (some x)).set j (some y)).set l (some z)) H1) : tSeq (tPar3 i j l xs) tz D σ H := h H (Ex.refl H) _ fun vs H1 e1 hv => by
  obtain ⟨x, y, z, rfl, hx, hy, hz⟩ := hv.three_inv
  exact ⟨x, y, z, rfl, k x y z H1 e1 hx hy hz⟩
end
end K61
end

section
set_option Elab.async false
set_option linter.all false
set_option maxRecDepth 100000
set_option maxHeartbeats 4000000
namespace K61
open PySem PySem.Spec PyProof.Rows L2 Evl RZ
local macro_rules | `(tactic| walk_at "evs") => `(tactic| first
  | exact ed_int | exact ed_str | exact ed_bl | exact ed_non
  | exact ed_var ⟨_, rfl, by first | assumption | exact .int _ | exact .str _ | exact .bl _ | exact .non⟩
  | exact ed_top (W0.t_ZERO (by assumption)) | exact ed_top (W0.t_ONE (by assumption))
  | refine ed_I0 ?_ ?_ | refine ed_B0 ?_ ?_ | refine ed_I ?_ ?_ ?_
  | refine ed_call ?_ ?_ | refine eds_cons ?_ ?_ | exact eds_nil
  | ((apply ed_ixT); (focus (walk_at "ev"; done)); (focus (walk_at "ev"; done)); (focus (exact rfl)); done)
  | ((apply ed_ixL); (focus (walk_at "ev"; done)); (focus (walk_at "ev"; done)); (focus (exact rfl)); done)
  | refine ed_tup ?_ ?_ | refine ed_lst ?_ ?_
  | ((refine ed_lenL ?_); (walk_at "ev"); done) | ((refine ed_lenT ?_); (walk_at "ev"); done) | refine ed_lenS ?_ ?_
  | refine ed_abs ?_ | ((refine ed_intI ?_); (walk_at "ev"); done) | refine ed_intB ?_ | refine ed_isi ?_ ?_
  | ((refine ed_eqI ?_ ?_ <;> walk_at "ev"); done) | ((refine ed_eqS ?_ ?_ <;> walk_at "ev"); done) | refine ed_neS ?_ ?_
  | refine ed_eqD ?_ ?_ ?_ ?_ | refine ed_neD ?_ ?_ ?_ ?_ | refine ed_ltD ?_ ?_ ?_ ?_ ?_
  | refine ed_isN ?_ | refine ed_notN ?_
  | refine ed_chain ?_ ?_ ?_ | refine ed_not ?_ | refine ed_and ?_ ?_ | refine ed_or ?_ ?_
  | refine ed_catS ?_ ?_ ?_ | refine ed_catT ?_ ?_ ?_
  | refine etk_D ?_ | refine etk_DB ?_ | refine etk_not ?_ | refine etk_and ?_ ?_ | refine etk_or ?_ ?_
  | exact rfl | assumption | omega | refine (fun (_ : _ = true) => ?_) | refine (fun (_ : _ = false) => ?_))
local macro_rules | `(tactic| walk_at "ev") => `(tactic| (walk_at "evs" <;> (try walk_at "ev")))

section
variable {P : Program} {w : World} {K : PySem.W.Frag} {mg : Str → Option Value} {base : Heap} {σ : L2.St} {H H' : Hp} {ta tb te : TE} {E : XK} {hd : Addr}
theorem er_draw {i : Nat} {M : Int → Prop} (hs : σ[i]? = some (some (.ref hd))) (hH : Hand P w H hd) (hb : EvR K tb σ H (RI M)) (hM : ∀ m, M m → 0 < m ∧ m < 2 ^ 5000) : EvR K (tCall (sp__law_draw P w K) [] E (tCons (tVar i) (tCons tb tNil))) σ H (RI fun r => ∃ m, M m ∧ 0 ≤ r ∧ r < m) :=
  er_hand hs hb fun H1 v x e ⟨m, hx, hm⟩ hv Q q => by
    subst hx
    rw [hv.int_inv]
    exact ⟨hd, m, rfl, hH.ex e, (hM m hm).1, (hM m hm).2, fun r H2 h1 h2 e2 => q _ H2 _ ⟨r, rfl, m, hm, h1, h2⟩ e2 (.int r)⟩
theorem er_drawD {i : Nat} {m : Int} (hs : σ[i]? = some (some (.ref hd))) (hH : Hand P w H hd) (hb : EvD K tb σ H (.int m)) (hM : 0 < m ∧ m < 2 ^ 5000) : EvR K (tCall (sp__law_draw P w K) [] E (tCons (tVar i) (tCons tb tNil))) σ H (RI fun r => 0 ≤ r ∧ r < m) :=
  (er_draw (M := fun j => j = m) hs hH (er_D hb ⟨m, rfl, rfl⟩) fun j hj => by rw [hj]; exact hM).imp fun d ⟨r, hr, m', hm', h⟩ => ⟨r, hr, by rw [← hm']; exact h⟩
/-! ### _law_any -/
def sp__law_any (P : Program) (w : World) (K : PySem.W.Frag) : Sp := fun vs H Q _ => ∃ (d : Addr) (l : V) (ds : List PD), vs = [.ref d, l] ∧ Hand P w H d ∧ Dp K H l (.list ds) ∧ 0 < ds.length ∧ ds.length ≤ 100 ∧ ∀ v H' x, x ∈ ds → Ex H H' → Dp K H' v x → Q v H'
theorem sc__law_any : FnScope ["_law_hand_here", "_law_things"] ["_law_hand_here", "_law_things"] (defScope (top 48)) := ⟨rfl, rfl, rfl, by decide +kernel, rfl, by decide +kernel, by decide +kernel⟩
theorem ok__law_any (C : W0 P w K mg base) : Cl P w K mg base 2 "_law_any" ["_law_hand_here", "_law_things"] (sp__law_any P w K) := by
  have o__law_draw := ok__law_draw C
  refine Cl.of C.f__law_any C.g__law_any sc__law_any (fun _ _ _ _ _ _ us hl => match us, hl with | [_, _], _ => rfl) (fun vs H Q E h => by obtain ⟨d, l, ds, rfl, _⟩ := h; rfl) fun cdv A outer s H vs Q E hr h => ?_
  obtain ⟨d, l, ds, rfl, hh, hl, h0, hn, k⟩ := h
  refine ⟨_, (pss_one (ps_ret (pe_ix ix_list (pv 1) (pe_cl o__law_draw hr (by decide) rfl (pa_cons (pv 0) (pa_cons (pe_callB call_len_seq (by rfl) C.n_len (by decide +kernel) (pa_cons (pv 1) pa_nil)) pa_nil))) (fun _ _ => rfl)))), ?_⟩
  have hv : EvD K (tVar 1) [some (.ref d), some l] H (.list ds) := ed_var ⟨_, rfl, hl⟩
  refine sr_ret (K := K) (R := fun x => x ∈ ds) (er_ixL (L := fun xs => xs = ds) (I := fun r => 0 ≤ r ∧ r < (ds.length : Int)) (er_D hv ⟨ds, rfl, rfl⟩) (er_drawD rfl hh (ed_lenL hv) ⟨by omega, ?_⟩) ?_) fun v H1 x hx e hv => k v H1 x hx e hv
  · exact Int.lt_of_lt_of_le (b := 101) (by omega) (by decide)
  · rintro xs i rfl ⟨h1, h2⟩
    obtain ⟨j, rfl⟩ : ∃ j : Nat, i = j := ⟨i.toNat, by omega⟩
    have hj : j < xs.length := by omega
    exact ⟨xs[j], atI_nat (List.getElem?_eq_getElem hj), List.getElem_mem hj⟩
theorem er_any {i : Nat} {L : List PD → Prop} (hs : σ[i]? = some (some (.ref hd))) (hH : Hand P w H hd) (hb : EvR K tb σ H (fun d => ∃ ds, d = .list ds ∧ L ds)) (hL : ∀ ds, L ds → 0 < ds.length ∧ ds.length ≤ 100) : EvR K (tCall (sp__law_any P w K) [] E (tCons (tVar i) (tCons tb tNil))) σ H (fun d => ∃ ds, L ds ∧ d ∈ ds) :=
  er_hand hs hb fun H1 v x e ⟨ds, hx, hds⟩ hv Q q => by
    subst hx
    exact ⟨hd, v, ds, rfl, hH.ex e, hv, (hL ds hds).1, (hL ds hds).2, fun v' H2 x hx e2 hv' => q v' H2 x ⟨ds, hds, hx⟩ e2 hv'⟩
theorem er_anyD {i : Nat} {ds : List PD} (hs : σ[i]? = some (some (.ref hd))) (hH : Hand P w H hd) (hb : EvD K tb σ H (.list ds)) (hL : 0 < ds.length ∧ ds.length ≤ 100) : EvR K (tCall (sp__law_any P w K) [] E (tCons (tVar i) (tCons tb tNil))) σ H (fun d => d ∈ ds) :=
  (er_any (L := fun xs => xs = ds) hs hH (er_D hb ⟨ds, rfl, rfl⟩) fun xs hx => by rw [hx]; exact hL).imp fun d ⟨xs, hx, h⟩ => hx ▸ h
/-! ### _law_great -/
def sp__law_great (P : Program) (w : World) (K : PySem.W.Frag) : Sp := fun vs H Q _ => ∃ (d : Addr), vs = [.ref d] ∧ Hand P w H d ∧ ∀ (i : Int) H', 0 ≤ i → i ≤ 10 ^ 56 → Ex H H' → Q (.int i) H'
theorem sc__law_great : FnScope ["_law_hand_here"] ["_law_hand_here"] (defScope (top 52)) := ⟨rfl, rfl, rfl, by decide +kernel, rfl, by decide +kernel, by decide +kernel⟩
theorem ok__law_great (C : W0 P w K mg base) : Cl P w K mg base 3 "_law_great" ["_law_hand_here"] (sp__law_great P w K) := by
  have o__law_any := ok__law_any C
  have o__law_draw := ok__law_draw C
  refine Cl.of C.f__law_great C.g__law_great sc__law_great (fun _ _ _ _ _ _ us hl => match us, hl with | [_], _ => rfl) (fun vs H Q E h => by obtain ⟨d, rfl, _⟩ := h; rfl) fun cdv A outer s H vs Q E hr h => ?_
  obtain ⟨d, rfl, hh, k⟩ := h
  refine ⟨_, (pss_one (ps_ret (pe_ifExp (pt_cmpR op_eq (pe_cl o__law_draw hr (by decide) rfl (pa_cons (pv 0) (pa_cons pe_int pa_nil))) pe_int (nomark _)) (pe_cl o__law_any hr (by decide) rfl (pa_cons (pv 0) (pa_cons (pe_lst (pa_cons (pe_op op_pow pe_int pe_int) (pa_cons (pe_op op_pow pe_int pe_int) (pa_cons (pe_op op_pow pe_int pe_int) pa_nil)))) pa_nil))) pe_int))), ?_⟩
  refine sr_ret (K := K) (R := RI fun i => 0 ≤ i ∧ i ≤ 10 ^ 56) (er_if (ert_eqI (er_drawD rfl hh ed_int (by decide)) (er_D ed_int ⟨0, rfl, trivial⟩ : EvR K _ _ _ (RI fun _ => True))) ((er_anyD rfl hh (ed_lst (eds_cons (d := .int (10 ^ 9)) ?_ (eds_cons (d := .int (10 ^ 30)) ?_ (eds_cons (d := .int (10 ^ 56)) ?_ eds_nil))) (by simp)) (by simp)).imp fun x hx => ?_) (er_D ed_int ⟨0, rfl, by decide⟩)) fun v H1 x hx e hv => ?_
  · exact (ed_I (g := fun i j => i ^ j.toNat) ed_int ed_int ⟨by decide, by decide, by decide⟩).is rfl
  · exact (ed_I (g := fun i j => i ^ j.toNat) ed_int ed_int ⟨by decide, by decide, by decide⟩).is rfl
  · exact (ed_I (g := fun i j => i ^ j.toNat) ed_int ed_int ⟨by decide, by decide, by decide⟩).is rfl
  · simp only [List.mem_cons, List.not_mem_nil, or_false] at hx
    rcases hx with rfl | rfl | rfl <;> exact ⟨_, rfl, by decide, by decide⟩
  · obtain ⟨i, rfl, h1, h2⟩ := hx
    rw [hv.int_inv]
    exact k i H1 h1 h2 e
/-! ### _law_weight -/
def sp__law_weight (P : Program) (w : World) (K : PySem.W.Frag) : Sp := fun vs H Q _ => ∃ (d : Addr) (g : Int), vs = [.ref d, .int g] ∧ Hand P w H d ∧ 0 ≤ g ∧ g ≤ 10 ^ 56 ∧ ∀ (i : Int) H', 1 ≤ i → i ≤ 10 ^ 56 → Ex H H' → Q (.int i) H'
theorem sc__law_weight : FnScope ["_law_hand_here", "_law_great_here"] ["_law_hand_here", "_law_great_here"] (defScope (top 51)) := ⟨rfl, rfl, rfl, by decide +kernel, rfl, by decide +kernel, by decide +kernel⟩
theorem ok__law_weight (C : W0 P w K mg base) : Cl P w K mg base 3 "_law_weight" ["_law_hand_here", "_law_great_here"] (sp__law_weight P w K) := by
  have o__law_any := ok__law_any C
  have o__law_draw := ok__law_draw C
  refine Cl.of C.f__law_weight C.g__law_weight sc__law_weight (fun _ _ _ _ _ _ us hl => match us, hl with | [_, _], _ => rfl) (fun vs H Q E h => by obtain ⟨d, g, rfl, _⟩ := h; rfl) fun cdv A outer s H vs Q E hr h => ?_
  obtain ⟨d, g, rfl, hh, hg0, hg1, k⟩ := h
  refine ⟨_, (pss_one (ps_ret (pe_op op_add pe_int (pe_cl o__law_draw hr (by decide) rfl (pa_cons (pv 0) (pa_cons (pe_ifExp (pt_cmpR op_gt (pv 1) pe_int (nomark _)) (pv 1) (pe_cl o__law_any hr (by decide) rfl (pa_cons (pv 0) (pa_cons (pe_lst (pa_cons pe_int (pa_cons pe_int (pa_cons pe_int (pa_cons pe_int (pa_cons pe_int pa_nil)))))) pa_nil)))) pa_nil)))))), ?_⟩
  refine sr_ret (K := K) (R := RI fun i => 1 ≤ i ∧ i ≤ 10 ^ 56) (er_I0 (A := fun i => i = 1) (B := fun r => ∃ m, (0 < m ∧ m ≤ 10 ^ 56) ∧ 0 ≤ r ∧ r < m) (er_D ed_int ⟨_, rfl, rfl⟩) (er_draw rfl hh (er_ifK (b := decide (g > 0)) (etk_D (ed_B0 (g := fun i j => decide (i > j)) (i := g) (j := 0) (ed_var ⟨_, rfl, .int _⟩) ed_int)) (fun hb => er_D (ed_var ⟨_, rfl, .int g⟩) ⟨g, rfl, of_decide_eq_true hb, hg1⟩) (fun _ => (er_anyD rfl hh (ed_lst (eds_cons ed_int (eds_cons ed_int (eds_cons ed_int (eds_cons ed_int (eds_cons ed_int eds_nil))))) (by simp)) (by simp)).imp fun x hx => ?_)) fun m hm => ⟨hm.1, Int.lt_of_le_of_lt hm.2 (by decide +kernel)⟩) ?_) fun v H1 x hx e hv => ?_
  · simp only [List.mem_cons, List.not_mem_nil, or_false] at hx
    rcases hx with rfl | rfl | rfl | rfl | rfl <;> exact ⟨_, rfl, by decide, by decide⟩
  · rintro i j rfl ⟨m, hm, h1, h2⟩
    omega
  · obtain ⟨i, rfl, h1, h2⟩ := hx
    rw [hv.int_inv]
    exact k i H1 h1 h2 e
/-! ### _law_low -/
def R_law_low (ds : List PD) (d : PD) : Prop := ∃ t b : Int, ds = [.int t, .int b] ∧ 0 < b ∧ b < 2 ^ 5000 ∧ d = fr t b
abbrev sp__law_low (K : PySem.W.Frag) : Sp := spD K R_law_low
theorem pu_law_low {t b : Int} (h : 0 < b) (h2 : b < 2 ^ 5000) : Pure K (sp__law_low K) [.int t, .int b] (fr t b) := spD_pure ⟨_, _, rfl, h, h2, rfl⟩
theorem sc__law_low : FnScope ["_law_top", "_law_bottom", "_law_one", "_law_other"] ["_law_top", "_law_bottom"] (defScope (top 49)) := ⟨rfl, rfl, rfl, by decide +kernel, rfl, by decide +kernel, by decide +kernel⟩
theorem ok__law_low (C : W0 P w K mg base) : Cl P w K mg base 1 "_law_low" ["_law_top", "_law_bottom"] (sp__law_low K) := by
  refine Cl.of C.f__law_low C.g__law_low sc__law_low (fun _ _ _ _ _ _ us hl => match us, hl with | [_, _], _ => rfl) (fun vs H Q E h => by obtain ⟨ds, d, ⟨a, b, rfl, _, _, rfl⟩, hd, _⟩ := h; exact hd.length) fun cdv A outer s H vs Q E hr h => ?_
  obtain ⟨_, _, ⟨t, b, rfl, hb, hb2, rfl⟩, hd, k⟩ := h
  obtain ⟨x, y, rfl, h0, h1⟩ := hd.two_inv
  refine ⟨_, (pss_cons (ps_par (i := 2) (j := 3) rfl sc__law_low.nd rfl rfl (by decide) rfl rfl (pa_cons (pe_callB call_abs (by rfl) C.n_abs (by decide +kernel) (pa_cons (pv 0) pa_nil)) (pa_cons (pv 1) pa_nil)) (by rfl))
      (pss_cons (ps_while PassesOwn.never (pt_cmpR op_gt (pv 3) pe_int (nomark _)) (pss_one (ps_par (i := 2) (j := 3) rfl sc__law_low.nd rfl rfl (by decide) rfl rfl (pa_cons (pv 3) (pa_cons (pe_op op_mod (pe_callTy call_int1 (by rfl) C.n_int (by decide +kernel) (pa_cons (pv 2) pa_nil)) (pv 3)) pa_nil)) (by rfl))))
      (pss_one (ps_ret (pe_tup (pa_cons (pe_op op_fdivW (pv 0) (pv 2)) (pa_cons (pe_op op_fdivW (pv 1) (pv 2)) pa_nil))))))), ?_⟩
  have h0' := h0.int_inv
  subst h0'
  have h1' := h1.int_inv
  subst h1'
  refine qd_par (K := K) (d := .int t.natAbs) (e := .int b) (eds_cons (ed_abs (ed_var ⟨_, rfl, .int _⟩)) (eds_cons (ed_var ⟨_, rfl, .int _⟩) eds_nil)) fun x y H1 e1 q1 q2 => ?_
  rw [q1.int_inv, q2.int_inv]
  refine kq_while K (fun m σ' H' => Ex H H' ∧ ∃ c d : Nat, σ' = [some (.int t), some (.int b), some (.int c), some (.int d)] ∧ m = d ∧ Nat.gcd c d = Nat.gcd t.natAbs b.natAbs) b.natAbs ⟨e1, t.natAbs, b.natAbs, by rw [show ((b.natAbs : Nat) : Int) = b by omega]; rfl, rfl, rfl⟩ ?_
  rintro m σ' H' ⟨e, c, d, rfl, rfl, hg⟩
  refine ⟨decide ((0 : Int) < (m : Int)), by walk_at "ev", fun hb' H1 e1 => ?_, fun hb' H1 e1 => ?_⟩
  · have hd0 : 0 < m := by have := of_decide_eq_true hb'; omega
    refine ⟨fun σ2 H2 => Ex H H2 ∧ σ2 = [some (.int t), some (.int b), some (.int m), some (.int ((c % m : Nat) : Int))], fun σ2 H2 ⟨e2, h2⟩ => ⟨c % m, Nat.mod_lt _ hd0, e2, m, c % m, h2, rfl, by rw [← hg, Nat.gcd_comm m, ← Nat.gcd_rec, Nat.gcd_comm]⟩, ?_⟩
    have ht : EvDs K (tCons (tVar 3) (tCons (tOp (rI (fun _ j => 0 < j) fun i j => V.int (i % j)) (tCB (fun xs H Q => (∃ i, xs = [.int i] ∧ Q (.int i) H) ∨ ∃ k, xs = [.bl k] ∧ Q (.int (if k then 1 else 0)) H) (tCons (tVar 2) tNil)) (tVar 3)) tNil)) [some (.int t), some (.int b), some (.int c), some (.int m)] H1 [.int m, .int ((c : Int) % (m : Int))] := by
      exact eds_cons (ed_var ⟨_, rfl, .int _⟩) (eds_cons (ed_I (g := fun i j => i % j) (ed_intI (ed_var ⟨_, rfl, .int _⟩)) (ed_var ⟨_, rfl, .int _⟩) (by omega)) eds_nil)
    refine ht H1 (Ex.refl _) _ fun vs H2 e2 hv => ?_
    obtain ⟨v1, v2, rfl, q1, q2⟩ := hv.two_inv
    refine ⟨v1, v2, rfl, (e.trans e1).trans e2, ?_⟩
    rw [q1.int_inv, q2.int_inv, Int.natCast_emod]
    rfl
  · have hd0 : m = 0 := by have := of_decide_eq_false hb'; omega
    subst hd0
    rw [Nat.gcd_zero_right] at hg
    subst hg
    refine sd_ret (K := K) (d := fr t b) ?_ fun v H2 e2 hv => k v H2 ((e.trans e1).trans e2) hv
    refine ed_tup (eds_cons (ed_I (ed_var ⟨_, rfl, .int _⟩) (ed_var ⟨_, rfl, .int _⟩) (cdiv_gcd hb hb2)) (eds_cons (ed_I (ed_var ⟨_, rfl, .int _⟩) (ed_var ⟨_, rfl, .int _⟩) ?_) eds_nil)) (by simp)
    exact cdiv_gcd hb hb2
end
end K61
end

section
set_option Elab.async false
set_option linter.all false
set_option maxRecDepth 100000
set_option maxHeartbeats 4000000
/-! Kr2: lists joined and repeated. -/
namespace K61
open PySem PySem.Spec PyProof.Rows L2 Evl RZ
section
variable {P : Program} {w : World} {K : PySem.W.Frag} {σ : L2.St} {H H' : Hp} {ta tb tc te : TE} {t u : TT}
/-- a list that may be joined -/
def EvL (K : PySem.W.Frag) (te : TE) (σ : L2.St) (H : Hp) (ds : List PD) : Prop := ∀ H1, Ex H H1 → ∀ Q : VK, (∀ b vs H2, Ex H1 H2 → H2 b = some (.lst vs) → DpAll K H2 vs ds → Q (.ref b) H2) → te σ H1 Q
theorem EvF.l {ds : List PD} (h : EvF K te σ H ds) : EvL K te σ H ds := fun H1 e Q q => h H1 e Q fun b vs H2 e2 _ => q b vs H2 e2
theorem EvL.ed {ds : List PD} (h : EvL K te σ H ds) : EvD K te σ H (.list ds) := fun H1 e Q q => h H1 e Q fun b vs H2 e2 hb hv => q _ H2 e2 (.lst (sq_of hb) hv)
theorem EvL.is {ds ds' : List PD} (h : EvL K te σ H ds) (e : ds = ds') : EvL K te σ H ds' := e ▸ h
theorem el_var {i : Nat} {b : Addr} {vs : List V} {ds : List PD} (hs : σ[i]? = some (some (.ref b))) (hb : H b = some (.lst vs)) (hv : DpAll K H vs ds) : EvL K (tVar i) σ H ds := fun H1 e Q q => ⟨_, hs, q b vs H1 (Ex.refl _) (e _ _ hb) (hv.ex e)⟩
theorem ef_cat {xs ys : List PD} (ha : EvL K ta σ H xs) (hb : EvL K tb σ H ys) (hl : xs.length + ys.length ≤ 100000) : EvF K (tOp rCat ta tb) σ H (xs ++ ys) := fun H1 e Q q =>
  ha H1 e _ fun a vs H2 e2 h2 hv => hb H2 (e.trans e2) _ fun b ws H3 e3 h3 hw =>
    ⟨a, b, vs, ws, rfl, rfl, e3 _ _ h2, h3, sz_of (by rw [hv.length, hw.length]; exact hl), fun p hp => q p (vs ++ ws) _ ((e2.trans e3).trans (Ex.new hp)) (fresh_back (e2.trans e3) hp) upd_same (((hv.ex e3).app hw).ex (Ex.new hp))⟩
theorem dps_rep {xs : List PD} {vs : List V} (h : DpAll K H vs xs) : ∀ n : Nat, DpAll K H (List.replicate n vs).flatten (List.replicate n xs).flatten
  | 0 => .nil
  | n + 1 => by
    rw [List.replicate_succ, List.replicate_succ, List.flatten_cons, List.flatten_cons]
    exact h.app (dps_rep h n)
theorem ef_rep {xs : List PD} {k : Int} (ha : EvL K ta σ H xs) (hb : EvD K tb σ H (.int k)) (h0 : 0 ≤ k) (hk : k ≤ 10000) (hl : xs.length ≤ 10) : EvF K (tOp rRep ta tb) σ H (List.replicate k.toNat xs).flatten := fun H1 e Q q =>
  ha H1 e _ fun a vs H2 e2 h2 hv => hb H2 (e.trans e2) _ fun w H3 e3 hw =>
    ⟨a, k, vs, rfl, hw.int_inv, e3 _ _ h2, by omega, by omega, sz_of (by rw [hv.length]; exact Nat.le_trans (Nat.mul_le_mul hl (show k.toNat ≤ 10000 by omega)) (by decide)), fun p hp => q p _ _ ((e2.trans e3).trans (Ex.new hp)) (fresh_back (e2.trans e3) hp) upd_same ((dps_rep (hv.ex e3) _).ex (Ex.new hp))⟩
theorem el_if {b : Bool} {ds : List PD} (h : EvTK K t σ H b) (h1 : b = true → EvL K ta σ H ds) (h2 : b = false → EvL K tb σ H ds) : EvL K (tIf t ta tb) σ H ds := fun H1 e Q q => h H1 e _ fun H2 e2 => by
  cases b with
  | true =>
    show ta σ H2 Q
    exact h1 rfl H2 (e.trans e2) Q fun b vs H3 e3 hb => q b vs H3 (e2.trans e3) hb
  | false =>
    show tb σ H2 Q
    exact h2 rfl H2 (e.trans e2) Q fun b vs H3 e3 hb => q b vs H3 (e2.trans e3) hb
/-- pairs of a display: texts as keys -/
theorem tp_cons {k : Str} {te : TE} {r : List (TE × TE)} {v : V} {H : Hp} {Q : List (V × V) → Hp → Prop} (h : Ev te σ H v) (q : ∀ H1, Ex H H1 → tPairs r σ H1 fun ps H3 => Q ((.str k, v) :: ps) H3) : tPairs ((tC (.str k), te) :: r) σ H Q := h H (Ex.refl _) _ fun H1 e => q H1 e
end
end K61
end

section
set_option Elab.async false
set_option linter.all false
set_option maxRecDepth 100000
set_option maxHeartbeats 4000000
namespace K61
open PySem PySem.Spec PyProof.Rows L2 Evl RZ
local macro_rules | `(tactic| walk_at "evs") => `(tactic| first
  | exact ed_int | exact ed_str | exact ed_bl | exact ed_non
  | exact ed_var ⟨_, rfl, by first | assumption | exact .int _ | exact .str _ | exact .bl _ | exact .non⟩
  | exact ed_top (W0.t_ZERO (by assumption)) | exact ed_top (W0.t_ONE (by assumption))
  | refine ed_I0 ?_ ?_ | refine ed_B0 ?_ ?_ | refine ed_I ?_ ?_ ?_
  | refine ed_call ?_ ?_ | refine eds_cons ?_ ?_ | exact eds_nil
  | ((apply ed_ixT); (focus (walk_at "ev"; done)); (focus (walk_at "ev"; done)); (focus (exact rfl)); done)
  | ((apply ed_ixL); (focus (walk_at "ev"; done)); (focus (walk_at "ev"; done)); (focus (exact rfl)); done)
  | refine ed_tup ?_ ?_ | refine ed_lst ?_ ?_
  | ((refine ed_lenL ?_); (walk_at "ev"); done) | ((refine ed_lenT ?_); (walk_at "ev"); done) | refine ed_lenS ?_ ?_
  | refine ed_abs ?_ | ((refine ed_intI ?_); (walk_at "ev"); done) | refine ed_intB ?_ | refine ed_isi ?_ ?_
  | ((refine ed_eqI ?_ ?_ <;> walk_at "ev"); done) | ((refine ed_eqS ?_ ?_ <;> walk_at "ev"); done) | refine ed_neS ?_ ?_
  | refine ed_eqD ?_ ?_ ?_ ?_ | refine ed_neD ?_ ?_ ?_ ?_ | refine ed_ltD ?_ ?_ ?_ ?_ ?_
  | refine ed_isN ?_ | refine ed_notN ?_
  | refine ed_chain ?_ ?_ ?_ | refine ed_not ?_ | refine ed_and ?_ ?_ | refine ed_or ?_ ?_
  | refine ed_catS ?_ ?_ ?_ | refine ed_catT ?_ ?_ ?_
  | refine etk_D ?_ | refine etk_DB ?_ | refine etk_not ?_ | refine etk_and ?_ ?_ | refine etk_or ?_ ?_
  | exact rfl | assumption | omega | refine (fun (_ : _ = true) => ?_) | refine (fun (_ : _ = false) => ?_))
local macro_rules | `(tactic| walk_at "ev") => `(tactic| (walk_at "evs" <;> (try walk_at "ev")))

section
variable {P : Program} {w : World} {K : PySem.W.Frag} {mg : Str → Option Value} {base : Heap} {σ : L2.St} {H H' : Hp} {ta tb te : TE} {E : XK} {hd : Addr}
/-! ### _law_contents -/
def R_law_contents (ds : List PD) (d : PD) : Prop := ∃ ns : List Int, okSizes ns ∧ ds = [tI ns] ∧ d = .list ((contentsI ns).map tI)
abbrev sp__law_contents (K : PySem.W.Frag) : Sp := spD K R_law_contents
theorem pu_law_contents {ns : List Int} (h : okSizes ns) : Pure K (sp__law_contents K) [tI ns] (.list ((contentsI ns).map tI)) := spD_pure ⟨_, h, rfl, rfl⟩
theorem sc__law_contents : FnScope ["_law_sizes", "_law_found", "_law_size", "_law_longer", "_law_front", "_law_worth"] ["_law_sizes"] (defScope (top 50)) := ⟨rfl, rfl, rfl, by decide +kernel, rfl, by decide +kernel, by decide +kernel⟩
theorem ok__law_contents (C : W0 P w K mg base) : Cl P w K mg base 1 "_law_contents" ["_law_sizes"] (sp__law_contents K) := by
  refine Cl.of C.f__law_contents C.g__law_contents sc__law_contents (fun _ _ _ _ _ _ us hl => match us, hl with | [_], _ => rfl) (fun vs H Q E h => by obtain ⟨ds, d, ⟨_, _, rfl, rfl⟩, hd, _⟩ := h; exact hd.length) fun cdv A outer s H vs Q E hr h => ?_
  obtain ⟨_, _, ⟨ns, hns, rfl, rfl⟩, hd, k⟩ := h
  obtain ⟨x, rfl, h0⟩ := hd.one_inv
  have hok := hns.rows
  refine ⟨_, (pss_cons (ps_set (i := 1) sc__law_contents.nd rfl (Or.inl rfl) (pe_lst (pa_cons (pe_tup pa_nil) pa_nil)))
      (pss_cons (ps_for PassesOwn.never rfl (pi_tup (pv 0)) (pg_name (i := 2) sc__law_contents.nd rfl (Or.inl rfl)) (pss_cons (ps_set (i := 3) sc__law_contents.nd rfl (Or.inl rfl) (pe_lst pa_nil))
      (pss_cons (ps_for PassesOwn.never rfl (pi_list (pv 1)) (pg_name (i := 4) sc__law_contents.nd rfl (Or.inr rfl)) (pss_one (ps_expr (pe_bm PySem.F.plainAttrs_list PySem.F.slot_list_extend PySem.F.type_list_extend mt_extend (pv 3) (pa_cons (pe_lc (own := [("_law_worth", 5)]) rfl sc__law_contents.nd (pi_range1 rfl C.n_range (pa_cons (pv 2) pa_nil)) (blkOk_by (N := ["_law_sizes", "_law_found", "_law_size", "_law_longer", "_law_front", "_law_worth"]) (sc := (defScope (top 50))) (own := [("_law_worth", 5)]) (by decide +kernel)) (fun _ _ _ _ _ => (pg_name (i := 5) sc__law_contents.nd rfl (Or.inl rfl))) (fun _ _ _ _ _ => pts_nil) (fun _ _ _ _ _ => (pe_op (op_catAK (K0 := K) rfl) (pv 4) (pe_tup (pa_cons (pv 5) pa_nil))))) pa_nil)))))
      (pss_one (ps_set (i := 1) sc__law_contents.nd rfl (Or.inl rfl) (pv 3))))))
      (pss_one (ps_ret (pv 1))))), ?_⟩
  refine qd_asg (K := K) (d := .list ((tuplesI ((ns.map rgI).take 0)).map tI)) (ed_lst (eds_cons (ed_tup eds_nil (by decide)) eds_nil) (show 1 ≤ 100000 by decide)) fun v1 H1 e1 h1 => ?_
  have h0 : Dp K H1 x (.tuple (ns.map PyData.int)) := h0.ex e1
  refine qd_for (wk_tup (ed_var ⟨_, rfl, h0⟩)) (fun i σ' H' => ∃ u z1 z2 z3 , σ' = [some x, some u, z1, z2, z3, none] ∧ Dp K H' u (.list ((tuplesI ((ns.map rgI).take i)).map tI))) (fun H2 e2 => ⟨_, _, _, _, rfl, h1.ex e2⟩) ?_ ?_
  · rintro H0 e0 i d hd σ' H' e2 ⟨u, z1, z2, z3, rfl, hu⟩ q G e3 hq
    rw [List.getElem?_map] at hd
    obtain ⟨n, hn, rfl⟩ := Option.map_eq_some_iff.mp hd
    have hnb := hns.mem (List.mem_of_getElem? hn)
    have hrow : (ns.map rgI)[i]? = some (rgI n) := by rw [List.getElem?_map, hn]; rfl
    have hrl : (rgI n).length ≤ 100 := hok.a (rgI n) (List.mem_of_getElem? hrow)
    have hfl := hok.b i
    have hfc := hok.c i
    have hu := hu.ex e3
    have hq' := hq.int_inv
    subst hq'
    generalize hfe : tuplesI ((ns.map rgI).take i) = found at hu hfl hfc
    refine qd_asgF (K := K) (ds := []) (ef_lst eds_nil (by simp)) fun p vs H2 hp e4 hpl hvs => ?_
    cases hvs
    refine qd_forV (K := K) (G := G) (ds := found.map tI) e4 (wv_list ⟨_, rfl, hu⟩) (fun j σ' H' => ∃ z, σ' = [some x, some u, some (.int n), some (.ref p), z, none] ∧ ∃ acc, H' p = some (.lst acc) ∧ DpAll K H' acc ((stepI (found.take j) (rgI n)).map tI)) ⟨_, rfl, [], hpl, .nil⟩ ?_ ?_
    · rintro j d2 hd2 σ2 H3 e5 ⟨z, rfl, acc, ha, hacc⟩ fr H4 e6 hfr
      rw [List.getElem?_map] at hd2
      obtain ⟨front, hfront, rfl⟩ := Option.map_eq_some_iff.mp hd2
      have hfm := hfc front (List.mem_of_getElem? hfront)
      have hal : acc.length ≤ 10000 := by
        rw [hacc.length, List.length_map, flat_len, List.length_take]
        exact Nat.mul_le_mul (show min j found.length ≤ 100 by omega) hrl
      refine sd_ext (K := K) (ds := (extI (rgI n) front).map tI) rfl (e6 _ _ ha) ?_ (by rw [List.length_map, extI, List.length_map]; omega) fun vs H5 e7 hvs => ⟨Ex.mut ((e5.trans e6).trans e7) hp, ?_⟩
      · refine (ef_lcAM (xs := rgI n) (f := PyData.int) (g := fun item => tI (front ++ [item])) ?_ (by omega) (fun _ _ => tfr_tI) (fun _ => rfl) fun H6 e8 item hitem v hv => ?_).is (by unfold extI; rw [List.map_map]; rfl)
        · have := wk_range1 (K := K) (σ := [some x, some u, some (.int n), some (.ref p), some fr, none]) (H := H4) (ed_var (i := 2) ⟨_, rfl, .int n⟩) (by omega)
          have e : intD 0 n.toNat = (rgI n).map PyData.int := by
            have := @intD_rg n
            unfold lI at this
            injection this
          rw [e] at this
          exact this
        · have := ed_catT (K := K) (xs := front.map PyData.int) (ys := [.int item]) (ed_var (σ := [some x, some u, some (.int n), some (.ref p), some fr, some v]) (i := 4) ⟨_, rfl, (hfr.ex e8 : Dp K H6 fr (tI front))⟩) (ed_tup (eds_cons (ed_var (i := 5) ⟨_, rfl, hv⟩) eds_nil) (by simp)) (by rw [List.length_map]; simp; omega)
          exact this.is (by unfold tI; rw [List.map_append]; rfl)
      · refine ⟨_, rfl, acc ++ vs, upd_same, ?_⟩
        obtain ⟨hj, hjf⟩ := List.getElem?_eq_some_iff.mp hfront
        have e : stepI (found.take (j + 1)) (rgI n) = stepI (found.take j) (rgI n) ++ extI (rgI n) front := by
          rw [List.take_succ_eq_append_getElem hj, hjf]; unfold stepI; rw [List.flatMap_append]; simp
        rw [e, List.map_append]
        have tx : Tx H5 (L2.upd H5 p (.lst (acc ++ vs))) := Tx.updL (e7 _ _ (e6 _ _ ha))
        have hm : ∀ l : List (List Int), tfrs (l.map tI) = true := fun l => tfrs_mem fun d hd => by obtain ⟨_, _, rfl⟩ := List.mem_map.mp hd; exact tfr_tI
        exact (dps_tx tx (hm _) (hacc.ex (e6.trans e7))).app (dps_tx tx (hm _) hvs)
    · rintro σ2 H3 e5 ⟨z, rfl, acc, ha, hacc⟩
      rw [List.length_map, List.take_length] at hacc
      refine sd_asg (K := K) (d := .list ((stepI found (rgI n)).map tI)) (ed_var ⟨_, rfl, .lst (sq_of ha) hacc⟩) fun v H4 e6 hv => ⟨(((e2.trans e3).trans e5).trans e6), _, _, _, _, rfl, ?_⟩
      obtain ⟨hi, hie⟩ := List.getElem?_eq_some_iff.mp hrow
      rw [List.take_succ_eq_append_getElem hi, hie, tuplesI_snoc, hfe]
      exact hv
  · rintro σ' H' e2 ⟨u, z1, z2, z3, rfl, hu⟩
    have el : (ns.map PyData.int).length = (ns.map rgI).length := by rw [List.length_map, List.length_map]
    rw [el, List.take_length] at hu
    exact sd_ret (K := K) (ed_var ⟨_, rfl, hu⟩) fun v H2 e3 hv => k v H2 (e1.trans (e2.trans e3)) hv
theorem ef_lcAN {α : Type} {wi : TI} {tt : TT} {vs : List Nat} {xs : List α} {f g : α → PD} {j : Nat} (hw : WkD K wi σ H (xs.map f)) (keep : α → Bool) (hl : xs.length ≤ 100000) (hf : ∀ a ∈ xs, tfr (g a) = true) (hwp : ∀ x, wipe ((wipe σ vs).set j (some x)) vs = wipe σ vs)
    (turn : ∀ H0, Ex H H0 → ∀ a, a ∈ xs → ∀ x, Dp K H0 x (f a) → EvTK K tt ((wipe σ vs).set j (some x)) H0 (keep a) ∧ (keep a = true → EvD K te ((wipe σ vs).set j (some x)) H0 (g a))) :
    EvF K (tLc wi (gName j) tt te vs) σ H ((xs.filter keep).map g) := ef_lcA hw keep hl hf fun H0 e d hd x hx Q q => q _ (hwp x) (turn H0 e d hd x hx).1 (turn H0 e d hd x hx).2
/-! ### _law_hand -/
def sp__law_hand (P : Program) (w : World) (K : PySem.W.Frag) : Sp := fun vs H Q _ => ∃ (l : V) (xs : List Int), vs = [l] ∧ Dp K H l (.list (xs.map PyData.int)) ∧ xs.length ≤ 90000 ∧ ∀ (d : Addr) H', Ex H H' → Hand P w H' d → Q (.ref d) H'
theorem sc__law_hand : FnScope ["_law_script", "_law_cells", "_law_small", "_law_great_here", "_law_cell"] ["_law_script"] (defScope (top 46)) := ⟨rfl, rfl, rfl, by decide +kernel, rfl, by decide +kernel, by decide +kernel⟩
theorem ok__law_hand (C : W0 P w K mg base) : Cl P w K mg base 1 "_law_hand" ["_law_script"] (sp__law_hand P w K) := by
  refine Cl.of C.f__law_hand C.g__law_hand sc__law_hand (fun _ _ _ _ _ _ us hl => match us, hl with | [_], _ => rfl) (fun vs H Q E h => by obtain ⟨l, xs, rfl, _⟩ := h; rfl) fun cdv A outer s H vs Q E hr h => ?_
  obtain ⟨l, xs, rfl, hl, hn, k⟩ := h
  refine ⟨_, pss_out (Cl := fun H H2 => ∃ d g sm, Closed P w H H2 d g sm) ((pss_cons (ps_setLc (i := 1) (own := [("_law_cell", 4)]) rfl sc__law_hand.nd rfl rfl (sw_true rfl rfl rfl (by decide +kernel)) (pi_list (pe_slice sl_list (pv 0) po_none (po_some pe_int))) (blkOk_by (N := ["_law_script", "_law_cells", "_law_small", "_law_great_here", "_law_cell"]) (sc := (defScope (top 46))) (own := [("_law_cell", 4)]) (by decide +kernel)) (fun _ _ _ _ _ => (pg_name (i := 4) sc__law_hand.nd rfl (Or.inl rfl))) (fun _ _ _ _ _ => pts_nil) (fun _ _ _ _ _ => (pe_callB call_abs (by rfl) C.n_abs (by decide +kernel) (pa_cons (pe_callTy call_int1 (by rfl) C.n_int (by decide +kernel) (pa_cons (pv 4) pa_nil)) pa_nil))))
      (pss_cons (ps_set (i := 2) sc__law_hand.nd rfl (Or.inl rfl) (pe_op op_cat (pe_lc (own := [("_law_cell", 4)]) rfl sc__law_hand.nd (pi_list (pv 1)) (blkOk_by (N := ["_law_script", "_law_cells", "_law_small", "_law_great_here", "_law_cell"]) (sc := (defScope (top 46))) (own := [("_law_cell", 4)]) (by decide +kernel)) (fun _ _ _ _ _ => (pg_name (i := 4) sc__law_hand.nd rfl (Or.inl rfl))) (fun _ _ _ _ _ => (pts_one (pt_cmpR op_lt (pv 4) (pe_op op_pow pe_int pe_int) (nomark _)))) (fun _ _ _ _ _ => (pe_op op_mod (pe_callTy call_int1 (by rfl) C.n_int (by decide +kernel) (pa_cons (pv 4) pa_nil)) pe_int))) (pe_lst (pa_cons (pe_op op_add (pe_op op_mul pe_int (pe_callB call_len_seq (by rfl) C.n_len (by decide +kernel) (pa_cons (pv 1) pa_nil))) pe_int) pa_nil))))
      (pss_cons (ps_setLc (i := 3) (own := [("_law_cell", 4)]) rfl sc__law_hand.nd rfl rfl (sw_true rfl rfl rfl (by decide +kernel)) (pi_list (pv 1)) (blkOk_by (N := ["_law_script", "_law_cells", "_law_small", "_law_great_here", "_law_cell"]) (sc := (defScope (top 46))) (own := [("_law_cell", 4)]) (by decide +kernel)) (fun _ _ _ _ _ => (pg_name (i := 4) sc__law_hand.nd rfl (Or.inl rfl))) (fun _ _ _ _ _ => (pts_one (pt_cmpR op_ge (pv 4) (pe_op op_pow pe_int pe_int) (nomark _)))) (fun _ _ _ _ _ => (pv 4)))
      (pss_one (ps_ret (pe_disp (pps_cons pe_str (pv 3) (pps_cons pe_str (pv 2) (pps_cons pe_str (pe_op op_mod (pe_callTy call_int1 (by rfl) C.n_int (by decide +kernel) (pa_cons (pe_callB (cr_sum rfl) (by rfl) C.n_sum (by decide +kernel) (pa_cons (pv 2) pa_nil)) pa_nil)) pe_int) (pps_cons pe_str pe_int pps_nil)))) rfl rfl (by simp) (by decide)))))))) (fun pins σ s H H2 I ⟨d, g, sm, c⟩ => hand_close I c), ?_⟩
  dsimp only
  obtain ⟨ys, hys, hyl⟩ : ∃ ys : List Int, ((xs.map PyData.int).drop (HT.sIx (xs.map PyData.int).length 0 none)).take (HT.sIx (xs.map PyData.int).length (xs.map PyData.int).length (some 63) - HT.sIx (xs.map PyData.int).length 0 none) = ys.map PyData.int ∧ ys.length ≤ 63 := by
    rw [← List.map_drop, ← List.map_take]
    refine ⟨_, rfl, ?_⟩
    rw [List.length_take]
    refine Nat.le_trans (Nat.min_le_left _ _) ?_
    generalize (xs.map PyData.int).length = n
    unfold HT.sIx
    simp
    omega
  refine qd_asgF (K := K) (ds := (ys.map fun y => (y.natAbs : Int)).map PyData.int) ?_ fun p vs H1 hp e1 hpl hvs => ?_
  · refine (ef_lcAM (xs := ys) (f := PyData.int) (g := fun y => .int (y.natAbs : Int)) ?_ (by omega) (fun _ _ => rfl) (fun _ => rfl) fun H6 e8 y hy v hv => ?_).is (by rw [List.map_map]; rfl)
    · rw [← hys]
      exact wk_list (ed_sl (ed_var ⟨_, rfl, hl⟩) eo_none (eo_D (K := K) ed_int))
    · exact ed_abs (ed_intI (ed_var ⟨_, rfl, hv⟩))
  have e18 : ∀ {σ : L2.St} {H : Hp}, EvD K (tOp (rI CPow fun i j => V.int (i ^ j.toNat)) (tC (.int 10)) (tC (.int 18))) σ H (.int (10 ^ 18)) := (ed_I (g := fun i j => i ^ j.toNat) ed_int ed_int ⟨by decide, by decide, by decide⟩).is rfl
  generalize hcs : (ys.map fun y => (y.natAbs : Int)) = cs at hvs
  have hcl : cs.length ≤ 63 := by rw [← hcs, List.length_map]; exact hyl
  have hvi := dps_ints hvs
  subst hvi
  have hcd : Dp K H1 (.ref p) (.list (cs.map PyData.int)) := .lst (sq_of hpl) hvs
  refine qd_asgF (K := K) (ds := (((cs.filter fun c => decide (c < 10 ^ 18)).map fun c => c % 1000000007) ++ [37 * (cs.length : Int) + 11]).map PyData.int) ?_ fun p2 vs2 H2 hp2 e2 hpl2 hvs2 => ?_
  · refine (ef_cat (EvF.l (ef_lcAN (xs := cs) (f := PyData.int) (g := fun c => .int (c % 1000000007)) (wk_list (ed_var ⟨_, rfl, hcd⟩)) (fun c => decide (c < 10 ^ 18)) (by omega) (fun _ _ => rfl) (fun _ => rfl) fun H6 e8 c hc v hv => ⟨etk_D (ed_B0 (ed_var ⟨_, rfl, hv⟩) e18), fun _ => ed_I (g := fun i j => i % j) (ed_intI (ed_var ⟨_, rfl, hv⟩)) ed_int (by decide)⟩)) (EvF.l (ef_lst (eds_cons (d := .int (37 * (cs.length : Int) + 11)) (ed_I0 (ed_I (g := fun i j => i * j) ed_int ((ed_lenL (ed_var ⟨_, rfl, hcd⟩)).is (by rw [List.length_map])) (cmul_l (by decide))) ed_int) eds_nil) (by simp))) ?_).is (by rw [List.map_append, List.map_map]; rfl)
    rw [List.length_map]
    have := List.length_filter_le (fun c : Int => decide (c < 10 ^ 18)) cs
    simp only [List.length_cons, List.length_nil]
    omega
  have hcd := hcd.ex e2
  generalize hss : (((cs.filter fun c => decide (c < 10 ^ 18)).map fun c => c % 1000000007) ++ [37 * (cs.length : Int) + 11]) = ss at hvs2
  have hsl : ss ≠ [] ∧ ss.length ≤ 100 := by
    rw [← hss]
    refine ⟨by simp, ?_⟩
    have := List.length_filter_le (fun c : Int => decide (c < 10 ^ 18)) cs
    rw [List.length_append, List.length_map, List.length_cons, List.length_nil]
    omega
  have hvi := dps_ints hvs2
  subst hvi
  refine qd_asgF (K := K) (ds := (cs.filter fun c => decide (c ≥ 10 ^ 18)).map PyData.int) (ef_lcAN (xs := cs) (f := PyData.int) (g := PyData.int) (wk_list (ed_var ⟨_, rfl, hcd⟩)) (fun c => decide (c ≥ 10 ^ 18)) (by omega) (fun _ _ => rfl) (fun _ => rfl) fun H6 e8 c hc v hv => ⟨etk_D (ed_B0 (g := fun i j => decide (i ≥ j)) (ed_var ⟨_, rfl, hv⟩) e18), fun _ => ed_var ⟨_, rfl, hv⟩⟩) fun p3 vs3 H3 hp3 e3 hpl3 hvs3 => ?_
  have hgl : (cs.filter fun c => decide (c ≥ 10 ^ 18)).length ≤ 63 := Nat.le_trans (List.length_filter_le _ _) hcl
  generalize (cs.filter fun c => decide (c ≥ 10 ^ 18)) = gs at hvs3 hgl
  have hvi := dps_ints hvs3
  subst hvi
  have hpl2o := hpl2
  have hpl2 := e3 _ _ hpl2
  have hsd : Dp K H3 (.ref p2) (.list (ss.map PyData.int)) := .lst (sq_of hpl2) (hvs2.ex e3)
  intro d hdn
  have en : Ex H3 (upd H3 d (.dK [])) := Ex.new hdn
  refine tp_cons (v := .ref p3) (fun H1 e Q q => ⟨_, rfl, q _ (Ex.refl _)⟩) fun H4 e4 => ?_
  refine tp_cons (v := .ref p2) (fun H1 e Q q => ⟨_, rfl, q _ (Ex.refl _)⟩) fun H5 e5 => ?_
  refine tp_cons (v := .int (ss.sum % 999979)) (EvD.int (K := K) (ed_I (g := fun i j => i % j) (ed_intI (ed_sum (ed_var ⟨_, rfl, hsd.ex ((en.trans e4).trans e5)⟩))) ed_int (by decide))) fun H6 e6 => ?_
  refine tp_cons (v := .int 0) (EvD.int (K := K) ed_int) fun H7 e7 => ?_
  have e37 := ((e4.trans e5).trans e6).trans e7
  refine ⟨e37 _ _ upd_same, [(.inr "great", .ref p3), (.inr "small", .ref p2), (.inr "sum", .int (ss.sum % 999979)), (.inr "turn", .int 0)], rfl, by simp, ?_⟩
  have hne3 : p3 ≠ d := fun z => by rw [z] at hpl3; rw [hpl3] at hdn; cases hdn
  have hne2 : p2 ≠ d := fun z => by rw [z] at hpl2; rw [hpl2] at hdn; cases hdn
  have hne23 : p2 ≠ p3 := fun z => by
    rw [z, hp3] at hpl2o
    cases hpl2o
  have hg7 := e37 _ _ (en _ _ hpl3)
  have hs7 := e37 _ _ (en _ _ hpl2)
  refine ⟨_, ⟨d, p3, p2, ⟨gs, ss.sum % 999979, 0, upd_same, by rw [upd_ne hne3]; exact hg7, by omega⟩, rfl⟩, k d _ ?_ ⟨p3, p2, ss, ?_, ?_, ?_, Ne.symm hne3, hsl⟩⟩
  · intro b o hb
    have h0 := e3 _ _ (e2 _ _ (e1 _ _ hb))
    have hb3 : b ≠ p3 := fun z => by rw [z] at hb; have := e2 _ _ (e1 _ _ hb); rw [hp3] at this; cases this
    have hbd : b ≠ d := fun z => by rw [z] at h0; rw [h0] at hdn; cases hdn
    rw [upd_ne hbd, upd_ne hb3, upd_ne hbd]
    exact e37 _ _ (en _ _ h0)
  · exact upd_same
  · rw [upd_ne hne3, upd_same]
  · rw [upd_ne hne2, upd_ne hne23, upd_ne hne2]
    exact hs7
end
end K61
end

section
set_option Elab.async false
set_option linter.all false
set_option maxRecDepth 100000
set_option maxHeartbeats 4000000
namespace K61
open PySem PySem.Spec PyProof.Rows L2 Evl RZ
local macro_rules | `(tactic| walk_at "evs") => `(tactic| first
  | exact ed_int | exact ed_str | exact ed_bl | exact ed_non
  | exact ed_var ⟨_, rfl, by first | assumption | exact .int _ | exact .str _ | exact .bl _ | exact .non⟩
  | exact ed_top (W0.t_ZERO (by assumption)) | exact ed_top (W0.t_ONE (by assumption))
  | refine ed_I0 ?_ ?_ | refine ed_B0 ?_ ?_ | refine ed_I ?_ ?_ ?_
  | refine ed_call ?_ ?_ | refine eds_cons ?_ ?_ | exact eds_nil
  | ((apply ed_ixT); (focus (walk_at "ev"; done)); (focus (walk_at "ev"; done)); (focus (exact rfl)); done)
  | ((apply ed_ixL); (focus (walk_at "ev"; done)); (focus (walk_at "ev"; done)); (focus (exact rfl)); done)
  | refine ed_tup ?_ ?_ | refine ed_lst ?_ ?_
  | ((refine ed_lenL ?_); (walk_at "ev"); done) | ((refine ed_lenT ?_); (walk_at "ev"); done) | refine ed_lenS ?_ ?_
  | refine ed_abs ?_ | ((refine ed_intI ?_); (walk_at "ev"); done) | refine ed_intB ?_ | refine ed_isi ?_ ?_
  | ((refine ed_eqI ?_ ?_ <;> walk_at "ev"); done) | ((refine ed_eqS ?_ ?_ <;> walk_at "ev"); done) | refine ed_neS ?_ ?_
  | refine ed_eqD ?_ ?_ ?_ ?_ | refine ed_neD ?_ ?_ ?_ ?_ | refine ed_ltD ?_ ?_ ?_ ?_ ?_
  | refine ed_isN ?_ | refine ed_notN ?_
  | refine ed_chain ?_ ?_ ?_ | refine ed_not ?_ | refine ed_and ?_ ?_ | refine ed_or ?_ ?_
  | refine ed_catS ?_ ?_ ?_ | refine ed_catT ?_ ?_ ?_
  | refine etk_D ?_ | refine etk_DB ?_ | refine etk_not ?_ | refine etk_and ?_ ?_ | refine etk_or ?_ ?_
  | exact rfl | assumption | omega | refine (fun (_ : _ = true) => ?_) | refine (fun (_ : _ = false) => ?_))
local macro_rules | `(tactic| walk_at "ev") => `(tactic| (walk_at "evs" <;> (try walk_at "ev")))

/-- what lies in the wholes of the law -/
structure Cell where
  ws : List Int
  ns : List Int
  w : Int
def keyC (p : List Int × List Int) : PD := pair2 (tI p.1) (tI p.2)
def Cell.p (c : Cell) : List Int × List Int := (c.ws, c.ns)
def Cell.kv (c : Cell) : PD × Int := (keyC c.p, c.w)
def okFam (fam : List (List Int)) : Prop := fam = [[]] ∨ fam = [[0]] ∨ fam = [[], [0]]
def rowP (fam : List (List Int)) (c : List Int) : List (List Int × List Int) := fam.map fun p => (c, p)
def KL (ss : List Int) (fam : List (List Int)) : List (List Int × List Int) := (contentsI ss).flatMap (rowP fam)
theorem kl_nodup {ss : List Int} {fam : List (List Int)} (h : okSizes ss) (h2 : okFam fam) : ((KL ss fam).map fun p => nk (keyC p)).Nodup := by
  rcases h with rfl | rfl | rfl <;> rcases h2 with rfl | rfl | rfl <;> decide +kernel
theorem kl_le {ss : List Int} {fam : List (List Int)} (h : okSizes ss) (h2 : okFam fam) : (KL ss fam).length ≤ 8 ∧ (contentsI ss).length ≤ 4 ∧ fam.length ≤ 2 := by
  rcases h with rfl | rfl | rfl <;> rcases h2 with rfl | rfl | rfl <;> decide +kernel
theorem tfr_key {p : List Int × List Int} : tfr (keyC p) = true := by
  unfold keyC pair2
  have h1 := @tfr_tI p.1
  have h2 := @tfr_tI p.2
  simp only [tfr, tfrs, h1, h2, Bool.and_self]
theorem tupK_key {p : List Int × List Int} : tupK (keyC p) := by
  refine ⟨?_, ?_, _, rfl⟩
  · unfold keyC pair2 tI
    simp [keyD, keyDs, keyDs_ints]
  · unfold keyC pair2 tI
    simp [nk, nks, NestedKey.depth, NestedKey.depthAll, depthAll_ints]
theorem put_new {cs : List Cell} {p : List Int × List Int} {n : Int} (h : ((cs.map Cell.p ++ [p]).map fun p => nk (keyC p)).Nodup) : putN (cs.map Cell.kv) (keyC p) n = (cs ++ [(⟨p.1, p.2, n⟩ : Cell)]).map Cell.kv := by
  have hg : getN (cs.map Cell.kv) (keyC p) = none := by
    unfold getN
    rw [Option.map_eq_none_iff, List.find?_eq_none]
    intro x hx
    obtain ⟨c, hc, rfl⟩ := List.mem_map.mp hx
    unfold isK Cell.kv
    simp only [decide_eq_true_eq]
    intro e
    rw [List.map_append, List.nodup_append] at h
    exact h.2.2 _ (List.mem_map_of_mem (List.mem_map_of_mem hc)) _ (List.mem_map_of_mem (List.mem_singleton.mpr rfl)) e
  unfold putN
  rw [hg, List.map_append]
  rfl
theorem get_cell {cs : List Cell} (h : ((cs.map Cell.p).map fun p => nk (keyC p)).Nodup) {c : Cell} (hc : c ∈ cs) : getN (cs.map Cell.kv) (keyC c.p) = some c.w := by
  induction cs with
  | nil => cases hc
  | cons a cs ih =>
    unfold getN
    rw [List.map_cons, List.find?_cons]
    by_cases e : nk (keyC a.p) = nk (keyC c.p)
    · have : isK (keyC c.p) a.kv = true := by unfold isK Cell.kv; simp [e]
      rw [this]
      rcases List.mem_cons.mp hc with rfl | hc'
      · rfl
      · rw [List.map_cons, List.map_cons, List.nodup_cons] at h
        exact (h.1 (List.mem_map.mpr ⟨c.p, List.mem_map.mpr ⟨c, hc', rfl⟩, e.symm⟩)).elim
    · have : isK (keyC c.p) a.kv = false := by unfold isK Cell.kv; simp [e]
      rw [this]
      rcases List.mem_cons.mp hc with rfl | hc'
      · exact (e rfl).elim
      · rw [List.map_cons, List.map_cons, List.nodup_cons] at h
        exact ih h.2 hc'
section
variable {P : Program} {w : World} {K : PySem.W.Frag} {mg : Str → Option Value} {base : Heap} {σ : L2.St} {H H' : Hp} {ta tb te td ty tv : TE} {E : XK} {hd : Addr} {D : Ends}
theorem sr_nput {i : Nat} {d : Addr} {kvs : List (PD × Int)} {k : PD} {R : Int → Prop} (hs : σ[i]? = some (some (.ref d))) (hn : Nd P w K H d kvs) (hv : EvR K tv σ H (RI R)) (hk : EvD K ty σ H k) (tk : tupK k) (hl : kvs.length < 1000) (hf : ∀ p ∈ kvs, tfr p.1 = true) (hfk : tfr k = true)
    (q : ∀ o H1 n, R n → Ex H H1 → Nd P w K (upd H1 d (NdO d o)) d (putN kvs k n) → D.nx σ (upd H1 d (NdO d o))) : sNPut P w K (tVar i) ty tv D σ H :=
  hv H (Ex.refl H) _ fun v H1 x ⟨n, hx, hn'⟩ e1 hv' => ⟨_, hs, hk H1 e1 _ fun y H2 e2 hy => ⟨d, kvs, k, n, rfl, hn.ex (e1.trans e2), hl, hf, hfk, tk, hy, by rw [hx] at hv'; exact hv'.int_inv, fun o h => q o H2 n hn' (e1.trans e2) h⟩⟩
/-- for, over a list made beside a dict d that the turns write -/
theorem qd_forX {d : Addr} {φ : Heap → Prop} {tl : TE} {gg : TG} {tu tz : TS} {ds : List PD} (hd : H d = some (.ext φ)) (hl : EvD K tl σ H (.list ds)) (Pv : Nat → L2.St → Hp → Prop) (h0 : ∀ H1, Ex H H1 → Pv 0 σ H1)
    (turn : ∀ G, Ex (dropH H d) G → G d = none → ∀ i dd, ds[i]? = some dd → ∀ σ' H', Ex G H' → Pv i σ' H' → ∀ x H1, Ex H' H1 → Dp K H1 x dd → gg x σ' H1 fun σ2 H2 => tu { D with nx := nxt G Pv i, ct := nxt G Pv i, bk := tz D } σ2 H2)
    (hz : ∀ G σ' H', Ex (dropH H d) G → Ex G H' → Pv ds.length σ' H' → tz D σ' H') : tSeq (tFor (iList K tl) gg tu) tz D σ H := hl H (Ex.refl _) _ fun v H2 e2 hv => by
  have hv' := dp_drop (e2 _ _ hd) hv
  obtain ⟨a, xs, rfl, hs, hx⟩ := hv'.lst_inv
  have eG : Ex (dropH H2 d) H2 := fun b o hb => by
    unfold dropH at hb
    split at hb
    · cases hb
    · exact hb
  have eGG : Ex (dropH H d) (dropH H2 d) := fun b o hb => by
    unfold dropH at hb ⊢
    split at hb
    · cases hb
    · rename_i z
      rw [if_neg z]
      exact e2 _ _ hb
  have hGd : dropH H2 d d = none := by unfold dropH; rw [if_pos rfl]
  have j : JD K (Itl K a) (dropH H2 d) ds := jd_list hs hx
  generalize dropH H2 d = G at eG eGG hGd j hs
  refine ⟨a, rfl, ⟨xs, ex_l eG hs⟩, ?_⟩
  refine ⟨fun i m σ' H' => m = ds.length - i ∧ i ≤ ds.length ∧ Ex G H' ∧ Pv i σ' H', ⟨ds.length, by simp, Nat.zero_le _, eG, h0 _ e2⟩, ?_⟩
  rintro i m σ' H' ⟨rfl, hi, ee, p⟩
  by_cases hlt : i < ds.length
  · refine .inr ⟨j.go H' ee i hlt, nxt G Pv i, fun σ2 H2 q => ⟨ds.length - (i + 1), by omega, rfl, hlt, q⟩, fun x H2 y => ?_⟩
    obtain ⟨e2, d, hd', hdp⟩ := j.yld H' ee i x H2 hlt y
    exact turn G eGG hGd i d hd' σ' H' ee p x H2 e2 hdp
  · have e : i = ds.length := by omega
    subst e
    exact .inl ⟨j.stop H' ee, hz G σ' H' eGG ee p⟩
/-! ### _law_weights -/
structure okCells (ss : List Int) (fam : List (List Int)) (cs : List Cell) : Prop where
  k : cs.map Cell.p = KL ss fam
  b : ∀ c ∈ cs, 1 ≤ c.w ∧ c.w ≤ 10 ^ 56
def famD (fam : List (List Int)) : PD := .list (fam.map tI)
def sp__law_weights (P : Program) (w : World) (K : PySem.W.Frag) : Sp := fun vs H Q _ => ∃ (d : Addr) (x y : V) (ss : List Int) (fam : List (List Int)), vs = [.ref d, x, y] ∧ Hand P w H d ∧ Dp K H x (tI ss) ∧ Dp K H y (famD fam) ∧ okSizes ss ∧ okFam fam ∧ ∀ (d2 : Addr) H' cs, okCells ss fam cs → Ex H H' → Nd P w K H' d2 (cs.map Cell.kv) → Q (.ref d2) H'
theorem sc__law_weights : FnScope ["_law_hand_here", "_law_sizes", "_law_family", "_law_great_here", "_law_found", "_law_content", "_law_pattern"] ["_law_hand_here", "_law_sizes", "_law_family"] (defScope (top 54)) := ⟨rfl, rfl, rfl, by decide +kernel, rfl, by decide +kernel, by decide +kernel⟩
theorem ok__law_weights (C : W0 P w K mg base) : Cl P w K mg base 4 "_law_weights" ["_law_hand_here", "_law_sizes", "_law_family"] (sp__law_weights P w K) := by
  have o__law_contents := ok__law_contents C
  have o__law_great := ok__law_great C
  have o__law_weight := ok__law_weight C
  refine Cl.of C.f__law_weights C.g__law_weights sc__law_weights (fun _ _ _ _ _ _ us hl => match us, hl with | [_, _, _], _ => rfl) (fun vs H Q E h => by obtain ⟨_, _, _, _, _, rfl, _⟩ := h; rfl) fun cdv A outer s H vs Q E hr h => ?_
  obtain ⟨hd, x, y, ss, fam, rfl, hh, hx, hy, hss, hfam, k⟩ := h
  have hnd := kl_nodup hss hfam
  have hle := kl_le hss hfam
  refine ⟨_, (pss_cons (ps_par (i := 3) (j := 4) rfl sc__law_weights.nd rfl rfl (by decide) rfl rfl (pa_cons (pe_cl o__law_great hr (by decide) rfl (pa_cons (pv 0) pa_nil)) (pa_cons pe_nnew pa_nil)) (by rfl))
      (pss_cons (ps_for PassesOwn.never rfl (pi_list (pe_cl o__law_contents hr (by decide) rfl (pa_cons (pv 1) pa_nil))) (pg_name (i := 5) sc__law_weights.nd rfl (Or.inl rfl)) (pss_one (ps_for PassesOwn.never rfl (pi_list (pv 2)) (pg_name (i := 6) sc__law_weights.nd rfl (Or.inl rfl)) (pss_one (ps_nput (P := P) (w := w) (K := K) rfl rfl rfl hr.units (pv 4) (pe_tup (pa_cons (pv 5) (pa_cons (pv 6) pa_nil))) (pe_cl o__law_weight hr (by decide) rfl (pa_cons (pv 0) (pa_cons (pv 3) pa_nil))) rfl)))))
      (pss_one (ps_ret (pv 4))))), ?_⟩
  refine ⟨_, rfl, hd, rfl, hh, fun g H1 hg0 hg1 e1 => ?_⟩
  refine fun d o hdn hlo hf => ⟨_, _, rfl, ?_⟩
  have e2 : Ex H1 (upd H1 d (NdO d o)) := Ex.new hdn
  have hx := hx.ex e1
  have hy := hy.ex e1
  have hh := hh.ex e1
  have hd0 : upd H1 d (NdO d o) d = some (NdO d o) := upd_same
  have exn : Ex H1 (dropH (upd H1 d (NdO d o)) d) := fun b o' hb => by
    unfold dropH
    have z : b ≠ d := fun z => by rw [z, hdn] at hb; cases hb
    rw [if_neg z]
    exact e2 _ _ hb
  refine qd_forX (K := K) (φ := _) (ds := (contentsI ss).map tI) hd0 (ed_call (eds_cons (ed_var ⟨_, rfl, hx.ex e2⟩) eds_nil) (pu_law_contents hss)) (fun i σ' H' => ∃ z1 z2, σ' = [some (.ref hd), some x, some y, some (.int g), some (.ref d), z1, z2] ∧ ∃ cs : List Cell, Nd P w K H' d (cs.map Cell.kv) ∧ cs.map Cell.p = ((contentsI ss).take i).flatMap (rowP fam) ∧ ∀ c ∈ cs, 1 ≤ c.w ∧ c.w ≤ 10 ^ 56) (fun H2 e3 => ⟨_, _, rfl, [], (show Nd P w K (upd H1 d (NdO d o)) d [] from ⟨o, [], upd_same, hlo, hf, by simp, .nil⟩).ex e3, rfl, by simp⟩) ?_ ?_
  · rintro G eG hGd i dd hdd σ' H' e3 ⟨z1, z2, rfl, cs, hn, hc, hb⟩ q H2 e4 hq
    rw [List.getElem?_map] at hdd
    obtain ⟨c, hci, rfl⟩ := Option.map_eq_some_iff.mp hdd
    obtain ⟨hi, hie⟩ := List.getElem?_eq_some_iff.mp hci
    have eG1 := exn.trans eG
    have hdd2 : ∃ φ, H2 d = some (.ext φ) := by
      obtain ⟨o', xs, hx'⟩ := hn.ex e4
      exact ⟨_, hx'.at_⟩
    obtain ⟨φ2, hdd2⟩ := hdd2
    have hqd : Dp K (dropH H2 d) q (tI c) := dp_drop hdd2 hq
    have hGd2 : dropH H2 d d = none := by unfold dropH; rw [if_pos rfl]
    refine sd_forV (K := K) (G := dropH H2 d) (ds := fam.map tI) ?_ (wv_list ⟨_, rfl, ?_⟩) (fun j σ' H' => Ex G H' ∧ ∃ z, σ' = [some (.ref hd), some x, some y, some (.int g), some (.ref d), some q, z] ∧ ∃ cs : List Cell, Nd P w K H' d (cs.map Cell.kv) ∧ cs.map Cell.p = ((contentsI ss).take i).flatMap (rowP fam) ++ (fam.take j).map (fun p => (c, p)) ∧ ∀ c ∈ cs, 1 ≤ c.w ∧ c.w ≤ 10 ^ 56) ⟨e3.trans e4, _, rfl, cs, hn.ex e4, by rw [hc]; simp, hb⟩ ?_ ?_
    · exact fun b o hb => by
        unfold dropH at hb
        split at hb
        · cases hb
        · exact hb
    · exact dp_drop hdd2 (hy.ex (eG1.trans (e3.trans e4)))
    · rintro j d2 hd2 σ2 H3 e5 ⟨e6, z, rfl, cs, hn, hc, hb⟩ p H4 e7 hp
      rw [List.getElem?_map] at hd2
      obtain ⟨pt, hpt, rfl⟩ := Option.map_eq_some_iff.mp hd2
      obtain ⟨hj, hje⟩ := List.getElem?_eq_some_iff.mp hpt
      have hn4 := hn.ex e7
      have hh4 := hh.ex ((eG1.trans e6).trans e7)
      have hq4 : Dp K H4 q (tI c) := hqd.ex (e5.trans e7)
      have esub : (cs.map Cell.p ++ [(c, pt)]).Sublist (KL ss fam) := by
        have e1 : cs.map Cell.p ++ [(c, pt)] = ((contentsI ss).take i).flatMap (rowP fam) ++ (fam.take (j + 1)).map (fun p => (c, p)) := by
          rw [hc, List.take_succ_eq_append_getElem hj, hje, List.map_append, List.append_assoc]; rfl
        have e2 : ((contentsI ss).take (i + 1)).flatMap (rowP fam) = ((contentsI ss).take i).flatMap (rowP fam) ++ rowP fam c := by
          rw [List.take_succ_eq_append_getElem hi, hie, List.flatMap_append]; simp
        rw [e1]
        have a : (((contentsI ss).take i).flatMap (rowP fam) ++ (fam.take (j + 1)).map (fun p => (c, p))).Sublist (((contentsI ss).take (i + 1)).flatMap (rowP fam)) := by
          rw [e2]
          exact List.Sublist.append_left ((List.take_sublist _ _).map _) _
        refine a.trans ?_
        unfold KL
        conv => rhs; rw [← List.take_append_drop (i + 1) (contentsI ss)]
        rw [List.flatMap_append]
        exact List.sublist_append_left _ _
      have enew : ((cs.map Cell.p ++ [(c, pt)]).map fun p => nk (keyC p)).Nodup := hnd.sublist (esub.map _)
      have hlen : cs.length ≤ 8 := by
        have := Nat.le_trans esub.length_le hle.1
        rw [List.length_append, List.length_map] at this
        omega
      refine sr_nput (d := d) (kvs := cs.map Cell.kv) (k := keyC (c, pt)) (R := fun n => 1 ≤ n ∧ n ≤ 10 ^ 56) rfl hn4 (fun H5 e8 Q' q' => ⟨_, rfl, _, rfl, hd, g, rfl, hh4.ex e8, hg0, hg1, fun n H6 h1 h2 e9 => q' _ H6 _ ⟨n, rfl, h1, h2⟩ e9 (.int n)⟩) (ed_tup (eds_cons (d := tI c) (ed_var ⟨_, rfl, hq4⟩) (eds_cons (d := tI pt) (ed_var ⟨_, rfl, hp⟩) eds_nil)) (by simp)) tupK_key (by rw [List.length_map]; omega) ?_ tfr_key fun o' H5 n hn1 e8 hn5 => ?_
      · intro x hx
        obtain ⟨c', _, rfl⟩ := List.mem_map.mp hx
        exact tfr_key
      · rw [put_new enew] at hn5
        refine ⟨?_, ?_, _, rfl, _, hn5, ?_, ?_⟩
        · exact Ex.mut ((e5.trans e7).trans e8) hGd2
        · exact Ex.mut ((e6.trans e7).trans e8) hGd
        · rw [List.map_append, hc, List.take_succ_eq_append_getElem hj, hje, List.map_append, List.append_assoc]; rfl
        · intro c' hc'
          rcases List.mem_append.mp hc' with h | h
          · exact hb c' h
          · rw [List.mem_singleton.mp h]
            exact hn1
    · rintro σ2 H3 e5 ⟨e6, z, rfl, cs, hn, hc, hb⟩
      refine ⟨e6, _, _, rfl, cs, hn, ?_, hb⟩
      rw [List.length_map, List.take_length] at hc
      rw [hc, List.take_succ_eq_append_getElem hi, hie, List.flatMap_append]
      simp [rowP]
  · rintro G σ' H' eG e3 ⟨z1, z2, rfl, cs, hn, hc, hb⟩
    rw [List.length_map, List.take_length] at hc
    exact ⟨_, rfl, k d H' cs ⟨hc, hb⟩ ((e1.trans exn).trans (eG.trans e3)) hn⟩
end
end K61
end

section
set_option Elab.async false
set_option linter.all false
set_option maxRecDepth 100000
set_option maxHeartbeats 4000000
namespace K61
open PySem PySem.Spec PyProof.Rows L2 Evl RZ
local macro_rules | `(tactic| walk_at "evs") => `(tactic| first
  | exact ed_int | exact ed_str | exact ed_bl | exact ed_non
  | exact ed_var ⟨_, rfl, by first | assumption | exact .int _ | exact .str _ | exact .bl _ | exact .non⟩
  | exact ed_top (W0.t_ZERO (by assumption)) | exact ed_top (W0.t_ONE (by assumption))
  | refine ed_I0 ?_ ?_ | refine ed_B0 ?_ ?_ | refine ed_I ?_ ?_ ?_
  | refine ed_call ?_ ?_ | refine eds_cons ?_ ?_ | exact eds_nil
  | ((apply ed_ixT); (focus (walk_at "ev"; done)); (focus (walk_at "ev"; done)); (focus (exact rfl)); done)
  | ((apply ed_ixL); (focus (walk_at "ev"; done)); (focus (walk_at "ev"; done)); (focus (exact rfl)); done)
  | refine ed_tup ?_ ?_ | refine ed_lst ?_ ?_
  | ((refine ed_lenL ?_); (walk_at "ev"); done) | ((refine ed_lenT ?_); (walk_at "ev"); done) | refine ed_lenS ?_ ?_
  | refine ed_abs ?_ | ((refine ed_intI ?_); (walk_at "ev"); done) | refine ed_intB ?_ | refine ed_isi ?_ ?_
  | ((refine ed_eqI ?_ ?_ <;> walk_at "ev"); done) | ((refine ed_eqS ?_ ?_ <;> walk_at "ev"); done) | refine ed_neS ?_ ?_
  | refine ed_eqD ?_ ?_ ?_ ?_ | refine ed_neD ?_ ?_ ?_ ?_ | refine ed_ltD ?_ ?_ ?_ ?_ ?_
  | refine ed_isN ?_ | refine ed_notN ?_
  | refine ed_chain ?_ ?_ ?_ | refine ed_not ?_ | refine ed_and ?_ ?_ | refine ed_or ?_ ?_
  | refine ed_catS ?_ ?_ ?_ | refine ed_catT ?_ ?_ ?_
  | refine etk_D ?_ | refine etk_DB ?_ | refine etk_not ?_ | refine etk_and ?_ ?_ | refine etk_or ?_ ?_
  | exact rfl | assumption | omega | refine (fun (_ : _ = true) => ?_) | refine (fun (_ : _ = false) => ?_))
local macro_rules | `(tactic| walk_at "ev") => `(tactic| (walk_at "evs" <;> (try walk_at "ev")))

theorem kl_sorted {ss : List Int} {fam : List (List Int)} (h : okSizes ss) (h2 : okFam fam) : ((KL ss fam).map keyC).Pairwise (fun a b => PySem.W.dataLe false id a b = true) := by
  rcases h with rfl | rfl | rfl <;> rcases h2 with rfl | rfl | rfl <;> decide +kernel
theorem kl_S0 {ss : List Int} {fam : List (List Int)} (h : okSizes ss) (h2 : okFam fam) : S0 ((KL ss fam).map keyC) := by
  refine ⟨?_, ?_, .inl ?_, ?_, by rw [List.length_map]; exact Nat.le_trans (kl_le h h2).1 (by decide)⟩
  · intro d hd d' hd'
    obtain ⟨p, _, rfl⟩ := List.mem_map.mp hd
    obtain ⟨p', _, rfl⟩ := List.mem_map.mp hd'
    exact alike_place (r := ⟨p.1, p.2, 0⟩) (r' := ⟨p'.1, p'.2, 0⟩)
  · intro d hd
    obtain ⟨p, _, rfl⟩ := List.mem_map.mp hd
    exact ⟨_, rfl⟩
  · intro d hd
    obtain ⟨p, _, rfl⟩ := List.mem_map.mp hd
    exact ⟨_, _, rfl⟩
  · rcases h with rfl | rfl | rfl <;> rcases h2 with rfl | rfl | rfl <;> decide +kernel
/-- the rows of the whole -/
def totW (cs : List Cell) : Int := (cs.map Cell.w).sum
def rowC (T : Int) (c : Cell) : Row := ⟨c.ws, c.ns, mkRat c.w T.toNat⟩
def rowsC (cs : List Cell) : List Row := cs.map (rowC (totW cs))
theorem tot_le : ∀ {cs : List Cell}, (∀ c ∈ cs, 1 ≤ c.w ∧ c.w ≤ 10 ^ 56) → (cs.length : Int) ≤ totW cs ∧ totW cs ≤ cs.length * 10 ^ 56
  | [], _ => ⟨by simp [totW], by simp [totW]⟩
  | c :: cs, h => by
    have h1 := h c (List.mem_cons_self ..)
    have ih := tot_le (cs := cs) fun c hc => h c (List.mem_cons_of_mem _ hc)
    unfold totW at ih ⊢
    rw [List.map_cons, List.sum_cons, List.length_cons]
    have e : ((cs.length + 1 : Nat) : Int) * 10 ^ 56 = (cs.length : Int) * 10 ^ 56 + 10 ^ 56 := by
      rw [Int.natCast_add, Int.add_mul]; rfl
    rw [e]
    generalize (10 : Int) ^ 56 = z at *
    omega
theorem tfr_share {r : Row} : tfr (shareD r) = true := by
  have h1 := @tfr_key (r.ws, r.ns)
  have h2 : tfr (placeD r) = true := h1
  unfold shareD pair2 rt
  simp [tfr, tfrs, h2]
section
variable {P : Program} {w : World} {K : PySem.W.Frag} {mg : Str → Option Value} {base : Heap} {σ : L2.St} {H H' : Hp} {ta tb te td ty tv : TE} {E : XK} {hd : Addr} {D : Ends}
theorem tot_pos {ss : List Int} {fam : List (List Int)} {cs : List Cell} (h : okSizes ss) (h2 : okFam fam) (hc : okCells ss fam cs) : 0 < totW cs ∧ totW cs ≤ 8 * 10 ^ 56 ∧ cs.length ≤ 8 ∧ 2 ≤ cs.length := by
  have hl : cs.length = (KL ss fam).length := by rw [← hc.k, List.length_map]
  have h8 := (kl_le h h2).1
  have h2' : 2 ≤ (KL ss fam).length := by rcases h with rfl | rfl | rfl <;> rcases h2 with rfl | rfl | rfl <;> decide +kernel
  have := tot_le hc.b
  refine ⟨by omega, Int.le_trans this.2 ?_, by omega, by omega⟩
  exact Int.mul_le_mul_of_nonneg_right (by omega) (by decide +kernel)
/-! ### _law_rows -/
def sp__law_rows (P : Program) (w : World) (K : PySem.W.Frag) : Sp := fun vs H Q _ => ∃ (d : Addr) (ss : List Int) (fam : List (List Int)) (cs : List Cell), vs = [.ref d] ∧ okSizes ss ∧ okFam fam ∧ okCells ss fam cs ∧ Nd P w K H d (cs.map Cell.kv) ∧ ∀ v H', Ex H H' → Dp K H' v (.tuple ((rowsC cs).map shareD)) → Q v H'
theorem sc__law_rows : FnScope ["_law_weights_here", "_law_total", "_law_key"] ["_law_weights_here"] (defScope (top 53)) := ⟨rfl, rfl, rfl, by decide +kernel, rfl, by decide +kernel, by decide +kernel⟩
theorem ok__law_rows (C : W0 P w K mg base) : Cl P w K mg base 2 "_law_rows" ["_law_weights_here"] (sp__law_rows P w K) := by
  have o__law_low := ok__law_low C
  refine Cl.of C.f__law_rows C.g__law_rows sc__law_rows (fun _ _ _ _ _ _ us hl => match us, hl with | [_], _ => rfl) (fun vs H Q E h => by obtain ⟨_, _, _, _, rfl, _⟩ := h; rfl) fun cdv A outer s H vs Q E hr h => ?_
  obtain ⟨d, ss, fam, cs, rfl, hss, hfam, hc, hn, k⟩ := h
  have hnd : ((cs.map Cell.p).map fun p => nk (keyC p)).Nodup := by rw [hc.k]; exact kl_nodup hss hfam
  have ht := tot_pos hss hfam hc
  have hkeys : (cs.map Cell.kv).map (·.1) = cs.map fun c => keyC c.p := by rw [List.map_map]; rfl
  have hkl : (cs.map Cell.kv).map (·.1) = (KL ss fam).map keyC := by rw [hkeys, ← hc.k, List.map_map]; rfl
  refine ⟨_, (pss_cons (ps_set (i := 1) sc__law_rows.nd rfl (Or.inr rfl) (pe_callB (cr_sum rfl) (by rfl) C.n_sum (by decide +kernel) (pa_cons (pe_lc (own := [("_law_key", 2)]) rfl sc__law_rows.nd (pi_nkeys (P := P) (w := w) (K := K) rfl rfl rfl (pv 0)) (blkOk_by (N := ["_law_weights_here", "_law_total", "_law_key"]) (sc := (defScope (top 53))) (own := [("_law_key", 2)]) (by decide +kernel)) (fun _ _ _ _ _ => (pg_name (i := 2) sc__law_rows.nd rfl (Or.inl rfl))) (fun _ _ _ _ _ => pts_nil) (fun _ _ _ _ _ => (pe_nget (P := P) (w := w) (K := K) rfl rfl rfl hr.units (pv 0) (pv 2) (fun _ _ => rfl)))) pa_nil)))
      (pss_one (ps_ret (pe_callTy call_tuple_of (by rfl) C.n_tuple (by decide +kernel) (pa_cons (pe_lc (own := [("_law_key", 2)]) rfl sc__law_rows.nd (pi_list (pe_callB (cr_sortN (P := P) (w := w) (K := K) rfl rfl rfl rfl hr.units) (by rfl) C.n_sorted (by decide +kernel) (pa_cons (pv 0) pa_nil))) (blkOk_by (N := ["_law_weights_here", "_law_total", "_law_key"]) (sc := (defScope (top 53))) (own := [("_law_key", 2)]) (by decide +kernel)) (fun _ _ _ _ _ => (pg_name (i := 2) sc__law_rows.nd rfl (Or.inl rfl))) (fun _ _ _ _ _ => (pts_one (pt_cmpR op_gt (pe_nget (P := P) (w := w) (K := K) rfl rfl rfl hr.units (pv 0) (pv 2) (fun _ _ => rfl)) pe_int (nomark _)))) (fun _ _ _ _ _ => (pe_tup (pa_cons (pv 2) (pa_cons (pe_cl o__law_low hr (by decide) rfl (pa_cons (pe_nget (P := P) (w := w) (K := K) rfl rfl rfl hr.units (pv 0) (pv 2) (fun _ _ => rfl)) (pa_cons (pv 1) pa_nil))) pa_nil))))) pa_nil))))), ?_⟩
  refine qd_asg (K := K) (d := .int (totW cs)) (ed_sum ((ed_lcAM (xs := cs) (f := fun c => keyC c.p) (g := fun c => .int c.w) ?_ (by omega) (fun _ _ => rfl) (fun _ => rfl) fun H6 e8 c hcm v hv => ?_).is (by rw [show (fun c : Cell => PyData.int c.w) = PyData.int ∘ Cell.w from rfl, ← List.map_map]))) fun v1 H1 e1 h1 => ?_
  · intro H1 e R q
    obtain ⟨o, xs, nx⟩ := hn.ex e
    refine ⟨_, rfl, d, _, o, xs, rfl, nx, q _ H1 (Ex.refl _) ?_⟩
    have := jd_n nx
    rw [hkeys] at this
    exact this
  · exact ed_nget rfl (hn.ex e8) (ed_var ⟨_, rfl, hv⟩) tupK_key (get_cell hnd hcm)
  have h1' := h1.int_inv
  subst h1'
  have hn := hn.ex e1
  refine sd_ret (K := K) (d := .tuple ((rowsC cs).map shareD)) ((ed_tupL (ds := (cs.filter fun _ => true).map fun c => shareD (rowC (totW cs) c)) (ed_lcAN (xs := cs) (f := fun c => keyC c.p) (g := fun c => shareD (rowC (totW cs) c)) (wk_list ((ed_sortN rfl hn (by rw [hkl]; exact kl_S0 hss hfam)).ed.is ?_)) (fun _ => true) (by omega) (fun _ _ => ?_) (fun _ => rfl) fun H6 e8 c hcm v hv => ?_) ?_).is ?_) fun v H2 e2 hv => k v H2 (e1.trans e2) hv
  · rw [hkl, List.mergeSort_of_pairwise (kl_sorted hss hfam), ← hkl, hkeys]
  · exact tfr_share
  · have hw := (hc.b c hcm)
    have hg := ed_nget (ty := tVar 2) (σ := [some (.ref d), some (.int (totW cs)), some v]) (i := 0) rfl (hn.ex e8) (ed_var ⟨_, rfl, hv⟩) tupK_key (get_cell hnd hcm)
    refine ⟨etk_D ((ed_B0 (g := fun i j => decide (i > j)) (j := 0) hg ed_int).is (by rw [decide_eq_true (by omega)])), fun _ => ed_tup (ds := [keyC c.p, rt (mkRat c.w (totW cs).toNat)]) (eds_cons (ed_var ⟨_, rfl, hv⟩) (eds_cons ((ed_call (eds_cons hg (eds_cons (ed_var ⟨_, rfl, .int (totW cs)⟩) eds_nil)) (pu_law_low ht.1 (Int.lt_of_le_of_lt ht.2.1 (by decide +kernel)))).is (fr_rt ht.1)) eds_nil)) (by simp)⟩
  · exact tfrs_mem fun d hd => by
      obtain ⟨c, _, rfl⟩ := List.mem_map.mp hd
      exact tfr_share
  · rw [List.filter_eq_self.mpr fun _ _ => rfl]
    unfold rowsC
    rw [List.map_map]
    rfl
end
end K61
end

section
set_option Elab.async false
set_option linter.all false
set_option maxRecDepth 100000
set_option maxHeartbeats 4000000
namespace K61
open PySem PySem.Spec PyProof.Rows L2 Evl RZ SX
local macro_rules | `(tactic| walk_at "evs") => `(tactic| first
  | exact ed_int | exact ed_str | exact ed_bl | exact ed_non
  | exact ed_var ⟨_, rfl, by first | assumption | exact .int _ | exact .str _ | exact .bl _ | exact .non⟩
  | exact ed_top (W0.t_ZERO (by assumption)) | exact ed_top (W0.t_ONE (by assumption))
  | refine ed_I0 ?_ ?_ | refine ed_B0 ?_ ?_ | refine ed_I ?_ ?_ ?_
  | refine ed_call ?_ ?_ | refine eds_cons ?_ ?_ | exact eds_nil
  | ((apply ed_ixT); (focus (walk_at "ev"; done)); (focus (walk_at "ev"; done)); (focus (exact rfl)); done)
  | ((apply ed_ixL); (focus (walk_at "ev"; done)); (focus (walk_at "ev"; done)); (focus (exact rfl)); done)
  | refine ed_tup ?_ ?_ | refine ed_lst ?_ ?_
  | ((refine ed_lenL ?_); (walk_at "ev"); done) | ((refine ed_lenT ?_); (walk_at "ev"); done) | refine ed_lenS ?_ ?_
  | refine ed_abs ?_ | ((refine ed_intI ?_); (walk_at "ev"); done) | refine ed_intB ?_ | refine ed_isi ?_ ?_
  | ((refine ed_eqI ?_ ?_ <;> walk_at "ev"); done) | ((refine ed_eqS ?_ ?_ <;> walk_at "ev"); done) | refine ed_neS ?_ ?_
  | refine ed_eqD ?_ ?_ ?_ ?_ | refine ed_neD ?_ ?_ ?_ ?_ | refine ed_ltD ?_ ?_ ?_ ?_ ?_
  | refine ed_isN ?_ | refine ed_notN ?_
  | refine ed_chain ?_ ?_ ?_ | refine ed_not ?_ | refine ed_and ?_ ?_ | refine ed_or ?_ ?_
  | refine ed_catS ?_ ?_ ?_ | refine ed_catT ?_ ?_ ?_
  | refine etk_D ?_ | refine etk_DB ?_ | refine etk_not ?_ | refine etk_and ?_ ?_ | refine etk_or ?_ ?_
  | exact rfl | assumption | omega | refine (fun (_ : _ = true) => ?_) | refine (fun (_ : _ = false) => ?_))
local macro_rules | `(tactic| walk_at "ev") => `(tactic| (walk_at "evs" <;> (try walk_at "ev")))

section
variable {P : Program} {w : World} {K : PySem.W.Frag} {mg : Str → Option Value} {base : Heap} {σ : L2.St} {H H' : Hp} {ta tb te td ty tv : TE} {E : XK} {hd : Addr} {D : Ends}
/-! ### _law_is_due -/
def okDue (d : PD) : Prop := d = .none ∨ ∃ a b : Int, d = .tuple [.int a, .int b]
def R_law_is_due (ds : List PD) (d : PD) : Prop := ∃ x, okDue x ∧ ds = [x, x] ∧ d = .bool true
abbrev sp__law_is_due (K : PySem.W.Frag) : Sp := spD K R_law_is_due
theorem pu_law_is_due {x : PD} (h : okDue x) : Pure K (sp__law_is_due K) [x, x] (.bool true) := spD_pure ⟨_, h, rfl, rfl⟩
theorem sc__law_is_due : FnScope ["_law_told_here", "_law_due", "_law_part"] ["_law_told_here", "_law_due"] (defScope (top 55)) := ⟨rfl, rfl, rfl, by decide +kernel, rfl, by decide +kernel, by decide +kernel⟩
theorem ok__law_is_due (C : W0 P w K mg base) : Cl P w K mg base 1 "_law_is_due" ["_law_told_here", "_law_due"] (sp__law_is_due K) := by
  refine Cl.of C.f__law_is_due C.g__law_is_due sc__law_is_due (fun _ _ _ _ _ _ us hl => match us, hl with | [_, _], _ => rfl) (fun vs H Q E h => by obtain ⟨ds, d, ⟨_, _, rfl, rfl⟩, hd, _⟩ := h; exact hd.length) fun cdv A outer s H vs Q E hr h => ?_
  obtain ⟨_, _, ⟨x, hx, rfl, rfl⟩, hd, k⟩ := h
  obtain ⟨v, u, rfl, h0, h1⟩ := hd.two_inv
  refine ⟨_, (pss_cons (ps_if (pt_cmpR op_isN (pv 1) pe_non (nomark _)) (pss_one (ps_ret (pe_cmpR op_isN (pv 0) pe_non (nomark _)))) pss_nil)
      (pss_cons (ps_if (PW.pt (pw_or (pt_not (pt_val (pe_isi (Tn := "tuple") C.n_isinstance C.n_tuple (pv 0)))) (pw_or (pt_cmpR op_ne (pe_callB call_len_seq (by rfl) C.n_len (by decide +kernel) (pa_cons (pv 0) pa_nil)) pe_int (nomark _)) (pw_or1 (pt_cmpR (op_neD hr.units) (pv 0) (pv 1) (nomark _)))))) (pss_one (ps_ret pe_bl)) pss_nil)
      (pss_one (ps_ret (pe_callB (cr_all rfl) (by rfl) C.n_all (by decide +kernel) (pa_cons (pe_lc (own := [("_law_part", 2)]) rfl sc__law_is_due.nd (pi_tup (pv 0)) (blkOk_by (N := ["_law_told_here", "_law_due", "_law_part"]) (sc := (defScope (top 55))) (own := [("_law_part", 2)]) (by decide +kernel)) (fun _ _ _ _ _ => (pg_name (i := 2) sc__law_is_due.nd rfl (Or.inl rfl))) (fun _ _ _ _ _ => pts_nil) (fun _ _ _ _ _ => (pe_and (pe_isiK (K0 := K) rfl (Tn := "int") C.n_isinstance C.n_int (pv 2)) (pe_one (pe_not (pe_isiK (K0 := K) rfl (Tn := "bool") C.n_isinstance C.n_bool (pv 2))))))) pa_nil)))))), ?_⟩
  rcases hx with rfl | ⟨a, b, rfl⟩
  · refine kq_take K (etk_D (ed_isN (d := .none) (ed_var ⟨_, rfl, h1⟩))) fun H1 e1 => ?_
    exact sd_ret (K := K) (d := .bool true) (ed_isN (d := .none) (ed_var ⟨_, rfl, h0.ex e1⟩)) fun v H2 e2 hv => k v H2 (e1.trans e2) hv
  · refine kq_skip K (etk_D (ed_isN (d := .tuple [.int a, .int b]) (ed_var ⟨_, rfl, h1⟩))) fun H1 e1 => ?_
    have h0 := h0.ex e1
    have h1 := h1.ex e1
    refine kq_skip K (etk_or (a := false) (b := false) (etk_not (a := true) (etk_D (ed_isi (ed_var ⟨_, rfl, h0⟩) k_tt))) fun _ => etk_or (a := false) (b := false) (etk_D ((ed_ne (.int _) (.int _) (ed_lenT (ed_var ⟨_, rfl, h0⟩)) ed_int rfl).is (by simp))) fun _ => etk_D ((ed_neD (ed_var ⟨_, rfl, h0⟩) (ed_var ⟨_, rfl, h1⟩) ?_ ?_).is ?_)) fun H2 e2 => ?_
    · rfl
    · rfl
    · simp [PyData.eqv, PyData.eqvAll]
    have h0 := h0.ex e2
    refine sd_ret (K := K) (d := .bool (([a, b].map fun _ => true).all id)) (ed_all ((ed_lcAM (xs := [a, b]) (f := PyData.int) (g := fun _ => .bool true) (wk_tup (ed_var ⟨_, rfl, h0⟩)) (by simp) (fun _ _ => rfl) (fun _ => rfl) fun H6 e8 c hc v hv => ?_).is (by rw [List.map_map]; rfl))) fun v H3 e3 hv => k v H3 ((e1.trans e2).trans e3) hv
    exact ed_and (a := true) (b := !false) (ed_isi (ed_var ⟨_, rfl, hv⟩) k_ii) fun _ => ed_not (ed_isi (ed_var ⟨_, rfl, hv⟩) k_ib)
/-! ### _law_atom -/
def sp__law_atom (P : Program) (w : World) (K : PySem.W.Frag) : Sp := fun vs H Q _ => ∃ (d : Addr) (x : V) (ss : List Int), vs = [.ref d, x] ∧ Hand P w H d ∧ okSizes ss ∧ Dp K H x (tI ss) ∧ ∀ (a : Atom) H', a.ok ss → Ex H H' → Q (.str (S a.cps)) H'
theorem sc__law_atom : FnScope ["_law_hand_here", "_law_sizes", "_law_column", "_law_worth"] ["_law_hand_here", "_law_sizes"] (defScope (top 56)) := ⟨rfl, rfl, rfl, by decide +kernel, rfl, by decide +kernel, by decide +kernel⟩
theorem ok__law_atom (C : W0 P w K mg base) : Cl P w K mg base 3 "_law_atom" ["_law_hand_here", "_law_sizes"] (sp__law_atom P w K) := by
  have o__law_any := ok__law_any C
  have o__law_draw := ok__law_draw C
  refine Cl.of C.f__law_atom C.g__law_atom sc__law_atom (fun _ _ _ _ _ _ us hl => match us, hl with | [_, _], _ => rfl) (fun vs H Q E h => by obtain ⟨_, _, _, rfl, _⟩ := h; rfl) fun cdv A outer s H vs Q E hr h => ?_
  obtain ⟨d, x, ss, rfl, hh, hss, hx, k⟩ := h
  have hx : Dp K H x (.tuple (ss.map PyData.int)) := hx
  have hl : 1 ≤ ss.length ∧ ss.length ≤ 2 := by rcases hss with rfl | rfl | rfl <;> decide
  refine ⟨_, (pss_cons (ps_set (i := 2) sc__law_atom.nd rfl (Or.inl rfl) (pe_cl o__law_draw hr (by decide) rfl (pa_cons (pv 0) (pa_cons (pe_callB call_len_seq (by rfl) C.n_len (by decide +kernel) (pa_cons (pv 1) pa_nil)) pa_nil))))
      (pss_cons (ps_set (i := 3) sc__law_atom.nd rfl (Or.inl rfl) (pe_op op_add_str (pe_op op_add_str (pe_op op_add_str pe_str (pe_callTy call_str_int (by rfl) C.n_str (by decide +kernel) (pa_cons (pv 2) pa_nil))) pe_str) (pe_callTy call_str_int (by rfl) C.n_str (by decide +kernel) (pa_cons (pe_cl o__law_draw hr (by decide) rfl (pa_cons (pv 0) (pa_cons (pe_ix ix_tup (pv 1) (pv 2) (fun _ _ => rfl)) pa_nil))) pa_nil))))
      (pss_one (ps_ret (pe_cl o__law_any hr (by decide) rfl (pa_cons (pv 0) (pa_cons (pe_lst (pa_cons (pv 3) (pa_cons (pv 3) (pa_cons (pe_op op_add_str pe_str (pe_callTy call_str_int (by rfl) C.n_str (by decide +kernel) (pa_cons (pv 2) pa_nil))) (pa_cons pe_str (pa_cons pe_str pa_nil)))))) pa_nil))))))), ?_⟩
  have hstr' : ∀ n : Nat, n < 4 → (toString (n : Int) : Str) = S [48 + n] ∧ ((n : Nat) : Int).natAbs.log2 < 1920 := by
    intro n hn
    match n, hn with
    | 0, _ => exact ⟨by decide, by decide⟩
    | 1, _ => exact ⟨by decide, by decide⟩
    | 2, _ => exact ⟨by decide, by decide⟩
    | 3, _ => exact ⟨by decide, by decide⟩
  refine qr_asg (K := K) (er_drawD rfl hh ((ed_lenT (ed_var ⟨_, rfl, hx⟩)).is rfl) (by rw [List.length_map]; exact ⟨by omega, Int.lt_of_lt_of_le (b := 101) (by omega) (by decide +kernel)⟩)) fun v H1 dd hdd e1 hv => ?_
  obtain ⟨i, rfl, hi0, hi1⟩ := hdd
  rw [List.length_map] at hi1
  have hv' := hv.int_inv
  subst hv'
  obtain ⟨c, rfl⟩ : ∃ c : Nat, i = c := ⟨i.toNat, by omega⟩
  have hc : c < ss.length := by omega
  have hc2 : c < 2 := by omega
  have hx := hx.ex e1
  have hh := hh.ex e1
  have hsz := hss.mem (List.getElem_mem hc)
  have hstr : ∀ {te : TE} {σ : L2.St} {H : Hp} {n : Nat}, n < 4 → EvD K te σ H (.int n) → EvD K (tCB (fun xs H Q => ∃ i, xs = [.int i] ∧ i.natAbs.log2 < 1920 ∧ Q (.str (toString i)) H) (tCons te tNil)) σ H (.str (S [48 + n])) := by
    intro te σ H n hn h
    exact (ed_strI h (hstr' n hn).2).is (congrArg PyData.str (hstr' n hn).1)
  refine qr_asg (K := K) (R := RS' fun y => ∃ m : Nat, (m : Int) < ss[c] ∧ y = S [99, 48 + c, 61, 48 + m]) (er_catS (A := fun y => y = S [99, 48 + c, 61]) (B := fun y => ∃ m : Nat, (m : Int) < ss[c] ∧ y = S [48 + m]) (er_D ((ed_catS (x := S [99, 48 + c]) (y := "=") ((ed_catS (x := "c") (y := S [48 + c]) ed_str (hstr (n := c) (by omega) (ed_var ⟨_, rfl, .int _⟩)) (by simp [S_len, Str.length]; decide)).is ?_) ed_str (by simp [S_len, Str.length]; decide)).is ?_) ⟨_, rfl, rfl⟩) ?_ ?_) fun v H2 dd hdd e2 hv => ?_
  · exact congrArg PyData.str (S_cat [99] [48 + c])
  · exact congrArg PyData.str (S_cat [99, 48 + c] [61])
  · refine fun H3 e3 Q' q' => (er_drawD (m := ss[c]) rfl hh (ed_ixT (ds := ss.map PyData.int) (i := (c : Int)) (ed_var ⟨_, rfl, hx⟩) (ed_var ⟨_, rfl, .int _⟩) (atI_nat (by rw [List.getElem?_map, List.getElem?_eq_getElem hc]; rfl))) ⟨by omega, Int.lt_of_lt_of_le (b := 101) (by omega) (by decide +kernel)⟩) H3 e3 _ fun v H4 dd hdd e4 hv => ?_
    obtain ⟨r, rfl, hr0, hr1⟩ := hdd
    obtain ⟨m, rfl⟩ : ∃ m : Nat, r = m := ⟨r.toNat, by omega⟩
    have := ss
    exact ⟨_, by rw [hv.int_inv], (hstr' m (by omega)).2, q' _ H4 _ ⟨_, (congrArg _ (hstr' m (by omega)).1), m, hr1, rfl⟩ e4 (.str _)⟩
  · rintro a b rfl ⟨m, hm, rfl⟩
    exact ⟨by rw [S_len, S_len]; simp, m, hm, S_cat _ _⟩
  obtain ⟨y, rfl, m, hm, rfl⟩ := hdd
  have hv' := hv.str_inv
  subst hv'
  refine sr_ret (K := K) (er_anyD (ds := [.str (S [99, 48 + c, 61, 48 + m]), .str (S [99, 48 + c, 61, 48 + m]), .str (S [98, 48 + c]), .str "yes", .str "no"]) rfl (hh.ex e2) (ed_lst (eds_cons (ed_var ⟨_, rfl, .str _⟩) (eds_cons (ed_var ⟨_, rfl, .str _⟩) (eds_cons ((ed_catS (x := "b") (y := S [48 + c]) ed_str (hstr (n := c) (by omega) (ed_var ⟨_, rfl, .int _⟩)) (by simp [S_len, Str.length]; decide)).is (congrArg PyData.str (S_cat [98] [48 + c]))) (eds_cons ed_str (eds_cons ed_str eds_nil))))) (by simp)) (by simp)) fun v H3 x hx e3 hv => ?_
  have e13 := (e1.trans e2).trans e3
  simp only [List.mem_cons, List.not_mem_nil, or_false] at hx
  rcases hx with rfl | rfl | rfl | rfl | rfl
  · rw [hv.str_inv]; exact k (.worth c m) H3 ⟨_, List.getElem?_eq_getElem hc, hm⟩ e13
  · rw [hv.str_inv]; exact k (.worth c m) H3 ⟨_, List.getElem?_eq_getElem hc, hm⟩ e13
  · rw [hv.str_inv]; exact k (.blank c) H3 hc e13
  · rw [hv.str_inv]; exact k .yes H3 trivial e13
  · rw [hv.str_inv]; exact k .no H3 trivial e13
end
end K61
end

section
set_option Elab.async false
set_option linter.all false
set_option maxRecDepth 100000
set_option maxHeartbeats 4000000
namespace K61
open PySem PySem.Spec PyProof.Rows L2 Evl RZ SX
local macro_rules | `(tactic| walk_at "evs") => `(tactic| first
  | exact ed_int | exact ed_str | exact ed_bl | exact ed_non
  | exact ed_var ⟨_, rfl, by first | assumption | exact .int _ | exact .str _ | exact .bl _ | exact .non⟩
  | exact ed_top (W0.t_ZERO (by assumption)) | exact ed_top (W0.t_ONE (by assumption))
  | refine ed_I0 ?_ ?_ | refine ed_B0 ?_ ?_ | refine ed_I ?_ ?_ ?_
  | refine ed_call ?_ ?_ | refine eds_cons ?_ ?_ | exact eds_nil
  | ((apply ed_ixT); (focus (walk_at "ev"; done)); (focus (walk_at "ev"; done)); (focus (exact rfl)); done)
  | ((apply ed_ixL); (focus (walk_at "ev"; done)); (focus (walk_at "ev"; done)); (focus (exact rfl)); done)
  | refine ed_tup ?_ ?_ | refine ed_lst ?_ ?_
  | ((refine ed_lenL ?_); (walk_at "ev"); done) | ((refine ed_lenT ?_); (walk_at "ev"); done) | refine ed_lenS ?_ ?_
  | refine ed_abs ?_ | ((refine ed_intI ?_); (walk_at "ev"); done) | refine ed_intB ?_ | refine ed_isi ?_ ?_
  | ((refine ed_eqI ?_ ?_ <;> walk_at "ev"); done) | ((refine ed_eqS ?_ ?_ <;> walk_at "ev"); done) | refine ed_neS ?_ ?_
  | refine ed_eqD ?_ ?_ ?_ ?_ | refine ed_neD ?_ ?_ ?_ ?_ | refine ed_ltD ?_ ?_ ?_ ?_ ?_
  | refine ed_isN ?_ | refine ed_notN ?_
  | refine ed_chain ?_ ?_ ?_ | refine ed_not ?_ | refine ed_and ?_ ?_ | refine ed_or ?_ ?_
  | refine ed_catS ?_ ?_ ?_ | refine ed_catT ?_ ?_ ?_
  | refine etk_D ?_ | refine etk_DB ?_ | refine etk_not ?_ | refine etk_and ?_ ?_ | refine etk_or ?_ ?_
  | exact rfl | assumption | omega | refine (fun (_ : _ = true) => ?_) | refine (fun (_ : _ = false) => ?_))
local macro_rules | `(tactic| walk_at "ev") => `(tactic| (walk_at "evs" <;> (try walk_at "ev")))

section
variable {P : Program} {w : World} {K : PySem.W.Frag} {mg : Str → Option Value} {base : Heap} {σ : L2.St} {H H' : Hp} {ta tb te td ty tv tn : TE} {E : XK} {hd : Addr} {D : Ends}
def LR (K : PySem.W.Frag) (te : TE) (σ : L2.St) (H : Hp) (N : Int → Prop) (A : Str → Prop) : Prop := ∀ H1, Ex H H1 → ∀ Q : VK, (∀ b (ys : List Str) H2 n, N n → (ys.length : Int) = n → (∀ y ∈ ys, A y) → Ex H1 H2 → H1 b = none → H2 b = some (.lst (ys.map V.str)) → Q (.ref b) H2) → te σ H1 Q
theorem ql_asg {tz : TS} {i : Nat} {N : Int → Prop} {A : Str → Prop} (h : LR K te σ H N A) (k : ∀ b (ys : List Str) H2 n, N n → (ys.length : Int) = n → (∀ y ∈ ys, A y) → Ex H H2 → H b = none → H2 b = some (.lst (ys.map V.str)) → tz D (σ.set i (some (.ref b))) H2) : tSeq (tAsg te (gName i)) tz D σ H := h H (Ex.refl _) _ k
/-- a list of texts of a set, as long as a number of a set -/
theorem lr_lcS {A : Str → Prop} {N : Int → Prop} {vs : List Nat} {j : Nat} (hn : EvR K tn σ H (RI N)) (hN : ∀ n, N n → 0 ≤ n ∧ n ≤ 1000) (hwp : ∀ x, wipe ((wipe σ vs).set j (some x)) vs = wipe σ vs)
    (turn : ∀ H0, Ex H H0 → ∀ x, EvR K te ((wipe σ vs).set j (some x)) H0 (RS' A)) : LR K (tLc (iRng1 (tCons tn tNil)) (gName j) tYes te vs) σ H N A := fun H0 e0 Q q => hn H0 e0 _ fun v H1 dd hdd e1 hv => by
  obtain ⟨n, rfl, hn⟩ := hdd
  have hv' := hv.int_inv
  subst hv'
  have hb := hN n hn
  refine ⟨n, rfl, by omega, by omega, ?_⟩
  intro Dl hD
  have jj : JD K (Itr 0 n.toNat) H1 (intD 0 n.toNat) := jd_range
  have hil : (intD 0 n.toNat).length = n.toNat := intD_len
  refine ⟨fun i m H' => m = n.toNat - i ∧ i ≤ n.toNat ∧ Ex H1 H' ∧ ∃ acc : List Str, H' Dl = some (.lst (acc.map V.str)) ∧ acc.length = i ∧ ∀ y ∈ acc, A y, ⟨n.toNat, by simp, Nat.zero_le _, Ex.new hD, [], upd_same, rfl, by simp⟩, ?_⟩
  rintro i m H' ⟨rfl, hi, ee, acc, ha, hal, hA⟩
  by_cases hlt : i < n.toNat
  · refine .inr ⟨jj.go H' ee i (by rw [hil]; exact hlt), fun H2 => Ex H1 H2 ∧ ∃ acc : List Str, H2 Dl = some (.lst (acc.map V.str)) ∧ acc.length = i + 1 ∧ ∀ y ∈ acc, A y, fun H2 ⟨q1, q2⟩ => ⟨n.toNat - (i + 1), by omega, rfl, hlt, q1, q2⟩, fun x H2 y => ?_⟩
    obtain ⟨e2, d, hd', hdp⟩ := jj.yld H' ee i x H2 (by rw [hil]; exact hlt) y
    refine ⟨hwp x, et_yes (K := K) H2 (Ex.refl _) _ fun H3 e3 => ?_⟩
    refine turn H2 (((e0.trans e1).trans ee).trans e2) x H3 e3 _ fun v H4 d4 hd4 e4 hv4 => ?_
    obtain ⟨y, rfl, hy⟩ := hd4
    have hv' := hv4.str_inv
    subst hv'
    refine ⟨acc.map V.str, e4 _ _ (e3 _ _ (e2 _ _ ha)), sz_lt (by rw [List.length_map]; omega), Ex.mut (((ee.trans e2).trans e3).trans e4) hD, acc ++ [y], ?_, by rw [List.length_append, hal]; rfl, ?_⟩
    · rw [upd_same, List.map_append]; rfl
    · intro z hz
      rcases List.mem_append.mp hz with h | h
      · exact hA z h
      · rw [List.mem_singleton.mp h]; exact hy
  · have e : i = n.toNat := by omega
    subst e
    refine .inl ⟨?_, q Dl acc H' n hn (by omega) hA (e1.trans ee) (fresh_back e1 hD) ha⟩
    have := jj.stop H' ee
    rw [hil] at this
    exact this
/-! ### the deep record -/
structure Deep where
  kind : Nat
  many : Nat
  atoms : List Atom
  joints : List Bool
def jS (b : Bool) : Str := if b then "and" else "or"
structure Deep.ok (ss : List Int) (x : Deep) : Prop where
  k : x.kind < 6
  m : 1 ≤ x.many ∧ x.many ≤ 3000
  a : 1 ≤ x.atoms.length ∧ x.atoms.length ≤ 10
  j : 1 ≤ x.joints.length ∧ x.joints.length ≤ 10
  oks : ∀ a ∈ x.atoms, a.ok ss
def Deep.atom (x : Deep) (i : Nat) : Atom := x.atoms.getD (i % x.atoms.length) .yes
def Deep.joint (x : Deep) (i : Nat) : Bool := x.joints.getD (i % x.joints.length) true
def dkv (x : Deep) (a j : Addr) : List (Key × V) := [(.inr "kind", .int (x.kind : Nat)), (.inr "many", .int (x.many : Nat)), (.inr "atoms", .ref a), (.inr "joints", .ref j)]
def DeepX (H : Hp) (d : Addr) (x : Deep) (a j : Addr) : Prop := H d = some (.dK (dkv x a j)) ∧ H a = some (.lst ((x.atoms.map fun a => S a.cps).map V.str)) ∧ H j = some (.lst ((x.joints.map jS).map V.str))
def DeepAt (H : Hp) (d : Addr) (x : Deep) : Prop := ∃ a j, DeepX H d x a j
theorem DeepAt.ex {d : Addr} {x : Deep} (e : Ex H H') (h : DeepAt H d x) : DeepAt H' d x := let ⟨a, j, h1, h2, h3⟩ := h; ⟨a, j, e _ _ h1, e _ _ h2, e _ _ h3⟩
theorem dp_strs {b : Addr} {ys : List Str} (h : H b = some (.lst (ys.map V.str))) : Dp K H (.ref b) (.list (ys.map PyData.str)) := .lst (sq_of h) dps_strs'
/-! ### _law_deep -/
def sp__law_deep (P : Program) (w : World) (K : PySem.W.Frag) : Sp := fun vs H Q _ => ∃ (d : Addr) (x : V) (ss : List Int), vs = [.ref d, x] ∧ Hand P w H d ∧ okSizes ss ∧ Dp K H x (tI ss) ∧ ∀ (d2 : Addr) (p : Deep) H', p.ok ss → DeepAt H' d2 p → Ex H H' → Q (.ref d2) H'
theorem sc__law_deep : FnScope ["_law_hand_here", "_law_sizes", "_law_many", "_law_atoms", "_law_joints", "_law_turn"] ["_law_hand_here", "_law_sizes"] (defScope (top 57)) := ⟨rfl, rfl, rfl, by decide +kernel, rfl, by decide +kernel, by decide +kernel⟩
theorem ok__law_deep (C : W0 P w K mg base) : Cl P w K mg base 4 "_law_deep" ["_law_hand_here", "_law_sizes"] (sp__law_deep P w K) := by
  have o__law_any := ok__law_any C
  have o__law_atom := ok__law_atom C
  have o__law_draw := ok__law_draw C
  refine Cl.of C.f__law_deep C.g__law_deep sc__law_deep (fun _ _ _ _ _ _ us hl => match us, hl with | [_, _], _ => rfl) (fun vs H Q E h => by obtain ⟨_, _, _, rfl, _⟩ := h; rfl) fun cdv A outer s H vs Q E hr h => ?_
  obtain ⟨d, x, ss, rfl, hh, hss, hx, k⟩ := h
  refine ⟨_, (pss_cons (ps_set (i := 2) sc__law_deep.nd rfl (Or.inl rfl) (pe_cl o__law_any hr (by decide) rfl (pa_cons (pv 0) (pa_cons (pe_lst (pa_cons pe_int (pa_cons pe_int (pa_cons pe_int (pa_cons pe_int (pa_cons (pe_op op_add pe_int (pe_cl o__law_draw hr (by decide) rfl (pa_cons (pv 0) (pa_cons pe_int pa_nil)))) pa_nil)))))) pa_nil))))
      (pss_cons (ps_setLc (i := 3) (own := [("_law_turn", 5)]) rfl sc__law_deep.nd rfl rfl (sw_true rfl rfl rfl (by decide +kernel)) (pi_range1 rfl C.n_range (pa_cons (pe_op op_add pe_int (pe_cl o__law_draw hr (by decide) rfl (pa_cons (pv 0) (pa_cons pe_int pa_nil)))) pa_nil)) (blkOk_by (N := ["_law_hand_here", "_law_sizes", "_law_many", "_law_atoms", "_law_joints", "_law_turn"]) (sc := (defScope (top 57))) (own := [("_law_turn", 5)]) (by decide +kernel)) (fun _ _ _ _ _ => (pg_name (i := 5) sc__law_deep.nd rfl (Or.inl rfl))) (fun _ _ _ _ _ => pts_nil) (fun _ _ _ _ _ => (pe_cl o__law_atom hr (by decide) rfl (pa_cons (pv 0) (pa_cons (pv 1) pa_nil)))))
      (pss_cons (ps_setLc (i := 4) (own := [("_law_turn", 5)]) rfl sc__law_deep.nd rfl rfl (sw_true rfl rfl rfl (by decide +kernel)) (pi_range1 rfl C.n_range (pa_cons (pe_op op_add pe_int (pe_cl o__law_draw hr (by decide) rfl (pa_cons (pv 0) (pa_cons pe_int pa_nil)))) pa_nil)) (blkOk_by (N := ["_law_hand_here", "_law_sizes", "_law_many", "_law_atoms", "_law_joints", "_law_turn"]) (sc := (defScope (top 57))) (own := [("_law_turn", 5)]) (by decide +kernel)) (fun _ _ _ _ _ => (pg_name (i := 5) sc__law_deep.nd rfl (Or.inl rfl))) (fun _ _ _ _ _ => pts_nil) (fun _ _ _ _ _ => (pe_cl o__law_any hr (by decide) rfl (pa_cons (pv 0) (pa_cons (pe_lst (pa_cons pe_str (pa_cons pe_str pa_nil))) pa_nil)))))
      (pss_one (ps_ret (pe_disp (pps_cons pe_str (pe_cl o__law_draw hr (by decide) rfl (pa_cons (pv 0) (pa_cons pe_int pa_nil))) (pps_cons pe_str (pv 2) (pps_cons pe_str (pv 3) (pps_cons pe_str (pv 4) pps_nil)))) rfl rfl (by simp) (by decide))))))), ?_⟩
  refine qr_asg (K := K) (R := RI fun i => 1 ≤ i ∧ i ≤ 3000) ((er_any (L := fun ds => ∃ i : Int, 1 ≤ i ∧ i ≤ 3000 ∧ ds = [.int 1, .int 2, .int 30, .int 1100, .int i]) rfl hh ?_ ?_).imp ?_) fun v H1 dd hdd e1 hv => ?_
  · refine (er_lst (ers_cons (er_D (R := fun d => d = .int 1) ed_int rfl) (ers_cons (er_D (R := fun d => d = .int 2) ed_int rfl) (ers_cons (er_D (R := fun d => d = .int 30) ed_int rfl) (ers_cons (er_D (R := fun d => d = .int 1100) ed_int rfl) (ers_cons (er_I0 (A := fun i => i = 1) (B := fun r => 0 ≤ r ∧ r < 3000) (R := fun i => 1 ≤ i ∧ i ≤ 3000) (er_D ed_int ⟨_, rfl, rfl⟩) (er_drawD rfl hh ed_int (by decide)) (by rintro i j rfl h; omega)) ers_nil))))) ?_).imp ?_
    · rintro ds ⟨a, es, rfl, rfl, b, es, rfl, rfl, c, es, rfl, rfl, c', es, rfl, rfl, e, es, rfl, _, rfl⟩
      simp
    · rintro dd ⟨ds, rfl, a, es, rfl, rfl, b, es, rfl, rfl, c, es, rfl, rfl, c', es, rfl, rfl, e, es, rfl, ⟨i, rfl, h1, h2⟩, rfl⟩
      exact ⟨_, rfl, i, h1, h2, rfl⟩
  · rintro ds ⟨i, _, _, rfl⟩
    simp
  · rintro dd ⟨ds, ⟨i, h1, h2, rfl⟩, hm⟩
    simp only [List.mem_cons, List.not_mem_nil, or_false] at hm
    rcases hm with rfl | rfl | rfl | rfl | rfl
    · exact ⟨_, rfl, by decide, by decide⟩
    · exact ⟨_, rfl, by decide, by decide⟩
    · exact ⟨_, rfl, by decide, by decide⟩
    · exact ⟨_, rfl, by decide, by decide⟩
    · exact ⟨_, rfl, h1, h2⟩
  obtain ⟨many, rfl, hm1, hm2⟩ := hdd
  have hv' := hv.int_inv
  subst hv'
  have hh1 := hh.ex e1
  have hx1 := hx.ex e1
  refine ql_asg (K := K) (N := fun n => 1 ≤ n ∧ n ≤ 4) (A := fun y => ∃ a : Atom, a.ok ss ∧ y = S a.cps) (lr_lcS ?_ (fun n hn => by omega) (fun _ => rfl) ?_) fun b1 ys1 H2 n1 hn1 hl1 hA1 e2 hb1 hbl1 => ?_
  · exact er_I0 (A := fun i => i = 1) (B := fun r => 0 ≤ r ∧ r < 4) (er_D ed_int ⟨_, rfl, rfl⟩) (er_drawD rfl hh1 ed_int (by decide)) (by rintro i j rfl h; omega)
  · intro H0 e0 z H3 e3 Q' q'
    exact ⟨_, rfl, _, rfl, d, x, ss, rfl, hh1.ex (e0.trans e3), hss, hx1.ex (e0.trans e3), fun a H4 ha e4 => q' _ H4 _ ⟨_, rfl, a, ha, rfl⟩ e4 (.str _)⟩
  have hh2 := hh1.ex e2
  refine ql_asg (K := K) (N := fun n => 1 ≤ n ∧ n ≤ 5) (A := fun y => ∃ b : Bool, y = jS b) (lr_lcS ?_ (fun n hn => by omega) (fun _ => rfl) ?_) fun b2 ys2 H3 n2 hn2 hl2 hA2 e3 hb2 hbl2 => ?_
  · exact er_I0 (A := fun i => i = 1) (B := fun r => 0 ≤ r ∧ r < 5) (er_D ed_int ⟨_, rfl, rfl⟩) (er_drawD rfl hh2 ed_int (by decide)) (by rintro i j rfl h; omega)
  · intro H0 e0 z
    refine (er_anyD (ds := [.str "and", .str "or"]) rfl (hh2.ex e0) (ed_lst (eds_cons ed_str (eds_cons ed_str eds_nil)) (by simp)) (by simp)).imp fun x hx => ?_
    simp only [List.mem_cons, List.not_mem_nil, or_false] at hx
    rcases hx with rfl | rfl
    · exact ⟨_, rfl, true, rfl⟩
    · exact ⟨_, rfl, false, rfl⟩
  have hh3 := hh2.ex e3
  have e03 := (e1.trans e2).trans e3
  obtain ⟨as, has, hao⟩ : ∃ as : List Atom, ys1 = as.map (fun a => S a.cps) ∧ ∀ a ∈ as, a.ok ss := by
    clear hbl1 hl1
    induction ys1 with
    | nil => exact ⟨[], rfl, by simp⟩
    | cons y ys ih =>
      obtain ⟨a, ha, rfl⟩ := hA1 y (List.mem_cons_self ..)
      obtain ⟨as, rfl, h⟩ := ih fun y hy => hA1 y (List.mem_cons_of_mem _ hy)
      exact ⟨a :: as, rfl, fun z hz => by rcases List.mem_cons.mp hz with rfl | hz; exact ha; exact h z hz⟩
  obtain ⟨js, hjs⟩ : ∃ js : List Bool, ys2 = js.map jS := by
    clear hbl2 hl2
    induction ys2 with
    | nil => exact ⟨[], rfl⟩
    | cons y ys ih =>
      obtain ⟨a, rfl⟩ := hA2 y (List.mem_cons_self ..)
      obtain ⟨as, rfl⟩ := ih fun y hy => hA2 y (List.mem_cons_of_mem _ hy)
      exact ⟨a :: as, rfl⟩
  subst has hjs
  rw [List.length_map] at hl1 hl2
  intro d2 hdn
  have en : Ex H3 (upd H3 d2 (.dK [])) := Ex.new hdn
  refine (er_drawD (m := 6) rfl (hh3.ex en) (ed_int (K := K)) (by decide)) _ (Ex.refl _) _ fun v H4 dd hdd e4 hv => ?_
  obtain ⟨kd, rfl, hk0, hk1⟩ := hdd
  have hv' := hv.int_inv
  subst hv'
  refine tp_cons (v := .int many) (fun H1 e Q q => ⟨_, rfl, q _ (Ex.refl _)⟩) fun H5 e5 => ?_
  refine tp_cons (v := .ref b1) (fun H1 e Q q => ⟨_, rfl, q _ (Ex.refl _)⟩) fun H6 e6 => ?_
  refine tp_cons (v := .ref b2) (fun H1 e Q q => ⟨_, rfl, q _ (Ex.refl _)⟩) fun H7 e7 => ?_
  have e37 := ((e4.trans e5).trans e6).trans e7
  refine ⟨e37 _ _ upd_same, [(.inr "kind", .int kd), (.inr "many", .int many), (.inr "atoms", .ref b1), (.inr "joints", .ref b2)], rfl, by simp, ?_⟩
  have hbl1 := e3 _ _ hbl1
  have hne1 : b1 ≠ d2 := fun z => by rw [z] at hbl1; rw [hbl1] at hdn; cases hdn
  have hne2 : b2 ≠ d2 := fun z => by rw [z] at hbl2; rw [hbl2] at hdn; cases hdn
  obtain ⟨kn, rfl⟩ : ∃ n : Nat, kd = n := ⟨kd.toNat, by omega⟩
  obtain ⟨mn, rfl⟩ : ∃ n : Nat, many = n := ⟨many.toNat, by omega⟩
  refine k d2 ⟨kn, mn, as, js⟩ _ ⟨by show kn < 6; omega, by show 1 ≤ mn ∧ mn ≤ 3000; omega, by show 1 ≤ as.length ∧ as.length ≤ 10; omega, by show 1 ≤ js.length ∧ js.length ≤ 10; omega, hao⟩ ⟨b1, b2, upd_same, ?_, ?_⟩ ?_
  · rw [upd_ne hne1]; exact e37 _ _ (en _ _ hbl1)
  · rw [upd_ne hne2]; exact e37 _ _ (en _ _ hbl2)
  · exact Ex.trans e03 (Ex.mut (en.trans e37) hdn)
end
end K61
end

section
set_option Elab.async false
set_option linter.all false
set_option maxRecDepth 100000
set_option maxHeartbeats 4000000
namespace K61
open PySem PySem.Spec PyProof.Rows L2 Evl RZ SX
local macro_rules | `(tactic| walk_at "evs") => `(tactic| first
  | exact ed_int | exact ed_str | exact ed_bl | exact ed_non
  | exact ed_var ⟨_, rfl, by first | assumption | exact .int _ | exact .str _ | exact .bl _ | exact .non⟩
  | exact ed_top (W0.t_ZERO (by assumption)) | exact ed_top (W0.t_ONE (by assumption))
  | refine ed_I0 ?_ ?_ | refine ed_B0 ?_ ?_ | refine ed_I ?_ ?_ ?_
  | refine ed_call ?_ ?_ | refine eds_cons ?_ ?_ | exact eds_nil
  | ((apply ed_ixT); (focus (walk_at "ev"; done)); (focus (walk_at "ev"; done)); (focus (exact rfl)); done)
  | ((apply ed_ixL); (focus (walk_at "ev"; done)); (focus (walk_at "ev"; done)); (focus (exact rfl)); done)
  | refine ed_tup ?_ ?_ | refine ed_lst ?_ ?_
  | ((refine ed_lenL ?_); (walk_at "ev"); done) | ((refine ed_lenT ?_); (walk_at "ev"); done) | refine ed_lenS ?_ ?_
  | refine ed_abs ?_ | ((refine ed_intI ?_); (walk_at "ev"); done) | refine ed_intB ?_ | refine ed_isi ?_ ?_
  | ((refine ed_eqI ?_ ?_ <;> walk_at "ev"); done) | ((refine ed_eqS ?_ ?_ <;> walk_at "ev"); done) | refine ed_neS ?_ ?_
  | refine ed_eqD ?_ ?_ ?_ ?_ | refine ed_neD ?_ ?_ ?_ ?_ | refine ed_ltD ?_ ?_ ?_ ?_ ?_
  | refine ed_isN ?_ | refine ed_notN ?_
  | refine ed_chain ?_ ?_ ?_ | refine ed_not ?_ | refine ed_and ?_ ?_ | refine ed_or ?_ ?_
  | refine ed_catS ?_ ?_ ?_ | refine ed_catT ?_ ?_ ?_
  | refine etk_D ?_ | refine etk_DB ?_ | refine etk_not ?_ | refine etk_and ?_ ?_ | refine etk_or ?_ ?_
  | exact rfl | assumption | omega | refine (fun (_ : _ = true) => ?_) | refine (fun (_ : _ = false) => ?_))
local macro_rules | `(tactic| walk_at "ev") => `(tactic| (walk_at "evs" <;> (try walk_at "ev")))

/-- the words of a deep expression -/
def jT (b : Bool) : Tok := if b then .and else .or
theorem jT_s {b : Bool} : (jT b).s = jS b := by cases b <;> rfl
def Deep.turn (x : Deep) (i : Nat) : List Tok :=
  [jT (x.joint i)] ++ (if x.kind = 4 then [.lp] else []) ++ [.atom (x.atom (i + 1))] ++ (if x.kind = 3 then [.rp] else [])
def Deep.front (x : Deep) : List Tok := (if x.kind = 3 then List.replicate x.many .lp else []) ++ [.atom (x.atom 0)]
def Deep.toks (x : Deep) : List Tok :=
  if x.kind = 0 then List.replicate x.many .not ++ [.atom (x.atom 0)]
  else if x.kind = 1 then List.replicate x.many .lp ++ [.atom (x.atom 0)] ++ List.replicate x.many .rp
  else if x.kind = 2 then (List.replicate x.many [.not, .lp]).flatten ++ [.atom (x.atom 0)] ++ List.replicate x.many .rp
  else x.front ++ (List.range x.many).flatMap x.turn ++ (if x.kind = 4 then List.replicate x.many .rp else [])
def tokD (t : Tok) : PD := .str t.s
section
variable {P : Program} {w : World} {K : PySem.W.Frag} {mg : Str → Option Value} {base : Heap} {σ : L2.St} {H H' : Hp} {ta tb te td ty tv tn : TE} {E : XK} {hd : Addr} {D : Ends}
theorem ed_dget {i : Nat} {d : Addr} {kvs : List (Key × V)} {k : Str} {v : V} {x : PD} (hs : σ[i]? = some (some (.ref d))) (h : H d = some (.dK kvs)) (hv : valV kvs (.inr k) = some v) (hx : Dp K H v x) : EvD K (tDGet (tVar i) (tC (.str k))) σ H x := EvD.ev (ev_dget hs h hv) hx
/-! ### _law_atom_at, _law_joint_at -/
def sp__law_atom_at (K : PySem.W.Frag) : Sp := fun vs H Q _ => ∃ (d : Addr) (i : Nat) (x : Deep) (ss : List Int), vs = [.ref d, .int (i : Nat)] ∧ DeepAt H d x ∧ x.ok ss ∧ ∀ H', Ex H H' → Q (.str (S (x.atom i).cps)) H'
def sp__law_joint_at (K : PySem.W.Frag) : Sp := fun vs H Q _ => ∃ (d : Addr) (i : Nat) (x : Deep) (ss : List Int), vs = [.ref d, .int (i : Nat)] ∧ DeepAt H d x ∧ x.ok ss ∧ ∀ H', Ex H H' → Q (.str (jS (x.joint i))) H'
theorem sc__law_atom_at : FnScope ["_law_deep_here", "_law_at"] ["_law_deep_here", "_law_at"] (defScope (top 58)) := ⟨rfl, rfl, rfl, by decide +kernel, rfl, by decide +kernel, by decide +kernel⟩
theorem ok__law_atom_at (C : W0 P w K mg base) : Cl P w K mg base 1 "_law_atom_at" ["_law_deep_here", "_law_at"] (sp__law_atom_at K) := by
  refine Cl.of C.f__law_atom_at C.g__law_atom_at sc__law_atom_at (fun _ _ _ _ _ _ us hl => match us, hl with | [_, _], _ => rfl) (fun vs H Q E h => by obtain ⟨_, _, _, _, rfl, _⟩ := h; rfl) fun cdv A outer s H vs Q E hr h => ?_
  have hu := hu_of hr
  obtain ⟨d, i, x, ss, rfl, ⟨a, j, h1, h2, h3⟩, hok, k⟩ := h
  have hm : i % x.atoms.length < x.atoms.length := Nat.mod_lt _ (by have := hok.a; omega)
  refine ⟨_, (pss_one (ps_ret (pe_ix ix_list (pe_dget hu (pv 0) pe_str (fun _ _ => rfl)) (pe_op op_mod (pe_callTy call_int1 (by rfl) C.n_int (by decide +kernel) (pa_cons (pv 1) pa_nil)) (pe_callB call_len_seq (by rfl) C.n_len (by decide +kernel) (pa_cons (pe_dget hu (pv 0) pe_str (fun _ _ => rfl)) pa_nil))) (fun _ _ => rfl)))), ?_⟩
  have hl : EvD K (tDGet (tVar 0) (tC (.str "atoms"))) [some (.ref d), some (.int (i : Nat))] H (.list ((x.atoms.map fun a => S a.cps).map PyData.str)) := ed_dget rfl h1 rfl (dp_strs h2)
  have hat : x.atom i = x.atoms[i % x.atoms.length] := by unfold Deep.atom; rw [List.getD_eq_getElem?_getD, List.getElem?_eq_getElem hm]; rfl
  refine sd_ret (K := K) (d := .str (S (x.atom i).cps)) (ed_ixL hl ((ed_I (g := fun i j => i % j) (ed_intI (ed_var ⟨_, rfl, .int _⟩)) ((ed_lenL hl).is (by rw [List.length_map, List.length_map])) (by omega)).is rfl) ?_) fun v H2 e2 hv => by rw [hv.str_inv]; exact k H2 e2
  rw [← Int.natCast_emod]
  refine atI_nat ?_
  rw [List.getElem?_map, List.getElem?_map, List.getElem?_eq_getElem hm, hat]
  rfl
theorem sc__law_joint_at : FnScope ["_law_deep_here", "_law_at"] ["_law_deep_here", "_law_at"] (defScope (top 59)) := ⟨rfl, rfl, rfl, by decide +kernel, rfl, by decide +kernel, by decide +kernel⟩
theorem ok__law_joint_at (C : W0 P w K mg base) : Cl P w K mg base 1 "_law_joint_at" ["_law_deep_here", "_law_at"] (sp__law_joint_at K) := by
  refine Cl.of C.f__law_joint_at C.g__law_joint_at sc__law_joint_at (fun _ _ _ _ _ _ us hl => match us, hl with | [_, _], _ => rfl) (fun vs H Q E h => by obtain ⟨_, _, _, _, rfl, _⟩ := h; rfl) fun cdv A outer s H vs Q E hr h => ?_
  have hu := hu_of hr
  obtain ⟨d, i, x, ss, rfl, ⟨a, j, h1, h2, h3⟩, hok, k⟩ := h
  have hm : i % x.joints.length < x.joints.length := Nat.mod_lt _ (by have := hok.j; omega)
  refine ⟨_, (pss_one (ps_ret (pe_ix ix_list (pe_dget hu (pv 0) pe_str (fun _ _ => rfl)) (pe_op op_mod (pe_callTy call_int1 (by rfl) C.n_int (by decide +kernel) (pa_cons (pv 1) pa_nil)) (pe_callB call_len_seq (by rfl) C.n_len (by decide +kernel) (pa_cons (pe_dget hu (pv 0) pe_str (fun _ _ => rfl)) pa_nil))) (fun _ _ => rfl)))), ?_⟩
  have hl : EvD K (tDGet (tVar 0) (tC (.str "joints"))) [some (.ref d), some (.int (i : Nat))] H (.list ((x.joints.map jS).map PyData.str)) := ed_dget rfl h1 rfl (dp_strs h3)
  have hat : x.joint i = x.joints[i % x.joints.length] := by unfold Deep.joint; rw [List.getD_eq_getElem?_getD, List.getElem?_eq_getElem hm]; rfl
  refine sd_ret (K := K) (d := .str (jS (x.joint i))) (ed_ixL hl ((ed_I (g := fun i j => i % j) (ed_intI (ed_var ⟨_, rfl, .int _⟩)) ((ed_lenL hl).is (by rw [List.length_map, List.length_map])) (by omega)).is rfl) ?_) fun v H2 e2 hv => by rw [hv.str_inv]; exact k H2 e2
  rw [← Int.natCast_emod]
  refine atI_nat ?_
  rw [List.getElem?_map, List.getElem?_map, List.getElem?_eq_getElem hm, hat]
  rfl
theorem ed_aat {i : Nat} {d : Addr} {n : Nat} {x : Deep} {ss : List Int} (hs : σ[i]? = some (some (.ref d))) (hx : DeepAt H d x) (hok : x.ok ss) (hb : EvD K tb σ H (.int (n : Nat))) : EvD K (tCall (sp__law_atom_at K) [] E (tCons (tVar i) (tCons tb tNil))) σ H (.str (S (x.atom n).cps)) := fun H1 e Q q =>
  ⟨_, hs, hb H1 e _ fun v H2 e2 hv => ⟨d, n, x, ss, by rw [hv.int_inv]; rfl, hx.ex (e.trans e2), hok, fun H3 e3 => q _ H3 (e2.trans e3) (.str _)⟩⟩
theorem ed_jat {i : Nat} {d : Addr} {n : Nat} {x : Deep} {ss : List Int} (hs : σ[i]? = some (some (.ref d))) (hx : DeepAt H d x) (hok : x.ok ss) (hb : EvD K tb σ H (.int (n : Nat))) : EvD K (tCall (sp__law_joint_at K) [] E (tCons (tVar i) (tCons tb tNil))) σ H (.str (jS (x.joint n))) := fun H1 e Q q =>
  ⟨_, hs, hb H1 e _ fun v H2 e2 hv => ⟨d, n, x, ss, by rw [hv.int_inv]; rfl, hx.ex (e.trans e2), hok, fun H3 e3 => q _ H3 (e2.trans e3) (.str _)⟩⟩
/-! ### _law_deep_words -/
def sp__law_deep_words (K : PySem.W.Frag) : Sp := fun vs H Q _ => ∃ (d : Addr) (x : Deep) (ss : List Int), vs = [.ref d] ∧ DeepAt H d x ∧ x.ok ss ∧ ∀ b vs' H', Ex H H' → H b = none → H' b = some (.lst vs') → DpAll K H' vs' (x.toks.map tokD) → Q (.ref b) H'
theorem sf_ret {ds : List PD} (h : EvF K te σ H ds) (k : ∀ b vs H1, Ex H H1 → H b = none → H1 b = some (.lst vs) → DpAll K H1 vs ds → D.rt (.ref b) H1) : tRet te D σ H := h H (Ex.refl H) _ k
theorem rep_map {n : Nat} {l : List Tok} : (List.replicate n (l.map tokD)).flatten = ((List.replicate n l).flatten).map tokD := by
  induction n with
  | zero => rfl
  | succ n ih => rw [List.replicate_succ, List.replicate_succ, List.flatten_cons, List.flatten_cons, List.map_append, ih]
theorem rep_len {α : Type} {n : Nat} {l : List α} : ((List.replicate n l).flatten).length = n * l.length := by
  induction n with
  | zero => simp
  | succ n ih => rw [List.replicate_succ, List.flatten_cons, List.length_append, ih, Nat.add_mul]; omega
theorem rep_one {n : Nat} {t : Tok} : (List.replicate n [t]).flatten = List.replicate n t := by
  induction n with
  | zero => rfl
  | succ n ih => rw [List.replicate_succ, List.replicate_succ, List.flatten_cons, ih]; rfl
theorem sc__law_deep_words : FnScope ["_law_deep_here", "_law_kind", "_law_many", "_law_first", "_law_found", "_law_at"] ["_law_deep_here"] (defScope (top 60)) := ⟨rfl, rfl, rfl, by decide +kernel, rfl, by decide +kernel, by decide +kernel⟩
theorem ok__law_deep_words (C : W0 P w K mg base) : Cl P w K mg base 2 "_law_deep_words" ["_law_deep_here"] (sp__law_deep_words K) := by
  have o__law_atom_at := ok__law_atom_at C
  have o__law_joint_at := ok__law_joint_at C
  refine Cl.of C.f__law_deep_words C.g__law_deep_words sc__law_deep_words (fun _ _ _ _ _ _ us hl => match us, hl with | [_], _ => rfl) (fun vs H Q E h => by obtain ⟨_, _, _, rfl, _⟩ := h; rfl) fun cdv A outer s H vs Q E hr h => ?_
  have hu := hu_of hr
  obtain ⟨d, x, ss, rfl, hx, hok, k⟩ := h
  have hx' := hx
  obtain ⟨a, j, h1, h2, h3⟩ := hx'
  have hm := hok.m
  refine ⟨_, (pss_cons (ps_par3 (i := 1) (j := 2) (l := 3) rfl sc__law_deep_words.nd rfl rfl rfl (by decide) (by decide) (by decide) rfl rfl rfl (pa_cons (pe_dget hu (pv 0) pe_str (fun _ _ => rfl)) (pa_cons (pe_dget hu (pv 0) pe_str (fun _ _ => rfl)) (pa_cons (pe_cl o__law_atom_at hr (by decide) rfl (pa_cons (pv 0) (pa_cons pe_int pa_nil))) pa_nil))) (by rfl))
      (pss_cons (ps_if (pt_cmpR op_eq (pv 1) pe_int (nomark _)) (pss_one (ps_ret (pe_op op_cat (pe_op op_rep (pe_lst (pa_cons pe_str pa_nil)) (pv 2)) (pe_lst (pa_cons (pv 3) pa_nil))))) pss_nil)
      (pss_cons (ps_if (pt_cmpR op_eq (pv 1) pe_int (nomark _)) (pss_one (ps_ret (pe_op op_cat (pe_op op_cat (pe_op op_rep (pe_lst (pa_cons pe_str pa_nil)) (pv 2)) (pe_lst (pa_cons (pv 3) pa_nil))) (pe_op op_rep (pe_lst (pa_cons pe_str pa_nil)) (pv 2))))) pss_nil)
      (pss_cons (ps_if (pt_cmpR op_eq (pv 1) pe_int (nomark _)) (pss_one (ps_ret (pe_op op_cat (pe_op op_cat (pe_op op_rep (pe_lst (pa_cons pe_str (pa_cons pe_str pa_nil))) (pv 2)) (pe_lst (pa_cons (pv 3) pa_nil))) (pe_op op_rep (pe_lst (pa_cons pe_str pa_nil)) (pv 2))))) pss_nil)
      (pss_cons (ps_set (i := 4) sc__law_deep_words.nd rfl (Or.inl rfl) (pe_ifExp (pt_cmpR op_eq (pv 1) pe_int (nomark _)) (pe_op op_cat (pe_op op_rep (pe_lst (pa_cons pe_str pa_nil)) (pv 2)) (pe_lst (pa_cons (pv 3) pa_nil))) (pe_lst (pa_cons (pv 3) pa_nil))))
      (pss_cons (ps_for PassesOwn.never rfl (pi_range1 rfl C.n_range (pa_cons (pv 2) pa_nil)) (pg_name (i := 5) sc__law_deep_words.nd rfl (Or.inl rfl)) (pss_cons (ps_expr (pe_bm PySem.F.plainAttrs_list PySem.F.slot_list_extend PySem.F.type_list_extend mt_extend (pv 4) (pa_cons (pe_op op_cat (pe_op op_cat (pe_lst (pa_cons (pe_cl o__law_joint_at hr (by decide) rfl (pa_cons (pv 0) (pa_cons (pv 5) pa_nil))) pa_nil)) (pe_ifExp (pt_cmpR op_eq (pv 1) pe_int (nomark _)) (pe_lst (pa_cons pe_str pa_nil)) (pe_lst pa_nil))) (pe_lst (pa_cons (pe_cl o__law_atom_at hr (by decide) rfl (pa_cons (pv 0) (pa_cons (pe_op op_add (pv 5) pe_int) pa_nil))) pa_nil))) pa_nil)))
      (pss_one (ps_expr (pe_bm PySem.F.plainAttrs_list PySem.F.slot_list_extend PySem.F.type_list_extend mt_extend (pv 4) (pa_cons (pe_ifExp (pt_cmpR op_eq (pv 1) pe_int (nomark _)) (pe_lst (pa_cons pe_str pa_nil)) (pe_lst pa_nil)) pa_nil))))))
      (pss_one (ps_ret (pe_op op_cat (pv 4) (pe_ifExp (pt_cmpR op_eq (pv 1) pe_int (nomark _)) (pe_op op_rep (pe_lst (pa_cons pe_str pa_nil)) (pv 2)) (pe_lst pa_nil))))))))))), ?_⟩
  refine qd_par3 (K := K) (d := .int (x.kind : Nat)) (e := .int (x.many : Nat)) (f := .str (S (x.atom 0).cps)) (eds_cons (ed_dget rfl h1 rfl (.int _)) (eds_cons (ed_dget rfl h1 rfl (.int _)) (eds_cons (ed_aat (n := 0) rfl hx hok ed_int) eds_nil))) fun v1 v2 v3 H1 e1 hv1 hv2 hv3 => ?_
  have hv := hv1.int_inv
  subst hv
  have hv := hv2.int_inv
  subst hv
  have hv := hv3.str_inv
  subst hv
  have hx := hx.ex e1
  have k : ∀ b vs' H', Ex H1 H' → H1 b = none → H' b = some (.lst vs') → DpAll K H' vs' (x.toks.map tokD) → Q (.ref b) H' := fun b vs' H' e hb => k b vs' H' (e1.trans e) (fresh_back e1 hb)
  have hrep : ∀ {σ : L2.St} {H : Hp} {t : Tok}, σ[2]? = some (some (.int (x.many : Nat))) → EvL K (tOp rRep (tLst (tCons (tC (.str t.s)) tNil)) (tVar 2)) σ H ((List.replicate x.many t).map tokD) := fun hs => EvF.l ((ef_rep (xs := [tokD _]) (EvF.l (ef_lst (eds_cons ed_str eds_nil) (by simp))) (ed_var ⟨_, hs, .int _⟩) (by omega) (by omega) (by simp)).is (by rw [Int.toNat_natCast, ← rep_one, ← rep_map]; rfl))
  have ha0 : ∀ {σ : L2.St} {H : Hp}, σ[3]? = some (some (.str (S (x.atom 0).cps))) → EvL K (tLst (tCons (tVar 3) tNil)) σ H ([Tok.atom (x.atom 0)].map tokD) := fun hs => EvF.l (ef_lst (eds_cons (ed_var ⟨_, hs, .str _⟩) eds_nil) (by simp))
  have hkd : ∀ {σ : L2.St} {H : Hp} {n : Nat}, σ[1]? = some (some (.int (x.kind : Nat))) → EvTK K (tTest (tOp rEq (tVar 1) (tC (.int (n : Nat))))) σ H (decide (x.kind = n)) := fun hs => etk_D ((ed_eqI (ed_var ⟨_, hs, .int _⟩) ed_int).is (by congr 1; exact decide_eq_decide.mpr ⟨fun h => by omega, fun h => by omega⟩))
  have hlr : ∀ t : Tok, ((List.replicate x.many t).map tokD).length = x.many := fun t => by rw [List.length_map, List.length_replicate]
  by_cases h0 : x.kind = 0
  · refine kq_take K ((hkd (n := 0) rfl).is (decide_eq_true h0)) fun H2 e2 => ?_
    refine sf_ret (ef_cat (hrep (t := .not) rfl) (ha0 rfl) (by rw [hlr]; simp; omega)) fun b vs' H3 e3 hb hbl hv => k b vs' H3 (e2.trans e3) (fresh_back e2 hb) hbl ?_
    rw [← List.map_append] at hv
    unfold Deep.toks
    rw [if_pos h0]
    exact hv
  refine kq_skip K ((hkd (n := 0) rfl).is (decide_eq_false h0)) fun H2 e2 => ?_
  by_cases h1' : x.kind = 1
  · refine kq_take K ((hkd (n := 1) rfl).is (decide_eq_true h1')) fun H3 e3 => ?_
    refine sf_ret (ef_cat (EvF.l (ef_cat (hrep (t := .lp) rfl) (ha0 rfl) (by rw [hlr]; simp; omega))) (hrep (t := .rp) rfl) (by rw [List.length_append, hlr, hlr]; simp; omega)) fun b vs' H4 e4 hb hbl hv => k b vs' H4 ((e2.trans e3).trans e4) (fresh_back (e2.trans e3) hb) hbl ?_
    rw [← List.map_append, ← List.map_append] at hv
    unfold Deep.toks
    rw [if_neg h0, if_pos h1']
    exact hv
  refine kq_skip K ((hkd (n := 1) rfl).is (decide_eq_false h1')) fun H3 e3 => ?_
  by_cases h2' : x.kind = 2
  · refine kq_take K ((hkd (n := 2) rfl).is (decide_eq_true h2')) fun H4 e4 => ?_
    refine sf_ret (ef_cat (EvF.l (ef_cat (EvF.l ((ef_rep (xs := [Tok.not, Tok.lp].map tokD) (EvF.l (ef_lst (eds_cons ed_str (eds_cons ed_str eds_nil)) (by simp))) (ed_var ⟨_, rfl, .int _⟩) (by omega) (by omega) (by simp)).is (by rw [Int.toNat_natCast, rep_map]))) (ha0 rfl) ?_)) (hrep (t := .rp) rfl) ?_) fun b vs' H5 e5 hb hbl hv => k b vs' H5 (((e2.trans e3).trans e4).trans e5) (fresh_back ((e2.trans e3).trans e4) hb) hbl ?_
    · rw [List.length_map, rep_len]; simp; omega
    · rw [List.length_append, List.length_map, rep_len, hlr]; simp; omega
    rw [← List.map_append, ← List.map_append] at hv
    unfold Deep.toks
    rw [if_neg h0, if_neg h1', if_pos h2']
    exact hv
  refine kq_skip K ((hkd (n := 2) rfl).is (decide_eq_false h2')) fun H4 e4 => ?_
  have hx := hx.ex ((e2.trans e3).trans e4)
  have k : ∀ b vs' H', Ex H4 H' → H4 b = none → H' b = some (.lst vs') → DpAll K H' vs' (x.toks.map tokD) → Q (.ref b) H' := fun b vs' H' e hb => k b vs' H' (((e2.trans e3).trans e4).trans e) (fresh_back ((e2.trans e3).trans e4) hb)
  have htk : x.toks = x.front ++ (List.range x.many).flatMap x.turn ++ (if x.kind = 4 then List.replicate x.many .rp else []) := by
    unfold Deep.toks
    rw [if_neg h0, if_neg h1', if_neg h2']
  have htl : ∀ i, (x.turn i).length ≤ 3 := fun i => by unfold Deep.turn; split <;> split <;> simp <;> omega
  have hfl : ∀ l : List Nat, (l.flatMap x.turn).length ≤ 3 * l.length := fun l => by
    induction l with
    | nil => simp
    | cons a l ih => rw [List.flatMap_cons, List.length_append, List.length_cons]; have := htl a; omega
  refine qd_asgF (K := K) (ds := x.front.map tokD) (ef_if (hkd (n := 3) rfl) (fun h => ?_) fun h => ?_) fun p vs H5 hp e5 hpl hvs => ?_
  · refine (ef_cat (hrep (t := .lp) rfl) (ha0 rfl) (by rw [hlr]; simp; omega)).is ?_
    unfold Deep.front
    rw [if_pos (of_decide_eq_true h), List.map_append]
  · refine (ef_lst (ds := [Tok.atom (x.atom 0)].map tokD) (eds_cons (ed_var ⟨_, rfl, .str _⟩) eds_nil) (by simp)).is ?_
    unfold Deep.front
    rw [if_neg (of_decide_eq_false h)]
    rfl
  have hfr : x.front.length ≤ 3001 := by
    unfold Deep.front
    split <;> simp <;> omega
  have htt : ∀ l : List Tok, tfrs (l.map tokD) = true := fun l => tfrs_mem fun d hd => by obtain ⟨_, _, rfl⟩ := List.mem_map.mp hd; rfl
  refine qd_forV (K := K) (G := H4) (ds := intD 0 x.many) e5 ?_ (fun i σ' H' => ∃ z, σ' = [some (.ref d), some (.int (x.kind : Nat)), some (.int (x.many : Nat)), some (.str (S (x.atom 0).cps)), some (.ref p), z] ∧ ∃ acc, H' p = some (.lst acc) ∧ DpAll K H' acc ((x.front ++ (List.range i).flatMap x.turn).map tokD)) ⟨_, rfl, vs, hpl, by rw [List.range_zero]; simpa using hvs⟩ ?_ ?_
  · have := wv_range1 (K := K) (G := H4) (ta := tVar 2) (n := (x.many : Int)) (σ := [some (.ref d), some (.int (x.kind : Nat)), some (.int (x.many : Nat)), some (.str (S (x.atom 0).cps)), some (.ref p), none]) (EvD.int (K := K) (ed_var ⟨_, rfl, .int _⟩)) (by omega) (fun H1 Q e q => ⟨_, rfl, q⟩)
    rw [Int.toNat_natCast] at this
    exact this
  · rintro i dd hdd σ' H6 e6 ⟨z, rfl, acc, ha, hacc⟩ q H7 e7 hq
    have hil : i < x.many := by
      have := (List.getElem?_eq_some_iff.mp hdd).1
      rwa [intD_len] at this
    rw [intD_at hil] at hdd
    cases hdd
    have hq' := hq.int_inv
    subst hq'
    rw [Int.zero_add]
    have hx7 := hx.ex (e6.trans e7)
    have hal : acc.length ≤ 3001 + 3 * 3000 := by
      rw [hacc.length, List.length_map, List.length_append]
      have := hfl (List.range i)
      rw [List.length_range] at this
      omega
    refine qd_ext (K := K) (ds := ([jT (x.joint i)] ++ (if x.kind = 4 then [Tok.lp] else []) ++ [Tok.atom (x.atom (i + 1))]).map tokD) rfl (e7 _ _ ha) ?_ (by rw [List.length_map, List.length_append, List.length_append]; split <;> simp <;> omega) fun vs1 H8 e8 hv1 => ?_
    · refine (ef_cat (xs := ([jT (x.joint i)] ++ (if x.kind = 4 then [Tok.lp] else [])).map tokD) (ys := [tokD (.atom (x.atom (i + 1)))]) (EvF.l ((ef_cat (xs := [tokD (jT (x.joint i))]) (ys := (if x.kind = 4 then [Tok.lp] else []).map tokD) (EvF.l (ef_lst (eds_cons ((ed_jat (n := i) rfl hx7 hok (ed_var ⟨_, rfl, .int _⟩)).is (by unfold tokD; rw [jT_s])) eds_nil) (by simp))) (el_if (hkd (n := 4) rfl) (fun h => ?_) fun h => ?_) (by split <;> simp)).is (by rw [List.map_append]; rfl))) (EvF.l (ef_lst (eds_cons ((ed_aat (n := i + 1) rfl hx7 hok ((ed_I0 (ed_var ⟨_, rfl, .int _⟩) ed_int).is rfl))) eds_nil) (by simp))) (by split <;> simp)).is (by rw [List.map_append (l₂ := [Tok.atom (x.atom (i + 1))])]; rfl)
      · rw [if_pos (of_decide_eq_true h)]
        exact EvF.l (ef_lst (eds_cons ed_str eds_nil) (by simp))
      · rw [if_neg (of_decide_eq_false h)]
        exact EvF.l (ef_lst eds_nil (by simp))
    have ha8 := e8 _ _ (e7 _ _ ha)
    have tx8 : Tx H8 (L2.upd H8 p (.lst (acc ++ vs1))) := Tx.updL ha8
    have hacc1 := (dps_tx tx8 (htt _) (hacc.ex (e7.trans e8))).app (dps_tx tx8 (htt _) hv1)
    have hal1 : (acc ++ vs1).length ≤ 3001 + 3 * 3000 + 3 := by
      rw [List.length_append, hv1.length, List.length_map, List.length_append, List.length_append]
      split <;> simp <;> omega
    have ha9 : L2.upd H8 p (.lst (acc ++ vs1)) p = some (.lst (acc ++ vs1)) := upd_same
    have e69 : Ex H4 (L2.upd H8 p (.lst (acc ++ vs1))) := Ex.mut ((e6.trans e7).trans e8) hp
    generalize L2.upd H8 p (.lst (acc ++ vs1)) = H9 at ha9 e69 hacc1
    refine sd_ext (K := K) (ds := (if x.kind = 3 then [Tok.rp] else []).map tokD) rfl ha9 (ef_if (hkd (n := 3) rfl) (fun h => ?_) fun h => ?_) (by split <;> simp at hal1 ⊢ <;> omega) fun vs2 H10 e10 hv2 => ⟨Ex.mut (e69.trans e10) hp, _, rfl, acc ++ vs1 ++ vs2, upd_same, ?_⟩
    · rw [if_pos (of_decide_eq_true h)]
      exact ef_lst (eds_cons ed_str eds_nil) (by simp)
    · rw [if_neg (of_decide_eq_false h)]
      exact ef_lst eds_nil (by simp)
    · have tx10 : Tx H10 (L2.upd H10 p (.lst (acc ++ vs1 ++ vs2))) := Tx.updL (e10 _ _ ha9)
      rw [← List.map_append] at hacc1
      have := (dps_tx tx10 (htt _) (hacc1.ex e10)).app (dps_tx tx10 (htt _) hv2)
      rw [← List.map_append] at this
      have e : x.front ++ (List.range (i + 1)).flatMap x.turn = x.front ++ (List.range i).flatMap x.turn ++ ([jT (x.joint i)] ++ (if x.kind = 4 then [Tok.lp] else []) ++ [Tok.atom (x.atom (i + 1))]) ++ (if x.kind = 3 then [Tok.rp] else []) := by
        rw [List.range_succ, List.flatMap_append, List.flatMap_cons, List.flatMap_nil, List.append_nil]
        unfold Deep.turn
        simp only [List.append_assoc]
      rw [e]
      exact this
  · rintro σ' H6 e6 ⟨z, rfl, acc, ha, hacc⟩
    rw [intD_len] at hacc
    have hal : ((x.front ++ (List.range x.many).flatMap x.turn).map tokD).length ≤ 3001 + 3 * 3000 := by
      rw [List.length_map, List.length_append]
      have := hfl (List.range x.many)
      rw [List.length_range] at this
      omega
    refine sf_ret (ef_cat (el_var rfl ha hacc) (ys := (if x.kind = 4 then List.replicate x.many Tok.rp else []).map tokD) (el_if (hkd (n := 4) rfl) (fun h => ?_) fun h => ?_) ?_) fun b vs' H7 e7 hb hbl hv => k b vs' H7 (e6.trans e7) (fresh_back e6 hb) hbl ?_
    · rw [if_pos (of_decide_eq_true h)]
      exact hrep (t := .rp) rfl
    · rw [if_neg (of_decide_eq_false h)]
      exact EvF.l (ef_lst eds_nil (by simp))
    · split
      · rw [hlr]; omega
      · simp only [List.map_nil, List.length_nil]; omega
    · rw [htk, List.map_append]
      exact hv
end
end K61
end

section
set_option Elab.async false
set_option linter.all false
set_option maxRecDepth 100000
set_option maxHeartbeats 4000000
namespace K61
open PySem PySem.Spec PyProof.Rows L2 Evl RZ SX
local macro_rules | `(tactic| walk_at "evs") => `(tactic| first
  | exact ed_int | exact ed_str | exact ed_bl | exact ed_non
  | exact ed_var ⟨_, rfl, by first | assumption | exact .int _ | exact .str _ | exact .bl _ | exact .non⟩
  | exact ed_top (W0.t_ZERO (by assumption)) | exact ed_top (W0.t_ONE (by assumption))
  | refine ed_I0 ?_ ?_ | refine ed_B0 ?_ ?_ | refine ed_I ?_ ?_ ?_
  | refine ed_call ?_ ?_ | refine eds_cons ?_ ?_ | exact eds_nil
  | ((apply ed_ixT); (focus (walk_at "ev"; done)); (focus (walk_at "ev"; done)); (focus (exact rfl)); done)
  | ((apply ed_ixL); (focus (walk_at "ev"; done)); (focus (walk_at "ev"; done)); (focus (exact rfl)); done)
  | refine ed_tup ?_ ?_ | refine ed_lst ?_ ?_
  | ((refine ed_lenL ?_); (walk_at "ev"); done) | ((refine ed_lenT ?_); (walk_at "ev"); done) | refine ed_lenS ?_ ?_
  | refine ed_abs ?_ | ((refine ed_intI ?_); (walk_at "ev"); done) | refine ed_intB ?_ | refine ed_isi ?_ ?_
  | ((refine ed_eqI ?_ ?_ <;> walk_at "ev"); done) | ((refine ed_eqS ?_ ?_ <;> walk_at "ev"); done) | refine ed_neS ?_ ?_
  | refine ed_eqD ?_ ?_ ?_ ?_ | refine ed_neD ?_ ?_ ?_ ?_ | refine ed_ltD ?_ ?_ ?_ ?_ ?_
  | refine ed_isN ?_ | refine ed_notN ?_
  | refine ed_chain ?_ ?_ ?_ | refine ed_not ?_ | refine ed_and ?_ ?_ | refine ed_or ?_ ?_
  | refine ed_catS ?_ ?_ ?_ | refine ed_catT ?_ ?_ ?_
  | refine etk_D ?_ | refine etk_DB ?_ | refine etk_not ?_ | refine etk_and ?_ ?_ | refine etk_or ?_ ?_
  | exact rfl | assumption | omega | refine (fun (_ : _ = true) => ?_) | refine (fun (_ : _ = false) => ?_))
local macro_rules | `(tactic| walk_at "ev") => `(tactic| (walk_at "evs" <;> (try walk_at "ev")))

def okA (ws : List Int) : Atom → Prop
  | .worth k v => k < ws.length ∧ k < 4 ∧ v < 4
  | .blank k => k < 4
  | _ => True
section
variable {P : Program} {w : World} {K : PySem.W.Frag} {mg : Str → Option Value} {base : Heap} {σ : L2.St} {H H' : Hp} {ta tb te td ty tv tn : TE} {E : XK} {hd : Addr} {D : Ends}
/-! ### _law_atom_so -/
def R_law_atom_so (ds : List PD) (d : PD) : Prop := ∃ (a : Atom) (ws ns : List Int), okA ws a ∧ ds = [.str (S a.cps), tI ws, tI ns] ∧ d = .bool (val ws ns a)
abbrev sp__law_atom_so (K : PySem.W.Frag) : Sp := spD K R_law_atom_so
theorem pu_law_atom_so {a : Atom} {ws ns : List Int} (h : okA ws a) : Pure K (sp__law_atom_so K) [.str (S a.cps), tI ws, tI ns] (.bool (val ws ns a)) := spD_pure ⟨_, _, _, h, rfl, rfl⟩
theorem sc__law_atom_so : FnScope ["_law_word", "_law_content", "_law_pattern"] ["_law_word", "_law_content", "_law_pattern"] (defScope (top 61)) := ⟨rfl, rfl, rfl, by decide +kernel, rfl, by decide +kernel, by decide +kernel⟩
theorem ok__law_atom_so (C : W0 P w K mg base) : Cl P w K mg base 1 "_law_atom_so" ["_law_word", "_law_content", "_law_pattern"] (sp__law_atom_so K) := by
  refine Cl.of C.f__law_atom_so C.g__law_atom_so sc__law_atom_so (fun _ _ _ _ _ _ us hl => match us, hl with | [_, _, _], _ => rfl) (fun vs H Q E h => by obtain ⟨ds, d, ⟨_, _, _, _, rfl, rfl⟩, hd, _⟩ := h; exact hd.length) fun cdv A outer s H vs Q E hr h => ?_
  obtain ⟨_, _, ⟨a, ws, ns, ha, rfl, rfl⟩, hd, k⟩ := h
  obtain ⟨v0, v1, v2, rfl, h0, h1, h2⟩ := hd.three_inv
  have h0' := h0.str_inv
  subst h0'
  have h1 : Dp K H v1 (.tuple (ws.map PyData.int)) := h1
  have h2 : Dp K H v2 (.tuple (ns.map PyData.int)) := h2
  have hcl : (S a.cps).length ≤ 100000 := by rw [S_len]; cases a <;> simp [Atom.cps]
  have ixw : ∀ {σ : L2.St} {H : Hp} (i : Nat) (c : Nat), σ[0]? = some (some (.str (S a.cps))) → a.cps[i]? = some c → EvD K (tOp rIxS (tVar 0) (tC (.int (i : Nat)))) σ H (.str ⟨#[c]⟩) := fun {σ H} i c hs hc => ed_ixS (ed_var ⟨_, hs, .str _⟩) ed_int hcl (atI_nat (by simpa using hc))
  refine ⟨_, (pss_cons (ps_if (pt_cmpR op_eq (pe_ix ix_str (pv 0) pe_int (fun _ _ => rfl)) pe_str (nomark _)) (pss_one (ps_ret (pe_cmpR op_eq (pe_ix ix_tup (pv 1) (pe_callTy call_int_str (by rfl) C.n_int (by decide +kernel) (pa_cons (pe_ix ix_str (pv 0) pe_int (fun _ _ => rfl)) pa_nil)) (fun _ _ => rfl)) (pe_callTy call_int_str (by rfl) C.n_int (by decide +kernel) (pa_cons (pe_ix ix_str (pv 0) pe_int (fun _ _ => rfl)) pa_nil)) (nomark _)))) pss_nil)
      (pss_one (ps_ret (pe_ifExp (pt_cmpR op_eq (pe_ix ix_str (pv 0) pe_int (fun _ _ => rfl)) pe_str (nomark _)) (pe_cmpR op_notIn_seq (pe_callTy call_int_str (by rfl) C.n_int (by decide +kernel) (pa_cons (pe_ix ix_str (pv 0) pe_int (fun _ _ => rfl)) pa_nil)) (pv 2) (by rfl)) (pe_cmpR op_eq (pv 0) pe_str (nomark _)))))), ?_⟩
  cases a with
  | worth n m =>
    obtain ⟨hn, hn4, hm4⟩ := ha
    refine kq_take K (etk_D ((ed_eqS (ixw 0 99 rfl rfl) ed_str).is (congrArg PyData.bool (by decide)))) fun H1 e1 => ?_
    have hws : ws[n]? = some ws[n] := List.getElem?_eq_getElem hn
    refine sd_ret (K := K) (d := .bool (val ws ns (.worth n m))) ((ed_eqI (i := ws[n]) (j := (m : Int)) (ed_ixT (i := (n : Int)) (ed_var ⟨_, rfl, h1.ex e1⟩) (ed_intS (ixw 1 (48 + n) rfl rfl) (dig_text hn4) (by simp [Str.length])) (atI_nat (by rw [List.getElem?_map, hws]; rfl))) (ed_intS (ixw 3 (48 + m) rfl rfl) (dig_text hm4) (by simp [Str.length]))).is ?_) fun v H2 e2 hv => k v H2 (e1.trans e2) hv
    show _ = PyData.bool (decide (ws[n]? = some (m : Int)))
    rw [hws]; congr 1
    exact decide_eq_decide.mpr ⟨fun h => by rw [h], fun h => Option.some.inj h⟩
  | blank n =>
    have hn4 : n < 4 := ha
    refine kq_skip K (etk_D ((ed_eqS (ixw 0 98 rfl rfl) ed_str).is (congrArg PyData.bool (by decide)))) fun H1 e1 => ?_
    refine sd_ret (K := K) (d := .bool (val ws ns (.blank n))) (ed_if (b := true) (etk_D ((ed_eqS (ixw 0 98 rfl rfl) ed_str).is (congrArg PyData.bool (by decide)))) (fun _ => (ed_inT (neg := true) (x := .int (n : Nat)) (ed_intS (ixw 1 (48 + n) rfl rfl) (dig_text hn4) (by simp [Str.length])) (ed_var ⟨_, rfl, h2.ex e1⟩) rfl (by rw [List.all_eq_true]; intro d hd; obtain ⟨_, _, rfl⟩ := List.mem_map.mp hd; rfl)).is (by
          rw [if_pos rfl]; show PyData.bool (!inV (.int (n : Nat)) _) = PyData.bool (!ns.contains (n : Int)); rw [inV_ints])) (fun h => nomatch h)) fun v H2 e2 hv => k v H2 (e1.trans e2) hv
  | yes =>
    refine kq_skip K (etk_D ((ed_eqS (ixw 0 121 rfl rfl) ed_str).is (congrArg PyData.bool (by decide)))) fun H1 e1 => ?_
    exact sd_ret (K := K) (d := .bool true) (ed_if (b := false) (etk_D ((ed_eqS (ixw 0 121 rfl rfl) ed_str).is (congrArg PyData.bool (by decide)))) (fun h => nomatch h) fun _ => (ed_eqS (ed_var ⟨_, rfl, .str _⟩) ed_str).is (congrArg PyData.bool (by decide))) fun v H2 e2 hv => k v H2 (e1.trans e2) hv
  | no =>
    refine kq_skip K (etk_D ((ed_eqS (ixw 0 110 rfl rfl) ed_str).is (congrArg PyData.bool (by decide)))) fun H1 e1 => ?_
    exact sd_ret (K := K) (d := .bool false) (ed_if (b := false) (etk_D ((ed_eqS (ixw 0 110 rfl rfl) ed_str).is (congrArg PyData.bool (by decide)))) (fun h => nomatch h) fun _ => (ed_eqS (ed_var ⟨_, rfl, .str _⟩) ed_str).is (congrArg PyData.bool (by decide))) fun v H2 e2 hv => k v H2 (e1.trans e2) hv
/-! ### _law_deep_so -/
def stepR (x : Deep) (f : Nat → Bool) (b : Bool) (i : Nat) : Bool := if x.joint i then f i && b else f i || b
def stepL (x : Deep) (f : Nat → Bool) (s : Bool × Bool) (i : Nat) : Bool × Bool := if x.kind = 3 ∨ x.joint i then (if x.joint i then s.1 && f (i + 1) else s.1 || f (i + 1), s.2) else (f (i + 1), s.2 || s.1)
def Deep.so (x : Deep) (f : Nat → Bool) : Bool :=
  if x.kind < 3 then f 0 != (x.kind != 1 && x.many % 2 == 1)
  else if x.kind = 4 then (List.range x.many).reverse.foldl (stepR x f) (f x.many)
  else let s := (List.range x.many).foldl (stepL x f) (f 0, false); s.2 || s.1
def Deep.f (x : Deep) (ws ns : List Int) (i : Nat) : Bool := val ws ns (x.atom i)
theorem dps_rev {vs : List V} {ds : List PD} (h : DpAll K H vs ds) : DpAll K H vs.reverse ds.reverse := by
  induction vs generalizing ds with
  | nil => cases h; exact .nil
  | cons v vs ih =>
    cases h with
    | cons a b =>
      rw [List.reverse_cons, List.reverse_cons]
      exact (ih b).app (.cons a .nil)
theorem ed_revL {ds : List PD} (h : EvD K te σ H (.list ds)) : EvD K (tRevL K te) σ H (.list ds.reverse) := fun H1 e Q q => h H1 e _ fun v H2 e2 hv => by
  obtain ⟨a, xs, rfl, hs, hx⟩ := hv.lst_inv
  exact ⟨a, xs, rfl, hs, fun p hp => q _ _ (e2.trans (Ex.new hp)) (.lst (sq_of upd_same) ((dps_rev hx).ex (Ex.new hp)))⟩
def R_sp__law_deep_so : Prop := True
def sp__law_deep_so (K : PySem.W.Frag) : Sp := fun vs H Q _ => ∃ (d : Addr) (x : Deep) (ss ws ns : List Int) (u v : V), vs = [.ref d, u, v] ∧ DeepAt H d x ∧ x.ok ss ∧ (∀ a ∈ x.atoms, okA ws a) ∧ Dp K H u (tI ws) ∧ Dp K H v (tI ns) ∧ ∀ H', Ex H H' → Q (.bl (x.so (x.f ws ns))) H'
theorem sc__law_deep_so : FnScope ["_law_deep_here", "_law_content", "_law_pattern", "_law_kind", "_law_many", "_law_flags", "_law_places", "_law_found", "_law_at", "_law_flag", "_law_is_any", "_law_joint", "_law_word"] ["_law_deep_here", "_law_content", "_law_pattern"] (defScope (top 62)) := ⟨rfl, rfl, rfl, by decide +kernel, rfl, by decide +kernel, by decide +kernel⟩
theorem ok__law_deep_so (C : W0 P w K mg base) : Cl P w K mg base 2 "_law_deep_so" ["_law_deep_here", "_law_content", "_law_pattern"] (sp__law_deep_so K) := by
  have o__law_atom_so := ok__law_atom_so C
  have o__law_joint_at := ok__law_joint_at C
  refine Cl.of C.f__law_deep_so C.g__law_deep_so sc__law_deep_so (fun _ _ _ _ _ _ us hl => match us, hl with | [_, _, _], _ => rfl) (fun vs H Q E h => by obtain ⟨_, _, _, _, _, _, _, rfl, _⟩ := h; rfl) fun cdv A outer s H vs Q E hr h => ?_
  have hu := hu_of hr
  obtain ⟨d, x, ss, ws, ns, u, v, rfl, hx, hok, ha, hu', hv', k⟩ := h
  have hx' := hx
  obtain ⟨aa, jj, h1, h2, h3⟩ := hx'
  have hm := hok.m
  refine ⟨_, (pss_cons (ps_par (i := 3) (j := 4) rfl sc__law_deep_so.nd rfl rfl (by decide) rfl rfl (pa_cons (pe_dget hu (pv 0) pe_str (fun _ _ => rfl)) (pa_cons (pe_dget hu (pv 0) pe_str (fun _ _ => rfl)) pa_nil)) (by rfl))
      (pss_cons (ps_setLc (i := 5) (own := [("_law_word", 12)]) rfl sc__law_deep_so.nd rfl rfl (sw_true rfl rfl rfl (by decide +kernel)) (pi_list (pe_dget hu (pv 0) pe_str (fun _ _ => rfl))) (blkOk_by (N := ["_law_deep_here", "_law_content", "_law_pattern", "_law_kind", "_law_many", "_law_flags", "_law_places", "_law_found", "_law_at", "_law_flag", "_law_is_any", "_law_joint", "_law_word"]) (sc := (defScope (top 62))) (own := [("_law_word", 12)]) (by decide +kernel)) (fun _ _ _ _ _ => (pg_name (i := 12) sc__law_deep_so.nd rfl (Or.inl rfl))) (fun _ _ _ _ _ => pts_nil) (fun _ _ _ _ _ => (pe_cl o__law_atom_so hr (by decide) rfl (pa_cons (pv 12) (pa_cons (pv 1) (pa_cons (pv 2) pa_nil))))))
      (pss_cons (ps_if (pt_cmpR op_lt (pv 3) pe_int (nomark _)) (pss_one (ps_ret (pe_cmpR op_ne (pe_ix ix_list (pv 5) pe_int (fun _ _ => rfl)) (pe_and (pe_cmpR op_ne (pv 3) pe_int (nomark _)) (pe_one (pe_cmpR op_eq (pe_op op_mod (pe_callTy call_int1 (by rfl) C.n_int (by decide +kernel) (pa_cons (pv 4) pa_nil)) pe_int) pe_int (nomark _)))) (nomark _)))) pss_nil)
      (pss_cons (ps_set (i := 6) sc__law_deep_so.nd rfl (Or.inl rfl) (pe_listRg rfl rfl C.n_list (prg_1 rfl C.n_range (pe_op op_add (pv 4) pe_int))))
      (pss_cons (ps_if (pt_cmpR op_eq (pv 3) pe_int (nomark _)) (pss_cons (ps_set (i := 7) sc__law_deep_so.nd rfl (Or.inl rfl) (pe_ix ix_list (pv 5) (pe_op op_mod (pe_callTy call_int1 (by rfl) C.n_int (by decide +kernel) (pa_cons (pv 4) pa_nil)) (pe_callB call_len_seq (by rfl) C.n_len (by decide +kernel) (pa_cons (pv 5) pa_nil))) (fun _ _ => rfl)))
      (pss_cons (ps_for PassesOwn.never rfl (pi_list (pe_revL (pe_slice sl_list (pv 6) po_none (po_some (pe_un un_neg pe_int))))) (pg_name (i := 8) sc__law_deep_so.nd rfl (Or.inl rfl)) (pss_cons (ps_set (i := 9) sc__law_deep_so.nd rfl (Or.inl rfl) (pe_ix ix_list (pv 5) (pe_op op_mod (pe_callTy call_int1 (by rfl) C.n_int (by decide +kernel) (pa_cons (pv 8) pa_nil)) (pe_callB call_len_seq (by rfl) C.n_len (by decide +kernel) (pa_cons (pv 5) pa_nil))) (fun _ _ => rfl)))
      (pss_one (ps_set (i := 7) sc__law_deep_so.nd rfl (Or.inl rfl) (pe_ifExp (pt_cmpR op_eq (pe_cl o__law_joint_at hr (by decide) rfl (pa_cons (pv 0) (pa_cons (pv 8) pa_nil))) pe_str (nomark _)) (pe_and (pv 9) (pe_one (pv 7))) (pe_or (pv 9) (pe_one (pv 7))))))))
      (pss_one (ps_ret (pv 7))))) pss_nil)
      (pss_cons (ps_par (i := 7) (j := 10) rfl sc__law_deep_so.nd rfl rfl (by decide) rfl rfl (pa_cons (pe_ix ix_list (pv 5) pe_int (fun _ _ => rfl)) (pa_cons pe_bl pa_nil)) (by rfl))
      (pss_cons (ps_for PassesOwn.never rfl (pi_list (pe_slice sl_list (pv 6) (po_some pe_int) po_none)) (pg_name (i := 8) sc__law_deep_so.nd rfl (Or.inl rfl)) (pss_cons (ps_par (i := 9) (j := 11) rfl sc__law_deep_so.nd rfl rfl (by decide) rfl rfl (pa_cons (pe_ix ix_list (pv 5) (pe_op op_mod (pe_callTy call_int1 (by rfl) C.n_int (by decide +kernel) (pa_cons (pv 8) pa_nil)) (pe_callB call_len_seq (by rfl) C.n_len (by decide +kernel) (pa_cons (pv 5) pa_nil))) (fun _ _ => rfl)) (pa_cons (pe_cl o__law_joint_at hr (by decide) rfl (pa_cons (pv 0) (pa_cons (pe_op op_sub (pv 8) pe_int) pa_nil))) pa_nil)) (by rfl))
      (pss_one (ps_if (PW.pt (pw_or (pt_cmpR op_eq (pv 3) pe_int (nomark _)) (pw_or1 (pt_cmpR op_eq (pv 11) pe_str (nomark _))))) (pss_one (ps_set (i := 7) sc__law_deep_so.nd rfl (Or.inl rfl) (pe_ifExp (pt_cmpR op_eq (pv 11) pe_str (nomark _)) (pe_and (pv 7) (pe_one (pv 9))) (pe_or (pv 7) (pe_one (pv 9)))))) (pss_one (ps_par (i := 10) (j := 7) rfl sc__law_deep_so.nd rfl rfl (by decide) rfl rfl (pa_cons (pe_or (pv 10) (pe_one (pv 7))) (pa_cons (pv 9) pa_nil)) (by rfl)))))))
      (pss_one (ps_ret (pe_or (pv 10) (pe_one (pv 7)))))))))))), ?_⟩
  refine qd_par (K := K) (d := .int (x.kind : Nat)) (e := .int (x.many : Nat)) (eds_cons (ed_dget rfl h1 rfl (.int _)) (eds_cons (ed_dget rfl h1 rfl (.int _)) eds_nil)) fun v1 v2 H1 e1 hv1 hv2 => ?_
  have hv := hv1.int_inv
  subst hv
  have hv := hv2.int_inv
  subst hv
  have h1 := e1 _ _ h1
  have h2 := e1 _ _ h2
  refine qd_asg (K := K) (d := .list ((x.atoms.map (val ws ns)).map PyData.bool)) ((ed_lcAM (xs := x.atoms) (f := fun a => .str (S a.cps)) (g := fun a => .bool (val ws ns a)) (wk_list ((ed_dget rfl h1 rfl (dp_strs h2)).is (by rw [List.map_map]; rfl))) (by have := hok.a; omega) (fun _ _ => rfl) (fun _ => rfl) fun H6 e8 a haa z hz => ?_).is (by rw [List.map_map]; rfl)) fun vf H2 e2 hvf => ?_
  · exact ed_call (eds_cons (ed_var ⟨_, rfl, hz⟩) (eds_cons (ed_var ⟨_, rfl, hu'.ex (e1.trans e8)⟩) (eds_cons (ed_var ⟨_, rfl, hv'.ex (e1.trans e8)⟩) eds_nil))) (pu_law_atom_so (ha a haa))
  have hx := hx.ex (e1.trans e2)
  have k : ∀ H', Ex H2 H' → Q (.bl (x.so (x.f ws ns))) H' := fun H' e => k H' ((e1.trans e2).trans e)
  have hflag : ∀ {σ : L2.St} {H : Hp} {te : TE} {n : Nat}, σ[5]? = some (some vf) → Ex H2 H → EvD K te σ H (.int (n : Nat)) → EvD K (tOp (rIxL K) (tVar 5) (tOp (rI (fun _ j => 0 < j) fun i j => V.int (i % j)) (tCB (fun xs H Q => (∃ i, xs = [.int i] ∧ Q (.int i) H) ∨ ∃ k, xs = [.bl k] ∧ Q (.int (if k then 1 else 0)) H) (tCons te tNil)) (tCB (fun xs H Q => ∃ p ys, xs = [.ref p] ∧ (SqL K H p ys ∨ SqT K H p ys) ∧ Q (.int ys.length) H) (tCons (tVar 5) tNil)))) σ H (.bool (x.f ws ns n)) := by
    intro σ H te n hs e h
    have hm : n % x.atoms.length < x.atoms.length := Nat.mod_lt _ (by have := hok.a; omega)
    have hl : EvD K (tVar 5) σ H (.list ((x.atoms.map (val ws ns)).map PyData.bool)) := ed_var ⟨_, hs, hvf.ex e⟩
    refine ed_ixL hl ((ed_I (g := fun i j => i % j) (ed_intI h) ((ed_lenL hl).is (by rw [List.length_map, List.length_map])) (by omega)).is rfl) ?_
    rw [← Int.natCast_emod]
    refine atI_nat ?_
    rw [List.getElem?_map, List.getElem?_map, List.getElem?_eq_getElem hm]
    unfold Deep.f Deep.atom
    rw [List.getD_eq_getElem?_getD, List.getElem?_eq_getElem hm]
    rfl
  have hf0 : ∀ {σ : L2.St} {H : Hp}, σ[5]? = some (some vf) → Ex H2 H → EvD K (tOp (rIxL K) (tVar 5) (tC (.int 0))) σ H (.bool (x.f ws ns 0)) := by
    intro σ H hs e
    have hm : 0 < x.atoms.length := by have := hok.a; omega
    refine ed_ixL (i := 0) (ed_var ⟨_, hs, hvf.ex e⟩) ed_int ?_
    refine atI_nat (i := 0) ?_
    rw [List.getElem?_map, List.getElem?_map, List.getElem?_eq_getElem hm]
    unfold Deep.f Deep.atom
    rw [List.getD_eq_getElem?_getD, Nat.zero_mod, List.getElem?_eq_getElem hm]
    rfl
  have hkd : ∀ {σ : L2.St} {H : Hp} {n : Nat}, σ[3]? = some (some (.int (x.kind : Nat))) → EvTK K (tTest (tOp rEq (tVar 3) (tC (.int (n : Nat))))) σ H (decide (x.kind = n)) := fun hs => etk_D ((ed_eqI (ed_var ⟨_, hs, .int _⟩) ed_int).is (by congr 1; exact decide_eq_decide.mpr ⟨fun h => by omega, fun h => by omega⟩))
  by_cases hlt : x.kind < 3
  · refine kq_take K (etk_D ((ed_B0 (g := fun i j => decide (i < j)) (i := (x.kind : Int)) (j := 3) (ed_var ⟨_, rfl, .int _⟩) ed_int).is (by rw [decide_eq_true (by omega)]))) fun H3 e3 => ?_
    refine sd_ret (K := K) (d := .bool (x.so (x.f ws ns))) ((ed_ne (.bl _) (.bl _) (hf0 rfl e3) (ed_and (a := x.kind != 1) (b := x.many % 2 == 1) ((ed_neI (ed_var ⟨_, rfl, .int _⟩) ed_int).is ?_) fun _ => ((ed_eqI (ed_I (g := fun i j => i % j) (ed_intI (ed_var ⟨_, rfl, .int _⟩)) ed_int (by decide)) ed_int).is ?_)) rfl).is ?_) fun v H4 e4 hv => by rw [hv.bl_inv]; exact k H4 (e3.trans e4)
    · congr 1
      rw [Bool.eq_iff_iff]
      simp
      omega
    · congr 1
      rw [Bool.eq_iff_iff]
      simp
      omega
    · congr 1
      unfold Deep.so
      rw [if_pos hlt]
      cases x.f ws ns 0 <;> cases (x.kind != 1 && x.many % 2 == 1) <;> rfl
  refine kq_skip K (etk_D ((ed_B0 (g := fun i j => decide (i < j)) (i := (x.kind : Int)) (j := 3) (ed_var ⟨_, rfl, .int _⟩) ed_int).is (by rw [decide_eq_false (by omega)]))) fun H3 e3 => ?_
  refine qd_asg (K := K) (EvF.ed (ef_listRg (n := ((x.many + 1 : Nat) : Int)) ((ed_I0 (ed_var ⟨_, rfl, .int _⟩) ed_int).is rfl) (by omega) (by omega))) fun vp H4 e4 hvp => ?_
  rw [Int.toNat_natCast] at hvp
  by_cases h4 : x.kind = 4
  · refine kq_take K ((hkd (n := 4) rfl).is (decide_eq_true h4)) fun H5 e5 => ?_
    have e25 := (e3.trans e4).trans e5
    refine qd_asg (K := K) (d := .bool (x.f ws ns x.many)) (hflag rfl e25 (ed_var ⟨_, rfl, .int _⟩)) fun v7 H6 e6 hv7 => ?_
    have hv' := hv7.bl_inv
    subst hv'
    have hLl : (List.range x.many).reverse.length = x.many := by simp
    refine qd_for (K := K) (ds := ((List.range x.many).reverse.map fun i => PyData.int ((i : Nat) : Int))) (wk_list ((ed_revL (ed_sl (ed_var ⟨_, rfl, hvp.ex (e5.trans e6)⟩) eo_none (eo_D (K := K) (ed_neg ed_int)))).is ?_)) (fun i σ' H' => ∃ z8 z9, σ' = [some (.ref d), some u, some v, some (.int (x.kind : Nat)), some (.int (x.many : Nat)), some vf, some vp, some (.bl (((List.range x.many).reverse.take i).foldl (stepR x (x.f ws ns)) (x.f ws ns x.many))), z8, z9, none, none, none] ∧ Ex H2 H') (fun H7 e7 => ⟨_, _, rfl, (e25.trans e6).trans e7⟩) ?_ ?_
    · rw [intD_len, HT.sIx_none, List.drop_zero, Nat.sub_zero]
      have e : HT.sIx (x.many + 1) (x.many + 1) (some (-1)) = x.many := by
        unfold HT.sIx
        simp
        omega
      rw [e]
      unfold intD
      rw [← List.map_take, ← List.map_reverse]
      congr 1
      rw [List.take_range, Nat.min_eq_left (by omega)]
      exact List.map_congr_left fun i _ => by rw [Int.zero_add]
    · rintro H0 e0 i dd hdd σ' H' e7 ⟨z8, z9, rfl, eH⟩ q H8 e8 hq
      rw [List.getElem?_map] at hdd
      obtain ⟨n, hn, rfl⟩ := Option.map_eq_some_iff.mp hdd
      obtain ⟨hi, hie⟩ := List.getElem?_eq_some_iff.mp hn
      have hq' := hq.int_inv
      subst hq'
      refine qd_asg (K := K) (d := .bool (x.f ws ns n)) (hflag rfl (eH.trans e8) (ed_var ⟨_, rfl, .int _⟩)) fun v9 H9 e9 hv9 => ?_
      have hv' := hv9.bl_inv
      subst hv'
      refine sd_asg (K := K) (d := .bool (stepR x (x.f ws ns) (((List.range x.many).reverse.take i).foldl (stepR x (x.f ws ns)) (x.f ws ns x.many)) n)) (ed_if (b := x.joint n) (etk_D ((ed_eqS (ed_jat (n := n) rfl (hx.ex ((eH.trans e8).trans e9)) hok (ed_var ⟨_, rfl, .int _⟩)) ed_str).is ?_)) (fun h => ?_) fun h => ?_) fun v10 H10 e10 hv10 => ?_
      · congr 1
        cases x.joint n <;> decide
      · unfold stepR
        rw [if_pos h]
        exact ed_and (ed_var ⟨_, rfl, .bl _⟩) fun _ => ed_var ⟨_, rfl, .bl _⟩
      · unfold stepR
        rw [if_neg (by rw [h]; exact Bool.false_ne_true)]
        exact ed_or (ed_var ⟨_, rfl, .bl _⟩) fun _ => ed_var ⟨_, rfl, .bl _⟩
      · refine ⟨((e7.trans e8).trans e9).trans e10, some (.int ((n : Nat) : Int)), some (.bl (x.f ws ns n)), ?_, ((eH.trans e8).trans e9).trans e10⟩
        rw [List.take_succ_eq_append_getElem hi, hie, List.foldl_append, hv10.bl_inv]
        rfl
    · rintro σ' H' e7 ⟨z8, z9, rfl, eH⟩
      rw [List.length_map, List.take_length]
      refine sd_ret (K := K) (d := .bool (x.so (x.f ws ns))) ((ed_var ⟨_, rfl, .bl _⟩ : EvD K (tVar 7) _ _ _).is ?_) fun v H7 e8 hv => by rw [hv.bl_inv]; exact k H7 (eH.trans e8)
      congr 1
      unfold Deep.so
      rw [if_neg hlt, if_pos h4]
  · refine kq_skip K ((hkd (n := 4) rfl).is (decide_eq_false h4)) fun H5 e5 => ?_
    have e25 := (e3.trans e4).trans e5
    refine qd_par (K := K) (d := .bool (x.f ws ns 0)) (e := .bool false) (eds_cons (hf0 rfl e25) (eds_cons ed_bl eds_nil)) fun v7 v10 H6 e6 hv7 hv10 => ?_
    have hv' := hv7.bl_inv
    subst hv'
    have hv' := hv10.bl_inv
    subst hv'
    refine qd_for (K := K) (ds := ((List.range x.many).map fun i => PyData.int ((i + 1 : Nat) : Int))) (wk_list ((ed_slFrom (n := 1) (ed_var ⟨_, rfl, hvp.ex (e5.trans e6)⟩) ed_int).is ?_)) (fun i σ' H' => ∃ z8 z9 z11, σ' = [some (.ref d), some u, some v, some (.int (x.kind : Nat)), some (.int (x.many : Nat)), some vf, some vp, some (.bl (((List.range x.many).take i).foldl (stepL x (x.f ws ns)) (x.f ws ns 0, false)).1), z8, z9, some (.bl (((List.range x.many).take i).foldl (stepL x (x.f ws ns)) (x.f ws ns 0, false)).2), z11, none] ∧ Ex H2 H') (fun H7 e7 => ⟨_, _, _, rfl, (e25.trans e6).trans e7⟩) ?_ ?_
    · unfold intD
      rw [List.range_succ_eq_map]
      congr 1
      rw [List.map_cons, List.drop_one, List.tail_cons, List.map_map]
      exact List.map_congr_left fun i _ => by show PyData.int (0 + ((i + 1 : Nat) : Int)) = _; rw [Int.zero_add]
    · rintro H0 e0 i dd hdd σ' H' e7 ⟨z8, z9, z11, rfl, eH⟩ q H8 e8 hq
      rw [List.getElem?_map] at hdd
      obtain ⟨n, hn, rfl⟩ := Option.map_eq_some_iff.mp hdd
      obtain ⟨hi, hie⟩ := List.getElem?_eq_some_iff.mp hn
      have hq' := hq.int_inv
      subst hq'
      have est : ((List.range x.many).take (i + 1)).foldl (stepL x (x.f ws ns)) (x.f ws ns 0, false) = stepL x (x.f ws ns) (((List.range x.many).take i).foldl (stepL x (x.f ws ns)) (x.f ws ns 0, false)) n := by
        rw [List.take_succ_eq_append_getElem hi, hie, List.foldl_append]; rfl
      rw [show nxt H0 _ i = nxt H0 _ i from rfl]
      generalize hst : ((List.range x.many).take i).foldl (stepL x (x.f ws ns)) (x.f ws ns 0, false) = st at est ⊢
      obtain ⟨fd, an⟩ := st
      refine qd_par (K := K) (d := .bool (x.f ws ns (n + 1))) (e := .str (jS (x.joint n))) (eds_cons (hflag rfl (eH.trans e8) (ed_var ⟨_, rfl, .int _⟩)) (eds_cons (ed_jat (n := n) rfl (hx.ex (eH.trans e8)) hok ((ed_I0 (i := ((n + 1 : Nat) : Int)) (j := 1) (ed_var ⟨_, rfl, .int _⟩) ed_int).is (by congr 1; omega))) eds_nil)) fun v9 v11 H9 e9 hv9 hv11 => ?_
      have hv' := hv9.bl_inv
      subst hv'
      have hv' := hv11.str_inv
      subst hv'
      have e29 := (eH.trans e8).trans e9
      have hj : ∀ {σ : L2.St} {H : Hp}, σ[11]? = some (some (.str (jS (x.joint n)))) → EvTK K (tTest (tOp rEq (tVar 11) (tC (.str "and")))) σ H (x.joint n) := fun hs => etk_D ((ed_eqS (ed_var ⟨_, hs, .str _⟩) ed_str).is (by congr 1; cases x.joint n <;> decide))
      refine ks_if K (b := decide (x.kind = 3) || x.joint n) (etk_or (hkd (n := 3) rfl) fun _ => hj rfl) (fun hb H10 e10 => ?_) (fun hb H10 e10 => ?_)
      · have hb' : x.kind = 3 ∨ x.joint n = true := by simpa using hb
        refine sd_asg (K := K) (d := .bool (if x.joint n then fd && x.f ws ns (n + 1) else fd || x.f ws ns (n + 1))) (ed_if (hj rfl) (fun h => ?_) fun h => ?_) fun v12 H11 e11 hv12 => ⟨((e7.trans e8).trans e9).trans (e10.trans e11), some (.int ((n + 1 : Nat) : Int)), some (.bl (x.f ws ns (n + 1))), some (.str (jS (x.joint n))), ?_, e29.trans (e10.trans e11)⟩
        · rw [if_pos h]
          exact ed_and (ed_var ⟨_, rfl, .bl _⟩) fun _ => ed_var ⟨_, rfl, .bl _⟩
        · rw [if_neg (by rw [h]; exact Bool.false_ne_true)]
          exact ed_or (ed_var ⟨_, rfl, .bl _⟩) fun _ => ed_var ⟨_, rfl, .bl _⟩
        · rw [est, hv12.bl_inv]
          unfold stepL
          rw [if_pos hb']
          rfl
      · have hb' : ¬ (x.kind = 3 ∨ x.joint n = true) := by
          intro z
          have : (decide (x.kind = 3) || x.joint n) = true := by simpa using z
          rw [this] at hb
          cases hb
        refine sd_par (K := K) (d := .bool (an || fd)) (e := .bool (x.f ws ns (n + 1))) (eds_cons (ed_or (ed_var ⟨_, rfl, .bl _⟩) fun _ => ed_var ⟨_, rfl, .bl _⟩) (eds_cons (ed_var ⟨_, rfl, .bl _⟩) eds_nil)) fun v12 v13 H11 e11 hv12 hv13 => ⟨((e7.trans e8).trans e9).trans (e10.trans e11), some (.int ((n + 1 : Nat) : Int)), some (.bl (x.f ws ns (n + 1))), some (.str (jS (x.joint n))), ?_, e29.trans (e10.trans e11)⟩
        rw [est, hv12.bl_inv, hv13.bl_inv]
        unfold stepL
        rw [if_neg hb']
        rfl
    · rintro σ' H' e7 ⟨z8, z9, z11, rfl, eH⟩
      refine sd_ret (K := K) (d := .bool (x.so (x.f ws ns))) ((ed_or (ed_var ⟨_, rfl, .bl _⟩) fun _ => ed_var ⟨_, rfl, .bl _⟩ : EvD K (tOrV (tVar 10) (tVar 7)) _ _ _).is ?_) fun v H7 e8 hv => by rw [hv.bl_inv]; exact k H7 (eH.trans e8)
      congr 1
      rw [List.length_map, List.take_length]
      unfold Deep.so
      rw [if_neg hlt, if_neg h4]
end
end K61
end

section
set_option Elab.async false
set_option linter.all false
set_option maxRecDepth 100000
set_option maxHeartbeats 4000000
namespace K61
open PySem PySem.Spec PyProof.Rows L2 Evl RZ SX
local macro_rules | `(tactic| walk_at "evs") => `(tactic| first
  | exact ed_int | exact ed_str | exact ed_bl | exact ed_non
  | exact ed_var ⟨_, rfl, by first | assumption | exact .int _ | exact .str _ | exact .bl _ | exact .non⟩
  | exact ed_top (W0.t_ZERO (by assumption)) | exact ed_top (W0.t_ONE (by assumption))
  | refine ed_I0 ?_ ?_ | refine ed_B0 ?_ ?_ | refine ed_I ?_ ?_ ?_
  | refine ed_call ?_ ?_ | refine eds_cons ?_ ?_ | exact eds_nil
  | ((apply ed_ixT); (focus (walk_at "ev"; done)); (focus (walk_at "ev"; done)); (focus (exact rfl)); done)
  | ((apply ed_ixL); (focus (walk_at "ev"; done)); (focus (walk_at "ev"; done)); (focus (exact rfl)); done)
  | refine ed_tup ?_ ?_ | refine ed_lst ?_ ?_
  | ((refine ed_lenL ?_); (walk_at "ev"); done) | ((refine ed_lenT ?_); (walk_at "ev"); done) | refine ed_lenS ?_ ?_
  | refine ed_abs ?_ | ((refine ed_intI ?_); (walk_at "ev"); done) | refine ed_intB ?_ | refine ed_isi ?_ ?_
  | ((refine ed_eqI ?_ ?_ <;> walk_at "ev"); done) | ((refine ed_eqS ?_ ?_ <;> walk_at "ev"); done) | refine ed_neS ?_ ?_
  | refine ed_eqD ?_ ?_ ?_ ?_ | refine ed_neD ?_ ?_ ?_ ?_ | refine ed_ltD ?_ ?_ ?_ ?_ ?_
  | refine ed_isN ?_ | refine ed_notN ?_
  | refine ed_chain ?_ ?_ ?_ | refine ed_not ?_ | refine ed_and ?_ ?_ | refine ed_or ?_ ?_
  | refine ed_catS ?_ ?_ ?_ | refine ed_catT ?_ ?_ ?_
  | refine etk_D ?_ | refine etk_DB ?_ | refine etk_not ?_ | refine etk_and ?_ ?_ | refine etk_or ?_ ?_
  | exact rfl | assumption | omega | refine (fun (_ : _ = true) => ?_) | refine (fun (_ : _ = false) => ?_))
local macro_rules | `(tactic| walk_at "ev") => `(tactic| (walk_at "evs" <;> (try walk_at "ev")))

/-- stands in '()' -/
def par (x : Str) : Bool := !(Builtin.Str.occurrences "()" x 0 ("()" : Str).length 1).isEmpty
def sepC (g : Bool) (p w : List Nat) : List Nat := if (par (S w) || par (S p)) && g then [] else [32]
def partAt (g : Bool) (ws : List (List Nat)) (i : Nat) : List Nat := (if i = 0 then [] else sepC g (ws.getD (i - 1) []) (ws.getD i [])) ++ ws.getD i []
def textI (g : Bool) (ws : List (List Nat)) : List Nat := ((List.range ws.length).map (partAt g ws)).flatten
theorem joinL_nil : ∀ (l : List (List Nat)), TL.joinL [] l = l.flatten
  | [] => rfl
  | [p] => by simp [TL.joinL]
  | p :: q :: r => by
    show p ++ ([] ++ TL.joinL [] (q :: r)) = _
    rw [joinL_nil (q :: r)]
    rfl
theorem sum_len {c : Nat} : ∀ {l : List Str}, (∀ y ∈ l, y.length ≤ c) → (l.map (·.length)).sum ≤ c * l.length
  | [], _ => by simp
  | a :: l, h => by
    have h1 := h a (List.mem_cons_self ..)
    have h2 := sum_len (l := l) fun y hy => h y (List.mem_cons_of_mem _ hy)
    rw [List.map_cons, List.sum_cons, List.length_cons, Nat.mul_add]
    omega
section
variable {P : Program} {w : World} {K : PySem.W.Frag} {mg : Str → Option Value} {base : Heap} {σ : L2.St} {H H' : Hp} {ta tb te td ty tv tn : TE} {E : XK} {hd : Addr} {D : Ends}
theorem ed_par {x : Str} (ha : EvD K ta σ H (.str x)) : EvD K (tOp (fun x y H Q => ∃ i j, x = .str i ∧ y = .str j ∧ Q (.bl (!(Builtin.Str.occurrences j i 0 j.length 1).isEmpty)) H) ta (tC (.str "()"))) σ H (.bool (par x)) :=
  ed_op ha ed_str fun H1 _ v u hv hu Q q => ⟨_, _, hv.str_inv, hu.str_inv, q _ H1 (Ex.refl H1) (.bl _)⟩
/-! ### _law_text -/
def R_law_text (ds : List PD) (d : PD) : Prop := ∃ (ws : List (List Nat)) (g : Bool), ws.length ≤ 40000 ∧ (∀ w ∈ ws, w.length ≤ 10) ∧ ds = [.list (ws.map fun w => .str (S w)), .str (if g then "" else " ")] ∧ d = .str (S (textI g ws))
abbrev sp__law_text (K : PySem.W.Frag) : Sp := spD K R_law_text
theorem pu_law_text {ws : List (List Nat)} {g : Bool} (h : ws.length ≤ 40000) (h2 : ∀ w ∈ ws, w.length ≤ 10) : Pure K (sp__law_text K) [.list (ws.map fun w => .str (S w)), .str (if g then "" else " ")] (.str (S (textI g ws))) := spD_pure ⟨_, _, h, h2, rfl, rfl⟩
theorem sc__law_text : FnScope ["_law_words", "_law_gap", "_law_found", "_law_at", "_law_is_beside"] ["_law_words", "_law_gap"] (defScope (top 63)) := ⟨rfl, rfl, rfl, by decide +kernel, rfl, by decide +kernel, by decide +kernel⟩
theorem ok__law_text (C : W0 P w K mg base) : Cl P w K mg base 1 "_law_text" ["_law_words", "_law_gap"] (sp__law_text K) := by
  refine Cl.of C.f__law_text C.g__law_text sc__law_text (fun _ _ _ _ _ _ us hl => match us, hl with | [_, _], _ => rfl) (fun vs H Q E h => by obtain ⟨ds, d, ⟨_, _, _, _, rfl, rfl⟩, hd, _⟩ := h; exact hd.length) fun cdv A outer s H vs Q E hr h => ?_
  obtain ⟨_, _, ⟨ws, g, hl, hw, rfl, rfl⟩, hd, k⟩ := h
  obtain ⟨v0, v1, rfl, h0, h1⟩ := hd.two_inv
  have h1' := h1.str_inv
  subst h1'
  refine ⟨_, (pss_cons (ps_set (i := 2) sc__law_text.nd rfl (Or.inl rfl) (pe_lst pa_nil))
      (pss_cons (ps_for PassesOwn.never rfl (pi_range1 rfl C.n_range (pa_cons (pe_callB call_len_seq (by rfl) C.n_len (by decide +kernel) (pa_cons (pv 0) pa_nil)) pa_nil)) (pg_name (i := 3) sc__law_text.nd rfl (Or.inl rfl)) (pss_cons (ps_set (i := 4) sc__law_text.nd rfl (Or.inl rfl) (pe_and (pe_cmpR op_gt (pv 3) pe_int (nomark _)) (pe_one (pe_or (pe_cmpR op_in_str (pe_ix ix_list (pv 0) (pv 3) (fun _ _ => rfl)) pe_str (by rfl)) (pe_one (pe_cmpR op_in_str (pe_ix ix_list (pv 0) (pe_op op_sub (pv 3) pe_int) (fun _ _ => rfl)) pe_str (by rfl)))))))
      (pss_one (ps_expr (pe_bm PySem.F.plainAttrs_list PySem.F.slot_list_append PySem.F.type_list_append mt_append (pv 2) (pa_cons (pe_op op_add_str (pe_ifExp (PW.pt (pw_or (pt_cmpR op_eq (pv 3) pe_int (nomark _)) (pw_or1 (PW.pt (pw_and (pt_val (pv 4)) (pw_and1 (pt_cmpR op_eq (pv 1) pe_str (nomark _)))))))) pe_str pe_str) (pe_ix ix_list (pv 0) (pv 3) (fun _ _ => rfl))) pa_nil))))))
      (pss_one (ps_ret (pe_join pe_str (pv 2)))))), ?_⟩
  refine qd_asgF (K := K) (ds := []) (ef_lst eds_nil (by simp)) fun p vs H1 hp e1 hpl hvs => ?_
  cases hvs
  have hat : ∀ {σ : L2.St} {G : Hp} {te : TE} {i : Nat}, σ[0]? = some (some v0) → Ex H G → i < ws.length → EvD K te σ G (.int (i : Nat)) → EvD K (tOp (rIxL K) (tVar 0) te) σ G (.str (S (ws.getD i []))) := by
    intro σ G te i hs e hi h
    refine ed_ixL (i := (i : Int)) (ed_var ⟨_, hs, h0.ex e⟩) h (atI_nat ?_)
    rw [List.getElem?_map, List.getElem?_eq_getElem hi, List.getD_eq_getElem?_getD, List.getElem?_eq_getElem hi]
    rfl
  have hwl : ∀ i, (ws.getD i []).length ≤ 10 := by
    intro i
    rw [List.getD_eq_getElem?_getD]
    cases h : ws[i]? with
    | none => simp
    | some w => exact hw w (List.mem_of_getElem? h)
  refine qd_forV (K := K) (G := H) (ds := intD 0 ws.length) e1 ?_ (fun i σ' H' => ∃ z3 z4, σ' = [some v0, some (.str (if g then "" else " ")), some (.ref p), z3, z4] ∧ H' p = some (.lst ((((List.range i).map (partAt g ws)).map S).map V.str))) ⟨_, _, rfl, hpl⟩ ?_ ?_
  · have hlen := wv_range1 (K := K) (G := H) (ta := tCB (fun xs H Q => ∃ p ys, xs = [.ref p] ∧ (SqL K H p ys ∨ SqT K H p ys) ∧ Q (.int ys.length) H) (tCons (tVar 0) tNil)) (n := (ws.length : Int)) (σ := [some v0, some (.str (if g then "" else " ")), some (.ref p), none, none]) (EvD.int (K := K) ((ed_lenL (ed_var ⟨_, rfl, h0⟩)).is (by rw [List.length_map]))) (by omega) (fun H2 Q e q => by
      obtain ⟨a, xs, rfl, hs, hx⟩ := h0.lst_inv
      have hxl : xs.length = ws.length := by rw [hx.length, List.length_map]
      exact ⟨_, rfl, a, xs, rfl, .inl (ex_l e hs), by rw [hxl]; exact q⟩)
    rw [Int.toNat_natCast] at hlen
    exact hlen
  · rintro i dd hdd σ' H' e2 ⟨z3, z4, rfl, ha⟩ q H2 e3 hq
    have hil : i < ws.length := by
      have := (List.getElem?_eq_some_iff.mp hdd).1
      rwa [intD_len] at this
    rw [intD_at hil] at hdd
    cases hdd
    have hq' := hq.int_inv
    subst hq'
    rw [Int.zero_add]
    have e02 := e2.trans e3
    refine qd_asg (K := K) (d := .bool (decide (0 < i) && (par (S (ws.getD i [])) || par (S (ws.getD (i - 1) []))))) ?_ fun v4 H3 e4 h4 => ?_
    · refine ed_and ((ed_B0 (g := fun i j => decide (i > j)) (i := (i : Int)) (j := 0) (ed_var ⟨_, rfl, .int _⟩) ed_int).is (by congr 1; exact decide_eq_decide.mpr (by omega))) fun h => ed_or (ed_par (hat rfl e02 hil (ed_var ⟨_, rfl, .int _⟩))) fun _ => ed_par (hat rfl e02 (by omega) ((ed_I0 (ed_var ⟨_, rfl, .int _⟩) ed_int).is (by have := of_decide_eq_true h; congr 1; omega)))
    have h4' := h4.bl_inv
    subst h4'
    refine sd_app (K := K) (d := .str (S (partAt g ws i))) rfl (e4 _ _ (e3 _ _ ha)) ?_ (by rw [List.length_map, List.length_map, List.length_map, List.length_range]; omega) fun v5 H4 e5 h5 => ⟨Ex.mut ((e2.trans e3).trans (e4.trans e5)) hp, _, _, rfl, ?_⟩
    · have hb : EvTK K (tOr (tTest (tOp rEq (tVar 3) (tC (.int 0)))) (tAnd (tB (tVar 4)) (tTest (tOp rEq (tVar 1) (tC (.str "")))))) [some v0, some (.str (if g then "" else " ")), some (.ref p), some (.int ((i : Nat) : Int)), some (.bl (decide (0 < i) && (par (S (ws.getD i [])) || par (S (ws.getD (i - 1) [])))))] H3 (decide (i = 0) || ((decide (0 < i) && (par (S (ws.getD i [])) || par (S (ws.getD (i - 1) [])))) && g)) :=
        etk_or (etk_D ((ed_eqI (ed_var ⟨_, rfl, .int _⟩) ed_int).is (by congr 1; exact decide_eq_decide.mpr (by omega)))) fun _ => etk_and (etk_DB (ed_var ⟨_, rfl, .bl _⟩)) fun _ => etk_D ((ed_eqS (ed_var ⟨_, rfl, .str _⟩) ed_str).is (by congr 1; cases g <;> decide))
      refine (ed_catS (x := S (if i = 0 then [] else sepC g (ws.getD (i - 1) []) (ws.getD i []))) (y := S (ws.getD i [])) (ed_if hb (fun h => ed_str.is ?_) fun h => ed_str.is ?_) (hat rfl (e02.trans e4) hil (ed_var ⟨_, rfl, .int _⟩)) ?_).is ?_
      · by_cases hi : i = 0
        · rw [if_pos hi]; rfl
        · rw [if_neg hi]
          unfold sepC
          rw [decide_eq_false hi, Bool.false_or, decide_eq_true (by omega), Bool.true_and] at h
          rw [if_pos h]
          rfl
      · by_cases hi : i = 0
        · rw [decide_eq_true hi] at h; cases h
        · rw [if_neg hi]
          unfold sepC
          rw [decide_eq_false hi, Bool.false_or, decide_eq_true (by omega), Bool.true_and] at h
          rw [if_neg (by rw [h]; exact Bool.false_ne_true)]
          rfl
      · have := hwl i
        rw [S_len, S_len]
        have : (if i = 0 then [] else sepC g (ws.getD (i - 1) []) (ws.getD i [])).length ≤ 1 := by
          split
          · simp
          · unfold sepC; split <;> simp
        omega
      · rw [S_cat]; rfl
    · rw [h5.str_inv, upd_same, List.range_succ, List.map_append, List.map_append, List.map_append]
      rfl
  · rintro σ' H' e2 ⟨z3, z4, rfl, ha⟩
    rw [intD_len] at ha
    refine sd_ret (K := K) (d := .str (S (textI g ws))) (fun H3 e3 Q' q' => ⟨⟨_, rfl⟩, _, rfl, _, p, _, rfl, rfl, .inl (sq_of (e3 _ _ ha)), ?_, ?_⟩) fun v H3 e3 hv => k v H3 (e2.trans e3) hv
    · have h := sum_len (c := 11) (l := ((List.range ws.length).map (partAt g ws)).map S) (fun y hy => by
        obtain ⟨z, hz, rfl⟩ := List.mem_map.mp hy
        obtain ⟨i, _, rfl⟩ := List.mem_map.mp hz
        have := hwl i
        rw [S_len]
        unfold partAt
        have : (if i = 0 then [] else sepC g (ws.getD (i - 1) []) (ws.getD i [])).length ≤ 1 := by
          split
          · simp
          · unfold sepC; split <;> simp
        rw [List.length_append]
        omega)
      rw [List.length_map, List.length_map, List.length_range] at h ⊢
      have e : ("" : Str).length = 0 := rfl
      rw [e]
      omega
    · have e : Txt.join ("" : Str) (((List.range ws.length).map (partAt g ws)).map S) = S (textI g ws) := by
        rw [show ("" : Str) = S [] from rfl, join_S, joinL_nil]
        rfl
      rw [e]
      exact q' _ H3 (Ex.refl _) (.str _)
end
end K61
end

section
set_option Elab.async false
set_option linter.all false
set_option maxRecDepth 100000
set_option maxHeartbeats 4000000
namespace K61
open PySem PySem.Spec PyProof.Rows L2 Evl RZ SX
local macro_rules | `(tactic| walk_at "evs") => `(tactic| first
  | exact ed_int | exact ed_str | exact ed_bl | exact ed_non
  | exact ed_var ⟨_, rfl, by first | assumption | exact .int _ | exact .str _ | exact .bl _ | exact .non⟩
  | exact ed_top (W0.t_ZERO (by assumption)) | exact ed_top (W0.t_ONE (by assumption))
  | refine ed_I0 ?_ ?_ | refine ed_B0 ?_ ?_ | refine ed_I ?_ ?_ ?_
  | refine ed_call ?_ ?_ | refine eds_cons ?_ ?_ | exact eds_nil
  | ((apply ed_ixT); (focus (walk_at "ev"; done)); (focus (walk_at "ev"; done)); (focus (exact rfl)); done)
  | ((apply ed_ixL); (focus (walk_at "ev"; done)); (focus (walk_at "ev"; done)); (focus (exact rfl)); done)
  | refine ed_tup ?_ ?_ | refine ed_lst ?_ ?_
  | ((refine ed_lenL ?_); (walk_at "ev"); done) | ((refine ed_lenT ?_); (walk_at "ev"); done) | refine ed_lenS ?_ ?_
  | refine ed_abs ?_ | ((refine ed_intI ?_); (walk_at "ev"); done) | refine ed_intB ?_ | refine ed_isi ?_ ?_
  | ((refine ed_eqI ?_ ?_ <;> walk_at "ev"); done) | ((refine ed_eqS ?_ ?_ <;> walk_at "ev"); done) | refine ed_neS ?_ ?_
  | refine ed_eqD ?_ ?_ ?_ ?_ | refine ed_neD ?_ ?_ ?_ ?_ | refine ed_ltD ?_ ?_ ?_ ?_ ?_
  | refine ed_isN ?_ | refine ed_notN ?_
  | refine ed_chain ?_ ?_ ?_ | refine ed_not ?_ | refine ed_and ?_ ?_ | refine ed_or ?_ ?_
  | refine ed_catS ?_ ?_ ?_ | refine ed_catT ?_ ?_ ?_
  | refine etk_D ?_ | refine etk_DB ?_ | refine etk_not ?_ | refine etk_and ?_ ?_ | refine etk_or ?_ ?_
  | exact rfl | assumption | omega | refine (fun (_ : _ = true) => ?_) | refine (fun (_ : _ = false) => ?_))
local macro_rules | `(tactic| walk_at "ev") => `(tactic| (walk_at "evs" <;> (try walk_at "ev")))

def soC (x : Deep) (c : Cell) : Bool := x.so (x.f c.ws c.ns)
def facC (kq : Nat) (c : Cell) : Int := match kq with | 0 => 1 | 1 => if c.ws.headD 0 = 0 then 1 else 0 | _ => c.ws.headD 0
def botC (x : Deep) (kq : Nat) (c : Cell) : Int := c.w * (if kq = 0 ∨ soC x c then 1 else 0)
def topC (x : Deep) (kq : Nat) (c : Cell) : Int := if soC x c then c.w * facC kq c else 0
def topS (x : Deep) (kq : Nat) (cs : List Cell) : Int := (cs.map (topC x kq)).sum
def botS (x : Deep) (kq : Nat) (cs : List Cell) : Int := (cs.map (botC x kq)).sum
def dueD (t b : Int) : PD := if 0 < b then fr t b else .none
theorem kl_ws {ss : List Int} {fam : List (List Int)} (h : okSizes ss) (h2 : okFam fam) : ∀ p ∈ KL ss fam, p.1.length = ss.length ∧ 0 ≤ p.1.headD 0 ∧ p.1.headD 0 ≤ 2 := by
  rcases h with rfl | rfl | rfl <;> rcases h2 with rfl | rfl | rfl <;> decide +kernel
theorem okA_of {ss ws : List Int} (h : okSizes ss) (hl : ws.length = ss.length) {a : Atom} (ha : a.ok ss) : okA ws a := by
  have h2 : ss.length ≤ 2 := by rcases h with rfl | rfl | rfl <;> decide
  cases a with
  | yes => trivial
  | no => trivial
  | blank k =>
    have ha : k < ss.length := ha
    show k < 4
    omega
  | worth k v =>
    obtain ⟨s, hs, hv⟩ := ha
    obtain ⟨hk, hks⟩ := List.getElem?_eq_some_iff.mp hs
    have := h.mem (List.mem_of_getElem? hs)
    exact ⟨by omega, by omega, by omega⟩
theorem cell_in {ss : List Int} {fam : List (List Int)} {cs : List Cell} (h : okSizes ss) (h2 : okFam fam) (hc : okCells ss fam cs) {c : Cell} (hm : c ∈ cs) : c.ws.length = ss.length ∧ 0 ≤ c.ws.headD 0 ∧ c.ws.headD 0 ≤ 2 := by
  refine kl_ws h h2 c.p ?_
  rw [← hc.k]
  exact List.mem_map_of_mem hm
section
variable {P : Program} {w : World} {K : PySem.W.Frag} {mg : Str → Option Value} {base : Heap} {σ : L2.St} {H H' : Hp} {ta tb te td ty tv tn : TE} {E : XK} {hd : Addr} {D : Ends}
theorem qd_asgG {gg : TG} {tz : TS} {d : PD} (h : EvD K te σ H d) (k : ∀ v H1, Ex H H1 → Dp K H1 v d → gg v σ H1 (tz D)) : tSeq (tAsg te gg) tz D σ H := h H (Ex.refl _) _ k
/-! ### _law_deep_answer -/
def sp__law_deep_answer (P : Program) (w : World) (K : PySem.W.Frag) : Sp := fun vs H Q _ => ∃ (d d2 : Addr) (x : Deep) (kq : Nat) (ss : List Int) (fam : List (List Int)) (cs : List Cell), vs = [.ref d, .ref d2, .int (kq : Nat)] ∧ kq < 3 ∧ okSizes ss ∧ okFam fam ∧ okCells ss fam cs ∧ Nd P w K H d (cs.map Cell.kv) ∧ DeepAt H d2 x ∧ x.ok ss ∧ botS x kq cs < 2 ^ 5000 ∧ ∀ v H', Ex H H' → Dp K H' v (dueD (topS x kq cs) (botS x kq cs)) → Q v H'
theorem sc__law_deep_answer : FnScope ["_law_weights_here", "_law_deep_here", "_law_kind", "_law_top", "_law_bottom", "_law_content", "_law_pattern", "_law_weight_here", "_law_is_so"] ["_law_weights_here", "_law_deep_here", "_law_kind"] (defScope (top 64)) := ⟨rfl, rfl, rfl, by decide +kernel, rfl, by decide +kernel, by decide +kernel⟩
theorem ok__law_deep_answer (C : W0 P w K mg base) : Cl P w K mg base 3 "_law_deep_answer" ["_law_weights_here", "_law_deep_here", "_law_kind"] (sp__law_deep_answer P w K) := by
  have o__law_deep_so := ok__law_deep_so C
  have o__law_low := ok__law_low C
  refine Cl.of C.f__law_deep_answer C.g__law_deep_answer sc__law_deep_answer (fun _ _ _ _ _ _ us hl => match us, hl with | [_, _, _], _ => rfl) (fun vs H Q E h => by obtain ⟨_, _, _, _, _, _, _, rfl, _⟩ := h; rfl) fun cdv A outer s H vs Q E hr h => ?_
  obtain ⟨d, d2, x, kq, ss, fam, cs, rfl, hkq, hss, hfam, hc, hn, hx, hok, hbb, k⟩ := h
  have hnd : ((cs.map Cell.p).map fun p => nk (keyC p)).Nodup := by rw [hc.k]; exact kl_nodup hss hfam
  have hkeys : (cs.map Cell.kv).map (·.1) = cs.map fun c => keyC c.p := by rw [List.map_map]; rfl
  refine ⟨_, (pss_cons (ps_asg (pe_tup (pa_cons pe_int (pa_cons pe_int pa_nil))) (pg_tup rfl (pgs_cons (pg_name (i := 3) sc__law_deep_answer.nd rfl (Or.inl rfl)) (pgs_cons (pg_name (i := 4) sc__law_deep_answer.nd rfl (Or.inl rfl)) pgs_nil))))
      (pss_cons (ps_for PassesOwn.never rfl (pi_nkeys (P := P) (w := w) (K := K) rfl rfl rfl (pv 0)) (pg_tup rfl (pgs_cons (pg_name (i := 5) sc__law_deep_answer.nd rfl (Or.inl rfl)) (pgs_cons (pg_name (i := 6) sc__law_deep_answer.nd rfl (Or.inl rfl)) pgs_nil))) (pss_cons (ps_par (i := 7) (j := 8) rfl sc__law_deep_answer.nd rfl rfl (by decide) rfl rfl (pa_cons (pe_nget (P := P) (w := w) (K := K) rfl rfl rfl hr.units (pv 0) (pe_tup (pa_cons (pv 5) (pa_cons (pv 6) pa_nil))) (fun _ _ => rfl)) (pa_cons (pe_cl o__law_deep_so hr (by decide) rfl (pa_cons (pv 1) (pa_cons (pv 5) (pa_cons (pv 6) pa_nil)))) pa_nil)) (by rfl))
      (pss_cons (ps_set (i := 4) sc__law_deep_answer.nd rfl (Or.inl rfl) (pe_op op_add (pv 4) (pe_op op_mul (pv 7) (pe_callTy call_int1 (by rfl) C.n_int (by decide +kernel) (pa_cons (pe_or (pe_cmpR op_eq (pv 2) pe_int (nomark _)) (pe_one (pv 8))) pa_nil)))))
      (pss_one (ps_if (pt_val (pv 8)) (pss_one (ps_set (i := 3) sc__law_deep_answer.nd rfl (Or.inl rfl) (pe_op op_add (pv 3) (pe_op op_mul (pv 7) (pe_ix ix_list (pe_lst (pa_cons pe_int (pa_cons (pe_callTy call_int1 (by rfl) C.n_int (by decide +kernel) (pa_cons (pe_cmpR op_eq (pe_ix ix_tup (pv 5) pe_int (fun _ _ => rfl)) pe_int (nomark _)) pa_nil)) (pa_cons (pe_ix ix_tup (pv 5) pe_int (fun _ _ => rfl)) pa_nil)))) (pv 2) (fun _ _ => rfl)))))) pss_nil)))))
      (pss_one (ps_ret (pe_ifExp (pt_cmpR op_gt (pv 4) pe_int (nomark _)) (pe_cl o__law_low hr (by decide) rfl (pa_cons (pv 3) (pa_cons (pv 4) pa_nil))) pe_non))))), ?_⟩
  refine qd_asgG (K := K) (ed_tup (K := K) (ds := [.int 0, .int 0]) (eds_cons ed_int (eds_cons ed_int eds_nil)) (by simp)) fun v34 H1 e1 hv34 => ?_
  refine g_pair (d1 := .int 0) (d2 := .int 0) hv34 fun v3 v4 h3 h4 => ?_
  rw [h3.int_inv, h4.int_inv]
  refine qd_for (K := K) (ds := cs.map fun c => keyC c.p) ?_ (fun i σ' H' => ∃ z5 z6 z7 z8, σ' = [some (.ref d), some (.ref d2), some (.int (kq : Nat)), some (.int (topS x kq (cs.take i))), some (.int (botS x kq (cs.take i))), z5, z6, z7, z8] ∧ Ex H H') (fun H2 e2 => ⟨_, _, _, _, rfl, e1.trans e2⟩) ?_ ?_
  · intro H2 e R q
    obtain ⟨o, xs, nx⟩ := hn.ex (e1.trans e)
    refine ⟨_, rfl, d, _, o, xs, rfl, nx, q _ H2 (Ex.refl _) ?_⟩
    have := jd_n nx
    rw [hkeys] at this
    exact this
  · rintro H0 e0 i dd hdd σ' H' e7 ⟨z5, z6, z7, z8, rfl, eH⟩ q H8 e8 hq
    rw [List.getElem?_map] at hdd
    obtain ⟨c, hci, rfl⟩ := Option.map_eq_some_iff.mp hdd
    have hcm := List.mem_of_getElem? hci
    obtain ⟨hi, hie⟩ := List.getElem?_eq_some_iff.mp hci
    obtain ⟨hwl, hh0, hh2⟩ := cell_in hss hfam hc hcm
    refine g_pair (d1 := tI c.ws) (d2 := tI c.ns) hq fun x5 x6 hx5 hx6 => ?_
    have e28 := eH.trans e8
    refine qd_par (K := K) (d := .int c.w) (e := .bool (soC x c)) (eds_cons (ed_nget (k := keyC c.p) rfl (hn.ex e28) (ed_tup (eds_cons (ed_var ⟨_, rfl, hx5⟩) (eds_cons (ed_var ⟨_, rfl, hx6⟩) eds_nil)) (by simp)) tupK_key (get_cell hnd hcm)) (eds_cons (fun H9 e9 Q' q' => ⟨_, rfl, _, rfl, _, rfl, d2, x, ss, c.ws, c.ns, x5, x6, rfl, hx.ex (e28.trans e9), hok, fun a ha => okA_of hss hwl (hok.oks a ha), hx5.ex e9, hx6.ex e9, fun H10 e10 => q' _ H10 e10 (.bl _)⟩) eds_nil)) fun v7 v8 H9 e9 h7 h8 => ?_
    have h7' := h7.int_inv
    subst h7'
    have h8' := h8.bl_inv
    subst h8'
    refine qd_asg (K := K) (d := .int (botS x kq (cs.take i) + botC x kq c)) ((ed_I0 (ed_var ⟨_, rfl, .int _⟩) (ed_I (g := fun i j => i * j) (j := if (decide (kq = 0) || soC x c) then 1 else 0) (ed_var ⟨_, rfl, .int c.w⟩) (ed_intB (ed_or ((ed_eqI (ed_var ⟨_, rfl, .int _⟩) ed_int).is (by congr 1; exact decide_eq_decide.mpr (by omega))) fun _ => ed_var ⟨_, rfl, .bl _⟩)) (cmul_r (by split <;> decide)))).is ?_) fun v4 H10 e10 h4 => ?_
    · unfold botC
      simp
    have h4' := h4.int_inv
    subst h4'
    have e29 := (e28.trans e9).trans e10
    have eb : botS x kq (cs.take (i + 1)) = botS x kq (cs.take i) + botC x kq c := by
      unfold botS
      rw [List.take_succ_eq_append_getElem hi, hie, List.map_append, List.sum_append]; simp
    have et : topS x kq (cs.take (i + 1)) = topS x kq (cs.take i) + topC x kq c := by
      unfold topS
      rw [List.take_succ_eq_append_getElem hi, hie, List.map_append, List.sum_append]; simp
    refine ks_when K (b := soC x c) (etk_DB (ed_var ⟨_, rfl, .bl _⟩)) (fun h H11 e11 => ?_) fun h H11 e11 => ⟨((e7.trans e8).trans e9).trans (e10.trans e11), some x5, some x6, some (.int c.w), some (.bl (soC x c)), ?_, e29.trans e11⟩
    · have hx5' : Dp K H11 x5 (.tuple (c.ws.map PyData.int)) := hx5.ex ((e9.trans e10).trans e11)
      have hl0 : 0 < c.ws.length := by
        rw [hwl]
        rcases hss with rfl | rfl | rfl <;> decide
      have hhd : c.ws.headD 0 = c.ws[0] := by
        have : ∀ (l : List Int) (h : 0 < l.length), l.headD 0 = l[0] := fun l h => by
          cases l with
          | nil => exact absurd h (by decide)
          | cons a l => rfl
        exact this _ hl0
      have hat : ∀ {σ : L2.St}, σ[5]? = some (some x5) → EvD K (tOp (rIxT K) (tVar 5) (tC (.int 0))) σ H11 (.int (c.ws.headD 0)) := fun hs => ed_ixT (i := 0) (ed_var ⟨_, hs, hx5'⟩) ed_int (atI_nat (i := 0) (by rw [List.getElem?_map, List.getElem?_eq_getElem hl0, hhd]; rfl))
      refine sd_asg (K := K) (d := .int (topS x kq (cs.take i) + c.w * facC kq c)) (ed_I0 (ed_var ⟨_, rfl, .int _⟩) (ed_I (g := fun i j => i * j) (ed_var ⟨_, rfl, .int c.w⟩) (ed_ixL (i := (kq : Int)) (ds := [.int 1, .int (if c.ws.headD 0 = 0 then 1 else 0), .int (c.ws.headD 0)]) (ed_lst (eds_cons ed_int (eds_cons ((ed_intB (ed_eqI (hat rfl) ed_int)).is (by simp)) (eds_cons (hat rfl) eds_nil))) (by simp)) (ed_var ⟨_, rfl, .int _⟩) (atI_nat ?_)) (cmul_r ?_))) fun v12 H12 e12 h12 => ⟨((e7.trans e8).trans e9).trans ((e10.trans e11).trans e12), some x5, some x6, some (.int c.w), some (.bl (soC x c)), ?_, e29.trans (e11.trans e12)⟩
      · match kq, hkq with
        | 0, _ => rfl
        | 1, _ => rfl
        | 2, _ => rfl
      · match kq, hkq with
        | 0, _ => exact ⟨by show -(2 ^ 64) < (1 : Int); decide, by show (1 : Int) < 2 ^ 64; decide⟩
        | 1, _ => show -(2 ^ 64) < (if c.ws.headD 0 = 0 then (1 : Int) else 0) ∧ (if c.ws.headD 0 = 0 then (1 : Int) else 0) < 2 ^ 64; split <;> decide
        | 2, _ => show -(2 ^ 64) < c.ws.headD 0 ∧ c.ws.headD 0 < 2 ^ 64; omega
      · rw [h12.int_inv, eb, et]
        unfold topC
        rw [if_pos h]
        rfl
    · rw [eb, et]
      unfold topC
      rw [if_neg (by rw [h]; exact Bool.false_ne_true), Int.add_zero]
      rfl
  · rintro σ' H' e7 ⟨z5, z6, z7, z8, rfl, eH⟩
    rw [List.length_map, List.take_length]
    refine sd_ret (K := K) (d := dueD (topS x kq cs) (botS x kq cs)) (ed_if (b := decide (0 < botS x kq cs)) (etk_D ((ed_B0 (g := fun i j => decide (i > j)) (i := botS x kq cs) (j := 0) (ed_var ⟨_, rfl, .int _⟩) ed_int).is rfl)) (fun h => ?_) fun h => ?_) fun v H9 e9 hv => k v H9 (eH.trans e9) hv
    · unfold dueD
      rw [if_pos (of_decide_eq_true h)]
      exact ed_call (eds_cons (ed_var ⟨_, rfl, .int _⟩) (eds_cons (ed_var ⟨_, rfl, .int _⟩) eds_nil)) (pu_law_low (of_decide_eq_true h) hbb)
    · unfold dueD
      rw [if_neg (of_decide_eq_false h)]
      exact ed_non
end
end K61
end

section
set_option Elab.async false
set_option linter.all false
set_option maxRecDepth 100000
set_option maxHeartbeats 4000000
namespace K61
open PySem PySem.Spec PyProof.Rows L2 Evl RZ SX LamX
local macro_rules | `(tactic| walk_at "evs") => `(tactic| first
  | exact ed_int | exact ed_str | exact ed_bl | exact ed_non
  | exact ed_var ⟨_, rfl, by first | assumption | exact .int _ | exact .str _ | exact .bl _ | exact .non⟩
  | exact ed_top (W0.t_ZERO (by assumption)) | exact ed_top (W0.t_ONE (by assumption))
  | refine ed_I0 ?_ ?_ | refine ed_B0 ?_ ?_ | refine ed_I ?_ ?_ ?_
  | refine ed_call ?_ ?_ | refine eds_cons ?_ ?_ | exact eds_nil
  | ((apply ed_ixT); (focus (walk_at "ev"; done)); (focus (walk_at "ev"; done)); (focus (exact rfl)); done)
  | ((apply ed_ixL); (focus (walk_at "ev"; done)); (focus (walk_at "ev"; done)); (focus (exact rfl)); done)
  | refine ed_tup ?_ ?_ | refine ed_lst ?_ ?_
  | ((refine ed_lenL ?_); (walk_at "ev"); done) | ((refine ed_lenT ?_); (walk_at "ev"); done) | refine ed_lenS ?_ ?_
  | refine ed_abs ?_ | ((refine ed_intI ?_); (walk_at "ev"); done) | refine ed_intB ?_ | refine ed_isi ?_ ?_
  | ((refine ed_eqI ?_ ?_ <;> walk_at "ev"); done) | ((refine ed_eqS ?_ ?_ <;> walk_at "ev"); done) | refine ed_neS ?_ ?_
  | refine ed_eqD ?_ ?_ ?_ ?_ | refine ed_neD ?_ ?_ ?_ ?_ | refine ed_ltD ?_ ?_ ?_ ?_ ?_
  | refine ed_isN ?_ | refine ed_notN ?_
  | refine ed_chain ?_ ?_ ?_ | refine ed_not ?_ | refine ed_and ?_ ?_ | refine ed_or ?_ ?_
  | refine ed_catS ?_ ?_ ?_ | refine ed_catT ?_ ?_ ?_
  | refine etk_D ?_ | refine etk_DB ?_ | refine etk_not ?_ | refine etk_and ?_ ?_ | refine etk_or ?_ ?_
  | exact rfl | assumption | omega | refine (fun (_ : _ = true) => ?_) | refine (fun (_ : _ = false) => ?_))
local macro_rules | `(tactic| walk_at "ev") => `(tactic| (walk_at "evs" <;> (try walk_at "ev")))

def tokC : Tok → List Nat
  | .lp => [40]
  | .rp => [41]
  | .not => [110, 111, 116]
  | .and => [97, 110, 100]
  | .or => [111, 114]
  | .atom a => a.cps
theorem tokC_s {t : Tok} : S (tokC t) = t.s := by cases t <;> rfl
def qwC : Nat → List (List Nat)
  | 0 => [[115, 104, 97, 114, 101]]
  | 1 => [[115, 104, 97, 114, 101], [99, 48, 61, 48], [105, 102]]
  | _ => [[109, 101, 97, 110], [99, 48], [105, 102]]
def wordsC (x : Deep) (kq : Nat) : List (List Nat) := qwC kq ++ x.toks.map tokC
structure PL (ss : List Int) (cs : List Cell) (x : Deep) (kq : Nat) (g : Bool) : Prop where
  told : okText ss (rowsC cs) (textI g (wordsC x kq)) (.told (dueD (topS x kq cs) (botS x kq cs)))
  short : okText ss (rowsC cs) (textI g (wordsC x kq).dropLast) (.bad ((textI g (wordsC x kq).dropLast).length : Nat))
  more : okText ss (rowsC cs) (textI g (wordsC x kq ++ [[41]])) (.bad (((textI g (wordsC x kq ++ [[41]])).length : Nat) - 1))
def PLall : Prop := ∀ (ss : List Int) (fam : List (List Int)) (cs : List Cell) (x : Deep) (kq : Nat) (g : Bool), okSizes ss → okFam fam → okCells ss fam cs → x.ok ss → kq < 3 → PL ss cs x kq g
def SHall : Prop := ∀ (ss : List Int) (fam : List (List Int)) (cs : List Cell), okSizes ss → okFam fam → okCells ss fam cs → okShares ss (rowsC cs) ∧ okEven ss ((rowsC cs).map (·.ns))
theorem okDue_due {t b : Int} : okDue (dueD t b) := by
  unfold dueD
  split
  · exact .inr ⟨_, _, rfl⟩
  · exact .inl rfl
theorem bot_lt {ss : List Int} {fam : List (List Int)} {cs : List Cell} {x : Deep} {kq : Nat} (h : okSizes ss) (h2 : okFam fam) (hc : okCells ss fam cs) : botS x kq cs < 2 ^ 5000 := by
  have hl : cs.length ≤ 8 := (tot_pos h h2 hc).2.2.1
  have hb := hc.b
  clear hc
  have : botS x kq cs ≤ cs.length * 10 ^ 56 := by
    clear hl
    induction cs with
    | nil => simp [botS]
    | cons c cs ih =>
      have h1 := hb c (List.mem_cons_self ..)
      have ih := ih fun c hc => hb c (List.mem_cons_of_mem _ hc)
      unfold botS at ih ⊢
      rw [List.map_cons, List.sum_cons, List.length_cons]
      have e : ((cs.length + 1 : Nat) : Int) * 10 ^ 56 = (cs.length : Int) * 10 ^ 56 + 10 ^ 56 := by
        rw [Int.natCast_add, Int.add_mul]; rfl
      rw [e]
      have hbc : botC x kq c ≤ 10 ^ 56 := by
        unfold botC
        split
        · rw [Int.mul_one]; exact h1.2
        · rw [Int.mul_zero]; decide +kernel
      generalize (10 : Int) ^ 56 = z at *
      omega
  refine Int.lt_of_le_of_lt this (Int.lt_of_le_of_lt (b := 8 * 10 ^ 56) ?_ (by decide +kernel))
  exact Int.mul_le_mul_of_nonneg_right (by omega) (by decide +kernel)
theorem turn_len (x : Deep) (i : Nat) : (x.turn i).length ≤ 3 := by unfold Deep.turn; split <;> split <;> simp <;> omega
theorem turns_len (x : Deep) (l : List Nat) : (l.flatMap x.turn).length ≤ 3 * l.length := by
  induction l with
  | nil => simp
  | cons a l ih => rw [List.flatMap_cons, List.length_append, List.length_cons]; have := turn_len x a; omega
theorem toks_len {ss : List Int} {x : Deep} (h : x.ok ss) : x.toks.length ≤ 15010 := by
  have hm := h.m
  unfold Deep.toks
  split
  · simp; omega
  · split
    · simp; omega
    · split
      · rw [List.length_append, List.length_append, rep_len]; simp; omega
      · have := turns_len x (List.range x.many)
        rw [List.length_range] at this
        have hf : x.front.length ≤ 3001 := by
          unfold Deep.front
          split <;> simp <;> omega
        rw [List.length_append, List.length_append]
        split
        · rw [List.length_replicate]; omega
        · rw [List.length_nil]; omega
theorem words_len {ss : List Int} {x : Deep} {kq : Nat} (h : x.ok ss) : (wordsC x kq).length ≤ 15013 := by
  have := toks_len h
  unfold wordsC
  rw [List.length_append, List.length_map]
  have : (qwC kq).length ≤ 3 := by unfold qwC; split <;> decide
  omega
theorem cps_len (a : Atom) : a.cps.length ≤ 10 := by cases a <;> simp [Atom.cps]
theorem tokC_len (t : Tok) : (tokC t).length ≤ 10 := by
  cases t with
  | atom a => exact cps_len a
  | lp => decide
  | rp => decide
  | not => decide
  | and => decide
  | or => decide
theorem words_short {x : Deep} {kq : Nat} : ∀ w ∈ wordsC x kq, w.length ≤ 10 := by
  intro w hw
  unfold wordsC at hw
  rcases List.mem_append.mp hw with h | h
  · unfold qwC at h
    clear hw
    split at h
    · revert w; decide
    · revert w; decide
    · revert w; decide
  · obtain ⟨t, _, rfl⟩ := List.mem_map.mp h
    exact tokC_len t
section
variable {P : Program} {w : World} {K : PySem.W.Frag} {mg : Str → Option Value} {base : Heap} {σ : L2.St} {H H' : Hp} {ta tb te td ty tv tn : TE} {E : XK} {hd : Addr} {D : Ends}
theorem Hand.exN (e : ExtN H H') {d : Addr} (x : Hand P w H d) : Hand P w H' d := by
  obtain ⟨g, sm, sms, h⟩ := x
  exact ⟨g, sm, sms, e _ _ h.atd (fun _ z => by unfold DrO at z; cases z), e _ _ h.atg (fun _ z => by unfold GrO at z; cases z), e _ _ h.ats (fun _ z => by cases z), h.ne, h.l⟩
theorem Nd.exN (e : ExtN H H') {d : Addr} {kvs : List (PD × Int)} (n : Nd P w K H d kvs) : Nd P w K H' d kvs := by
  obtain ⟨o, xs, n⟩ := n
  exact ⟨o, xs, e _ _ n.at_ (fun _ z => by unfold NdO at z; cases z), n.lo, n.f, n.sz, Paired.mapP n.ks fun _ _ q => ⟨q.1, q.2.1, Dp.exN e q.2.2.1, q.2.2.2⟩⟩
theorem ok_Whole (C : W0 P w K mg base) : C8.Mak P w K mg base 9 "Whole" (He.ga K "Whole") (sp_WholeInit K) [] := by
  obtain ⟨fd, F, b⟩ := ok_WholeInit C
  exact ⟨_, fd, ["self", "sizes", "shares"], [], C.mk_Whole, F, C.g_Whole, b, .nil⟩
theorem ed_told {i j : Nat} {a : Addr} {x y : V} {ss : List Int} {rows : List Row} {cs : List Nat} {t : Told} (h1 : σ[i]? = some (some (.ref a))) (h2 : σ[j]? = some (some (.str (S cs)))) (hw : WholeAt K H a x y) (hx : Dp K H x (tI ss)) (hy : Dp K H y (.tuple (rows.map shareD))) (hok : okText ss rows cs t) : EvD K (tCall (sp_told K) [] E (tCons (tVar i) (tCons (tVar j) tNil))) σ H t.d := fun H1 e Q q =>
  ⟨_, h1, _, h2, a, x, y, ss, rows, cs, t, rfl, hw.ex e, hx.ex e, hy.ex e, hok, fun v H2 e2 hv => q v H2 e2 hv⟩
theorem bad_ne {n : Int} : (!PyData.eqv (Told.bad n).d (.tuple [.str "bad", .int n])) = false := by
  simp [Told.d, PyData.eqv, PyData.eqvAll]
theorem el_pick3 {i kq : Nat} {t1 t2 t3 : TE} {A B C : List PD} (h1 : EvL K t1 σ H A) (h2 : EvL K t2 σ H B) (h3 : EvL K t3 σ H C) (hk : σ[i]? = some (some (.int (kq : Nat)))) (hq : kq < 3) : EvL K (tOp (rIxL K) (tLst (tCons t1 (tCons t2 (tCons t3 tNil)))) (tVar i)) σ H (match kq with | 0 => A | 1 => B | _ => C) := fun H1 e Q q =>
  h1 H1 e _ fun b1 v1 H2 e2 hb1 hv1 => h2 H2 (e.trans e2) _ fun b2 v2 H3 e3 hb2 hv2 => h3 H3 ((e.trans e2).trans e3) _ fun b3 v3 H4 e4 hb3 hv3 => ⟨sz_of (by simp), fun p hp => ⟨_, hk, by
    have en : Ex H4 (upd H4 p (.lst [.ref b1, .ref b2, .ref b3])) := Ex.new hp
    have e14 := ((e2.trans e3).trans e4).trans en
    match kq, hq with
    | 0, _ => exact ⟨p, _, 0, .ref b1, rfl, rfl, sq_of upd_same, rfl, q b1 v1 _ e14 (en _ _ (e4 _ _ (e3 _ _ hb1))) (hv1.ex ((e3.trans e4).trans en))⟩
    | 1, _ => exact ⟨p, _, 1, .ref b2, rfl, rfl, sq_of upd_same, rfl, q b2 v2 _ e14 (en _ _ (e4 _ _ hb2)) (hv2.ex (e4.trans en))⟩
    | 2, _ => exact ⟨p, _, 2, .ref b3, rfl, rfl, sq_of upd_same, rfl, q b3 v3 _ e14 (en _ _ hb3) (hv3.ex en)⟩⟩⟩
def strC (w : List Nat) : PD := .str (S w)
theorem strOk_bad : PyData.strOk (Str.ofString "bad") = true := by decide +kernel
theorem shaped_bad {n : Int} : SeqAt.shaped (.tuple [.str "bad", .int n]) = true := by
  unfold SeqAt.shaped
  simp only [PyData.canLay0, PyData.canLayAll0, PyData.depth, PyData.depthAll]
  rw [strOk_bad]
  rfl
theorem fnOk_of {x : Str} {st : Stmt} {f : Addr} {fd : FuncData} {N ps : List Str} {k : Nat} {sp : Sp} (F : FunD K x x (defArgs st) (defBody st) (defScope st) [] [] f fd) (S : FnScope N ps (defScope st))
    (len : ∀ vs H Q E, sp vs H Q E → vs.length = ps.length)
    (hbody : ∀ (cdv : Value) (A : Around) (outer : List Env) (s : Shared) (H : Hp) (vs : List V) (Q : VK) (E : XK), Room k (A.deeper (envOfC x (defScope st) s.heap.objs.size f cdv)) → sp vs H Q E →
      ∃ t, PSs (Bx P w K mg base N x st f cdv A outer s H E) (defBody st) t ∧ t { nx := fun _ H' => Q .non H', rt := Q } (start N vs) H) : FnOk P w K mg base CX0 (k + 1) f fd ps sp :=
  F.ok S len fun cdv A outer s H vs Q E hr h => by
    obtain ⟨t, h1, h2⟩ := hbody cdv A outer s H vs Q E hr h
    exact ⟨t, PSs.nox h1, h2⟩
/-! ### law -/
def sp_law (K : PySem.W.Frag) : Sp := fun vs H Q _ => ∃ (l : V) (xs : List Int), vs = [l] ∧ Dp K H l (.list (xs.map PyData.int)) ∧ xs.length ≤ 90000 ∧ TabS H (tabP K) qL ∧ ∀ H', Q (.bl true) H'
theorem sc_law : FnScope ["_law_script", "_law_hand_here", "_law_sizes", "_law_family", "_law_weights_here", "_law_whole", "_law_turn", "_law_deep_here", "_law_kind", "_law_words", "_law_gap", "_law_text_here", "_law_word", "_law_told_here", "_law_short", "_law_more"] ["_law_script"] (defScope (top 66)) := ⟨rfl, rfl, rfl, by decide +kernel, rfl, by decide +kernel, by decide +kernel⟩
theorem ok_law (hPL : PLall) (hSH : SHall) (C : W0 P w K mg base) {fd : FuncData} (F : FunD K "law" "law" (defArgs (top 66)) (defBody (top 66)) (defScope (top 66)) [] [] (He.ga K "law") fd) : FnOk P w K mg base CX0 11 (He.ga K "law") fd ["_law_script"] (sp_law K) := by
  have o__law_any := ok__law_any C
  have o__law_deep := ok__law_deep C
  have o__law_deep_answer := ok__law_deep_answer C
  have o__law_deep_words := ok__law_deep_words C
  have o__law_draw := ok__law_draw C
  have o__law_hand := ok__law_hand C
  have o__law_is_due := ok__law_is_due C
  have o__law_text := ok__law_text C
  have o__law_told := ok__law_told C
  have o__law_weights := ok__law_weights C
  have o__law_rows := ok__law_rows C
  have o_Whole := ok_Whole C
  refine fnOk_of F sc_law (fun vs H Q E h => by obtain ⟨_, _, rfl, _⟩ := h; rfl) fun cdv A outer s H vs Q E hr h => ?_
  obtain ⟨l, xs, rfl, hl, hxl, hT, k⟩ := h
  refine ⟨_, (pss_cons (ps_set (i := 1) sc_law.nd rfl (Or.inl rfl) (pe_cl o__law_hand hr (by decide) rfl (pa_cons (pv 0) pa_nil)))
      (pss_cons (ps_set (i := 2) sc_law.nd rfl (Or.inl rfl) (pe_cl o__law_any hr (by decide) rfl (pa_cons (pv 1) (pa_cons (pe_lst (pa_cons (pe_tup (pa_cons pe_int pa_nil)) (pa_cons (pe_tup (pa_cons pe_int pa_nil)) (pa_cons (pe_tup (pa_cons pe_int (pa_cons pe_int pa_nil))) pa_nil)))) pa_nil))))
      (pss_cons (ps_set (i := 3) sc_law.nd rfl (Or.inl rfl) (pe_cl o__law_any hr (by decide) rfl (pa_cons (pv 1) (pa_cons (pe_lst (pa_cons (pe_lst (pa_cons (pe_tup pa_nil) pa_nil)) (pa_cons (pe_lst (pa_cons (pe_tup (pa_cons pe_int pa_nil)) pa_nil)) (pa_cons (pe_lst (pa_cons (pe_tup pa_nil) (pa_cons (pe_tup (pa_cons pe_int pa_nil)) pa_nil))) pa_nil)))) pa_nil))))
      (pss_cons (ps_set (i := 4) sc_law.nd rfl (Or.inl rfl) (pe_cl o__law_weights hr (by decide) rfl (pa_cons (pv 1) (pa_cons (pv 2) (pa_cons (pv 3) pa_nil)))))
      (pss_cons (ps_set (i := 5) sc_law.nd rfl (Or.inl rfl) (C8.pe_mk o_Whole hr (by decide) rfl (pa_cons (pv 2) (pa_cons (pe_cl o__law_rows hr (by decide) rfl (pa_cons (pv 4) pa_nil)) pa_nil))))
      (pss_cons (ps_for PassesOwn.never rfl (pi_range1 rfl C.n_range (pa_cons pe_int pa_nil)) (pg_name (i := 6) sc_law.nd rfl (Or.inl rfl)) (pss_cons (ps_par (i := 7) (j := 8) rfl sc_law.nd rfl rfl (by decide) rfl rfl (pa_cons (pe_cl o__law_deep hr (by decide) rfl (pa_cons (pv 1) (pa_cons (pv 2) pa_nil))) (pa_cons (pe_cl o__law_draw hr (by decide) rfl (pa_cons (pv 1) (pa_cons pe_int pa_nil))) pa_nil)) (by rfl))
      (pss_cons (ps_set (i := 9) sc_law.nd rfl (Or.inl rfl) (pe_op op_cat (pe_ix ix_list (pe_lst (pa_cons (pe_lst (pa_cons pe_str pa_nil)) (pa_cons (pe_lst (pa_cons pe_str (pa_cons pe_str (pa_cons pe_str pa_nil)))) (pa_cons (pe_lst (pa_cons pe_str (pa_cons pe_str (pa_cons pe_str pa_nil)))) pa_nil)))) (pv 8) (fun _ _ => rfl)) (pe_cl o__law_deep_words hr (by decide) rfl (pa_cons (pv 7) pa_nil))))
      (pss_cons (ps_set (i := 10) sc_law.nd rfl (Or.inl rfl) (pe_cl o__law_any hr (by decide) rfl (pa_cons (pv 1) (pa_cons (pe_lst (pa_cons pe_str (pa_cons pe_str pa_nil))) pa_nil))))
      (pss_cons (ps_set (i := 11) sc_law.nd rfl (Or.inl rfl) (pe_cl o__law_text hr (by decide) rfl (pa_cons (pv 9) (pa_cons (pv 10) pa_nil))))
      (pss_cons (ps_asg (pe_cl o__law_told hr (by decide) rfl (pa_cons (pv 5) (pa_cons (pv 11) pa_nil))) (pg_tup rfl (pgs_cons (pg_name (i := 12) sc_law.nd rfl (Or.inl rfl)) (pgs_cons (pg_name (i := 13) sc_law.nd rfl (Or.inl rfl)) pgs_nil))))
      (pss_cons (ps_if (PW.pt (pw_or (pt_cmpR op_ne (pv 12) pe_str (nomark _)) (pw_or1 (pt_not (pt_val (pe_cl o__law_is_due hr (by decide) rfl (pa_cons (pv 13) (pa_cons (pe_cl o__law_deep_answer hr (by decide) rfl (pa_cons (pv 4) (pa_cons (pv 7) (pa_cons (pv 8) pa_nil)))) pa_nil)))))))) (pss_one (ps_ret pe_bl)) pss_nil)
      (pss_cons (ps_par (i := 14) (j := 15) rfl sc_law.nd rfl rfl (by decide) rfl rfl (pa_cons (pe_cl o__law_text hr (by decide) rfl (pa_cons (pe_slice sl_list (pv 9) po_none (po_some (pe_un un_neg pe_int))) (pa_cons (pv 10) pa_nil))) (pa_cons (pe_cl o__law_text hr (by decide) rfl (pa_cons (pe_op op_cat (pv 9) (pe_lst (pa_cons pe_str pa_nil))) (pa_cons (pv 10) pa_nil))) pa_nil)) (by rfl))
      (pss_one (ps_if (PW.pt (pw_or (pt_cmpR (op_neD hr.units) (pe_cl o__law_told hr (by decide) rfl (pa_cons (pv 5) (pa_cons (pv 14) pa_nil))) (pe_tup (pa_cons pe_str (pa_cons (pe_callB call_len_str (by rfl) C.n_len (by decide +kernel) (pa_cons (pv 14) pa_nil)) pa_nil))) (nomark _)) (pw_or1 (pt_cmpR (op_neD hr.units) (pe_cl o__law_told hr (by decide) rfl (pa_cons (pv 5) (pa_cons (pv 15) pa_nil))) (pe_tup (pa_cons pe_str (pa_cons (pe_op op_sub (pe_callB call_len_str (by rfl) C.n_len (by decide +kernel) (pa_cons (pv 15) pa_nil)) pe_int) pa_nil))) (nomark _))))) (pss_one (ps_ret pe_bl)) pss_nil))))))))))
      (pss_one (ps_ret pe_bl)))))))), ?_⟩
  refine ⟨_, rfl, l, xs, rfl, hl, hxl, fun d H1 e1 hh => ?_⟩
  refine qr_asg (K := K) (R := fun x => ∃ ss, okSizes ss ∧ x = tI ss) ((er_anyD (ds := [tI [2], tI [3], tI [2, 2]]) rfl hh (ed_lst (eds_cons (ed_tup (ds := [.int 2]) (eds_cons ed_int eds_nil) (by simp)) (eds_cons (ed_tup (ds := [.int 3]) (eds_cons ed_int eds_nil) (by simp)) (eds_cons (ed_tup (ds := [.int 2, .int 2]) (eds_cons ed_int (eds_cons ed_int eds_nil)) (by simp)) eds_nil))) (by simp)) (by simp)).imp fun x hx => ?_) fun x2 H2 dd hdd e2 hx2 => ?_
  · simp only [List.mem_cons, List.not_mem_nil, or_false] at hx
    rcases hx with rfl | rfl | rfl
    · exact ⟨_, .inl rfl, rfl⟩
    · exact ⟨_, .inr (.inl rfl), rfl⟩
    · exact ⟨_, .inr (.inr rfl), rfl⟩
  obtain ⟨ss, hss, rfl⟩ := hdd
  have hh := hh.ex e2
  refine qr_asg (K := K) (R := fun x => ∃ fam, okFam fam ∧ x = famD fam) ((er_anyD (ds := [famD [[]], famD [[0]], famD [[], [0]]]) rfl hh (ed_lst (eds_cons (ed_lst (ds := [tI []]) (eds_cons (ed_tup (ds := []) eds_nil (by simp)) eds_nil) (by simp)) (eds_cons (ed_lst (ds := [tI [0]]) (eds_cons (ed_tup (ds := [.int 0]) (eds_cons ed_int eds_nil) (by simp)) eds_nil) (by simp)) (eds_cons (ed_lst (ds := [tI [], tI [0]]) (eds_cons (ed_tup (ds := []) eds_nil (by simp)) (eds_cons (ed_tup (ds := [.int 0]) (eds_cons ed_int eds_nil) (by simp)) eds_nil)) (by simp)) eds_nil))) (by simp)) (by simp)).imp fun x hx => ?_) fun x3 H3 dd hdd e3 hx3 => ?_
  · simp only [List.mem_cons, List.not_mem_nil, or_false] at hx
    rcases hx with rfl | rfl | rfl
    · exact ⟨_, .inl rfl, rfl⟩
    · exact ⟨_, .inr (.inl rfl), rfl⟩
    · exact ⟨_, .inr (.inr rfl), rfl⟩
  obtain ⟨fam, hfam, rfl⟩ := hdd
  have hh := hh.ex e3
  have hx2 := hx2.ex e3
  refine ⟨_, rfl, _, rfl, _, rfl, d, x2, x3, ss, fam, rfl, hh, hx2, hx3, hss, hfam, fun dw H4 cs hcs e4 hnd => ?_⟩
  have hh := hh.ex e4
  have hx2 := hx2.ex e4
  obtain ⟨hsh, hev⟩ := hSH ss fam cs hss hfam hcs
  refine ⟨_, rfl, _, rfl, dw, ss, fam, cs, rfl, hss, hfam, hcs, hnd, fun y H5 e5 hy => ?_⟩
  have hh := hh.ex e5
  have hx2 := hx2.ex e5
  have hnd := hnd.ex e5
  have hT5 : TabS H5 (tabP K) qL := hT.ext fun b o hb => e5 _ _ (e4 _ _ (e3 _ _ (e2 _ _ (e1 _ _ hb))))
  intro a dx ha hdx hdxa
  have e56 : Ex H5 (upd (upd H5 dx (.own a)) a (.ins (He.ga K "Whole") dx [])) := fun b o hb => by
    rw [upd_ne (ne_of_none hb ha), upd_ne (ne_of_none hb hdx)]
    exact hb
  refine ⟨a, dx, x2, y, ss, rowsC cs, rfl, upd_same, hx2.ex e56, hss, hy.ex e56, hsh, hev, hT5.ext e56, fun H6 hk6 hW => ⟨rfl, ?_⟩⟩
  have eN : ExtN H5 H6 := fun b o hb n => hk6 b o (ne_of_none hb ha) (e56 _ _ hb) n
  have hh := Hand.exN eN hh
  have hx2 := Dp.exN eN hx2
  have hnd := Nd.exN eN hnd
  have hy := Dp.exN eN hy
  refine qd_for (K := K) (wk_range1 (n := 2) ed_int (by decide)) (fun i σ' H' => ∃ z6 z7 z8 z9 z10 z11 z12 z13 z14 z15, σ' = [some l, some (.ref d), some x2, some x3, some (.ref dw), some (.ref a), z6, z7, z8, z9, z10, z11, z12, z13, z14, z15] ∧ Ex H6 H') (fun H7 e7 => ⟨_, _, _, _, _, _, _, _, _, _, rfl, e7⟩) ?_ ?_
  · rintro H0 e0 i dd hdd σ' H7 e7 ⟨z6, z7, z8, z9, z10, z11, z12, z13, z14, z15, rfl, eH⟩ q H8 e8 hq
    have e68 := eH.trans e8
    refine ⟨_, rfl, _, rfl, d, x2, ss, rfl, hh.ex e68, hss, hx2.ex e68, fun d7 x H9 hxo hxa e9 => ?_⟩
    refine (er_drawD (m := 3) rfl (hh.ex (e68.trans e9)) (ed_int (K := K)) (by decide)) _ (Ex.refl _) _ fun v8 H10 dd hdd e10 hv8 => ?_
    obtain ⟨kz, rfl, hk0, hk1⟩ := hdd
    obtain ⟨kq, rfl⟩ : ∃ n : Nat, kz = n := ⟨kz.toNat, by omega⟩
    have hkq : kq < 3 := by omega
    have hv' := hv8.int_inv
    subst hv'
    refine ⟨_, _, rfl, ?_⟩
    have hxa := hxa.ex e10
    have e610 := (e68.trans e9).trans e10
    have hwl := words_len (kq := kq) hxo
    have hws := words_short (x := x) (kq := kq)
    have hpl := fun g => hPL ss fam cs x kq g hss hfam hcs hxo hkq
    have hsp : (wordsC x kq).map strC = (qwC kq).map strC ++ x.toks.map tokD := by
      unfold wordsC
      rw [List.map_append, List.map_map]
      congr 1
      exact List.map_congr_left fun t _ => by show PyData.str (S (tokC t)) = _; rw [tokC_s]; rfl
    dsimp only
    refine qd_asgF (K := K) (ds := (wordsC x kq).map strC) ((ef_cat (xs := (qwC kq).map strC) (ys := x.toks.map tokD) ?_ ?_ ?_).is hsp.symm) fun p9 vs9 H11 hp9 e11 hpl9 hvs9 => ?_
    · have := el_pick3 (K := K) (A := (qwC 0).map strC) (B := (qwC 1).map strC) (C := (qwC 2).map strC) (i := 8) (kq := kq) (t1 := tLst (tCons (tC (.str "share")) tNil)) (t2 := tLst (tCons (tC (.str "share")) (tCons (tC (.str "c0=0")) (tCons (tC (.str "if")) tNil)))) (t3 := tLst (tCons (tC (.str "mean")) (tCons (tC (.str "c0")) (tCons (tC (.str "if")) tNil)))) (σ := [some l, some (.ref d), some x2, some x3, some (.ref dw), some (.ref a), some q, some (.ref d7), some (.int ((kq : Nat) : Int)), z9, z10, z11, z12, z13, z14, z15]) (H := H10) (EvF.l (ef_lst (eds_cons ed_str eds_nil) (show 1 ≤ 100000 by decide))) (EvF.l (ef_lst (eds_cons ed_str (eds_cons ed_str (eds_cons ed_str eds_nil))) (show 3 ≤ 100000 by decide))) (EvF.l (ef_lst (eds_cons ed_str (eds_cons ed_str (eds_cons ed_str eds_nil))) (show 3 ≤ 100000 by decide))) rfl hkq
      refine this.is ?_
      match kq, hkq with
      | 0, _ => rfl
      | 1, _ => rfl
      | 2, _ => rfl
    · exact fun H1 e Q q => ⟨_, rfl, d7, x, ss, rfl, hxa.ex e, hxo, fun b vs' H' e' hb hbl hv => q b vs' H' e' hbl hv⟩
    · rw [← List.length_append, ← hsp, List.length_map]; omega
    have hw9 : Dp K H11 (.ref p9) (.list ((wordsC x kq).map strC)) := .lst (sq_of hpl9) hvs9
    refine qr_asg (K := K) (R := fun z => ∃ g : Bool, z = .str (if g then "" else " ")) ((er_anyD (ds := [.str "", .str " "]) rfl (hh.ex (e610.trans e11)) (ed_lst (eds_cons ed_str (eds_cons ed_str eds_nil)) (by simp)) (by simp)).imp fun z hz => ?_) fun v10 H12 dd hdd e12 hv10 => ?_
    · simp only [List.mem_cons, List.not_mem_nil, or_false] at hz
      rcases hz with rfl | rfl
      · exact ⟨true, rfl⟩
      · exact ⟨false, rfl⟩
    obtain ⟨g, rfl⟩ := hdd
    have hv' := hv10.str_inv
    subst hv'
    obtain ⟨ptold, pshort, pmore⟩ := hpl g
    have hw9 := hw9.ex e12
    refine qd_asg (K := K) (d := .str (S (textI g (wordsC x kq)))) (ed_call (eds_cons (ed_var ⟨_, rfl, hw9⟩) (eds_cons (ed_var ⟨_, rfl, .str _⟩) eds_nil)) (pu_law_text (by omega) hws)) fun v11 H13 e13 hv11 => ?_
    have hv' := hv11.str_inv
    subst hv'
    have e613 := ((e610.trans e11).trans e12).trans e13
    refine qd_asgG (K := K) (d := (Told.told (dueD (topS x kq cs) (botS x kq cs))).d) (ed_told (i := 5) (j := 11) rfl rfl ((show WholeAt K H6 a x2 y from hW).ex e613) (hx2.ex e613) (hy.ex e613) ptold) fun v H14 e14 hv => ?_
    refine g_pair (d1 := .str "told") (d2 := dueD (topS x kq cs) (botS x kq cs)) hv fun v12 v13 h12 h13 => ?_
    have hv' := h12.str_inv
    subst hv'
    have e614 := e613.trans e14
    refine kq_skip K (etk_or (a := false) (b := false) (etk_D ((ed_neS (ed_var ⟨_, rfl, .str _⟩) ed_str).is (by rw [decide_eq_true rfl]; rfl))) fun _ => etk_not (a := true) (etk_DB (ed_call (eds_cons (ed_var ⟨_, rfl, h13⟩) (eds_cons (fun H1 e Q q => ⟨_, rfl, _, rfl, _, rfl, dw, d7, x, kq, ss, fam, cs, rfl, hkq, hss, hfam, hcs, hnd.ex (e614.trans e), hxa.ex ((((e11.trans e12).trans e13).trans e14).trans e), hxo, bot_lt hss hfam hcs, fun v H' e' hv => q v H' e' hv⟩) eds_nil)) (pu_law_is_due okDue_due)))) fun H15 e15 => ?_
    have hw9 := hw9.ex ((e13.trans e14).trans e15)
    have e615 := e614.trans e15
    refine qd_par (K := K) (d := .str (S (textI g (wordsC x kq).dropLast))) (e := .str (S (textI g (wordsC x kq ++ [[41]])))) (eds_cons (ed_call (eds_cons ((ed_sl (ed_var ⟨_, rfl, hw9⟩) eo_none (eo_D (K := K) (ed_neg ed_int))).is ?_) (eds_cons (ed_var ⟨_, rfl, .str _⟩) eds_nil)) (pu_law_text (ws := (wordsC x kq).dropLast) ?_ ?_)) (eds_cons (ed_call (eds_cons (EvF.ed (ds := (wordsC x kq ++ [[41]]).map strC) ((ef_cat (xs := (wordsC x kq).map strC) ?_ (EvF.l (ef_lst (ds := [strC [41]]) (eds_cons ed_str eds_nil) (by simp))) ?_).is ?_)) (eds_cons (ed_var ⟨_, rfl, .str _⟩) eds_nil)) (pu_law_text (ws := wordsC x kq ++ [[41]]) ?_ ?_)) eds_nil)) fun v14 v15 H16 e16 h14 h15 => ?_
    · rw [HT.sIx_none, List.drop_zero, Nat.sub_zero]
      have e : ∀ n : Nat, HT.sIx n n (some (-1)) = n - 1 := fun n => by
        unfold HT.sIx
        simp
        omega
      rw [e, List.dropLast_eq_take, List.map_take, List.length_map]
      rfl
    · rw [List.length_dropLast]; omega
    · exact fun w hw => hws w (List.dropLast_subset _ hw)
    · exact el_var rfl ((((e12.trans e13).trans e14).trans e15) _ _ hpl9) (hvs9.ex (((e12.trans e13).trans e14).trans e15))
    · rw [List.length_map]; simp; omega
    · rw [List.map_append]; rfl
    · rw [List.length_append]; simp; omega
    · intro w hw
      rcases List.mem_append.mp hw with h | h
      · exact hws w h
      · rw [List.mem_singleton.mp h]; decide
    have hv' := h14.str_inv
    subst hv'
    have hv' := h15.str_inv
    subst hv'
    have e616 := e615.trans e16
    have hlen : ∀ ws : List (List Nat), okText ss (rowsC cs) (textI g ws) (.bad 0) → True := fun _ _ => trivial
    refine ks_when K (b := false) (etk_or (a := false) (b := false) (etk_D ((ed_neD (ed_told (i := 5) (j := 14) rfl rfl ((show WholeAt K H6 a x2 y from hW).ex e616) (hx2.ex e616) (hy.ex e616) pshort) (ed_tup (ds := [.str "bad", .int _]) (eds_cons ed_str (eds_cons (ed_lenS (ed_var ⟨_, rfl, .str _⟩) (by rw [S_len]; have := pshort.n; omega)) eds_nil)) (by simp)) shaped_bad shaped_bad).is (by rw [S_len]; exact congrArg PyData.bool bad_ne))) fun _ => etk_D ((ed_neD (ed_told (i := 5) (j := 15) rfl rfl ((show WholeAt K H6 a x2 y from hW).ex e616) (hx2.ex e616) (hy.ex e616) pmore) (ed_tup (ds := [.str "bad", .int _]) (eds_cons ed_str (eds_cons (ed_I0 (ed_lenS (ed_var ⟨_, rfl, .str _⟩) (by rw [S_len]; have := pmore.n; omega)) ed_int) eds_nil)) (by simp)) shaped_bad shaped_bad).is (by rw [S_len]; exact congrArg PyData.bool bad_ne))) (fun h => nomatch h) fun _ H17 e17 => ?_
    exact ⟨((((((((((e7.trans e8).trans e9).trans e10).trans e11).trans e12).trans e13).trans e14).trans e15).trans e16).trans e17), _, _, _, _, _, _, _, _, _, _, rfl, e616.trans e17⟩
  · rintro σ' H7 e7 ⟨z6, z7, z8, z9, z10, z11, z12, z13, z14, z15, rfl, eH⟩
    exact sd_ret (K := K) (d := .bool true) ed_bl fun v H8 e8 hv => by rw [hv.bl_inv]; exact k H8
end
end K61
end

section
set_option Elab.async false
set_option linter.all false
set_option maxRecDepth 100000
set_option maxHeartbeats 4000000
/-! S1: the rows of the cells are rows of a whole. -/
namespace K61
open PySem PySem.Spec PyProof.Rows L2 Evl
theorem kl_content {ss : List Int} {fam : List (List Int)} (h : okSizes ss) (h2 : okFam fam) : ∀ p ∈ KL ss fam, okContent ss p.1 ∧ (p.2 = [] ∨ p.2 = [0]) := by
  unfold okContent
  rcases h with rfl | rfl | rfl <;> rcases h2 with rfl | rfl | rfl <;> decide +kernel
def ascB (l : List (List Int × List Int)) (i : Nat) : Bool := match l[i]?, l[i + 1]? with | some p, some p' => PySem.W.dataLt (keyC p) (keyC p') | _, _ => true
theorem kl_asc {ss : List Int} {fam : List (List Int)} (h : okSizes ss) (h2 : okFam fam) : ∀ i, i < 8 → ascB (KL ss fam) i = true := by
  rcases h with rfl | rfl | rfl <;> rcases h2 with rfl | rfl | rfl <;> decide +kernel
theorem alike_tI {a b : List Int} : PySem.W.alike (tI a) (tI b) = true := by
  unfold tI
  simp [PySem.W.alike, PySem.W.alike_ints]
theorem even_of {ss : List Int} {fam : List (List Int)} (h : okSizes ss) (h2 : okFam fam) : okEven ss ((KL ss fam).map (·.2)) := by
  have key : ∀ (n : Int), tally ((KL ss fam).map (·.2)) = fam.map (fun f => (tI f, n)) → n = ((contentsI ss).length : Int) → okEven ss ((KL ss fam).map (·.2)) := by
    intro n ht hn
    refine ⟨?_, ?_⟩
    · rw [ht, List.map_map]
      refine ⟨?_, ?_, ?_, ?_, ?_⟩
      · intro d hd d' hd'
        obtain ⟨_, _, rfl⟩ := List.mem_map.mp hd
        obtain ⟨_, _, rfl⟩ := List.mem_map.mp hd'
        exact alike_tI
      · intro d hd
        obtain ⟨_, _, rfl⟩ := List.mem_map.mp hd
        exact ⟨_, rfl⟩
      · rcases h2 with rfl | rfl | rfl
        · exact .inr ⟨_, rfl⟩
        · refine .inl fun d hd => ?_
          have : d = tI [0] := by simpa using hd
          exact ⟨_, _, this⟩
        · exact .inr ⟨_, rfl⟩
      · intro d hd
        obtain ⟨f, hf, rfl⟩ := List.mem_map.mp hd
        show (tI f).depth ≤ 8
        unfold tI
        simp [PyData.depth, PyData.depthAll, PySem.W.depth_ints]
      · rw [List.length_map]
        rcases h2 with rfl | rfl | rfl <;> decide
    · rw [ht, hn]
      rcases h2 with rfl | rfl | rfl <;> intro p hp <;> simp at hp
      · subst hp; rfl
      · subst hp; rfl
      · rcases hp with rfl | rfl <;> rfl
  rcases h with rfl | rfl | rfl
  · refine key 2 ?_ rfl
    rcases h2 with rfl | rfl | rfl <;> rfl
  · refine key 3 ?_ rfl
    rcases h2 with rfl | rfl | rfl <;> rfl
  · refine key 4 ?_ rfl
    rcases h2 with rfl | rfl | rfl <;> rfl
theorem small_mk {n : Int} {T : Nat} (h0 : 0 ≤ n) (h1 : n ≤ T) (hT : T ≠ 0) (hb : (T : Int) ≤ 8 * 10 ^ 56) : small (mkRat n T) := by
  have hp : T < 2 ^ 1000 := by
    have : (T : Int) < 2 ^ 1000 := Int.lt_of_le_of_lt hb (by decide +kernel)
    have e : ((2 : Int) ^ 1000) = ((2 ^ 1000 : Nat) : Int) := by norm_cast
    rw [e] at this
    omega
  unfold small
  generalize 2 ^ 1000 = B at hp
  rw [Rat.num_mkRat, Rat.den_mkRat, if_neg hT, if_neg hT]
  have h2 := Nat.div_le_self T (T.gcd n.natAbs)
  have h3 : n / ((T.gcd n.natAbs : Nat) : Int) ≤ n := Int.ediv_le_self _ h0
  have h4 : 0 ≤ n / ((T.gcd n.natAbs : Nat) : Int) := Int.ediv_nonneg h0 (by omega)
  exact ⟨by omega, by omega⟩
theorem mk_add {a b : Int} {T : Nat} (hT : T ≠ 0) : mkRat a T + mkRat b T = mkRat (a + b) T := by
  rw [Rat.mkRat_add_mkRat _ _ hT hT, ← Int.add_mul, Rat.mkRat_mul_right hT]
theorem sum_mk {T : Nat} (hT : T ≠ 0) (ws : List Int) : sumR (ws.map fun w => mkRat w T) = mkRat ws.sum T := by
  unfold sumR
  have : ∀ (ws : List Int) (a : Int), (ws.map fun w => mkRat w T).foldl (· + ·) (mkRat a T) = mkRat (a + ws.sum) T := by
    intro ws
    induction ws with
    | nil => intro a; simp
    | cons w ws ih => intro a; rw [List.map_cons, List.foldl_cons, mk_add hT, ih, List.sum_cons, Int.add_assoc]
  have := this ws 0
  rw [Rat.zero_mkRat, Int.zero_add] at this
  exact this
theorem sh_all : SHall := by
  intro ss fam cs h h2 hc
  obtain ⟨t0, t1, l8, l2⟩ := tot_pos h h2 hc
  obtain ⟨T, hT⟩ : ∃ T : Nat, totW cs = T := ⟨(totW cs).toNat, by omega⟩
  have hT0 : T ≠ 0 := by omega
  have hTt : (totW cs).toNat = T := by omega
  have hmem : ∀ c ∈ cs, c.p ∈ KL ss fam := fun c hm => by rw [← hc.k]; exact List.mem_map_of_mem hm
  have hsum : ∀ l : List Cell, (∀ c ∈ l, c ∈ cs) → 0 ≤ (l.map Cell.w).sum := by
    intro l hl
    induction l with
    | nil => simp
    | cons c l ih =>
      rw [List.map_cons, List.sum_cons]
      have h1 := (hc.b c (hl c (List.mem_cons_self ..))).1
      have h2 := ih fun c hm => hl c (List.mem_cons_of_mem _ hm)
      omega
  have hle : ∀ i, ((cs.take i).map Cell.w).sum ≤ T := by
    intro i
    have e : (cs.map Cell.w).sum = ((cs.take i).map Cell.w).sum + ((cs.drop i).map Cell.w).sum := by
      conv => lhs; rw [← List.take_append_drop i cs]
      rw [List.map_append, List.sum_append]
    have h1 := hsum (cs.drop i) fun c hm => List.mem_of_mem_drop hm
    have h2 : (cs.map Cell.w).sum = T := hT
    omega
  have hqs : (rowsC cs).map (·.q) = (cs.map Cell.w).map fun w => mkRat w T := by
    unfold rowsC
    rw [List.map_map, List.map_map]
    exact List.map_congr_left fun c _ => by show mkRat c.w (totW cs).toNat = _; rw [hTt]; rfl
  have hTb : (T : Int) ≤ 8 * 10 ^ 56 := by rw [← hT]; exact t1
  have hw : ∀ c ∈ cs, c.w ≤ T := by
    intro c hm
    obtain ⟨i, hi, he⟩ := List.mem_iff_getElem.mp hm
    have h1 := hle (i + 1)
    rw [List.take_succ_eq_append_getElem hi, he, List.map_append, List.sum_append] at h1
    have h2 := hsum (cs.take i) fun c hm => List.mem_of_mem_take hm
    simp only [List.map_cons, List.map_nil, List.sum_cons, List.sum_nil] at h1
    omega
  refine ⟨⟨?_, ?_, ?_, ?_, ?_, ?_, ?_, ?_⟩, ?_⟩
  · intro r hr
    obtain ⟨c, hm, rfl⟩ := List.mem_map.mp hr
    exact (kl_content h h2 _ (hmem c hm)).1
  · intro r hr
    obtain ⟨c, hm, rfl⟩ := List.mem_map.mp hr
    exact (kl_content h h2 _ (hmem c hm)).2
  · intro r hr
    obtain ⟨c, hm, rfl⟩ := List.mem_map.mp hr
    show 0 < (mkRat c.w (totW cs).toNat).num
    rw [hTt, Rat.num_mkRat, if_neg hT0]
    have hw1 := (hc.b c hm).1
    have hg : 0 < T.gcd c.w.natAbs := Nat.gcd_pos_of_pos_left _ (by omega)
    have hd : ((T.gcd c.w.natAbs : Nat) : Int) ∣ c.w := by
      have := Nat.gcd_dvd_right T c.w.natAbs
      exact Int.ofNat_dvd_left.mpr this
    exact Int.ediv_pos_of_pos_of_dvd (by omega) (by omega) hd
  · intro r hr
    obtain ⟨c, hm, rfl⟩ := List.mem_map.mp hr
    show small (mkRat c.w (totW cs).toNat)
    rw [hTt]
    have := (hc.b c hm).1
    exact small_mk (by omega) (hw c hm) hT0 hTb
  · intro i
    rw [hqs, ← List.map_take, ← List.map_take, sum_mk hT0]
    exact small_mk (hsum _ fun c hm => List.mem_of_mem_take hm) (hle i) hT0 hTb
  · rw [hqs, sum_mk hT0]
    have : (cs.map Cell.w).sum = T := hT
    rw [this]
    have e := Rat.mkRat_mul_right (n := 1) (d := 1) hT0
    rw [Int.one_mul, Nat.one_mul] at e
    rw [e]
    rfl
  · intro i r r' hr hr'
    unfold rowsC at hr hr'
    rw [List.getElem?_map] at hr hr'
    obtain ⟨c, hci, rfl⟩ := Option.map_eq_some_iff.mp hr
    obtain ⟨c', hci', rfl⟩ := Option.map_eq_some_iff.mp hr'
    have hi := (List.getElem?_eq_some_iff.mp hci').1
    have := kl_asc h h2 i (by omega)
    unfold ascB at this
    rw [← hc.k, List.getElem?_map, List.getElem?_map, hci, hci'] at this
    exact this
  · unfold rowsC
    rw [List.length_map]
    omega
  · have e : (rowsC cs).map (·.ns) = (KL ss fam).map (·.2) := by
      rw [← hc.k]
      unfold rowsC
      rw [List.map_map, List.map_map]
      rfl
    rw [e]
    exact even_of h h2
end K61
end

section
set_option Elab.async false
set_option linter.all false
set_option maxRecDepth 100000
set_option maxHeartbeats 4000000
/-! T2: how the reader reads the deep expressions. -/
namespace K61
open PySem
def runT : List Tok → RS → Option RS
  | [], r => some r
  | t :: l, r => match takeR t r with | some r' => runT l r' | none => none
theorem runT_app : ∀ (a b : List Tok) (r : RS), runT (a ++ b) r = (runT a r).bind (runT b)
  | [], b, r => rfl
  | t :: a, b, r => by
    show (match takeR t r with | some r' => runT (a ++ b) r' | none => none) = (match takeR t r with | some r' => runT a r' | none => none).bind (runT b)
    cases takeR t r with
    | none => rfl
    | some r' => exact runT_app a b r'
theorem runT_then {a b : List Tok} {r r1 : RS} {z : Option RS} (h1 : runT a r = some r1) (h2 : runT b r1 = z) : runT (a ++ b) r = z := by rw [runT_app, h1]; exact h2
theorem exec_app (f : Atom → Bool) : ∀ (a b : List Step) (p : List Bool), exec f (a ++ b) p = (exec f a p).bind (exec f b)
  | [], b, p => rfl
  | .atom x :: a, b, p => exec_app f a b (f x :: p)
  | .not :: a, b, [] => rfl
  | .not :: a, b, v :: p => exec_app f a b ((!v) :: p)
  | .and :: a, b, [] => rfl
  | .and :: a, b, [_] => rfl
  | .and :: a, b, v :: u :: p => exec_app f a b ((u && v) :: p)
  | .or :: a, b, [] => rfl
  | .or :: a, b, [_] => rfl
  | .or :: a, b, v :: u :: p => exec_app f a b ((u || v) :: p)
theorem exec_then {f : Atom → Bool} {a b : List Step} {p q : List Bool} {z : Option (List Bool)} (h1 : exec f a p = some q) (h2 : exec f b q = z) : exec f (a ++ b) p = z := by rw [exec_app, h1]; exact h2
/-- many nots -/
theorem gw0_nots : ∀ (n : Nat) (st : List Step), gw 0 (List.replicate n .not) st = ([], st ++ List.replicate n .not)
  | 0, st => by simp [gw]
  | n + 1, st => by
    rw [List.replicate_succ]
    unfold gw
    rw [if_pos ⟨by decide, by decide⟩, gw0_nots n, List.append_assoc]
    rfl
theorem exec_nots (f : Atom → Bool) : ∀ (n : Nat) (v : Bool), exec f (List.replicate n .not) [v] = some [v != (n % 2 == 1)]
  | 0, v => by cases v <;> rfl
  | n + 1, v => by
    rw [List.replicate_succ]
    show exec f (List.replicate n .not) [!v] = _
    rw [exec_nots f n]
    congr 2
    have : (n % 2 == 1) = !((n + 1) % 2 == 1) := by
      rcases Nat.mod_two_eq_zero_or_one n with h | h
      · rw [h, show (n + 1) % 2 = 1 by omega]; rfl
      · rw [h, show (n + 1) % 2 = 0 by omega]; rfl
    rw [this]
    cases v <;> cases ((n + 1) % 2 == 1) <;> rfl
theorem run_nots : ∀ (n : Nat) (st : List Step) (ws : List Op), runT (List.replicate n .not) ⟨st, ws, true⟩ = some ⟨st, List.replicate n .not ++ ws, true⟩
  | 0, st, ws => rfl
  | n + 1, st, ws => by
    rw [List.replicate_succ]
    show runT (List.replicate n .not) ⟨st, .not :: ws, true⟩ = _
    rw [run_nots n, List.replicate_succ' (n := n)]
    simp
theorem run_lps : ∀ (n : Nat) (st : List Step) (ws : List Op), runT (List.replicate n .lp) ⟨st, ws, true⟩ = some ⟨st, List.replicate n .lp ++ ws, true⟩
  | 0, st, ws => rfl
  | n + 1, st, ws => by
    rw [List.replicate_succ]
    show runT (List.replicate n .lp) ⟨st, .lp :: ws, true⟩ = _
    rw [run_lps n, List.replicate_succ' (n := n)]
    simp
theorem run_atom {a : Atom} {st : List Step} {ws : List Op} : runT [.atom a] ⟨st, ws, true⟩ = some ⟨st ++ [.atom a], ws, false⟩ := rfl
theorem run_rps : ∀ (n : Nat) (st : List Step) (ws : List Op), runT (List.replicate n .rp) ⟨st, List.replicate n .lp ++ ws, false⟩ = some ⟨st, ws, false⟩
  | 0, st, ws => rfl
  | n + 1, st, ws => by
    rw [List.replicate_succ, List.replicate_succ, List.cons_append]
    have : takeR .rp ⟨st, .lp :: (List.replicate n .lp ++ ws), false⟩ = some ⟨st, List.replicate n .lp ++ ws, false⟩ := by
      unfold takeR
      simp [gw]
    unfold runT
    rw [this]
    exact run_rps n st ws
/-- the reading of a deep expression, of one cut short -/
structure Reads' (x : Deep) : Prop where
  full : ∃ r, runT x.toks r00 = some r ∧ r.whole = true ∧ ∀ f : Atom → Bool, exec f (gw 0 r.ws r.st).2 [] = some [x.so fun i => f (x.atom i)]
  short : ∃ r, runT x.toks.dropLast r00 = some r ∧ r.whole = false
theorem drop_snoc {α : Type} {l : List α} {a : α} : (l ++ [a]).dropLast = l := by simp
theorem reads0 {x : Deep} (h : x.kind = 0) : Reads' x := by
  have ht : x.toks = List.replicate x.many .not ++ [.atom (x.atom 0)] := by unfold Deep.toks; rw [if_pos h]
  have h1 := run_nots x.many [] []
  refine ⟨⟨_, by rw [ht]; exact runT_then h1 run_atom, ?_, fun f => ?_⟩, ⟨_, by rw [ht, drop_snoc]; exact h1, ?_⟩⟩
  · simp [RS.whole]
  · rw [List.append_nil, gw0_nots]
    refine (exec_then (a := [] ++ [Step.atom (x.atom 0)]) (q := [f (x.atom 0)]) rfl (exec_nots f _ _)).trans ?_
    unfold Deep.so
    rw [if_pos (by omega), h]
    rfl
  · simp [RS.whole]
theorem drop_reps {l : List Tok} {n : Nat} {t : Tok} (h : 1 ≤ n) : (l ++ List.replicate n t).dropLast = l ++ List.replicate (n - 1) t := by
  obtain ⟨m, rfl⟩ : ∃ m, n = m + 1 := ⟨n - 1, by omega⟩
  rw [List.replicate_succ', ← List.append_assoc, drop_snoc]
  rfl
theorem reads1 {x : Deep} (h : x.kind = 1) (hm : 1 ≤ x.many) : Reads' x := by
  have ht : x.toks = (List.replicate x.many .lp ++ [.atom (x.atom 0)]) ++ List.replicate x.many .rp := by unfold Deep.toks; rw [if_neg (by omega), if_pos h]
  have h1 := runT_then (run_lps x.many [] []) (run_atom (a := x.atom 0))
  refine ⟨⟨_, by rw [ht]; exact runT_then h1 (run_rps x.many _ []), ?_, fun f => ?_⟩, ?_⟩
  · simp [RS.whole]
  · show exec f [Step.atom (x.atom 0)] [] = _
    unfold Deep.so
    rw [if_pos (by omega), h]
    show some [f (x.atom 0)] = some [f (x.atom 0) != false]
    cases f (x.atom 0) <;> rfl
  · have e : List.replicate x.many Op.lp = List.replicate (x.many - 1) Op.lp ++ [Op.lp] := by
      rw [← List.replicate_succ']
      congr 1
      omega
    rw [List.append_nil, e] at h1
    refine ⟨_, by rw [ht, drop_reps hm]; exact runT_then h1 (run_rps (x.many - 1) _ [.lp]), ?_⟩
    simp [RS.whole]
/-- kind 2 -/
def nlO (n : Nat) : List Op := (List.replicate n [Op.lp, Op.not]).flatten
theorem nlO_succ {n : Nat} : nlO (n + 1) = .lp :: .not :: nlO n := by unfold nlO; rw [List.replicate_succ]; rfl
theorem nlO_snoc : ∀ {n : Nat} {ws : List Op}, nlO n ++ (.lp :: .not :: ws) = nlO (n + 1) ++ ws
  | 0, ws => rfl
  | n + 1, ws => by
    rw [nlO_succ, nlO_succ, List.cons_append, List.cons_append, nlO_snoc, ← List.cons_append, ← List.cons_append]
    
theorem run_nl : ∀ (n : Nat) (st : List Step) (ws : List Op), runT ((List.replicate n [Tok.not, Tok.lp]).flatten) ⟨st, ws, true⟩ = some ⟨st, nlO n ++ ws, true⟩
  | 0, st, ws => rfl
  | n + 1, st, ws => by
    rw [List.replicate_succ]
    show runT ((List.replicate n [Tok.not, Tok.lp]).flatten) ⟨st, .lp :: .not :: ws, true⟩ = _
    rw [run_nl n, nlO_snoc]
theorem run_nlrp : ∀ (n : Nat) (st : List Step) (ws : List Op), runT (List.replicate n .rp) ⟨st, .not :: (nlO n ++ ws), false⟩ = some ⟨st ++ List.replicate n .not, .not :: ws, false⟩
  | 0, st, ws => by simp [runT, nlO]
  | n + 1, st, ws => by
    rw [List.replicate_succ, nlO_succ]
    have : takeR .rp ⟨st, .not :: (.lp :: .not :: nlO n ++ ws), false⟩ = some ⟨st ++ [.not], .not :: (nlO n ++ ws), false⟩ := by
      unfold takeR
      simp [gw, Op.bind, Op.step]
    unfold runT
    rw [this]
    show runT (List.replicate n .rp) _ = _
    rw [run_nlrp n, List.append_assoc]
    rfl
theorem reads2 {x : Deep} (h : x.kind = 2) (hm : 1 ≤ x.many) : Reads' x := by
  have ht : x.toks = ((List.replicate x.many [.not, .lp]).flatten ++ [.atom (x.atom 0)]) ++ List.replicate x.many .rp := by unfold Deep.toks; rw [if_neg (by omega), if_neg (by omega), if_pos h]
  obtain ⟨m, hmm⟩ : ∃ m, x.many = m + 1 := ⟨x.many - 1, by omega⟩
  have h1 := runT_then (run_nl x.many [] []) (run_atom (a := x.atom 0))
  rw [List.append_nil, hmm, nlO_succ] at h1
  have h2 : runT [.rp] ⟨[] ++ [Step.atom (x.atom 0)], .lp :: .not :: nlO m, false⟩ = some ⟨[Step.atom (x.atom 0)], .not :: (nlO m ++ []), false⟩ := by
    unfold runT takeR
    simp [gw, runT]
  have h3 : List.replicate (m + 1) Tok.rp = [.rp] ++ List.replicate m .rp := rfl
  refine ⟨⟨_, by rw [ht, hmm, h3]; exact runT_then h1 (runT_then h2 (run_nlrp m _ [])), ?_, fun f => ?_⟩, ?_⟩
  · simp [RS.whole]
  · have : gw 0 [.not] ([Step.atom (x.atom 0)] ++ List.replicate m Step.not) = ([], [Step.atom (x.atom 0)] ++ List.replicate (m + 1) Step.not) := by
      rw [List.replicate_succ', ← List.append_assoc]
      rfl
    show exec f (gw 0 [.not] ([Step.atom (x.atom 0)] ++ List.replicate m Step.not)).2 [] = _
    rw [this]
    refine (exec_then (a := [Step.atom (x.atom 0)]) (q := [f (x.atom 0)]) rfl (exec_nots f _ _)).trans ?_
    unfold Deep.so
    rw [if_pos (by omega), h, hmm]
    rfl
  · rw [ht, hmm, drop_reps (by omega)]
    show ∃ r, runT (((List.replicate (m + 1) [Tok.not, Tok.lp]).flatten ++ [Tok.atom (x.atom 0)]) ++ List.replicate m .rp) r00 = some r ∧ r.whole = false
    cases m with
    | zero => exact ⟨_, runT_then h1 rfl, by simp [RS.whole, nlO]⟩
    | succ m =>
      have h4 : List.replicate (m + 1) Tok.rp = [.rp] ++ List.replicate m .rp := rfl
      have e : nlO (m + 1) = nlO m ++ [.lp, .not] := by
        have := nlO_snoc (n := m) (ws := [])
        rw [List.append_nil] at this
        exact this.symm
      rw [List.append_nil, e] at h2
      rw [e] at h1
      exact ⟨_, by rw [h4]; exact runT_then h1 (runT_then h2 (run_nlrp m _ [.lp, .not])), by simp [RS.whole]⟩
/-! kinds 3 to 5 -/
def jO (b : Bool) : Op := if b then .and else .or
def jSt (b : Bool) : Step := if b then .and else .or
def jop (b u v : Bool) : Bool := if b then u && v else u || v
theorem take_j {b : Bool} {st : List Step} {ws : List Op} (h : ws = [] ∨ ∃ r, ws = .lp :: r) : takeR (jT b) ⟨st, ws, false⟩ = some ⟨st, jO b :: ws, true⟩ := by
  rcases h with rfl | ⟨r, rfl⟩ <;> cases b <;> simp [takeR, jT, jO, gw]
theorem exec_j {f : Atom → Bool} {b u v : Bool} {p : List Bool} {l : List Step} : exec f (jSt b :: l) (v :: u :: p) = exec f l (jop b u v :: p) := by cases b <;> rfl
theorem turn3 {x : Deep} (h : x.kind = 3) (i : Nat) : x.turn i = [jT (x.joint i), .atom (x.atom (i + 1)), .rp] := by
  unfold Deep.turn
  rw [if_neg (by omega), if_pos h]
  rfl
theorem rp3 {b : Bool} {a : Atom} {st : List Step} {ws : List Op} : takeR .rp ⟨st ++ [.atom a], jO b :: .lp :: ws, false⟩ = some ⟨st ++ [.atom a] ++ [jSt b], ws, false⟩ := by
  cases b <;> simp [takeR, jO, jSt, gw, Op.bind, Op.step]
def found3 (x : Deep) (f : Atom → Bool) (n : Nat) : Bool := (List.range n).foldl (fun v i => jop (x.joint i) v (f (x.atom (i + 1)))) (f (x.atom 0))
theorem run3 {x : Deep} (h : x.kind = 3) (hm : 1 ≤ x.many) : ∀ n, n ≤ x.many → ∃ st, runT (x.front ++ (List.range n).flatMap x.turn) r00 = some ⟨st, List.replicate (x.many - n) .lp, false⟩ ∧ ∀ f, exec f st [] = some [found3 x f n]
  | 0, _ => by
    have hf : x.front = List.replicate x.many .lp ++ [.atom (x.atom 0)] := by unfold Deep.front; rw [if_pos h]
    have h1 := runT_then (run_lps x.many [] []) (run_atom (a := x.atom 0))
    rw [List.append_nil] at h1
    exact ⟨[.atom (x.atom 0)], by rw [hf, List.range_zero, List.flatMap_nil, List.append_nil]; exact h1, fun f => rfl⟩
  | n + 1, hn => by
    obtain ⟨st, h1, h2⟩ := run3 h hm n (by omega)
    refine ⟨st ++ [.atom (x.atom (n + 1))] ++ [jSt (x.joint n)], ?_, fun f => ?_⟩
    · rw [List.range_succ, List.flatMap_append, ← List.append_assoc]
      refine runT_then h1 ?_
      rw [List.flatMap_cons, List.flatMap_nil, List.append_nil, turn3 h]
      obtain ⟨k, hk⟩ : ∃ k, x.many - n = k + 1 := ⟨x.many - n - 1, by omega⟩
      rw [hk, List.replicate_succ, show x.many - (n + 1) = k by omega]
      unfold runT
      rw [take_j (.inr ⟨_, rfl⟩)]
      show runT [.atom (x.atom (n + 1)), .rp] _ = _
      show runT [.rp] ⟨st ++ [.atom (x.atom (n + 1))], jO (x.joint n) :: .lp :: List.replicate k .lp, false⟩ = _
      unfold runT
      rw [rp3]
      rfl
    · rw [List.append_assoc]
      refine exec_then (h2 f) ?_
      show exec f ([jSt (x.joint n)]) [f (x.atom (n + 1)), found3 x f n] = _
      rw [exec_j]
      unfold found3
      rw [List.range_succ, List.foldl_append]
      rfl
theorem reads3 {x : Deep} (h : x.kind = 3) (hm : 1 ≤ x.many) : Reads' x := by
  have ht : x.toks = x.front ++ (List.range x.many).flatMap x.turn := by
    unfold Deep.toks
    rw [if_neg (by omega), if_neg (by omega), if_neg (by omega), if_neg (by omega), List.append_nil]
  have hso : ∀ f : Atom → Bool, x.so (fun i => f (x.atom i)) = found3 x f x.many := by
    intro f
    unfold Deep.so
    rw [if_neg (by omega), if_neg (by omega)]
    have : ∀ (l : List Nat) (v : Bool), l.foldl (stepL x fun i => f (x.atom i)) (v, false) = (l.foldl (fun v i => jop (x.joint i) v (f (x.atom (i + 1)))) v, false) := by
      intro l
      induction l with
      | nil => intro v; rfl
      | cons a l ih =>
        intro v
        rw [List.foldl_cons, List.foldl_cons]
        have : stepL x (fun i => f (x.atom i)) (v, false) a = (jop (x.joint a) v (f (x.atom (a + 1))), false) := by
          unfold stepL
          rw [if_pos (.inl h)]
          rfl
        rw [this, ih]
    rw [this]
    simp [found3]
  refine ⟨?_, ?_⟩
  · obtain ⟨st, h1, h2⟩ := run3 h hm x.many (Nat.le_refl _)
    rw [Nat.sub_self] at h1
    exact ⟨_, by rw [ht]; exact h1, by simp [RS.whole], fun f => by rw [hso]; exact h2 f⟩
  · obtain ⟨m, hmm⟩ : ∃ m, x.many = m + 1 := ⟨x.many - 1, by omega⟩
    obtain ⟨st, h1, h2⟩ := run3 h hm m (by omega)
    have e : x.toks.dropLast = (x.front ++ (List.range m).flatMap x.turn) ++ [jT (x.joint m), .atom (x.atom (m + 1))] := by
      rw [ht, hmm, List.range_succ, List.flatMap_append, List.flatMap_cons, List.flatMap_nil, List.append_nil, turn3 h, show [jT (x.joint m), .atom (x.atom (m + 1)), Tok.rp] = [jT (x.joint m), .atom (x.atom (m + 1))] ++ [Tok.rp] from rfl, ← List.append_assoc, ← List.append_assoc, drop_snoc]
    rw [show x.many - m = 1 by omega] at h1
    refine ⟨⟨st ++ [.atom (x.atom (m + 1))], jO (x.joint m) :: [.lp], false⟩, ?_, ?_⟩
    · rw [e]
      refine runT_then h1 ?_
      unfold runT
      rw [show List.replicate 1 Op.lp = [.lp] from rfl, take_j (.inr ⟨_, rfl⟩)]
      rfl
    · cases x.joint m <;> simp [RS.whole, jO]
/-! kind 4 -/
theorem turn4 {x : Deep} (h : x.kind = 4) (i : Nat) : x.turn i = [jT (x.joint i), .lp, .atom (x.atom (i + 1))] := by
  unfold Deep.turn
  rw [if_pos h, if_neg (by omega)]
  rfl
def W4 (x : Deep) : Nat → List Op
  | 0 => []
  | n + 1 => .lp :: jO (x.joint n) :: W4 x n
theorem W4_succ {x : Deep} {n : Nat} : W4 x (n + 1) = .lp :: jO (x.joint n) :: W4 x n := rfl
theorem W4_lp (x : Deep) : ∀ n, W4 x n = [] ∨ ∃ r, W4 x n = .lp :: r
  | 0 => .inl rfl
  | n + 1 => .inr ⟨_, rfl⟩
def A4 (x : Deep) (n : Nat) : List Step := (List.range (n + 1)).map fun i => .atom (x.atom i)
def J4 (x : Deep) (n : Nat) : List Step := (List.range n).reverse.map fun i => jSt (x.joint i)
theorem J4_succ {x : Deep} {n : Nat} : J4 x (n + 1) = jSt (x.joint n) :: J4 x n := by unfold J4; rw [List.range_succ, List.reverse_append]; rfl
theorem run4 {x : Deep} (h : x.kind = 4) : ∀ n, runT (x.front ++ (List.range n).flatMap x.turn) r00 = some ⟨A4 x n, W4 x n, false⟩
  | 0 => by
    have hf : x.front = [.atom (x.atom 0)] := by unfold Deep.front; rw [if_neg (by omega)]; rfl
    rw [hf, List.range_zero, List.flatMap_nil, List.append_nil]
    rfl
  | n + 1 => by
    rw [List.range_succ, List.flatMap_append, ← List.append_assoc]
    refine runT_then (run4 h n) ?_
    rw [List.flatMap_cons, List.flatMap_nil, List.append_nil, turn4 h]
    unfold runT
    rw [take_j (W4_lp x n)]
    show some (⟨A4 x n ++ [.atom (x.atom (n + 1))], .lp :: jO (x.joint n) :: W4 x n, false⟩ : RS) = _
    unfold A4
    rw [List.range_succ (n := n + 1), List.map_append]
    rfl
theorem rps4 (x : Deep) (r : Nat) : ∀ (n : Nat) (st : List Step) (b : Bool), ∃ st' o, runT (List.replicate n .rp) ⟨st, jO b :: W4 x (n + r), false⟩ = some ⟨st', jO o :: W4 x r, false⟩ ∧ st' ++ jSt o :: J4 x r = st ++ jSt b :: J4 x (n + r)
  | 0, st, b => ⟨st, b, by rw [Nat.zero_add]; rfl, by rw [Nat.zero_add]⟩
  | n + 1, st, b => by
    obtain ⟨st', o, h1, h2⟩ := rps4 x r n (st ++ [jSt b]) (x.joint (n + r))
    have e : n + 1 + r = (n + r) + 1 := by omega
    refine ⟨st', o, ?_, ?_⟩
    · rw [List.replicate_succ, e]
      have : takeR .rp ⟨st, jO b :: W4 x (n + r + 1), false⟩ = some ⟨st ++ [jSt b], jO (x.joint (n + r)) :: W4 x (n + r), false⟩ := by
        rw [W4_succ]
        cases b <;> simp [takeR, jO, jSt, gw, Op.bind, Op.step]
      unfold runT
      rw [this]
      exact h1
    · rw [h2, e, J4_succ, List.append_assoc]
      rfl
theorem exec4a (f : Atom → Bool) (x : Deep) : ∀ n p, exec f ((List.range n).map fun i => Step.atom (x.atom i)) p = some ((List.range n).reverse.map (fun i => f (x.atom i)) ++ p)
  | 0, p => rfl
  | n + 1, p => by
    rw [List.range_succ, List.map_append]
    refine (exec_then (exec4a f x n p) (z := some (f (x.atom n) :: ((List.range n).reverse.map (fun i => f (x.atom i)) ++ p))) rfl).trans ?_
    rw [List.reverse_append]
    rfl
theorem exec4j (f : Atom → Bool) (x : Deep) : ∀ n v, exec f (J4 x n) (v :: (List.range n).reverse.map (fun i => f (x.atom i))) = some [(List.range n).reverse.foldl (stepR x fun i => f (x.atom i)) v]
  | 0, v => rfl
  | n + 1, v => by
    rw [J4_succ, List.range_succ, List.reverse_append]
    show exec f (jSt (x.joint n) :: J4 x n) (v :: f (x.atom n) :: (List.range n).reverse.map (fun i => f (x.atom i))) = some [(List.range n).reverse.foldl _ (stepR x (fun i => f (x.atom i)) v n)]
    rw [exec_j, exec4j f x n]
    rfl
theorem rp4 {x : Deep} {st : List Step} {n : Nat} : takeR .rp ⟨st, W4 x (n + 1), false⟩ = some ⟨st, jO (x.joint n) :: W4 x n, false⟩ := by
  rw [W4_succ]
  simp [takeR, gw]
theorem reads4 {x : Deep} (h : x.kind = 4) (hm : 1 ≤ x.many) : Reads' x := by
  have ht : x.toks = (x.front ++ (List.range x.many).flatMap x.turn) ++ List.replicate x.many .rp := by
    unfold Deep.toks
    rw [if_neg (by omega), if_neg (by omega), if_neg (by omega), if_pos h]
  obtain ⟨m, hmm⟩ : ∃ m, x.many = m + 1 := ⟨x.many - 1, by omega⟩
  have h1 := run4 h x.many
  have h3 : ∀ k, List.replicate (k + 1) Tok.rp = [.rp] ++ List.replicate k .rp := fun k => rfl
  have h2 : runT [.rp] ⟨A4 x x.many, W4 x x.many, false⟩ = some ⟨A4 x x.many, jO (x.joint m) :: W4 x m, false⟩ := by
    unfold runT
    rw [hmm, rp4]
    rfl
  refine ⟨?_, ?_⟩
  · obtain ⟨st', o, h4, h5⟩ := rps4 x 0 m (A4 x x.many) (x.joint m)
    refine ⟨_, by rw [ht, show List.replicate x.many Tok.rp = [.rp] ++ List.replicate m .rp by rw [hmm]; rfl]; exact runT_then h1 (runT_then h2 h4), ?_, fun f => ?_⟩
    · cases o <;> simp [RS.whole, jO, W4]
    · have e : (gw 0 [jO o] st').2 = st' ++ [jSt o] := by cases o <;> simp [gw, jO, jSt, Op.bind, Op.step]
      show exec f (gw 0 (jO o :: W4 x 0) st').2 [] = _
      rw [show W4 x 0 = [] from rfl, e, show st' ++ [jSt o] = st' ++ jSt o :: J4 x 0 from rfl, h5, Nat.add_zero, ← J4_succ, ← hmm]
      refine (exec_then (exec4a f x (x.many + 1) []) ?_).trans rfl
      rw [List.append_nil, List.range_succ, List.reverse_append]
      show exec f (J4 x x.many) (f (x.atom x.many) :: (List.range x.many).reverse.map (fun i => f (x.atom i))) = _
      rw [exec4j]
      unfold Deep.so
      rw [if_neg (by omega), if_pos h]
  · rw [ht, drop_reps hm, hmm]
    show ∃ r, runT (x.front ++ (List.range (m + 1)).flatMap x.turn ++ List.replicate m .rp) r00 = some r ∧ r.whole = false
    rw [← hmm]
    cases m with
    | zero => exact ⟨_, runT_then h1 rfl, by rw [hmm]; simp [RS.whole, W4]⟩
    | succ k =>
      obtain ⟨st', o, h4, _⟩ := rps4 x 1 k (A4 x x.many) (x.joint (k + 1))
      refine ⟨_, by rw [h3]; exact runT_then h1 (runT_then h2 h4), ?_⟩
      cases o <;> simp [RS.whole, jO, W4]
/-! kind 5 -/
theorem turn5 {x : Deep} (h : x.kind = 5) (i : Nat) : x.turn i = [jT (x.joint i), .atom (x.atom (i + 1))] := by
  unfold Deep.turn
  rw [if_neg (by omega), if_neg (by omega)]
  rfl
def rep5 : List Op → Bool → Bool → List Bool → Prop
  | [], fd, an, p => p = [fd] ∧ an = false
  | [.and], fd, an, p => an = false ∧ ∃ a b, p = [b, a] ∧ fd = (a && b)
  | [.or], fd, an, p => p = [fd, an]
  | [.and, .or], fd, an, p => ∃ a b, p = [b, a, an] ∧ fd = (a && b)
  | _, _, _, _ => False
theorem run5 {x : Deep} (h : x.kind = 5) : ∀ n, ∃ st ws, runT (x.front ++ (List.range n).flatMap x.turn) r00 = some ⟨st, ws, false⟩ ∧ (ws = [] ∨ ws = [.and] ∨ ws = [.or] ∨ ws = [.and, .or]) ∧
    ∀ f : Atom → Bool, ∃ p, exec f st [] = some p ∧ rep5 ws ((List.range n).foldl (stepL x fun i => f (x.atom i)) (f (x.atom 0), false)).1 ((List.range n).foldl (stepL x fun i => f (x.atom i)) (f (x.atom 0), false)).2 p
  | 0 => by
    have hf : x.front = [.atom (x.atom 0)] := by unfold Deep.front; rw [if_neg (by omega)]; rfl
    rw [hf, List.range_zero, List.flatMap_nil, List.append_nil]
    exact ⟨[.atom (x.atom 0)], [], rfl, .inl rfl, fun f => ⟨[f (x.atom 0)], rfl, rfl, rfl⟩⟩
  | n + 1 => by
    obtain ⟨st, ws, h1, hws, h2⟩ := run5 h n
    have hstep : ∀ (f : Atom → Bool) s, stepL x (fun i => f (x.atom i)) s n = if x.joint n then (s.1 && f (x.atom (n + 1)), s.2) else (f (x.atom (n + 1)), s.2 || s.1) := by
      intro f s
      unfold stepL
      cases hj : x.joint n
      · rw [if_neg (by rw [h]; simp)]; rfl
      · rw [if_pos (.inr rfl)]; rfl
    have fin : ∀ (st2 : List Step) (ws2 : List Op), takeR (jT (x.joint n)) ⟨st, ws, false⟩ = some ⟨st2, ws2, true⟩ → (ws2 = [] ∨ ws2 = [.and] ∨ ws2 = [.or] ∨ ws2 = [.and, .or]) →
        (∀ (f : Atom → Bool) fd an p, exec f st [] = some p → rep5 ws fd an p → ∃ p2, exec f st2 [] = some p2 ∧ rep5 ws2 (if x.joint n then (fd && f (x.atom (n + 1)), an) else (f (x.atom (n + 1)), an || fd)).1 (if x.joint n then (fd && f (x.atom (n + 1)), an) else (f (x.atom (n + 1)), an || fd)).2 (f (x.atom (n + 1)) :: p2)) →
        ∃ st ws, runT (x.front ++ (List.range (n + 1)).flatMap x.turn) r00 = some ⟨st, ws, false⟩ ∧ (ws = [] ∨ ws = [.and] ∨ ws = [.or] ∨ ws = [.and, .or]) ∧
          ∀ f : Atom → Bool, ∃ p, exec f st [] = some p ∧ rep5 ws ((List.range (n + 1)).foldl (stepL x fun i => f (x.atom i)) (f (x.atom 0), false)).1 ((List.range (n + 1)).foldl (stepL x fun i => f (x.atom i)) (f (x.atom 0), false)).2 p := by
      intro st2 ws2 ht hw2 hr
      refine ⟨st2 ++ [.atom (x.atom (n + 1))], ws2, ?_, hw2, fun f => ?_⟩
      · rw [List.range_succ, List.flatMap_append, ← List.append_assoc]
        refine runT_then h1 ?_
        rw [List.flatMap_cons, List.flatMap_nil, List.append_nil, turn5 h]
        unfold runT
        rw [ht]
        rfl
      · obtain ⟨p, e1, r1⟩ := h2 f
        obtain ⟨p2, e2, r2⟩ := hr f _ _ p e1 r1
        refine ⟨_, exec_then e2 rfl, ?_⟩
        rw [List.range_succ, List.foldl_append, List.foldl_cons, List.foldl_nil, hstep]
        exact r2
    cases hj : x.joint n
    · rcases hws with rfl | rfl | rfl | rfl
      · refine fin st [.or] (by rw [hj]; simp [takeR, jT, gw]) (.inr (.inr (.inl rfl))) fun f fd an p e r => ⟨p, e, ?_⟩
        obtain ⟨rfl, rfl⟩ := r
        rw [hj]
        rfl
      · refine fin (st ++ [.and]) [.or] (by rw [hj]; simp [takeR, jT, gw, Op.bind, Op.step]) (.inr (.inr (.inl rfl))) fun f fd an p e r => ?_
        obtain ⟨rfl, a, b, rfl, rfl⟩ := r
        refine ⟨[a && b], exec_then e rfl, ?_⟩
        rw [hj]
        rfl
      · refine fin (st ++ [.or]) [.or] (by rw [hj]; simp [takeR, jT, gw, Op.bind, Op.step]) (.inr (.inr (.inl rfl))) fun f fd an p e r => ?_
        have r : p = [fd, an] := r
        subst r
        refine ⟨[an || fd], exec_then e rfl, ?_⟩
        rw [hj]
        rfl
      · refine fin (st ++ [.and] ++ [.or]) [.or] (by rw [hj]; simp [takeR, jT, gw, Op.bind, Op.step]) (.inr (.inr (.inl rfl))) fun f fd an p e r => ?_
        obtain ⟨a, b, rfl, rfl⟩ := r
        refine ⟨[an || (a && b)], exec_then (q := [a && b, an]) (exec_then e rfl) rfl, ?_⟩
        rw [hj]
        rfl
    · rcases hws with rfl | rfl | rfl | rfl
      · refine fin st [.and] (by rw [hj]; simp [takeR, jT, gw]) (.inr (.inl rfl)) fun f fd an p e r => ⟨p, e, ?_⟩
        obtain ⟨rfl, rfl⟩ := r
        rw [hj]
        exact ⟨rfl, fd, f (x.atom (n + 1)), rfl, rfl⟩
      · refine fin (st ++ [.and]) [.and] (by rw [hj]; simp [takeR, jT, gw, Op.bind, Op.step]) (.inr (.inl rfl)) fun f fd an p e r => ?_
        obtain ⟨rfl, a, b, rfl, rfl⟩ := r
        refine ⟨[a && b], exec_then e rfl, ?_⟩
        rw [hj]
        exact ⟨rfl, a && b, f (x.atom (n + 1)), rfl, rfl⟩
      · refine fin st [.and, .or] (by rw [hj]; simp [takeR, jT, gw, Op.bind, Op.step]) (.inr (.inr (.inr rfl))) fun f fd an p e r => ⟨p, e, ?_⟩
        have r : p = [fd, an] := r
        subst r
        rw [hj]
        exact ⟨fd, f (x.atom (n + 1)), rfl, rfl⟩
      · refine fin (st ++ [.and]) [.and, .or] (by rw [hj]; simp [takeR, jT, gw, Op.bind, Op.step]) (.inr (.inr (.inr rfl))) fun f fd an p e r => ?_
        obtain ⟨a, b, rfl, rfl⟩ := r
        refine ⟨[a && b, an], exec_then e rfl, ?_⟩
        rw [hj]
        exact ⟨a && b, f (x.atom (n + 1)), rfl, rfl⟩
theorem reads5 {x : Deep} (h : x.kind = 5) (hm : 1 ≤ x.many) : Reads' x := by
  have ht : x.toks = x.front ++ (List.range x.many).flatMap x.turn := by
    unfold Deep.toks
    rw [if_neg (by omega), if_neg (by omega), if_neg (by omega), if_neg (by omega), List.append_nil]
  refine ⟨?_, ?_⟩
  · obtain ⟨st, ws, h1, hws, h2⟩ := run5 h x.many
    refine ⟨_, by rw [ht]; exact h1, ?_, fun f => ?_⟩
    · rcases hws with rfl | rfl | rfl | rfl <;> simp [RS.whole]
    · obtain ⟨p, e, r⟩ := h2 f
      have hso : x.so (fun i => f (x.atom i)) = (((List.range x.many).foldl (stepL x fun i => f (x.atom i)) (f (x.atom 0), false)).2 || ((List.range x.many).foldl (stepL x fun i => f (x.atom i)) (f (x.atom 0), false)).1) := by
        unfold Deep.so
        rw [if_neg (by omega), if_neg (by omega)]
      rw [hso]
      generalize (List.range x.many).foldl (stepL x fun i => f (x.atom i)) (f (x.atom 0), false) = s at r
      obtain ⟨fd, an⟩ := s
      rcases hws with rfl | rfl | rfl | rfl
      · obtain ⟨rfl, rfl⟩ := r
        exact e
      · obtain ⟨rfl, a, b, rfl, rfl⟩ := r
        have e2 : (gw 0 [.and] st).2 = st ++ [.and] := by simp [gw, Op.bind, Op.step]
        show exec f (gw 0 [.and] st).2 [] = _
        rw [e2]
        exact exec_then e rfl
      · have r : p = [fd, an] := r
        subst r
        have e2 : (gw 0 [.or] st).2 = st ++ [.or] := by simp [gw, Op.bind, Op.step]
        show exec f (gw 0 [.or] st).2 [] = _
        rw [e2]
        exact exec_then e rfl
      · obtain ⟨a, b, rfl, rfl⟩ := r
        have e2 : (gw 0 [.and, .or] st).2 = st ++ [.and] ++ [.or] := by simp [gw, Op.bind, Op.step]
        show exec f (gw 0 [.and, .or] st).2 [] = _
        rw [e2]
        exact exec_then (q := [a && b, an]) (exec_then e rfl) rfl
  · obtain ⟨m, hmm⟩ : ∃ m, x.many = m + 1 := ⟨x.many - 1, by omega⟩
    obtain ⟨st, ws, h1, hws, h2⟩ := run5 h m
    have e : x.toks.dropLast = (x.front ++ (List.range m).flatMap x.turn) ++ [jT (x.joint m)] := by
      rw [ht, hmm, List.range_succ, List.flatMap_append, List.flatMap_cons, List.flatMap_nil, List.append_nil, turn5 h, show [jT (x.joint m), Tok.atom (x.atom (m + 1))] = [jT (x.joint m)] ++ [Tok.atom (x.atom (m + 1))] from rfl, ← List.append_assoc, ← List.append_assoc, drop_snoc]
    rw [e]
    cases hj : x.joint m
    · exact ⟨_, runT_then h1 rfl, by simp [RS.whole]⟩
    · exact ⟨_, runT_then h1 rfl, by simp [RS.whole]⟩
theorem reads_all {ss : List Int} {x : Deep} (h : x.ok ss) : Reads' x := by
  have hm := h.m.1
  have hk := h.k
  rcases Nat.lt_or_ge x.kind 1 with h0 | h0
  · exact reads0 (by omega)
  rcases Nat.lt_or_ge x.kind 2 with h1 | h1
  · exact reads1 (by omega) hm
  rcases Nat.lt_or_ge x.kind 3 with h2 | h2
  · exact reads2 (by omega) hm
  rcases Nat.lt_or_ge x.kind 4 with h3 | h3
  · exact reads3 (by omega) hm
  rcases Nat.lt_or_ge x.kind 5 with h4 | h4
  · exact reads4 (by omega) hm
  · exact reads5 (by omega) hm
end K61
end

section
set_option Elab.async false
set_option linter.all false
set_option maxRecDepth 100000
set_option maxHeartbeats 4000000
/-! T3: how the text of words is cut into words. -/
namespace K61
open PySem SX
def sepR (g : Bool) (prev : Option (List Nat)) (w : List Nat) : List Nat := match prev with | none => [] | some p => sepC g p w
def textR (g : Bool) : Option (List Nat) → List (List Nat) → List Nat
  | _, [] => []
  | prev, w :: r => sepR g prev w ++ (w ++ textR g (some w) r)
theorem textI_go (g : Bool) : ∀ (r pre : List (List Nat)), ((List.range' pre.length r.length).map (partAt g (pre ++ r))).flatten = textR g pre.getLast? r
  | [], pre => rfl
  | w :: r, pre => by
    rw [List.length_cons, List.range'_succ, List.map_cons, List.flatten_cons]
    have ih := textI_go g r (pre ++ [w])
    rw [List.length_append, List.append_assoc, List.getLast?_append] at ih
    have e : (pre ++ ([w] ++ r)) = pre ++ w :: r := rfl
    rw [e] at ih
    have ih : ((List.range' (pre.length + 1) r.length).map (partAt g (pre ++ w :: r))).flatten = textR g (some w) r := ih
    rw [ih]
    have hw : (pre ++ w :: r).getD pre.length [] = w := by simp
    have hp : partAt g (pre ++ w :: r) pre.length = sepR g pre.getLast? w ++ w := by
      unfold partAt
      rw [hw]
      congr 1
      by_cases h : pre = []
      · subst h; rfl
      · have hl : 0 < pre.length := List.length_pos_iff.mpr h
        rw [if_neg (by omega)]
        have : pre.getLast? = some (pre.getD (pre.length - 1) []) := by
          rw [List.getLast?_eq_getElem?, List.getD_eq_getElem?_getD, List.getElem?_eq_getElem (by omega)]
          rfl
        rw [this]
        show sepC g _ w = sepC g _ w
        congr 1
        rw [List.getD_eq_getElem?_getD, List.getD_eq_getElem?_getD, List.getElem?_append_left (by omega)]
    rw [hp, List.append_assoc]
    rfl
theorem textI_eq {g : Bool} {W : List (List Nat)} : textI g W = textR g none W := by
  unfold textI
  rw [List.range_eq_range']
  exact textI_go g W []
def placeR (g : Bool) : Option (List Nat) → Nat → List (List Nat) → List (Nat × List Nat)
  | _, _, [] => []
  | prev, p, w :: r => (p + (sepR g prev w).length, w) :: placeR g (some w) (p + (sepR g prev w).length + w.length) r
def itemOf (q : Nat × List Nat) : Nat × Nat := (q.1, q.1 + q.2.length)
def Wok (w : List Nat) : Prop := ((w = [40] ∨ w = [41]) ∧ par (S w) = true) ∨ (w ≠ [] ∧ (∀ c ∈ w, ¬ sep c) ∧ par (S w) = false)
theorem sepR_cases (g : Bool) (prev : Option (List Nat)) (w : List Nat) : sepR g prev w = [] ∨ sepR g prev w = [32] := by
  unfold sepR
  split
  · exact .inl rfl
  · unfold sepC
    split
    · exact .inl rfl
    · exact .inr rfl
/-- a plain word is followed by the end or by what separates -/
theorem next_sep {g : Bool} {w : List Nat} {r : List (List Nat)} (hp : par (S w) = false) (hr : ∀ u ∈ r, Wok u) : textR g (some w) r = [] ∨ ∃ c l, textR g (some w) r = c :: l ∧ sep c := by
  cases r with
  | nil => exact .inl rfl
  | cons u r =>
    right
    unfold textR
    rcases sepR_cases g (some w) u with h | h
    · have : sepC g w u = [] := h
      unfold sepC at this
      rw [hp, Bool.or_false] at this
      have hu : par (S u) = true := by
        cases hq : par (S u) with
        | true => rfl
        | false => rw [hq] at this; simp at this
      rcases hr u (List.mem_cons_self ..) with ⟨hu', _⟩ | ⟨_, _, hf⟩
      · rw [h]
        rcases hu' with rfl | rfl
        · exact ⟨40, _, rfl, .inr (.inl rfl)⟩
        · exact ⟨41, _, rfl, .inr (.inr rfl)⟩
      · rw [hu] at hf; cases hf
    · rw [h]
      exact ⟨32, _, rfl, .inl rfl⟩
theorem seg_all (g : Bool) (cs : List Nat) : ∀ (W : List (List Nat)) (prev : Option (List Nat)) (pre : List Nat), (∀ w ∈ W, Wok w) → cs = pre ++ textR g prev W →
    Seg cs pre.length ((placeR g prev pre.length W).map itemOf) ∧ ∀ q ∈ placeR g prev pre.length W, (cs.drop q.1).take q.2.length = q.2
  | [], prev, pre, _, h => by
    have : pre.length = cs.length := by rw [h]; simp [textR]
    rw [this]
    exact ⟨.done, by simp [placeR]⟩
  | w :: r, prev, pre, hW, h => by
    have hw := hW w (List.mem_cons_self ..)
    have hr : ∀ u ∈ r, Wok u := fun u hu => hW u (List.mem_cons_of_mem _ hu)
    -- from the word on
    have core : ∀ pre' : List Nat, cs = pre' ++ (w ++ textR g (some w) r) → Seg cs pre'.length (itemOf (pre'.length, w) :: (placeR g (some w) (pre'.length + w.length) r).map itemOf) ∧ ∀ q ∈ (pre'.length, w) :: placeR g (some w) (pre'.length + w.length) r, (cs.drop q.1).take q.2.length = q.2 := by
      intro pre' h'
      have ih := seg_all g cs r (some w) (pre' ++ w) hr (by rw [h', List.append_assoc])
      rw [List.length_append] at ih
      have hat : ∀ i, i < w.length → cs[pre'.length + i]? = w[i]? := by
        intro i hi
        rw [h', List.getElem?_append_right (by omega), Nat.add_sub_cancel_left, List.getElem?_append_left hi]
      refine ⟨?_, ?_⟩
      · rcases hw with ⟨hw, _⟩ | ⟨hne, hns, hp⟩
        · have hl : w.length = 1 := by rcases hw with rfl | rfl <;> rfl
          have h0 := hat 0 (by omega)
          unfold itemOf
          rw [hl] at ih ⊢
          refine .paren (c := if w = [40] then 40 else 41) ?_ ?_ ih.1
          · rw [Nat.add_zero] at h0
            rw [h0]
            rcases hw with rfl | rfl <;> rfl
          · split
            · exact .inl rfl
            · exact .inr rfl
        · have hl : 0 < w.length := List.length_pos_iff.mpr hne
          have hcl : cs.length = pre'.length + w.length + (textR g (some w) r).length := by rw [h']; simp; omega
          refine .word (by show pre'.length < pre'.length + w.length; omega) (by show pre'.length + w.length ≤ _; omega) ?_ ?_ ih.1
          · intro i h1 h2
            have h2 : i < pre'.length + w.length := h2
            obtain ⟨k, rfl⟩ : ∃ k, i = pre'.length + k := ⟨i - pre'.length, by omega⟩
            rw [hat k (by omega), List.getElem?_eq_getElem (by omega)]
            exact ⟨_, rfl, hns _ (List.getElem_mem _)⟩
          · rcases next_sep (g := g) hp hr with e | ⟨c, l, e, hc⟩
            · left
              rw [hcl, e]
              rfl
            · right
              refine ⟨c, ?_, hc⟩
              rw [h', List.getElem?_append_right (by omega), Nat.add_sub_cancel_left, List.getElem?_append_right (Nat.le_refl _), Nat.sub_self, e]
              rfl
      · intro q hq
        rcases List.mem_cons.mp hq with rfl | hq
        · show (cs.drop pre'.length).take w.length = w
          rw [h', List.drop_left, List.take_left]
        · exact ih.2 q hq
    have h : cs = pre ++ (sepR g prev w ++ (w ++ textR g (some w) r)) := h
    show Seg cs pre.length (itemOf (pre.length + (sepR g prev w).length, w) :: (placeR g (some w) (pre.length + (sepR g prev w).length + w.length) r).map itemOf) ∧ ∀ q ∈ (pre.length + (sepR g prev w).length, w) :: placeR g (some w) (pre.length + (sepR g prev w).length + w.length) r, _
    rcases sepR_cases g prev w with e | e
    · rw [e] at h ⊢
      exact core pre h
    · rw [e] at h ⊢
      have := core (pre ++ [32]) (by rw [h]; simp)
      rw [List.length_append] at this
      refine ⟨.space ?_ this.1, this.2⟩
      rw [h, List.getElem?_append_right (Nat.le_refl _), Nat.sub_self]
      rfl
theorem words_at {g : Bool} {cs : List Nat} {q : Nat × List Nat} (h : (cs.drop q.1).take q.2.length = q.2) : wordD cs (itemOf q) = qD (q.1, S q.2) := by
  unfold wordD itemOf qD
  rw [Nat.add_sub_cancel_left, h]
/-- the words of a text, with their places -/
theorem seg_words {g : Bool} {W : List (List Nat)} (h : ∀ w ∈ W, Wok w) : Seg (textI g W) 0 ((placeR g none 0 W).map itemOf) ∧ ((placeR g none 0 W).map itemOf).map (wordD (textI g W)) = ((placeR g none 0 W).map fun q => (q.1, S q.2)).map qD := by
  have := seg_all g (textI g W) W none [] h (by rw [textI_eq]; rfl)
  refine ⟨this.1, ?_⟩
  rw [List.map_map, List.map_map]
  exact List.map_congr_left fun q hq => words_at (g := g) (this.2 q hq)
theorem place_len (g : Bool) : ∀ (W : List (List Nat)) (prev : Option (List Nat)) (p : Nat), (placeR g prev p W).length = W.length
  | [], _, _ => rfl
  | w :: r, prev, p => by
    show (placeR g (some w) _ r).length + 1 = _
    rw [place_len g r]
    rfl
theorem place_snd (g : Bool) : ∀ (W : List (List Nat)) (prev : Option (List Nat)) (p : Nat), (placeR g prev p W).map (·.2) = W
  | [], _, _ => rfl
  | w :: r, prev, p => by
    show w :: (placeR g (some w) _ r).map (·.2) = _
    rw [place_snd g r]
/-- the last word's place -/
theorem place_last (g : Bool) (w : List Nat) : ∀ (W : List (List Nat)) (prev : Option (List Nat)) (p : Nat), ∃ l, placeR g prev p (W ++ [w]) = l ++ [(p + (textR g prev (W ++ [w])).length - w.length, w)] ∧ l.map (·.2) = W
  | [], prev, p => by
    refine ⟨[], ?_, rfl⟩
    show [(p + (sepR g prev w).length, w)] = [(p + (sepR g prev w ++ (w ++ [])).length - w.length, w)]
    have e : p + (sepR g prev w ++ (w ++ [])).length - w.length = p + (sepR g prev w).length := by
      rw [List.append_nil, List.length_append]
      omega
    rw [e]
  | u :: W, prev, p => by
    obtain ⟨l, h1, h2⟩ := place_last g w W (some u) (p + (sepR g prev u).length + u.length)
    refine ⟨(p + (sepR g prev u).length, u) :: l, ?_, by rw [List.map_cons, h2]⟩
    show (p + (sepR g prev u).length, u) :: placeR g (some u) (p + (sepR g prev u).length + u.length) (W ++ [w]) = _
    rw [h1]
    show _ = (p + (sepR g prev u).length, u) :: (l ++ [(p + (sepR g prev u ++ (u ++ textR g (some u) (W ++ [w]))).length - w.length, w)])
    have e : p + (sepR g prev u ++ (u ++ textR g (some u) (W ++ [w]))).length - w.length = p + (sepR g prev u).length + u.length + (textR g (some u) (W ++ [w])).length - w.length := by
      rw [List.length_append, List.length_append]
      omega
    rw [e]
theorem text_len {g : Bool} : ∀ {W : List (List Nat)} {prev : Option (List Nat)}, (∀ w ∈ W, w.length ≤ 5) → (textR g prev W).length ≤ 6 * W.length
  | [], _, _ => by simp [textR]
  | w :: r, prev, h => by
    have ih := text_len (g := g) (W := r) (prev := some w) fun u hu => h u (List.mem_cons_of_mem _ hu)
    have h1 := h w (List.mem_cons_self ..)
    have h2 : (sepR g prev w).length ≤ 1 := by rcases sepR_cases g prev w with e | e <;> rw [e] <;> simp
    show (sepR g prev w ++ (w ++ textR g (some w) r)).length ≤ 6 * (r.length + 1)
    rw [List.length_append, List.length_append]
    omega
end K61
end

section
set_option Elab.async false
set_option linter.all false
set_option maxRecDepth 100000
set_option maxHeartbeats 4000000
/-! T4: what is answered, as fractions. -/
namespace K61
open PySem PySem.Spec PyProof.Rows L2 Evl SX
/-- sums of fractions over T -/
structure Parts (T : Nat) (cs : List Cell) : Prop where
  t0 : T ≠ 0
  tb : (T : Int) ≤ 8 * 10 ^ 56
  w : ∀ c ∈ cs, 1 ≤ c.w
  le : (cs.map Cell.w).sum ≤ T
theorem parts_of {ss : List Int} {fam : List (List Int)} {cs : List Cell} (h : okSizes ss) (h2 : okFam fam) (hc : okCells ss fam cs) : Parts (totW cs).toNat cs ∧ ((totW cs).toNat : Int) = totW cs := by
  obtain ⟨t0, t1, l8, l2⟩ := tot_pos h h2 hc
  have e : ((totW cs).toNat : Int) = totW cs := by omega
  exact ⟨⟨by omega, by rw [e]; exact t1, fun c hm => (hc.b c hm).1, by rw [e]; exact Int.le_refl _⟩, e⟩
theorem sum_nn {l : List Cell} {k : Cell → Int} (h : ∀ c ∈ l, 0 ≤ k c) : 0 ≤ (l.map k).sum := by
  induction l with
  | nil => simp
  | cons c l ih =>
    rw [List.map_cons, List.sum_cons]
    have h1 := h c (List.mem_cons_self ..)
    have h2 := ih fun c hm => h c (List.mem_cons_of_mem _ hm)
    omega
theorem sum_mono {l : List Cell} {k m : Cell → Int} (h : ∀ c ∈ l, k c ≤ m c) : (l.map k).sum ≤ (l.map m).sum := by
  induction l with
  | nil => simp
  | cons c l ih =>
    rw [List.map_cons, List.sum_cons, List.map_cons, List.sum_cons]
    have h1 := h c (List.mem_cons_self ..)
    have h2 := ih fun c hm => h c (List.mem_cons_of_mem _ hm)
    omega
theorem filter_sum {l : List Cell} {p : Cell → Bool} {k : Cell → Int} : ((l.filter p).map k).sum = (l.map fun c => if p c then k c else 0).sum := by
  induction l with
  | nil => rfl
  | cons c l ih =>
    rw [List.filter_cons, List.map_cons, List.sum_cons]
    split
    · rw [List.map_cons, List.sum_cons, ih]
    · rw [ih]; omega
theorem take_sum_le {l : List Cell} {k : Cell → Int} (h : ∀ c ∈ l, 0 ≤ k c) (i : Nat) : 0 ≤ ((l.take i).map k).sum ∧ ((l.take i).map k).sum ≤ (l.map k).sum := by
  have e : (l.map k).sum = ((l.take i).map k).sum + ((l.drop i).map k).sum := by
    conv => lhs; rw [← List.take_append_drop i l]
    rw [List.map_append, List.sum_append]
  have h1 := sum_nn (l := l.drop i) fun c hm => h c (List.mem_of_mem_drop hm)
  have h2 := sum_nn (l := l.take i) fun c hm => h c (List.mem_of_mem_take hm)
  omega
theorem small_mk2 {n : Int} {T : Nat} (h0 : 0 ≤ n) (h1 : n ≤ 2 * T) (hT : T ≠ 0) (hb : (T : Int) ≤ 8 * 10 ^ 56) : small (mkRat n T) := by
  have hp : 2 * T < 2 ^ 1000 := by
    have : 2 * (T : Int) < 2 ^ 1000 := Int.lt_of_le_of_lt (b := 2 * (8 * 10 ^ 56)) (by generalize (10 : Int) ^ 56 = z at *; omega) (by decide +kernel)
    have e : ((2 : Int) ^ 1000) = ((2 ^ 1000 : Nat) : Int) := by norm_cast
    rw [e] at this
    omega
  unfold small
  generalize 2 ^ 1000 = B at hp
  rw [Rat.num_mkRat, Rat.den_mkRat, if_neg hT, if_neg hT]
  have h2 := Nat.div_le_self T (T.gcd n.natAbs)
  have h3 : n / ((T.gcd n.natAbs : Nat) : Int) ≤ n := Int.ediv_le_self _ h0
  have h4 : 0 ≤ n / ((T.gcd n.natAbs : Nat) : Int) := Int.ediv_nonneg h0 (by omega)
  exact ⟨by omega, by omega⟩
/-- fractions of numbers k over T add up -/
theorem adds_of {T : Nat} {l : List Cell} {k : Cell → Int} (hT : T ≠ 0) (hb : (T : Int) ≤ 8 * 10 ^ 56) (h0 : ∀ c ∈ l, 0 ≤ k c) (hs : (l.map k).sum ≤ 2 * T) : Adds ((l.map k).map fun n => mkRat n T) ∧ sumR ((l.map k).map fun n => mkRat n T) = mkRat (l.map k).sum T ∧ small (mkRat (l.map k).sum T) := by
  refine ⟨⟨?_, ?_⟩, sum_mk hT _, small_mk2 (sum_nn h0) hs hT hb⟩
  · intro q hq
    obtain ⟨n, hn, rfl⟩ := List.mem_map.mp hq
    obtain ⟨c, hc, rfl⟩ := List.mem_map.mp hn
    have h1 := h0 c hc
    refine small_mk2 h1 ?_ hT hb
    obtain ⟨i, hi, he⟩ := List.mem_iff_getElem.mp hc
    have h2 := (take_sum_le h0 (i + 1)).2
    rw [List.take_succ_eq_append_getElem hi, he, List.map_append, List.sum_append] at h2
    have h3 := (take_sum_le h0 i).1
    simp only [List.map_cons, List.map_nil, List.sum_cons, List.sum_nil] at h2
    omega
  · intro i
    rw [← List.map_take, ← List.map_take, sum_mk hT]
    have := take_sum_le h0 i
    exact small_mk2 this.1 (by omega) hT hb
end K61
end

section
set_option Elab.async false
set_option linter.all false
set_option maxRecDepth 100000
set_option maxHeartbeats 4000000
/-! T5: the answers agree. -/
namespace K61
open PySem PySem.Spec PyProof.Rows L2 Evl SX
theorem mk_div {Tp : Int} {B T : Nat} (hT : T ≠ 0) (hB : B ≠ 0) : mkRat Tp T / mkRat B T = mkRat Tp B := by
  have hne : mkRat (B : Int) T ≠ 0 := by
    rw [Ne, Rat.mkRat_eq_zero hT]
    omega
  have e : mkRat Tp T = mkRat Tp B * mkRat B T := by
    rw [Rat.mkRat_mul_mkRat, Nat.mul_comm B T, Rat.mkRat_mul_right hB]
  rw [e, Rat.div_def, Rat.mul_assoc, Rat.mul_inv_cancel _ hne, Rat.mul_one]
theorem mk_pos {n : Int} {T : Nat} (h : 0 < n) (hT : T ≠ 0) : 0 < (mkRat n T).num := by
  rw [Rat.num_mkRat, if_neg hT]
  have hg : 0 < T.gcd n.natAbs := Nat.gcd_pos_of_pos_left _ (by omega)
  have hd : ((T.gcd n.natAbs : Nat) : Int) ∣ n := Int.ofNat_dvd_left.mpr (Nat.gcd_dvd_right T n.natAbs)
  exact Int.ediv_pos_of_pos_of_dvd h (by omega) hd
/-- one question of the law: what stands below, what on top -/
theorem ask_of {T : Nat} {cs l1 l2 : List Cell} {k2 : Cell → Int} {rows : List Row} {S2 : List Step} {f2 : Row → Bool} {a : Asks} (P : Parts T cs) (hn : rows.length ≤ 1000) (hr : Runs rows S2 f2) (hsm : ∀ r ∈ rows, small r.q)
    (hA : (rows.filter f2).map (·.q) = (l1.map Cell.w).map fun n => mkRat n T) (hT : a.tops (rows.filter f2) = (l2.map k2).map fun n => mkRat n T) (hok : a.ok (rows.filter f2))
    (w1 : ∀ c ∈ l1, 0 ≤ c.w) (s1 : (l1.map Cell.w).sum ≤ T) (w2 : ∀ c ∈ l2, 0 ≤ k2 c) (s2 : (l2.map k2).sum ≤ 2 * T) :
    okAsk rows S2 f2 a ∧ ansD (rows.filter f2) a = dueD (l2.map k2).sum (l1.map Cell.w).sum := by
  obtain ⟨a1, e1, m1⟩ := adds_of (k := Cell.w) P.t0 P.tb w1 (by have := sum_nn (k := Cell.w) w1; omega)
  obtain ⟨a2, e2, m2⟩ := adds_of P.t0 P.tb w2 s2
  have n1 := sum_nn (k := Cell.w) w1
  refine ⟨⟨hn, hr, hsm, hok, by rw [hA]; exact a1, by rw [hT]; exact a2, by rw [hA, e1]; exact m1, by rw [hT, e2]; exact m2, fun h => ?_⟩, ?_⟩
  · rw [hA, e1] at h ⊢
    refine mk_pos ?_ P.t0
    rw [Ne, Rat.mkRat_eq_zero P.t0] at h
    omega
  · unfold ansD dueD
    rw [hA, e1, hT, e2]
    generalize (l1.map Cell.w).sum = B at n1 ⊢
    generalize (l2.map k2).sum = Tp
    by_cases hB : B = 0
    · rw [if_pos (by rw [Rat.mkRat_eq_zero P.t0]; exact hB), if_neg (by omega)]
    · rw [if_neg (by rw [Rat.mkRat_eq_zero P.t0]; exact hB), if_pos (by omega), fr_rt (by omega)]
      obtain ⟨b, rfl⟩ : ∃ b : Nat, B = b := ⟨B.toNat, by omega⟩
      rw [mk_div P.t0 (by omega), Int.toNat_natCast]
def fR (x : Deep) (r : Row) : Bool := x.so (x.f r.ws r.ns)
theorem fR_row {x : Deep} {T : Int} {c : Cell} : fR x (rowC T c) = soC x c := rfl
theorem filter_rows {cs : List Cell} {T : Int} {f : Row → Bool} : (cs.map (rowC T)).filter f = (cs.filter fun c => f (rowC T c)).map (rowC T) := by
  rw [List.filter_map]
  rfl
theorem rows_q {l : List Cell} {T : Int} : (l.map (rowC T)).map (·.q) = (l.map Cell.w).map fun n => mkRat n T.toNat := by
  rw [List.map_map, List.map_map]
  rfl
section
variable {ss : List Int} {fam : List (List Int)} {cs : List Cell} {x : Deep} {S2 : List Step}
theorem runs_yes {rows : List Row} : Runs rows [.atom .yes] fun _ => true := ⟨by simp, fun r _ s hs => by simp at hs; subst hs; trivial, fun r _ => rfl⟩
theorem filt_true {l : List Cell} : (l.filter fun _ => true) = l := List.filter_eq_self.mpr fun _ _ => rfl
theorem sum_sub {l : List Cell} {p : Cell → Bool} (h : ∀ c ∈ l, 1 ≤ c.w) : ((l.filter p).map Cell.w).sum ≤ (l.map Cell.w).sum := by
  rw [filter_sum]
  refine sum_mono fun c hc => ?_
  split
  · exact Int.le_refl _
  · have := h c hc; omega
/-- share -/
theorem ask0 (h : okSizes ss) (h2 : okFam fam) (hc : okCells ss fam cs) (hr : Runs (rowsC cs) S2 (fR x)) : okAsk (rowsC cs) [.atom .yes] (fun _ => true) (.share S2 (fR x)) ∧ ansD ((rowsC cs).filter fun _ => true) (.share S2 (fR x)) = dueD (topS x 0 cs) (botS x 0 cs) := by
  obtain ⟨P, eT⟩ := parts_of h h2 hc
  obtain ⟨sh, _⟩ := sh_all ss fam cs h h2 hc
  have et : topS x 0 cs = ((cs.filter (soC x)).map Cell.w).sum := by
    rw [filter_sum]
    unfold topS
    congr 1
    refine List.map_congr_left fun c _ => ?_
    unfold topC facC
    split <;> simp
  have eb : botS x 0 cs = (cs.map Cell.w).sum := by
    unfold botS
    congr 1
    refine List.map_congr_left fun c _ => ?_
    unfold botC
    simp
  rw [et, eb]
  have hw : ∀ c ∈ cs, 0 ≤ c.w := fun c hm => by have := P.w c hm; omega
  refine ask_of (l1 := cs) (l2 := cs.filter (soC x)) (k2 := Cell.w) P (by have := sh.n; omega) runs_yes sh.sm ?_ ?_ ?_ hw P.le (fun c hm => hw c (List.mem_filter.mp hm).1) ?_
  · unfold rowsC
    rw [filter_rows, filt_true, rows_q]
  · show (((rowsC cs).filter fun _ => true).filter (fR x)).map (·.q) = _
    unfold rowsC
    rw [filter_rows, filt_true, filter_rows, rows_q]
    rfl
  · show Runs ((rowsC cs).filter fun _ => true) S2 (fR x)
    rw [List.filter_eq_self.mpr fun _ _ => rfl]
    exact hr
  · have := sum_sub (p := soC x) P.w
    have := P.le
    have := sum_nn (l := cs) (k := Cell.w) hw
    omega
theorem eb12 {kq : Nat} (hk : kq ≠ 0) : botS x kq cs = ((cs.filter (soC x)).map Cell.w).sum := by
  rw [filter_sum]
  unfold botS
  congr 1
  refine List.map_congr_left fun c _ => ?_
  unfold botC
  cases soC x c
  · simp [hk]
  · simp
def f00 (r : Row) : Bool := decide (r.ws[0]? = some 0)
theorem f00_cell {T : Int} {c : Cell} (h : 0 < c.ws.length) : f00 (rowC T c) = decide (c.ws.headD 0 = 0) := by
  unfold f00
  show decide (c.ws[0]? = some 0) = _
  have : ∀ l : List Int, 0 < l.length → decide (l[0]? = some 0) = decide (l.headD 0 = 0) := fun l hl => by
    cases l with
    | nil => simp at hl
    | cons a l => simp
  exact this _ h
/-- share of what stands at 0 -/
theorem ask1 (h : okSizes ss) (h2 : okFam fam) (hc : okCells ss fam cs) (hr : Runs (rowsC cs) S2 (fR x)) : okAsk (rowsC cs) S2 (fR x) (.share [.atom (.worth 0 0)] f00) ∧ ansD ((rowsC cs).filter (fR x)) (.share [.atom (.worth 0 0)] f00) = dueD (topS x 1 cs) (botS x 1 cs) := by
  obtain ⟨P, eT⟩ := parts_of h h2 hc
  obtain ⟨sh, _⟩ := sh_all ss fam cs h h2 hc
  have hl : ∀ c ∈ cs, 0 < c.ws.length := fun c hm => by
    rw [(cell_in h h2 hc hm).1]
    rcases h with rfl | rfl | rfl <;> decide
  have et : topS x 1 cs = (((cs.filter (soC x)).filter fun c => f00 (rowC (totW cs) c)).map Cell.w).sum := by
    rw [List.filter_filter, filter_sum]
    unfold topS
    congr 1
    refine List.map_congr_left fun c hm => ?_
    rw [f00_cell (hl c hm)]
    unfold topC facC
    cases soC x c
    · simp
    · simp only [if_true, Bool.true_and, Bool.and_true]
      by_cases hz : c.ws.headD 0 = 0
      · rw [if_pos hz, if_pos (by simpa using hz), Int.mul_one]
      · rw [if_neg hz, if_neg (by simpa using hz), Int.mul_zero]
  rw [et, eb12 (by omega)]
  have hw : ∀ c ∈ cs, 0 ≤ c.w := fun c hm => by have := P.w c hm; omega
  have hw1 : ∀ c ∈ cs.filter (soC x), 1 ≤ c.w := fun c hm => P.w c (List.mem_filter.mp hm).1
  have s1 := sum_sub (p := soC x) P.w
  have hA : (rowsC cs).filter (fR x) = (cs.filter (soC x)).map (rowC (totW cs)) := by
    unfold rowsC
    rw [filter_rows]
    rfl
  have hPl := P.le
  refine ask_of (l1 := cs.filter (soC x)) (l2 := (cs.filter (soC x)).filter fun c => f00 (rowC (totW cs) c)) (k2 := Cell.w) P (by have := sh.n; omega) hr sh.sm ?_ ?_ ?_ (fun c hm => hw c (List.mem_filter.mp hm).1) (by omega) (fun c hm => hw c (List.mem_filter.mp (List.mem_filter.mp hm).1).1) ?_
  · rw [hA, rows_q]
  · show (((rowsC cs).filter (fR x)).filter f00).map (·.q) = _
    rw [hA, filter_rows, rows_q]
  · show Runs ((rowsC cs).filter (fR x)) [.atom (.worth 0 0)] f00
    rw [hA]
    refine ⟨by simp, fun r hr s hs => ?_, fun r _ => rfl⟩
    simp at hs
    subst hs
    obtain ⟨c, hm, rfl⟩ := List.mem_map.mp hr
    exact hl c (List.mem_filter.mp hm).1
  · have := sum_sub (p := fun c => f00 (rowC (totW cs) c)) hw1
    have := sum_nn (l := cs) (k := Cell.w) hw
    omega
/-- mean -/
theorem ask2 (h : okSizes ss) (h2 : okFam fam) (hc : okCells ss fam cs) (hr : Runs (rowsC cs) S2 (fR x)) : okAsk (rowsC cs) S2 (fR x) (.mean 0) ∧ ansD ((rowsC cs).filter (fR x)) (.mean 0) = dueD (topS x 2 cs) (botS x 2 cs) := by
  obtain ⟨P, eT⟩ := parts_of h h2 hc
  obtain ⟨sh, _⟩ := sh_all ss fam cs h h2 hc
  have hl : ∀ c ∈ cs, 0 < c.ws.length ∧ 0 ≤ c.ws.headD 0 ∧ c.ws.headD 0 ≤ 2 := fun c hm => by
    have := cell_in h h2 hc hm
    refine ⟨?_, this.2⟩
    rw [this.1]
    rcases h with rfl | rfl | rfl <;> decide
  have et : topS x 2 cs = ((cs.filter (soC x)).map fun c => c.w * c.ws.headD 0).sum := by
    rw [filter_sum]
    rfl
  rw [et, eb12 (by omega)]
  have hw : ∀ c ∈ cs, 0 ≤ c.w := fun c hm => by have := P.w c hm; omega
  have hw1 : ∀ c ∈ cs.filter (soC x), 1 ≤ c.w := fun c hm => P.w c (List.mem_filter.mp hm).1
  have s1 := sum_sub (p := soC x) P.w
  have hA : (rowsC cs).filter (fR x) = (cs.filter (soC x)).map (rowC (totW cs)) := by
    unfold rowsC
    rw [filter_rows]
    rfl
  have hPl := P.le
  refine ask_of (l1 := cs.filter (soC x)) (l2 := cs.filter (soC x)) (k2 := fun c => c.w * c.ws.headD 0) P (by have := sh.n; omega) hr sh.sm ?_ ?_ ?_ (fun c hm => hw c (List.mem_filter.mp hm).1) (by omega) (fun c hm => ?_) ?_
  · rw [hA, rows_q]
  · show ((rowsC cs).filter (fR x)).map (fun r => ((r.ws.getD 0 0 : Int) : Rat) * r.q) = _
    rw [hA, List.map_map, List.map_map]
    refine List.map_congr_left fun c _ => ?_
    show ((c.ws.getD 0 0 : Int) : Rat) * mkRat c.w (totW cs).toNat = mkRat (c.w * c.ws.headD 0) (totW cs).toNat
    have e : c.ws.getD 0 0 = c.ws.headD 0 := by cases c.ws <;> rfl
    rw [e]
    have e2 : ((c.ws.headD 0 : Int) : Rat) = mkRat (c.ws.headD 0) 1 := (Rat.mkRat_one (c.ws.headD 0)).symm
    rw [e2, Rat.mkRat_mul_mkRat, Nat.one_mul, Int.mul_comm]
  · show ∀ r ∈ (rowsC cs).filter (fR x), 0 < r.ws.length ∧ small ((r.ws.getD 0 0 : Int) : Rat)
    rw [hA]
    intro r hr
    obtain ⟨c, hm, rfl⟩ := List.mem_map.mp hr
    have hcl := hl c (List.mem_filter.mp hm).1
    refine ⟨hcl.1, ?_⟩
    show small ((c.ws.getD 0 0 : Int) : Rat)
    have e : c.ws.getD 0 0 = c.ws.headD 0 := by cases c.ws <;> rfl
    rw [e]
    refine ⟨?_, ?_⟩
    · show (c.ws.headD 0).natAbs < _
      have : (c.ws.headD 0).natAbs ≤ 2 := by omega
      exact Nat.lt_of_le_of_lt this (by decide +kernel)
    · show 1 < _
      decide +kernel
  · have := hl c (List.mem_filter.mp hm).1
    exact Int.mul_nonneg (hw c (List.mem_filter.mp hm).1) this.2.1
  · have h3 : ((cs.filter (soC x)).map fun c => c.w * c.ws.headD 0).sum ≤ ((cs.filter (soC x)).map fun c => 2 * c.w).sum := sum_mono fun c hm => by
      have h4 := hl c (List.mem_filter.mp hm).1
      have h5 := hw1 c hm
      have := Int.mul_le_mul_of_nonneg_left h4.2.2 (show 0 ≤ c.w by omega)
      omega
    have h6 : ∀ l : List Cell, (l.map fun c => 2 * c.w).sum = 2 * (l.map Cell.w).sum := by
      intro l
      induction l with
      | nil => rfl
      | cons a l ih => rw [List.map_cons, List.sum_cons, List.map_cons, List.sum_cons, ih]; omega
    rw [h6] at h3
    omega
end
end K61
end

section
set_option Elab.async false
set_option linter.all false
set_option maxRecDepth 100000
set_option maxHeartbeats 4000000
/-! T6: the three texts are read as the law tells. -/
namespace K61
open PySem PySem.Spec PyProof.Rows L2 Evl SX
/-! words are fit for a text -/
def wokB (w : List Nat) : Bool := ((w == [40] || w == [41]) && par (S w)) || (!w.isEmpty && w.all (fun c => !(c == 32 || c == 40 || c == 41)) && !par (S w))
theorem wok_of {w : List Nat} (h : wokB w = true) : Wok w := by
  unfold wokB at h
  rw [Bool.or_eq_true] at h
  rcases h with h | h
  · rw [Bool.and_eq_true, Bool.or_eq_true] at h
    left
    refine ⟨?_, h.2⟩
    rcases h.1 with h | h
    · exact .inl (eq_of_beq h)
    · exact .inr (eq_of_beq h)
  · rw [Bool.and_eq_true, Bool.and_eq_true] at h
    obtain ⟨⟨h1, h2⟩, h3⟩ := h
    right
    refine ⟨fun z => by subst z; simp at h1, fun c hc hs => ?_, by simpa using h3⟩
    have := List.all_eq_true.mp h2 c hc
    rcases hs with rfl | rfl | rfl <;> simp at this
theorem tokB {ss : List Int} {t : Tok} (h : okSizes ss) (ht : t.ok ss) : wokB (tokC t) = true ∧ (tokC t).length ≤ 5 := by
  have hl : ss.length ≤ 2 := by rcases h with rfl | rfl | rfl <;> decide
  cases t with
  | lp => decide +kernel
  | rp => decide +kernel
  | not => decide +kernel
  | and => decide +kernel
  | or => decide +kernel
  | atom a =>
    cases a with
    | yes => decide +kernel
    | no => decide +kernel
    | blank k =>
      have hk : k < ss.length := ht
      have hk : k < 2 := by omega
      match k, hk with
      | 0, _ => decide +kernel
      | 1, _ => decide +kernel
    | worth k v =>
      obtain ⟨s, hs, hv⟩ := ht
      obtain ⟨hk, hks⟩ := List.getElem?_eq_some_iff.mp hs
      have hk : k < 2 := by omega
      have hv : v < 3 := by have := h.mem (List.mem_of_getElem? hs); omega
      match k, hk, v, hv with
      | 0, _, 0, _ => decide +kernel
      | 0, _, 1, _ => decide +kernel
      | 0, _, 2, _ => decide +kernel
      | 1, _, 0, _ => decide +kernel
      | 1, _, 1, _ => decide +kernel
      | 1, _, 2, _ => decide +kernel
theorem qwB {kq : Nat} : ∀ w ∈ qwC kq, wokB w = true ∧ w.length ≤ 5 := by
  unfold qwC
  split
  · decide +kernel
  · decide +kernel
  · decide +kernel
theorem atom_ok {ss : List Int} {x : Deep} (h : x.ok ss) (i : Nat) : (x.atom i).ok ss := by
  have hm : i % x.atoms.length < x.atoms.length := Nat.mod_lt _ (by have := h.a; omega)
  unfold Deep.atom
  rw [List.getD_eq_getElem?_getD, List.getElem?_eq_getElem hm]
  exact h.oks _ (List.getElem_mem hm)
theorem jT_ok {ss : List Int} {b : Bool} : (jT b).ok ss := by cases b <;> trivial
theorem toks_ok {ss : List Int} {x : Deep} (h : x.ok ss) : ∀ t ∈ x.toks, t.ok ss := by
  have hr : ∀ (n : Nat) (u t : Tok), u.ok ss → t ∈ List.replicate n u → t.ok ss := fun n u t hu ht => by rw [(List.mem_replicate.mp ht).2]; exact hu
  have ha : ∀ i (t : Tok), t ∈ [Tok.atom (x.atom i)] → t.ok ss := fun i t ht => by rw [List.mem_singleton.mp ht]; exact atom_ok h i
  have hf : ∀ t ∈ x.front, t.ok ss := by
    intro t ht
    unfold Deep.front at ht
    rcases List.mem_append.mp ht with ht | ht
    · split at ht
      · exact hr _ .lp t trivial ht
      · cases ht
    · exact ha 0 t ht
  have htn : ∀ i, ∀ t ∈ x.turn i, t.ok ss := by
    intro i t ht
    unfold Deep.turn at ht
    rcases List.mem_append.mp ht with ht | ht
    · rcases List.mem_append.mp ht with ht | ht
      · rcases List.mem_append.mp ht with ht | ht
        · rw [List.mem_singleton.mp ht]; exact jT_ok
        · split at ht
          · rw [List.mem_singleton.mp ht]; trivial
          · cases ht
      · exact ha _ t ht
    · split at ht
      · rw [List.mem_singleton.mp ht]; trivial
      · cases ht
  intro t ht
  unfold Deep.toks at ht
  split at ht
  · rcases List.mem_append.mp ht with ht | ht
    · exact hr _ .not t trivial ht
    · exact ha 0 t ht
  · split at ht
    · rcases List.mem_append.mp ht with ht | ht
      · rcases List.mem_append.mp ht with ht | ht
        · exact hr _ .lp t trivial ht
        · exact ha 0 t ht
      · exact hr _ .rp t trivial ht
    · split at ht
      · rcases List.mem_append.mp ht with ht | ht
        · rcases List.mem_append.mp ht with ht | ht
          · obtain ⟨l, hl, htl⟩ := List.mem_flatten.mp ht
            rw [(List.mem_replicate.mp hl).2] at htl
            rcases List.mem_cons.mp htl with rfl | htl
            · trivial
            · rw [List.mem_singleton.mp htl]; trivial
          · exact ha 0 t ht
        · exact hr _ .rp t trivial ht
      · rcases List.mem_append.mp ht with ht | ht
        · rcases List.mem_append.mp ht with ht | ht
          · exact hf t ht
          · obtain ⟨i, _, hti⟩ := List.mem_flatMap.mp ht
            exact htn i t hti
        · split at ht
          · exact hr _ .rp t trivial ht
          · cases ht
/-! the steps -/
def GoodS (ss : List Int) : Step → Prop
  | .atom a => a.ok ss
  | _ => True
theorem gw_good {ss : List Int} {b : Int} : ∀ (ws : List Op) (st : List Step), (∀ s ∈ st, GoodS ss s) → ∀ s ∈ (gw b ws st).2, GoodS ss s
  | [], st, h => h
  | o :: ws, st, h => by
    unfold gw
    split
    · refine gw_good ws _ fun s hs => ?_
      rcases List.mem_append.mp hs with hs | hs
      · exact h s hs
      · rw [List.mem_singleton.mp hs]
        cases o <;> trivial
    · exact h
theorem take_good {ss : List Int} {t : Tok} {r r' : RS} (ht : t.ok ss) (h : takeR t r = some r') (hg : ∀ s ∈ r.st, GoodS ss s) : ∀ s ∈ r'.st, GoodS ss s := by
  have g := fun b => gw_good (ss := ss) (b := b) r.ws r.st hg
  unfold takeR at h
  split at h
  · cases t with
    | lp => cases h; exact hg
    | not => cases h; exact hg
    | atom a =>
      cases h
      intro s hs
      rcases List.mem_append.mp hs with hs | hs
      · exact hg s hs
      · rw [List.mem_singleton.mp hs]; exact ht
    | rp => cases h
    | and => cases h
    | or => cases h
  · cases t with
    | and => cases h; exact g 2
    | or => cases h; exact g 1
    | rp =>
      simp only at h
      split at h
      · cases h; exact g 0
      · cases h
    | lp => cases h
    | not => cases h
    | atom a => cases h
theorem run_good {ss : List Int} : ∀ (l : List Tok) (r r' : RS), (∀ t ∈ l, t.ok ss) → runT l r = some r' → (∀ s ∈ r.st, GoodS ss s) → (∀ s ∈ r'.st, GoodS ss s) ∧ r'.st.length + r'.ws.length ≤ r.st.length + r.ws.length + l.length
  | [], r, r', _, h, hg => by cases h; exact ⟨hg, Nat.le_refl _⟩
  | t :: l, r, r', ht, h, hg => by
    unfold runT at h
    cases e : takeR t r with
    | none => rw [e] at h; cases h
    | some r1 =>
      rw [e] at h
      have g1 := take_good (ht t (List.mem_cons_self ..)) e hg
      have l1 := takeR_len e
      obtain ⟨g2, l2⟩ := run_good l r1 r' (fun t h => ht t (List.mem_cons_of_mem _ h)) h g1
      refine ⟨g2, ?_⟩
      rw [List.length_cons]
      omega
end K61
end

section
set_option Elab.async false
set_option linter.all false
set_option maxRecDepth 100000
set_option maxHeartbeats 4000000
/-! T7: PLall. -/
namespace K61
open PySem PySem.Spec PyProof.Rows L2 Evl SX
theorem runs_of {ss : List Int} {fam : List (List Int)} {cs : List Cell} {x : Deep} {r : RS} (h : okSizes ss) (h2 : okFam fam) (hc : okCells ss fam cs) (hx : x.ok ss) (hr : runT x.toks r00 = some r) (he : ∀ f : Atom → Bool, exec f (gw 0 r.ws r.st).2 [] = some [x.so fun i => f (x.atom i)]) : Runs (rowsC cs) (gw 0 r.ws r.st).2 (fR x) := by
  obtain ⟨g1, l1⟩ := run_good (ss := ss) x.toks r00 r (toks_ok hx) hr (by simp [r00])
  have hl := toks_len hx
  have gl := gw_len (b := 0) r.ws r.st
  refine ⟨?_, ?_, fun r _ => he _⟩
  · have : r00.st.length + r00.ws.length = 0 := rfl
    omega
  · intro rw' hrw s hs
    obtain ⟨c, hm, rfl⟩ := List.mem_map.mp hrw
    have := gw_good (b := 0) r.ws r.st g1 s hs
    cases s with
    | atom a =>
      cases a with
      | worth k v =>
        obtain ⟨z, hz, _⟩ := this
        have := (List.getElem?_eq_some_iff.mp hz).1
        have := (cell_in h h2 hc hm).1
        show k < c.ws.length
        omega
      | yes => trivial
      | no => trivial
      | blank k => trivial
    | not => trivial
    | and => trivial
    | or => trivial
/-- the reading of placed words -/
theorem runE_go {first : Bool} {len : Int} {rest : List (Nat × Wrd)} : ∀ (L : List Tok) (ws : List (Nat × Wrd)) (r r' : RS) (i : Nat), ws.map (·.2) = L.map some → runT L r = some r' → runE first len (ws ++ rest) r i = runE first len rest r' (i + L.length)
  | [], ws, r, r', i, hw, h => by
    have : ws = [] := by simpa using hw
    subst this
    cases h
    rfl
  | t :: L, [], r, r', i, hw, h => by simp at hw
  | t :: L, (p, w) :: ws, r, r', i, hw, h => by
    rw [List.map_cons, List.map_cons] at hw
    injection hw with hw1 hw2
    have hw1 : w = some t := hw1
    subst hw1
    unfold runT at h
    cases e : takeR t r with
    | none => rw [e] at h; cases h
    | some r1 =>
      rw [e] at h
      show (match takeR t r with | some r' => runE first len (ws ++ rest) r' (i + 1) | none => _) = _
      rw [e]
      show runE first len (ws ++ rest) r1 (i + 1) = _
      rw [runE_go L ws r1 r' (i + 1) hw2 h, List.length_cons]
      congr 1
      omega
/-- places for words -/
def wrdC : Wrd → List Nat
  | none => [105, 102]
  | some t => tokC t
theorem wrdC_s {w : Wrd} : S (wrdC w) = w.s := by
  cases w with
  | none => rfl
  | some t => exact tokC_s
theorem place_w {g : Bool} : ∀ (l : List Wrd) (q : List (Nat × List Nat)), q.map (·.2) = l.map wrdC → ∃ ws : List (Nat × Wrd), q.map (fun q => (q.1, S q.2)) = ws.map pl ∧ ws.map (·.2) = l ∧ ws.map (·.1) = q.map (·.1)
  | [], q, h => by
    have : q = [] := by simpa using h
    subst this
    exact ⟨[], rfl, rfl, rfl⟩
  | w :: l, [], h => by simp at h
  | w :: l, (p, u) :: q, h => by
    rw [List.map_cons, List.map_cons] at h
    injection h with h1 h2
    have h1 : u = wrdC w := h1
    obtain ⟨ws, a, b, c⟩ := place_w (g := g) l q h2
    refine ⟨(p, w) :: ws, ?_, ?_, ?_⟩
    · rw [List.map_cons, a, List.map_cons, h1, wrdC_s]; rfl
    · rw [List.map_cons, b]
    · rw [List.map_cons, c, List.map_cons]
/-- a text of fit words is read as its words are -/
theorem mk_text {ss : List Int} {rows : List Row} {g : Bool} {W : List (List Nat)} {out : OutQ} {t : Told} (h : okSizes ss) (hW : ∀ w ∈ W, wokB w = true ∧ w.length ≤ 5) (hl : W.length ≤ 15100)
    (ho : match out with
    | .ok ask S2 => ∃ f2, okAsk rows S2 f2 ask ∧ t = .told (ansD (rows.filter f2) ask)
    | .bad n => t = .bad n) (hp : Parse ss ((textI g W).length : Nat) ((placeR g none 0 W).map fun q => (q.1, S q.2)) out) : okText ss rows (textI g W) t := by
  have hs := seg_words (g := g) (W := W) fun w hw => wok_of (hW w hw).1
  have htl := text_len (g := g) (W := W) (prev := none) fun w hw => (hW w hw).2
  rw [← textI_eq] at htl
  exact ⟨h, by omega, _, _, out, hs.1, hs.2, by rw [List.length_map, place_len]; omega, hp, ho⟩
/-- the words of a question and of what is asked -/
theorem split_q {g : Bool} {kq : Nat} (hk : kq < 3) (L : List Tok) : ∃ (p0 p1 p2 : Nat) (ws : List (Nat × Wrd)), ws.map (·.2) = L.map some ∧
    ((placeR g none 0 (qwC kq ++ L.map tokC)).map fun q => (q.1, S q.2)) = (match kq with
      | 0 => (p0, ("share" : Str)) :: ws.map pl
      | 1 => (p0, ("share" : Str)) :: ([(p1, (some (.atom (.worth 0 0)) : Wrd))] ++ (p2, none) :: ws).map pl
      | _ => (p0, ("mean" : Str)) :: (p1, S [99, 48 + 0]) :: (p2, ("if" : Str)) :: ws.map pl) ∧
    ∀ L', L = L' ++ [.rp] → ∃ ws', ws = ws' ++ [((textI g (qwC kq ++ L.map tokC)).length - 1, some .rp)] ∧ ws'.map (·.2) = L'.map some := by
  have hlast : ∀ L', L = L' ++ [.rp] → ∃ l, placeR g none 0 (qwC kq ++ L.map tokC) = l ++ [((textI g (qwC kq ++ L.map tokC)).length - 1, [41])] := by
    rintro L' rfl
    obtain ⟨l, h1, _⟩ := place_last g [41] (qwC kq ++ L'.map tokC) none 0
    have e : qwC kq ++ L'.map tokC ++ [[41]] = qwC kq ++ (L' ++ [Tok.rp]).map tokC := by rw [List.map_append, List.append_assoc]; rfl
    rw [e] at h1
    refine ⟨l, ?_⟩
    rw [h1, Nat.zero_add, textI_eq]
    rfl
  have hsnd := place_snd g (qwC kq ++ L.map tokC) none 0
  generalize textI g (qwC kq ++ L.map tokC) = tx at hlast ⊢
  generalize placeR g none 0 (qwC kq ++ L.map tokC) = Q at hlast hsnd ⊢
  -- the rest's places
  have rest : ∀ q : List (Nat × List Nat), q.map (·.2) = L.map tokC → ∃ ws : List (Nat × Wrd), ws.map (·.2) = L.map some ∧ q.map (fun q => (q.1, S q.2)) = ws.map pl ∧ ws.map (·.1) = q.map (·.1) := by
    intro q hq
    obtain ⟨ws, a, b, c⟩ := place_w (g := g) (L.map some) q (by rw [hq, List.map_map]; rfl)
    exact ⟨ws, b, a, c⟩
  have lastw : ∀ (pre q : List (Nat × List Nat)) (ws : List (Nat × Wrd)), Q = pre ++ q → ws.map (·.2) = L.map some → ws.map (·.1) = q.map (·.1) → ∀ L', L = L' ++ [.rp] → ∃ ws', ws = ws' ++ [(tx.length - 1, some .rp)] ∧ ws'.map (·.2) = L'.map some := by
    intro pre q ws hQ h1 h2 L' hL
    obtain ⟨l, hl⟩ := hlast L' hL
    subst hL
    rw [List.map_append] at h1
    obtain ⟨w1, w2, rfl, e1, e2⟩ := List.map_eq_append_iff.mp h1
    obtain ⟨z, w3, rfl, e3, e4⟩ := List.map_eq_cons_iff.mp e2
    have : w3 = [] := by simpa using e4
    subst this
    refine ⟨w1, ?_, e1⟩
    congr 2
    have hz : z.1 = tx.length - 1 := by
      have a : ((w1 ++ [z]).map (·.1)).getLast? = some z.1 := by simp
      rw [h2] at a
      have b : (Q.map (·.1)).getLast? = some (tx.length - 1) := by rw [hl]; simp
      rw [hQ, List.map_append, List.getLast?_append, a] at b
      simpa using b
    exact Prod.ext hz e3
  match kq, hk with
  | 0, _ =>
    match Q, hsnd, lastw with
    | (p0, u) :: q, hsnd, lastw =>
      injection hsnd with h1 h2
      have h1 : u = [115, 104, 97, 114, 101] := h1
      obtain ⟨ws, a, b, c⟩ := rest q h2
      exact ⟨p0, 0, 0, ws, a, by rw [List.map_cons, b, h1]; rfl, lastw [(p0, u)] q ws rfl a c⟩
  | 1, _ =>
    match Q, hsnd, lastw with
    | (p0, u) :: (p1, u1) :: (p2, u2) :: q, hsnd, lastw =>
      injection hsnd with h1 h2
      injection h2 with h3 h4
      injection h4 with h5 h6
      have h1 : u = [115, 104, 97, 114, 101] := h1
      have h3 : u1 = [99, 48, 61, 48] := h3
      have h5 : u2 = [105, 102] := h5
      obtain ⟨ws, a, b, c⟩ := rest q h6
      exact ⟨p0, p1, p2, ws, a, by rw [List.map_cons, List.map_cons, List.map_cons, b, h1, h3, h5]; rfl, lastw [(p0, u), (p1, u1), (p2, u2)] q ws rfl a c⟩
  | 2, _ =>
    match Q, hsnd, lastw with
    | (p0, u) :: (p1, u1) :: (p2, u2) :: q, hsnd, lastw =>
      injection hsnd with h1 h2
      injection h2 with h3 h4
      injection h4 with h5 h6
      have h1 : u = [109, 101, 97, 110] := h1
      have h3 : u1 = [99, 48] := h3
      have h5 : u2 = [105, 102] := h5
      obtain ⟨ws, a, b, c⟩ := rest q h6
      exact ⟨p0, p1, p2, ws, a, by rw [List.map_cons, List.map_cons, List.map_cons, b, h1, h3, h5]; rfl, lastw [(p0, u), (p1, u1), (p2, u2)] q ws rfl a c⟩
end K61
end

section
set_option Elab.async false
set_option linter.all false
set_option maxRecDepth 100000
set_option maxHeartbeats 4000000
/-! T8: PLall. -/
namespace K61
open PySem PySem.Spec PyProof.Rows L2 Evl SX
theorem w00_ok {ss : List Int} (h : okSizes ss) : (Tok.atom (.worth 0 0)).ok ss := by
  rcases h with rfl | rfl | rfl <;> exact ⟨_, rfl, by decide⟩
theorem q1_run {len : Int} {p1 p2 : Nat} {ws : List (Nat × Wrd)} : runE true len ([(p1, (some (.atom (.worth 0 0)) : Wrd))] ++ (p2, none) :: ws) r00 0 = some (.ok [.atom (.worth 0 0)] 1) := rfl
theorem ws_ok {ss : List Int} {L : List Tok} {ws : List (Nat × Wrd)} (h : ws.map (·.2) = L.map some) (hL : ∀ t ∈ L, t.ok ss) : ∀ p ∈ ws, ∀ t, p.2 = some t → t.ok ss := by
  intro p hp t ht
  have : p.2 ∈ ws.map (·.2) := List.mem_map_of_mem hp
  rw [h, ht] at this
  obtain ⟨u, hu, e⟩ := List.mem_map.mp this
  cases e
  exact hL _ hu
theorem ss_pos {ss : List Int} (h : okSizes ss) : 0 < ss.length := by rcases h with rfl | rfl | rfl <;> decide
theorem runE_rp {first : Bool} {len : Int} {p i : Nat} {r : RS} (h1 : r.b = false) (h2 : r.ws.contains .lp = false) : runE first len [(p, (some .rp : Wrd))] r i = some (.bad (p : Nat)) := by
  have ht : takeR .rp r = none := by
    unfold takeR
    rw [h1, h2]
    rfl
  show (match takeR .rp r with | some r' => runE first len [] r' (i + 1) | none => if r.b = false ∧ Tok.rp = Tok.rp ∧ r.ws.contains .lp = false then some (Out.bad (p : Nat)) else none) = _
  rw [ht]
  exact if_pos ⟨h1, rfl, h2⟩
theorem text_pos {g : Bool} {kq : Nat} (hk : kq < 3) (M : List (List Nat)) : 0 < (textI g (qwC kq ++ M)).length := by
  rw [textI_eq]
  match kq, hk with
  | 0, _ =>
    show 0 < (_ ++ ([115, 104, 97, 114, 101] ++ _)).length
    simp
    omega
  | 1, _ =>
    show 0 < (_ ++ ([115, 104, 97, 114, 101] ++ _)).length
    simp
    omega
  | 2, _ =>
    show 0 < (_ ++ ([109, 101, 97, 110] ++ _)).length
    simp
    omega
/-- a harmed text -/
theorem bad_text {ss : List Int} {rows : List Row} {g : Bool} {kq : Nat} {L : List Tok} {n : Int} (h : okSizes ss) (hk : kq < 3) (hL : ∀ t ∈ L, t.ok ss) (hl : L.length ≤ 15011)
    (hrun : ∀ first (ws : List (Nat × Wrd)), ws.map (·.2) = L.map some → (∀ L', L = L' ++ [.rp] → ∃ ws', ws = ws' ++ [((textI g (qwC kq ++ L.map tokC)).length - 1, some .rp)] ∧ ws'.map (·.2) = L'.map some) → runE first ((textI g (qwC kq ++ L.map tokC)).length : Nat) ws r00 0 = some (.bad n)) :
    okText ss rows (textI g (qwC kq ++ L.map tokC)) (.bad n) := by
  obtain ⟨p0, p1, p2, ws, a, b, c⟩ := split_q (g := g) hk L
  have hok := ws_ok a hL
  have hr := fun first => hrun first ws a c
  refine mk_text (out := .bad n) h ?_ ?_ rfl ?_
  · intro w hw
    rcases List.mem_append.mp hw with hw | hw
    · exact qwB w hw
    · obtain ⟨t, ht, rfl⟩ := List.mem_map.mp hw
      exact tokB h (hL t ht)
  · rw [List.length_append, List.length_map]
    have : (qwC kq).length ≤ 3 := by unfold qwC; split <;> decide
    omega
  · rw [b]
    match kq, hk with
    | 0, _ => exact .shareBad (hr true) hok
    | 1, _ => exact .twoBad q1_run (fun p hp t ht => by
        rcases List.mem_append.mp hp with hp | hp
        · rw [List.mem_singleton.mp hp] at ht
          cases ht
          exact w00_ok h
        · exact hok p hp t ht) (hr false)
    | 2, _ => exact .meanBad (ss_pos h) (by decide) hok (hr false)
theorem pl_all : PLall := by
  intro ss fam cs x kq g h h2 hc hx hk
  obtain ⟨⟨r, hr1, hr2, hr3⟩, ⟨rs, hs1, hs2⟩⟩ := reads_all hx
  have hruns := runs_of h h2 hc hx hr1 hr3
  have htok := toks_ok hx
  have htl := toks_len hx
  have hne : x.toks ≠ [] := by
    intro z
    rw [z] at hr1
    cases hr1
    revert hr2
    decide
  refine ⟨?_, ?_, ?_⟩
  · obtain ⟨p0, p1, p2, ws, a, b, c⟩ := split_q (g := g) hk x.toks
    have hok := ws_ok a htok
    have hwl : ws.length = x.toks.length := by
      have := congrArg List.length a
      rwa [List.length_map, List.length_map] at this
    have hr : ∀ first len, runE first len ws r00 0 = some (.ok (gw 0 r.ws r.st).2 ws.length) := by
      intro first len
      have := runE_go (first := first) (len := len) (rest := []) x.toks ws r00 r 0 a hr1
      rw [List.append_nil] at this
      rw [this, hwl, Nat.zero_add]
      show some (if r.whole then _ else _) = _
      rw [hr2]
      rfl
    have fit : ∀ w ∈ wordsC x kq, wokB w = true ∧ w.length ≤ 5 := by
      intro w hw
      rcases List.mem_append.mp hw with hw | hw
      · exact qwB w hw
      · obtain ⟨t, ht, rfl⟩ := List.mem_map.mp hw
        exact tokB h (htok t ht)
    have hlen : (wordsC x kq).length ≤ 15100 := by have := words_len (kq := kq) hx; omega
    match kq, hk with
    | 0, _ =>
      obtain ⟨q1, q2⟩ := ask0 h h2 hc hruns
      exact mk_text (out := .ok (.share (gw 0 r.ws r.st).2 (fR x)) [.atom .yes]) h fit hlen ⟨_, q1, by rw [q2]⟩ (by unfold wordsC; rw [b]; exact .share (hr true _) hok)
    | 1, _ =>
      obtain ⟨q1, q2⟩ := ask1 h h2 hc hruns
      exact mk_text (out := .ok (.share [.atom (.worth 0 0)] f00) (gw 0 r.ws r.st).2) h fit hlen ⟨_, q1, by rw [q2]⟩ (by
        unfold wordsC
        rw [b]
        exact .two q1_run (fun p hp t ht => by
          rcases List.mem_append.mp hp with hp | hp
          · rw [List.mem_singleton.mp hp] at ht
            cases ht
            exact w00_ok h
          · exact hok p hp t ht) (hr false _))
    | 2, _ =>
      obtain ⟨q1, q2⟩ := ask2 h h2 hc hruns
      exact mk_text (out := .ok (.mean 0) (gw 0 r.ws r.st).2) h fit hlen ⟨_, q1, by rw [q2]⟩ (by
        unfold wordsC
        rw [b]
        exact .mean (ss_pos h) (by decide) hok (hr false _))
  · have e : (wordsC x kq).dropLast = qwC kq ++ x.toks.dropLast.map tokC := by
      unfold wordsC
      rw [List.dropLast_append_of_ne_nil (by simpa using hne), List.map_dropLast]
    rw [e]
    refine bad_text h hk (fun t ht => htok t (List.dropLast_subset _ ht)) (by rw [List.length_dropLast]; omega) fun first ws a _ => ?_
    have := runE_go (first := first) (len := ((textI g (qwC kq ++ x.toks.dropLast.map tokC)).length : Nat)) (rest := []) x.toks.dropLast ws r00 rs 0 a hs1
    rw [List.append_nil] at this
    rw [this]
    show some (if rs.whole then _ else _) = _
    rw [hs2]
    rfl
  · have e : wordsC x kq ++ [[41]] = qwC kq ++ (x.toks ++ [Tok.rp]).map tokC := by
      unfold wordsC
      rw [List.map_append, List.append_assoc]
      rfl
    rw [e]
    refine bad_text h hk (fun t ht => ?_) (by rw [List.length_append]; simp; omega) fun first ws a c => ?_
    · rcases List.mem_append.mp ht with ht | ht
      · exact htok t ht
      · rw [List.mem_singleton.mp ht]; trivial
    obtain ⟨ws', hws, ha'⟩ := c x.toks rfl
    rw [hws, runE_go (first := first) x.toks ws' r00 r 0 ha' hr1]
    have hb : r.b = false ∧ r.ws.contains .lp = false := by
      unfold RS.whole at hr2
      rw [Bool.and_eq_true] at hr2
      exact ⟨by simpa using hr2.1, by simpa using hr2.2⟩
    rw [runE_rp hb.1 hb.2]
    have hpos := text_pos (g := g) hk ((x.toks ++ [Tok.rp]).map tokC)
    congr 2
    omega
end K61
end

section
set_option Elab.async false
set_option linter.all false
set_option maxRecDepth 100000
set_option maxHeartbeats 0
namespace K61
open PySem PySem.Spec PyProof.Rows L2 LamX
theorem facts (hPL : PLall) (hSH : SHall) {w : World} {h : Heap} {mg : Str → Option Value} {fa' : Addr} {K : PySem.W.Frag} (X : K.In h) (G : h.Ns mainGlobals mg) (hfa : mg ("law" : Str) = some (.ref fa')) (c : He.SaysX fa fn ts tf ex w h K) :
    LawAtS PySem.Challenge.rw_calmblanks_k61_whole_deep_and_long_texts w K CX0 11 63 "_law_script" mg fa' h := by
  have hW : ∀ base : Heap, K.In base → base.Ns mainGlobals mg → (∀ p ∈ [He.cT K wI], TabB base mg p.1 p.2) → W0 (PySem.Challenge.rw_calmblanks_k61_whole_deep_and_long_texts).prog w K mg base := fun base hK hN hT => ⟨hK, hN, c.t, c.more, fun p hp => by
    have : p = wI := by simpa [tf] using hp
    subst this
    exact hT _ (by simp)⟩
  obtain ⟨fd, F⟩ := c.t.d.def_ 56 (d := dfn 66 "law") rfl
  have e := hfa.symm.trans (He.glo_ok X G (c.t.d.fact 55 (f := .glo "law") rfl))
  cases e
  have hb := FunD.bindsA (ps := ["_law_script"]) F fun _ _ _ _ _ _ us hl => match us, hl with | [_], _ => rfl
  have hw1 : wI ∈ tf := by simp [tf]
  refine ⟨fd, [He.cT K wI], sp_law K, ?_, ?_, ?_, fun s u => hb s [u] rfl, ?_, fun base hK hN hT => ok_law hPL hSH (hW base hK hN hT) F⟩
  · intro p hp
    rw [List.mem_singleton.mp hp]
    exact c.empty _ hw1
  · intro p hp
    rw [List.mem_singleton.mp hp]
    exact c.out _ hw1
  · intro p hp
    rw [List.mem_singleton.mp hp]
    exact PySem.W.codeHd_of_K X (c.hd _ hw1)
  · intro H a ns hl _ hT hS
    exact ⟨.ref a, ns, rfl, .lst hS dps_ints', by omega, TabS.nil (hT _ (by simp)), fun _ => rfl⟩
end K61
open PySem PySem.W PySem.Calls PyProof.Rows
theorem holds (hPL : K61.PLall) (hSH : K61.SHall) : PySem.Challenge.rw_calmblanks_k61_whole_deep_and_long_texts.Holds := by
  w_on; o_law
  refine HandSHeadRun.head_any (r := OpenLaw.row PySem.Challenge.rw_calmblanks_k61_whole_deep_and_long_texts) (q := K61.qv) (H := K61.hk) (ob := K61.ob) (M := 6000) (loose := K61.loose) (d := HandSHeadRun.topDef (OpenLaw.row PySem.Challenge.rw_calmblanks_k61_whole_deep_and_long_texts).prog 66) (kwd := []) K61.ob_eq
    (by kernel_rfl) (fun s => by kernel_rfl) K61.run (by kernel_rfl) (by kernel_rfl) (by kernel_rfl) (by rfl) (by first | assumption | decide +kernel) (by decide +kernel) ⟨rfl, rfl, rfl, rfl, rfl, by decide +kernel⟩ ?hw ?hc
  case hw => w_witness2
  case hc =>
    refine LamX.walk_ofTsE (l := PySem.Challenge.rw_calmblanks_k61_whole_deep_and_long_texts) (n := 63) (k := 11) (x := "_law_script") (CX := fun _ => L2.CX0) rfl (by decide) (by kernel_rfl) ⟨rfl, by decide, by decide⟩ ?F (fun _ _ _ _ _ z => z)
    intro w mg fa h Y G hmg0
    obtain ⟨K, KX, c⟩ := Y
    have hmg : mg ("law" : PySem.Str) = some (.ref fa) := by
      have e : (HandSHeadRun.topDef (OpenLaw.row PySem.Challenge.rw_calmblanks_k61_whole_deep_and_long_texts).prog 66).name = ("law" : PySem.Str) := by kernel_rfl
      rw [← e]
      exact hmg0
    exact ⟨K, KX, K61.facts hPL hSH KX G hmg c⟩
end

theorem PySem.Challenge.cw_calmblanks_k61_whole_deep_and_long_texts_holds : PySem.Challenge.rw_calmblanks_k61_whole_deep_and_long_texts.Holds :=
  holds K61.pl_all K61.sh_all
