import PyProof.Rows.All
import Wide.All
import OpenK.AllK
import Wide.FinOn
import KE.KStateDown
import Lean
import HandS.ForMost
import HandS.ForExc
import HandS.Codes
import HandS.Defaults
import HandS.Head0
import HandS.Head1
import HandS.Head2
import HandS.HeadEnd
import HandS.HeadHook1
import HandS.HeadHook2
import HandS.HeadHook3
import HandS.HeadHook4
import HandS.HeadWalk
import HandS.EndTab
import PySem.Challenge.RW_everyhalf_k80_whole_rounds_of_states_are
import PyProof.EqAt
import PyProof.EqKinds
import PyProof.TupleCall
import KE.KLam
import KE.GoesMore
import HandS.Style
import HandS.Strs
import HandS.Zip
import HandS.DictComp
import HandS.Nested
import HandS.Star
import HandS.FStr
import HandS.RaiseMore
import HandS.IsInst
import HandS.Flow
set_option Elab.async false
set_option linter.all false
set_option maxRecDepth 100000
set_option maxHeartbeats 0
namespace EH
open PySem PySem.Spec PyProof.Rows L2
/-! the text by places -/
def top (i : Nat) : Stmt := PySem.Challenge.pw_everyhalf_k80_whole_rounds_of_states_are.main.body.getD i (.Pass ⟨0, 0, 0, 0⟩)
abbrev s_Book_init : Stmt := inClass (top 80) 0
abbrev s_is_integer : Stmt := top 10
abbrev s_is_within : Stmt := top 11
abbrev s_is_signs : Stmt := top 12
abbrev s_need_number : Stmt := top 13
abbrev s_burning : Stmt := top 18
abbrev s_is_high_in : Stmt := top 19
abbrev s_moved_in : Stmt := top 20
abbrev s_exchanged_in : Stmt := top 21
abbrev s_need_state : Stmt := top 22
abbrev s_is_state : Stmt := top 23
abbrev s_is_high : Stmt := top 24
abbrev s_is_word : Stmt := top 27
abbrev s_first_pair_in : Stmt := top 28
abbrev s_turned_in : Stmt := top 29
abbrev s_back_in : Stmt := top 30
abbrev s_turns_in : Stmt := top 31
abbrev s_low_home : Stmt := top 33
abbrev s_home_in : Stmt := top 34
abbrev s_state_in : Stmt := top 35
abbrev s_can_pull_in : Stmt := top 39
abbrev s_pulled_in : Stmt := top 40
abbrev s_unpulled_in : Stmt := top 41
abbrev s_home_of_state : Stmt := top 45
abbrev s_turned_times : Stmt := top 46
abbrev s_stretch_word : Stmt := top 47
abbrev s_sewn_under : Stmt := top 48
abbrev s_next_home : Stmt := top 49
abbrev s_before_home : Stmt := top 50
abbrev s_next_in : Stmt := top 51
abbrev s_before_in : Stmt := top 52
abbrev s_swapped_in : Stmt := top 54
abbrev s_word_behind_in : Stmt := top 55
abbrev s_wide_of : Stmt := top 56
abbrev s_post_in : Stmt := top 57
abbrev s_lots : Stmt := top 59
abbrev s_ways_on : Stmt := top 60
abbrev s_all_in : Stmt := top 61
abbrev s_has_common : Stmt := top 63
abbrev s_how_many_apart : Stmt := top 64
abbrev s_with_place : Stmt := top 65
abbrev s_with_tie : Stmt := top 66
abbrev s_how_many_trees : Stmt := top 67
abbrev s_is_pull : Stmt := top 78
abbrev s_are_pulls : Stmt := top 79
abbrev s_need_book : Stmt := top 81
abbrev s_need_fitting : Stmt := top 82
abbrev s_need_its_state : Stmt := top 83
abbrev s_sewn_by : Stmt := top 84
abbrev s_next_by : Stmt := top 85
abbrev s_before_by : Stmt := top 86
abbrev s_post_by : Stmt := top 87
abbrev s_round_of : Stmt := top 89
abbrev s_rounds_in : Stmt := top 90
abbrev s_round_long : Stmt := top 91
abbrev s_steps_by : Stmt := top 92
abbrev s_how_many_rounds : Stmt := top 93
abbrev s_law_reed : Stmt := top 95
abbrev s_law_weft : Stmt := top 96
abbrev s_law_one : Stmt := top 97
abbrev s_law_word : Stmt := top 98
abbrev s_law_pulls : Stmt := top 99
abbrev s_law_end : Stmt := top 100
abbrev s_law_turned : Stmt := top 101
abbrev s_law_swapped : Stmt := top 102
abbrev s_law_round : Stmt := top 103
abbrev s_law_state : Stmt := top 104
abbrev s_law_all_words : Stmt := top 105
abbrev s_law_gone : Stmt := top 106
abbrev s_law_low_word : Stmt := top 107
abbrev s_law_way_right : Stmt := top 108
abbrev s_law : Stmt := top 109
/-! what is told of each def -/
def dd (x : Str) (st : Stmt) : He.DefD := ⟨(x, none), x, x, defArgs st, defBody st, defScope st, [], []⟩
def dBook : He.DefD := ⟨("Book", some "__init__"), "__init__", "Book.__init__", defArgs s_Book_init, defBody s_Book_init, defScope s_Book_init, [], []⟩
def fn0 : List He.DefD := [dBook, dd "is_integer" s_is_integer, dd "is_within" s_is_within, dd "is_signs" s_is_signs, dd "need_number" s_need_number, dd "burning" s_burning, dd "is_high_in" s_is_high_in, dd "moved_in" s_moved_in, dd "exchanged_in" s_exchanged_in, ⟨("need_state", none), "need_state", "need_state", defArgs s_need_state, defBody s_need_state, defScope s_need_state, [.str "state"], []⟩, dd "is_state" s_is_state, dd "is_high" s_is_high, dd "is_word" s_is_word, dd "first_pair_in" s_first_pair_in, dd "turned_in" s_turned_in, dd "back_in" s_back_in, dd "turns_in" s_turns_in, dd "low_home" s_low_home, dd "home_in" s_home_in, dd "state_in" s_state_in]
def fn1 : List He.DefD := [dd "can_pull_in" s_can_pull_in, dd "pulled_in" s_pulled_in, dd "unpulled_in" s_unpulled_in, dd "home_of_state" s_home_of_state, dd "turned_times" s_turned_times, dd "stretch_word" s_stretch_word, dd "sewn_under" s_sewn_under, dd "next_home" s_next_home, dd "before_home" s_before_home, dd "next_in" s_next_in, dd "before_in" s_before_in, dd "swapped_in" s_swapped_in, dd "word_behind_in" s_word_behind_in, dd "wide_of" s_wide_of, dd "post_in" s_post_in, dd "lots" s_lots, dd "ways_on" s_ways_on, dd "all_in" s_all_in, dd "has_common" s_has_common, dd "how_many_apart" s_how_many_apart]
def fn2 : List He.DefD := [dd "with_place" s_with_place, dd "with_tie" s_with_tie, dd "how_many_trees" s_how_many_trees, dd "is_pull" s_is_pull, dd "are_pulls" s_are_pulls, dd "need_book" s_need_book, dd "need_fitting" s_need_fitting, dd "need_its_state" s_need_its_state, dd "sewn_by" s_sewn_by, dd "next_by" s_next_by, dd "before_by" s_before_by, dd "post_by" s_post_by, dd "round_of" s_round_of, dd "rounds_in" s_rounds_in, dd "round_long" s_round_long, dd "steps_by" s_steps_by, dd "how_many_rounds" s_how_many_rounds, dd "_law_reed" s_law_reed, dd "_law_weft" s_law_weft, dd "_law_one" s_law_one]
def fn3 : List He.DefD := [dd "_law_word" s_law_word, dd "_law_pulls" s_law_pulls, dd "_law_end" s_law_end, dd "_law_turned" s_law_turned, dd "_law_swapped" s_law_swapped, dd "_law_round" s_law_round, dd "_law_state" s_law_state, dd "_law_all_words" s_law_all_words, dd "_law_gone" s_law_gone, dd "_law_low_word" s_law_low_word, dd "_law_way_right" s_law_way_right, dd "law" s_law]
def fn : List He.DefD := fn0 ++ fn1 ++ fn2 ++ fn3
def fa0 : List He.Fa := [.glo "Book", .cls "Book", .noat "Book" "pairs", .noat "Book" "words", .noat "Book" "sewn", .mkr "Book", .glo "is_integer", .glo "is_within", .glo "is_signs", .glo "need_number", .glo "burning", .glo "is_high_in", .glo "moved_in", .glo "exchanged_in", .glo "need_state", .glo "is_state", .glo "is_high", .glo "is_word", .glo "first_pair_in", .glo "turned_in", .glo "back_in", .glo "turns_in", .glo "low_home", .glo "home_in", .glo "state_in", .glo "can_pull_in", .glo "pulled_in", .glo "unpulled_in", .glo "home_of_state", .glo "turned_times"]
def fa1 : List He.Fa := [.glo "stretch_word", .glo "sewn_under", .glo "next_home", .glo "before_home", .glo "next_in", .glo "before_in", .glo "swapped_in", .glo "word_behind_in", .glo "wide_of", .glo "post_in", .glo "lots", .glo "ways_on", .glo "all_in", .glo "has_common", .glo "how_many_apart", .glo "with_place", .glo "with_tie", .glo "how_many_trees", .glo "is_pull", .glo "are_pulls", .glo "need_book", .glo "need_fitting", .glo "need_its_state", .glo "sewn_by", .glo "next_by", .glo "before_by", .glo "post_by", .glo "round_of", .glo "rounds_in", .glo "round_long"]
def fa2 : List He.Fa := [.glo "steps_by", .glo "how_many_rounds", .glo "_law_reed", .glo "_law_weft", .glo "_law_one", .glo "_law_word", .glo "_law_pulls", .glo "_law_end", .glo "_law_turned", .glo "_law_swapped", .glo "_law_round", .glo "_law_state", .glo "_law_all_words", .glo "_law_gone", .glo "_law_low_word", .glo "_law_way_right", .glo "law", .str "SIGNS" "01", .int "MOST_PAIRS_states" 200, .str "BURNS" "1", .str "DARK" "0", .int "MOST_PAIRS_words" 200, .str "DEEP_LEAF" "110", .str "NEAR_LEAF" "101", .str "PULLED" "101", .int "LAST_SHIFT" 3, .int "LEAST_PAIRS" 2, .int "MOST_PAIRS_books" 60, .int "MOST_WORDS" 300, .free "isinstance"]
def fa3 : List He.Fa := [.free "int", .free "bool", .free "str", .free "list", .free "tuple", .free "len", .free "all", .free "set", .free "sorted", .free "range", .free "abs", .free "enumerate", .free "repr"]
def fa : List He.Fa := fa0 ++ fa1 ++ fa2 ++ fa3
def tf : List He.Defn := [("sewn_by", none)]
open PySem.W in
def ex (K : PySem.W.Frag) : Bool := He.eqO (findIn K (.ref (He.ga K "Book")) "__class__") (some (some (.builtin "object.__class__"))) && (He.eqO (specialIn K (.builtin "object.__class__") "__get__") (some (some (.builtin "getset_descriptor.__get__"))) && (decide (takesIn K (.builtin "object.__class__") = some true) && (decide (mroIn K (He.ga K "Book") (.type "object") = some true) && decide (kitOne K (.ref (He.ga K "Book")) (.ref (He.ga K "Book")) = some true))))
abbrev R : PySem.W.OpenRow := PySem.W.OpenLaw.row PySem.Challenge.rw_everyhalf_k80_whole_rounds_of_states_are
def frNat {α : Type} (n : Nat) (k : Nat → α) : α := match n with
  | 0 => k 0
  | m + 1 => k (m + 1)
theorem frNat_eq {α : Type} (n : Nat) (k : Nat → α) : frNat n k = k n := by
  cases n <;> rfl
/-- a part of the heap, made before it is used -/
def frL {α : Type} : List (Addr × Obj) → (List (Addr × Obj) → α) → α
  | [], k => k []
  | (a, ⟨c, d, dt, sl⟩) :: r, k => frNat a fun a => frL r fun r => k ((a, ⟨c, d, dt, sl⟩) :: r)
theorem frL_eq {α : Type} : ∀ (l : List (Addr × Obj)) (k : List (Addr × Obj) → α), frL l k = k l
  | [], k => rfl
  | (a, ⟨c, d, dt, sl⟩) :: r, k => by
    show (frNat a fun a => frL r fun r => k ((a, ⟨c, d, dt, sl⟩) :: r)) = _
    rw [frNat_eq, frL_eq r]
def frA {α : Type} : List Addr → (List Addr → α) → α
  | [], k => k []
  | a :: r, k => frNat a fun a => frA r fun r => k (a :: r)
theorem frA_eq {α : Type} : ∀ (l : List Addr) (k : List Addr → α), frA l k = k l
  | [], k => rfl
  | a :: r, k => by
    show (frNat a fun a => frA r fun r => k (a :: r)) = _
    rw [frNat_eq, frA_eq r]
/-- what the module's names stand for; their code, their class's own names -/
def refsQ (o : Obj) : List Addr := match o.data with
  | .func fd => He.refV fd.code ++ He.refV fd.defaults
  | .cls cd => [cd.ns]
  | _ => []
def refsD (o : Obj) : List Addr := match o.data with
  | .dict es _ => es.toList.flatMap fun e => He.refV e.val
  | _ => []
def at_ (g : Addr → Option Obj) (f : Obj → List Addr) (as : List Addr) : List Addr := as.flatMap fun a => match g a with
  | some o => f o
  | none => []
/-- the parts of the heap that are looked at -/
def asQ {α : Type} (g : Addr → Option Obj) (k : List Addr → α) : α := frA (at_ g refsD [mainGlobals]) fun l1 => frA (at_ g refsQ l1) fun l2 => frA (at_ g refsD l2) fun l3 => frA (at_ g refsQ l3) fun l4 => k ([mainGlobals] ++ l1 ++ l2 ++ l3 ++ l4)
def asP (g : Addr → Option Obj) : List Addr := asQ g id
theorem asQ_eq {α : Type} (g : Addr → Option Obj) (k : List Addr → α) : asQ g k = k (asP g) := by
  unfold asP asQ
  simp only [frA_eq, id]
def obP (g : Addr → Option Obj) : He.AlX := (He.obsT fa fn [] (He.frT g (asP g)), ex (He.frT g (asP g)) && He.tabsB g tf (He.frT g (asP g)))
theorem says_of {w : World} {h : Heap} (e : obP h.get? = He.valX fn [] w) : He.SaysX fa fn [] tf ex w h (He.frT h.get? (asP h.get?)) := by
  have e1 : He.obsT fa fn [] (He.frT h.get? (asP h.get?)) = He.valT fn [] w := congrArg (fun z : He.AlX => z.1) e
  have e2 : (ex (He.frT h.get? (asP h.get?)) && He.tabsB h.get? tf (He.frT h.get? (asP h.get?))) = true := congrArg (fun z : He.AlX => z.2) e
  obtain ⟨h1, h2⟩ := He.ba e2
  have key : ∀ p ∈ tf, PySem.W.codeHdIn (He.frT h.get? (asP h.get?)) (He.cT (He.frT h.get? (asP h.get?)) p).1 (He.cT (He.frT h.get? (asP h.get?)) p).2 = true ∧ ∃ o, h.get? (He.cT (He.frT h.get? (asP h.get?)) p).2 = some o ∧ He.emptyTab o = true := fun p hp => by
    obtain ⟨h3, h4⟩ := He.ba (List.all_eq_true.mp h2 p hp)
    refine ⟨h3, ?_⟩
    cases q : h.get? (He.cT (He.frT h.get? (asP h.get?)) p).2 with
    | none =>
      rw [q] at h4
      cases h4
    | some o =>
      rw [q] at h4
      exact ⟨o, rfl, h4⟩
  refine ⟨e1, h1, fun p hp => (key p hp).1, fun p hp => ?_, fun p hp => ?_⟩
  · obtain ⟨_, o, q, z⟩ := key p hp
    exact He.frT_none q z
  · obtain ⟨_, o, q, z⟩ := key p hp
    rw [q, He.emptyTab_eq z]
abbrev hk : PySem.W.Hook where
  α := He.AlX
  obs := fun s => obP s.heap.get?
  val := fun w => He.valX fn [] w
  says := fun w h => ∃ K : PySem.W.Frag, K.In h ∧ He.SaysX fa fn [] tf ex w h K
  of := fun _ _ e => ⟨_, He.frT_in, says_of e⟩
  keeps := fun _ _ _ ⟨K, hK, c⟩ k => ⟨K, PySem.W.Frag.In.keeps hK k, ⟨c.t, c.more, c.hd, c.out, fun p hp => k _ _ (c.empty p hp)⟩⟩
def obK (g : Addr → Option Obj) : He.AlX := asQ g fun as => frL (He.frT g as) fun K => (He.obsT fa fn [] K, ex K && He.tabsB g tf K)
def ob (s : PySem.W.SharedT) : He.AlX := obK (HandSHeadRun.getT s)
theorem ob_eq (s : PySem.W.SharedT) : ob s = hk.obs s.abs := by
  have e : HandSHeadRun.getT s = s.abs.heap.get? := funext (HandSHeadRun.getT_eq s)
  show obK (HandSHeadRun.getT s) = obP s.abs.heap.get?
  rw [e]
  unfold obK
  rw [asQ_eq, frL_eq]
  all_goals rfl
def nm0 : List PySem.Str := [("_wall" : PySem.Str), ("HalfError" : PySem.Str), ("BadNumber" : PySem.Str), ("BadState" : PySem.Str), ("BadBook" : PySem.Str), ("Misfit" : PySem.Str), ("BadText" : PySem.Str), ("SIGNS" : PySem.Str), ("is_integer" : PySem.Str), ("is_within" : PySem.Str), ("is_signs" : PySem.Str), ("need_number" : PySem.Str), ("MOST_PAIRS_states" : PySem.Str), ("BURNS" : PySem.Str), ("DARK" : PySem.Str), ("burning" : PySem.Str), ("is_high_in" : PySem.Str), ("moved_in" : PySem.Str), ("exchanged_in" : PySem.Str), ("need_state" : PySem.Str), ("is_state" : PySem.Str), ("is_high" : PySem.Str), ("MOST_PAIRS_words" : PySem.Str), ("is_word" : PySem.Str), ("first_pair_in" : PySem.Str), ("turned_in" : PySem.Str), ("back_in" : PySem.Str), ("turns_in" : PySem.Str), ("low_home" : PySem.Str), ("home_in" : PySem.Str), ("state_in" : PySem.Str), ("DEEP_LEAF" : PySem.Str), ("NEAR_LEAF" : PySem.Str), ("can_pull_in" : PySem.Str), ("pulled_in" : PySem.Str)]
def nm1 : List PySem.Str := [("unpulled_in" : PySem.Str), ("PULLED" : PySem.Str), ("LAST_SHIFT" : PySem.Str), ("home_of_state" : PySem.Str), ("turned_times" : PySem.Str), ("stretch_word" : PySem.Str), ("sewn_under" : PySem.Str), ("next_home" : PySem.Str), ("before_home" : PySem.Str), ("next_in" : PySem.Str), ("before_in" : PySem.Str), ("swapped_in" : PySem.Str), ("word_behind_in" : PySem.Str), ("wide_of" : PySem.Str), ("post_in" : PySem.Str), ("lots" : PySem.Str), ("ways_on" : PySem.Str), ("all_in" : PySem.Str), ("has_common" : PySem.Str), ("how_many_apart" : PySem.Str), ("with_place" : PySem.Str), ("with_tie" : PySem.Str), ("how_many_trees" : PySem.Str), ("BAR" : PySem.Str), ("FIGURES" : PySem.Str), ("MOST_FIGURES" : PySem.Str), ("written" : PySem.Str), ("Scan" : PySem.Str), ("LEAST_PAIRS" : PySem.Str), ("MOST_PAIRS_books" : PySem.Str), ("MOST_WORDS" : PySem.Str), ("is_pull" : PySem.Str), ("are_pulls" : PySem.Str), ("Book" : PySem.Str), ("need_book" : PySem.Str)]
def nm2 : List PySem.Str := [("need_fitting" : PySem.Str), ("need_its_state" : PySem.Str), ("sewn_by" : PySem.Str), ("next_by" : PySem.Str), ("before_by" : PySem.Str), ("post_by" : PySem.Str), ("round_of" : PySem.Str), ("rounds_in" : PySem.Str), ("round_long" : PySem.Str), ("steps_by" : PySem.Str), ("how_many_rounds" : PySem.Str), ("_law_reed" : PySem.Str), ("_law_weft" : PySem.Str), ("_law_one" : PySem.Str), ("_law_word" : PySem.Str), ("_law_pulls" : PySem.Str), ("_law_end" : PySem.Str), ("_law_turned" : PySem.Str), ("_law_swapped" : PySem.Str), ("_law_round" : PySem.Str), ("_law_state" : PySem.Str), ("_law_all_words" : PySem.Str), ("_law_gone" : PySem.Str), ("_law_low_word" : PySem.Str), ("_law_way_right" : PySem.Str)]
def nms : List PySem.Str := nm0 ++ nm1 ++ nm2
theorem run (w : World) : HandSHeadRun.RunEq R (PySem.W.view R.prog [109]) hk ob 6000 nms w := by
  intro os
  kernel_rfl
end EH

set_option Elab.async false
set_option linter.all false
set_option maxRecDepth 100000
set_option maxHeartbeats 4000000
namespace EL
open PySem PySem.Spec PyProof.Rows L2
/-! ### for i, c in enumerate(text) -/
def ItS (x : Str) : It :=
  ⟨fun i _ => i < x.cps.size, fun i H v H' => ∃ T c, v = .ref T ∧ H T = none ∧ H' = upd H T (.tup [.int (i : Nat), .str ⟨#[c]⟩]) ∧ x.cps[i]? = some c, fun i _ => i = x.cps.size⟩
theorem turn_enumS {P : Program} {w : World} {K : PySem.W.Frag} {elts : List Expr} {kk : Nat} {tpos : Pos} (x : Str) (t : Tok) (e it : Addr) :
    Turn P w K (.Tuple elts kk tpos) (ItS x) [e, it] e (fun i h => (∃ old, IsEnum h e it ((i : Nat) : Int) old) ∧ h.IsStrIter it (strIterType x) x t i ∧ e ≠ it) where
  mem := by simp
  obj := fun i h st b hb => by
    obtain ⟨⟨old, he⟩, ⟨o, ho, _, hd⟩, _⟩ := st
    rcases (show b = e ∨ b = it by simpa using hb) with z | z
    · subst z
      exact ⟨_, he, fun v q => nomatch q⟩
    · subst z
      exact ⟨o, ho, fun v q => by rw [hd] at q; cases q⟩
  keep := fun i h h' st k => let ⟨⟨old, he⟩, ⟨o, ho, r⟩, hne⟩ := st; ⟨⟨old, k e (by simp) _ he⟩, ⟨o, k it (by simp) o ho, r⟩, hne⟩
  item := by
    intro X hP hw hK hc i pins s σ H E I hf st hg
    obtain ⟨⟨old, he⟩, hit, hne⟩ := st
    subst hP hw hK
    have hel : e < s.heap.objs.size := Heap.lt_size he
    have hil : it < s.heap.objs.size := let ⟨_, q, _⟩ := hit; Heap.lt_size q
    have hAh : X.A.in1.handled = none := by simp [I.ok.hd hc]
    refine wpAny_pyNext_enum_itemD (Draws.text hAh it x t) he hit hg hne (by simpa using hne) fun v h' tk hv ho st' hT hz hk => ?_
    obtain ⟨c, u, hcx, rfl⟩ := hv
    refine ⟨_, rfl, wpAny_letOwnedTupleGo_enum (s := { s with heap := h', toks := tk + 1 }) ho fun h2 he2 sb => ?_⟩
    have hT2 : h2.get? s.heap.objs.size = some { cls := .type "tuple", data := .seq #[.int i tk, .str ⟨#[c]⟩ u] } := (sb.2 _ (Nat.ne_of_gt hel)).trans hT
    have new : ObjOk X.prog X.w (upd H s.heap.objs.size (.tup [.int (i : Nat), .str ⟨#[c]⟩])) h2 s.heap.objs.size (.tup [.int (i : Nat), .str ⟨#[c]⟩]) :=
      ⟨by show 2 ≤ sizeLine; decide, [.int i tk, .str ⟨#[c]⟩ u], .cons ⟨_, rfl⟩ (.cons ⟨_, rfl⟩ .nil), ⟨_, hT2, rfl, _, rfl⟩⟩
    have J : Inv X pins σ (upd H s.heap.objs.size (.tup [.int (i : Nat), .str ⟨#[c]⟩])) { s with heap := h2, toks := tk + 1 } :=
      I.turnedNew (ch := [e, it]) (fun b ob hb q => (sb.2 b (fun z => hb (by simp [z]))).trans (hk b ob (fun z => hb (by simp [z])) (fun z => hb (by simp [z])) q)) hf (Nat.le_refl _) new
    refine ⟨.ref s.heap.objs.size, _, J, rfl, ⟨_, c, rfl, I.hok.fresh (Nat.le_refl _), rfl, hcx⟩, ⟨⟨.str ⟨#[c]⟩ u, ?_⟩, ?_, hne⟩, fun b hb => ?_⟩
    · rw [show ((i + 1 : Nat) : Int) = (i : Int) + 1 by omega]
      exact he2
    · obtain ⟨o, q, r⟩ := st'
      exact ⟨o, (sb.2 it (Ne.symm hne)).trans q, r⟩
    · have hb' : b < s.heap.objs.size := by
        rcases (show b = e ∨ b = it by simpa using hb) with z | z <;> rw [z] <;> assumption
      rw [upd_ne (Nat.ne_of_lt hb')]
      exact (hf b hb).1
  done := by
    intro X hP hw hK hc i pins s σ H E I hf st hg
    obtain ⟨⟨old, he⟩, hit, hne⟩ := st
    subst hP hw hK
    obtain rfl : i = x.cps.size := hg
    obtain ⟨f0, f1, f2, f3, f4, f5⟩ := hf it (by simp)
    have hAh : X.A.in1.handled = none := by simp [I.ok.hd hc]
    exact wpAny_pyNext_enum_endD (Draws.text hAh it x t) he hit fun h' eb => ⟨rfl, I.turned (t' := s.toks) (fun b o hb q => eb b o hb q) f0 f1 f3 f4 f5⟩
  self := fun A i s Q E st h => let ⟨⟨_, he⟩, _⟩ := st; wpAny_pyIter_enum he h
def iEnumS (ta : TA) : TI := fun σ H R => ta σ H fun vs H1 => ∃ x, vs = [.str x] ∧ R (ItS x) H1
theorem pi_enumS {X : Cx} {e : Expr} {ta : TA} {p pos tpos : Pos} {elts : List Expr} {kk : Nat} (hg : Gl X "enumerate") (hm : X.mg "enumerate" = none) (ha : PA X [e] ta) (hs : starEach [e] X.env = [(false, eval e X.env)] := by rfl) :
    PI X (.Tuple elts kk tpos) (.Call (.Name "enumerate" p) [e] [] pos) (iEnumS ta) := by
  refine ⟨fun pins s σ H R I h => ?_⟩
  refine Call_ (ld_blt I hg hm boot_enumerate (PyProof.Rows.callWith_type1 (thn (ha.run pos pins s σ H _ I h) fun us s1 ⟨vs, H1, I1, r1, x, ex, q⟩ => ?_) hs rfl))
  subst ex
  obtain ⟨u, rfl, ru⟩ := vals1 r1
  obtain ⟨t, rfl⟩ := ru
  refine call_enumerate_str fun h' he hit hsz hk => wpAny_pyIter_enum he ?_
  have J : Inv X pins σ H1 { s1 with heap := h' } := I1.kept (t' := s1.toks) hk
  refine ⟨s1.heap.objs.size + 1, [s1.heap.objs.size + 1, s1.heap.objs.size], _, _, H1, rfl, J, turn_enumS x t (s1.heap.objs.size + 1) s1.heap.objs.size, ⟨⟨.none, he⟩, hit, Nat.succ_ne_self _⟩, fun b hb => ?_, q⟩
  have hle : s1.heap.objs.size ≤ b := by
    rcases (show b = s1.heap.objs.size + 1 ∨ b = s1.heap.objs.size by simpa using hb) with z | z
    · rw [z]; exact Nat.le_add_right _ _
    · rw [z]; exact Nat.le_refl _
  exact I1.fpOk hle (I1.hok.fresh hle)
/-- a loop over these by its invariant -/
theorem for_enumS {x : Str} {g : TG} {tb : TS} {D : Ends} {σ : L2.St} {H : Hp} (Pv : Nat → L2.St → Hp → Prop) (h0 : Pv 0 σ H)
    (hs : ∀ i c T σ H, x.cps[i]? = some c → Pv i σ H → H T = none → g (.ref T) σ (upd H T (.tup [.int (i : Nat), .str ⟨#[c]⟩])) fun σ2 H2 => tb { D with nx := Pv (i + 1), ct := Pv (i + 1), bk := D.nx } σ2 H2)
    (hd : ∀ σ H, Pv x.cps.size σ H → D.nx σ H) : ∃ W : Nat → Nat → L2.St → Hp → Prop, (∃ m, W 0 m σ H) ∧ ∀ i m σ H, W i m σ H → ((ItS x).stop i H ∧ D.nx σ H) ∨ ((ItS x).go i H ∧ ∃ N : L2.St → Hp → Prop, (∀ σ' H', N σ' H' → ∃ m', m' < m ∧ W (i + 1) m' σ' H') ∧
      ∀ v H', (ItS x).yld i H v H' → g v σ H' fun σ2 H2 => tb { D with nx := N, ct := N, bk := D.nx } σ2 H2) := by
  refine ⟨fun i m σ H => i ≤ x.cps.size ∧ m = x.cps.size - i ∧ Pv i σ H, ⟨_, Nat.zero_le _, rfl, h0⟩, fun i m σ H ⟨hi, hm, hp⟩ => ?_⟩
  by_cases e : i = x.cps.size
  · exact .inl ⟨e, hd σ H (e ▸ hp)⟩
  · have lt : i < x.cps.size := by omega
    refine .inr ⟨lt, Pv (i + 1), fun σ' H' q => ⟨x.cps.size - (i + 1), by omega, by omega, rfl, q⟩, fun v H' y => ?_⟩
    obtain ⟨T, c, rfl, hT, rfl, hc⟩ := y
    exact hs i c T σ H hc hp hT
/-! ### text[::-1] -/
def tRevS (te : TE) : TE := fun σ H Q => te σ H fun x H1 => ∃ z, x = .str z ∧ z.length ≤ sizeLine ∧ Q (.str ⟨z.cps.toList.reverse.toArray⟩) H1
theorem rev_txt (z : Str) (u : Tok) : Txt.sliceBy z none none (-1, u) = ⟨z.cps.toList.reverse.toArray⟩ := by
  have e := step_rev_list z u
  generalize Txt.sliceBy z none none (-1, u) = y at e
  obtain ⟨c⟩ := y
  have e2 : c.toList = z.cps.toList.reverse := by
    rw [show c.toList = _ from e]
    refine List.ext_getElem (by simp [Str.length]) fun i h1 h2 => ?_
    have hi : i < z.cps.size := by simpa [Str.length] using h1
    simp only [List.getElem_map, List.getElem_range, List.getElem_reverse, Str.length, Array.length_toList, Array.getElem_toList]
    rw [Array.getD_eq_getD_getElem?, Array.getElem?_eq_getElem (by omega)]
    rfl
  rw [← e2]
theorem pe_revS {X : Cx} {e : Expr} {te : TE} {k : Nat} {p1 p2 p3 pos : Pos} (he : PE X e te) : PE X (.Subscript e (.Slice none none (some (.UnaryOp .USub (.Constant (.int 1) k p1) p2)) p3) pos) (tRevS te) := by
  refine ⟨fun pins s σ H Q I h => ?_⟩
  refine Subscript_ (thn (he.run pins s σ H _ I h) fun v s1 ⟨x, H1, I1, r1, z, ex, hz, q⟩ => ?_)
  subst ex
  obtain ⟨t, rfl⟩ := r1
  have hst : PO X (some (.UnaryOp .USub (.Constant (.int 1) k p1) p2)) (tPart (tUn (rU fun i => .int (-i)) (tC (.int 1)))) := po_some (pe_un un_neg pe_int)
  refine wpAny_Slice (thn (po_none.run pins s1 σ H1 (fun o H2 => o = none ∧ H2 = H1) I1 ⟨rfl, rfl⟩) fun vl s2 ⟨l, H2, I2, pl, el, e2⟩ => ?_)
  subst el e2
  refine thn (po_none.run pins s2 σ H2 (fun o H3 => o = none ∧ H3 = H2) I2 ⟨rfl, rfl⟩) fun vu s3 ⟨u, H3, I3, pu, eu, e3⟩ => ?_
  subst eu e3
  refine thn (hst.run pins s3 σ H3 (fun o H4 => o = some (-1) ∧ H4 = H3) I3 ⟨1, rfl, -1, rfl, rfl, rfl⟩) fun vs s4 ⟨o, H4, I4, ps, eo, e4⟩ => ?_
  subst eo e4
  have I5 : Inv X pins σ H4 { s4 with heap := s4.heap.push { cls := .type "slice", data := .fields #[vl, vu, vs] } } := I4.kept (t' := s4.toks) fun b ob q => Heap.get?_push_of_some _ q
  obtain ⟨l, rfl, hl⟩ := IsPart.raw pl
  obtain ⟨u, rfl, hu⟩ := IsPart.raw pu
  obtain ⟨c, rfl, hcc⟩ := IsPart.raw ps
  obtain rfl : l = none := by cases l with | none => rfl | some _ => cases hl
  obtain rfl : u = none := by cases u with | none => rfl | some _ => cases hu
  obtain ⟨uk, rfl⟩ : ∃ uk, c = some (-1, uk) := by
    cases c with
    | none => cases hcc
    | some p =>
      obtain ⟨a, b⟩ := p
      have h1 : a = -1 := Option.some.inj hcc
      exact ⟨b, by rw [h1]⟩
  show wpAny (model X.prog X.w) X.A (subscriptTail e (.Slice none none (some (.UnaryOp .USub (.Constant (.int 1) k p1) p2)) p3) (.str z t) (.ref s4.heap.objs.size)) (EP X pins σ Q) X.xe _
  refine tail_any (ops := [.ref s4.heap.objs.size, .str z t]) (typeIs_str _ _ _) F.slot_str_getitem.lookup ?_ (by with_unfolding_all rfl)
  refine wpAny_getItem_str_slice (l := none) (u := none) (st := some (-1, uk)) ⟨_, Heap.get?_push_size _ rfl, rfl, rfl⟩ rfl ?_
  have hr := rev_txt z uk
  unfold Txt.sliceBy at hr
  unfold sliceMade
  refine post_val_or_str ?_
  rw [hr]
  refine ⟨?_, fun t' c => ⟨.str _, H4, I5.tok _, ⟨_, rfl⟩, q⟩⟩
  show (z.cps.toList.reverse.toArray).size ≤ sizeLine
  simpa [Str.length] using hz
/-! ### len(set(texts)), all unlike -/
section
variable {P : Program} {w : World} {A : Around} {R : Result → Shared → Prop} {it : Addr} {fp wr : List Addr} {G : Array GenState → Array GenState → Prop} {n : Nat} {Pr : Nat → Value → Prop} {St : Nat → Shared → Prop}
/-- what the set holds behind i turns -/
def metS (xs : List Str) (i : Nat) : Str → Bool := fun k => (xs.take i).any (· == k)
theorem metS_succ {xs : List Str} {i : Nat} (hi : i < xs.length) (k : Str) : (metS xs i k || decide (k = xs.getD i Str.empty)) = metS xs (i + 1) k := by
  unfold metS
  rw [List.take_add_one, List.getElem?_eq_getElem hi, List.any_append]
  have e : xs.getD i Str.empty = xs[i] := by rw [List.getD_eq_getElem?_getD, List.getElem?_eq_getElem hi]; rfl
  rw [e]
  congr 1
  by_cases q : k = xs[i]
  · subst q; simp
  · have : (xs[i] == k) = false := by simpa [beq_iff_eq] using fun z : xs[i] = k => q z.symm
    simp [this, q]
theorem metS_new {xs : List Str} (nd : xs.Nodup) {i : Nat} (hi : i < xs.length) : metS xs i (xs.getD i Str.empty) = false := by
  have e : xs.getD i Str.empty = xs[i] := by rw [List.getD_eq_getElem?_getD, List.getElem?_eq_getElem hi]; rfl
  rw [e]
  cases hb : metS xs i xs[i] with
  | false => rfl
  | true =>
    obtain ⟨y, hy, ey⟩ := List.any_eq_true.mp hb
    obtain rfl : y = xs[i] := eq_of_beq ey
    obtain ⟨j, hj, ej⟩ := List.mem_take_iff_getElem.mp hy
    exact absurd ej (List.pairwise_iff_getElem.mp nd j i (by omega) hi (by omega))
theorem loop_setS (W : WalksS P w A.in1 it fp wr G n Pr St) (D : Addr) (hD : D ∉ fp) (xs : List Str) (nd : xs.Nodup) (hn : xs.length = n) (hn1 : n + 1 < scanBound)
    (hv : ∀ i v, Pr i v → ∃ t, v = .str (xs.getD i Str.empty) t) (k : Nat) :
    ∀ (i : Nat) (s : Shared), n - i = k → i ≤ n → St i s → s.heap.SetOf (PySem.strKind P w) D (metS xs i) i →
      (∀ s', Moved (D :: wr) G s s' → s'.heap.SetOf (PySem.strKind P w) D (metS xs n) n → R (.ok (.ret .none)) s') →
      codeAny (model P w) A (.builtin "set.update.loop" ⟨[.ref D, .ref it], []⟩) R s := by
  have hDw : D ∉ wr := fun h => hD (W.sub _ h)
  have sub : ∀ b ∈ wr, b ∈ D :: wr := fun b hb => List.mem_cons_of_mem _ hb
  induction k with
  | zero =>
    intro i s hk hi st hS hR
    obtain rfl : i = n := by omega
    refine codeAny_builtin PyProof.Rows.F.entry_set_update_loop ?_
    rw [Around.under_plainId PyProof.Rows.F.plain_set_update_loop _]
    show wpAny _ A.in1 (pyNext (.ref it) >>= _) _ _ s
    refine wpAny_bind (W.done s _ _ st fun s' hm => ?_)
    show wpAny _ A.in1 (ret Value.none) _ _ s'
    obtain ⟨o, es, ep, t, ho, rest⟩ := hS
    exact wpAny_pure (hR s' (hm.mono sub) ⟨o, es, ep, t, hm.heap D _ hDw ho, rest⟩)
  | succ k ih =>
    intro i s hk hi st hS hR
    have lt : i < n := by omega
    refine codeAny_builtin PyProof.Rows.F.entry_set_update_loop ?_
    rw [Around.under_plainId PyProof.Rows.F.plain_set_update_loop _]
    show wpAny _ A.in1 (pyNext (.ref it) >>= _) _ _ s
    refine wpAny_bind (W.item i s _ _ lt st fun v s' hP st' hm => ?_)
    obtain ⟨t, rfl⟩ := hv i v hP
    have hS' : s'.heap.SetOf (PySem.strKind P w) D (metS xs i) i := by
      obtain ⟨o, es, ep, tb, ho, rest⟩ := hS
      exact ⟨o, es, ep, tb, hm.heap D _ hDw ho, rest⟩
    show wpAny _ A.in1 (holding [Value.str (xs.getD i Str.empty) t] (setAdd D (.str (xs.getD i Str.empty) t)) >>= _) _ _ s'
    refine wpAny_bind (wpAny_holding ?_)
    unfold setAdd
    refine wpAny_holding ?_
    refine wpAny_bind ((PySem.strKind P w).pyHash (k := xs.getD i Str.empty) (strKind_is _ _ _ _) ?_)
    refine wpAny_setAddHashed_of (knd := PySem.strKind P w) (s := { s' with toks := s'.toks + 1 }) (strKind_is _ _ _ _) rfl hS' (by omega) fun h' sb hS2 => ?_
    have hS3 : h'.SetOf (PySem.strKind P w) D (metS xs (i + 1)) (i + 1) :=
      SetOf_congr hS2 (fun k => metS_succ (by omega) k) (by rw [metS_new nd (by omega)]; rfl)
    refine wpAny_pure ⟨plainId_quiet PyProof.Rows.F.plain_set_update_loop _, ih (i + 1) _ (by omega) lt (W.frame _ s' _ _ st' (Nat.le_succ _) fun b hb o e => ?_) hS3 fun s2 hm2 hS4 => ?_⟩
    · rw [sb.2 b (fun h : b = D => hD (by rw [← h]; exact hb))]; exact e
    · refine hR s2 (Moved.trans W.gtrans ((hm.mono sub).then_heap (Nat.le_succ _) fun b o hb e => ?_) hm2) hS4
      rw [sb.2 b (fun h : b = D => hb (by rw [h]; exact List.mem_cons_self))]; exact e
end
section
variable {P : Program} {w : World} {A : Around} {E : Value → Shared → Prop} {s : Shared}
/-- a fresh set object -/
abbrev setNew (led : Bool) : Obj := { cls := .type "set", dict := none, data := .set #[] 0 (.fresh 0 0 led) }
theorem call_setS {l : Addr} {items : Array Value} {xs : List Str} {Q : Value → Shared → Prop} (hh : A.handled = none) (hl : s.heap.IsList l items) (hi : StrsAre items.toList xs) (nd : xs.Nodup) (hn1 : xs.length + 1 < scanBound)
    (h : ∀ (h' : Heap) (tk : Nat), h'.SetOf (PySem.strKind P w) s.heap.objs.size (metS xs xs.length) xs.length → (∀ b o, b < s.heap.objs.size → s.heap.get? b = some o → h'.get? b = some o) →
      Q (.ref s.heap.objs.size) { s with heap := h', toks := tk }) : wpAny (model P w) A (call (.type "set") [.ref l]) Q E s := by
  have hsz : xs.length = items.size := by rw [← StrsAre.len_eq hi, Array.length_toList]
  obtain ⟨c, tl, hmro⟩ := PySem.F.called_set.mro
  have hmade := PySem.F.called_set.made
  have hsub := PySem.F.called_set.sub
  refine wpAny_call (codeAny_of_tree ?_)
  show wpAny _ _ (callAny (.type "set") _) _ _ _
  refine wpAny_pure ⟨Code.quiet_builtin _ (by decide +kernel), codeAny_builtin PySem.F.entry_type_call ?_⟩
  rw [Around.under_plain (weight_type_call_type "set" [.ref l] []) rfl]
  have h1 := PySem.F.called_set.notType
  have h2 := PySem.F.called_set.canCreate
  have hct := PySem.F.typeCall_set_1 (.ref l)
  repeat (any_goals (first | assumption | wp_step))
  refine codeAny_mono (code_set_new_1 (.ref l) (E := E) (Q₁ := fun obj s₁ => ∃ led : Bool, obj = .ref s.heap.objs.size ∧ s₁ = { s with heap := s.heap.push (setNew led) }) fun led => ⟨led, rfl, rfl⟩) fun r s₁ hr => ?_
  cases r with
  | error e => exact hr
  | ok fl =>
    cases fl with
    | ret obj =>
      obtain ⟨led, rfl, rfl⟩ := hr
      have hS : (s.heap.push (setNew led)).get? s.heap.objs.size = some (setNew led) := Heap.get?_push_size _ rfl
      have hT : Shared.TypeIs { s with heap := s.heap.push (setNew led) } (.ref s.heap.objs.size) "set" := ⟨_, hS, rfl⟩
      have hli := PySem.F.called_set.init.lookup
      have hbi := PySem.F.called_set.init.bind (.ref s.heap.objs.size)
      repeat (any_goals (first | assumption | wp_step))
      refine codeAny_mono (codeAny_call_builtin (R := wants (fun r s₂ => r = .none ∧ ∃ h' tk, s₂ = { s with heap := h', toks := tk } ∧ h'.SetOf (PySem.strKind P w) s.heap.objs.size (metS xs xs.length) xs.length ∧
          (∀ b o, b < s.heap.objs.size → s.heap.get? b = some o → h'.get? b = some o)) E) PySem.F.called_set.init.plain PySem.F.entry_set_init (check_set_init_1 hT ?_)) fun r₂ s₂ hr₂ => ?_
      · obtain ⟨ol, hol, hcl, nl, hdl⟩ := hl
        obtain ⟨ocls, odict, odata, oslots⟩ := ol
        simp only at hcl hdl
        subst hcl hdl
        have hol' : (s.heap.push (setNew led)).get? l = some { cls := .type "list", dict := odict, data := .seq items nl, slots := oslots } := Heap.get?_push_of_some _ hol
        have hsls := PySem.F.sub_list_set
        have hslf := PySem.F.sub_list_frozenset
        have hne : (Value.type "list" == Value.type "dict") = false := by decide
        have hl1 : (s.heap.push (setNew led)).IsList l items := ⟨_, hol', rfl, nl, rfl⟩
        unfold Builtin.«set.__init__» noKeywords Builtin.Frozenset.updateFrom
        generalize hPI : pyIter = PI
        wp_walk
        subst hPI
        refine wpAny_pyIter_list hl1 ?_
        refine wpAny_bind (wpAny_runValue ?_)
        have hlS : l < s.heap.objs.size := Heap.lt_size hol
        have hA3 : A.in1.in1.in1.handled = none := by simp [hh]
        have z1 : (s.heap.push (setNew led)).objs.size = s.heap.objs.size + 1 := Heap.size_push ..
        have hneI : l ≠ (s.heap.push (setNew led)).objs.size := by rw [z1]; exact Nat.ne_of_lt (Nat.lt_succ_of_lt hlS)
        have hSf : s.heap.objs.size ∉ [(s.heap.push (setNew led)).objs.size, l] := by
          rw [z1]
          intro z
          rcases List.mem_cons.mp z with z | z
          · exact absurd z (Nat.ne_of_lt (Nat.lt_succ_self _))
          · exact absurd (List.mem_singleton.mp z) (Nat.ne_of_gt hlS)
        have hval : ∀ (i : Nat) (v : Value), items[i]? = some v → ∃ t, v = .str (xs.getD i Str.empty) t := fun i v hv => SS.strs_at hi i v (by rw [Array.getElem?_toList]; exact hv)
        refine loop_setS ((Walks.list hA3 _ l hneI items).toS) s.heap.objs.size hSf xs nd hsz (by omega) hval (items.size - 0) 0 _ (by omega) (Nat.zero_le _) ⟨⟨_, Heap.get?_push_size _ rfl, rfl, rfl⟩, (hl1.push _)⟩ ?hS0 ?hR
        case hS0 =>
          have hget : ((s.heap.push (setNew led)).push { cls := .type "list_iterator", data := .fields #[.ref l, .int 0 0] }).get? s.heap.objs.size = some (setNew led) := Heap.get?_push_of_some _ hS
          exact SetOf_congr ((setObjOf_fresh (knd := PySem.strKind P w) led).setOf hget (by unfold scanBound; omega)) (fun _ => rfl) rfl
        case hR =>
          intro s' hm hS'
          obtain ⟨h', g', d', tk', os'⟩ := s'
          obtain rfl : g' = s.gens := hm.gens
          obtain rfl : d' = s.drawn := hm.drawn
          obtain rfl : os' = s.os := hm.os
          show wpAny _ _ _ _ _ _
          refine wpAny_pure ?_
          show wpAny _ _ (ret Value.none) _ _ _
          rw [← hsz] at hS'
          refine wpAny_pure ⟨rfl, h', tk', rfl, hS', fun b o hb e => ?_⟩
          refine hm.heap b o (fun z => ?_) (Heap.get?_push_of_some _ (Heap.get?_push_of_some _ e))
          rcases List.mem_cons.mp z with z | z
          · exact absurd z (Nat.ne_of_lt hb)
          · rw [z1] at z
            exact absurd (List.mem_singleton.mp z) (Nat.ne_of_lt (Nat.lt_succ_of_lt hb))
      · cases r₂ with
        | error e => exact hr₂
        | ok fl₂ =>
          cases fl₂ with
          | ret r =>
            obtain ⟨rfl, h', tk, rfl, hS', hk'⟩ := hr₂
            repeat (any_goals (first | assumption | wp_step))
            exact h _ _ hS' hk'
          | _ => exact hr₂.elim
    | _ => exact hr.elim
end
def tLenSetS (K : PySem.W.Frag) (ta : TE) : TE := fun σ H Q => ta σ H fun x H1 => ∃ (l : Addr) (xs : List Str), x = .ref l ∧ SqL K H1 l (xs.map V.str) ∧ xs.Nodup ∧ xs.length ≤ 4000 ∧ Q (.int (xs.length : Nat)) H1
theorem pe_lenSetS {X : Cx} {a : Expr} {ta : TE} {p p2 q pos : Pos} (hg : Gl X "len") (hm : X.mg "len" = none) (hg2 : Gl X "set") (hm2 : X.mg "set" = none) (ha : PE X a ta) (hc : X.calm = true := by rfl)
    (na : starEach [a] X.env = (false, eval a X.env) :: starEach [] X.env := by rfl) : PE X (.Call (.Name "len" p) [.Call (.Name "set" p2) [a] [] q] [] pos) (tLenSetS X.K ta) := by
  refine ⟨fun pins s σ H Q I h => ?_⟩
  refine Call_ (ld_blt I hg hm boot_len ?_)
  refine PyProof.Rows.callWith_builtin1 (PyProof.Rows.args_cons ?_ rfl) rfl rfl
  refine Call_ (ld_blt I hg2 hm2 boot_set ?_)
  refine PyProof.Rows.callWith_type1 (PyProof.Rows.args_cons (thn (ha.run pins s σ H _ I h) fun v s1 ⟨x, H1, I1, r1, q1⟩ => PyProof.Rows.args_nil ?_) na) na rfl
  obtain ⟨l, xs, rfl, hq, nd, hl, q1⟩ := q1
  cases r1
  obtain ⟨its, r, pl, hz⟩ := I1.list hq
  refine call_setS (I1.ok.hd hc) pl.isList (by simpa using strsAre_of r) nd (by unfold scanBound; omega) fun h' tk hS hk => ?_
  refine PyProof.Rows.args_nil ?_
  obtain ⟨o, es, ep, t, ho, hex, hd, _, _, _, hf, hn⟩ := hS
  have J : Inv X pins σ H1 { s1 with heap := h', toks := tk } := I1.kept fun b o e => hk b o (Heap.lt_size e) e
  exact call_len_set ho hex hd hf (by rw [hn] <;> omega) ⟨.int xs.length, H1, J.tok _, ⟨_, by rw [hn]⟩, q1⟩
/-! ### d.update(e), both dicts with int and text keys -/
def rDUpd : V → List V → Hp → VK → Prop := fun x vs H Q => ∃ (a b : Addr) (kvs more : List (Key × V)), x = .ref a ∧ vs = [.ref b] ∧ H a = some (.dK kvs) ∧ H b = some (.dK more) ∧ a ≠ b ∧ kvs.length + more.length ≤ sizeLine ∧ Q .non (upd H a (.dK (mergeK kvs more)))
theorem mt_dupd {X : Cx} : MtR X "dict.update" rDUpd := by
  intro pins s σ H x vs v us Q I rx rv h
  obtain ⟨a, b, kvs, more, rfl, rfl, ha, hb, hab, hz, q⟩ := h
  obtain rfl : v = Value.ref a := rx
  obtain ⟨u, rfl, ru⟩ := vals1 rv
  obtain rfl : u = Value.ref b := ru
  obtain ⟨z1, hs1, vs1, r1, d1⟩ := dk_of I.hok ha
  obtain ⟨z2, hs2, vs2, r2, d2⟩ := dk_of I.hok hb
  refine call_meetsIn PySem.F.slot_dict_update d1.typeIs PySem.F.entry_dict_update (PySem.F.args_dict_update_2 _ _) (meets_dict_update (mixKind X.prog X.w) a b hab hs2) ⟨vs1, vs2, d1, d2, by rw [← r1.length, ← r2.length]; exact hz, fun h' dd' _ hs => ?_⟩
  have he : ∃ o, h'.get? a = some o := let ⟨o, _, _, ho, _⟩ := dd'; ⟨o, ho⟩
  exact ⟨.non, _, d_write (t' := s.toks) I (by rw [ha]; exact True.intro) hs he (dk_new (Nat.le_trans (length_mergeK more kvs) hz) hs1 (KV.merge r2 r1) dd'), rfl, q⟩
end EL

set_option Elab.async false
set_option linter.all false
set_option maxRecDepth 100000
set_option maxHeartbeats 4000000
namespace EL
open PySem PySem.Spec PyProof.Rows L2 LamX
/-! ### a lambda that outlives the def that made it -/
/-- its words, its captured cells, its code object -/
structure LF where
  qual : Str
  params : Arguments
  body : Expr
  scope : Scope
  cl : List (Str × Addr)
  c : Addr
def LamO (f : Addr) (F : LF) : HO := .ext fun h => ∃ pm ctv : Value, h.get? f = some (PySem.W.kla_obj "<lambda>" F.qual F.params F.body F.scope F.cl pm F.c ctv)
/-- a cell that no running frame has -/
def CellO (c : Addr) (v : V) : HO := .ext fun h => ∃ u, RelV v u ∧ h.IsCell c (some u)
theorem lamO_ok {P : Program} {w : World} {H : Hp} {h : Heap} {f : Addr} {F : LF} {pm ctv : Value} (e : h.get? f = some (PySem.W.kla_obj "<lambda>" F.qual F.params F.body F.scope F.cl pm F.c ctv)) : ObjOk P w H h f (LamO f F) :=
  ⟨⟨pm, ctv, e⟩, ⟨_, e⟩, fun h1 h2 ⟨p, t, z⟩ st => ⟨p, t, st _ z⟩⟩
theorem cellO_ok {P : Program} {w : World} {H : Hp} {h : Heap} {c : Addr} {v : V} {u : Value} (r : RelV v u) (e : h.IsCell c (some u)) : ObjOk P w H h c (CellO c v) := by
  obtain ⟨o, ho, hd⟩ := e
  exact ⟨⟨u, r, o, ho, hd⟩, ⟨o, ho⟩, fun h1 h2 ⟨u, r, o, ho, hd⟩ st => ⟨u, r, o, st _ ho, hd⟩⟩
theorem lamO_at {P : Program} {w : World} {H : Hp} {h : Heap} {f : Addr} {F : LF} (ok : HOk P w H h) (e : H f = some (LamO f F)) : ∃ pm ctv : Value, h.get? f = some (PySem.W.kla_obj "<lambda>" F.qual F.params F.body F.scope F.cl pm F.c ctv) := (ok f _ e).1
theorem cellO_at {P : Program} {w : World} {H : Hp} {h : Heap} {c : Addr} {v : V} (ok : HOk P w H h) (e : H c = some (CellO c v)) : ∃ u, RelV v u ∧ h.IsCell c (some u) := (ok c _ e).1
theorem codeO_rec {P : Program} {w : World} {H : Hp} {h : Heap} {c : Addr} {q : Str} (ok : HOk P w H h) (e : H c = some (CodeO c q)) : h.CodeRec (.ref c) q := by
  obtain ⟨⟨oc, vs, t, h1, h2, h3⟩, _, _⟩ := ok c _ e
  exact ⟨c, oc, vs, t, rfl, h1, h2, h3⟩
theorem upd_no {H : Hp} {a b : Addr} {o : HO} (e : upd H a o b = none) : H b = none := by
  unfold upd at e
  split at e
  · cases e
  · exact e
section
variable {X : Cx} {pins : List (Addr × Obj)} {σ : L2.St} {H : Hp} {s : Shared}
/-- the reading of a lambda: a new object, its code object new or found in the table -/
def tLamE (P : Addr) (q : Str) (mk : Addr → LF) : TE := fun _ H Q => TabS H P q ∧ ∀ (f c' : Addr) (H1 : Hp), ExtN H H1 → (∀ b, H1 b = none → H b = none) → TabS H1 P q → H f = none → H1 f = some (LamO f (mk c')) → H1 c' = some (CodeO c' q) → Q (.ref f) H1
theorem pe_lam {c P : Addr} {params : Arguments} {body : Expr} {scope : Scope} {pos : Pos} (TB : TabB X.base X.mg c P) (hcode : X.env.code = .ref c) (hdef : defaultsOf params X.env = ([], []))
    (hfree : ∀ y ∈ scope.names, y.2 = .free → X.env.scope.names.lookup y.1 = some .cell ∨ X.env.scope.names.lookup y.1 = some .free) :
    PE X (.Lambda params body scope pos) (tLamE P (X.env.qual ++ "<lambda>") fun c' => ⟨X.env.qual ++ "<lambda>", params, body, scope, cloFrom X.env.cells scope.names [], c'⟩) := by
  refine ⟨fun pins s σ H Q I h => ?_⟩
  obtain ⟨⟨ps, hP, ht, ha⟩, h⟩ := h
  have hfr : ∀ y ∈ scope.names, y.2 = .free → ∃ c, X.env.cells.lookup y.1 = some c := fun y hy e => (hfree y hy e).elim (fun z => I.ok.has _ (.inl z)) fun z => I.ok.has _ (.inr z)
  refine PySem.W.kla_eval hdef ?_
  have bP : s.heap.BuiltinsAt X.mg P := TB.bm.keeps I.bk
  have hP' : s.heap.get? P = some { cls := .none, data := .fields ps } := I.hok P _ hP
  have laid : ∀ {s1 : Shared} {H1 : Hp} {c' : Addr} {ctv : Value} {tk : Nat}, Inv X pins σ H1 s1 →
      Inv X pins σ (upd H1 s1.heap.objs.size (LamO s1.heap.objs.size ⟨X.env.qual ++ "<lambda>", params, body, scope, cloFrom X.env.cells scope.names [], c'⟩))
        { s1 with heap := s1.heap.push (PySem.W.kla_obj "<lambda>" (X.env.qual ++ "<lambda>") params body scope (cloFrom X.env.cells scope.names []) ((X.mg "__name__").getD .none) c' ctv), toks := tk } := fun {s1 H1 c' ctv tk} J =>
    J.laid (fun b u e => Heap.get?_push_of_some _ e) (Nat.le_refl _) (lamO_ok (Heap.get?_push_size _ rfl))
  cases hc : codeAmong pos ps.toList with
  | none =>
    refine PySem.W.kla_makeFunction (mg := X.mg) (c := c) (P := P) (ps := ps) (closure_ok hfr) I.ok.glob (I.mod.glob.keeps I.bk) hcode (TB.code.keeps I.bk) hP' ht hc TB.gP bP fun c' ctv h' tk hx hge hlt hrec htb => ?_
    obtain ⟨c2, oc, vs, t, e2, hoc, hd, hv⟩ := hrec
    cases e2
    have nC : H c' = none := I.hok.fresh hge
    have I1 := inv_table (t' := tk) (more := #[rawInt pos.line, rawInt pos.col, .ref c']) (h' := h') I hP (fun b o hb e => hx b o hb e) htb hge ⟨oc, vs, t, hoc, hd, hv⟩
    generalize hH1 : upd (upd H P (.tbl (ps ++ #[rawInt pos.line, rawInt pos.col, .ref c']))) c' (CodeO c' (X.env.qual ++ "<lambda>")) = H1 at I1
    have eN : ExtN H H1 := fun b o e n => by
      rw [← hH1, upd_ne (ne_of_none e nC), upd_ne (fun z => n ps (Option.some.inj (e.symm.trans (by rw [z]; exact hP))))]
      exact e
    have back : ∀ b, H1 b = none → H b = none := fun b e => upd_no (upd_no (by rw [hH1]; exact e))
    have h1c : H1 c' = some (CodeO c' (X.env.qual ++ "<lambda>")) := by rw [← hH1]; exact upd_same
    have h1P : H1 P = some (.tbl (ps ++ #[rawInt pos.line, rawInt pos.col, .ref c'])) := by rw [← hH1, upd_ne (ne_of_none hP nC)]; exact upd_same
    have nF : H1 h'.objs.size = none := I1.hok.fresh (Nat.le_refl _)
    have nF0 : H h'.objs.size = none := back _ nF
    have J := laid (c' := c') (ctv := ctv) (tk := tk) I1
    refine ⟨.ref h'.objs.size, _, J, rfl, h h'.objs.size c' _ (fun b o e n => ?_) (fun b e => back _ (upd_no e)) ?_ nF0 upd_same ?_⟩
    · exact (upd_ne (ne_of_none (eN b o e n) nF)).trans (eN b o e n)
    · refine ⟨_, (upd_ne (ne_of_none h1P nF)).trans h1P, ?_, fun p' cv hcv => ?_⟩
      · rw [show (ps ++ #[rawInt pos.line, rawInt pos.col, .ref c']).toList = ps.toList ++ [rawInt pos.line, rawInt pos.col, .ref c'] by simp]
        exact PySem.TriplesOk_snoc _ _ _ _ ht
      · rw [show (ps ++ #[rawInt pos.line, rawInt pos.col, .ref c']).toList = ps.toList ++ [rawInt pos.line, rawInt pos.col, .ref c'] by simp] at hcv
        rcases among_app _ ht hcv with z | z
        · obtain ⟨c0, e1, e2⟩ := ha p' cv z
          have e3 := eN _ _ e2 codeO_ne
          exact ⟨c0, e1, (upd_ne (ne_of_none e3 nF)).trans e3⟩
        · exact ⟨c', z, (upd_ne (ne_of_none h1c nF)).trans h1c⟩
    · exact (upd_ne (ne_of_none h1c nF)).trans h1c
  | some cv =>
    obtain ⟨c', e, hco⟩ := ha pos cv hc
    subst e
    refine PySem.W.kla_makeFunctionHit (mg := X.mg) (c := c) (P := P) (ps := ps) (closure_ok hfr) I.ok.glob (I.mod.glob.keeps I.bk) hcode (TB.code.keeps I.bk) hP' ht hc bP fun ctv h' tk hx hsz => ?_
    have I1 : Inv X pins σ H { s with heap := h', toks := tk } := I.kept hx
    have nF : H h'.objs.size = none := I1.hok.fresh (Nat.le_refl _)
    have J := laid (c' := c') (ctv := ctv) (tk := tk) I1
    have ex : ∀ b o, H b = some o → upd H h'.objs.size (LamO h'.objs.size ⟨X.env.qual ++ "<lambda>", params, body, scope, cloFrom X.env.cells scope.names [], c'⟩) b = some o := fun b o e => (upd_ne (ne_of_none e nF)).trans e
    exact ⟨.ref h'.objs.size, _, J, rfl, h h'.objs.size c' _ (fun b o e _ => ex b o e) (fun b e => upd_no e) (TabS.ext ⟨ps, hP, ht, ha⟩ ex) nF upd_same (ex _ _ hco)⟩
end
/-! ### def g(x): return lambda ..: .., x captured -/
/-- what g hands back -/
def spMaker (P : Addr) (q : Str) (x : Str) (params : Arguments) (body : Expr) (scope : Scope) : Sp := fun vs H Q _ => ∃ v : V, vs = [v] ∧ TabS H P q ∧
  ∀ (f c c' : Addr) (H' : Hp), ExtN H H' → (∀ b, H' b = none → H b = none) → TabS H' P q → H f = none → H c = none → H' f = some (LamO f ⟨q, params, body, scope, [(x, c)], c'⟩) → H' c = some (CellO c v) → H' c' = some (CodeO c' q) → Q (.ref f) H'
theorem maker_ok {Pg : Program} {w : World} {K : PySem.W.Frag} {mg : Str → Option Value} {base : Heap} {f c P : Addr} {fd : FuncData} {x qx : Str} {params lp : Arguments} {lb : Expr} {ls : Scope} {scope : Scope} {p1 p2 : Pos}
    (F : FunD K qx qx params [.Return (some (.Lambda lp lb ls p1)) p2] scope [] [] f fd) (S : FnScope [x] [x] scope) (hx : scope.names.lookup x = some .cell) (hc : ∀ n, cellsFrom n scope.names [] = [(x, n)])
    (hl : ∀ n, cloFrom [(x, n)] ls.names [] = [(x, n)]) (hdef : ∀ env : Env, defaultsOf lp env = ([], [])) (hfree : ∀ y ∈ ls.names, y.2 = .free → scope.names.lookup y.1 = some .cell ∨ scope.names.lookup y.1 = some .free)
    (TB : TabB base mg c P) (hcd : fd.code = .ref c) : FnOk Pg w K mg base C8.CX0 2 f fd [x] (spMaker P (qx ++ ".<locals>." ++ "<lambda>") x lp lb ls) := by
  obtain ⟨oc, od, dV, kV, doc, pm, an, cdv, ct, osl, rfl, lk, hcq, _, _⟩ := F.ex
  have hcd : cdv = .ref c := hcd
  subst hcd
  refine ⟨fun vs H Q E h => ?_, fun A outer s H args us vs Q E hr e0 hb r hsp => ?_⟩
  · obtain ⟨v, rfl, _⟩ := h
    rfl
  obtain ⟨v, rfl, hT, hQ⟩ := hsp
  have KX : K.In s.heap := e0.mod.kin.keeps fun b o e => (e0.bs b o e).1
  have lim : s.heap.NoLimit := e0.mod.nolimit.keeps fun b o e => (e0.bs b o e).1
  have hkind : ∀ y ∈ [x].zip us, scope.names.lookup y.1 = some .local ∨ (scope.names.lookup y.1 = some .cell ∧ ((cellsFrom (s.heap.objs.size + 1) scope.names []).lookup y.1).isSome = true) := fun ⟨n, v⟩ hy => by
    have e : n = x := List.mem_singleton.mp (List.of_mem_zip hy).1
    exact .inr ⟨by rw [e]; exact hx, PySem.W.cellsFrom_some _ _ _ (.inl (by rw [e]; exact hx))⟩
  refine codeAny_call_function hr.depth (KX _ _ lk) rfl S.co S.gen rfl (PySem.W.codeRec_of KX hcq) (hb _ _ _ _ ?_)
  refine wpAny_newFunctionEnv_cells S.kind hkind fun env he s1 y => ?_
  subst he
  refine ⟨lim.keeps y.toInCall.keep, codeAny_func ?_⟩
  have I : Inv (cxOf C8.CX0 Pg w K mg base [x] qx scope f (.ref c) A outer s H E) [] (L2.start [x] [v]) H s1 := inv_start S hr.hd e0 rfl r y
  have PL := pe_lam (X := cxOf C8.CX0 Pg w K mg base [x] qx scope f (.ref c) A outer s H E) (c := c) (P := P) (params := lp) (body := lb) (scope := ls) (pos := p1) TB rfl (hdef _) hfree
  have eC : (cxOf C8.CX0 Pg w K mg base [x] qx scope f (.ref c) A outer s H E).env.cells = [(x, s.heap.objs.size + 1)] := hc _
  refine wpAny_execs_cons (wpAny_Return_some (wpAny_mono (PL.run [] s1 (L2.start [x] [v]) H (fun u H1 => ∃ f c', u = .ref f ∧ ExtN H H1 ∧ (∀ b, H1 b = none → H b = none) ∧ TabS H1 P (qx ++ ".<locals>." ++ "<lambda>") ∧ H f = none ∧
      H1 f = some (LamO f ⟨qx ++ ".<locals>." ++ "<lambda>", lp, lb, ls, [(x, s.heap.objs.size + 1)], c'⟩) ∧ H1 c' = some (CodeO c' (qx ++ ".<locals>." ++ "<lambda>"))) I ⟨hT, fun f c' H1 a1 a2 a3 a4 a5 a6 => ⟨f, c', rfl, a1, a2, a3, a4, ?_, a6⟩⟩) (fun u s2 hq => ?_) fun e s2 hq => hq))
  · rw [eC, hl] at a5
    exact a5
  obtain ⟨u', H1, J, ru, f1, c', rfl, a1, a2, a3, a4, a5, a6⟩ := hq
  obtain rfl : u = Value.ref f1 := ru
  -- the cell
  have hcell : ∃ u, RelV v u ∧ s2.heap.IsCell (s.heap.objs.size + 1) (some u) := by
    obtain ⟨m, hn, hl2⟩ := J.loc
    obtain ⟨u, rv, lo⟩ := hl2 0 x v rfl rfl (.inr (.inl hx))
    refine ⟨u, rv, ?_⟩
    rcases lo with ⟨z, _⟩ | ⟨_, c0, z, q⟩
    · have z' : scope.names.lookup x = some .local := z
      rw [hx] at z'
      cases z'
    · rw [eC] at z
      have e : c0 = s.heap.objs.size + 1 := by
        have z2 : (match x == x with | true => some (s.heap.objs.size + 1) | false => none) = some c0 := z
        rw [show (x == x) = true from beq_self_eq_true x] at z2
        exact (Option.some.inj z2).symm
      rw [← e]
      exact q
  have nC : H1 (s.heap.objs.size + 1) = none := J.freeC x _ (by
    rw [eC]
    show (match x == x with | true => some (s.heap.objs.size + 1) | false => none) = some (s.heap.objs.size + 1)
    rw [show (x == x) = true from beq_self_eq_true x])
  obtain ⟨u, rv, hcell⟩ := hcell
  have hok : HOk Pg w H1 s2.heap := J.hok
  have un : Un (frs outer) [] H H1 s.heap s2.heap := J.base
  have up : ∀ b o, H1 b = some o → upd H1 (s.heap.objs.size + 1) (CellO (s.heap.objs.size + 1) v) b = some o := fun b o e => (upd_ne (ne_of_none e nC)).trans e
  have new : ∀ b o, s.heap.get? b = some o → b ≠ s.heap.objs.size + 1 := fun b o e => Nat.ne_of_lt (Nat.lt_succ_of_lt (Heap.lt_size e))
  show CE outer Pg w H s Q (.ref f1) s2
  refine ⟨.ref f1, upd H1 (s.heap.objs.size + 1) (CellO (s.heap.objs.size + 1) v), J.os, J.bare, ⟨un.keep, un.slot, fun b o e n hb => ?_, un.there, fun b xs e => up _ _ (un.tups b xs e), fun b o z e => up _ _ (un.frzs b o z e), fun b ps e => ?_⟩, fun b o e => ?_, rfl, ?_⟩
  · rw [upd_ne (new b o e)]
    exact un.free b o e n hb
  · obtain ⟨more, z⟩ := un.tbls b ps e
    exact ⟨more, up _ _ z⟩
  · by_cases hb : b = s.heap.objs.size + 1
    · subst hb
      rw [upd_same] at e
      cases e
      exact cellO_ok rv hcell
    · rw [upd_ne hb] at e
      exact (hok b o e).stay (fun d z _ q => q) (fun d q => up _ _ q) fun d z q => up _ _ q
  · refine hQ f1 (s.heap.objs.size + 1) c' _ (fun b o e n => up _ _ (a1 b o e n)) (fun b e => a2 b (upd_no e)) (a3.ext up) a4 (e0.hok.fresh (Nat.le_succ _)) (up _ _ a5) upd_same (up _ _ a6)
/-! ### the closure is called -/
def er (H : Hp) (c : Addr) : Hp := fun b => if b = c then none else H b
theorem er_same {H : Hp} {c : Addr} : er H c c = none := if_pos rfl
theorem er_ne {H : Hp} {c b : Addr} (h : b ≠ c) : er H c b = H b := if_neg h
theorem er_some {H : Hp} {c b : Addr} {o : HO} (h : er H c b = some o) : b ≠ c ∧ H b = some o := by
  by_cases e : b = c
  · rw [e, er_same] at h
    cases h
  · exact ⟨e, by rw [← h, er_ne e]⟩
theorem cellO_no {H : Hp} {c : Addr} {v : V} (hc : H c = some (CellO c v)) {b : Addr} {o : HO} (h : H b = some o) (n : ∀ φ, o ≠ .ext φ) : b ≠ c := fun e => by
  rw [e, hc] at h
  exact n _ (Option.some.inj h).symm
abbrev LF.nf (F : LF) : NdefX.NF := ⟨"<lambda>", F.qual, F.params, [], F.scope, F.cl, F.c⟩
theorem lam_run {P : Program} {w : World} {K : PySem.W.Frag} {mg : Str → Option Value} {base : Heap} {N ps : List Str} {x : Str} {F : LF} {f c : Addr} {k : Nat} {tb : TE} {A : Around} {outer : List Env} {s : Shared} {H : Hp} {us : List Value} {vs : List V} {v : V} {Q : VK}
    (S : NdefX.NScope N ps [x] F.scope) (hcl : F.cl = [(x, c)]) (hb : ∀ (pm ctv : Value) (us : List Value), us.length = ps.length → bindArgs (PySem.W.kla_fn "<lambda>" F.qual F.params F.body F.scope F.cl pm (.ref F.c) ctv) ⟨us, []⟩ = pure (ps.zip us))
    (hbody : ∀ (A : Around) (outer : List Env) (s : Shared) (H : Hp) (E : XK), Room k (A.deeper (NdefX.envF F.nf f s.heap.objs.size)) → PE (NdefX.ncx C8.CX0 P w K mg base N F.nf f A outer s H E) F.body tb)
    (hr : Room (k + 1) A) (e0 : Env0 P w K mg base A outer s H) (hf : H f = some (LamO f F)) (hc : H c = some (CellO c v)) (hq : H F.c = some (CodeO F.c F.qual)) (r : Vals vs us) (hl : vs.length = ps.length)
    (h : tb (NdefX.startF N vs [some v]) (er H c) fun u H' => H' = er H c ∧ Q u H) : codeAny (model P w) A (.call (.ref f) ⟨us, []⟩) (CR C8.CX0 outer P w H s Q C8.E0) s := by
  have lim : s.heap.NoLimit := e0.mod.nolimit.keeps fun b o e => (e0.bs b o e).1
  obtain ⟨pm, ctv, ho⟩ := lamO_at e0.hok hf
  obtain ⟨u, rv, hcell⟩ := cellO_at e0.hok hc
  have hok0 : HOk P w (er H c) s.heap := fun b o e => by
    obtain ⟨_, e2⟩ := er_some e
    exact (e0.hok b o e2).stay (fun d z _ q => q) (fun d q => by rw [er_ne (cellO_no hc q fun φ z => by cases z)]; exact q) fun d xs q => by rw [er_ne (cellO_no hc q fun φ z => by cases z)]; exact q
  have e1 : Env0 P w K mg base A outer s (er H c) := ⟨e0.frames, e0.mod, fun b o e => ⟨(e0.bs b o e).1, by
      by_cases z : b = c
      · rw [z]; exact er_same
      · rw [er_ne z]; exact (e0.bs b o e).2⟩, e0.bsz, e0.funs, fun b z => by
      by_cases q : b = c
      · rw [q]; exact er_same
      · rw [er_ne q]; exact e0.frf b z, hok0, e0.bare⟩
  have C : NdefX.CellsAt F.nf.cl [x] [some v] s.heap (er H c) := by
    have look : ∀ {y a}, F.nf.cl.lookup y = some a → y = x ∧ a = c := fun {y a} e => by
      have e2 : F.nf.cl = [(x, c)] := hcl
      rw [e2] at e
      have e3 : (match y == x with | true => some c | false => none) = some a := e
      cases q : y == x with
      | false => rw [q] at e3; cases e3
      | true =>
        rw [q] at e3
        exact ⟨eq_of_beq q, (Option.some.inj e3).symm⟩
    have lookx : F.nf.cl.lookup x = some c := by
      have e2 : F.nf.cl = [(x, c)] := hcl
      rw [e2]
      show (match x == x with | true => some c | false => none) = some c
      rw [show (x == x) = true from beq_self_eq_true x]
    refine ⟨rfl, fun y a e => ?_, fun y z a h1 h2 => (look h1).1.trans (look h2).1.symm, fun i y e => ?_⟩
    · obtain ⟨_, rfl⟩ := look e
      exact ⟨er_same, _, hcell⟩
    · cases i with
      | zero =>
        cases e
        exact ⟨c, lookx, fun w' hw => by cases hw; exact ⟨u, rv, hcell⟩⟩
      | succ i => cases e
  refine PySem.W.kla_callFunE hr.depth ho rfl S.co S.gen rfl (codeO_rec e0.hok hq) ?_
  rw [hb pm ctv us (by rw [← r.length]; exact hl)]
  refine wpAny_pure (wpAny_newFunctionEnv S.nocell (fun ⟨n, _⟩ hy => S.par n (List.of_mem_zip hy).1) (fun h₁ hns hsb => ⟨lim.fresh _ hsb, ?_⟩) S.kind)
  have kp : ∀ b o, s.heap.get? b = some o → h₁.get? b = some o := fun b o e => hsb.extBut b o (Nat.ne_of_lt (Heap.lt_size e)) (Heap.get?_push_of_some _ e)
  have I : Inv (NdefX.ncx C8.CX0 P w K mg base N F.nf f A outer s (er H c) C8.E0) [] (NdefX.startF N vs [some v]) (er H c) { s with heap := h₁, toks := s.toks + (ps.zip us).length } := NdefX.inv_startN S hr.hd e1 hl r C hns kp
  show codeAny _ _ (.expr F.body (NdefX.envF F.nf f s.heap.objs.size)) _ _
  refine PySem.W.kla_codeExpr (wpAny_mono ((hbody A outer s (er H c) C8.E0 (hr.deeper _)).run [] _ _ _ _ I h) (fun u2 s2 hq2 => ?_) fun e s' hq => ?_)
  · obtain ⟨v2, H2, J, r2, eH, q⟩ := hq2
    subst eH
    have un : Un (frs outer) [] (er H c) (er H c) s.heap s2.heap := J.base
    have nfr : c ∉ frs outer := fun z => by
      have q := e0.frf c z
      rw [hc] at q
      cases q
    have hok2 : HOk P w (er H c) s2.heap := J.hok
    have kc : ∀ o, s.heap.get? c = some o → s2.heap.get? c = some o := fun o e => un.keep c o e er_same nfr (by simp)
    have noE : ∀ b, H b = none → er H c b = none := fun b n => by
      by_cases z : b = c
      · rw [z]; exact er_same
      · rw [er_ne z]; exact n
    refine ⟨v2, H, J.os, J.bare, ⟨fun b o e n => un.keep b o e (noE b n), fun b o e n => un.slot b o e (noE b n), fun b o e n _ => n, un.there, fun b xs e => e, fun b o z e => e, fun b ps e => ⟨#[], by rw [Array.append_empty]; exact e⟩⟩, fun b o e => ?_, r2, q⟩
    by_cases z : b = c
    · subst z
      rw [hc] at e
      cases e
      obtain ⟨oc, hoc, hd⟩ := hcell
      exact cellO_ok rv ⟨oc, kc _ hoc, hd⟩
    · exact (hok2 b o (by rw [er_ne z]; exact e)).stay (fun d y _ q => q) (fun d q => (er_some q).2) fun d xs q => (er_some q).2
  · exact hq
/-- f(e), f a local that holds the closure; R: what the call asks -/
def tCallR (i : Nat) (R : Addr → List V → Hp → VK → Prop) (t : TA) : TE := fun σ H Q => ∃ f F, σ[i]? = some (some (.ref f)) ∧ H f = some (LamO f F) ∧ t σ H fun vs H1 => R f vs H1 Q
theorem pe_callR {X : Cx} {i k : Nat} {x : Str} {t : TA} {e : Expr} {es : List Expr} {p pos : Pos} {R : Addr → List V → Hp → VK → Prop}
    (hR : ∀ (A : Around) (outer : List Env) (s : Shared) (H : Hp) (us : List Value) (f : Addr) (vs : List V) (Q : VK), Room k A → Env0 X.prog X.w X.K X.mg X.base A outer s H → Vals vs us → R f vs H Q →
      PySem.W.FnAt f s.heap ∧ codeAny (model X.prog X.w) A (.call (.ref f) ⟨us, []⟩) (CR C8.CX0 outer X.prog X.w H s Q C8.E0) s)
    (hr : Room k X.A) (hN : X.N[i]? = some x) (hv : Vis X.env.scope x) (ha : PA X (e :: es) t)
    (hd : (x == ("__debug__" : Str)) = false := by decide) (hcd : (x == ("__classdict__" : Str)) = false := by decide)
    (he : starEach (e :: es) X.env = (false, eval e X.env) :: starEach es X.env := by rfl) (hpl : (backTo pos (starEach es X.env)).any (·.1) = false := by rfl) :
    PE X (.Call (.Name x p) (e :: es) [] pos) (tCallR i R t) := by
  refine ⟨fun pins s σ H Q I h => ?_⟩
  obtain ⟨f, F, hs, hF, ht⟩ := h
  refine wpAny_Call_Name_kw (thn ((pe_var (pos := p) hN hv hd hcd).run pins s σ H (fun v H1 => v = .ref f ∧ H1 = H) I ⟨.ref f, hs, rfl, rfl⟩) fun u s1 ⟨v, H1, I1, r1, q1⟩ => ?_)
  obtain ⟨ev, eH⟩ := q1
  subst ev eH
  obtain rfl : u = Value.ref f := r1
  obtain ⟨pm, ctv, ho⟩ := lamO_at I1.hok hF
  refine PySem.W.callWith_F (first := []) ⟨_, _, _, _, ho⟩ (thn (ha.run pos pins s1 σ H1 _ I1 ht) fun us s2 ⟨vs, H2, I2, r, q⟩ => ⟨(hR X.A X.stack s2 H2 us f vs Q hr I2.env0 r q).1, ?_⟩) he hpl
  show wpAny _ _ (call (.ref f) us) _ _ _
  refine wpAny_call (codeAny_mono (hR X.A X.stack s2 H2 us f vs Q hr I2.env0 r q).2 fun r s' hq => ?_)
  cases r with
  | error e => exact hq.elim
  | ok fl =>
    cases fl with
    | ret u => exact I2.after hq
    | next => exact False.elim hq
    | brk => exact False.elim hq
    | cont => exact False.elim hq
end EL

set_option linter.all false
/-! The mirror: what the program's defs make of words, states and homes, in plain Lean. -/
namespace EM
/-- signs: true for 1 -/
abbrev W := List Bool
/-- a home: its word, its shift, whether it is high -/
abbrev Ho := W × Nat × Bool
def stp (d : Int) (b : Bool) : Int := if b then d + 1 else d - 1
/-- the index at which the depth is 0 again -/
def fpA : Int → W → Nat → Option Nat
  | _, [], _ => none
  | d, b :: r, i => if stp d b = 0 then some i else fpA (stp d b) r (i + 1)
def first (w : W) : W × W := match fpA 0 w 0 with
  | some i => ((w.take i).drop 1, w.drop (i + 1))
  | none => (w, [])
def turn (w : W) : W := (first w).1 ++ true :: ((first w).2 ++ [false])
def bkA : Int → Nat → W → Nat → Nat
  | _, g, [], _ => g
  | d, g, b :: r, i => bkA (stp d b) (if d = 0 then i else g) r (i + 1)
def back (w : W) : W := true :: (w.take (bkA 0 0 w 0) ++ false :: (w.drop (bkA 0 0 w 0 + 1)).dropLast)
/-- f, so many times -/
def it {α : Type} (f : α → α) : Nat → α → α
  | 0, x => x
  | n + 1, x => f (it f n x)
def tt (w : W) (m : Int) : W := it (if 0 < m then turn else back) m.natAbs w
def moved (w : W) (m : Int) : W := w.drop (w.length - (m % w.length).toNat) ++ w.take (w.length - (m % w.length).toNat)
def exch (w : W) : W := w.map (!·)
def ones (w : W) : Nat := w.count true
def isHigh (w : W) : Bool := decide (w.length < 2 * ones w)
def lhA : Int → Int → Nat → W → Nat → Nat
  | _, _, g, [], _ => g
  | d, l, g, b :: r, i => if stp d b < l then lhA (stp d b) (stp d b) (i + 1) r (i + 1) else lhA (stp d b) l g r (i + 1)
def lowHome (w : W) : W × Nat := ((moved w (-(lhA 0 0 0 w 0 : Int))).dropLast, lhA 0 0 0 w 0 % w.length)
def homeIn (w : W) : W × Nat := if isHigh w then (exch (lowHome (exch w.reverse)).1.reverse, ((1 - ((lowHome (exch w.reverse)).2 : Int)) % w.length).toNat) else lowHome w
def homeOf (w : W) : Ho := ((homeIn w).1, (homeIn w).2, isHigh w)
def stateIn (h : Ho) : W := moved (h.1 ++ [h.2.2]) h.2.1
def p110 : W := [true, true, false]
def p101 : W := [true, false, true]
def pulled (w : W) : W := p101 ++ w.drop 3
def unpulled (w : W) : W := p110 ++ w.drop 3
section
variable (B : W → Bool)
def stretch (h : Ho) : Option W := if (1 ≤ h.2.1 ∧ h.2.1 ≤ 3) ∧ ¬ (h.2.1 = 3 ∧ h.2.2 = false) then (if B (tt h.1 (-(h.2.1 : Int))) then some (tt h.1 (-(h.2.1 : Int))) else none) else none
def under (w : W) : Option W := if w.take 3 = p101 then (if B (unpulled w) then some (unpulled w) else none) else none
def nextH (h : Ho) : Ho := match stretch B h with
  | some f => if h.2.2 then (if h.2.1 = 1 then (tt f 3, 3, false) else (back h.1, h.2.1 - 1, false)) else (h.1, h.2.1, true)
  | none => if h.2.1 = 0 ∧ h.2.2 = false then (match under B h.1 with
      | some u => (tt u 3, 3, true)
      | none => (turn (if B h.1 then pulled h.1 else h.1), 1, true))
    else if h.2.2 then (h.1, h.2.1, false) else (turn h.1, (h.2.1 + 1) % (h.1.length + 1), true)
def beforeH (h : Ho) : Ho :=
  if (1 ≤ h.2.1 ∧ h.2.1 ≤ 3) ∧ B (tt h.1 (-(h.2.1 : Int))) then
    (if h.2.1 = 3 then (if h.2.2 then (pulled (tt h.1 (-(h.2.1 : Int))), 0, false) else (turn (tt h.1 (-(h.2.1 : Int))), 1, true))
    else if h.2.2 then (h.1, h.2.1, false) else (turn h.1, h.2.1 + 1, true))
  else if h.2.2 then (match (if h.2.1 = 1 then under B (back h.1) else none) with
      | none => (back h.1, (((h.2.1 : Int) - 1) % (h.1.length + 1)).toNat, false)
      | some u => (u, 0, false))
    else (h.1, h.2.1, true)
def swapped (w : W) : W := if B w then pulled w else match under B w with
  | none => w
  | some u => u
def behind (w : W) : W := turn (swapped B w)
def wide (w : W) : Nat := 2 * w.length + 2
def postH (h : Ho) : W × Nat :=
  if h.2.1 = 0 then (if h.2.2 then (swapped B (back h.1), wide h.1 - 1) else (h.1, 0))
  else match stretch B h with
    | some f => (pulled f, 6 + h.2.2.toNat - 2 * h.2.1)
    | none => (swapped B (tt h.1 (-(h.2.1 : Int))), 2 * h.2.1 - h.2.2.toNat)
end
/-! the law's own -/
def goesA : Int → W → Option Int
  | d, [] => some d
  | d, b :: r => if stp d b < 0 then none else goesA (stp d b) r
/-- the word of a low state with the shift 0, empty for any other state -/
def lowWord (s : W) : W := if goesA 0 s.dropLast = some 0 ∧ s.getLast? = some false then s.dropLast else []
def longer (n : Nat) (w : W) : List W := (if w.length < 2 * ones w then [w ++ [false]] else []) ++ (if ones w < n then [w ++ [true]] else [])
def allW (n : Nat) : List W := it (fun l => l.flatMap (longer n)) (2 * n) [[]]
end EM
namespace EM
/-- f comes again behind p turns, not earlier -/
structure Per {α : Type} (f : α → α) (x : α) (p : Nat) : Prop where
  pos : 0 < p
  ret : it f p x = x
  no : ∀ j, 0 < j → j < p → it f j x ≠ x
def orb {α : Type} (f : α → α) (x : α) (p : Nat) : List α := (List.range p).map fun j => it f j x
theorem orb_succ {α : Type} (f : α → α) (x : α) (p : Nat) : orb f x (p + 1) = orb f x p ++ [it f p x] := by
  unfold orb
  rw [List.range_succ, List.map_append]
  rfl
theorem orb_len {α : Type} (f : α → α) (x : α) (p : Nat) : (orb f x p).length = p := by
  unfold orb
  rw [List.length_map, List.length_range]
theorem it_succ' {α : Type} (f : α → α) : ∀ (n : Nat) (x : α), it f (n + 1) x = it f n (f x)
  | 0, x => rfl
  | n + 1, x => congrArg f (it_succ' f n x)
theorem it_add {α : Type} (f : α → α) (a : Nat) : ∀ (b : Nat) (x : α), it f (a + b) x = it f a (it f b x)
  | 0, x => rfl
  | b + 1, x => by
    rw [← Nat.add_assoc]
    show f (it f (a + b) x) = it f a (f (it f b x))
    rw [it_add f a b x, ← it_succ' f a]
    rfl
end EM

set_option linter.all false
set_option maxRecDepth 100000
namespace EM
/-! what is asked of the book -/
def qStretch (h : Ho) : List W := if (1 ≤ h.2.1 ∧ h.2.1 ≤ 3) ∧ ¬ (h.2.1 = 3 ∧ h.2.2 = false) then [tt h.1 (-(h.2.1 : Int))] else []
def qUnder (w : W) : List W := if w.take 3 = p101 then [unpulled w] else []
def qSwap (w : W) : List W := w :: qUnder w
def qNext (h : Ho) : List W := qStretch h ++ if h.2.1 = 0 ∧ h.2.2 = false then qSwap h.1 else []
def qBefore (h : Ho) : List W := (if 1 ≤ h.2.1 ∧ h.2.1 ≤ 3 then [tt h.1 (-(h.2.1 : Int))] else []) ++ if h.2.1 = 1 ∧ h.2.2 = true then qUnder (back h.1) else []
def qPost (h : Ho) : List W := if h.2.1 = 0 then (if h.2.2 then qSwap (back h.1) else []) else qStretch h ++ qSwap (tt h.1 (-(h.2.1 : Int)))
section
variable {B B' : W → Bool}
theorem stretch_congr {h : Ho} (e : ∀ q ∈ qStretch h, B q = B' q) : stretch B h = stretch B' h := by
  unfold stretch
  unfold qStretch at e
  by_cases c : (1 ≤ h.2.1 ∧ h.2.1 ≤ 3) ∧ ¬ (h.2.1 = 3 ∧ h.2.2 = false)
  · rw [if_pos c] at e
    rw [if_pos c, if_pos c, e _ (List.mem_singleton.mpr rfl)]
  · rw [if_neg c, if_neg c]
theorem under_congr {w : W} (e : ∀ q ∈ qUnder w, B q = B' q) : under B w = under B' w := by
  unfold under
  unfold qUnder at e
  by_cases c : w.take 3 = p101
  · rw [if_pos c] at e
    rw [if_pos c, if_pos c, e _ (List.mem_singleton.mpr rfl)]
  · rw [if_neg c, if_neg c]
theorem swapped_congr {w : W} (e : ∀ q ∈ qSwap w, B q = B' q) : swapped B w = swapped B' w := by
  unfold swapped
  rw [e w List.mem_cons_self, under_congr fun q hq => e q (List.mem_cons_of_mem _ hq)]
theorem next_congr {h : Ho} (e : ∀ q ∈ qNext h, B q = B' q) : nextH B h = nextH B' h := by
  unfold nextH
  rw [stretch_congr fun q hq => e q (List.mem_append_left _ hq)]
  by_cases c : h.2.1 = 0 ∧ h.2.2 = false
  · have e2 : ∀ q ∈ qSwap h.1, B q = B' q := fun q hq => e q (List.mem_append_right _ (by rw [if_pos c]; exact hq))
    rw [under_congr fun q hq => e2 q (List.mem_cons_of_mem _ hq), e2 h.1 List.mem_cons_self]
  · simp only [if_neg c]
theorem before_congr {h : Ho} (e : ∀ q ∈ qBefore h, B q = B' q) : beforeH B h = beforeH B' h := by
  unfold beforeH
  have e1 : ((1 ≤ h.2.1 ∧ h.2.1 ≤ 3) ∧ B (tt h.1 (-(h.2.1 : Int))) = true) = ((1 ≤ h.2.1 ∧ h.2.1 ≤ 3) ∧ B' (tt h.1 (-(h.2.1 : Int))) = true) := by
    by_cases c : 1 ≤ h.2.1 ∧ h.2.1 ≤ 3
    · rw [e _ (List.mem_append_left _ (by rw [if_pos c]; exact List.mem_singleton.mpr rfl))]
    · simp only [c, false_and]
  have e2 : (if h.2.2 then (match (if h.2.1 = 1 then under B (back h.1) else none) with
      | none => (back h.1, (((h.2.1 : Int) - 1) % (h.1.length + 1)).toNat, false)
      | some u => (u, 0, false)) else (h.1, h.2.1, true)) = (if h.2.2 then (match (if h.2.1 = 1 then under B' (back h.1) else none) with
      | none => (back h.1, (((h.2.1 : Int) - 1) % (h.1.length + 1)).toNat, false)
      | some u => (u, 0, false)) else (h.1, h.2.1, true)) := by
    by_cases c : h.2.1 = 1 ∧ h.2.2 = true
    · rw [under_congr (B := B) (B' := B') fun q hq => e q (List.mem_append_right _ (by rw [if_pos c]; exact hq))]
    · by_cases c2 : h.2.2 = true
      · have c3 : ¬ h.2.1 = 1 := fun z => c ⟨z, c2⟩
        simp only [if_neg c3]
      · rw [if_neg c2, if_neg c2]
  simp only [e1]
  by_cases c : (1 ≤ h.2.1 ∧ h.2.1 ≤ 3) ∧ B' (tt h.1 (-(h.2.1 : Int))) = true
  · rw [if_pos c, if_pos c]
  · rw [if_neg c, if_neg c]
    exact e2
theorem post_congr {h : Ho} (e : ∀ q ∈ qPost h, B q = B' q) : postH B h = postH B' h := by
  unfold postH
  unfold qPost at e
  by_cases c : h.2.1 = 0
  · rw [if_pos c] at e
    rw [if_pos c, if_pos c]
    by_cases c2 : h.2.2 = true
    · rw [if_pos c2] at e
      rw [if_pos c2, if_pos c2, swapped_congr e]
    · rw [if_neg c2, if_neg c2]
  · rw [if_neg c] at e
    rw [if_neg c, if_neg c, stretch_congr fun q hq => e q (List.mem_append_left _ hq), swapped_congr fun q hq => e q (List.mem_append_right _ hq)]
end
/-! the finite look: one block, one way that the book can have the words that it asks -/
def safe (y q : W) : Bool := q == y || (y.take 3 == p101 && q == unpulled y) || !(q.take 3 == p110)
def lampsOff (a b : W) : Nat := (List.range a.length).countP fun i => a[i]? != b[i]?
def fW {α : Type} : W → (W → α) → α
  | [], k => k []
  | true :: r, k => fW r fun r => k (true :: r)
  | false :: r, k => fW r fun r => k (false :: r)
theorem fW_eq {α : Type} : ∀ (w : W) (k : W → α), fW w k = k w
  | [], k => rfl
  | true :: r, k => by show fW r (fun r => k (true :: r)) = _; rw [fW_eq r]
  | false :: r, k => by show fW r (fun r => k (false :: r)) = _; rw [fW_eq r]
def fH {α : Type} (h : Ho) (k : Ho → α) : α := match h with
  | (w, s, true) => fW w fun w => k (w, s, true)
  | (w, s, false) => fW w fun w => k (w, s, false)
theorem fH_eq {α : Type} (h : Ho) (k : Ho → α) : fH h k = k h := by
  obtain ⟨w, s, u⟩ := h
  cases u
  · show fW w (fun w => k (w, s, false)) = _; rw [fW_eq]
  · show fW w (fun w => k (w, s, true)) = _; rw [fW_eq]
def valid (n : Nat) (h : Ho) : Bool := (allW n).contains h.1 && decide (h.2.1 ≤ 2 * n)
def stepOk (n : Nat) (B : W → Bool) (y : W) (k : Nat) (h g : Ho) : Bool :=
  (k == 0 || !(h.2.1 == 0 && !h.2.2)) && (valid n h && (postH B h == (y, k) && (beforeH B g == h && (lampsOff (stateIn h) (stateIn g) == 1 && ((qNext h).all (safe y) && ((qBefore g).all (safe y) && (qPost h).all (safe y)))))))
def walkOk (n : Nat) (B : W → Bool) (y : W) : Nat → Nat → Ho → Bool
  | 0, _, h => h == (turn (swapped B y), 0, false)
  | f + 1, k, h => fH (nextH B h) fun g => stepOk n B y k h g && walkOk n B y f (k + 1) g
def blockOk (n : Nat) (B : W → Bool) (y : W) : Bool := walkOk n B y (4 * n + 2) 0 (y, 0, false)
def wordOk (n : Nat) (y : W) : Bool :=
  blockOk n (fun _ => false) y && ((!(y.take 3 == p110) || blockOk n (fun q => q == y) y) && (!(y.take 3 == p101) || blockOk n (fun q => q == unpulled y) y))
end EM

set_option Elab.async false
set_option linter.all false
set_option maxRecDepth 100000
set_option maxHeartbeats 4000000
namespace EH
open PySem PySem.Spec PyProof.Rows L2 LamX EL EM
/-! ### words as texts -/
def sg (b : Bool) : Nat := if b then 49 else 48
def txt (w : W) : Str := ⟨(w.map sg).toArray⟩
theorem txt_len (w : W) : (txt w).length = w.length := by simp [txt, Str.length]
theorem txt_list (w : W) : (txt w).cps.toList = w.map sg := by simp [txt]
theorem txt_inj {a b : W} (h : txt a = txt b) : a = b := by
  have e : a.map sg = b.map sg := by rw [← txt_list a, ← txt_list b, h]
  induction a generalizing b with
  | nil => cases b with
    | nil => rfl
    | cons y t => cases e
  | cons x r ih => cases b with
    | nil => cases e
    | cons y t =>
      rw [List.map_cons, List.map_cons] at e
      injection e with e1 e2
      have e3 : x = y := by cases x <;> cases y <;> first | rfl | (exfalso; revert e1; decide)
      rw [e3, ih (b := t) (by show txt r = txt t; unfold txt; rw [e2]) e2]
theorem txt_eq {a b : W} : (V.str (txt a) = V.str (txt b)) ↔ a = b := ⟨fun h => txt_inj (V.str.inj h), fun h => by rw [h]⟩
theorem txt_dec (a b : W) : decide (V.str (txt a) = V.str (txt b)) = decide (a = b) := by simp only [txt_eq]
theorem txt_cat (a b : W) : txt a ++ txt b = txt (a ++ b) := by
  have h : ∀ x y : Str, (x ++ y : Str) = ⟨x.cps ++ y.cps⟩ := fun _ _ => rfl
  rw [h]
  simp [txt]
theorem txt_cut (w : W) (lo hi : Option Int) : cutS (txt w) lo hi = txt ((w.drop (HT.sIx w.length 0 lo)).take (HT.sIx w.length w.length hi - HT.sIx w.length 0 lo)) := by
  unfold cutS
  rw [txt_list, txt_len]
  simp [txt, List.map_drop, List.map_take]
theorem txt_at {w : W} {i : Nat} {c : Nat} (h : (txt w).cps[i]? = some c) : ∃ b, w[i]? = some b ∧ c = sg b := by
  have e : (w.map sg)[i]? = some c := by rw [← txt_list, Array.getElem?_toList]; exact h
  rw [List.getElem?_map] at e
  cases q : w[i]? with
  | none => rw [q] at e; cases e
  | some b => rw [q] at e; exact ⟨b, rfl, (Option.some.inj e).symm⟩
theorem sg_txt (b : Bool) : (⟨#[sg b]⟩ : Str) = txt [b] := by simp [txt]
theorem s1 : ("1" : Str) = txt [true] := by decide +kernel
theorem s0 : ("0" : Str) = txt [false] := by decide +kernel
theorem s110 : ("110" : Str) = txt p110 := by decide +kernel
theorem s101 : ("101" : Str) = txt p101 := by decide +kernel
theorem sE : ("" : Str) = txt [] := by decide +kernel
theorem sz {n : Nat} (h : n ≤ 10000) : n ≤ sizeLine := Nat.le_trans h (by decide)
/-! ### what stands, stands; the table of the closure's code -/
def cS (K : PySem.W.Frag) : Addr := He.codeOf K ("sewn_by", none)
def P0 (K : PySem.W.Frag) : Addr := (He.cT K ("sewn_by", none)).2
def qL : Str := ("sewn_by" : Str) ++ ".<locals>." ++ "<lambda>"
def Tab (K : PySem.W.Frag) (H : Hp) : Prop := TabS H (P0 K) qL
structure Ex (K : PySem.W.Frag) (H H' : Hp) : Prop where
  k : ∀ a o, H a = some o → (∀ ps, o ≠ .tbl ps) → H' a = some o
  t : Tab K H → Tab K H'
  n : ∀ a, H' a = none → H a = none
section
variable {K : PySem.W.Frag} {H H1 H2 : Hp} {a p : Addr} {o : HO} {xs : List V}
theorem Ex.refl : Ex K H H := ⟨fun _ _ h _ => h, id, fun _ h => h⟩
theorem Ex.trans (a : Ex K H H1) (b : Ex K H1 H2) : Ex K H H2 := ⟨fun x o h n => b.k x o (a.k x o h n) n, fun h => b.t (a.t h), fun x h => a.n x (b.n x h)⟩
theorem Ex.new (h : H p = none) : Ex K H (upd H p o) := by
  have e : ∀ b u, H b = some u → upd H p o b = some u := fun b u q => (upd_ne (ne_of_none q h)).trans q
  exact ⟨fun b u q _ => e b u q, fun q => q.ext e, fun b q => upd_no q⟩
/-- a thing that H does not know may change -/
theorem Ex.mut (e : Ex K H H1) (h : H p = none) (h1 : H1 p = some o) (ho : ∀ φ, o ≠ .ext φ) (u : HO) : Ex K H (upd H1 p u) := by
  refine ⟨fun b v q n => ?_, fun q => ?_, fun b q => e.n b (upd_no q)⟩
  · rw [upd_ne (ne_of_none q h)]
    exact e.k b v q n
  · obtain ⟨ps, z, _⟩ := id q
    obtain ⟨ps1, h2, h3, h4⟩ := e.t q
    refine ⟨ps1, (upd_ne (ne_of_none z h)).trans h2, h3, fun pos cv hc => ?_⟩
    obtain ⟨c, e1, e2⟩ := h4 pos cv hc
    refine ⟨c, e1, (upd_ne fun z => ?_).trans e2⟩
    rw [z, h1] at e2
    exact ho _ (Option.some.inj e2)
theorem Ex.mutL (e : Ex K H H1) (h : H p = none) (h1 : H1 p = some (.lst xs)) (u : HO) : Ex K H (upd H1 p u) := e.mut h h1 (fun φ z => by cases z) u
theorem Ex.mutD {kvs : List (Key × V)} (e : Ex K H H1) (h : H p = none) (h1 : H1 p = some (.dK kvs)) (u : HO) : Ex K H (upd H1 p u) := e.mut h h1 (fun φ z => by cases z) u
theorem Ex.free (e : Ex K H H1) (h : H1 p = none) : H p = none := e.n p h
theorem Ex.lst (e : Ex K H H1) (h : H a = some (.lst xs)) : H1 a = some (.lst xs) := e.k a _ h fun ps z => by cases z
theorem Ex.tup (e : Ex K H H1) (h : H a = some (.tup xs)) : H1 a = some (.tup xs) := e.k a _ h fun ps z => by cases z
theorem Ex.dK {kvs : List (Key × V)} (e : Ex K H H1) (h : H a = some (.dK kvs)) : H1 a = some (.dK kvs) := e.k a _ h fun ps z => by cases z
theorem Ex.rd {u : HO} (e : Ex K H H1) (hu : ∀ ps, u ≠ .tbl ps) (h : Rd H a u) : Rd H1 a u := by
  rcases h with h | ⟨o, h⟩
  · exact .inl (e.k a _ h hu)
  · exact .inr ⟨o, e.k a _ h fun ps z => by cases z⟩
theorem Ex.sql (e : Ex K H H1) (h : SqL K H a xs) : SqL K H1 a xs := by
  rcases h with h | h
  · exact .inl (e.rd (fun ps z => by cases z) h)
  · exact .inr h
theorem Ex.sqt (e : Ex K H H1) (h : SqT K H a xs) : SqT K H1 a xs := by
  rcases h with h | h
  · exact .inl (e.rd (fun ps z => by cases z) h)
  · exact .inr h
end
/-! ### a Book, the closure over it -/
def wds (ws : List W) : List V := ws.map fun w => V.str (txt w)
def seen (ws : List W) : List (Key × V) := ws.map fun w => ((.inr (txt w) : Key), V.bl true)
abbrev CB (K : PySem.W.Frag) : Addr := He.ga K "Book"
def bfs (n : Int) (t d : Addr) : List (Str × V) := [("pairs", V.int n), ("words", V.ref t), ("sewn", V.ref d)]
theorem look_ne {α : Type} {x y : Str} {v : α} {r : List (Str × α)} (h : (x == y) = false) : List.lookup x ((y, v) :: r) = List.lookup x r := by
  rw [List.lookup_cons, h]
theorem look_eq {α : Type} {x : Str} {v : α} {r : List (Str × α)} : List.lookup x ((x, v) :: r) = some v := by
  rw [List.lookup_cons, beq_self_eq_true]
theorem bfs_p (n : Int) (t d : Addr) : (bfs n t d).lookup ("pairs" : Str) = some (V.int n) := look_eq
theorem bfs_w (n : Int) (t d : Addr) : (bfs n t d).lookup ("words" : Str) = some (V.ref t) := by
  unfold bfs
  rw [look_ne (by decide +kernel), look_eq]
theorem bfs_s (n : Int) (t d : Addr) : (bfs n t d).lookup ("sewn" : Str) = some (V.ref d) := by
  unfold bfs
  rw [look_ne (by decide +kernel), look_ne (by decide +kernel), look_eq]
def BookAt (K : PySem.W.Frag) (H : Hp) (b : Addr) (n : Int) (ws : List W) : Prop :=
  ∃ dx t d, H b = some (.ins (CB K) dx (bfs n t d)) ∧ H t = some (.tup (wds ws)) ∧ H d = some (.dK (seen ws))
abbrev sLam : Expr := match defBody s_sewn_by with
  | [.Return (some e) _] => e
  | _ => .Constant .none 0 ⟨0, 0, 0, 0⟩
def lamP : Arguments := match sLam with
  | .Lambda a _ _ _ => a
  | _ => ⟨[], [], none, [], [], none, []⟩
def lamB : Expr := match sLam with
  | .Lambda _ b _ _ => b
  | e => e
def lamS : Scope := match sLam with
  | .Lambda _ _ s _ => s
  | _ => ⟨.function, [], false, false, []⟩
def lamF (c c' : Addr) : LF := ⟨qL, lamP, lamB, lamS, [("book", c)], c'⟩
/-- f tells of a word whether it is one of ws -/
def Sewn (K : PySem.W.Frag) (H : Hp) (f : Addr) (ws : List W) : Prop :=
  ∃ b n c c', BookAt K H b n ws ∧ H f = some (LamO f (lamF c c')) ∧ H c = some (CellO c (.ref b)) ∧ H c' = some (CodeO c' qL)
theorem BookAt.ex {K : PySem.W.Frag} {H H1 : Hp} {b : Addr} {n : Int} {ws : List W} (e : Ex K H H1) (h : BookAt K H b n ws) : BookAt K H1 b n ws := by
  obtain ⟨dx, t, d, h1, h2, h3⟩ := h
  exact ⟨dx, t, d, e.k _ _ h1 fun ps z => (by cases z), e.tup h2, e.dK h3⟩
theorem Sewn.ex {K : PySem.W.Frag} {H H1 : Hp} {f : Addr} {ws : List W} (e : Ex K H H1) (h : Sewn K H f ws) : Sewn K H1 f ws := by
  obtain ⟨b, n, c, c', hb, h1, h2, h3⟩ := h
  exact ⟨b, n, c, c', hb.ex e, e.k _ _ h1 fun ps z => (by unfold LamO at z; cases z), e.k _ _ h2 fun ps z => (by unfold CellO at z; cases z), e.k _ _ h3 codeO_ne⟩
/-! ### what the top has left -/
structure Tx (K : PySem.W.Frag) (mg : Str → Option Value) : Prop where
  bcl : Cls K (CB K)
  bnP : NoAttr K (CB K) "pairs"
  bnW : NoAttr K (CB K) "words"
  bnS : NoAttr K (CB K) "sewn"
  bmk : Mk K (CB K) (He.ma K (CB K) "__init__")
  bin : C8.InsC K (CB K)
  g_Book : mg "Book" = some (.ref (CB K))
  f_init : ∃ fd, FunD K "__init__" "Book.__init__" (defArgs s_Book_init) (defBody s_Book_init) (defScope s_Book_init) [] [] (He.ma K (CB K) "__init__") fd
  g_is_integer : mg "is_integer" = some (.ref (He.ga K "is_integer"))
  f_is_integer : ∃ fd, FunD K "is_integer" "is_integer" (defArgs s_is_integer) (defBody s_is_integer) (defScope s_is_integer) [] [] (He.ga K "is_integer") fd
  g_is_within : mg "is_within" = some (.ref (He.ga K "is_within"))
  f_is_within : ∃ fd, FunD K "is_within" "is_within" (defArgs s_is_within) (defBody s_is_within) (defScope s_is_within) [] [] (He.ga K "is_within") fd
  g_is_signs : mg "is_signs" = some (.ref (He.ga K "is_signs"))
  f_is_signs : ∃ fd, FunD K "is_signs" "is_signs" (defArgs s_is_signs) (defBody s_is_signs) (defScope s_is_signs) [] [] (He.ga K "is_signs") fd
  g_need_number : mg "need_number" = some (.ref (He.ga K "need_number"))
  f_need_number : ∃ fd, FunD K "need_number" "need_number" (defArgs s_need_number) (defBody s_need_number) (defScope s_need_number) [] [] (He.ga K "need_number") fd
  g_burning : mg "burning" = some (.ref (He.ga K "burning"))
  f_burning : ∃ fd, FunD K "burning" "burning" (defArgs s_burning) (defBody s_burning) (defScope s_burning) [] [] (He.ga K "burning") fd
  g_is_high_in : mg "is_high_in" = some (.ref (He.ga K "is_high_in"))
  f_is_high_in : ∃ fd, FunD K "is_high_in" "is_high_in" (defArgs s_is_high_in) (defBody s_is_high_in) (defScope s_is_high_in) [] [] (He.ga K "is_high_in") fd
  g_moved_in : mg "moved_in" = some (.ref (He.ga K "moved_in"))
  f_moved_in : ∃ fd, FunD K "moved_in" "moved_in" (defArgs s_moved_in) (defBody s_moved_in) (defScope s_moved_in) [] [] (He.ga K "moved_in") fd
  g_exchanged_in : mg "exchanged_in" = some (.ref (He.ga K "exchanged_in"))
  f_exchanged_in : ∃ fd, FunD K "exchanged_in" "exchanged_in" (defArgs s_exchanged_in) (defBody s_exchanged_in) (defScope s_exchanged_in) [] [] (He.ga K "exchanged_in") fd
  g_need_state : mg "need_state" = some (.ref (He.ga K "need_state"))
  f_need_state : ∃ fd, FunD K "need_state" "need_state" (defArgs s_need_state) (defBody s_need_state) (defScope s_need_state) [.str "state"] [] (He.ga K "need_state") fd
  g_is_state : mg "is_state" = some (.ref (He.ga K "is_state"))
  f_is_state : ∃ fd, FunD K "is_state" "is_state" (defArgs s_is_state) (defBody s_is_state) (defScope s_is_state) [] [] (He.ga K "is_state") fd
  g_is_high : mg "is_high" = some (.ref (He.ga K "is_high"))
  f_is_high : ∃ fd, FunD K "is_high" "is_high" (defArgs s_is_high) (defBody s_is_high) (defScope s_is_high) [] [] (He.ga K "is_high") fd
  g_is_word : mg "is_word" = some (.ref (He.ga K "is_word"))
  f_is_word : ∃ fd, FunD K "is_word" "is_word" (defArgs s_is_word) (defBody s_is_word) (defScope s_is_word) [] [] (He.ga K "is_word") fd
  g_first_pair_in : mg "first_pair_in" = some (.ref (He.ga K "first_pair_in"))
  f_first_pair_in : ∃ fd, FunD K "first_pair_in" "first_pair_in" (defArgs s_first_pair_in) (defBody s_first_pair_in) (defScope s_first_pair_in) [] [] (He.ga K "first_pair_in") fd
  g_turned_in : mg "turned_in" = some (.ref (He.ga K "turned_in"))
  f_turned_in : ∃ fd, FunD K "turned_in" "turned_in" (defArgs s_turned_in) (defBody s_turned_in) (defScope s_turned_in) [] [] (He.ga K "turned_in") fd
  g_back_in : mg "back_in" = some (.ref (He.ga K "back_in"))
  f_back_in : ∃ fd, FunD K "back_in" "back_in" (defArgs s_back_in) (defBody s_back_in) (defScope s_back_in) [] [] (He.ga K "back_in") fd
  g_turns_in : mg "turns_in" = some (.ref (He.ga K "turns_in"))
  f_turns_in : ∃ fd, FunD K "turns_in" "turns_in" (defArgs s_turns_in) (defBody s_turns_in) (defScope s_turns_in) [] [] (He.ga K "turns_in") fd
  g_low_home : mg "low_home" = some (.ref (He.ga K "low_home"))
  f_low_home : ∃ fd, FunD K "low_home" "low_home" (defArgs s_low_home) (defBody s_low_home) (defScope s_low_home) [] [] (He.ga K "low_home") fd
  g_home_in : mg "home_in" = some (.ref (He.ga K "home_in"))
  f_home_in : ∃ fd, FunD K "home_in" "home_in" (defArgs s_home_in) (defBody s_home_in) (defScope s_home_in) [] [] (He.ga K "home_in") fd
  g_state_in : mg "state_in" = some (.ref (He.ga K "state_in"))
  f_state_in : ∃ fd, FunD K "state_in" "state_in" (defArgs s_state_in) (defBody s_state_in) (defScope s_state_in) [] [] (He.ga K "state_in") fd
  g_can_pull_in : mg "can_pull_in" = some (.ref (He.ga K "can_pull_in"))
  f_can_pull_in : ∃ fd, FunD K "can_pull_in" "can_pull_in" (defArgs s_can_pull_in) (defBody s_can_pull_in) (defScope s_can_pull_in) [] [] (He.ga K "can_pull_in") fd
  g_pulled_in : mg "pulled_in" = some (.ref (He.ga K "pulled_in"))
  f_pulled_in : ∃ fd, FunD K "pulled_in" "pulled_in" (defArgs s_pulled_in) (defBody s_pulled_in) (defScope s_pulled_in) [] [] (He.ga K "pulled_in") fd
  g_unpulled_in : mg "unpulled_in" = some (.ref (He.ga K "unpulled_in"))
  f_unpulled_in : ∃ fd, FunD K "unpulled_in" "unpulled_in" (defArgs s_unpulled_in) (defBody s_unpulled_in) (defScope s_unpulled_in) [] [] (He.ga K "unpulled_in") fd
  g_home_of_state : mg "home_of_state" = some (.ref (He.ga K "home_of_state"))
  f_home_of_state : ∃ fd, FunD K "home_of_state" "home_of_state" (defArgs s_home_of_state) (defBody s_home_of_state) (defScope s_home_of_state) [] [] (He.ga K "home_of_state") fd
  g_turned_times : mg "turned_times" = some (.ref (He.ga K "turned_times"))
  f_turned_times : ∃ fd, FunD K "turned_times" "turned_times" (defArgs s_turned_times) (defBody s_turned_times) (defScope s_turned_times) [] [] (He.ga K "turned_times") fd
  g_stretch_word : mg "stretch_word" = some (.ref (He.ga K "stretch_word"))
  f_stretch_word : ∃ fd, FunD K "stretch_word" "stretch_word" (defArgs s_stretch_word) (defBody s_stretch_word) (defScope s_stretch_word) [] [] (He.ga K "stretch_word") fd
  g_sewn_under : mg "sewn_under" = some (.ref (He.ga K "sewn_under"))
  f_sewn_under : ∃ fd, FunD K "sewn_under" "sewn_under" (defArgs s_sewn_under) (defBody s_sewn_under) (defScope s_sewn_under) [] [] (He.ga K "sewn_under") fd
  g_next_home : mg "next_home" = some (.ref (He.ga K "next_home"))
  f_next_home : ∃ fd, FunD K "next_home" "next_home" (defArgs s_next_home) (defBody s_next_home) (defScope s_next_home) [] [] (He.ga K "next_home") fd
  g_before_home : mg "before_home" = some (.ref (He.ga K "before_home"))
  f_before_home : ∃ fd, FunD K "before_home" "before_home" (defArgs s_before_home) (defBody s_before_home) (defScope s_before_home) [] [] (He.ga K "before_home") fd
  g_next_in : mg "next_in" = some (.ref (He.ga K "next_in"))
  f_next_in : ∃ fd, FunD K "next_in" "next_in" (defArgs s_next_in) (defBody s_next_in) (defScope s_next_in) [] [] (He.ga K "next_in") fd
  g_before_in : mg "before_in" = some (.ref (He.ga K "before_in"))
  f_before_in : ∃ fd, FunD K "before_in" "before_in" (defArgs s_before_in) (defBody s_before_in) (defScope s_before_in) [] [] (He.ga K "before_in") fd
  g_swapped_in : mg "swapped_in" = some (.ref (He.ga K "swapped_in"))
  f_swapped_in : ∃ fd, FunD K "swapped_in" "swapped_in" (defArgs s_swapped_in) (defBody s_swapped_in) (defScope s_swapped_in) [] [] (He.ga K "swapped_in") fd
  g_word_behind_in : mg "word_behind_in" = some (.ref (He.ga K "word_behind_in"))
  f_word_behind_in : ∃ fd, FunD K "word_behind_in" "word_behind_in" (defArgs s_word_behind_in) (defBody s_word_behind_in) (defScope s_word_behind_in) [] [] (He.ga K "word_behind_in") fd
  g_wide_of : mg "wide_of" = some (.ref (He.ga K "wide_of"))
  f_wide_of : ∃ fd, FunD K "wide_of" "wide_of" (defArgs s_wide_of) (defBody s_wide_of) (defScope s_wide_of) [] [] (He.ga K "wide_of") fd
  g_post_in : mg "post_in" = some (.ref (He.ga K "post_in"))
  f_post_in : ∃ fd, FunD K "post_in" "post_in" (defArgs s_post_in) (defBody s_post_in) (defScope s_post_in) [] [] (He.ga K "post_in") fd
  g_lots : mg "lots" = some (.ref (He.ga K "lots"))
  f_lots : ∃ fd, FunD K "lots" "lots" (defArgs s_lots) (defBody s_lots) (defScope s_lots) [] [] (He.ga K "lots") fd
  g_ways_on : mg "ways_on" = some (.ref (He.ga K "ways_on"))
  f_ways_on : ∃ fd, FunD K "ways_on" "ways_on" (defArgs s_ways_on) (defBody s_ways_on) (defScope s_ways_on) [] [] (He.ga K "ways_on") fd
  g_all_in : mg "all_in" = some (.ref (He.ga K "all_in"))
  f_all_in : ∃ fd, FunD K "all_in" "all_in" (defArgs s_all_in) (defBody s_all_in) (defScope s_all_in) [] [] (He.ga K "all_in") fd
  g_has_common : mg "has_common" = some (.ref (He.ga K "has_common"))
  f_has_common : ∃ fd, FunD K "has_common" "has_common" (defArgs s_has_common) (defBody s_has_common) (defScope s_has_common) [] [] (He.ga K "has_common") fd
  g_how_many_apart : mg "how_many_apart" = some (.ref (He.ga K "how_many_apart"))
  f_how_many_apart : ∃ fd, FunD K "how_many_apart" "how_many_apart" (defArgs s_how_many_apart) (defBody s_how_many_apart) (defScope s_how_many_apart) [] [] (He.ga K "how_many_apart") fd
  g_with_place : mg "with_place" = some (.ref (He.ga K "with_place"))
  f_with_place : ∃ fd, FunD K "with_place" "with_place" (defArgs s_with_place) (defBody s_with_place) (defScope s_with_place) [] [] (He.ga K "with_place") fd
  g_with_tie : mg "with_tie" = some (.ref (He.ga K "with_tie"))
  f_with_tie : ∃ fd, FunD K "with_tie" "with_tie" (defArgs s_with_tie) (defBody s_with_tie) (defScope s_with_tie) [] [] (He.ga K "with_tie") fd
  g_how_many_trees : mg "how_many_trees" = some (.ref (He.ga K "how_many_trees"))
  f_how_many_trees : ∃ fd, FunD K "how_many_trees" "how_many_trees" (defArgs s_how_many_trees) (defBody s_how_many_trees) (defScope s_how_many_trees) [] [] (He.ga K "how_many_trees") fd
  g_is_pull : mg "is_pull" = some (.ref (He.ga K "is_pull"))
  f_is_pull : ∃ fd, FunD K "is_pull" "is_pull" (defArgs s_is_pull) (defBody s_is_pull) (defScope s_is_pull) [] [] (He.ga K "is_pull") fd
  g_are_pulls : mg "are_pulls" = some (.ref (He.ga K "are_pulls"))
  f_are_pulls : ∃ fd, FunD K "are_pulls" "are_pulls" (defArgs s_are_pulls) (defBody s_are_pulls) (defScope s_are_pulls) [] [] (He.ga K "are_pulls") fd
  g_need_book : mg "need_book" = some (.ref (He.ga K "need_book"))
  f_need_book : ∃ fd, FunD K "need_book" "need_book" (defArgs s_need_book) (defBody s_need_book) (defScope s_need_book) [] [] (He.ga K "need_book") fd
  g_need_fitting : mg "need_fitting" = some (.ref (He.ga K "need_fitting"))
  f_need_fitting : ∃ fd, FunD K "need_fitting" "need_fitting" (defArgs s_need_fitting) (defBody s_need_fitting) (defScope s_need_fitting) [] [] (He.ga K "need_fitting") fd
  g_need_its_state : mg "need_its_state" = some (.ref (He.ga K "need_its_state"))
  f_need_its_state : ∃ fd, FunD K "need_its_state" "need_its_state" (defArgs s_need_its_state) (defBody s_need_its_state) (defScope s_need_its_state) [] [] (He.ga K "need_its_state") fd
  g_sewn_by : mg "sewn_by" = some (.ref (He.ga K "sewn_by"))
  f_sewn_by : ∃ fd, FunD K "sewn_by" "sewn_by" (defArgs s_sewn_by) (defBody s_sewn_by) (defScope s_sewn_by) [] [] (He.ga K "sewn_by") fd
  g_next_by : mg "next_by" = some (.ref (He.ga K "next_by"))
  f_next_by : ∃ fd, FunD K "next_by" "next_by" (defArgs s_next_by) (defBody s_next_by) (defScope s_next_by) [] [] (He.ga K "next_by") fd
  g_before_by : mg "before_by" = some (.ref (He.ga K "before_by"))
  f_before_by : ∃ fd, FunD K "before_by" "before_by" (defArgs s_before_by) (defBody s_before_by) (defScope s_before_by) [] [] (He.ga K "before_by") fd
  g_post_by : mg "post_by" = some (.ref (He.ga K "post_by"))
  f_post_by : ∃ fd, FunD K "post_by" "post_by" (defArgs s_post_by) (defBody s_post_by) (defScope s_post_by) [] [] (He.ga K "post_by") fd
  g_round_of : mg "round_of" = some (.ref (He.ga K "round_of"))
  f_round_of : ∃ fd, FunD K "round_of" "round_of" (defArgs s_round_of) (defBody s_round_of) (defScope s_round_of) [] [] (He.ga K "round_of") fd
  g_rounds_in : mg "rounds_in" = some (.ref (He.ga K "rounds_in"))
  f_rounds_in : ∃ fd, FunD K "rounds_in" "rounds_in" (defArgs s_rounds_in) (defBody s_rounds_in) (defScope s_rounds_in) [] [] (He.ga K "rounds_in") fd
  g_round_long : mg "round_long" = some (.ref (He.ga K "round_long"))
  f_round_long : ∃ fd, FunD K "round_long" "round_long" (defArgs s_round_long) (defBody s_round_long) (defScope s_round_long) [] [] (He.ga K "round_long") fd
  g_steps_by : mg "steps_by" = some (.ref (He.ga K "steps_by"))
  f_steps_by : ∃ fd, FunD K "steps_by" "steps_by" (defArgs s_steps_by) (defBody s_steps_by) (defScope s_steps_by) [] [] (He.ga K "steps_by") fd
  g_how_many_rounds : mg "how_many_rounds" = some (.ref (He.ga K "how_many_rounds"))
  f_how_many_rounds : ∃ fd, FunD K "how_many_rounds" "how_many_rounds" (defArgs s_how_many_rounds) (defBody s_how_many_rounds) (defScope s_how_many_rounds) [] [] (He.ga K "how_many_rounds") fd
  g_law_reed : mg "_law_reed" = some (.ref (He.ga K "_law_reed"))
  f_law_reed : ∃ fd, FunD K "_law_reed" "_law_reed" (defArgs s_law_reed) (defBody s_law_reed) (defScope s_law_reed) [] [] (He.ga K "_law_reed") fd
  g_law_weft : mg "_law_weft" = some (.ref (He.ga K "_law_weft"))
  f_law_weft : ∃ fd, FunD K "_law_weft" "_law_weft" (defArgs s_law_weft) (defBody s_law_weft) (defScope s_law_weft) [] [] (He.ga K "_law_weft") fd
  g_law_one : mg "_law_one" = some (.ref (He.ga K "_law_one"))
  f_law_one : ∃ fd, FunD K "_law_one" "_law_one" (defArgs s_law_one) (defBody s_law_one) (defScope s_law_one) [] [] (He.ga K "_law_one") fd
  g_law_word : mg "_law_word" = some (.ref (He.ga K "_law_word"))
  f_law_word : ∃ fd, FunD K "_law_word" "_law_word" (defArgs s_law_word) (defBody s_law_word) (defScope s_law_word) [] [] (He.ga K "_law_word") fd
  g_law_pulls : mg "_law_pulls" = some (.ref (He.ga K "_law_pulls"))
  f_law_pulls : ∃ fd, FunD K "_law_pulls" "_law_pulls" (defArgs s_law_pulls) (defBody s_law_pulls) (defScope s_law_pulls) [] [] (He.ga K "_law_pulls") fd
  g_law_end : mg "_law_end" = some (.ref (He.ga K "_law_end"))
  f_law_end : ∃ fd, FunD K "_law_end" "_law_end" (defArgs s_law_end) (defBody s_law_end) (defScope s_law_end) [] [] (He.ga K "_law_end") fd
  g_law_turned : mg "_law_turned" = some (.ref (He.ga K "_law_turned"))
  f_law_turned : ∃ fd, FunD K "_law_turned" "_law_turned" (defArgs s_law_turned) (defBody s_law_turned) (defScope s_law_turned) [] [] (He.ga K "_law_turned") fd
  g_law_swapped : mg "_law_swapped" = some (.ref (He.ga K "_law_swapped"))
  f_law_swapped : ∃ fd, FunD K "_law_swapped" "_law_swapped" (defArgs s_law_swapped) (defBody s_law_swapped) (defScope s_law_swapped) [] [] (He.ga K "_law_swapped") fd
  g_law_round : mg "_law_round" = some (.ref (He.ga K "_law_round"))
  f_law_round : ∃ fd, FunD K "_law_round" "_law_round" (defArgs s_law_round) (defBody s_law_round) (defScope s_law_round) [] [] (He.ga K "_law_round") fd
  g_law_state : mg "_law_state" = some (.ref (He.ga K "_law_state"))
  f_law_state : ∃ fd, FunD K "_law_state" "_law_state" (defArgs s_law_state) (defBody s_law_state) (defScope s_law_state) [] [] (He.ga K "_law_state") fd
  g_law_all_words : mg "_law_all_words" = some (.ref (He.ga K "_law_all_words"))
  f_law_all_words : ∃ fd, FunD K "_law_all_words" "_law_all_words" (defArgs s_law_all_words) (defBody s_law_all_words) (defScope s_law_all_words) [] [] (He.ga K "_law_all_words") fd
  g_law_gone : mg "_law_gone" = some (.ref (He.ga K "_law_gone"))
  f_law_gone : ∃ fd, FunD K "_law_gone" "_law_gone" (defArgs s_law_gone) (defBody s_law_gone) (defScope s_law_gone) [] [] (He.ga K "_law_gone") fd
  g_law_low_word : mg "_law_low_word" = some (.ref (He.ga K "_law_low_word"))
  f_law_low_word : ∃ fd, FunD K "_law_low_word" "_law_low_word" (defArgs s_law_low_word) (defBody s_law_low_word) (defScope s_law_low_word) [] [] (He.ga K "_law_low_word") fd
  g_law_way_right : mg "_law_way_right" = some (.ref (He.ga K "_law_way_right"))
  f_law_way_right : ∃ fd, FunD K "_law_way_right" "_law_way_right" (defArgs s_law_way_right) (defBody s_law_way_right) (defScope s_law_way_right) [] [] (He.ga K "_law_way_right") fd
  g_law : mg "law" = some (.ref (He.ga K "law"))
  f_law : ∃ fd, FunD K "law" "law" (defArgs s_law) (defBody s_law) (defScope s_law) [] [] (He.ga K "law") fd
  c_SIGNS : ∃ u, mg "SIGNS" = some u ∧ RelV (.str "01") u
  c_MOST_PAIRS_states : ∃ u, mg "MOST_PAIRS_states" = some u ∧ RelV (.int 200) u
  c_BURNS : ∃ u, mg "BURNS" = some u ∧ RelV (.str "1") u
  c_DARK : ∃ u, mg "DARK" = some u ∧ RelV (.str "0") u
  c_MOST_PAIRS_words : ∃ u, mg "MOST_PAIRS_words" = some u ∧ RelV (.int 200) u
  c_DEEP_LEAF : ∃ u, mg "DEEP_LEAF" = some u ∧ RelV (.str "110") u
  c_NEAR_LEAF : ∃ u, mg "NEAR_LEAF" = some u ∧ RelV (.str "101") u
  c_PULLED : ∃ u, mg "PULLED" = some u ∧ RelV (.str "101") u
  c_LAST_SHIFT : ∃ u, mg "LAST_SHIFT" = some u ∧ RelV (.int 3) u
  c_LEAST_PAIRS : ∃ u, mg "LEAST_PAIRS" = some u ∧ RelV (.int 2) u
  c_MOST_PAIRS_books : ∃ u, mg "MOST_PAIRS_books" = some u ∧ RelV (.int 60) u
  c_MOST_WORDS : ∃ u, mg "MOST_WORDS" = some u ∧ RelV (.int 300) u
  n_isinstance : mg "isinstance" = none
  n_int : mg "int" = none
  n_bool : mg "bool" = none
  n_str : mg "str" = none
  n_list : mg "list" = none
  n_tuple : mg "tuple" = none
  n_len : mg "len" = none
  n_all : mg "all" = none
  n_set : mg "set" = none
  n_sorted : mg "sorted" = none
  n_range : mg "range" = none
  n_abs : mg "abs" = none
  n_enumerate : mg "enumerate" = none
  n_repr : mg "repr" = none
theorem tx_mk {K : PySem.W.Frag} {h : Heap} {w : World} {mg : Str → Option Value} (X : K.In h) (G : h.Ns mainGlobals mg) (c : He.SaysX fa fn [] tf ex w h K) : Tx K mg := by
  have D := c.t.d
  have e := c.more
  unfold ex at e
  obtain ⟨e1, e⟩ := He.ba e
  obtain ⟨e2, e⟩ := He.ba e
  obtain ⟨e3, e⟩ := He.ba e
  obtain ⟨e4, e5⟩ := He.ba e
  have cl := He.cls_ok (D.fact 1 (f := .cls "Book") rfl)
  refine ⟨cl, He.noat_ok (D.fact 2 (f := .noat "Book" "pairs") rfl), He.noat_ok (D.fact 3 (f := .noat "Book" "words") rfl), He.noat_ok (D.fact 4 (f := .noat "Book" "sewn") rfl), He.mkr_ok (D.fact 5 (f := .mkr "Book") rfl),
    ⟨cl, He.eqO_ok e1, He.eqO_ok e2, of_decide_eq_true e3, of_decide_eq_true e4, of_decide_eq_true e5⟩, He.glo_ok X G (D.fact 0 (f := .glo "Book") rfl), D.def_ 0 (d := dBook) rfl,
    He.glo_ok X G (D.fact 6 (f := .glo "is_integer") rfl),
    D.def_ 1 (d := dd "is_integer" s_is_integer) rfl,
    He.glo_ok X G (D.fact 7 (f := .glo "is_within") rfl),
    D.def_ 2 (d := dd "is_within" s_is_within) rfl,
    He.glo_ok X G (D.fact 8 (f := .glo "is_signs") rfl),
    D.def_ 3 (d := dd "is_signs" s_is_signs) rfl,
    He.glo_ok X G (D.fact 9 (f := .glo "need_number") rfl),
    D.def_ 4 (d := dd "need_number" s_need_number) rfl,
    He.glo_ok X G (D.fact 10 (f := .glo "burning") rfl),
    D.def_ 5 (d := dd "burning" s_burning) rfl,
    He.glo_ok X G (D.fact 11 (f := .glo "is_high_in") rfl),
    D.def_ 6 (d := dd "is_high_in" s_is_high_in) rfl,
    He.glo_ok X G (D.fact 12 (f := .glo "moved_in") rfl),
    D.def_ 7 (d := dd "moved_in" s_moved_in) rfl,
    He.glo_ok X G (D.fact 13 (f := .glo "exchanged_in") rfl),
    D.def_ 8 (d := dd "exchanged_in" s_exchanged_in) rfl,
    He.glo_ok X G (D.fact 14 (f := .glo "need_state") rfl),
    D.def_ 9 (d := ⟨("need_state", none), "need_state", "need_state", defArgs s_need_state, defBody s_need_state, defScope s_need_state, [.str "state"], []⟩) rfl,
    He.glo_ok X G (D.fact 15 (f := .glo "is_state") rfl),
    D.def_ 10 (d := dd "is_state" s_is_state) rfl,
    He.glo_ok X G (D.fact 16 (f := .glo "is_high") rfl),
    D.def_ 11 (d := dd "is_high" s_is_high) rfl,
    He.glo_ok X G (D.fact 17 (f := .glo "is_word") rfl),
    D.def_ 12 (d := dd "is_word" s_is_word) rfl,
    He.glo_ok X G (D.fact 18 (f := .glo "first_pair_in") rfl),
    D.def_ 13 (d := dd "first_pair_in" s_first_pair_in) rfl,
    He.glo_ok X G (D.fact 19 (f := .glo "turned_in") rfl),
    D.def_ 14 (d := dd "turned_in" s_turned_in) rfl,
    He.glo_ok X G (D.fact 20 (f := .glo "back_in") rfl),
    D.def_ 15 (d := dd "back_in" s_back_in) rfl,
    He.glo_ok X G (D.fact 21 (f := .glo "turns_in") rfl),
    D.def_ 16 (d := dd "turns_in" s_turns_in) rfl,
    He.glo_ok X G (D.fact 22 (f := .glo "low_home") rfl),
    D.def_ 17 (d := dd "low_home" s_low_home) rfl,
    He.glo_ok X G (D.fact 23 (f := .glo "home_in") rfl),
    D.def_ 18 (d := dd "home_in" s_home_in) rfl,
    He.glo_ok X G (D.fact 24 (f := .glo "state_in") rfl),
    D.def_ 19 (d := dd "state_in" s_state_in) rfl,
    He.glo_ok X G (D.fact 25 (f := .glo "can_pull_in") rfl),
    D.def_ 20 (d := dd "can_pull_in" s_can_pull_in) rfl,
    He.glo_ok X G (D.fact 26 (f := .glo "pulled_in") rfl),
    D.def_ 21 (d := dd "pulled_in" s_pulled_in) rfl,
    He.glo_ok X G (D.fact 27 (f := .glo "unpulled_in") rfl),
    D.def_ 22 (d := dd "unpulled_in" s_unpulled_in) rfl,
    He.glo_ok X G (D.fact 28 (f := .glo "home_of_state") rfl),
    D.def_ 23 (d := dd "home_of_state" s_home_of_state) rfl,
    He.glo_ok X G (D.fact 29 (f := .glo "turned_times") rfl),
    D.def_ 24 (d := dd "turned_times" s_turned_times) rfl,
    He.glo_ok X G (D.fact 30 (f := .glo "stretch_word") rfl),
    D.def_ 25 (d := dd "stretch_word" s_stretch_word) rfl,
    He.glo_ok X G (D.fact 31 (f := .glo "sewn_under") rfl),
    D.def_ 26 (d := dd "sewn_under" s_sewn_under) rfl,
    He.glo_ok X G (D.fact 32 (f := .glo "next_home") rfl),
    D.def_ 27 (d := dd "next_home" s_next_home) rfl,
    He.glo_ok X G (D.fact 33 (f := .glo "before_home") rfl),
    D.def_ 28 (d := dd "before_home" s_before_home) rfl,
    He.glo_ok X G (D.fact 34 (f := .glo "next_in") rfl),
    D.def_ 29 (d := dd "next_in" s_next_in) rfl,
    He.glo_ok X G (D.fact 35 (f := .glo "before_in") rfl),
    D.def_ 30 (d := dd "before_in" s_before_in) rfl,
    He.glo_ok X G (D.fact 36 (f := .glo "swapped_in") rfl),
    D.def_ 31 (d := dd "swapped_in" s_swapped_in) rfl,
    He.glo_ok X G (D.fact 37 (f := .glo "word_behind_in") rfl),
    D.def_ 32 (d := dd "word_behind_in" s_word_behind_in) rfl,
    He.glo_ok X G (D.fact 38 (f := .glo "wide_of") rfl),
    D.def_ 33 (d := dd "wide_of" s_wide_of) rfl,
    He.glo_ok X G (D.fact 39 (f := .glo "post_in") rfl),
    D.def_ 34 (d := dd "post_in" s_post_in) rfl,
    He.glo_ok X G (D.fact 40 (f := .glo "lots") rfl),
    D.def_ 35 (d := dd "lots" s_lots) rfl,
    He.glo_ok X G (D.fact 41 (f := .glo "ways_on") rfl),
    D.def_ 36 (d := dd "ways_on" s_ways_on) rfl,
    He.glo_ok X G (D.fact 42 (f := .glo "all_in") rfl),
    D.def_ 37 (d := dd "all_in" s_all_in) rfl,
    He.glo_ok X G (D.fact 43 (f := .glo "has_common") rfl),
    D.def_ 38 (d := dd "has_common" s_has_common) rfl,
    He.glo_ok X G (D.fact 44 (f := .glo "how_many_apart") rfl),
    D.def_ 39 (d := dd "how_many_apart" s_how_many_apart) rfl,
    He.glo_ok X G (D.fact 45 (f := .glo "with_place") rfl),
    D.def_ 40 (d := dd "with_place" s_with_place) rfl,
    He.glo_ok X G (D.fact 46 (f := .glo "with_tie") rfl),
    D.def_ 41 (d := dd "with_tie" s_with_tie) rfl,
    He.glo_ok X G (D.fact 47 (f := .glo "how_many_trees") rfl),
    D.def_ 42 (d := dd "how_many_trees" s_how_many_trees) rfl,
    He.glo_ok X G (D.fact 48 (f := .glo "is_pull") rfl),
    D.def_ 43 (d := dd "is_pull" s_is_pull) rfl,
    He.glo_ok X G (D.fact 49 (f := .glo "are_pulls") rfl),
    D.def_ 44 (d := dd "are_pulls" s_are_pulls) rfl,
    He.glo_ok X G (D.fact 50 (f := .glo "need_book") rfl),
    D.def_ 45 (d := dd "need_book" s_need_book) rfl,
    He.glo_ok X G (D.fact 51 (f := .glo "need_fitting") rfl),
    D.def_ 46 (d := dd "need_fitting" s_need_fitting) rfl,
    He.glo_ok X G (D.fact 52 (f := .glo "need_its_state") rfl),
    D.def_ 47 (d := dd "need_its_state" s_need_its_state) rfl,
    He.glo_ok X G (D.fact 53 (f := .glo "sewn_by") rfl),
    D.def_ 48 (d := dd "sewn_by" s_sewn_by) rfl,
    He.glo_ok X G (D.fact 54 (f := .glo "next_by") rfl),
    D.def_ 49 (d := dd "next_by" s_next_by) rfl,
    He.glo_ok X G (D.fact 55 (f := .glo "before_by") rfl),
    D.def_ 50 (d := dd "before_by" s_before_by) rfl,
    He.glo_ok X G (D.fact 56 (f := .glo "post_by") rfl),
    D.def_ 51 (d := dd "post_by" s_post_by) rfl,
    He.glo_ok X G (D.fact 57 (f := .glo "round_of") rfl),
    D.def_ 52 (d := dd "round_of" s_round_of) rfl,
    He.glo_ok X G (D.fact 58 (f := .glo "rounds_in") rfl),
    D.def_ 53 (d := dd "rounds_in" s_rounds_in) rfl,
    He.glo_ok X G (D.fact 59 (f := .glo "round_long") rfl),
    D.def_ 54 (d := dd "round_long" s_round_long) rfl,
    He.glo_ok X G (D.fact 60 (f := .glo "steps_by") rfl),
    D.def_ 55 (d := dd "steps_by" s_steps_by) rfl,
    He.glo_ok X G (D.fact 61 (f := .glo "how_many_rounds") rfl),
    D.def_ 56 (d := dd "how_many_rounds" s_how_many_rounds) rfl,
    He.glo_ok X G (D.fact 62 (f := .glo "_law_reed") rfl),
    D.def_ 57 (d := dd "_law_reed" s_law_reed) rfl,
    He.glo_ok X G (D.fact 63 (f := .glo "_law_weft") rfl),
    D.def_ 58 (d := dd "_law_weft" s_law_weft) rfl,
    He.glo_ok X G (D.fact 64 (f := .glo "_law_one") rfl),
    D.def_ 59 (d := dd "_law_one" s_law_one) rfl,
    He.glo_ok X G (D.fact 65 (f := .glo "_law_word") rfl),
    D.def_ 60 (d := dd "_law_word" s_law_word) rfl,
    He.glo_ok X G (D.fact 66 (f := .glo "_law_pulls") rfl),
    D.def_ 61 (d := dd "_law_pulls" s_law_pulls) rfl,
    He.glo_ok X G (D.fact 67 (f := .glo "_law_end") rfl),
    D.def_ 62 (d := dd "_law_end" s_law_end) rfl,
    He.glo_ok X G (D.fact 68 (f := .glo "_law_turned") rfl),
    D.def_ 63 (d := dd "_law_turned" s_law_turned) rfl,
    He.glo_ok X G (D.fact 69 (f := .glo "_law_swapped") rfl),
    D.def_ 64 (d := dd "_law_swapped" s_law_swapped) rfl,
    He.glo_ok X G (D.fact 70 (f := .glo "_law_round") rfl),
    D.def_ 65 (d := dd "_law_round" s_law_round) rfl,
    He.glo_ok X G (D.fact 71 (f := .glo "_law_state") rfl),
    D.def_ 66 (d := dd "_law_state" s_law_state) rfl,
    He.glo_ok X G (D.fact 72 (f := .glo "_law_all_words") rfl),
    D.def_ 67 (d := dd "_law_all_words" s_law_all_words) rfl,
    He.glo_ok X G (D.fact 73 (f := .glo "_law_gone") rfl),
    D.def_ 68 (d := dd "_law_gone" s_law_gone) rfl,
    He.glo_ok X G (D.fact 74 (f := .glo "_law_low_word") rfl),
    D.def_ 69 (d := dd "_law_low_word" s_law_low_word) rfl,
    He.glo_ok X G (D.fact 75 (f := .glo "_law_way_right") rfl),
    D.def_ 70 (d := dd "_law_way_right" s_law_way_right) rfl,
    He.glo_ok X G (D.fact 76 (f := .glo "law") rfl),
    D.def_ 71 (d := dd "law" s_law) rfl,
    (let ⟨t, e⟩ := He.str_ok X G (D.fact 77 (f := .str "SIGNS" "01") rfl); ⟨_, e, t, rfl⟩),
    (let ⟨t, e⟩ := He.int_ok X G (D.fact 78 (f := .int "MOST_PAIRS_states" 200) rfl); ⟨_, e, t, rfl⟩),
    (let ⟨t, e⟩ := He.str_ok X G (D.fact 79 (f := .str "BURNS" "1") rfl); ⟨_, e, t, rfl⟩),
    (let ⟨t, e⟩ := He.str_ok X G (D.fact 80 (f := .str "DARK" "0") rfl); ⟨_, e, t, rfl⟩),
    (let ⟨t, e⟩ := He.int_ok X G (D.fact 81 (f := .int "MOST_PAIRS_words" 200) rfl); ⟨_, e, t, rfl⟩),
    (let ⟨t, e⟩ := He.str_ok X G (D.fact 82 (f := .str "DEEP_LEAF" "110") rfl); ⟨_, e, t, rfl⟩),
    (let ⟨t, e⟩ := He.str_ok X G (D.fact 83 (f := .str "NEAR_LEAF" "101") rfl); ⟨_, e, t, rfl⟩),
    (let ⟨t, e⟩ := He.str_ok X G (D.fact 84 (f := .str "PULLED" "101") rfl); ⟨_, e, t, rfl⟩),
    (let ⟨t, e⟩ := He.int_ok X G (D.fact 85 (f := .int "LAST_SHIFT" 3) rfl); ⟨_, e, t, rfl⟩),
    (let ⟨t, e⟩ := He.int_ok X G (D.fact 86 (f := .int "LEAST_PAIRS" 2) rfl); ⟨_, e, t, rfl⟩),
    (let ⟨t, e⟩ := He.int_ok X G (D.fact 87 (f := .int "MOST_PAIRS_books" 60) rfl); ⟨_, e, t, rfl⟩),
    (let ⟨t, e⟩ := He.int_ok X G (D.fact 88 (f := .int "MOST_WORDS" 300) rfl); ⟨_, e, t, rfl⟩),
    He.free_ok X G (D.fact 89 (f := .free "isinstance") rfl),
    He.free_ok X G (D.fact 90 (f := .free "int") rfl),
    He.free_ok X G (D.fact 91 (f := .free "bool") rfl),
    He.free_ok X G (D.fact 92 (f := .free "str") rfl),
    He.free_ok X G (D.fact 93 (f := .free "list") rfl),
    He.free_ok X G (D.fact 94 (f := .free "tuple") rfl),
    He.free_ok X G (D.fact 95 (f := .free "len") rfl),
    He.free_ok X G (D.fact 96 (f := .free "all") rfl),
    He.free_ok X G (D.fact 97 (f := .free "set") rfl),
    He.free_ok X G (D.fact 98 (f := .free "sorted") rfl),
    He.free_ok X G (D.fact 99 (f := .free "range") rfl),
    He.free_ok X G (D.fact 100 (f := .free "abs") rfl),
    He.free_ok X G (D.fact 101 (f := .free "enumerate") rfl),
    He.free_ok X G (D.fact 102 (f := .free "repr") rfl)⟩
/-! ### a def's promise, by its body -/
section
variable {Pg : Program} {w : World} {K : PySem.W.Frag} {mg : Str → Option Value} {base : Heap}
abbrev Cl (Pg : Program) (w : World) (K : PySem.W.Frag) (mg : Str → Option Value) (base : Heap) (k : Nat) (x : Str) (sp : Sp) : Prop := C8.Cal Pg w K mg base k x sp []
theorem calD {x : Str} {a : Arguments} {b : List Stmt} {s : Scope} {f : Addr} {N ps : List Str} {k : Nat} {sp : Sp} (g : mg x = some (.ref f)) (F : ∃ fd, FunD K x x a b s [] [] f fd) (S : FnScope N ps s)
    (hb : ∀ (kV doc pm : Value) (an : Option Addr) (cdv ct : Value) (us : List Value), us.length = ps.length → bindArgs (PySem.W.fnOf x x a b s .none kV doc pm an cdv ct) ⟨us, []⟩ = pure (ps.zip us))
    (len : ∀ vs H Q E, sp vs H Q E → vs.length = ps.length)
    (hbody : ∀ (cdv : Value) (A : Around) (outer : List Env) (st : Shared) (H : Hp) (vs : List V) (Q : VK) (E : XK), Room k (A.deeper (envOfC x s st.heap.objs.size f cdv)) → sp vs H Q E →
      ∃ t, PSs (cxOf C8.CX0 Pg w K mg base N x s f cdv A outer st H E).nox b t ∧ t { nx := fun _ H' => Q .non H', rt := Q } (start N vs) H) : Cl Pg w K mg base (k + 1) x sp := by
  obtain ⟨fd, F⟩ := F
  refine ⟨f, fd, ps, [], F.ok S len fun cdv A outer st H vs Q E hr h => ?_, g, F.kp, F.bindsN hb, .nil⟩
  obtain ⟨t, h1, h2⟩ := hbody cdv A outer st H vs Q E hr h
  exact ⟨t, h1.nox, h2⟩
end
end EH

set_option Elab.async false
set_option linter.all false
set_option maxRecDepth 100000
set_option maxHeartbeats 4000000
namespace EH
open PySem PySem.Spec PyProof.Rows L2 LamX EL EM
section
variable {Pg : Program} {w : World} {K : PySem.W.Frag} {mg : Str → Option Value} {base : Heap}
theorem sewn_body : defBody s_sewn_by = [.Return (some (.Lambda lamP lamB lamS ⟨331, 11, 331, 41⟩)) ⟨331, 4, 331, 41⟩] := by kernel_rfl
theorem lamB_eq : lamB = .Compare (.Name "word" ⟨331, 24, 331, 28⟩) [.In] [.Attribute (.Name "book" ⟨331, 32, 331, 36⟩) "sewn" ⟨331, 32, 331, 41⟩] ⟨331, 24, 331, 41⟩ := by kernel_rfl
theorem lamS_names : lamS.names = [(("word" : Str), NameKind.local), (("book" : Str), NameKind.free)] := by kernel_rfl
theorem sewn_names : (defScope s_sewn_by).names = [(("book" : Str), NameKind.cell)] := by kernel_rfl
def spSewn (K : PySem.W.Frag) : Sp := fun vs H Q _ => ∃ b n ws, vs = [.ref b] ∧ BookAt K H b n ws ∧ Tab K H ∧ ∀ f H', Ex K H H' → H f = none → Sewn K H' f ws → Q (.ref f) H'
theorem c_sewn (T : Tx K mg) (TB : TabB base mg (cS K) (P0 K)) : Cl Pg w K mg base 2 "sewn_by" (spSewn K) := by
  obtain ⟨fd, F⟩ := T.f_sewn_by
  have hcd : fd.code = .ref (cS K) := by
    obtain ⟨oc, od, dV, kV, doc, pm, an, cdv, ct, osl, rfl, lk, hcq, _, _⟩ := id F.ex
    obtain ⟨c, e⟩ := He.codeIn_ref hcq
    have e2 : He.codeOf K ("sewn_by", none) = c := He.codeOf_eq lk e
    show cdv = _
    rw [e, cS, e2]
  have F' := F
  rw [sewn_body] at F'
  have M : FnOk Pg w K mg base C8.CX0 2 _ fd ["book"] (spMaker (P0 K) qL "book" lamP lamB lamS) :=
    maker_ok F' ⟨rfl, rfl, rfl, by decide +kernel, rfl, by decide +kernel, by decide +kernel⟩ (by kernel_rfl) (fun n => by rw [sewn_names]; rfl) (fun n => by rw [lamS_names]; rfl) (fun env => by kernel_rfl) (fun y hy e => by
      rw [lamS_names] at hy
      rw [sewn_names]
      simp only [List.mem_cons, List.not_mem_nil, or_false] at hy
      rcases hy with rfl | rfl
      · cases e
      · exact .inl rfl) TB hcd
  have M2 := M.imp (sp' := spSewn K) fun vs H Q E h => by
    obtain ⟨b, n, ws, rfl, hb, ht, hQ⟩ := h
    refine ⟨_, rfl, ht, fun f c c' H' e1 e2 e3 e4 e5 e6 e7 e8 => ?_⟩
    have ex : Ex K H H' := ⟨e1, fun _ => e3, e2⟩
    exact hQ f H' ex e4 ⟨b, n, c, c', hb.ex ex, e6, e7, e8⟩
  exact ⟨_, fd, ["book"], [], M2, T.g_sewn_by, F.kp, F.bindsN fun _ _ _ _ _ _ us hl => match us, hl with | [_], _ => rfl, .nil⟩
/-! ### is_sewn(word) -/
def rSewn (K : PySem.W.Frag) : Addr → List V → Hp → VK → Prop := fun f vs H Q => ∃ z ws, vs = [.str (txt z)] ∧ Sewn K H f ws ∧ Q (.bl (decide (z ∈ ws))) H
theorem seen_val (ws : List W) (z : W) : (valV (seen ws) (.inr (txt z) : Key)).isSome = decide (z ∈ ws) := by
  induction ws with
  | nil => rfl
  | cons a r ih =>
    by_cases e : a = z
    · subst e
      show (valV (((.inr (txt a) : Key), V.bl true) :: seen r) _).isSome = _
      rw [valV_pos rfl]
      simp
    · show (valV (((.inr (txt a) : Key), V.bl true) :: seen r) _).isSome = _
      rw [valV_neg (fun q => e (txt_inj (Sum.inr.inj q))), ih]
      have e2 : z ≠ a := fun q => e q.symm
      simp [e2]
theorem scLam : NdefX.NScope ["word", "book"] ["word"] ["book"] lamS := NdefX.nscope_by (by decide +kernel)
theorem sewn_run (T : Tx K mg) {A : Around} {outer : List Env} {s : Shared} {H : Hp} {us : List Value} {f : Addr} {vs : List V} {Q : VK} (hr : Room 2 A) (e0 : Env0 Pg w K mg base A outer s H) (r : Vals vs us) (h : rSewn K f vs H Q) :
    PySem.W.FnAt f s.heap ∧ codeAny (model Pg w) A (.call (.ref f) ⟨us, []⟩) (CR C8.CX0 outer Pg w H s Q C8.E0) s := by
  obtain ⟨z, ws, rfl, ⟨b, n, c, c', ⟨dx, t, d, hb, ht, hd⟩, hf, hc, hc'⟩, q⟩ := h
  obtain ⟨pm, ctv, ho⟩ := lamO_at e0.hok hf
  refine ⟨⟨_, _, _, _, ho⟩, ?_⟩
  refine lam_run (N := ["word", "book"]) (ps := ["word"]) (x := "book") (F := lamF c c') (k := 1) (v := .ref b) (tb := tDIn (tVar 0) (tFld K (tVar 1) "sewn")) scLam rfl (fun pm ctv us hl => match us, hl with | [_], _ => rfl) (fun A outer s H E hr' => ?_) hr e0 hf hc hc' r rfl ?_
  rotate_left
  · have gb : er H c b = some (.ins (CB K) dx (bfs n t d)) := by
      rw [er_ne (cellO_no hc hb fun φ z => by cases z)]
      exact hb
    have gd : DGet (er H c) d (.str (txt z)) (valV (seen ws) (.inr (txt z) : Key)) := DGet.k (k := Sum.inr (txt z)) (by
      rw [er_ne (cellO_no hc hd fun φ z => by cases z)]
      exact hd)
    refine ⟨_, rfl, _, rfl, b, CB K, dx, bfs n t d, _, rfl, gb, T.bcl, T.bnS, bfs_s n t d, d, _, rfl, gd, rfl, ?_⟩
    rw [seen_val]
    exact q
  · show PE _ lamB _
    rw [lamB_eq]
    exact pe_cmp (pc_din (hu_of hr') (pv 0) (pe_fld (pv 1) rfl)) rfl
end
end EH

set_option Elab.async false
set_option linter.all false
set_option maxRecDepth 100000
set_option maxHeartbeats 4000000
namespace EH
open PySem PySem.Spec PyProof.Rows L2 LamX EL EM
/-- a promise of a value: what stood stands -/
abbrev Gives (K : PySem.W.Frag) (v : V) (H : Hp) (Q : VK) : Prop := ∀ H', Ex K H H' → Q v H'
section
variable {K : PySem.W.Frag} {g : TG} {tb : TS} {D : Ends} {σ : L2.St} {H : Hp} {tt : TT} {te : TE} {vs : List Nat} {Q : VK} {R : Addr → Hp → Prop}
theorem gk {v : V} (h : Gives K v H Q) : Q v H := h H .refl
/-- for c in text -/
theorem for_txt {w : W} (Pv : Nat → L2.St → Hp → Prop) (h0 : Pv 0 σ H) (hs : ∀ i b σ H, w[i]? = some b → Pv i σ H → g (.str (txt [b])) σ H fun σ2 H2 => tb { D with nx := Pv (i + 1), ct := Pv (i + 1), bk := D.nx } σ2 H2) (hd : ∀ σ H, Pv w.length σ H → D.nx σ H) :
    ∃ Wt : Nat → Nat → L2.St → Hp → Prop, (∃ m, Wt 0 m σ H) ∧ ∀ i m σ H, Wt i m σ H → ((Its (txt w)).stop i H ∧ D.nx σ H) ∨ ((Its (txt w)).go i H ∧ ∃ N : L2.St → Hp → Prop, (∀ σ' H', N σ' H' → ∃ m', m' < m ∧ Wt (i + 1) m' σ' H') ∧
      ∀ v H', (Its (txt w)).yld i H v H' → g v σ H' fun σ2 H2 => tb { D with nx := N, ct := N, bk := D.nx } σ2 H2) := by
  have ln : (txt w).cps.size = w.length := txt_len w
  refine ⟨fun i m σ H => i ≤ w.length ∧ m = w.length - i ∧ Pv i σ H, ⟨_, Nat.zero_le _, rfl, h0⟩, fun i m σ H ⟨hi, hm, hp⟩ => ?_⟩
  by_cases e : i = w.length
  · exact .inl ⟨by show (txt w).cps.size ≤ i; omega, hd σ H (e ▸ hp)⟩
  · refine .inr ⟨by show i < (txt w).cps.size; omega, Pv (i + 1), fun σ' H' q => ⟨w.length - (i + 1), by omega, by omega, rfl, q⟩, fun v H' y => ?_⟩
    obtain ⟨eH, c, hc, rfl⟩ := y
    obtain ⟨b, hb, rfl⟩ := txt_at hc
    rw [eH, sg_txt]
    exact hs i b σ H hb hp
/-- for i, c in enumerate(text) -/
theorem for_enumT {w : W} (Pv : Nat → L2.St → Hp → Prop) (h0 : Pv 0 σ H) (hs : ∀ i b T σ H, w[i]? = some b → Pv i σ H → H T = none → g (.ref T) σ (upd H T (.tup [.int (i : Nat), .str (txt [b])])) fun σ2 H2 => tb { D with nx := Pv (i + 1), ct := Pv (i + 1), bk := D.nx } σ2 H2)
    (hd : ∀ σ H, Pv w.length σ H → D.nx σ H) :
    ∃ Wt : Nat → Nat → L2.St → Hp → Prop, (∃ m, Wt 0 m σ H) ∧ ∀ i m σ H, Wt i m σ H → ((ItS (txt w)).stop i H ∧ D.nx σ H) ∨ ((ItS (txt w)).go i H ∧ ∃ N : L2.St → Hp → Prop, (∀ σ' H', N σ' H' → ∃ m', m' < m ∧ Wt (i + 1) m' σ' H') ∧
      ∀ v H', (ItS (txt w)).yld i H v H' → g v σ H' fun σ2 H2 => tb { D with nx := N, ct := N, bk := D.nx } σ2 H2) :=
  for_enumS (x := txt w) Pv h0 (fun i c T σ H hc hp hT => by
    obtain ⟨b, hb, rfl⟩ := txt_at hc
    rw [sg_txt]
    exact hs i b T σ H hb hp hT) fun σ H hp => hd σ H (by rw [← txt_len w]; exact hp)
/-- [e for c in text if t]; f i: the list behind i signs -/
theorem lc_txt {w : W} (f : Nat → List V) (h0 : f 0 = []) (hz : ∀ i, i < w.length → (f i).length ≤ 10000)
    (hs : ∀ i b L (H' : Hp) (Nx : Hp → Prop), w[i]? = some b → Ex K H H' → H' L = some (.lst (f i)) → H L = none → (∀ H4 y, Ex K H' H4 → f (i + 1) = f i ++ [y] → H4 L = some (.lst (f i)) ∧ (f i).length < sizeLine ∧ Nx (upd H4 L (.lst (f i ++ [y])))) → (∀ H3, Ex K H' H3 → f (i + 1) = f i → Nx H3) →
      g (.str (txt [b])) (wipe σ vs) H' fun σ2 H2 => wipe σ2 vs = wipe σ vs ∧ tt σ2 H2 fun c H3 => if c = true then te σ2 H3 fun y H4 => ∃ acc, H4 L = some (.lst acc) ∧ acc.length < sizeLine ∧ Nx (upd H4 L (.lst (acc ++ [y]))) else Nx H3)
    (hd : ∀ L H', H L = none → Ex K H H' → H' L = some (.lst (f w.length)) → R L H') :
    ∀ L, H L = none → ∃ Wt : Nat → Nat → Hp → Prop, (∃ m, Wt 0 m (upd H L (.lst []))) ∧ ∀ i m H', Wt i m H' → ((Its (txt w)).stop i H' ∧ R L H') ∨ ((Its (txt w)).go i H' ∧ ∃ Nx : Hp → Prop, (∀ H', Nx H' → ∃ m', m' < m ∧ Wt (i + 1) m' H') ∧
      ∀ x H2, (Its (txt w)).yld i H' x H2 → g x (wipe σ vs) H2 fun σ2 H2 => wipe σ2 vs = wipe σ vs ∧ tt σ2 H2 fun c H3 => if c = true then te σ2 H3 fun y H4 => ∃ acc, H4 L = some (.lst acc) ∧ acc.length < sizeLine ∧ Nx (upd H4 L (.lst (acc ++ [y]))) else Nx H3) := by
  intro L hL
  have ln : (txt w).cps.size = w.length := txt_len w
  refine ⟨fun i m H' => i ≤ w.length ∧ m = w.length - i ∧ Ex K H H' ∧ H' L = some (.lst (f i)), ⟨_, Nat.zero_le _, rfl, Ex.new hL, by rw [h0]; exact upd_same⟩, fun i m H' ⟨hi, hm, he, hp⟩ => ?_⟩
  by_cases e : i = w.length
  · subst e
    exact .inl ⟨by show (txt w).cps.size ≤ w.length; omega, hd L H' hL he hp⟩
  · refine .inr ⟨by show i < (txt w).cps.size; omega, fun H' => Ex K H H' ∧ H' L = some (.lst (f (i + 1))), fun H' q => ⟨w.length - (i + 1), by omega, by omega, rfl, q⟩, fun v H2 y => ?_⟩
    obtain ⟨eH, c, hc, rfl⟩ := y
    obtain ⟨b, hb, rfl⟩ := txt_at hc
    rw [eH, sg_txt]
    refine hs i b L H' _ hb he hp hL (fun H4 y e4 ef => ⟨e4.lst hp, Nat.lt_of_le_of_lt (hz i (by omega)) (by decide), (he.trans e4).mutL hL (e4.lst hp) _, by rw [ef]; exact upd_same⟩) fun H3 e3 ef => ⟨he.trans e3, by rw [ef]; exact e3.lst hp⟩
/-- the same over a list -/
theorem lc_lst {a : Addr} {xs : List V} (hx : SqL K H a xs) (f : Nat → List V) (h0 : f 0 = []) (hz : ∀ i, i < xs.length → (f i).length ≤ 10000)
    (hs : ∀ i x L (H' : Hp) (Nx : Hp → Prop), xs[i]? = some x → Ex K H H' → H' L = some (.lst (f i)) → H L = none → (∀ H4 y, Ex K H' H4 → f (i + 1) = f i ++ [y] → H4 L = some (.lst (f i)) ∧ (f i).length < sizeLine ∧ Nx (upd H4 L (.lst (f i ++ [y])))) → (∀ H3, Ex K H' H3 → f (i + 1) = f i → Nx H3) →
      g x (wipe σ vs) H' fun σ2 H2 => wipe σ2 vs = wipe σ vs ∧ tt σ2 H2 fun c H3 => if c = true then te σ2 H3 fun y H4 => ∃ acc, H4 L = some (.lst acc) ∧ acc.length < sizeLine ∧ Nx (upd H4 L (.lst (acc ++ [y]))) else Nx H3)
    (hd : ∀ L H', H L = none → Ex K H H' → H' L = some (.lst (f xs.length)) → R L H') :
    ∀ L, H L = none → ∃ Wt : Nat → Nat → Hp → Prop, (∃ m, Wt 0 m (upd H L (.lst []))) ∧ ∀ i m H', Wt i m H' → ((Itl K a).stop i H' ∧ R L H') ∨ ((Itl K a).go i H' ∧ ∃ Nx : Hp → Prop, (∀ H', Nx H' → ∃ m', m' < m ∧ Wt (i + 1) m' H') ∧
      ∀ x H2, (Itl K a).yld i H' x H2 → g x (wipe σ vs) H2 fun σ2 H2 => wipe σ2 vs = wipe σ vs ∧ tt σ2 H2 fun c H3 => if c = true then te σ2 H3 fun y H4 => ∃ acc, H4 L = some (.lst acc) ∧ acc.length < sizeLine ∧ Nx (upd H4 L (.lst (acc ++ [y]))) else Nx H3) := by
  intro L hL
  refine ⟨fun i m H' => i ≤ xs.length ∧ m = xs.length - i ∧ Ex K H H' ∧ H' L = some (.lst (f i)), ⟨_, Nat.zero_le _, rfl, Ex.new hL, by rw [h0]; exact upd_same⟩, fun i m H' ⟨hi, hm, he, hp⟩ => ?_⟩
  by_cases e : i = xs.length
  · subst e
    exact .inl ⟨⟨xs, he.sql hx, Nat.le_refl _⟩, hd L H' hL he hp⟩
  · have lt : i < xs.length := by omega
    refine .inr ⟨⟨xs, xs[i], he.sql hx, List.getElem?_eq_getElem lt⟩, fun H' => Ex K H H' ∧ H' L = some (.lst (f (i + 1))), fun H' q => ⟨xs.length - (i + 1), by omega, by omega, rfl, q⟩, fun v H2 y => ?_⟩
    obtain ⟨eH, hv⟩ := y
    rw [eH]
    refine hs i v L H' _ (hv _ (he.sql hx)) he hp hL (fun H4 y e4 ef => ⟨e4.lst hp, Nat.lt_of_le_of_lt (hz i lt) (by decide), (he.trans e4).mutL hL (e4.lst hp) _, by rw [ef]; exact upd_same⟩) fun H3 e3 ef => ⟨he.trans e3, by rw [ef]; exact e3.lst hp⟩
/-- the same over range -/
theorem lc_rng {lo : Int} {n : Nat} (f : Nat → List V) (h0 : f 0 = []) (hz : ∀ i, i < n → (f i).length ≤ 10000)
    (hs : ∀ i L (H' : Hp) (Nx : Hp → Prop), i < n → Ex K H H' → H' L = some (.lst (f i)) → H L = none → (∀ H4 y, Ex K H' H4 → f (i + 1) = f i ++ [y] → H4 L = some (.lst (f i)) ∧ (f i).length < sizeLine ∧ Nx (upd H4 L (.lst (f i ++ [y])))) → (∀ H3, Ex K H' H3 → f (i + 1) = f i → Nx H3) →
      g (.int (lo + i)) (wipe σ vs) H' fun σ2 H2 => wipe σ2 vs = wipe σ vs ∧ tt σ2 H2 fun c H3 => if c = true then te σ2 H3 fun y H4 => ∃ acc, H4 L = some (.lst acc) ∧ acc.length < sizeLine ∧ Nx (upd H4 L (.lst (acc ++ [y]))) else Nx H3)
    (hd : ∀ L H', H L = none → Ex K H H' → H' L = some (.lst (f n)) → R L H') :
    ∀ L, H L = none → ∃ Wt : Nat → Nat → Hp → Prop, (∃ m, Wt 0 m (upd H L (.lst []))) ∧ ∀ i m H', Wt i m H' → ((Itr lo n).stop i H' ∧ R L H') ∨ ((Itr lo n).go i H' ∧ ∃ Nx : Hp → Prop, (∀ H', Nx H' → ∃ m', m' < m ∧ Wt (i + 1) m' H') ∧
      ∀ x H2, (Itr lo n).yld i H' x H2 → g x (wipe σ vs) H2 fun σ2 H2 => wipe σ2 vs = wipe σ vs ∧ tt σ2 H2 fun c H3 => if c = true then te σ2 H3 fun y H4 => ∃ acc, H4 L = some (.lst acc) ∧ acc.length < sizeLine ∧ Nx (upd H4 L (.lst (acc ++ [y]))) else Nx H3) := by
  intro L hL
  refine ⟨fun i m H' => i ≤ n ∧ m = n - i ∧ Ex K H H' ∧ H' L = some (.lst (f i)), ⟨_, Nat.zero_le _, rfl, Ex.new hL, by rw [h0]; exact upd_same⟩, fun i m H' ⟨hi, hm, he, hp⟩ => ?_⟩
  by_cases e : i = n
  · subst e
    exact .inl ⟨Nat.le_refl _, hd L H' hL he hp⟩
  · have lt : i < n := by omega
    refine .inr ⟨lt, fun H' => Ex K H H' ∧ H' L = some (.lst (f (i + 1))), fun H' q => ⟨n - (i + 1), by omega, by omega, rfl, q⟩, fun v H2 y => ?_⟩
    obtain ⟨eH, rfl⟩ := y
    rw [eH]
    refine hs i L H' _ lt he hp hL (fun H4 y e4 ef => ⟨e4.lst hp, Nat.lt_of_le_of_lt (hz i lt) (by decide), (he.trans e4).mutL hL (e4.lst hp) _, by rw [ef]; exact upd_same⟩) fun H3 e3 ef => ⟨he.trans e3, by rw [ef]; exact e3.lst hp⟩
end
end EH

set_option Elab.async false
set_option linter.all false
set_option maxRecDepth 100000
set_option maxHeartbeats 4000000
namespace EH
open PySem PySem.Spec PyProof.Rows L2 LamX EL EM
/-! ### slices of words -/
theorem cut_from (w : W) (a : Nat) : cutS (txt w) (some (a : Int)) none = txt (w.drop a) := by
  rw [txt_cut, HT.sIx_nat, HT.sIx_none]
  congr 1
  by_cases h : a ≤ w.length
  · rw [Nat.min_eq_left h]
    exact List.take_of_length_le (by rw [List.length_drop]; omega)
  · rw [Nat.min_eq_right (by omega), List.drop_eq_nil_of_le (Nat.le_refl _), List.drop_eq_nil_of_le (by omega : w.length ≤ a), List.take_nil]
theorem cut_to (w : W) (b : Nat) : cutS (txt w) none (some (b : Int)) = txt (w.take b) := by
  rw [txt_cut, HT.sIx_nat, HT.sIx_none]
  congr 1
  show (w.drop 0).take (min b w.length - 0) = w.take b
  rw [List.drop_zero, Nat.sub_zero, Nat.min_comm, List.take_eq_take_iff]
  omega
theorem cut_ab (w : W) (a b : Nat) : cutS (txt w) (some (a : Int)) (some (b : Int)) = txt ((w.take b).drop a) := by
  rw [txt_cut, HT.sIx_nat, HT.sIx_nat]
  congr 1
  refine List.ext_getElem? fun i => ?_
  rw [List.getElem?_take, List.getElem?_drop, List.getElem?_drop, List.getElem?_take]
  by_cases h : a + i < b
  · rw [if_pos h]
    by_cases h2 : a + i < w.length
    · rw [if_pos (by omega), Nat.min_eq_left (by omega : a ≤ w.length)]
    · rw [List.getElem?_eq_none (by omega : w.length ≤ a + i)]
      split
      · exact List.getElem?_eq_none (by omega)
      · rfl
  · rw [if_neg h]
    by_cases h2 : i < min b w.length - min a w.length
    · omega
    · rw [if_neg h2]
theorem cut_init (w : W) : cutS (txt w) none (some (-1)) = txt w.dropLast := by
  rw [txt_cut, HT.sIx_none]
  congr 1
  show (w.drop 0).take ((if (-1 : Int) < 0 then ((-1 : Int) + (w.length : Int)).toNat else min (-1 : Int).toNat w.length) - 0) = _
  rw [if_pos (by decide), List.drop_zero, List.dropLast_eq_take]
  congr 1
  omega
theorem cut_mid (w : W) (a : Nat) : cutS (txt w) (some (a : Int)) (some (-1)) = txt ((w.drop a).dropLast) := by
  rw [txt_cut, HT.sIx_nat]
  congr 1
  show (w.drop (min a w.length)).take ((if (-1 : Int) < 0 then ((-1 : Int) + (w.length : Int)).toNat else min (-1 : Int).toNat w.length) - min a w.length) = _
  rw [if_pos (by decide), List.dropLast_eq_take, List.length_drop]
  by_cases h : a ≤ w.length
  · rw [Nat.min_eq_left h]
    congr 1
    omega
  · rw [List.drop_eq_nil_of_le (by omega : w.length ≤ a), Nat.min_eq_right (by omega), List.drop_eq_nil_of_le (Nat.le_refl _)]
    simp
section
variable {Pg : Program} {w : World} {K : PySem.W.Frag} {mg : Str → Option Value} {base : Heap}
/-! ### checks -/
def N_is_integer : List Str := ["value"]
theorem sc_is_integer : FnScope N_is_integer ["value"] (defScope s_is_integer) := ⟨rfl, rfl, rfl, by decide +kernel, rfl, by decide +kernel, by decide +kernel⟩
def sp_is_integer (K : PySem.W.Frag) : Sp := fun vs H Q _ => ∃ i : Int, vs = [.int i] ∧ Gives K (.bl true) H Q
theorem c_is_integer (T : Tx K mg) : Cl Pg w K mg base 1 "is_integer" (sp_is_integer K) :=
  calD T.g_is_integer T.f_is_integer sc_is_integer (fun _ _ _ _ _ _ us hl => match us, hl with | [_], _ => rfl) (fun vs H Q E h => by obtain ⟨i, rfl, _⟩ := h; rfl) fun cdv A outer st H vs Q E hr h => by
    obtain ⟨i, rfl, hQ⟩ := h
    refine ⟨_, (pss_one (ps_ret (pe_and (pe_callB call_isi (by rfl) T.n_isinstance (by decide +kernel) (pa_cons (pv 0) (pa_cons (pe_bltn (v := .ty "int") (u := .type "int") (by rfl) T.n_int (by decide +kernel) rfl) pa_nil))) (pe_one (pe_not (pe_callB call_isi (by rfl) T.n_isinstance (by decide +kernel) (pa_cons (pv 0) (pa_cons (pe_bltn (v := .ty "bool") (u := .type "bool") (by rfl) T.n_bool (by decide +kernel) rfl) pa_nil)))))))), ?_⟩
    refine ⟨_, rfl, _, _, _, _, true, rfl, .ty _, .base (.int i), kit_ty (by decide +kernel), true, rfl, ?_⟩
    refine ⟨_, rfl, _, _, _, _, false, rfl, .ty _, .base (.int i), kit_ty (by decide +kernel), false, rfl, ?_⟩
    exact gk hQ
def N_is_within : List Str := ["value", "least", "most"]
theorem sc_is_within : FnScope N_is_within ["value", "least", "most"] (defScope s_is_within) := ⟨rfl, rfl, rfl, by decide +kernel, rfl, by decide +kernel, by decide +kernel⟩
def sp_is_within (K : PySem.W.Frag) : Sp := fun vs H Q _ => ∃ i a b : Int, vs = [.int i, .int a, .int b] ∧ a ≤ i ∧ i ≤ b ∧ Gives K (.bl true) H Q
theorem c_is_within (T : Tx K mg) : Cl Pg w K mg base 2 "is_within" (sp_is_within K) :=
  have c_is_integer := c_is_integer (Pg := Pg) (w := w) (base := base) T
  calD T.g_is_within T.f_is_within sc_is_within (fun _ _ _ _ _ _ us hl => match us, hl with | [_, _, _], _ => rfl) (fun vs H Q E h => by obtain ⟨i, a, b, rfl, _⟩ := h; rfl) fun cdv A outer st H vs Q E hr h => by
    obtain ⟨i, a, b, rfl, h1, h2, hQ⟩ := h
    refine ⟨_, (pss_cons (ps_if (pt_not (pt_val (C8.pe_c c_is_integer hr (by decide) (by rfl) (pa_cons (pv 0) pa_nil)))) (pss_one (ps_ret pe_bl)) pss_nil)
      (pss_one (ps_ret (pe_and (pe_or (pe_cmpR op_isN (pv 1) pe_non (nomark _)) (pe_one (pe_cmpR op_le (pv 1) (pv 0) (nomark _)))) (pe_one (pe_or (pe_cmpR op_isN (pv 2) pe_non (nomark _)) (pe_one (pe_cmpR op_le (pv 0) (pv 2) (nomark _))))))))), ?_⟩
    refine ⟨_, rfl, i, rfl, fun H1 e1 => ⟨true, rfl, ?_⟩⟩
    refine ⟨_, rfl, rfl, false, rfl, ?_⟩
    refine ⟨_, rfl, _, rfl, _, _, rfl, rfl, true, by show V.bl (decide (a ≤ i)) = _; rw [decide_eq_true h1], ?_⟩
    refine ⟨_, rfl, rfl, false, rfl, ?_⟩
    refine ⟨_, rfl, _, rfl, _, _, rfl, rfl, ?_⟩
    show Q (V.bl (decide (i ≤ b))) H1
    rw [decide_eq_true h2]
    exact hQ H1 e1
def N_is_signs : List Str := ["value", "sign"]
theorem sc_is_signs : FnScope N_is_signs ["value"] (defScope s_is_signs) := ⟨rfl, rfl, rfl, by decide +kernel, rfl, by decide +kernel, by decide +kernel⟩
def sp_is_signs (K : PySem.W.Frag) : Sp := fun vs H Q _ => ∃ x : W, vs = [.str (txt x)] ∧ x.length ≤ 1000 ∧ Gives K (.bl true) H Q
theorem c_is_signs (T : Tx K mg) : Cl Pg w K mg base 1 "is_signs" (sp_is_signs K) :=
  calD T.g_is_signs T.f_is_signs sc_is_signs (fun _ _ _ _ _ _ us hl => match us, hl with | [_], _ => rfl) (fun vs H Q E h => by obtain ⟨i, rfl, _⟩ := h; rfl) fun cdv A outer st H vs Q E hr h => by
    obtain ⟨x, rfl, hx, hQ⟩ := h
    refine ⟨_, (pss_one (ps_ret (pe_and (pe_callB call_isi (by rfl) T.n_isinstance (by decide +kernel) (pa_cons (pv 0) (pa_cons (pe_bltn (v := .ty "str") (u := .type "str") (by rfl) T.n_str (by decide +kernel) rfl) pa_nil))) (pe_one (pe_callB (cr_all rfl) (by rfl) T.n_all (by decide +kernel) (pa_cons (pe_lc (own := [("sign", 1)]) (g := gName 1) (tt := tYes) (by rfl) sc_is_signs.nd (pi_str (pv 0)) (blkOk_by (own := [("sign", 1)]) (N := N_is_signs) (sc := (defScope s_is_signs)) (by decide +kernel)) (fun _ _ _ _ _ => pg_name (i := 1) sc_is_signs.nd rfl (Or.inl rfl)) (fun _ _ _ _ _ => pts_nil) (fun _ _ _ _ _ => (pe_cmpR op_in_sign (pv 1) (C8.pe_gc (by rfl) T.c_SIGNS) (by rfl)))) pa_nil)))))), ?_⟩
    refine ⟨_, rfl, _, _, _, _, true, rfl, .ty _, .base (.str _), kit_ty (by decide +kernel), true, rfl, ?_⟩
    refine ⟨_, rfl, _, rfl, lc_txt (K := K) (fun i => List.replicate i (V.bl true)) rfl (fun i hi => by rw [List.length_replicate]; omega) (fun i b L H' Nx hb he hl hL hY hN => ?_) (fun L H' hL he hl => ?_)⟩
    · refine ⟨rfl, ?_⟩
      refine ⟨_, rfl, _, _, by rw [← sg_txt], rfl, ?_⟩
      have e : decide (sg b ∈ ("01" : Str).cps.toList) = true := by cases b <;> decide +kernel
      rw [e]
      exact ⟨_, hY H' _ .refl (by rw [List.replicate_succ'])⟩
    · refine ⟨L, List.replicate x.length true, rfl, .inl (.inl (by rw [List.map_replicate]; exact hl)), ?_⟩
      rw [show (List.replicate x.length true).all id = true by rw [List.all_replicate]; simp]
      exact hQ H' he
/-! ### states -/
def N_burning : List Str := ["signs", "sign"]
theorem sc_burning : FnScope N_burning ["signs"] (defScope s_burning) := ⟨rfl, rfl, rfl, by decide +kernel, rfl, by decide +kernel, by decide +kernel⟩
def sp_burning (K : PySem.W.Frag) : Sp := fun vs H Q _ => ∃ x : W, vs = [.str (txt x)] ∧ x.length ≤ 1000 ∧ Gives K (.int (ones x : Nat)) H Q
theorem c_burning (T : Tx K mg) : Cl Pg w K mg base 1 "burning" (sp_burning K) :=
  calD T.g_burning T.f_burning sc_burning (fun _ _ _ _ _ _ us hl => match us, hl with | [_], _ => rfl) (fun vs H Q E h => by obtain ⟨i, rfl, _⟩ := h; rfl) fun cdv A outer st H vs Q E hr h => by
    obtain ⟨x, rfl, hx, hQ⟩ := h
    refine ⟨_, (pss_one (ps_ret (pe_callB call_len_seq (by rfl) T.n_len PySem.boot_len (pa_cons (pe_lc (own := [("sign", 1)]) (g := gName 1) (by rfl) sc_burning.nd (pi_str (pv 0)) (blkOk_by (own := [("sign", 1)]) (N := N_burning) (sc := (defScope s_burning)) (by decide +kernel)) (fun _ _ _ _ _ => pg_name (i := 1) sc_burning.nd rfl (Or.inl rfl)) (fun _ _ _ _ _ => (pts_one (pt_cmpR op_eq (pv 1) (C8.pe_gc (by rfl) T.c_BURNS) (nomark _)))) (fun _ _ _ _ _ => (pv 1))) pa_nil)))), ?_⟩
    refine ⟨_, rfl, _, rfl, lc_txt (K := K) (fun i => List.replicate (ones (x.take i)) (V.str (txt [true]))) rfl (fun i hi => ?_) (fun i b L H' Nx hb he hl hL hY hN => ?_) (fun L H' hL he hl => ?_)⟩
    · rw [List.length_replicate]
      exact Nat.le_trans List.count_le_length (by rw [List.length_take]; omega)
    · refine ⟨rfl, _, rfl, rfl, _, rfl, ?_⟩
      have e1 : x.take (i + 1) = x.take i ++ [b] := by rw [List.take_add_one, hb]; rfl
      have e2 : ones (x.take (i + 1)) = ones (x.take i) + ones [b] := by rw [e1]; exact List.count_append
      rw [s1, txt_dec]
      cases b with
      | true =>
            exact ⟨_, rfl, _, hY H' _ .refl (by rw [e2]; exact List.replicate_succ')⟩
      | false =>
            exact hN H' .refl (by rw [e2]; rfl)
    · refine ⟨L, _, rfl, .inl (.inl (.inl hl)), ?_⟩
      rw [List.take_length, List.length_replicate]
      exact hQ H' he
def N_is_high_in : List Str := ["state"]
theorem sc_is_high_in : FnScope N_is_high_in ["state"] (defScope s_is_high_in) := ⟨rfl, rfl, rfl, by decide +kernel, rfl, by decide +kernel, by decide +kernel⟩
def sp_is_high (K : PySem.W.Frag) : Sp := fun vs H Q _ => ∃ x : W, vs = [.str (txt x)] ∧ x.length ≤ 1000 ∧ Gives K (.bl (isHigh x)) H Q
theorem c_is_high_in (T : Tx K mg) : Cl Pg w K mg base 2 "is_high_in" (sp_is_high K) :=
  have c_burning := c_burning (Pg := Pg) (w := w) (base := base) T
  calD T.g_is_high_in T.f_is_high_in sc_is_high_in (fun _ _ _ _ _ _ us hl => match us, hl with | [_], _ => rfl) (fun vs H Q E h => by obtain ⟨i, rfl, _⟩ := h; rfl) fun cdv A outer st H vs Q E hr h => by
    obtain ⟨x, rfl, hx, hQ⟩ := h
    refine ⟨_, (pss_one (ps_ret (pe_cmpR op_gt (pe_op op_mul pe_int (C8.pe_c c_burning hr (by decide) (by rfl) (pa_cons (pv 0) pa_nil))) (pe_callB call_len_str (by rfl) T.n_len PySem.boot_len (pa_cons (pv 0) pa_nil)) (nomark _)))), ?_⟩
    refine ⟨_, rfl, x, rfl, hx, fun H1 e1 => ⟨_, _, rfl, rfl, .inl ⟨by decide, by decide⟩, _, rfl, _, rfl, sz (by rw [txt_len]; omega), _, _, rfl, rfl, ?_⟩⟩
    have e : decide (((txt x).length : Int) < 2 * ((ones x : Nat) : Int)) = isHigh x := by
      unfold isHigh
      rw [txt_len]
      congr 1
      exact propext (by omega)
    show Q (V.bl (decide (((txt x).length : Int) < 2 * ((ones x : Nat) : Int)))) H1
    rw [e]
    exact hQ H1 e1
def N_moved_in : List Str := ["state", "many", "ahead"]
theorem sc_moved_in : FnScope N_moved_in ["state", "many"] (defScope s_moved_in) := ⟨rfl, rfl, rfl, by decide +kernel, rfl, by decide +kernel, by decide +kernel⟩
def sp_moved (K : PySem.W.Frag) : Sp := fun vs H Q _ => ∃ (x : W) (m : Int), vs = [.str (txt x), .int m] ∧ x ≠ [] ∧ x.length ≤ 1000 ∧ Gives K (.str (txt (moved x m))) H Q
theorem c_moved_in (T : Tx K mg) : Cl Pg w K mg base 1 "moved_in" (sp_moved K) :=
  calD T.g_moved_in T.f_moved_in sc_moved_in (fun _ _ _ _ _ _ us hl => match us, hl with | [_, _], _ => rfl) (fun vs H Q E h => by obtain ⟨i, m, rfl, _⟩ := h; rfl) fun cdv A outer st H vs Q E hr h => by
    obtain ⟨x, m, rfl, h0, hx, hQ⟩ := h
    have hp : 0 < x.length := List.length_pos_iff.mpr h0
    refine ⟨_, (pss_cons (ps_set (i := 2) sc_moved_in.nd rfl (Or.inl rfl) (pe_op op_sub (pe_callB call_len_str (by rfl) T.n_len PySem.boot_len (pa_cons (pv 0) pa_nil)) (pe_op op_mod (pv 1) (pe_callB call_len_str (by rfl) T.n_len PySem.boot_len (pa_cons (pv 0) pa_nil)))))
      (pss_one (ps_ret (pe_op op_add_str (pe_slice sl_str (pv 0) (po_some (pv 2)) po_none) (pe_slice sl_str (pv 0) po_none (po_some (pv 2))))))), ?_⟩
    have hz : (txt x).length ≤ sizeLine := sz (by rw [txt_len]; omega)
    refine ⟨_, rfl, _, rfl, hz, _, rfl, _, rfl, _, rfl, hz, _, _, rfl, rfl, (by rw [txt_len]; omega), _, _, rfl, rfl, ?_⟩
    have hm := Int.emod_nonneg m (b := (x.length : Int)) (by omega)
    have hm2 := Int.emod_lt_of_pos m (b := (x.length : Int)) (by omega)
    have e : ((txt x).length : Int) - m % ((txt x).length : Int) = ((x.length - (m % x.length).toNat : Nat) : Int) := by
      rw [txt_len]
      omega
    show gName 2 (V.int (((txt x).length : Int) - m % ((txt x).length : Int))) _ _ _
    rw [e]
    refine ⟨_, rfl, _, rfl, _, rfl, _, rfl, hz, _, rfl, _, rfl, _, rfl, _, rfl, hz, _, _, rfl, rfl, ?_, ?_⟩
    · rw [cut_from, cut_to, txt_len, txt_len, List.length_drop, List.length_take]
      exact sz (by omega)
    · rw [cut_from, cut_to, txt_cat]
      exact gk hQ
def N_exchanged_in : List Str := ["state", "sign"]
theorem sc_exchanged_in : FnScope N_exchanged_in ["state"] (defScope s_exchanged_in) := ⟨rfl, rfl, rfl, by decide +kernel, rfl, by decide +kernel, by decide +kernel⟩
def sp_exch (K : PySem.W.Frag) : Sp := fun vs H Q _ => ∃ (x : W), vs = [.str (txt x)] ∧ x.length ≤ 1000 ∧ Gives K (.str (txt (exch x))) H Q
theorem join_bits (x : W) : Txt.join ("" : Str) (x.map fun b => txt [b]) = txt x := by
  have e1 : ("" : Str) = SX.S [] := by decide +kernel
  have e2 : (x.map fun b => txt [b]) = (x.map fun b => [sg b]).map SX.S := by rw [List.map_map]; rfl
  rw [e1, e2, SX.join_S]
  have e3 : ∀ y : W, TL.joinL [] (y.map fun b => [sg b]) = y.map sg := by
    intro y
    induction y with
    | nil => rfl
    | cons a r ih => cases r with
      | nil => rfl
      | cons c t => exact congrArg (sg a :: ·) ih
  rw [e3]
  rfl
theorem c_exchanged_in (T : Tx K mg) : Cl Pg w K mg base 1 "exchanged_in" (sp_exch K) :=
  calD T.g_exchanged_in T.f_exchanged_in sc_exchanged_in (fun _ _ _ _ _ _ us hl => match us, hl with | [_], _ => rfl) (fun vs H Q E h => by obtain ⟨i, rfl, _⟩ := h; rfl) fun cdv A outer st H vs Q E hr h => by
    obtain ⟨x, rfl, hx, hQ⟩ := h
    refine ⟨_, (pss_one (ps_ret (pe_join pe_str (pe_lc (own := [("sign", 1)]) (g := gName 1) (tt := tYes) (by rfl) sc_exchanged_in.nd (pi_str (pv 0)) (blkOk_by (own := [("sign", 1)]) (N := N_exchanged_in) (sc := (defScope s_exchanged_in)) (by decide +kernel)) (fun _ _ _ _ _ => pg_name (i := 1) sc_exchanged_in.nd rfl (Or.inl rfl)) (fun _ _ _ _ _ => pts_nil) (fun _ _ _ _ _ => (pe_ifExp (pt_cmpR op_eq (pv 1) (C8.pe_gc (by rfl) T.c_BURNS) (nomark _)) (C8.pe_gc (by rfl) T.c_DARK) (C8.pe_gc (by rfl) T.c_BURNS))))))), ?_⟩
    refine ⟨⟨_, rfl⟩, _, rfl, _, rfl, lc_txt (K := K) (fun i => (x.take i).map fun b => V.str (txt [!b])) rfl (fun i hi => by rw [List.length_map, List.length_take]; omega) (fun i b L H' Nx hb he hl hL hY hN => ?_) (fun L H' hL he hl => ?_)⟩
    · have e1 : x.take (i + 1) = x.take i ++ [b] := by rw [List.take_add_one, hb]; rfl
      refine ⟨rfl, ?_⟩
      refine ⟨_, rfl, rfl, _, rfl, ?_⟩
      rw [s1, txt_dec]
      have hk := hY H' (V.str (txt [!b])) .refl (by rw [e1, List.map_append]; rfl)
      cases b with
      | true =>
            exact ⟨_, by rw [s0]; exact hk⟩
      | false =>
            exact ⟨_, hk⟩
    · rw [List.take_length] at hl
      have e : (x.map fun b => V.str (txt [!b])) = ((exch x).map fun b => txt [b]).map V.str := by
        unfold exch
        rw [List.map_map, List.map_map]
        rfl
      rw [e] at hl
      refine ⟨_, L, _, rfl, rfl, .inl (.inl (.inl hl)), ?_, ?_⟩
      · rw [List.map_map]
        have e2 : ∀ y : W, ((y.map ((·.length) ∘ fun b => txt [b])).sum) = y.length := fun y => by
          induction y with
          | nil => rfl
          | cons a r ih =>
            rw [List.map_cons, List.sum_cons, ih, List.length_cons]
            show (txt [a]).length + _ = _
            rw [txt_len]
            simp only [List.length_cons, List.length_nil]
            omega
        rw [e2, List.length_map]
        have e3 : ("" : Str).length = 0 := by decide +kernel
        rw [e3]
        unfold exch
        rw [List.length_map]
        omega
      · rw [join_bits]
        exact hQ H' he
end
end EH

set_option Elab.async false
set_option linter.all false
set_option maxRecDepth 100000
set_option maxHeartbeats 4000000
namespace EH
open PySem PySem.Spec PyProof.Rows L2 LamX EL EM
/-- what a text must be to be a state -/
structure StOk (x : W) : Prop where
  odd : x.length % 2 = 1
  lo : 3 ≤ x.length
  hi : x.length ≤ 401
  on : ones x = x.length / 2 ∨ ones x = x.length / 2 + 1
structure WoOk (x : W) : Prop where
  lo : 2 ≤ x.length
  hi : x.length ≤ 400
  ok : goesA 0 x = some 0
theorem StOk.le {x : W} (h : StOk x) : x.length ≤ 1000 := Nat.le_trans h.hi (by decide)
theorem WoOk.le {x : W} (h : WoOk x) : x.length ≤ 1000 := Nat.le_trans h.hi (by decide)
theorem first_le {x : W} (hx : x.length ≤ 1000) : (first x).1.length ≤ 1000 ∧ (first x).2.length ≤ 1000 ∧ (first x).1.length + (first x).2.length ≤ x.length := by
  unfold first
  split
  · simp only [List.length_drop, List.length_take]
    omega
  · simp only [List.length_nil]
    omega
theorem turn_le {x : W} (hx : x.length ≤ 1000) : (turn x).length ≤ 1002 := by
  unfold turn
  obtain ⟨h1, h2, h3⟩ := first_le hx
  simp only [List.length_append, List.length_cons, List.length_nil]
  omega
/-- what the loop over a word has got -/
theorem fpA_take (x : W) : ∀ (i : Nat) (d : Int), (∀ j, j < i → fpA d (x.take (j + 1)) 0 = none) → fpA d (x.take i) 0 = none
  | 0, d, _ => by simp [fpA]
  | i + 1, d, h => h i (by omega)
section
variable {Pg : Program} {w : World} {K : PySem.W.Frag} {mg : Str → Option Value} {base : Heap}
def N_is_state : List Str := ["value"]
theorem sc_is_state : FnScope N_is_state ["value"] (defScope s_is_state) := ⟨rfl, rfl, rfl, by decide +kernel, rfl, by decide +kernel, by decide +kernel⟩
def sp_is_state (K : PySem.W.Frag) : Sp := fun vs H Q _ => ∃ x : W, vs = [.str (txt x)] ∧ StOk x ∧ Gives K (.bl true) H Q
theorem c_is_state (T : Tx K mg) : Cl Pg w K mg base 2 "is_state" (sp_is_state K) :=
  have c_is_signs := c_is_signs (Pg := Pg) (w := w) (base := base) T
  have c_burning := c_burning (Pg := Pg) (w := w) (base := base) T
  calD T.g_is_state T.f_is_state sc_is_state (fun _ _ _ _ _ _ us hl => match us, hl with | [_], _ => rfl) (fun vs H Q E h => by obtain ⟨i, rfl, _⟩ := h; rfl) fun cdv A outer st H vs Q E hr h => by
    obtain ⟨x, rfl, hs, hQ⟩ := h
    have hx := hs.le
    have hz : (txt x).length ≤ sizeLine := sz (by rw [txt_len]; omega)
    have h1 := hs.odd
    have h2 := hs.lo
    have h3 := hs.hi
    refine ⟨_, (pss_cons (ps_if (PW.pt (pw_or (pt_not (pt_val (C8.pe_c c_is_signs hr (by decide) (by rfl) (pa_cons (pv 0) pa_nil)))) (pw_or (pt_cmpR op_eq (pe_op op_mod (pe_callB call_len_str (by rfl) T.n_len PySem.boot_len (pa_cons (pv 0) pa_nil)) pe_int) pe_int (nomark _)) (pw_or1 (pt_not (pt_chain op_le op_le pe_int (pe_callB call_len_str (by rfl) T.n_len PySem.boot_len (pa_cons (pv 0) pa_nil)) (pe_op op_add (pe_op op_mul pe_int (C8.pe_gc (by rfl) T.c_MOST_PAIRS_states)) pe_int))))))) (pss_one (ps_ret pe_bl)) pss_nil)
      (pss_one (ps_ret (pe_cmpR op_in_seq (C8.pe_c c_burning hr (by decide) (by rfl) (pa_cons (pv 0) pa_nil)) (pe_tup (pa_cons (pe_op op_fdiv (pe_callB call_len_str (by rfl) T.n_len PySem.boot_len (pa_cons (pv 0) pa_nil)) pe_int) (pa_cons (pe_op op_add (pe_op op_fdiv (pe_callB call_len_str (by rfl) T.n_len PySem.boot_len (pa_cons (pv 0) pa_nil)) pe_int) pe_int) pa_nil))) (by rfl))))), ?_⟩
    refine ⟨_, rfl, x, rfl, hx, fun H1 e1 => ⟨true, rfl, ?_⟩⟩
    refine ⟨_, rfl, _, rfl, hz, _, _, rfl, rfl, (by show (0 : Int) < 2; decide), rfl, _, rfl, ?_⟩
    have e2 : decide (V.int (((txt x).length : Int) % 2) = V.int 0) = false := by
      rw [txt_len]
      refine decide_eq_false fun z => ?_
      have := V.int.inj z
      omega
    rw [e2]
    refine ⟨_, rfl, _, rfl, hz, _, _, rfl, rfl, true, ?_, ?_⟩
    · rw [txt_len]
      exact congrArg V.bl (decide_eq_true (by omega))
    refine ⟨_, _, rfl, rfl, .inl ⟨by decide, by decide⟩, _, _, rfl, rfl, _, _, rfl, rfl, true, ?_, ?_⟩
    · rw [txt_len]
      exact congrArg V.bl (decide_eq_true (by omega))
    refine ⟨_, rfl, x, rfl, hx, fun H2 e3 => ⟨_, rfl, _, rfl, hz, _, _, rfl, rfl, ⟨by decide, by decide⟩, _, rfl, _, rfl, hz, _, _, rfl, rfl, ⟨by decide, by decide⟩, _, _, rfl, rfl, (by show 2 ≤ sizeLine; decide), fun p hp => ⟨p, _, rfl, .inr (.inl (.inl upd_same)), rfl, rfl, ?_⟩⟩⟩
    have e4 : (if false = true then !inV (V.int (ones x : Nat)) [V.int (((txt x).length : Int) / 2), V.int (((txt x).length : Int) / 2 + 1)] else inV (V.int (ones x : Nat)) [V.int (((txt x).length : Int) / 2), V.int (((txt x).length : Int) / 2 + 1)]) = true := by
      rw [txt_len]
      show ((((x.length : Int) / 2) == ((ones x : Nat) : Int)) || ((((x.length : Int) / 2 + 1) == ((ones x : Nat) : Int)) || false)) = true
      rcases hs.on with z | z
      · rw [show (((x.length : Int) / 2) == ((ones x : Nat) : Int)) = true from beq_iff_eq.mpr (by omega)]
        rfl
      · rw [show (((x.length : Int) / 2 + 1) == ((ones x : Nat) : Int)) = true from beq_iff_eq.mpr (by omega), Bool.true_or, Bool.or_true]
    rw [e4]
    exact hQ _ ((e1.trans e3).trans (Ex.new hp))
def N_need_state : List Str := ["value", "part"]
theorem sc_need_state : FnScope N_need_state ["value", "part"] (defScope s_need_state) := ⟨rfl, rfl, rfl, by decide +kernel, rfl, by decide +kernel, by decide +kernel⟩
def sp_need_state (K : PySem.W.Frag) : Sp := fun vs H Q _ => ∃ (x : W) (p : Str), vs = [.str (txt x), .str p] ∧ StOk x ∧ Gives K .non H Q
theorem f_need_state (T : Tx K mg) : ∃ fd, FunD K "need_state" "need_state" (defArgs s_need_state) (defBody s_need_state) (defScope s_need_state) [.str "state"] [] (He.ga K "need_state") fd ∧ FnOk Pg w K mg base C8.CX0 3 (He.ga K "need_state") fd ["value", "part"] (sp_need_state K) := by
  have c_is_state := c_is_state (Pg := Pg) (w := w) (base := base) T
  obtain ⟨fd, F⟩ := T.f_need_state
  refine ⟨fd, F, F.ok sc_need_state (fun vs H Q E h => by obtain ⟨x, p, rfl, _⟩ := h; rfl) fun cdv A outer st H vs Q E hr h => ?_⟩
  obtain ⟨x, p, rfl, hs, hQ⟩ := h
  have body : ∃ t, PSs (cxOf C8.CX0 Pg w K mg base N_need_state "need_state" (defScope s_need_state) (He.ga K "need_state") cdv A outer st H E).nox (defBody s_need_state) t ∧ t { nx := fun _ H' => Q .non H', rt := Q } (L2.start N_need_state [.str (txt x), .str p]) H := by
    refine ⟨_, (pss_one (ps_if (pt_not (pt_val (C8.pe_c c_is_state hr (by decide) (by rfl) (pa_cons (pv 0) pa_nil)))) pss_never pss_nil)), ?_⟩
    exact ⟨_, rfl, x, rfl, hs, fun H1 e1 => ⟨true, rfl, hQ H1 e1⟩⟩
  obtain ⟨t, h1, h2⟩ := body
  exact ⟨t, h1.nox, h2⟩
theorem c_need_state2 (T : Tx K mg) : Cl Pg w K mg base 3 "need_state" (sp_need_state K) := by
  obtain ⟨fd, F, ok⟩ := f_need_state (Pg := Pg) (w := w) (base := base) T
  obtain ⟨ds, r, b⟩ := F.binds1 (ps := ["value", "part"]) 2 1 (by simp) rfl fun T kV doc pm an cdv ct us its h1 h2 => match us, its, h1, h2 with | [_, _], [_], _, _ => ⟨_, rfl, rfl⟩
  exact ⟨_, fd, _, ds, ok, T.g_need_state, F.kp, b, r⟩
theorem c_need_state (T : Tx K mg) : C8.Cal Pg w K mg base 3 "need_state" (sp_need_state K) [.str "state"] := by
  obtain ⟨fd, F, ok⟩ := f_need_state (Pg := Pg) (w := w) (base := base) T
  obtain ⟨ds, r, b⟩ := F.binds1 (ps := ["value", "part"]) 1 0 (by simp) rfl fun T kV doc pm an cdv ct us its h1 h2 => match us, its, h1, h2 with | [_], [_], _, _ => ⟨_, rfl, rfl⟩
  exact ⟨_, fd, _, ds, ok, T.g_need_state, F.kp, b, r⟩
def N_is_high : List Str := ["state"]
theorem sc_is_high : FnScope N_is_high ["state"] (defScope s_is_high) := ⟨rfl, rfl, rfl, by decide +kernel, rfl, by decide +kernel, by decide +kernel⟩
theorem c_is_high (T : Tx K mg) : Cl Pg w K mg base 4 "is_high" (fun vs H Q _ => ∃ x : W, vs = [.str (txt x)] ∧ StOk x ∧ Gives K (.bl (isHigh x)) H Q) :=
  have c_need_state := c_need_state (Pg := Pg) (w := w) (base := base) T
  have c_is_high_in := c_is_high_in (Pg := Pg) (w := w) (base := base) T
  calD T.g_is_high T.f_is_high sc_is_high (fun _ _ _ _ _ _ us hl => match us, hl with | [_], _ => rfl) (fun vs H Q E h => by obtain ⟨i, rfl, _⟩ := h; rfl) fun cdv A outer st H vs Q E hr h => by
    obtain ⟨x, rfl, hs, hQ⟩ := h
    refine ⟨_, (pss_cons (ps_expr (C8.pe_c c_need_state hr (by decide) (by rfl) (pa_cons (pv 0) pa_nil)))
      (pss_one (ps_ret (C8.pe_c c_is_high_in hr (by decide) (by rfl) (pa_cons (pv 0) pa_nil))))), ?_⟩
    exact ⟨_, rfl, x, _, rfl, hs, fun H1 e1 => ⟨_, rfl, x, rfl, hs.le, fun H2 e2 => hQ H2 (e1.trans e2)⟩⟩
/-! ### words -/
def N_is_word : List Str := ["value", "deep", "sign"]
theorem sc_is_word : FnScope N_is_word ["value"] (defScope s_is_word) := ⟨rfl, rfl, rfl, by decide +kernel, rfl, by decide +kernel, by decide +kernel⟩
def sp_is_word (K : PySem.W.Frag) : Sp := fun vs H Q _ => ∃ x : W, vs = [.str (txt x)] ∧ WoOk x ∧ Gives K (.bl true) H Q
theorem goesA_some : ∀ {x : W} {d e : Int}, goesA d x = some e → ∀ i b, x[i]? = some b → ∃ d', goesA d (x.take i) = some d' ∧ 0 ≤ stp d' b ∧ goesA d (x.take (i + 1)) = some (stp d' b)
  | [], _, _, _, i, b, h => by simp at h
  | a :: r, d, e, h, i, b, hb => by
    unfold goesA at h
    by_cases c : stp d a < 0
    · rw [if_pos c] at h; cases h
    · rw [if_neg c] at h
      cases i with
      | zero =>
        obtain rfl : a = b := by simpa using hb
        exact ⟨d, rfl, by omega, by simp [goesA, c]⟩
      | succ i =>
        obtain ⟨d', h1, h2, h3⟩ := goesA_some h i b (by simpa using hb)
        exact ⟨d', by simp [goesA, c, h1], h2, by simp [goesA, c]; simpa using h3⟩
theorem c_is_word (T : Tx K mg) : Cl Pg w K mg base 2 "is_word" (sp_is_word K) :=
  have c_is_signs := c_is_signs (Pg := Pg) (w := w) (base := base) T
  calD T.g_is_word T.f_is_word sc_is_word (fun _ _ _ _ _ _ us hl => match us, hl with | [_], _ => rfl) (fun vs H Q E h => by obtain ⟨i, rfl, _⟩ := h; rfl) fun cdv A outer st H vs Q E hr h => by
    obtain ⟨x, rfl, hs, hQ⟩ := h
    have hx := hs.le
    have hz : (txt x).length ≤ sizeLine := sz (by rw [txt_len]; omega)
    have h2 := hs.lo
    have h3 := hs.hi
    refine ⟨_, (pss_cons (ps_if (PW.pt (pw_or (pt_not (pt_val (C8.pe_c c_is_signs hr (by decide) (by rfl) (pa_cons (pv 0) pa_nil)))) (pw_or1 (pt_not (pt_chain op_le op_le pe_int (pe_callB call_len_str (by rfl) T.n_len PySem.boot_len (pa_cons (pv 0) pa_nil)) (pe_op op_mul pe_int (C8.pe_gc (by rfl) T.c_MOST_PAIRS_words))))))) (pss_one (ps_ret pe_bl)) pss_nil)
      (pss_cons (ps_set (i := 1) sc_is_word.nd rfl (Or.inl rfl) pe_int)
      (pss_cons (ps_for PassesOwn.never rfl (pi_str (pv 0)) (pg_name (i := 2) sc_is_word.nd rfl (Or.inl rfl)) (pss_cons (ps_set (i := 1) sc_is_word.nd rfl (Or.inl rfl) (pe_ifExp (pt_cmpR op_eq (pv 2) pe_str (nomark _)) (pe_op op_add (pv 1) pe_int) (pe_op op_sub (pv 1) pe_int)))
      (pss_one (ps_if (pt_cmpR op_lt (pv 1) pe_int (nomark _)) (pss_one (ps_ret pe_bl)) pss_nil))))
      (pss_one (ps_ret (pe_cmpR op_eq (pv 1) pe_int (nomark _))))))), ?_⟩
    refine ⟨_, rfl, x, rfl, hx, fun H1 e1 => ⟨true, rfl, ?_⟩⟩
    refine ⟨_, rfl, _, rfl, hz, _, _, rfl, rfl, true, ?_, ?_⟩
    · rw [txt_len]
      exact congrArg V.bl (decide_eq_true (by omega))
    refine ⟨_, _, rfl, rfl, .inl ⟨by decide, by decide⟩, _, _, rfl, rfl, true, ?_, ?_⟩
    · rw [txt_len]
      exact congrArg V.bl (decide_eq_true (by omega))
    refine ⟨_, rfl, _, rfl, for_txt (fun i σ H' => ∃ d s, goesA 0 (x.take i) = some d ∧ σ = [some (.str (txt x)), some (.int d), s] ∧ Ex K H H') ⟨0, none, by simp [goesA], rfl, e1⟩ (fun i b σ H' hb hp => ?_) fun σ H' hp => ?_⟩
    · obtain ⟨d, s, hd, rfl, he⟩ := hp
      obtain ⟨d', g1, g2, g3⟩ := goesA_some hs.ok i b hb
      rw [hd] at g1
      cases g1
      refine ⟨_, rfl, rfl, _, rfl, ?_⟩
      rw [s1, txt_dec]
      cases b with
      | true =>
        refine ⟨_, rfl, _, _, rfl, rfl, _, rfl, _, _, rfl, rfl, false, ?_, ?_⟩
        · exact congrArg V.bl (decide_eq_false (by unfold stp at g2; simp at g2; omega))
        exact ⟨_, _, g3, rfl, he⟩
      | false =>
        refine ⟨_, rfl, _, _, rfl, rfl, _, rfl, _, _, rfl, rfl, false, ?_, ?_⟩
        · exact congrArg V.bl (decide_eq_false (by unfold stp at g2; simp at g2; omega))
        exact ⟨_, _, g3, rfl, he⟩
    · obtain ⟨d, s, hd, rfl, he⟩ := hp
      rw [List.take_length, hs.ok] at hd
      cases hd
      refine ⟨_, rfl, rfl, ?_⟩
      exact hQ H' he
end
end EH

set_option Elab.async false
set_option linter.all false
set_option maxRecDepth 100000
set_option maxHeartbeats 4000000
namespace EH
open PySem PySem.Spec PyProof.Rows L2 LamX EL EM
theorem drop_at {x : W} {i : Nat} {b : Bool} (h : x[i]? = some b) : x.drop i = b :: x.drop (i + 1) := by
  obtain ⟨lt, e⟩ := List.getElem?_eq_some_iff.mp h
  rw [List.drop_eq_getElem_cons lt, e]
theorem it_len {α : Type} {f : α → α} {P : α → Prop} (hf : ∀ x, P x → P (f x)) {x : α} (h : P x) : ∀ n, P (it f n x)
  | 0 => h
  | n + 1 => hf _ (it_len hf h n)
theorem fpA_lt : ∀ {x : W} {d : Int} {i j : Nat}, fpA d x i = some j → i ≤ j ∧ j < i + x.length
  | [], _, _, _, h => by cases h
  | b :: r, d, i, j, h => by
    unfold fpA at h
    split at h
    · cases h
      simp
    · have := fpA_lt h
      simp only [List.length_cons]
      omega
theorem bkA_le : ∀ {x : W} {d : Int} {g i : Nat}, g ≤ i → bkA d g x i ≤ i + x.length
  | [], _, g, i, h => by simpa [bkA] using h
  | b :: r, d, g, i, h => by
    unfold bkA
    have := bkA_le (x := r) (d := stp d b) (g := if d = 0 then i else g) (i := i + 1) (by split <;> omega)
    simp only [List.length_cons]
    omega
theorem lhA_le : ∀ {x : W} {d l : Int} {g i : Nat}, g ≤ i → lhA d l g x i ≤ i + x.length
  | [], _, _, g, i, h => by simpa [lhA] using h
  | b :: r, d, l, g, i, h => by
    unfold lhA
    split
    · have := lhA_le (x := r) (d := stp d b) (l := stp d b) (g := i + 1) (i := i + 1) (Nat.le_refl _)
      simp only [List.length_cons]
      omega
    · have := lhA_le (x := r) (d := stp d b) (l := l) (g := g) (i := i + 1) (by omega)
      simp only [List.length_cons]
      omega
theorem back_le {x : W} (hx : x.length ≤ 1000) : (back x).length ≤ 2002 := by
  unfold back
  simp only [List.length_cons, List.length_append, List.length_dropLast, List.length_drop, List.length_take]
  omega
theorem dT {p a b : Prop} [Decidable p] (h : p) (x : a) : if decide p = true then a else b := by
  rw [decide_eq_true h]
  exact x
theorem dF {p a b : Prop} [Decidable p] (h : ¬ p) (x : b) : if decide p = true then a else b := by
  rw [decide_eq_false h]
  exact x
theorem sM : Str.empty = txt [] := by decide +kernel
theorem nT {p a b : Prop} [Decidable p] (h : ¬ p) (x : a) : if (!decide p) = true then a else b := by
  rw [decide_eq_false h]
  exact x
theorem nF {p a b : Prop} [Decidable p] (h : p) (x : b) : if (!decide p) = true then a else b := by
  rw [decide_eq_true h]
  exact x
theorem fpA_cons {d : Int} {b : Bool} {r : W} {i : Nat} : fpA d (b :: r) i = if stp d b = 0 then some i else fpA (stp d b) r (i + 1) := rfl
section
variable {Pg : Program} {w : World} {K : PySem.W.Frag} {mg : Str → Option Value} {base : Heap}
def N_first_pair_in : List Str := ["word", "deep", "at", "sign"]
theorem sc_first_pair_in : FnScope N_first_pair_in ["word"] (defScope s_first_pair_in) := ⟨rfl, rfl, rfl, by decide +kernel, rfl, by decide +kernel, by decide +kernel⟩
def sp_first (K : PySem.W.Frag) : Sp := fun vs H Q _ => ∃ x : W, vs = [.str (txt x)] ∧ x.length ≤ 1000 ∧ ∀ p H', Ex K H H' → H p = none → H' p = some (.tup [.str (txt (first x).1), .str (txt (first x).2)]) → Q (.ref p) H'
theorem c_first_pair_in (T : Tx K mg) : Cl Pg w K mg base 1 "first_pair_in" (sp_first K) :=
  calD T.g_first_pair_in T.f_first_pair_in sc_first_pair_in (fun _ _ _ _ _ _ us hl => match us, hl with | [_], _ => rfl) (fun vs H Q E h => by obtain ⟨i, rfl, _⟩ := h; rfl) fun cdv A outer st H vs Q E hr h => by
    obtain ⟨x, rfl, hx, hQ⟩ := h
    have hz : (txt x).length ≤ sizeLine := sz (by rw [txt_len]; omega)
    refine ⟨_, (pss_cons (ps_set (i := 1) sc_first_pair_in.nd rfl (Or.inl rfl) pe_int)
      (pss_cons (ps_for PassesOwn.never rfl (pi_enumS (by rfl) T.n_enumerate (pa_cons (pv 0) pa_nil)) (pg_tup rfl (pgs_cons (pg_name (i := 2) sc_first_pair_in.nd rfl (Or.inl rfl)) (pgs_cons (pg_name (i := 3) sc_first_pair_in.nd rfl (Or.inl rfl)) pgs_nil))) (pss_cons (ps_set (i := 1) sc_first_pair_in.nd rfl (Or.inl rfl) (pe_ifExp (pt_cmpR op_eq (pv 3) pe_str (nomark _)) (pe_op op_add (pv 1) pe_int) (pe_op op_sub (pv 1) pe_int)))
      (pss_one (ps_if (pt_cmpR op_eq (pv 1) pe_int (nomark _)) (pss_one (ps_ret (pe_tup (pa_cons (pe_slice sl_str (pv 0) (po_some pe_int) (po_some (pv 2))) (pa_cons (pe_slice sl_str (pv 0) (po_some (pe_op op_add (pv 2) pe_int)) po_none) pa_nil))))) pss_nil))))
      (pss_one (ps_ret (pe_tup (pa_cons (pv 0) (pa_cons pe_str pa_nil))))))), ?_⟩
    refine ⟨_, rfl, _, rfl, for_enumT (fun i σ H' => ∃ d a s, fpA 0 x 0 = fpA d (x.drop i) i ∧ σ = [some (.str (txt x)), some (.int d), a, s] ∧ Ex K H H') ⟨0, none, none, rfl, rfl, .refl⟩ (fun i b t σ H' hb hp ht => ?_) fun σ H' hp => ?_⟩
    · obtain ⟨d, a, s, hd, rfl, he⟩ := hp
      rw [drop_at hb, fpA_cons] at hd
      have he2 := he.trans (Ex.new (o := .tup [.int (i : Nat), .str (txt [b])]) ht)
      refine ⟨t, _, rfl, .inl (.inl upd_same), rfl, _, _, rfl, _, _, rfl, rfl, ?_⟩
      refine ⟨_, rfl, rfl, _, rfl, ?_⟩
      rw [s1, txt_dec]
      cases b with
      | true =>
        refine ⟨_, rfl, _, _, rfl, rfl, _, rfl, rfl, _, rfl, ?_⟩
        by_cases c : stp d true = 0
        · rw [if_pos c] at hd
          refine dT (congrArg V.int c) ?_
          refine ⟨_, rfl, _, rfl, _, rfl, _, rfl, _, rfl, hz, _, rfl, _, rfl, _, _, rfl, rfl, _, rfl, _, rfl, hz, (by show 2 ≤ sizeLine; decide), fun p hp => ?_⟩
          refine hQ p _ (he2.trans (Ex.new hp)) (he2.free hp) ?_
          rw [upd_same]
          unfold first
          rw [hd, show ((i : Int) + 1) = ((i + 1 : Nat) : Int) by omega, show (1 : Int) = ((1 : Nat) : Int) from rfl, cut_ab, cut_from]
        · rw [if_neg c] at hd
          refine dF (fun z => c (V.int.inj z)) ?_
          exact ⟨_, _, _, hd, rfl, he2⟩
      | false =>
        refine ⟨_, rfl, _, _, rfl, rfl, _, rfl, rfl, _, rfl, ?_⟩
        by_cases c : stp d false = 0
        · rw [if_pos c] at hd
          refine dT (congrArg V.int c) ?_
          refine ⟨_, rfl, _, rfl, _, rfl, _, rfl, _, rfl, hz, _, rfl, _, rfl, _, _, rfl, rfl, _, rfl, _, rfl, hz, (by show 2 ≤ sizeLine; decide), fun p hp => ?_⟩
          refine hQ p _ (he2.trans (Ex.new hp)) (he2.free hp) ?_
          rw [upd_same]
          unfold first
          rw [hd, show ((i : Int) + 1) = ((i + 1 : Nat) : Int) by omega, show (1 : Int) = ((1 : Nat) : Int) from rfl, cut_ab, cut_from]
        · rw [if_neg c] at hd
          refine dF (fun z => c (V.int.inj z)) ?_
          exact ⟨_, _, _, hd, rfl, he2⟩
    · obtain ⟨d, a, s, hd, rfl, he⟩ := hp
      rw [List.drop_length] at hd
      refine ⟨_, rfl, (by show 2 ≤ sizeLine; decide), fun p hp => ?_⟩
      refine hQ p _ (he.trans (Ex.new hp)) (he.free hp) ?_
      rw [upd_same]
      unfold first
      rw [hd, sE]
      rfl
def N_turned_in : List Str := ["word", "ahead", "behind"]
theorem sc_turned_in : FnScope N_turned_in ["word"] (defScope s_turned_in) := ⟨rfl, rfl, rfl, by decide +kernel, rfl, by decide +kernel, by decide +kernel⟩
def sp_turned (K : PySem.W.Frag) : Sp := fun vs H Q _ => ∃ x : W, vs = [.str (txt x)] ∧ x.length ≤ 1000 ∧ Gives K (.str (txt (turn x))) H Q
theorem c_turned_in (T : Tx K mg) : Cl Pg w K mg base 2 "turned_in" (sp_turned K) :=
  have c_first_pair_in := c_first_pair_in (Pg := Pg) (w := w) (base := base) T
  calD T.g_turned_in T.f_turned_in sc_turned_in (fun _ _ _ _ _ _ us hl => match us, hl with | [_], _ => rfl) (fun vs H Q E h => by obtain ⟨i, rfl, _⟩ := h; rfl) fun cdv A outer st H vs Q E hr h => by
    obtain ⟨x, rfl, hx, hQ⟩ := h
    obtain ⟨l1, l2, l3⟩ := first_le hx
    refine ⟨_, (pss_cons (ps_asg (C8.pe_c c_first_pair_in hr (by decide) (by rfl) (pa_cons (pv 0) pa_nil)) (pg_tup rfl (pgs_cons (pg_name (i := 1) sc_turned_in.nd rfl (Or.inl rfl)) (pgs_cons (pg_name (i := 2) sc_turned_in.nd rfl (Or.inl rfl)) pgs_nil))))
      (pss_one (ps_ret (pe_joined (.cons (pe_fmt (pv 1)) (.cons pe_str (.cons (pe_fmt (pv 2)) (.cons pe_str .nil)))))))), ?_⟩
    refine ⟨_, rfl, x, rfl, hx, fun p H1 e1 hp h1 => ⟨p, _, rfl, .inl (.inl h1), rfl, _, _, rfl, _, _, rfl, rfl, ?_⟩⟩
    refine ⟨_, rfl, .inl ⟨_, rfl, (sz (by simp only [sM, s1, s0, txt_cat, txt_len, List.length_append, List.length_cons, List.length_nil]; omega)), _, rfl, (sz (by simp only [sM, s1, s0, txt_cat, txt_len, List.length_append, List.length_cons, List.length_nil]; omega)), _, rfl, (sz (by simp only [sM, s1, s0, txt_cat, txt_len, List.length_append, List.length_cons, List.length_nil]; omega)), _, rfl, .inl ⟨_, rfl, (sz (by simp only [sM, s1, s0, txt_cat, txt_len, List.length_append, List.length_cons, List.length_nil]; omega)), _, rfl, (sz (by simp only [sM, s1, s0, txt_cat, txt_len, List.length_append, List.length_cons, List.length_nil]; omega)), _, rfl, (sz (by simp only [sM, s1, s0, txt_cat, txt_len, List.length_append, List.length_cons, List.length_nil]; omega)), ?_⟩⟩⟩
    have e : Str.empty ++ txt (first x).1 ++ "1" ++ txt (first x).2 ++ "0" = txt (turn x) := by
      simp only [sM, s1, s0, txt_cat, turn, List.nil_append, List.append_assoc, List.cons_append]
    show Q (V.str (Str.empty ++ txt (first x).1 ++ "1" ++ txt (first x).2 ++ "0")) H1
    rw [e]
    exact hQ H1 e1
theorem bkA_step (x : W) (d : Int) (g i : Nat) (b : Bool) (r : W) : bkA d g (b :: r) i = bkA (stp d b) (if d = 0 then i else g) r (i + 1) := rfl
def N_back_in : List Str := ["word", "deep", "begin", "at", "sign"]
theorem sc_back_in : FnScope N_back_in ["word"] (defScope s_back_in) := ⟨rfl, rfl, rfl, by decide +kernel, rfl, by decide +kernel, by decide +kernel⟩
def sp_back (K : PySem.W.Frag) : Sp := fun vs H Q _ => ∃ x : W, vs = [.str (txt x)] ∧ x.length ≤ 1000 ∧ Gives K (.str (txt (back x))) H Q
theorem c_back_in (T : Tx K mg) : Cl Pg w K mg base 1 "back_in" (sp_back K) :=
  calD T.g_back_in T.f_back_in sc_back_in (fun _ _ _ _ _ _ us hl => match us, hl with | [_], _ => rfl) (fun vs H Q E h => by obtain ⟨i, rfl, _⟩ := h; rfl) fun cdv A outer st H vs Q E hr h => by
    obtain ⟨x, rfl, hx, hQ⟩ := h
    have hz : (txt x).length ≤ sizeLine := sz (by rw [txt_len]; omega)
    refine ⟨_, (pss_cons (ps_asg (pe_tup (pa_cons pe_int (pa_cons pe_int pa_nil))) (pg_tup rfl (pgs_cons (pg_name (i := 1) sc_back_in.nd rfl (Or.inl rfl)) (pgs_cons (pg_name (i := 2) sc_back_in.nd rfl (Or.inl rfl)) pgs_nil))))
      (pss_cons (ps_for PassesOwn.never rfl (pi_enumS (by rfl) T.n_enumerate (pa_cons (pv 0) pa_nil)) (pg_tup rfl (pgs_cons (pg_name (i := 3) sc_back_in.nd rfl (Or.inl rfl)) (pgs_cons (pg_name (i := 4) sc_back_in.nd rfl (Or.inl rfl)) pgs_nil))) (pss_cons (ps_set (i := 2) sc_back_in.nd rfl (Or.inl rfl) (pe_ifExp (pt_cmpR op_eq (pv 1) pe_int (nomark _)) (pv 3) (pv 2)))
      (pss_one (ps_set (i := 1) sc_back_in.nd rfl (Or.inl rfl) (pe_ifExp (pt_cmpR op_eq (pv 4) pe_str (nomark _)) (pe_op op_add (pv 1) pe_int) (pe_op op_sub (pv 1) pe_int))))))
      (pss_one (ps_ret (pe_joined (.cons pe_str (.cons (pe_fmt (pe_slice sl_str (pv 0) po_none (po_some (pv 2)))) (.cons pe_str (.cons (pe_fmt (pe_slice sl_str (pv 0) (po_some (pe_op op_add (pv 2) pe_int)) (po_some (pe_un un_neg pe_int)))) .nil))))))))), ?_⟩
    refine ⟨(by show 2 ≤ sizeLine; decide), fun t0 ht0 => ⟨t0, _, rfl, .inl (.inl upd_same), rfl, _, _, rfl, _, _, rfl, rfl, ?_⟩⟩
    refine ⟨_, rfl, _, rfl, for_enumT (fun i σ H' => ∃ d g a s, bkA 0 0 x 0 = bkA d g (x.drop i) i ∧ σ = [some (.str (txt x)), some (.int d), some (.int (g : Nat)), a, s] ∧ Ex K H H') ⟨0, 0, none, none, rfl, rfl, Ex.new ht0⟩ (fun i b t σ H' hb hp ht => ?_) fun σ H' hp => ?_⟩
    · obtain ⟨d, g, a, s, hd, rfl, he⟩ := hp
      rw [drop_at hb, bkA_step x] at hd
      have he2 := he.trans (Ex.new (o := .tup [.int (i : Nat), .str (txt [b])]) ht)
      refine ⟨t, _, rfl, .inl (.inl upd_same), rfl, _, _, rfl, _, _, rfl, rfl, ?_⟩
      refine ⟨_, rfl, rfl, _, rfl, ?_⟩
      by_cases c : d = 0
      · rw [if_pos c] at hd
        refine dT (congrArg V.int c) ⟨_, rfl, _, rfl, rfl, _, rfl, ?_⟩
        rw [s1, txt_dec]
        cases b with
        | true => exact ⟨_, rfl, _, _, rfl, rfl, _, _, _, _, hd, rfl, he2⟩
        | false => exact ⟨_, rfl, _, _, rfl, rfl, _, _, _, _, hd, rfl, he2⟩
      · rw [if_neg c] at hd
        refine dF (fun z => c (V.int.inj z)) ⟨_, rfl, _, rfl, rfl, _, rfl, ?_⟩
        rw [s1, txt_dec]
        cases b with
        | true => exact ⟨_, rfl, _, _, rfl, rfl, _, _, _, _, hd, rfl, he2⟩
        | false => exact ⟨_, rfl, _, _, rfl, rfl, _, _, _, _, hd, rfl, he2⟩
    · obtain ⟨d, g, a, s, hd, rfl, he⟩ := hp
      rw [List.drop_length] at hd
      obtain rfl : bkA 0 0 x 0 = g := hd
      have e1 : cutS (txt x) (some (((bkA 0 0 x 0 : Nat) : Int) + 1)) (some (-1)) = txt ((x.drop (bkA 0 0 x 0 + 1)).dropLast) := cut_mid x (bkA 0 0 x 0 + 1)
      (repeat (first | refine ⟨_, rfl, ?_⟩ | refine ⟨rfl, ?_⟩ | refine ⟨_, _, rfl, rfl, ?_⟩ | refine ⟨hz, ?_⟩ | refine .inl ⟨_, rfl, sz (by simp only [*, sM, sE, s1, s0, s110, s101, txt_cat, txt_len, cut_to, cut_from, cut_init, List.length_append, List.length_cons, List.length_nil, List.length_take, List.length_drop, List.length_dropLast, List.length_reverse]; omega), ?_⟩ | refine ⟨sz (by simp only [*, sM, sE, s1, s0, s110, s101, txt_cat, txt_len, cut_to, cut_from, cut_init, List.length_append, List.length_cons, List.length_nil, List.length_take, List.length_drop, List.length_dropLast, List.length_reverse]; omega), ?_⟩))
      show Q (V.str (Str.empty ++ "1" ++ cutS (txt x) none (some ((bkA 0 0 x 0 : Nat) : Int)) ++ "0" ++ cutS (txt x) (some (((bkA 0 0 x 0 : Nat) : Int) + 1)) (some (-1)))) H'
      have e : Str.empty ++ "1" ++ cutS (txt x) none (some ((bkA 0 0 x 0 : Nat) : Int)) ++ "0" ++ cutS (txt x) (some (((bkA 0 0 x 0 : Nat) : Int) + 1)) (some (-1)) = txt (back x) := by
        rw [e1, cut_to]
        simp only [sM, s1, s0, txt_cat, back, List.nil_append, List.append_assoc, List.cons_append]
      rw [e]
      exact hQ H' he
/-! ### the turns of a word -/
def N_turns_in : List Str := ["word", "found", "later"]
theorem sc_turns_in : FnScope N_turns_in ["word"] (defScope s_turns_in) := ⟨rfl, rfl, rfl, by decide +kernel, rfl, by decide +kernel, by decide +kernel⟩
def sp_turns (K : PySem.W.Frag) : Sp := fun vs H Q _ => ∃ (x : W) (p : Nat), vs = [.str (txt x)] ∧ p ≤ 1000 ∧ Per turn x p ∧ (∀ j, j ≤ p → (it turn j x).length ≤ 1000) ∧ ∀ L H', Ex K H H' → H L = none → H' L = some (.lst (wds (orb turn x p))) → Q (.ref L) H'
theorem c_turns_in (T : Tx K mg) : Cl Pg w K mg base 3 "turns_in" (sp_turns K) :=
  have c_turned_in := c_turned_in (Pg := Pg) (w := w) (base := base) T
  calD T.g_turns_in T.f_turns_in sc_turns_in (fun _ _ _ _ _ _ us hl => match us, hl with | [_], _ => rfl) (fun vs H Q E h => by obtain ⟨i, _, rfl, _⟩ := h; rfl) fun cdv A outer st H vs Q E hr h => by
    obtain ⟨x, p, rfl, hp, hper, hlen, hQ⟩ := h
    refine ⟨_, (pss_cons (ps_par (i := 1) (j := 2) rfl sc_turns_in.nd rfl rfl (by decide) rfl rfl (pa_cons (pe_lst (pa_cons (pv 0) pa_nil)) (pa_cons (C8.pe_c c_turned_in hr (by decide) (by rfl) (pa_cons (pv 0) pa_nil)) pa_nil)) (by rfl))
      (pss_cons (ps_while PassesOwn.never (pt_cmpR op_ne (pv 2) (pv 0) (nomark _)) (pss_cons (ps_expr (pe_bm PySem.F.plainAttrs_list PySem.F.slot_list_append PySem.F.type_list_append mt_append (pv 1) (pa_cons (pv 2) pa_nil)))
      (pss_one (ps_set (i := 2) sc_turns_in.nd rfl (Or.inl rfl) (C8.pe_c c_turned_in hr (by decide) (by rfl) (pa_cons (pv 2) pa_nil))))))
      (pss_one (ps_ret (pv 1))))), ?_⟩
    (repeat (first | refine ⟨_, rfl, ?_⟩ | refine ⟨rfl, ?_⟩ | refine ⟨_, _, rfl, rfl, ?_⟩ | refine ⟨hz, ?_⟩ | refine .inl ⟨_, rfl, sz (by simp only [*, sM, sE, s1, s0, s110, s101, txt_cat, txt_len, cut_to, cut_from, cut_init, List.length_append, List.length_cons, List.length_nil, List.length_take, List.length_drop, List.length_dropLast, List.length_reverse]; omega), ?_⟩ | refine ⟨sz (by simp only [*, sM, sE, s1, s0, s110, s101, txt_cat, txt_len, cut_to, cut_from, cut_init, List.length_append, List.length_cons, List.length_nil, List.length_take, List.length_drop, List.length_dropLast, List.length_reverse]; omega), ?_⟩))
    intro L hL
    refine ⟨_, rfl, x, rfl, hlen 0 (Nat.zero_le _), fun H1 e1 => ⟨_, _, rfl, ?_⟩⟩
    have e2 : Ex K H H1 := (Ex.new hL).trans e1
    refine ⟨fun m σ H' => ∃ j, 1 ≤ j ∧ j ≤ p ∧ m = p - j ∧ σ = [some (.str (txt x)), some (.ref L), some (.str (txt (it turn j x)))] ∧ Ex K H H' ∧ H' L = some (.lst (wds (orb turn x j))), ⟨_, 1, Nat.le_refl _, hper.pos, rfl, rfl, e2, e1.lst upd_same⟩, fun m σ H' ⟨j, j1, jp, hm, hs, he, hl⟩ => ?_⟩
    subst hs
    by_cases c : j = p
    · subst c
      rw [hper.ret]
      (repeat (first | refine ⟨_, rfl, ?_⟩ | refine ⟨rfl, ?_⟩ | refine ⟨_, _, rfl, rfl, ?_⟩ | refine ⟨hz, ?_⟩ | refine .inl ⟨_, rfl, sz (by simp only [*, sM, sE, s1, s0, s110, s101, txt_cat, txt_len, cut_to, cut_from, cut_init, List.length_append, List.length_cons, List.length_nil, List.length_take, List.length_drop, List.length_dropLast, List.length_reverse]; omega), ?_⟩ | refine ⟨sz (by simp only [*, sM, sE, s1, s0, s110, s101, txt_cat, txt_len, cut_to, cut_from, cut_init, List.length_append, List.length_cons, List.length_nil, List.length_take, List.length_drop, List.length_dropLast, List.length_reverse]; omega), ?_⟩))
      exact nF rfl ⟨_, rfl, hQ L H' he hL hl⟩
    · (repeat (first | refine ⟨_, rfl, ?_⟩ | refine ⟨rfl, ?_⟩ | refine ⟨_, _, rfl, rfl, ?_⟩ | refine ⟨hz, ?_⟩ | refine .inl ⟨_, rfl, sz (by simp only [*, sM, sE, s1, s0, s110, s101, txt_cat, txt_len, cut_to, cut_from, cut_init, List.length_append, List.length_cons, List.length_nil, List.length_take, List.length_drop, List.length_dropLast, List.length_reverse]; omega), ?_⟩ | refine ⟨sz (by simp only [*, sM, sE, s1, s0, s110, s101, txt_cat, txt_len, cut_to, cut_from, cut_init, List.length_append, List.length_cons, List.length_nil, List.length_take, List.length_drop, List.length_dropLast, List.length_reverse]; omega), ?_⟩))
      refine nT (fun z => hper.no j (by omega) (by omega) (txt_inj (V.str.inj z))) ?_
      refine ⟨fun σ H' => ∃ j2, j < j2 ∧ j2 ≤ p ∧ σ = [some (.str (txt x)), some (.ref L), some (.str (txt (it turn j2 x)))] ∧ Ex K H H' ∧ H' L = some (.lst (wds (orb turn x j2))), fun σ' H2 ⟨j2, h1, h2, h3, h4, h5⟩ => ⟨p - j2, by omega, j2, by omega, h2, rfl, h3, h4, h5⟩, ?_⟩
      refine ⟨_, rfl, .inl ⟨rfl, _, .inl (.inl hl)⟩, _, rfl, L, _, _, rfl, rfl, hl, ?_, ?_⟩
      · unfold wds
        rw [List.length_map, orb_len]
        exact Nat.lt_of_le_of_lt (by omega : j ≤ 1000) (by decide)
      have he2 : Ex K H (upd H' L (.lst (wds (orb turn x (j + 1))))) := he.mutL hL hl _
      have el : wds (orb turn x j) ++ [V.str (txt (it turn j x))] = wds (orb turn x (j + 1)) := by
        rw [orb_succ]
        unfold wds
        rw [List.map_append]
        rfl
      rw [el]
      exact ⟨_, rfl, _, rfl, hlen j jp, fun H2 e2 => ⟨j + 1, by omega, by omega, rfl, he2.trans e2, e2.lst upd_same⟩⟩
end
end EH

set_option Elab.async false
set_option linter.all false
set_option maxRecDepth 100000
set_option maxHeartbeats 4000000
namespace EH
open PySem PySem.Spec PyProof.Rows L2 LamX EL EM
theorem txt_toList (x : W) : (txt x).cps = (x.map sg).toArray := rfl
theorem sg_inj {a b : Bool} (h : sg a = sg b) : a = b := by cases a <;> cases b <;> first | rfl | (revert h; decide)
theorem map_sg_inj {a b : W} (h : a.map sg = b.map sg) : a = b := txt_inj (by unfold txt; rw [h])
theorem starts_txt (x y : W) : Txt.startswith (txt x) (txt y) = decide (x.take y.length = y) := by
  unfold Txt.startswith
  rw [txt_len, txt_len]
  unfold PySem.Builtin.Str.subAt
  rw [txt_len, txt_toList, txt_toList, Nat.zero_add]
  have e : ((x.map sg).toArray.extract 0 y.length == (y.map sg).toArray) = decide (x.take y.length = y) := by
    rw [List.extract_toArray]
    by_cases c : x.take y.length = y
    · rw [decide_eq_true c, beq_iff_eq]
      simp only [List.extract_eq_drop_take, List.drop_zero, Nat.sub_zero, ← List.map_take, c]
    · rw [decide_eq_false c, beq_eq_false_iff_ne]
      intro z
      simp only [List.extract_eq_drop_take, List.drop_zero, Nat.sub_zero, ← List.map_take] at z
      exact c (map_sg_inj (congrArg Array.toList z))
  rw [e]
  by_cases c : x.take y.length = y
  · have : y.length ≤ x.length := by
      have q := congrArg List.length c
      rw [List.length_take] at q
      omega
    rw [decide_eq_true this, Bool.true_and]
  · rw [decide_eq_false c, Bool.and_false]
theorem rev_txt (x : W) : (⟨(txt x).cps.toList.reverse.toArray⟩ : Str) = txt x.reverse := by
  rw [txt_list]
  unfold txt
  rw [List.map_reverse]
theorem moved_len (x : W) (m : Int) : (moved x m).length = x.length := by
  unfold moved
  simp only [List.length_append, List.length_drop, List.length_take]
  omega
theorem lowHome_len (x : W) : (lowHome x).1.length = x.length - 1 := by
  unfold lowHome
  rw [List.length_dropLast, moved_len]
theorem exch_len (x : W) : (exch x).length = x.length := List.length_map _
theorem lhA_step (x : W) (d l : Int) (g i : Nat) (b : Bool) (r : W) : lhA d l g (b :: r) i = if stp d b < l then lhA (stp d b) (stp d b) (i + 1) r (i + 1) else lhA (stp d b) l g r (i + 1) := rfl
section
variable {Pg : Program} {w : World} {K : PySem.W.Frag} {mg : Str → Option Value} {base : Heap}
def N_low_home : List Str := ["state", "depth", "least", "begin", "lamp", "sign"]
theorem sc_low_home : FnScope N_low_home ["state"] (defScope s_low_home) := ⟨rfl, rfl, rfl, by decide +kernel, rfl, by decide +kernel, by decide +kernel⟩
def sp_low_home (K : PySem.W.Frag) : Sp := fun vs H Q _ => ∃ x : W, vs = [.str (txt x)] ∧ x ≠ [] ∧ x.length ≤ 1000 ∧ ∀ p H', Ex K H H' → H p = none → H' p = some (.tup [.str (txt (lowHome x).1), .int ((lowHome x).2 : Nat)]) → Q (.ref p) H'
theorem c_low_home (T : Tx K mg) : Cl Pg w K mg base 2 "low_home" (sp_low_home K) :=
  have c_moved_in := c_moved_in (Pg := Pg) (w := w) (base := base) T
  calD T.g_low_home T.f_low_home sc_low_home (fun _ _ _ _ _ _ us hl => match us, hl with | [_], _ => rfl) (fun vs H Q E h => by obtain ⟨i, rfl, _⟩ := h; rfl) fun cdv A outer st H vs Q E hr h => by
    obtain ⟨x, rfl, h0, hx, hQ⟩ := h
    have hz : (txt x).length ≤ sizeLine := sz (by rw [txt_len]; omega)
    refine ⟨_, (pss_cons (ps_asg (pe_tup (pa_cons pe_int (pa_cons pe_int (pa_cons pe_int pa_nil)))) (pg_tup rfl (pgs_cons (pg_name (i := 1) sc_low_home.nd rfl (Or.inl rfl)) (pgs_cons (pg_name (i := 2) sc_low_home.nd rfl (Or.inl rfl)) (pgs_cons (pg_name (i := 3) sc_low_home.nd rfl (Or.inl rfl)) pgs_nil)))))
      (pss_cons (ps_for PassesOwn.never rfl (pi_enumS (by rfl) T.n_enumerate (pa_cons (pv 0) pa_nil)) (pg_tup rfl (pgs_cons (pg_name (i := 4) sc_low_home.nd rfl (Or.inl rfl)) (pgs_cons (pg_name (i := 5) sc_low_home.nd rfl (Or.inl rfl)) pgs_nil))) (pss_cons (ps_set (i := 1) sc_low_home.nd rfl (Or.inl rfl) (pe_op op_add (pv 1) (pe_ifExp (pt_cmpR op_eq (pv 5) (C8.pe_gc (by rfl) T.c_BURNS) (nomark _)) pe_int (pe_un un_neg pe_int))))
      (pss_one (ps_if (pt_cmpR op_lt (pv 1) (pv 2) (nomark _)) (pss_one (ps_par (i := 2) (j := 3) rfl sc_low_home.nd rfl rfl (by decide) rfl rfl (pa_cons (pv 1) (pa_cons (pe_op op_add (pv 4) pe_int) pa_nil)) (by rfl))) pss_nil))))
      (pss_one (ps_ret (pe_tup (pa_cons (pe_slice sl_str (C8.pe_c c_moved_in hr (by decide) (by rfl) (pa_cons (pv 0) (pa_cons (pe_un un_neg (pv 3)) pa_nil))) po_none (po_some (pe_un un_neg pe_int))) (pa_cons (pe_op op_mod (pv 3) (pe_callB call_len_str (by rfl) T.n_len PySem.boot_len (pa_cons (pv 0) pa_nil))) pa_nil))))))), ?_⟩
    refine ⟨(by show 3 ≤ sizeLine; decide), fun t0 ht0 => ⟨t0, _, rfl, .inl (.inl upd_same), rfl, _, _, rfl, _, _, rfl, _, _, rfl, rfl, ?_⟩⟩
    refine ⟨_, rfl, _, rfl, for_enumT (fun i σ H' => ∃ d l g a s, lhA 0 0 0 x 0 = lhA d l g (x.drop i) i ∧ σ = [some (.str (txt x)), some (.int d), some (.int l), some (.int (g : Nat)), a, s] ∧ Ex K H H') ⟨0, 0, 0, none, none, rfl, rfl, Ex.new ht0⟩ (fun i b t σ H' hb hp ht => ?_) fun σ H' hp => ?_⟩
    · obtain ⟨d, l, g, a, s, hd, rfl, he⟩ := hp
      rw [drop_at hb, lhA_step x] at hd
      have he2 := he.trans (Ex.new (o := .tup [.int (i : Nat), .str (txt [b])]) ht)
      refine ⟨t, _, rfl, .inl (.inl upd_same), rfl, _, _, rfl, _, _, rfl, rfl, ?_⟩
      refine ⟨_, rfl, _, rfl, rfl, _, rfl, ?_⟩
      rw [s1, txt_dec]
      have fin : (if stp d b < l then lhA 0 0 0 x 0 = lhA (stp d b) (stp d b) (i + 1) (x.drop (i + 1)) (i + 1) else lhA 0 0 0 x 0 = lhA (stp d b) l g (x.drop (i + 1)) (i + 1)) := by
        split <;> rename_i c
        · rw [if_pos c] at hd; exact hd
        · rw [if_neg c] at hd; exact hd
      cases b with
      | true =>
        refine ⟨_, _, rfl, rfl, _, rfl, _, rfl, _, _, rfl, rfl, decide (d + 1 < l), rfl, ?_⟩
        by_cases c : d + 1 < l
        · refine dT c ?_
          rw [if_pos (show stp d true < l from c)] at fin
          exact ⟨_, rfl, _, rfl, _, _, rfl, rfl, _, _, rfl, _, _, _, _, _, fin, rfl, he2⟩
        · refine dF c ?_
          rw [if_neg (show ¬ stp d true < l from c)] at fin
          exact ⟨_, _, _, _, _, fin, rfl, he2⟩
      | false =>
        refine ⟨_, rfl, _, _, rfl, rfl, _, rfl, _, rfl, _, _, rfl, rfl, decide (d - 1 < l), rfl, ?_⟩
        by_cases c : d - 1 < l
        · refine dT c ?_
          rw [if_pos (show stp d false < l from c)] at fin
          exact ⟨_, rfl, _, rfl, _, _, rfl, rfl, _, _, rfl, _, _, _, _, _, fin, rfl, he2⟩
        · refine dF c ?_
          rw [if_neg (show ¬ stp d false < l from c)] at fin
          exact ⟨_, _, _, _, _, fin, rfl, he2⟩
    · obtain ⟨d, l, g, a, s, hd, rfl, he⟩ := hp
      rw [List.drop_length] at hd
      obtain rfl : lhA 0 0 0 x 0 = g := hd
      have hn : 0 < x.length := List.length_pos_iff.mpr h0
      refine ⟨_, rfl, _, rfl, _, rfl, x, _, rfl, h0, hx, fun H1 e1 => ⟨_, rfl, _, rfl, _, rfl, sz (by rw [txt_len, moved_len]; omega), ?_⟩⟩
      refine ⟨_, rfl, _, rfl, _, rfl, hz, _, _, rfl, rfl, (by show (0 : Int) < ((txt x).length : Int); rw [txt_len]; omega), (by show 2 ≤ sizeLine; decide), fun p hp => ?_⟩
      refine hQ p _ ((he.trans e1).trans (Ex.new hp)) ((he.trans e1).free hp) ?_
      rw [upd_same, cut_init, txt_len]
      rfl
def N_home_in : List Str := ["state", "word", "shift"]
theorem sc_home_in : FnScope N_home_in ["state"] (defScope s_home_in) := ⟨rfl, rfl, rfl, by decide +kernel, rfl, by decide +kernel, by decide +kernel⟩
def sp_home_in (K : PySem.W.Frag) : Sp := fun vs H Q _ => ∃ x : W, vs = [.str (txt x)] ∧ 2 ≤ x.length ∧ x.length ≤ 1000 ∧ ∀ p H', Ex K H H' → H p = none → H' p = some (.tup [.str (txt (homeIn x).1), .int ((homeIn x).2 : Nat)]) → Q (.ref p) H'
theorem c_home_in (T : Tx K mg) : Cl Pg w K mg base 3 "home_in" (sp_home_in K) :=
  have c_is_high_in := c_is_high_in (Pg := Pg) (w := w) (base := base) T
  have c_low_home := c_low_home (Pg := Pg) (w := w) (base := base) T
  have c_exchanged_in := c_exchanged_in (Pg := Pg) (w := w) (base := base) T
  calD T.g_home_in T.f_home_in sc_home_in (fun _ _ _ _ _ _ us hl => match us, hl with | [_], _ => rfl) (fun vs H Q E h => by obtain ⟨i, rfl, _⟩ := h; rfl) fun cdv A outer st H vs Q E hr h => by
    obtain ⟨x, rfl, h2, hx, hQ⟩ := h
    have hz : (txt x).length ≤ sizeLine := sz (by rw [txt_len]; omega)
    have h0 : x ≠ [] := fun z => by rw [z] at h2; cases h2
    refine ⟨_, (pss_cons (ps_if (pt_not (pt_val (C8.pe_c c_is_high_in hr (by decide) (by rfl) (pa_cons (pv 0) pa_nil)))) (pss_one (ps_ret (C8.pe_c c_low_home hr (by decide) (by rfl) (pa_cons (pv 0) pa_nil)))) pss_nil)
      (pss_cons (ps_asg (C8.pe_c c_low_home hr (by decide) (by rfl) (pa_cons (C8.pe_c c_exchanged_in hr (by decide) (by rfl) (pa_cons (pe_revS (pv 0)) pa_nil)) pa_nil)) (pg_tup rfl (pgs_cons (pg_name (i := 1) sc_home_in.nd rfl (Or.inl rfl)) (pgs_cons (pg_name (i := 2) sc_home_in.nd rfl (Or.inl rfl)) pgs_nil))))
      (pss_one (ps_ret (pe_tup (pa_cons (C8.pe_c c_exchanged_in hr (by decide) (by rfl) (pa_cons (pe_revS (pv 1)) pa_nil)) (pa_cons (pe_op op_mod (pe_op op_sub pe_int (pv 2)) (pe_callB call_len_str (by rfl) T.n_len PySem.boot_len (pa_cons (pv 0) pa_nil))) pa_nil))))))), ?_⟩
    refine ⟨_, rfl, x, rfl, hx, fun H1 e1 => ?_⟩
    cases c : isHigh x with
    | false =>
      refine ⟨_, rfl, _, rfl, x, rfl, h0, hx, fun p H2 e2 hp h2 => ?_⟩
      refine hQ p H2 (e1.trans e2) (e1.free hp) ?_
      unfold homeIn
      rw [c]
      exact h2
    | true =>
      (repeat (first | refine ⟨_, rfl, ?_⟩ | refine ⟨rfl, ?_⟩ | refine ⟨_, _, rfl, rfl, ?_⟩ | refine ⟨hz, ?_⟩ | refine ⟨by decide +kernel, ?_⟩ | refine .inl ⟨_, rfl, sz (by simp only [*, sM, sE, s1, s0, s110, s101, txt_cat, txt_len, cut_to, cut_from, cut_init, List.length_append, List.length_cons, List.length_nil, List.length_take, List.length_drop, List.length_dropLast, List.length_reverse]; omega), ?_⟩ | refine ⟨sz (by simp only [*, sM, sE, s1, s0, s110, s101, txt_cat, txt_len, cut_to, cut_from, cut_init, List.length_append, List.length_cons, List.length_nil, List.length_take, List.length_drop, List.length_dropLast, List.length_reverse]; omega), ?_⟩))
      refine ⟨x.reverse, congrArg (fun z => [V.str z]) (rev_txt x), by rw [List.length_reverse]; exact hx, fun H2 e2 => ⟨exch x.reverse, rfl, fun z => h0 (by have := congrArg List.length z; rw [exch_len, List.length_reverse] at this; exact List.eq_nil_of_length_eq_zero this), by rw [exch_len, List.length_reverse]; exact hx, fun p H3 e3 hp hv => ?_⟩⟩
      refine ⟨p, _, rfl, .inl (.inl hv), rfl, _, _, rfl, _, _, rfl, rfl, ?_⟩
      have l1 : (lowHome (exch x.reverse)).1.length ≤ 1000 := by rw [lowHome_len, exch_len, List.length_reverse]; omega
      refine ⟨_, rfl, _, rfl, sz (by rw [txt_len]; omega), (lowHome (exch x.reverse)).1.reverse, congrArg (fun z => [V.str z]) (rev_txt _), by rw [List.length_reverse]; exact l1, fun H4 e4 => ?_⟩
      refine ⟨_, rfl, _, _, rfl, rfl, _, rfl, _, rfl, hz, _, _, rfl, rfl, (by show (0 : Int) < ((txt x).length : Int); rw [txt_len]; omega), (by show 2 ≤ sizeLine; decide), fun q hq => ?_⟩
      have eE := ((e1.trans e2).trans e3).trans e4
      refine hQ q _ (eE.trans (Ex.new hq)) (eE.free hq) ?_
      rw [upd_same, txt_len]
      unfold homeIn
      rw [c]
      have e5 : ((((1 : Int) - ((lowHome (exch x.reverse)).2 : Nat)) % (x.length : Nat)).toNat : Int) = (1 - ((lowHome (exch x.reverse)).2 : Nat)) % (x.length : Nat) := Int.toNat_of_nonneg (Int.emod_nonneg _ (by omega))
      rw [if_pos rfl, e5]
def N_state_in : List Str := ["word", "shift", "is_high"]
theorem sc_state_in : FnScope N_state_in ["word", "shift", "is_high"] (defScope s_state_in) := ⟨rfl, rfl, rfl, by decide +kernel, rfl, by decide +kernel, by decide +kernel⟩
def sp_state_in (K : PySem.W.Frag) : Sp := fun vs H Q _ => ∃ (x : W) (s : Nat) (u : Bool), vs = [.str (txt x), .int (s : Nat), .bl u] ∧ x.length ≤ 900 ∧ Gives K (.str (txt (stateIn (x, s, u)))) H Q
theorem c_state_in (T : Tx K mg) : Cl Pg w K mg base 2 "state_in" (sp_state_in K) :=
  have c_moved_in := c_moved_in (Pg := Pg) (w := w) (base := base) T
  calD T.g_state_in T.f_state_in sc_state_in (fun _ _ _ _ _ _ us hl => match us, hl with | [_, _, _], _ => rfl) (fun vs H Q E h => by obtain ⟨i, _, _, rfl, _⟩ := h; rfl) fun cdv A outer st H vs Q E hr h => by
    obtain ⟨x, s, u, rfl, hx, hQ⟩ := h
    refine ⟨_, (pss_one (ps_ret (C8.pe_c c_moved_in hr (by decide) (by rfl) (pa_cons (pe_op op_add_str (pv 0) (pe_ifExp (pt_val (pv 2)) (C8.pe_gc (by rfl) T.c_BURNS) (C8.pe_gc (by rfl) T.c_DARK))) (pa_cons (pv 1) pa_nil))))), ?_⟩
    cases u with
    | true =>
      refine ⟨_, rfl, _, rfl, true, rfl, ?_⟩
      (repeat (first | refine ⟨_, rfl, ?_⟩ | refine ⟨rfl, ?_⟩ | refine ⟨_, _, rfl, rfl, ?_⟩ | refine ⟨hz, ?_⟩ | refine ⟨by decide +kernel, ?_⟩ | refine .inl ⟨_, rfl, sz (by simp only [*, sM, sE, s1, s0, s110, s101, txt_cat, txt_len, cut_to, cut_from, cut_init, List.length_append, List.length_cons, List.length_nil, List.length_take, List.length_drop, List.length_dropLast, List.length_reverse]; omega), ?_⟩ | refine ⟨sz (by simp only [*, sM, sE, s1, s0, s110, s101, txt_cat, txt_len, cut_to, cut_from, cut_init, List.length_append, List.length_cons, List.length_nil, List.length_take, List.length_drop, List.length_dropLast, List.length_reverse]; omega), ?_⟩))
      refine ⟨x ++ [true], (s : Nat), by rw [s1, txt_cat]; rfl, by simp, by simp; omega, fun H1 e1 => hQ H1 e1⟩
    | false =>
      refine ⟨_, rfl, _, rfl, false, rfl, ?_⟩
      (repeat (first | refine ⟨_, rfl, ?_⟩ | refine ⟨rfl, ?_⟩ | refine ⟨_, _, rfl, rfl, ?_⟩ | refine ⟨hz, ?_⟩ | refine ⟨by decide +kernel, ?_⟩ | refine .inl ⟨_, rfl, sz (by simp only [*, sM, sE, s1, s0, s110, s101, txt_cat, txt_len, cut_to, cut_from, cut_init, List.length_append, List.length_cons, List.length_nil, List.length_take, List.length_drop, List.length_dropLast, List.length_reverse]; omega), ?_⟩ | refine ⟨sz (by simp only [*, sM, sE, s1, s0, s110, s101, txt_cat, txt_len, cut_to, cut_from, cut_init, List.length_append, List.length_cons, List.length_nil, List.length_take, List.length_drop, List.length_dropLast, List.length_reverse]; omega), ?_⟩))
      refine ⟨x ++ [false], (s : Nat), by rw [s0, txt_cat]; rfl, by simp, by simp; omega, fun H1 e1 => hQ H1 e1⟩
def N_can_pull_in : List Str := ["word"]
theorem sc_can_pull_in : FnScope N_can_pull_in ["word"] (defScope s_can_pull_in) := ⟨rfl, rfl, rfl, by decide +kernel, rfl, by decide +kernel, by decide +kernel⟩
def sp_can_pull (K : PySem.W.Frag) : Sp := fun vs H Q _ => ∃ (x : W), vs = [.str (txt x)] ∧ x.length ≤ 1000 ∧ Gives K (.bl (decide (x.take 3 = p110))) H Q
theorem c_can_pull_in (T : Tx K mg) : Cl Pg w K mg base 1 "can_pull_in" (sp_can_pull K) :=
  calD T.g_can_pull_in T.f_can_pull_in sc_can_pull_in (fun _ _ _ _ _ _ us hl => match us, hl with | [_], _ => rfl) (fun vs H Q E h => by obtain ⟨i, rfl, _⟩ := h; rfl) fun cdv A outer st H vs Q E hr h => by
    obtain ⟨x, rfl, hx, hQ⟩ := h
    refine ⟨_, (pss_one (ps_ret (pe_m1 PySem.F.slot_str_startswith PySem.F.type_str_startswith mt_startswith (pv 0) (C8.pe_gc (by rfl) T.c_DEEP_LEAF)))), ?_⟩
    refine ⟨_, rfl, ⟨_, rfl⟩, _, _, rfl, rfl, ?_⟩
    rw [s110, starts_txt]
    exact gk hQ
def N_pulled_in : List Str := ["word"]
theorem sc_pulled_in : FnScope N_pulled_in ["word"] (defScope s_pulled_in) := ⟨rfl, rfl, rfl, by decide +kernel, rfl, by decide +kernel, by decide +kernel⟩
def sp_pulled (K : PySem.W.Frag) : Sp := fun vs H Q _ => ∃ (x : W), vs = [.str (txt x)] ∧ x.length ≤ 1000 ∧ Gives K (.str (txt (pulled x))) H Q
theorem c_pulled_in (T : Tx K mg) : Cl Pg w K mg base 1 "pulled_in" (sp_pulled K) :=
  calD T.g_pulled_in T.f_pulled_in sc_pulled_in (fun _ _ _ _ _ _ us hl => match us, hl with | [_], _ => rfl) (fun vs H Q E h => by obtain ⟨i, rfl, _⟩ := h; rfl) fun cdv A outer st H vs Q E hr h => by
    obtain ⟨x, rfl, hx, hQ⟩ := h
    have hz : (txt x).length ≤ sizeLine := sz (by rw [txt_len]; omega)
    refine ⟨_, (pss_one (ps_ret (pe_op op_add_str (C8.pe_gc (by rfl) T.c_NEAR_LEAF) (pe_slice sl_str (pv 0) (po_some (pe_callB call_len_str (by rfl) T.n_len PySem.boot_len (pa_cons (C8.pe_gc (by rfl) T.c_DEEP_LEAF) pa_nil))) po_none)))), ?_⟩
    (repeat (first | refine ⟨_, rfl, ?_⟩ | refine ⟨rfl, ?_⟩ | refine ⟨_, _, rfl, rfl, ?_⟩ | refine ⟨hz, ?_⟩ | refine ⟨by decide +kernel, ?_⟩ | refine .inl ⟨_, rfl, sz (by simp only [*, sM, sE, s1, s0, s110, s101, txt_cat, txt_len, cut_to, cut_from, cut_init, List.length_append, List.length_cons, List.length_nil, List.length_take, List.length_drop, List.length_dropLast, List.length_reverse]; omega), ?_⟩ | refine ⟨sz (by simp only [*, sM, sE, s1, s0, s110, s101, txt_cat, txt_len, cut_to, cut_from, cut_init, List.length_append, List.length_cons, List.length_nil, List.length_take, List.length_drop, List.length_dropLast, List.length_reverse]; omega), ?_⟩))
    refine ⟨?_, ?_⟩
    · rw [show (("110" : Str).length : Int) = ((3 : Nat) : Int) by decide +kernel, cut_from, txt_len, s101, txt_len, List.length_drop]
      exact sz (by show 3 + _ ≤ _; omega)
    · rw [show (("110" : Str).length : Int) = ((3 : Nat) : Int) by decide +kernel, cut_from, s101, txt_cat]
      exact gk hQ
def N_unpulled_in : List Str := ["word"]
theorem sc_unpulled_in : FnScope N_unpulled_in ["word"] (defScope s_unpulled_in) := ⟨rfl, rfl, rfl, by decide +kernel, rfl, by decide +kernel, by decide +kernel⟩
def sp_unpulled (K : PySem.W.Frag) : Sp := fun vs H Q _ => ∃ (x : W), vs = [.str (txt x)] ∧ x.length ≤ 1000 ∧ Gives K (.str (txt (unpulled x))) H Q
theorem c_unpulled_in (T : Tx K mg) : Cl Pg w K mg base 1 "unpulled_in" (sp_unpulled K) :=
  calD T.g_unpulled_in T.f_unpulled_in sc_unpulled_in (fun _ _ _ _ _ _ us hl => match us, hl with | [_], _ => rfl) (fun vs H Q E h => by obtain ⟨i, rfl, _⟩ := h; rfl) fun cdv A outer st H vs Q E hr h => by
    obtain ⟨x, rfl, hx, hQ⟩ := h
    have hz : (txt x).length ≤ sizeLine := sz (by rw [txt_len]; omega)
    refine ⟨_, (pss_one (ps_ret (pe_op op_add_str (C8.pe_gc (by rfl) T.c_DEEP_LEAF) (pe_slice sl_str (pv 0) (po_some (pe_callB call_len_str (by rfl) T.n_len PySem.boot_len (pa_cons (C8.pe_gc (by rfl) T.c_NEAR_LEAF) pa_nil))) po_none)))), ?_⟩
    (repeat (first | refine ⟨_, rfl, ?_⟩ | refine ⟨rfl, ?_⟩ | refine ⟨_, _, rfl, rfl, ?_⟩ | refine ⟨hz, ?_⟩ | refine ⟨by decide +kernel, ?_⟩ | refine .inl ⟨_, rfl, sz (by simp only [*, sM, sE, s1, s0, s110, s101, txt_cat, txt_len, cut_to, cut_from, cut_init, List.length_append, List.length_cons, List.length_nil, List.length_take, List.length_drop, List.length_dropLast, List.length_reverse]; omega), ?_⟩ | refine ⟨sz (by simp only [*, sM, sE, s1, s0, s110, s101, txt_cat, txt_len, cut_to, cut_from, cut_init, List.length_append, List.length_cons, List.length_nil, List.length_take, List.length_drop, List.length_dropLast, List.length_reverse]; omega), ?_⟩))
    refine ⟨?_, ?_⟩
    · rw [show (("101" : Str).length : Int) = ((3 : Nat) : Int) by decide +kernel, cut_from, txt_len, s110, txt_len, List.length_drop]
      exact sz (by show 3 + _ ≤ _; omega)
    · rw [show (("101" : Str).length : Int) = ((3 : Nat) : Int) by decide +kernel, cut_from, s110, txt_cat]
      exact gk hQ
end
end EH

set_option Elab.async false
set_option linter.all false
set_option maxRecDepth 100000
set_option maxHeartbeats 4000000
namespace EH
open PySem PySem.Spec PyProof.Rows L2 LamX EL EM
section
variable {K : PySem.W.Frag} {g : TG} {tb : TS} {D : Ends} {σ : L2.St} {H : Hp}
theorem for_any {J : It} (n : Nat) (val : Nat → V → Prop) (Pv : Nat → L2.St → Hp → Prop) (h0 : Pv 0 σ H) (hgo : ∀ i σ H, i < n → Pv i σ H → J.go i H) (hst : ∀ σ H, Pv n σ H → J.stop n H) (hy : ∀ i σ H v H', i < n → Pv i σ H → J.yld i H v H' → H' = H ∧ val i v)
    (hs : ∀ i v σ H, i < n → val i v → Pv i σ H → g v σ H fun σ2 H2 => tb { D with nx := Pv (i + 1), ct := Pv (i + 1), bk := D.nx } σ2 H2) (hd : ∀ σ H, Pv n σ H → D.nx σ H) :
    ∃ Wt : Nat → Nat → L2.St → Hp → Prop, (∃ m, Wt 0 m σ H) ∧ ∀ i m σ H, Wt i m σ H → (J.stop i H ∧ D.nx σ H) ∨ (J.go i H ∧ ∃ N : L2.St → Hp → Prop, (∀ σ' H', N σ' H' → ∃ m', m' < m ∧ Wt (i + 1) m' σ' H') ∧
      ∀ v H', J.yld i H v H' → g v σ H' fun σ2 H2 => tb { D with nx := N, ct := N, bk := D.nx } σ2 H2) := by
  refine ⟨fun i m σ H => i ≤ n ∧ m = n - i ∧ Pv i σ H, ⟨_, Nat.zero_le _, rfl, h0⟩, fun i m σ H ⟨hi, hm, hp⟩ => ?_⟩
  by_cases e : i = n
  · subst e
    exact .inl ⟨hst σ H hp, hd σ H hp⟩
  · have lt : i < n := by omega
    refine .inr ⟨hgo i σ H lt hp, Pv (i + 1), fun σ' H' q => ⟨n - (i + 1), by omega, by omega, rfl, q⟩, fun v H' y => ?_⟩
    obtain ⟨rfl, hv⟩ := hy i σ H v H' lt hp y
    exact hs i v σ H' lt hv hp
theorem for_rng {lo : Int} {n : Nat} (Pv : Nat → L2.St → Hp → Prop) (h0 : Pv 0 σ H) (hs : ∀ i σ H, i < n → Pv i σ H → g (.int (lo + i)) σ H fun σ2 H2 => tb { D with nx := Pv (i + 1), ct := Pv (i + 1), bk := D.nx } σ2 H2) (hd : ∀ σ H, Pv n σ H → D.nx σ H) :
    ∃ Wt : Nat → Nat → L2.St → Hp → Prop, (∃ m, Wt 0 m σ H) ∧ ∀ i m σ H, Wt i m σ H → ((Itr lo n).stop i H ∧ D.nx σ H) ∨ ((Itr lo n).go i H ∧ ∃ N : L2.St → Hp → Prop, (∀ σ' H', N σ' H' → ∃ m', m' < m ∧ Wt (i + 1) m' σ' H') ∧
      ∀ v H', (Itr lo n).yld i H v H' → g v σ H' fun σ2 H2 => tb { D with nx := N, ct := N, bk := D.nx } σ2 H2) :=
  for_any n (fun i v => v = .int (lo + i)) Pv h0 (fun i σ H h _ => h) (fun σ H _ => Nat.le_refl _) (fun i σ H v H' _ _ y => y) (fun i v σ H h e p => by subst e; exact hs i σ H h p) hd
theorem for_lst {a : Addr} {xs : List V} (Pv : Nat → L2.St → Hp → Prop) (hx : ∀ i σ H, Pv i σ H → SqL K H a xs) (h0 : Pv 0 σ H) (hs : ∀ i x σ H, xs[i]? = some x → Pv i σ H → g x σ H fun σ2 H2 => tb { D with nx := Pv (i + 1), ct := Pv (i + 1), bk := D.nx } σ2 H2) (hd : ∀ σ H, Pv xs.length σ H → D.nx σ H) :
    ∃ Wt : Nat → Nat → L2.St → Hp → Prop, (∃ m, Wt 0 m σ H) ∧ ∀ i m σ H, Wt i m σ H → ((Itl K a).stop i H ∧ D.nx σ H) ∨ ((Itl K a).go i H ∧ ∃ N : L2.St → Hp → Prop, (∀ σ' H', N σ' H' → ∃ m', m' < m ∧ Wt (i + 1) m' σ' H') ∧
      ∀ v H', (Itl K a).yld i H v H' → g v σ H' fun σ2 H2 => tb { D with nx := N, ct := N, bk := D.nx } σ2 H2) :=
  for_any xs.length (fun i v => xs[i]? = some v) Pv h0 (fun i σ H h p => ⟨xs, xs[i], hx i σ H p, List.getElem?_eq_getElem h⟩) (fun σ H p => ⟨xs, hx _ σ H p, Nat.le_refl _⟩) (fun i σ H v H' _ p y => ⟨y.1, y.2 xs (hx i σ H p)⟩) (fun i v σ H _ e p => hs i v σ H e p) hd
theorem for_tup {a : Addr} {xs : List V} (Pv : Nat → L2.St → Hp → Prop) (hx : ∀ i σ H, Pv i σ H → SqT K H a xs) (h0 : Pv 0 σ H) (hs : ∀ i x σ H, xs[i]? = some x → Pv i σ H → g x σ H fun σ2 H2 => tb { D with nx := Pv (i + 1), ct := Pv (i + 1), bk := D.nx } σ2 H2) (hd : ∀ σ H, Pv xs.length σ H → D.nx σ H) :
    ∃ Wt : Nat → Nat → L2.St → Hp → Prop, (∃ m, Wt 0 m σ H) ∧ ∀ i m σ H, Wt i m σ H → ((Itt K a).stop i H ∧ D.nx σ H) ∨ ((Itt K a).go i H ∧ ∃ N : L2.St → Hp → Prop, (∀ σ' H', N σ' H' → ∃ m', m' < m ∧ Wt (i + 1) m' σ' H') ∧
      ∀ v H', (Itt K a).yld i H v H' → g v σ H' fun σ2 H2 => tb { D with nx := N, ct := N, bk := D.nx } σ2 H2) :=
  for_any xs.length (fun i v => xs[i]? = some v) Pv h0 (fun i σ H h p => ⟨xs, xs[i], hx i σ H p, List.getElem?_eq_getElem h⟩) (fun σ H p => ⟨xs, hx _ σ H p, Nat.le_refl _⟩) (fun i σ H v H' _ p y => ⟨y.1, y.2 xs (hx i σ H p)⟩) (fun i v σ H _ e p => hs i v σ H e p) hd
theorem for_key {a : Addr} {o : Obj} {kvs : List (Key × V)} (Pv : Nat → L2.St → Hp → Prop) (hx : ∀ i σ H, Pv i σ H → H a = some (.frz o (.dK kvs))) (h0 : Pv 0 σ H) (hs : ∀ i k v σ H, kvs[i]? = some (k, v) → Pv i σ H → g (kV k) σ H fun σ2 H2 => tb { D with nx := Pv (i + 1), ct := Pv (i + 1), bk := D.nx } σ2 H2) (hd : ∀ σ H, Pv kvs.length σ H → D.nx σ H) :
    ∃ Wt : Nat → Nat → L2.St → Hp → Prop, (∃ m, Wt 0 m σ H) ∧ ∀ i m σ H, Wt i m σ H → ((Itk a o kvs).stop i H ∧ D.nx σ H) ∨ ((Itk a o kvs).go i H ∧ ∃ N : L2.St → Hp → Prop, (∀ σ' H', N σ' H' → ∃ m', m' < m ∧ Wt (i + 1) m' σ' H') ∧
      ∀ v H', (Itk a o kvs).yld i H v H' → g v σ H' fun σ2 H2 => tb { D with nx := N, ct := N, bk := D.nx } σ2 H2) :=
  for_any kvs.length (fun i x => ∃ k v, kvs[i]? = some (k, v) ∧ x = kV k) Pv h0 (fun i σ H h p => ⟨hx i σ H p, h⟩) (fun σ H p => ⟨hx _ σ H p, Nat.le_refl _⟩) (fun i σ H v H' _ p y => y) (fun i x σ H _ e p => by obtain ⟨k, v, e, rfl⟩ := e; exact hs i k v σ H e p) hd
theorem for_rngc {lo c : Int} {n : Nat} (Pv : Nat → L2.St → Hp → Prop) (h0 : Pv 0 σ H) (hs : ∀ i σ H, i < n → Pv i σ H → g (.int (lo + i * c)) σ H fun σ2 H2 => tb { D with nx := Pv (i + 1), ct := Pv (i + 1), bk := D.nx } σ2 H2) (hd : ∀ σ H, Pv n σ H → D.nx σ H) :
    ∃ Wt : Nat → Nat → L2.St → Hp → Prop, (∃ m, Wt 0 m σ H) ∧ ∀ i m σ H, Wt i m σ H → ((Itc lo c n).stop i H ∧ D.nx σ H) ∨ ((Itc lo c n).go i H ∧ ∃ N : L2.St → Hp → Prop, (∀ σ' H', N σ' H' → ∃ m', m' < m ∧ Wt (i + 1) m' σ' H') ∧
      ∀ v H', (Itc lo c n).yld i H v H' → g v σ H' fun σ2 H2 => tb { D with nx := N, ct := N, bk := D.nx } σ2 H2) :=
  for_any n (fun i v => v = .int (lo + i * c)) Pv h0 (fun i σ H h _ => h) (fun σ H _ => Nat.le_refl _) (fun i σ H v H' _ _ y => y) (fun i v σ H h e p => by subst e; exact hs i σ H h p) hd
end
end EH

set_option Elab.async false
set_option linter.all false
set_option maxRecDepth 100000
set_option maxHeartbeats 4000000
namespace EH
open PySem PySem.Spec PyProof.Rows L2 LamX EL EM
theorem first_le3 (x : W) : (first x).1.length + (first x).2.length ≤ x.length := by
  unfold first
  split
  · simp only [List.length_drop, List.length_take]
    omega
  · simp only [List.length_nil]
    omega
theorem turn_le2 (x : W) : (turn x).length ≤ x.length + 2 := by
  have := first_le3 x
  unfold turn
  simp only [List.length_append, List.length_cons, List.length_nil]
  omega
theorem back_le2 (x : W) : (back x).length ≤ x.length + 2 := by
  unfold back
  simp only [List.length_cons, List.length_append, List.length_dropLast, List.length_drop, List.length_take]
  omega
theorem l101 : ((("101" : Str).length : Nat) : Int) = ((3 : Nat) : Int) := by decide +kernel
theorem BmF {ws : List W} {z : W} (h : z ∉ ws) : ¬ (decide (z ∈ ws)) = true := by rw [decide_eq_false h]; decide
theorem pulled_le (x : W) : (pulled x).length ≤ x.length + 3 := by
  unfold pulled p101
  simp only [List.length_cons, List.length_append, List.length_nil, List.length_drop]
  omega
theorem unpulled_le (x : W) : (unpulled x).length ≤ x.length + 3 := by
  unfold unpulled p110
  simp only [List.length_cons, List.length_append, List.length_nil, List.length_drop]
  omega
theorem it_le {f : W → W} (hf : ∀ x, (f x).length ≤ x.length + 2) (x : W) : ∀ n, (it f n x).length ≤ x.length + 2 * n
  | 0 => Nat.le_refl _
  | n + 1 => by
    have a := it_le hf x n
    have b := hf (it f n x)
    show (f (it f n x)).length ≤ _
    omega
theorem tt_le (x : W) (m : Int) : (tt x m).length ≤ x.length + 2 * m.natAbs := by
  unfold tt
  split
  · exact it_le turn_le2 x _
  · exact it_le back_le2 x _
abbrev Bm (ws : List W) : W → Bool := fun z => decide (z ∈ ws)
def optV : Option W → V
  | none => .non
  | some f => .str (txt f)
theorem under_le {B : W → Bool} {x u : W} (h : EM.under B x = some u) : u.length ≤ x.length + 3 := by
  unfold EM.under at h
  split at h
  · split at h
    · cases h
      exact unpulled_le x
    · cases h
  · cases h
theorem swapped_le (B : W → Bool) (x : W) : (swapped B x).length ≤ x.length + 3 := by
  unfold swapped
  split
  · exact pulled_le x
  · split
    · omega
    · rename_i u h
      exact under_le h
/-- a home, in a tuple -/
def HoAt (H : Hp) (p : Addr) (h : Ho) : Prop := H p = some (.tup [.str (txt h.1), .int (h.2.1 : Nat), .bl h.2.2])
section
variable {Pg : Program} {w : World} {K : PySem.W.Frag} {mg : Str → Option Value} {base : Heap}
theorem HoAt.ex {H H1 : Hp} {p : Addr} {h : Ho} (e : Ex K H H1) (a : HoAt H p h) : HoAt H1 p h := e.tup a
theorem Sewn.lam {H : Hp} {f : Addr} {ws : List W} (h : Sewn K H f ws) : ∃ F, H f = some (LamO f F) := by
  obtain ⟨b, n, c, c', _, h1, _⟩ := h
  exact ⟨_, h1⟩
def N_home_of_state : List Str := ["state", "word", "shift"]
theorem sc_home_of_state : FnScope N_home_of_state ["state"] (defScope s_home_of_state) := ⟨rfl, rfl, rfl, by decide +kernel, rfl, by decide +kernel, by decide +kernel⟩
def sp_home_of (K : PySem.W.Frag) : Sp := fun vs H Q _ => ∃ x : W, vs = [.str (txt x)] ∧ StOk x ∧ ∀ p H', Ex K H H' → H p = none → HoAt H' p (homeOf x) → Q (.ref p) H'
theorem c_home_of_state (T : Tx K mg) : Cl Pg w K mg base 5 "home_of_state" (sp_home_of K) :=
  have c_home_in := c_home_in (Pg := Pg) (w := w) (base := base) T
  have c_is_high := c_is_high (Pg := Pg) (w := w) (base := base) T
  calD T.g_home_of_state T.f_home_of_state sc_home_of_state (fun _ _ _ _ _ _ us hl => match us, hl with | [_], _ => rfl) (fun vs H Q E h => by obtain ⟨i, rfl, _⟩ := h; rfl) fun cdv A outer st H vs Q E hr h => by
    obtain ⟨x, rfl, hs, hQ⟩ := h
    refine ⟨_, (pss_cons (ps_asg (C8.pe_c c_home_in hr (by decide) (by rfl) (pa_cons (pv 0) pa_nil)) (pg_tup rfl (pgs_cons (pg_name (i := 1) sc_home_of_state.nd rfl (Or.inl rfl)) (pgs_cons (pg_name (i := 2) sc_home_of_state.nd rfl (Or.inl rfl)) pgs_nil))))
      (pss_one (ps_ret (pe_tup (pa_cons (pv 1) (pa_cons (pv 2) (pa_cons (C8.pe_c c_is_high hr (by decide) (by rfl) (pa_cons (pv 0) pa_nil)) pa_nil))))))), ?_⟩
    refine ⟨_, rfl, x, rfl, Nat.le_trans (by decide) hs.lo, hs.le, fun p H1 e1 hp h1 => ⟨p, _, rfl, .inl (.inl h1), rfl, _, _, rfl, _, _, rfl, rfl, ?_⟩⟩
    (repeat (first | refine ⟨_, rfl, ?_⟩ | refine ⟨rfl, ?_⟩ | refine ⟨_, _, rfl, rfl, ?_⟩ | refine ⟨hz, ?_⟩ | refine ⟨(show 3 ≤ sizeLine by decide), ?_⟩ | refine ⟨(show 2 ≤ sizeLine by decide), ?_⟩ | refine ⟨by decide +kernel, ?_⟩ | refine ⟨.inl ⟨by decide, by decide⟩, ?_⟩ | refine .inl ⟨_, rfl, sz (by simp only [*, sM, sE, s1, s0, s110, s101, txt_cat, txt_len, cut_to, cut_from, cut_init, List.length_append, List.length_cons, List.length_nil, List.length_take, List.length_drop, List.length_dropLast, List.length_reverse]; omega), ?_⟩ | refine ⟨sz (by simp only [*, sM, sE, s1, s0, s110, s101, txt_cat, txt_len, cut_to, cut_from, cut_init, List.length_append, List.length_cons, List.length_nil, List.length_take, List.length_drop, List.length_dropLast, List.length_reverse]; omega), ?_⟩))
    refine ⟨hs, fun H2 e2 => ?_⟩
    (repeat (first | refine ⟨_, rfl, ?_⟩ | refine ⟨rfl, ?_⟩ | refine ⟨_, _, rfl, rfl, ?_⟩ | refine ⟨hz, ?_⟩ | refine ⟨(show 3 ≤ sizeLine by decide), ?_⟩ | refine ⟨(show 2 ≤ sizeLine by decide), ?_⟩ | refine ⟨by decide +kernel, ?_⟩ | refine ⟨.inl ⟨by decide, by decide⟩, ?_⟩ | refine .inl ⟨_, rfl, sz (by simp only [*, sM, sE, s1, s0, s110, s101, txt_cat, txt_len, cut_to, cut_from, cut_init, List.length_append, List.length_cons, List.length_nil, List.length_take, List.length_drop, List.length_dropLast, List.length_reverse]; omega), ?_⟩ | refine ⟨sz (by simp only [*, sM, sE, s1, s0, s110, s101, txt_cat, txt_len, cut_to, cut_from, cut_init, List.length_append, List.length_cons, List.length_nil, List.length_take, List.length_drop, List.length_dropLast, List.length_reverse]; omega), ?_⟩))
    intro q hq
    exact hQ q _ ((e1.trans e2).trans (Ex.new hq)) ((e1.trans e2).free hq) upd_same
def N_turned_times : List Str := ["word", "many", "_"]
theorem sc_turned_times : FnScope N_turned_times ["word", "many"] (defScope s_turned_times) := ⟨rfl, rfl, rfl, by decide +kernel, rfl, by decide +kernel, by decide +kernel⟩
def sp_tt (K : PySem.W.Frag) : Sp := fun vs H Q _ => ∃ (x : W) (m : Int), vs = [.str (txt x), .int m] ∧ x.length + 2 * m.natAbs ≤ 1000 ∧ Gives K (.str (txt (tt x m))) H Q
theorem c_turned_times (T : Tx K mg) : Cl Pg w K mg base 3 "turned_times" (sp_tt K) :=
  have c_turned_in := c_turned_in (Pg := Pg) (w := w) (base := base) T
  have c_back_in := c_back_in (Pg := Pg) (w := w) (base := base) T
  calD T.g_turned_times T.f_turned_times sc_turned_times (fun _ _ _ _ _ _ us hl => match us, hl with | [_, _], _ => rfl) (fun vs H Q E h => by obtain ⟨i, _, rfl, _⟩ := h; rfl) fun cdv A outer st H vs Q E hr h => by
    obtain ⟨x, m, rfl, hx, hQ⟩ := h
    have ea : (if m < 0 then -m else m) = (m.natAbs : Int) := by split <;> omega
    refine ⟨_, (pss_cons (ps_for PassesOwn.never rfl (pi_range1 (by rfl) T.n_range (pa_cons (pe_callB call_abs (by rfl) T.n_abs (by decide +kernel) (pa_cons (pv 1) pa_nil)) pa_nil)) (pg_name (i := 2) sc_turned_times.nd rfl (Or.inl rfl)) (pss_one (ps_set (i := 0) sc_turned_times.nd rfl (Or.inl rfl) (pe_ifExp (pt_cmpR op_gt (pv 1) pe_int (nomark _)) (C8.pe_c c_turned_in hr (by decide) (by rfl) (pa_cons (pv 0) pa_nil)) (C8.pe_c c_back_in hr (by decide) (by rfl) (pa_cons (pv 0) pa_nil))))))
      (pss_one (ps_ret (pv 0)))), ?_⟩
    (repeat (first | refine ⟨_, rfl, ?_⟩ | refine ⟨rfl, ?_⟩ | refine ⟨_, _, rfl, rfl, ?_⟩ | refine ⟨hz, ?_⟩ | refine ⟨(show 3 ≤ sizeLine by decide), ?_⟩ | refine ⟨(show 2 ≤ sizeLine by decide), ?_⟩ | refine ⟨by decide +kernel, ?_⟩ | refine ⟨.inl ⟨by decide, by decide⟩, ?_⟩ | refine .inl ⟨_, rfl, sz (by simp only [*, sM, sE, s1, s0, s110, s101, txt_cat, txt_len, cut_to, cut_from, cut_init, List.length_append, List.length_cons, List.length_nil, List.length_take, List.length_drop, List.length_dropLast, List.length_reverse]; omega), ?_⟩ | refine ⟨sz (by simp only [*, sM, sE, s1, s0, s110, s101, txt_cat, txt_len, cut_to, cut_from, cut_init, List.length_append, List.length_cons, List.length_nil, List.length_take, List.length_drop, List.length_dropLast, List.length_reverse]; omega), ?_⟩))
    rw [ea]
    have hl := fun i => tt_le x i
    refine ⟨by omega, by omega, for_rng (fun i σ H' => ∃ z, σ = [some (.str (txt (it (if 0 < m then turn else back) i x))), some (.int m), z] ∧ Ex K H H') ⟨none, rfl, .refl⟩ (fun i σ H' hi hp => ?_) fun σ H' hp => ?_⟩
    · obtain ⟨z, rfl, he⟩ := hp
      have hi2 : i < m.natAbs := by
        have : ((m.natAbs : Int)).toNat = m.natAbs := by omega
        omega
      have hle : (it (if 0 < m then turn else back) i x).length ≤ 1000 := by
        have : (it (if 0 < m then turn else back) i x).length ≤ x.length + 2 * i := by
          split
          · exact it_le turn_le2 x _
          · exact it_le back_le2 x _
        omega
      refine ⟨_, rfl, _, _, rfl, rfl, decide (0 < m), rfl, ?_⟩
      by_cases c : 0 < m
      · refine dT c ⟨_, rfl, _, rfl, hle, fun H1 e1 => ⟨some (.int (0 + (i : Nat))), ?_, he.trans e1⟩⟩
        show [_, _, _] = _
        rw [if_pos c]
        rfl
      · refine dF c ⟨_, rfl, _, rfl, hle, fun H1 e1 => ⟨some (.int (0 + (i : Nat))), ?_, he.trans e1⟩⟩
        show [_, _, _] = _
        rw [if_neg c]
        rfl
    · obtain ⟨z, rfl, he⟩ := hp
      exact ⟨_, rfl, hQ H' he⟩
def N_sewn_under : List Str := ["word", "is_sewn", "first"]
theorem sc_sewn_under : FnScope N_sewn_under ["word", "is_sewn"] (defScope s_sewn_under) := ⟨rfl, rfl, rfl, by decide +kernel, rfl, by decide +kernel, by decide +kernel⟩
def sp_under (K : PySem.W.Frag) : Sp := fun vs H Q _ => ∃ (x : W) (f : Addr) (ws : List W), vs = [.str (txt x), .ref f] ∧ x.length ≤ 900 ∧ Sewn K H f ws ∧ Gives K (optV (EM.under (Bm ws) x)) H Q
theorem c_sewn_under (T : Tx K mg) : Cl Pg w K mg base 3 "sewn_under" (sp_under K) :=
  have c_unpulled_in := c_unpulled_in (Pg := Pg) (w := w) (base := base) T
  calD T.g_sewn_under T.f_sewn_under sc_sewn_under (fun _ _ _ _ _ _ us hl => match us, hl with | [_, _], _ => rfl) (fun vs H Q E h => by obtain ⟨i, _, _, rfl, _⟩ := h; rfl) fun cdv A outer st H vs Q E hr h => by
    obtain ⟨x, f, ws, rfl, hx, hf, hQ⟩ := h
    have hz : (txt x).length ≤ sizeLine := sz (by rw [txt_len]; omega)
    refine ⟨_, (pss_cons (ps_if (pt_cmpR op_ne (pe_slice sl_str (pv 0) po_none (po_some (pe_callB call_len_str (by rfl) T.n_len PySem.boot_len (pa_cons (C8.pe_gc (by rfl) T.c_PULLED) pa_nil)))) (C8.pe_gc (by rfl) T.c_PULLED) (nomark _)) (pss_one (ps_ret pe_non)) pss_nil)
      (pss_cons (ps_set (i := 2) sc_sewn_under.nd rfl (Or.inl rfl) (C8.pe_c c_unpulled_in hr (by decide) (by rfl) (pa_cons (pv 0) pa_nil)))
      (pss_one (ps_ret (pe_ifExp (pt_val (pe_callR (i := 1) (k := 2) (fun _ _ _ _ _ _ _ _ hr e0 r h => sewn_run T hr e0 r h) (hr.mono (by decide)) (by rfl) (.inl rfl) (pa_cons (pv 2) pa_nil))) (pv 2) pe_non))))), ?_⟩
    (repeat (first | refine ⟨_, rfl, ?_⟩ | refine ⟨rfl, ?_⟩ | refine ⟨_, _, rfl, rfl, ?_⟩ | refine ⟨hz, ?_⟩ | refine ⟨(show 3 ≤ sizeLine by decide), ?_⟩ | refine ⟨(show 2 ≤ sizeLine by decide), ?_⟩ | refine ⟨by decide +kernel, ?_⟩ | refine ⟨.inl ⟨by decide, by decide⟩, ?_⟩ | refine .inl ⟨_, rfl, sz (by simp only [*, sM, sE, s1, s0, s110, s101, txt_cat, txt_len, cut_to, cut_from, cut_init, List.length_append, List.length_cons, List.length_nil, List.length_take, List.length_drop, List.length_dropLast, List.length_reverse]; omega), ?_⟩ | refine ⟨sz (by simp only [*, sM, sE, s1, s0, s110, s101, txt_cat, txt_len, cut_to, cut_from, cut_init, List.length_append, List.length_cons, List.length_nil, List.length_take, List.length_drop, List.length_dropLast, List.length_reverse]; omega), ?_⟩))
    rw [l101, cut_to, s101, txt_dec]
    by_cases c : x.take 3 = p101
    · rw [decide_eq_true c]
      refine ⟨_, rfl, x, rfl, by omega, fun H1 e1 => ?_⟩
      have hf1 := hf.ex e1
      obtain ⟨F, hF⟩ := hf1.lam
      refine ⟨f, F, rfl, hF, _, rfl, _, ws, rfl, hf1, _, rfl, ?_⟩
      have q := hQ H1 e1
      unfold EM.under at q
      rw [if_pos c] at q
      by_cases c2 : unpulled x ∈ ws
      · rw [if_pos (decide_eq_true c2)] at q
        exact dT c2 ⟨_, rfl, q⟩
      · rw [if_neg (by rw [show Bm ws (unpulled x) = false from decide_eq_false c2]; decide)] at q
        exact dF c2 q
    · rw [decide_eq_false c]
      have q := hQ H .refl
      unfold EM.under at q
      rw [if_neg c] at q
      exact q
def N_stretch_word : List Str := ["home", "is_sewn", "word", "shift", "is_up", "first"]
theorem sc_stretch_word : FnScope N_stretch_word ["home", "is_sewn"] (defScope s_stretch_word) := ⟨rfl, rfl, rfl, by decide +kernel, rfl, by decide +kernel, by decide +kernel⟩
def sp_stretch (K : PySem.W.Frag) : Sp := fun vs H Q _ => ∃ (p : Addr) (h : Ho) (f : Addr) (ws : List W), vs = [.ref p, .ref f] ∧ HoAt H p h ∧ h.1.length ≤ 850 ∧ Sewn K H f ws ∧ Gives K (optV (stretch (Bm ws) h)) H Q
theorem c_stretch_word (T : Tx K mg) : Cl Pg w K mg base 4 "stretch_word" (sp_stretch K) :=
  have c_turned_times := c_turned_times (Pg := Pg) (w := w) (base := base) T
  calD T.g_stretch_word T.f_stretch_word sc_stretch_word (fun _ _ _ _ _ _ us hl => match us, hl with | [_, _], _ => rfl) (fun vs H Q E h => by obtain ⟨i, _, _, _, rfl, _⟩ := h; rfl) fun cdv A outer st H vs Q E hr h => by
    obtain ⟨p, ⟨x, s, u⟩, f, ws, rfl, hp, hx, hf, hQ⟩ := h
    have hx : x.length ≤ 850 := hx
    have hp : H p = some (.tup [.str (txt x), .int (s : Nat), .bl u]) := hp
    have q : Gives K (optV (if (1 ≤ s ∧ s ≤ 3) ∧ ¬ (s = 3 ∧ u = false) then (if Bm ws (tt x (-(s : Int))) then some (tt x (-(s : Int))) else none) else none)) H Q := hQ
    refine ⟨_, (pss_cons (ps_asg (pv 0) (pg_tup rfl (pgs_cons (pg_name (i := 2) sc_stretch_word.nd rfl (Or.inl rfl)) (pgs_cons (pg_name (i := 3) sc_stretch_word.nd rfl (Or.inl rfl)) (pgs_cons (pg_name (i := 4) sc_stretch_word.nd rfl (Or.inl rfl)) pgs_nil)))))
      (pss_cons (ps_if (PW.pt (pw_or (pt_not (pt_chain op_le op_le pe_int (pv 3) (C8.pe_gc (by rfl) T.c_LAST_SHIFT))) (pw_or1 (PW.pt (pw_and (pt_cmpR op_eq (pv 3) (C8.pe_gc (by rfl) T.c_LAST_SHIFT) (nomark _)) (pw_and1 (pt_not (pt_val (pv 4))))))))) (pss_one (ps_ret pe_non)) pss_nil)
      (pss_cons (ps_set (i := 5) sc_stretch_word.nd rfl (Or.inl rfl) (C8.pe_c c_turned_times hr (by decide) (by rfl) (pa_cons (pv 2) (pa_cons (pe_un un_neg (pv 3)) pa_nil))))
      (pss_one (ps_ret (pe_ifExp (pt_val (pe_callR (i := 1) (k := 2) (fun _ _ _ _ _ _ _ _ hr e0 r h => sewn_run T hr e0 r h) (hr.mono (by decide)) (by rfl) (.inl rfl) (pa_cons (pv 5) pa_nil))) (pv 5) pe_non)))))), ?_⟩
    refine ⟨_, rfl, p, _, rfl, .inl (.inl hp), rfl, _, _, rfl, _, _, rfl, _, _, rfl, rfl, ?_⟩
    (repeat (first | refine ⟨_, rfl, ?_⟩ | refine ⟨rfl, ?_⟩ | refine ⟨_, _, rfl, rfl, ?_⟩ | refine ⟨hz, ?_⟩ | refine ⟨(show 3 ≤ sizeLine by decide), ?_⟩ | refine ⟨(show 2 ≤ sizeLine by decide), ?_⟩ | refine ⟨by decide +kernel, ?_⟩ | refine ⟨.inl ⟨by decide, by decide⟩, ?_⟩ | refine .inl ⟨_, rfl, sz (by simp only [*, sM, sE, s1, s0, s110, s101, txt_cat, txt_len, cut_to, cut_from, cut_init, List.length_append, List.length_cons, List.length_nil, List.length_take, List.length_drop, List.length_dropLast, List.length_reverse]; omega), ?_⟩ | refine ⟨sz (by simp only [*, sM, sE, s1, s0, s110, s101, txt_cat, txt_len, cut_to, cut_from, cut_init, List.length_append, List.length_cons, List.length_nil, List.length_take, List.length_drop, List.length_dropLast, List.length_reverse]; omega), ?_⟩))
    by_cases h1 : 1 ≤ s
    · refine dT (show (1 : Int) ≤ (s : Nat) by omega) ?_
      (repeat (first | refine ⟨_, rfl, ?_⟩ | refine ⟨rfl, ?_⟩ | refine ⟨_, _, rfl, rfl, ?_⟩ | refine ⟨hz, ?_⟩ | refine ⟨(show 3 ≤ sizeLine by decide), ?_⟩ | refine ⟨(show 2 ≤ sizeLine by decide), ?_⟩ | refine ⟨by decide +kernel, ?_⟩ | refine ⟨.inl ⟨by decide, by decide⟩, ?_⟩ | refine .inl ⟨_, rfl, sz (by simp only [*, sM, sE, s1, s0, s110, s101, txt_cat, txt_len, cut_to, cut_from, cut_init, List.length_append, List.length_cons, List.length_nil, List.length_take, List.length_drop, List.length_dropLast, List.length_reverse]; omega), ?_⟩ | refine ⟨sz (by simp only [*, sM, sE, s1, s0, s110, s101, txt_cat, txt_len, cut_to, cut_from, cut_init, List.length_append, List.length_cons, List.length_nil, List.length_take, List.length_drop, List.length_dropLast, List.length_reverse]; omega), ?_⟩))
      by_cases h3 : s ≤ 3
      · rw [show decide (((s : Nat) : Int) ≤ 3) = true from decide_eq_true (by omega)]
        (repeat (first | refine ⟨_, rfl, ?_⟩ | refine ⟨rfl, ?_⟩ | refine ⟨_, _, rfl, rfl, ?_⟩ | refine ⟨hz, ?_⟩ | refine ⟨(show 3 ≤ sizeLine by decide), ?_⟩ | refine ⟨(show 2 ≤ sizeLine by decide), ?_⟩ | refine ⟨by decide +kernel, ?_⟩ | refine ⟨.inl ⟨by decide, by decide⟩, ?_⟩ | refine .inl ⟨_, rfl, sz (by simp only [*, sM, sE, s1, s0, s110, s101, txt_cat, txt_len, cut_to, cut_from, cut_init, List.length_append, List.length_cons, List.length_nil, List.length_take, List.length_drop, List.length_dropLast, List.length_reverse]; omega), ?_⟩ | refine ⟨sz (by simp only [*, sM, sE, s1, s0, s110, s101, txt_cat, txt_len, cut_to, cut_from, cut_init, List.length_append, List.length_cons, List.length_nil, List.length_take, List.length_drop, List.length_dropLast, List.length_reverse]; omega), ?_⟩))
        by_cases h4 : s = 3
        · rw [show decide (V.int ((s : Nat) : Int) = V.int 3) = true from decide_eq_true (by rw [h4]; rfl)]
          cases u with
          | false =>
            rw [if_neg (fun z => z.2 ⟨h4, rfl⟩)] at q
            (repeat (first | refine ⟨_, rfl, ?_⟩ | refine ⟨rfl, ?_⟩ | refine ⟨_, _, rfl, rfl, ?_⟩ | refine ⟨hz, ?_⟩ | refine ⟨(show 3 ≤ sizeLine by decide), ?_⟩ | refine ⟨(show 2 ≤ sizeLine by decide), ?_⟩ | refine ⟨by decide +kernel, ?_⟩ | refine ⟨.inl ⟨by decide, by decide⟩, ?_⟩ | refine .inl ⟨_, rfl, sz (by simp only [*, sM, sE, s1, s0, s110, s101, txt_cat, txt_len, cut_to, cut_from, cut_init, List.length_append, List.length_cons, List.length_nil, List.length_take, List.length_drop, List.length_dropLast, List.length_reverse]; omega), ?_⟩ | refine ⟨sz (by simp only [*, sM, sE, s1, s0, s110, s101, txt_cat, txt_len, cut_to, cut_from, cut_init, List.length_append, List.length_cons, List.length_nil, List.length_take, List.length_drop, List.length_dropLast, List.length_reverse]; omega), ?_⟩))
            exact gk q
          | true =>
            rw [if_pos ⟨⟨h1, h3⟩, fun z => by cases z.2⟩] at q
            (repeat (first | refine ⟨_, rfl, ?_⟩ | refine ⟨rfl, ?_⟩ | refine ⟨_, _, rfl, rfl, ?_⟩ | refine ⟨hz, ?_⟩ | refine ⟨(show 3 ≤ sizeLine by decide), ?_⟩ | refine ⟨(show 2 ≤ sizeLine by decide), ?_⟩ | refine ⟨by decide +kernel, ?_⟩ | refine ⟨.inl ⟨by decide, by decide⟩, ?_⟩ | refine .inl ⟨_, rfl, sz (by simp only [*, sM, sE, s1, s0, s110, s101, txt_cat, txt_len, cut_to, cut_from, cut_init, List.length_append, List.length_cons, List.length_nil, List.length_take, List.length_drop, List.length_dropLast, List.length_reverse]; omega), ?_⟩ | refine ⟨sz (by simp only [*, sM, sE, s1, s0, s110, s101, txt_cat, txt_len, cut_to, cut_from, cut_init, List.length_append, List.length_cons, List.length_nil, List.length_take, List.length_drop, List.length_dropLast, List.length_reverse]; omega), ?_⟩))
            refine ⟨x, _, rfl, by omega, fun H1 e1 => ?_⟩
            have hf1 := hf.ex e1
            obtain ⟨F, hF⟩ := hf1.lam
            refine ⟨f, F, rfl, hF, _, rfl, _, ws, rfl, hf1, _, rfl, ?_⟩
            have q := q H1 e1
            by_cases c2 : tt x (-(s : Int)) ∈ ws
            · rw [if_pos (decide_eq_true c2)] at q
              exact dT c2 ⟨_, rfl, q⟩
            · rw [if_neg (BmF c2)] at q
              exact dF c2 q

        · rw [show decide (V.int ((s : Nat) : Int) = V.int 3) = false from decide_eq_false (fun z => h4 (by have := V.int.inj z; omega))]
          rw [if_pos ⟨⟨h1, h3⟩, fun z => h4 z.1⟩] at q
          (repeat (first | refine ⟨_, rfl, ?_⟩ | refine ⟨rfl, ?_⟩ | refine ⟨_, _, rfl, rfl, ?_⟩ | refine ⟨hz, ?_⟩ | refine ⟨(show 3 ≤ sizeLine by decide), ?_⟩ | refine ⟨(show 2 ≤ sizeLine by decide), ?_⟩ | refine ⟨by decide +kernel, ?_⟩ | refine ⟨.inl ⟨by decide, by decide⟩, ?_⟩ | refine .inl ⟨_, rfl, sz (by simp only [*, sM, sE, s1, s0, s110, s101, txt_cat, txt_len, cut_to, cut_from, cut_init, List.length_append, List.length_cons, List.length_nil, List.length_take, List.length_drop, List.length_dropLast, List.length_reverse]; omega), ?_⟩ | refine ⟨sz (by simp only [*, sM, sE, s1, s0, s110, s101, txt_cat, txt_len, cut_to, cut_from, cut_init, List.length_append, List.length_cons, List.length_nil, List.length_take, List.length_drop, List.length_dropLast, List.length_reverse]; omega), ?_⟩))
          refine ⟨x, _, rfl, by omega, fun H1 e1 => ?_⟩
          have hf1 := hf.ex e1
          obtain ⟨F, hF⟩ := hf1.lam
          refine ⟨f, F, rfl, hF, _, rfl, _, ws, rfl, hf1, _, rfl, ?_⟩
          have q := q H1 e1
          by_cases c2 : tt x (-(s : Int)) ∈ ws
          · rw [if_pos (decide_eq_true c2)] at q
            exact dT c2 ⟨_, rfl, q⟩
          · rw [if_neg (BmF c2)] at q
            exact dF c2 q

      · rw [show decide (((s : Nat) : Int) ≤ 3) = false from decide_eq_false (by omega)]
        rw [if_neg (fun z => h3 z.1.2)] at q
        exact gk q
    · refine dF (show ¬ (1 : Int) ≤ (s : Nat) by omega) ⟨_, rfl, ?_⟩
      rw [if_neg (fun z => h1 z.1.1)] at q
      exact gk q
def N_swapped_in : List Str := ["word", "is_sewn", "under"]
theorem sc_swapped_in : FnScope N_swapped_in ["word", "is_sewn"] (defScope s_swapped_in) := ⟨rfl, rfl, rfl, by decide +kernel, rfl, by decide +kernel, by decide +kernel⟩
def sp_swapped (K : PySem.W.Frag) : Sp := fun vs H Q _ => ∃ (x : W) (f : Addr) (ws : List W), vs = [.str (txt x), .ref f] ∧ x.length ≤ 900 ∧ Sewn K H f ws ∧ Gives K (.str (txt (swapped (Bm ws) x))) H Q
theorem c_swapped_in (T : Tx K mg) : Cl Pg w K mg base 4 "swapped_in" (sp_swapped K) :=
  have c_pulled_in := c_pulled_in (Pg := Pg) (w := w) (base := base) T
  have c_sewn_under := c_sewn_under (Pg := Pg) (w := w) (base := base) T
  calD T.g_swapped_in T.f_swapped_in sc_swapped_in (fun _ _ _ _ _ _ us hl => match us, hl with | [_, _], _ => rfl) (fun vs H Q E h => by obtain ⟨i, _, _, rfl, _⟩ := h; rfl) fun cdv A outer st H vs Q E hr h => by
    obtain ⟨x, f, ws, rfl, hx, hf, hQ⟩ := h
    obtain ⟨F, hF⟩ := hf.lam
    refine ⟨_, (pss_cons (ps_if (pt_val (pe_callR (i := 1) (k := 2) (fun _ _ _ _ _ _ _ _ hr e0 r h => sewn_run T hr e0 r h) (hr.mono (by decide)) (by rfl) (.inl rfl) (pa_cons (pv 0) pa_nil))) (pss_one (ps_ret (C8.pe_c c_pulled_in hr (by decide) (by rfl) (pa_cons (pv 0) pa_nil)))) pss_nil)
      (pss_cons (ps_set (i := 2) sc_swapped_in.nd rfl (Or.inl rfl) (C8.pe_c c_sewn_under hr (by decide) (by rfl) (pa_cons (pv 0) (pa_cons (pv 1) pa_nil))))
      (pss_one (ps_ret (pe_ifExp (pt_cmpR op_isN (pv 2) pe_non (nomark _)) (pv 0) (pv 2)))))), ?_⟩
    refine ⟨f, F, rfl, hF, _, rfl, _, ws, rfl, hf, _, rfl, ?_⟩
    unfold swapped at hQ
    by_cases c : x ∈ ws
    · rw [if_pos (decide_eq_true c)] at hQ
      exact dT c ⟨_, rfl, x, rfl, by omega, fun H1 e1 => hQ H1 e1⟩
    · rw [if_neg (BmF c)] at hQ
      refine dF c ⟨_, rfl, _, rfl, x, f, ws, rfl, hx, hf, fun H1 e1 => ⟨_, rfl, ?_⟩⟩
      have q := hQ H1 e1
      cases cu : EM.under (Bm ws) x with
      | none =>
        rw [cu] at q
        (repeat (first | refine ⟨_, rfl, ?_⟩ | refine ⟨rfl, ?_⟩ | refine ⟨_, _, rfl, rfl, ?_⟩ | refine ⟨hz, ?_⟩ | refine ⟨(show 3 ≤ sizeLine by decide), ?_⟩ | refine ⟨(show 2 ≤ sizeLine by decide), ?_⟩ | refine ⟨by decide +kernel, ?_⟩ | refine ⟨.inl ⟨by decide, by decide⟩, ?_⟩ | refine .inl ⟨_, rfl, sz (by simp only [*, sM, sE, s1, s0, s110, s101, txt_cat, txt_len, cut_to, cut_from, cut_init, List.length_append, List.length_cons, List.length_nil, List.length_take, List.length_drop, List.length_dropLast, List.length_reverse]; omega), ?_⟩ | refine ⟨sz (by simp only [*, sM, sE, s1, s0, s110, s101, txt_cat, txt_len, cut_to, cut_from, cut_init, List.length_append, List.length_cons, List.length_nil, List.length_take, List.length_drop, List.length_dropLast, List.length_reverse]; omega), ?_⟩))
        exact q
      | some u =>
        rw [cu] at q
        (repeat (first | refine ⟨_, rfl, ?_⟩ | refine ⟨rfl, ?_⟩ | refine ⟨_, _, rfl, rfl, ?_⟩ | refine ⟨hz, ?_⟩ | refine ⟨(show 3 ≤ sizeLine by decide), ?_⟩ | refine ⟨(show 2 ≤ sizeLine by decide), ?_⟩ | refine ⟨by decide +kernel, ?_⟩ | refine ⟨.inl ⟨by decide, by decide⟩, ?_⟩ | refine .inl ⟨_, rfl, sz (by simp only [*, sM, sE, s1, s0, s110, s101, txt_cat, txt_len, cut_to, cut_from, cut_init, List.length_append, List.length_cons, List.length_nil, List.length_take, List.length_drop, List.length_dropLast, List.length_reverse]; omega), ?_⟩ | refine ⟨sz (by simp only [*, sM, sE, s1, s0, s110, s101, txt_cat, txt_len, cut_to, cut_from, cut_init, List.length_append, List.length_cons, List.length_nil, List.length_take, List.length_drop, List.length_dropLast, List.length_reverse]; omega), ?_⟩))
        exact q
def N_word_behind_in : List Str := ["word", "is_sewn"]
theorem sc_word_behind_in : FnScope N_word_behind_in ["word", "is_sewn"] (defScope s_word_behind_in) := ⟨rfl, rfl, rfl, by decide +kernel, rfl, by decide +kernel, by decide +kernel⟩
def sp_behind (K : PySem.W.Frag) : Sp := fun vs H Q _ => ∃ (x : W) (f : Addr) (ws : List W), vs = [.str (txt x), .ref f] ∧ x.length ≤ 900 ∧ Sewn K H f ws ∧ Gives K (.str (txt (behind (Bm ws) x))) H Q
theorem c_word_behind_in (T : Tx K mg) : Cl Pg w K mg base 5 "word_behind_in" (sp_behind K) :=
  have c_turned_in := c_turned_in (Pg := Pg) (w := w) (base := base) T
  have c_swapped_in := c_swapped_in (Pg := Pg) (w := w) (base := base) T
  calD T.g_word_behind_in T.f_word_behind_in sc_word_behind_in (fun _ _ _ _ _ _ us hl => match us, hl with | [_, _], _ => rfl) (fun vs H Q E h => by obtain ⟨i, _, _, rfl, _⟩ := h; rfl) fun cdv A outer st H vs Q E hr h => by
    obtain ⟨x, f, ws, rfl, hx, hf, hQ⟩ := h
    have := swapped_le (Bm ws) x
    refine ⟨_, (pss_one (ps_ret (C8.pe_c c_turned_in hr (by decide) (by rfl) (pa_cons (C8.pe_c c_swapped_in hr (by decide) (by rfl) (pa_cons (pv 0) (pa_cons (pv 1) pa_nil))) pa_nil)))), ?_⟩
    exact ⟨_, rfl, _, rfl, x, f, ws, rfl, hx, hf, fun H1 e1 => ⟨_, rfl, by omega, fun H2 e2 => hQ H2 (e1.trans e2)⟩⟩
def N_wide_of : List Str := ["word"]
theorem sc_wide_of : FnScope N_wide_of ["word"] (defScope s_wide_of) := ⟨rfl, rfl, rfl, by decide +kernel, rfl, by decide +kernel, by decide +kernel⟩
def sp_wide (K : PySem.W.Frag) : Sp := fun vs H Q _ => ∃ (x : W), vs = [.str (txt x)] ∧ x.length ≤ 1000 ∧ Gives K (.int (wide x : Nat)) H Q
theorem c_wide_of (T : Tx K mg) : Cl Pg w K mg base 1 "wide_of" (sp_wide K) :=
  calD T.g_wide_of T.f_wide_of sc_wide_of (fun _ _ _ _ _ _ us hl => match us, hl with | [_], _ => rfl) (fun vs H Q E h => by obtain ⟨i, rfl, _⟩ := h; rfl) fun cdv A outer st H vs Q E hr h => by
    obtain ⟨x, rfl, hx, hQ⟩ := h
    have hz : (txt x).length ≤ sizeLine := sz (by rw [txt_len]; omega)
    refine ⟨_, (pss_one (ps_ret (pe_op op_add (pe_op op_mul pe_int (pe_callB call_len_str (by rfl) T.n_len PySem.boot_len (pa_cons (pv 0) pa_nil))) pe_int))), ?_⟩
    (repeat (first | refine ⟨_, rfl, ?_⟩ | refine ⟨rfl, ?_⟩ | refine ⟨_, _, rfl, rfl, ?_⟩ | refine ⟨hz, ?_⟩ | refine ⟨(show 3 ≤ sizeLine by decide), ?_⟩ | refine ⟨(show 2 ≤ sizeLine by decide), ?_⟩ | refine ⟨by decide +kernel, ?_⟩ | refine ⟨.inl ⟨by decide, by decide⟩, ?_⟩ | refine .inl ⟨_, rfl, sz (by simp only [*, sM, sE, s1, s0, s110, s101, txt_cat, txt_len, cut_to, cut_from, cut_init, List.length_append, List.length_cons, List.length_nil, List.length_take, List.length_drop, List.length_dropLast, List.length_reverse]; omega), ?_⟩ | refine ⟨sz (by simp only [*, sM, sE, s1, s0, s110, s101, txt_cat, txt_len, cut_to, cut_from, cut_init, List.length_append, List.length_cons, List.length_nil, List.length_take, List.length_drop, List.length_dropLast, List.length_reverse]; omega), ?_⟩))
    rw [txt_len]
    exact gk hQ
end
end EH

set_option Elab.async false
set_option linter.all false
set_option maxRecDepth 100000
set_option maxHeartbeats 4000000
namespace EH
open PySem PySem.Spec PyProof.Rows L2 LamX EL EM
theorem pe_star {X : Cx} {j k : Nat} {x : Str} {sp : Sp} {e : Expr} {te : TE} {p sp_ pos : Pos} (c : C8.Cal X.prog X.w X.K X.mg X.base k x sp []) (hr : Room j X.A) (hk : k ≤ j) (hg : Gl X x) (he : PE X e te) (hd : (x == ("__debug__" : Str)) = false := by decide)
    (hst : starEach [.Starred e sp_] X.env = [(true, eval e X.env)] := by rfl) :
    PE X (.Call (.Name x p) [.Starred e sp_] [] pos) (fun σ H Q => te σ H fun y H1 => ∃ a xs, y = V.ref a ∧ (SqT X.K H1 a xs ∨ SqL X.K H1 a xs) ∧ sp (xs ++ []) H1 Q C8.E0) := by
  obtain ⟨f, fd, ps, ds, F, hm, kp, b, d⟩ := c.ex
  exact StX.pe_callS1 (F.raw b d) (hr.mono hk) kp hg hm C8.pass0 he hd hst
theorem stretch_some {B : W → Bool} {x f : W} {s : Nat} {u : Bool} (h : stretch B (x, s, u) = some f) : 1 ≤ s ∧ s ≤ 3 ∧ ¬ (s = 3 ∧ u = false) ∧ f = tt x (-(s : Int)) ∧ B f = true := by
  unfold stretch at h
  split at h
  · rename_i c
    split at h
    · rename_i c2
      obtain rfl := Option.some.inj h
      exact ⟨c.1.1, c.1.2, c.2, rfl, c2⟩
    · cases h
  · cases h
theorem stretch_le {B : W → Bool} {x f : W} {s : Nat} {u : Bool} (h : stretch B (x, s, u) = some f) : f.length ≤ x.length + 6 := by
  obtain ⟨h1, h2, h3, rfl, h5⟩ := stretch_some h
  have := tt_le x (-(s : Int))
  omega
section
variable {Pg : Program} {w : World} {K : PySem.W.Frag} {mg : Str → Option Value} {base : Heap}
def N_next_home : List Str := ["home", "is_sewn", "word", "shift", "is_up", "first", "under"]
theorem sc_next_home : FnScope N_next_home ["home", "is_sewn"] (defScope s_next_home) := ⟨rfl, rfl, rfl, by decide +kernel, rfl, by decide +kernel, by decide +kernel⟩
def sp_nextH (K : PySem.W.Frag) : Sp := fun vs H Q _ => ∃ (p : Addr) (h : Ho) (f : Addr) (ws : List W), vs = [.ref p, .ref f] ∧ HoAt H p h ∧ h.1.length ≤ 800 ∧ Sewn K H f ws ∧ ∀ p' H', Ex K H H' → H p' = none → HoAt H' p' (nextH (Bm ws) h) → Q (.ref p') H'
theorem c_next_home (T : Tx K mg) : Cl Pg w K mg base 5 "next_home" (sp_nextH K) :=
  have c_turned_times := c_turned_times (Pg := Pg) (w := w) (base := base) T
  have c_stretch_word := c_stretch_word (Pg := Pg) (w := w) (base := base) T
  have c_sewn_under := c_sewn_under (Pg := Pg) (w := w) (base := base) T
  have c_turned_in := c_turned_in (Pg := Pg) (w := w) (base := base) T
  have c_back_in := c_back_in (Pg := Pg) (w := w) (base := base) T
  have c_pulled_in := c_pulled_in (Pg := Pg) (w := w) (base := base) T
  calD T.g_next_home T.f_next_home sc_next_home (fun _ _ _ _ _ _ us hl => match us, hl with | [_, _], _ => rfl) (fun vs H Q E h => by obtain ⟨i, _, _, _, rfl, _⟩ := h; rfl) fun cdv A outer st H vs Q E hr h => by
    obtain ⟨p, ⟨x, s, u⟩, f, ws, rfl, hp, hx, hf, hQ⟩ := h
    have hx : x.length ≤ 800 := hx
    have hz : (txt x).length ≤ sizeLine := sz (by rw [txt_len]; omega)
    have hp : H p = some (.tup [.str (txt x), .int (s : Nat), .bl u]) := hp
    refine ⟨_, (pss_cons (ps_asg (pv 0) (pg_tup rfl (pgs_cons (pg_name (i := 2) sc_next_home.nd rfl (Or.inl rfl)) (pgs_cons (pg_name (i := 3) sc_next_home.nd rfl (Or.inl rfl)) (pgs_cons (pg_name (i := 4) sc_next_home.nd rfl (Or.inl rfl)) pgs_nil)))))
      (pss_cons (ps_set (i := 5) sc_next_home.nd rfl (Or.inl rfl) (C8.pe_c c_stretch_word hr (by decide) (by rfl) (pa_cons (pv 0) (pa_cons (pv 1) pa_nil))))
      (pss_cons (ps_if (pt_cmpR op_notN (pv 5) pe_non (nomark _)) (pss_cons (ps_if (pt_not (pt_val (pv 4))) (pss_one (ps_ret (pe_tup (pa_cons (pv 2) (pa_cons (pv 3) (pa_cons pe_bl pa_nil)))))) pss_nil)
      (pss_one (ps_ret (pe_ifExp (pt_cmpR op_eq (pv 3) pe_int (nomark _)) (pe_tup (pa_cons (C8.pe_c c_turned_times hr (by decide) (by rfl) (pa_cons (pv 5) (pa_cons pe_int pa_nil))) (pa_cons pe_int (pa_cons pe_bl pa_nil)))) (pe_tup (pa_cons (C8.pe_c c_back_in hr (by decide) (by rfl) (pa_cons (pv 2) pa_nil)) (pa_cons (pe_op op_sub (pv 3) pe_int) (pa_cons pe_bl pa_nil)))))))) pss_nil)
      (pss_cons (ps_if (PW.pt (pw_and (pt_cmpR op_eq (pv 3) pe_int (nomark _)) (pw_and1 (pt_not (pt_val (pv 4)))))) (pss_cons (ps_set (i := 6) sc_next_home.nd rfl (Or.inl rfl) (C8.pe_c c_sewn_under hr (by decide) (by rfl) (pa_cons (pv 2) (pa_cons (pv 1) pa_nil))))
      (pss_cons (ps_if (pt_cmpR op_notN (pv 6) pe_non (nomark _)) (pss_one (ps_ret (pe_tup (pa_cons (C8.pe_c c_turned_times hr (by decide) (by rfl) (pa_cons (pv 6) (pa_cons pe_int pa_nil))) (pa_cons pe_int (pa_cons pe_bl pa_nil)))))) pss_nil)
      (pss_one (ps_ret (pe_tup (pa_cons (C8.pe_c c_turned_in hr (by decide) (by rfl) (pa_cons (pe_ifExp (pt_val (pe_callR (i := 1) (k := 2) (fun _ _ _ _ _ _ _ _ hr e0 r h => sewn_run T hr e0 r h) (hr.mono (by decide)) (by rfl) (.inl rfl) (pa_cons (pv 2) pa_nil))) (C8.pe_c c_pulled_in hr (by decide) (by rfl) (pa_cons (pv 2) pa_nil)) (pv 2)) pa_nil)) (pa_cons pe_int (pa_cons pe_bl pa_nil)))))))) pss_nil)
      (pss_one (ps_ret (pe_ifExp (pt_val (pv 4)) (pe_tup (pa_cons (pv 2) (pa_cons (pv 3) (pa_cons pe_bl pa_nil)))) (pe_tup (pa_cons (C8.pe_c c_turned_in hr (by decide) (by rfl) (pa_cons (pv 2) pa_nil)) (pa_cons (pe_op op_mod (pe_op op_add (pv 3) pe_int) (pe_op op_add (pe_callB call_len_str (by rfl) T.n_len PySem.boot_len (pa_cons (pv 2) pa_nil)) pe_int)) (pa_cons pe_bl pa_nil))))))))))), ?_⟩
    refine ⟨_, rfl, p, _, rfl, .inl (.inl hp), rfl, _, _, rfl, _, _, rfl, _, _, rfl, rfl, ?_⟩
    refine ⟨_, rfl, _, rfl, p, (x, s, u), f, ws, rfl, hp, by show x.length ≤ 850; omega, hf, fun H1 e1 => ?_⟩
    have hf1 := hf.ex e1
    obtain ⟨F, hF⟩ := hf1.lam
    have mk : ∀ {r : Ho} {H' : Hp} {q : Addr}, nextH (Bm ws) (x, s, u) = r → Ex K H H' → H' q = none → Q (.ref q) (upd H' q (.tup [.str (txt r.1), .int (r.2.1 : Nat), .bl r.2.2])) := fun er e hq => hQ _ _ (e.trans (Ex.new hq)) (e.free hq) (by rw [er]; exact upd_same)
    cases cs : stretch (Bm ws) (x, s, u) with
    | some g =>
      obtain ⟨g1, g2, g3, g4, g5⟩ := stretch_some cs
      have g6 := stretch_le cs
      (repeat (first | refine ⟨_, rfl, ?_⟩ | refine ⟨rfl, ?_⟩ | refine ⟨_, _, rfl, rfl, ?_⟩ | refine ⟨hz, ?_⟩ | refine ⟨(show 3 ≤ sizeLine by decide), ?_⟩ | refine ⟨(show 2 ≤ sizeLine by decide), ?_⟩ | refine ⟨by decide +kernel, ?_⟩ | refine ⟨.inl ⟨by decide, by decide⟩, ?_⟩ | refine .inl ⟨_, rfl, sz (by simp only [*, sM, sE, s1, s0, s110, s101, txt_cat, txt_len, cut_to, cut_from, cut_init, List.length_append, List.length_cons, List.length_nil, List.length_take, List.length_drop, List.length_dropLast, List.length_reverse]; omega), ?_⟩ | refine ⟨sz (by simp only [*, sM, sE, s1, s0, s110, s101, txt_cat, txt_len, cut_to, cut_from, cut_init, List.length_append, List.length_cons, List.length_nil, List.length_take, List.length_drop, List.length_dropLast, List.length_reverse]; omega), ?_⟩))
      cases u with
      | false =>
        (repeat (first | refine ⟨_, rfl, ?_⟩ | refine ⟨rfl, ?_⟩ | refine ⟨_, _, rfl, rfl, ?_⟩ | refine ⟨hz, ?_⟩ | refine ⟨(show 3 ≤ sizeLine by decide), ?_⟩ | refine ⟨(show 2 ≤ sizeLine by decide), ?_⟩ | refine ⟨by decide +kernel, ?_⟩ | refine ⟨.inl ⟨by decide, by decide⟩, ?_⟩ | refine .inl ⟨_, rfl, sz (by simp only [*, sM, sE, s1, s0, s110, s101, txt_cat, txt_len, cut_to, cut_from, cut_init, List.length_append, List.length_cons, List.length_nil, List.length_take, List.length_drop, List.length_dropLast, List.length_reverse]; omega), ?_⟩ | refine ⟨sz (by simp only [*, sM, sE, s1, s0, s110, s101, txt_cat, txt_len, cut_to, cut_from, cut_init, List.length_append, List.length_cons, List.length_nil, List.length_take, List.length_drop, List.length_dropLast, List.length_reverse]; omega), ?_⟩))
        intro q hq
        exact mk (r := (x, s, true)) (by simp [nextH, cs]) e1 hq
      | true =>
        (repeat (first | refine ⟨_, rfl, ?_⟩ | refine ⟨rfl, ?_⟩ | refine ⟨_, _, rfl, rfl, ?_⟩ | refine ⟨hz, ?_⟩ | refine ⟨(show 3 ≤ sizeLine by decide), ?_⟩ | refine ⟨(show 2 ≤ sizeLine by decide), ?_⟩ | refine ⟨by decide +kernel, ?_⟩ | refine ⟨.inl ⟨by decide, by decide⟩, ?_⟩ | refine .inl ⟨_, rfl, sz (by simp only [*, sM, sE, s1, s0, s110, s101, txt_cat, txt_len, cut_to, cut_from, cut_init, List.length_append, List.length_cons, List.length_nil, List.length_take, List.length_drop, List.length_dropLast, List.length_reverse]; omega), ?_⟩ | refine ⟨sz (by simp only [*, sM, sE, s1, s0, s110, s101, txt_cat, txt_len, cut_to, cut_from, cut_init, List.length_append, List.length_cons, List.length_nil, List.length_take, List.length_drop, List.length_dropLast, List.length_reverse]; omega), ?_⟩))
        by_cases c : s = 1
        · subst c
          (repeat (first | refine ⟨_, rfl, ?_⟩ | refine ⟨rfl, ?_⟩ | refine ⟨_, _, rfl, rfl, ?_⟩ | refine ⟨hz, ?_⟩ | refine ⟨(show 3 ≤ sizeLine by decide), ?_⟩ | refine ⟨(show 2 ≤ sizeLine by decide), ?_⟩ | refine ⟨by decide +kernel, ?_⟩ | refine ⟨.inl ⟨by decide, by decide⟩, ?_⟩ | refine .inl ⟨_, rfl, sz (by simp only [*, sM, sE, s1, s0, s110, s101, txt_cat, txt_len, cut_to, cut_from, cut_init, List.length_append, List.length_cons, List.length_nil, List.length_take, List.length_drop, List.length_dropLast, List.length_reverse]; omega), ?_⟩ | refine ⟨sz (by simp only [*, sM, sE, s1, s0, s110, s101, txt_cat, txt_len, cut_to, cut_from, cut_init, List.length_append, List.length_cons, List.length_nil, List.length_take, List.length_drop, List.length_dropLast, List.length_reverse]; omega), ?_⟩))
          refine ⟨g, _, rfl, by show _ + 2 * 3 ≤ _; omega, fun H2 e2 => ?_⟩
          (repeat (first | refine ⟨_, rfl, ?_⟩ | refine ⟨rfl, ?_⟩ | refine ⟨_, _, rfl, rfl, ?_⟩ | refine ⟨hz, ?_⟩ | refine ⟨(show 3 ≤ sizeLine by decide), ?_⟩ | refine ⟨(show 2 ≤ sizeLine by decide), ?_⟩ | refine ⟨by decide +kernel, ?_⟩ | refine ⟨.inl ⟨by decide, by decide⟩, ?_⟩ | refine .inl ⟨_, rfl, sz (by simp only [*, sM, sE, s1, s0, s110, s101, txt_cat, txt_len, cut_to, cut_from, cut_init, List.length_append, List.length_cons, List.length_nil, List.length_take, List.length_drop, List.length_dropLast, List.length_reverse]; omega), ?_⟩ | refine ⟨sz (by simp only [*, sM, sE, s1, s0, s110, s101, txt_cat, txt_len, cut_to, cut_from, cut_init, List.length_append, List.length_cons, List.length_nil, List.length_take, List.length_drop, List.length_dropLast, List.length_reverse]; omega), ?_⟩))
          intro q hq
          exact mk (r := (tt g 3, 3, false)) (by simp [nextH, cs]) (e1.trans e2) hq
        · rw [show decide (V.int ((s : Nat) : Int) = V.int 1) = false from decide_eq_false (fun z => c (by have := V.int.inj z; omega))]
          (repeat (first | refine ⟨_, rfl, ?_⟩ | refine ⟨rfl, ?_⟩ | refine ⟨_, _, rfl, rfl, ?_⟩ | refine ⟨hz, ?_⟩ | refine ⟨(show 3 ≤ sizeLine by decide), ?_⟩ | refine ⟨(show 2 ≤ sizeLine by decide), ?_⟩ | refine ⟨by decide +kernel, ?_⟩ | refine ⟨.inl ⟨by decide, by decide⟩, ?_⟩ | refine .inl ⟨_, rfl, sz (by simp only [*, sM, sE, s1, s0, s110, s101, txt_cat, txt_len, cut_to, cut_from, cut_init, List.length_append, List.length_cons, List.length_nil, List.length_take, List.length_drop, List.length_dropLast, List.length_reverse]; omega), ?_⟩ | refine ⟨sz (by simp only [*, sM, sE, s1, s0, s110, s101, txt_cat, txt_len, cut_to, cut_from, cut_init, List.length_append, List.length_cons, List.length_nil, List.length_take, List.length_drop, List.length_dropLast, List.length_reverse]; omega), ?_⟩))
          refine ⟨by omega, fun H2 e2 => ?_⟩
          (repeat (first | refine ⟨_, rfl, ?_⟩ | refine ⟨rfl, ?_⟩ | refine ⟨_, _, rfl, rfl, ?_⟩ | refine ⟨hz, ?_⟩ | refine ⟨(show 3 ≤ sizeLine by decide), ?_⟩ | refine ⟨(show 2 ≤ sizeLine by decide), ?_⟩ | refine ⟨by decide +kernel, ?_⟩ | refine ⟨.inl ⟨by decide, by decide⟩, ?_⟩ | refine .inl ⟨_, rfl, sz (by simp only [*, sM, sE, s1, s0, s110, s101, txt_cat, txt_len, cut_to, cut_from, cut_init, List.length_append, List.length_cons, List.length_nil, List.length_take, List.length_drop, List.length_dropLast, List.length_reverse]; omega), ?_⟩ | refine ⟨sz (by simp only [*, sM, sE, s1, s0, s110, s101, txt_cat, txt_len, cut_to, cut_from, cut_init, List.length_append, List.length_cons, List.length_nil, List.length_take, List.length_drop, List.length_dropLast, List.length_reverse]; omega), ?_⟩))
          intro q hq
          show Q (.ref q) (upd H2 q (.tup [.str (txt (back x)), .int ((s : Nat) - 1), .bl false]))
          rw [show (((s : Nat) : Int) - 1) = ((s - 1 : Nat) : Int) by omega]
          exact mk (r := (back x, s - 1, false)) (by simp [nextH, cs, c]) (e1.trans e2) hq
    | none =>
      (repeat (first | refine ⟨_, rfl, ?_⟩ | refine ⟨rfl, ?_⟩ | refine ⟨_, _, rfl, rfl, ?_⟩ | refine ⟨hz, ?_⟩ | refine ⟨(show 3 ≤ sizeLine by decide), ?_⟩ | refine ⟨(show 2 ≤ sizeLine by decide), ?_⟩ | refine ⟨by decide +kernel, ?_⟩ | refine ⟨.inl ⟨by decide, by decide⟩, ?_⟩ | refine .inl ⟨_, rfl, sz (by simp only [*, sM, sE, s1, s0, s110, s101, txt_cat, txt_len, cut_to, cut_from, cut_init, List.length_append, List.length_cons, List.length_nil, List.length_take, List.length_drop, List.length_dropLast, List.length_reverse]; omega), ?_⟩ | refine ⟨sz (by simp only [*, sM, sE, s1, s0, s110, s101, txt_cat, txt_len, cut_to, cut_from, cut_init, List.length_append, List.length_cons, List.length_nil, List.length_take, List.length_drop, List.length_dropLast, List.length_reverse]; omega), ?_⟩))
      by_cases c : s = 0
      · subst c
        cases u with
        | true =>
          (repeat (first | refine ⟨_, rfl, ?_⟩ | refine ⟨rfl, ?_⟩ | refine ⟨_, _, rfl, rfl, ?_⟩ | refine ⟨hz, ?_⟩ | refine ⟨(show 3 ≤ sizeLine by decide), ?_⟩ | refine ⟨(show 2 ≤ sizeLine by decide), ?_⟩ | refine ⟨by decide +kernel, ?_⟩ | refine ⟨.inl ⟨by decide, by decide⟩, ?_⟩ | refine .inl ⟨_, rfl, sz (by simp only [*, sM, sE, s1, s0, s110, s101, txt_cat, txt_len, cut_to, cut_from, cut_init, List.length_append, List.length_cons, List.length_nil, List.length_take, List.length_drop, List.length_dropLast, List.length_reverse]; omega), ?_⟩ | refine ⟨sz (by simp only [*, sM, sE, s1, s0, s110, s101, txt_cat, txt_len, cut_to, cut_from, cut_init, List.length_append, List.length_cons, List.length_nil, List.length_take, List.length_drop, List.length_dropLast, List.length_reverse]; omega), ?_⟩))
          intro q hq
          exact mk (r := (x, 0, false)) (by simp [nextH, cs]) e1 hq
        | false =>
          (repeat (first | refine ⟨_, rfl, ?_⟩ | refine ⟨rfl, ?_⟩ | refine ⟨_, _, rfl, rfl, ?_⟩ | refine ⟨hz, ?_⟩ | refine ⟨(show 3 ≤ sizeLine by decide), ?_⟩ | refine ⟨(show 2 ≤ sizeLine by decide), ?_⟩ | refine ⟨by decide +kernel, ?_⟩ | refine ⟨.inl ⟨by decide, by decide⟩, ?_⟩ | refine .inl ⟨_, rfl, sz (by simp only [*, sM, sE, s1, s0, s110, s101, txt_cat, txt_len, cut_to, cut_from, cut_init, List.length_append, List.length_cons, List.length_nil, List.length_take, List.length_drop, List.length_dropLast, List.length_reverse]; omega), ?_⟩ | refine ⟨sz (by simp only [*, sM, sE, s1, s0, s110, s101, txt_cat, txt_len, cut_to, cut_from, cut_init, List.length_append, List.length_cons, List.length_nil, List.length_take, List.length_drop, List.length_dropLast, List.length_reverse]; omega), ?_⟩))
          refine ⟨x, f, ws, rfl, by omega, hf1, fun H2 e2 => ?_⟩
          have hf2 := hf1.ex e2
          obtain ⟨F2, hF2⟩ := hf2.lam
          cases cu : EM.under (Bm ws) x with
          | some v =>
            have := under_le cu
            (repeat (first | refine ⟨_, rfl, ?_⟩ | refine ⟨rfl, ?_⟩ | refine ⟨_, _, rfl, rfl, ?_⟩ | refine ⟨hz, ?_⟩ | refine ⟨(show 3 ≤ sizeLine by decide), ?_⟩ | refine ⟨(show 2 ≤ sizeLine by decide), ?_⟩ | refine ⟨by decide +kernel, ?_⟩ | refine ⟨.inl ⟨by decide, by decide⟩, ?_⟩ | refine .inl ⟨_, rfl, sz (by simp only [*, sM, sE, s1, s0, s110, s101, txt_cat, txt_len, cut_to, cut_from, cut_init, List.length_append, List.length_cons, List.length_nil, List.length_take, List.length_drop, List.length_dropLast, List.length_reverse]; omega), ?_⟩ | refine ⟨sz (by simp only [*, sM, sE, s1, s0, s110, s101, txt_cat, txt_len, cut_to, cut_from, cut_init, List.length_append, List.length_cons, List.length_nil, List.length_take, List.length_drop, List.length_dropLast, List.length_reverse]; omega), ?_⟩))
            refine ⟨v, _, rfl, by show _ + 2 * 3 ≤ _; omega, fun H3 e3 => ?_⟩
            (repeat (first | refine ⟨_, rfl, ?_⟩ | refine ⟨rfl, ?_⟩ | refine ⟨_, _, rfl, rfl, ?_⟩ | refine ⟨hz, ?_⟩ | refine ⟨(show 3 ≤ sizeLine by decide), ?_⟩ | refine ⟨(show 2 ≤ sizeLine by decide), ?_⟩ | refine ⟨by decide +kernel, ?_⟩ | refine ⟨.inl ⟨by decide, by decide⟩, ?_⟩ | refine .inl ⟨_, rfl, sz (by simp only [*, sM, sE, s1, s0, s110, s101, txt_cat, txt_len, cut_to, cut_from, cut_init, List.length_append, List.length_cons, List.length_nil, List.length_take, List.length_drop, List.length_dropLast, List.length_reverse]; omega), ?_⟩ | refine ⟨sz (by simp only [*, sM, sE, s1, s0, s110, s101, txt_cat, txt_len, cut_to, cut_from, cut_init, List.length_append, List.length_cons, List.length_nil, List.length_take, List.length_drop, List.length_dropLast, List.length_reverse]; omega), ?_⟩))
            intro q hq
            exact mk (r := (tt v 3, 3, true)) (by simp [nextH, cs, cu]) ((e1.trans e2).trans e3) hq
          | none =>
            (repeat (first | refine ⟨_, rfl, ?_⟩ | refine ⟨rfl, ?_⟩ | refine ⟨_, _, rfl, rfl, ?_⟩ | refine ⟨hz, ?_⟩ | refine ⟨(show 3 ≤ sizeLine by decide), ?_⟩ | refine ⟨(show 2 ≤ sizeLine by decide), ?_⟩ | refine ⟨by decide +kernel, ?_⟩ | refine ⟨.inl ⟨by decide, by decide⟩, ?_⟩ | refine .inl ⟨_, rfl, sz (by simp only [*, sM, sE, s1, s0, s110, s101, txt_cat, txt_len, cut_to, cut_from, cut_init, List.length_append, List.length_cons, List.length_nil, List.length_take, List.length_drop, List.length_dropLast, List.length_reverse]; omega), ?_⟩ | refine ⟨sz (by simp only [*, sM, sE, s1, s0, s110, s101, txt_cat, txt_len, cut_to, cut_from, cut_init, List.length_append, List.length_cons, List.length_nil, List.length_take, List.length_drop, List.length_dropLast, List.length_reverse]; omega), ?_⟩))
            refine ⟨f, F2, rfl, hF2, _, rfl, _, ws, rfl, hf2, _, rfl, ?_⟩
            by_cases cx : x ∈ ws
            · refine dT cx ⟨_, rfl, x, rfl, by omega, fun H3 e3 => ?_⟩
              have := pulled_le x
              refine ⟨pulled x, rfl, by omega, fun H4 e4 => ?_⟩
              (repeat (first | refine ⟨_, rfl, ?_⟩ | refine ⟨rfl, ?_⟩ | refine ⟨_, _, rfl, rfl, ?_⟩ | refine ⟨hz, ?_⟩ | refine ⟨(show 3 ≤ sizeLine by decide), ?_⟩ | refine ⟨(show 2 ≤ sizeLine by decide), ?_⟩ | refine ⟨by decide +kernel, ?_⟩ | refine ⟨.inl ⟨by decide, by decide⟩, ?_⟩ | refine .inl ⟨_, rfl, sz (by simp only [*, sM, sE, s1, s0, s110, s101, txt_cat, txt_len, cut_to, cut_from, cut_init, List.length_append, List.length_cons, List.length_nil, List.length_take, List.length_drop, List.length_dropLast, List.length_reverse]; omega), ?_⟩ | refine ⟨sz (by simp only [*, sM, sE, s1, s0, s110, s101, txt_cat, txt_len, cut_to, cut_from, cut_init, List.length_append, List.length_cons, List.length_nil, List.length_take, List.length_drop, List.length_dropLast, List.length_reverse]; omega), ?_⟩))
              intro q hq
              exact mk (r := (turn (pulled x), 1, true)) (by simp [nextH, cs, cu, cx]) (((e1.trans e2).trans e3).trans e4) hq
            · refine dF cx ⟨_, rfl, x, rfl, by omega, fun H4 e4 => ?_⟩
              (repeat (first | refine ⟨_, rfl, ?_⟩ | refine ⟨rfl, ?_⟩ | refine ⟨_, _, rfl, rfl, ?_⟩ | refine ⟨hz, ?_⟩ | refine ⟨(show 3 ≤ sizeLine by decide), ?_⟩ | refine ⟨(show 2 ≤ sizeLine by decide), ?_⟩ | refine ⟨by decide +kernel, ?_⟩ | refine ⟨.inl ⟨by decide, by decide⟩, ?_⟩ | refine .inl ⟨_, rfl, sz (by simp only [*, sM, sE, s1, s0, s110, s101, txt_cat, txt_len, cut_to, cut_from, cut_init, List.length_append, List.length_cons, List.length_nil, List.length_take, List.length_drop, List.length_dropLast, List.length_reverse]; omega), ?_⟩ | refine ⟨sz (by simp only [*, sM, sE, s1, s0, s110, s101, txt_cat, txt_len, cut_to, cut_from, cut_init, List.length_append, List.length_cons, List.length_nil, List.length_take, List.length_drop, List.length_dropLast, List.length_reverse]; omega), ?_⟩))
              intro q hq
              exact mk (r := (turn x, 1, true)) (by simp [nextH, cs, cu, cx]) ((e1.trans e2).trans e4) hq
      · rw [show decide (V.int ((s : Nat) : Int) = V.int 0) = false from decide_eq_false (fun z => c (by have := V.int.inj z; omega))]
        cases u with
        | true =>
          (repeat (first | refine ⟨_, rfl, ?_⟩ | refine ⟨rfl, ?_⟩ | refine ⟨_, _, rfl, rfl, ?_⟩ | refine ⟨hz, ?_⟩ | refine ⟨(show 3 ≤ sizeLine by decide), ?_⟩ | refine ⟨(show 2 ≤ sizeLine by decide), ?_⟩ | refine ⟨by decide +kernel, ?_⟩ | refine ⟨.inl ⟨by decide, by decide⟩, ?_⟩ | refine .inl ⟨_, rfl, sz (by simp only [*, sM, sE, s1, s0, s110, s101, txt_cat, txt_len, cut_to, cut_from, cut_init, List.length_append, List.length_cons, List.length_nil, List.length_take, List.length_drop, List.length_dropLast, List.length_reverse]; omega), ?_⟩ | refine ⟨sz (by simp only [*, sM, sE, s1, s0, s110, s101, txt_cat, txt_len, cut_to, cut_from, cut_init, List.length_append, List.length_cons, List.length_nil, List.length_take, List.length_drop, List.length_dropLast, List.length_reverse]; omega), ?_⟩))
          intro q hq
          exact mk (r := (x, s, false)) (by simp [nextH, cs, c]) e1 hq
        | false =>
          (repeat (first | refine ⟨_, rfl, ?_⟩ | refine ⟨rfl, ?_⟩ | refine ⟨_, _, rfl, rfl, ?_⟩ | refine ⟨hz, ?_⟩ | refine ⟨(show 3 ≤ sizeLine by decide), ?_⟩ | refine ⟨(show 2 ≤ sizeLine by decide), ?_⟩ | refine ⟨by decide +kernel, ?_⟩ | refine ⟨.inl ⟨by decide, by decide⟩, ?_⟩ | refine .inl ⟨_, rfl, sz (by simp only [*, sM, sE, s1, s0, s110, s101, txt_cat, txt_len, cut_to, cut_from, cut_init, List.length_append, List.length_cons, List.length_nil, List.length_take, List.length_drop, List.length_dropLast, List.length_reverse]; omega), ?_⟩ | refine ⟨sz (by simp only [*, sM, sE, s1, s0, s110, s101, txt_cat, txt_len, cut_to, cut_from, cut_init, List.length_append, List.length_cons, List.length_nil, List.length_take, List.length_drop, List.length_dropLast, List.length_reverse]; omega), ?_⟩))
          refine ⟨by omega, fun H2 e2 => ?_⟩
          (repeat (first | refine ⟨_, rfl, ?_⟩ | refine ⟨rfl, ?_⟩ | refine ⟨_, _, rfl, rfl, ?_⟩ | refine ⟨hz, ?_⟩ | refine ⟨(show 3 ≤ sizeLine by decide), ?_⟩ | refine ⟨(show 2 ≤ sizeLine by decide), ?_⟩ | refine ⟨by decide +kernel, ?_⟩ | refine ⟨.inl ⟨by decide, by decide⟩, ?_⟩ | refine .inl ⟨_, rfl, sz (by simp only [*, sM, sE, s1, s0, s110, s101, txt_cat, txt_len, cut_to, cut_from, cut_init, List.length_append, List.length_cons, List.length_nil, List.length_take, List.length_drop, List.length_dropLast, List.length_reverse]; omega), ?_⟩ | refine ⟨sz (by simp only [*, sM, sE, s1, s0, s110, s101, txt_cat, txt_len, cut_to, cut_from, cut_init, List.length_append, List.length_cons, List.length_nil, List.length_take, List.length_drop, List.length_dropLast, List.length_reverse]; omega), ?_⟩))
          refine ⟨by show (0 : Int) < _; omega, ?_⟩
          (repeat (first | refine ⟨_, rfl, ?_⟩ | refine ⟨rfl, ?_⟩ | refine ⟨_, _, rfl, rfl, ?_⟩ | refine ⟨hz, ?_⟩ | refine ⟨(show 3 ≤ sizeLine by decide), ?_⟩ | refine ⟨(show 2 ≤ sizeLine by decide), ?_⟩ | refine ⟨by decide +kernel, ?_⟩ | refine ⟨.inl ⟨by decide, by decide⟩, ?_⟩ | refine .inl ⟨_, rfl, sz (by simp only [*, sM, sE, s1, s0, s110, s101, txt_cat, txt_len, cut_to, cut_from, cut_init, List.length_append, List.length_cons, List.length_nil, List.length_take, List.length_drop, List.length_dropLast, List.length_reverse]; omega), ?_⟩ | refine ⟨sz (by simp only [*, sM, sE, s1, s0, s110, s101, txt_cat, txt_len, cut_to, cut_from, cut_init, List.length_append, List.length_cons, List.length_nil, List.length_take, List.length_drop, List.length_dropLast, List.length_reverse]; omega), ?_⟩))
          intro q hq
          show Q (.ref q) (upd H2 q (.tup [.str (txt (turn x)), .int (((s : Nat) + 1) % (((txt x).length : Nat) + 1)), .bl true]))
          rw [txt_len, show ((((s : Nat) : Int) + 1) % ((x.length : Nat) + 1)) = (((s + 1) % (x.length + 1) : Nat) : Int) by rw [Int.natCast_emod]; rfl]
          exact mk (r := (turn x, (s + 1) % (x.length + 1), true)) (by simp [nextH, cs, c]) (e1.trans e2) hq
theorem beforeH_no {B : W → Bool} {x : W} {s : Nat} {u : Bool} (h : ¬ ((1 ≤ s ∧ s ≤ 3) ∧ B (tt x (-(s : Int))) = true)) : beforeH B (x, s, u) = if u then (match (if s = 1 then EM.under B (back x) else none) with
      | none => (back x, (((s : Int) - 1) % (x.length + 1)).toNat, false)
      | some u => (u, 0, false))
    else (x, s, true) := by
  unfold beforeH
  exact if_neg h
theorem beforeH_yes {B : W → Bool} {x : W} {s : Nat} {u : Bool} (h : (1 ≤ s ∧ s ≤ 3) ∧ B (tt x (-(s : Int))) = true) : beforeH B (x, s, u) = (if s = 3 then (if u then (pulled (tt x (-(s : Int))), 0, false) else (turn (tt x (-(s : Int))), 1, true))
    else if u then (x, s, false) else (turn x, s + 1, true)) := by
  unfold beforeH
  rw [if_pos h]
theorem tt_ne {x : W} {s : Nat} (h : 1 ≤ s) : tt x (-(s : Int)) ≠ [] := by
  obtain ⟨k, rfl⟩ : ∃ k, s = k + 1 := ⟨s - 1, by omega⟩
  unfold tt
  rw [if_neg (by omega), show (-((k + 1 : Nat) : Int)).natAbs = k + 1 by omega]
  intro z
  cases z
def N_before_home : List Str := ["home", "is_sewn", "word", "shift", "is_up", "first", "origin", "under"]
theorem sc_before_home : FnScope N_before_home ["home", "is_sewn"] (defScope s_before_home) := ⟨rfl, rfl, rfl, by decide +kernel, rfl, by decide +kernel, by decide +kernel⟩
def sp_beforeH (K : PySem.W.Frag) : Sp := fun vs H Q _ => ∃ (p : Addr) (h : Ho) (f : Addr) (ws : List W), vs = [.ref p, .ref f] ∧ HoAt H p h ∧ h.1.length ≤ 800 ∧ Sewn K H f ws ∧ ∀ p' H', Ex K H H' → H p' = none → HoAt H' p' (beforeH (Bm ws) h) → Q (.ref p') H'
theorem c_before_home (T : Tx K mg) : Cl Pg w K mg base 4 "before_home" (sp_beforeH K) :=
  have c_turned_times := c_turned_times (Pg := Pg) (w := w) (base := base) T
  have c_sewn_under := c_sewn_under (Pg := Pg) (w := w) (base := base) T
  have c_turned_in := c_turned_in (Pg := Pg) (w := w) (base := base) T
  have c_back_in := c_back_in (Pg := Pg) (w := w) (base := base) T
  have c_pulled_in := c_pulled_in (Pg := Pg) (w := w) (base := base) T
  calD T.g_before_home T.f_before_home sc_before_home (fun _ _ _ _ _ _ us hl => match us, hl with | [_, _], _ => rfl) (fun vs H Q E h => by obtain ⟨i, _, _, _, rfl, _⟩ := h; rfl) fun cdv A outer st H vs Q E hr h => by
    obtain ⟨p, ⟨x, s, u⟩, f, ws, rfl, hp, hx, hf, hQ⟩ := h
    have hx : x.length ≤ 800 := hx
    have hz : (txt x).length ≤ sizeLine := sz (by rw [txt_len]; omega)
    have hp : H p = some (.tup [.str (txt x), .int (s : Nat), .bl u]) := hp
    have mk : ∀ {r : Ho} {H' : Hp} {q : Addr}, beforeH (Bm ws) (x, s, u) = r → Ex K H H' → H' q = none → Q (.ref q) (upd H' q (.tup [.str (txt r.1), .int (r.2.1 : Nat), .bl r.2.2])) := fun er e hq => hQ _ _ (e.trans (Ex.new hq)) (e.free hq) (by rw [er]; exact upd_same)
    have hb := back_le2 x
    have hl := tt_le x (-(s : Int))
    refine ⟨_, (pss_cons (ps_asg (pv 0) (pg_tup rfl (pgs_cons (pg_name (i := 2) sc_before_home.nd rfl (Or.inl rfl)) (pgs_cons (pg_name (i := 3) sc_before_home.nd rfl (Or.inl rfl)) (pgs_cons (pg_name (i := 4) sc_before_home.nd rfl (Or.inl rfl)) pgs_nil)))))
      (pss_cons (ps_set (i := 5) sc_before_home.nd rfl (Or.inl rfl) (pe_ifExp (pt_chain op_le op_le pe_int (pv 3) (C8.pe_gc (by rfl) T.c_LAST_SHIFT)) (C8.pe_c c_turned_times hr (by decide) (by rfl) (pa_cons (pv 2) (pa_cons (pe_un un_neg (pv 3)) pa_nil))) pe_str))
      (pss_cons (ps_if (PW.pt (pw_and (pt_cmpR op_ne (pv 5) pe_str (nomark _)) (pw_and1 (pt_val (pe_callR (i := 1) (k := 2) (fun _ _ _ _ _ _ _ _ hr e0 r h => sewn_run T hr e0 r h) (hr.mono (by decide)) (by rfl) (.inl rfl) (pa_cons (pv 5) pa_nil)))))) (pss_cons (ps_if (pt_cmpR op_eq (pv 3) (C8.pe_gc (by rfl) T.c_LAST_SHIFT) (nomark _)) (pss_one (ps_ret (pe_ifExp (pt_val (pv 4)) (pe_tup (pa_cons (C8.pe_c c_pulled_in hr (by decide) (by rfl) (pa_cons (pv 5) pa_nil)) (pa_cons pe_int (pa_cons pe_bl pa_nil)))) (pe_tup (pa_cons (C8.pe_c c_turned_in hr (by decide) (by rfl) (pa_cons (pv 5) pa_nil)) (pa_cons pe_int (pa_cons pe_bl pa_nil))))))) pss_nil)
      (pss_one (ps_ret (pe_ifExp (pt_val (pv 4)) (pe_tup (pa_cons (pv 2) (pa_cons (pv 3) (pa_cons pe_bl pa_nil)))) (pe_tup (pa_cons (C8.pe_c c_turned_in hr (by decide) (by rfl) (pa_cons (pv 2) pa_nil)) (pa_cons (pe_op op_add (pv 3) pe_int) (pa_cons pe_bl pa_nil)))))))) pss_nil)
      (pss_cons (ps_if (pt_not (pt_val (pv 4))) (pss_one (ps_ret (pe_tup (pa_cons (pv 2) (pa_cons (pv 3) (pa_cons pe_bl pa_nil)))))) pss_nil)
      (pss_cons (ps_set (i := 6) sc_before_home.nd rfl (Or.inl rfl) (C8.pe_c c_back_in hr (by decide) (by rfl) (pa_cons (pv 2) pa_nil)))
      (pss_cons (ps_set (i := 7) sc_before_home.nd rfl (Or.inl rfl) (pe_ifExp (pt_cmpR op_eq (pv 3) pe_int (nomark _)) (C8.pe_c c_sewn_under hr (by decide) (by rfl) (pa_cons (pv 6) (pa_cons (pv 1) pa_nil))) pe_non))
      (pss_one (ps_ret (pe_ifExp (pt_cmpR op_isN (pv 7) pe_non (nomark _)) (pe_tup (pa_cons (pv 6) (pa_cons (pe_op op_mod (pe_op op_sub (pv 3) pe_int) (pe_op op_add (pe_callB call_len_str (by rfl) T.n_len PySem.boot_len (pa_cons (pv 2) pa_nil)) pe_int)) (pa_cons pe_bl pa_nil)))) (pe_tup (pa_cons (pv 7) (pa_cons pe_int (pa_cons pe_bl pa_nil))))))))))))), ?_⟩
    refine ⟨_, rfl, p, _, rfl, .inl (.inl hp), rfl, _, _, rfl, _, _, rfl, _, _, rfl, rfl, ?_⟩
    (repeat (first | refine ⟨_, rfl, ?_⟩ | refine ⟨rfl, ?_⟩ | refine ⟨_, _, rfl, rfl, ?_⟩ | refine ⟨hz, ?_⟩ | refine ⟨(show 3 ≤ sizeLine by decide), ?_⟩ | refine ⟨(show 2 ≤ sizeLine by decide), ?_⟩ | refine ⟨by decide +kernel, ?_⟩ | refine ⟨.inl ⟨by decide, by decide⟩, ?_⟩ | refine .inl ⟨_, rfl, sz (by simp only [*, sM, sE, s1, s0, s110, s101, txt_cat, txt_len, cut_to, cut_from, cut_init, List.length_append, List.length_cons, List.length_nil, List.length_take, List.length_drop, List.length_dropLast, List.length_reverse]; omega), ?_⟩ | refine ⟨sz (by simp only [*, sM, sE, s1, s0, s110, s101, txt_cat, txt_len, cut_to, cut_from, cut_init, List.length_append, List.length_cons, List.length_nil, List.length_take, List.length_drop, List.length_dropLast, List.length_reverse]; omega), ?_⟩))
    by_cases h1 : 1 ≤ s ∧ s ≤ 3
    · obtain ⟨h1, h3⟩ := h1
      refine dT (show (1 : Int) ≤ (s : Nat) by omega) ?_
      (repeat (first | refine ⟨_, rfl, ?_⟩ | refine ⟨rfl, ?_⟩ | refine ⟨_, _, rfl, rfl, ?_⟩ | refine ⟨hz, ?_⟩ | refine ⟨(show 3 ≤ sizeLine by decide), ?_⟩ | refine ⟨(show 2 ≤ sizeLine by decide), ?_⟩ | refine ⟨by decide +kernel, ?_⟩ | refine ⟨.inl ⟨by decide, by decide⟩, ?_⟩ | refine .inl ⟨_, rfl, sz (by simp only [*, sM, sE, s1, s0, s110, s101, txt_cat, txt_len, cut_to, cut_from, cut_init, List.length_append, List.length_cons, List.length_nil, List.length_take, List.length_drop, List.length_dropLast, List.length_reverse]; omega), ?_⟩ | refine ⟨sz (by simp only [*, sM, sE, s1, s0, s110, s101, txt_cat, txt_len, cut_to, cut_from, cut_init, List.length_append, List.length_cons, List.length_nil, List.length_take, List.length_drop, List.length_dropLast, List.length_reverse]; omega), ?_⟩))
      rw [show decide (((s : Nat) : Int) ≤ 3) = true from decide_eq_true (by omega)]
      (repeat (first | refine ⟨_, rfl, ?_⟩ | refine ⟨rfl, ?_⟩ | refine ⟨_, _, rfl, rfl, ?_⟩ | refine ⟨hz, ?_⟩ | refine ⟨(show 3 ≤ sizeLine by decide), ?_⟩ | refine ⟨(show 2 ≤ sizeLine by decide), ?_⟩ | refine ⟨by decide +kernel, ?_⟩ | refine ⟨.inl ⟨by decide, by decide⟩, ?_⟩ | refine .inl ⟨_, rfl, sz (by simp only [*, sM, sE, s1, s0, s110, s101, txt_cat, txt_len, cut_to, cut_from, cut_init, List.length_append, List.length_cons, List.length_nil, List.length_take, List.length_drop, List.length_dropLast, List.length_reverse]; omega), ?_⟩ | refine ⟨sz (by simp only [*, sM, sE, s1, s0, s110, s101, txt_cat, txt_len, cut_to, cut_from, cut_init, List.length_append, List.length_cons, List.length_nil, List.length_take, List.length_drop, List.length_dropLast, List.length_reverse]; omega), ?_⟩))
      refine ⟨x, _, rfl, by omega, fun H1 e1 => ?_⟩
      have hf1 := hf.ex e1
      obtain ⟨F, hF⟩ := hf1.lam
      (repeat (first | refine ⟨_, rfl, ?_⟩ | refine ⟨rfl, ?_⟩ | refine ⟨_, _, rfl, rfl, ?_⟩ | refine ⟨hz, ?_⟩ | refine ⟨(show 3 ≤ sizeLine by decide), ?_⟩ | refine ⟨(show 2 ≤ sizeLine by decide), ?_⟩ | refine ⟨by decide +kernel, ?_⟩ | refine ⟨.inl ⟨by decide, by decide⟩, ?_⟩ | refine .inl ⟨_, rfl, sz (by simp only [*, sM, sE, s1, s0, s110, s101, txt_cat, txt_len, cut_to, cut_from, cut_init, List.length_append, List.length_cons, List.length_nil, List.length_take, List.length_drop, List.length_dropLast, List.length_reverse]; omega), ?_⟩ | refine ⟨sz (by simp only [*, sM, sE, s1, s0, s110, s101, txt_cat, txt_len, cut_to, cut_from, cut_init, List.length_append, List.length_cons, List.length_nil, List.length_take, List.length_drop, List.length_dropLast, List.length_reverse]; omega), ?_⟩))
      rw [sE]
      refine nT (fun z => tt_ne h1 (txt_inj (V.str.inj z))) ?_
      refine ⟨f, F, rfl, hF, _, rfl, _, ws, rfl, hf1, _, rfl, ?_⟩
      by_cases c2 : tt x (-(s : Int)) ∈ ws
      · refine dT c2 ?_
        have yc : (1 ≤ s ∧ s ≤ 3) ∧ Bm ws (tt x (-(s : Int))) = true := ⟨⟨h1, h3⟩, decide_eq_true c2⟩
        (repeat (first | refine ⟨_, rfl, ?_⟩ | refine ⟨rfl, ?_⟩ | refine ⟨_, _, rfl, rfl, ?_⟩ | refine ⟨hz, ?_⟩ | refine ⟨(show 3 ≤ sizeLine by decide), ?_⟩ | refine ⟨(show 2 ≤ sizeLine by decide), ?_⟩ | refine ⟨by decide +kernel, ?_⟩ | refine ⟨.inl ⟨by decide, by decide⟩, ?_⟩ | refine .inl ⟨_, rfl, sz (by simp only [*, sM, sE, s1, s0, s110, s101, txt_cat, txt_len, cut_to, cut_from, cut_init, List.length_append, List.length_cons, List.length_nil, List.length_take, List.length_drop, List.length_dropLast, List.length_reverse]; omega), ?_⟩ | refine ⟨sz (by simp only [*, sM, sE, s1, s0, s110, s101, txt_cat, txt_len, cut_to, cut_from, cut_init, List.length_append, List.length_cons, List.length_nil, List.length_take, List.length_drop, List.length_dropLast, List.length_reverse]; omega), ?_⟩))
        by_cases c3 : s = 3
        · rw [show decide (V.int ((s : Nat) : Int) = V.int 3) = true from decide_eq_true (by rw [c3]; rfl)]
          cases u with
          | true =>
            (repeat (first | refine ⟨_, rfl, ?_⟩ | refine ⟨rfl, ?_⟩ | refine ⟨_, _, rfl, rfl, ?_⟩ | refine ⟨hz, ?_⟩ | refine ⟨(show 3 ≤ sizeLine by decide), ?_⟩ | refine ⟨(show 2 ≤ sizeLine by decide), ?_⟩ | refine ⟨by decide +kernel, ?_⟩ | refine ⟨.inl ⟨by decide, by decide⟩, ?_⟩ | refine .inl ⟨_, rfl, sz (by simp only [*, sM, sE, s1, s0, s110, s101, txt_cat, txt_len, cut_to, cut_from, cut_init, List.length_append, List.length_cons, List.length_nil, List.length_take, List.length_drop, List.length_dropLast, List.length_reverse]; omega), ?_⟩ | refine ⟨sz (by simp only [*, sM, sE, s1, s0, s110, s101, txt_cat, txt_len, cut_to, cut_from, cut_init, List.length_append, List.length_cons, List.length_nil, List.length_take, List.length_drop, List.length_dropLast, List.length_reverse]; omega), ?_⟩))
            refine ⟨by omega, fun H2 e2 => ?_⟩
            (repeat (first | refine ⟨_, rfl, ?_⟩ | refine ⟨rfl, ?_⟩ | refine ⟨_, _, rfl, rfl, ?_⟩ | refine ⟨hz, ?_⟩ | refine ⟨(show 3 ≤ sizeLine by decide), ?_⟩ | refine ⟨(show 2 ≤ sizeLine by decide), ?_⟩ | refine ⟨by decide +kernel, ?_⟩ | refine ⟨.inl ⟨by decide, by decide⟩, ?_⟩ | refine .inl ⟨_, rfl, sz (by simp only [*, sM, sE, s1, s0, s110, s101, txt_cat, txt_len, cut_to, cut_from, cut_init, List.length_append, List.length_cons, List.length_nil, List.length_take, List.length_drop, List.length_dropLast, List.length_reverse]; omega), ?_⟩ | refine ⟨sz (by simp only [*, sM, sE, s1, s0, s110, s101, txt_cat, txt_len, cut_to, cut_from, cut_init, List.length_append, List.length_cons, List.length_nil, List.length_take, List.length_drop, List.length_dropLast, List.length_reverse]; omega), ?_⟩))
            intro q hq
            exact mk (r := (pulled (tt x (-(s : Int))), 0, false)) (by rw [beforeH_yes yc, if_pos c3]; rfl) (e1.trans e2) hq
          | false =>
            (repeat (first | refine ⟨_, rfl, ?_⟩ | refine ⟨rfl, ?_⟩ | refine ⟨_, _, rfl, rfl, ?_⟩ | refine ⟨hz, ?_⟩ | refine ⟨(show 3 ≤ sizeLine by decide), ?_⟩ | refine ⟨(show 2 ≤ sizeLine by decide), ?_⟩ | refine ⟨by decide +kernel, ?_⟩ | refine ⟨.inl ⟨by decide, by decide⟩, ?_⟩ | refine .inl ⟨_, rfl, sz (by simp only [*, sM, sE, s1, s0, s110, s101, txt_cat, txt_len, cut_to, cut_from, cut_init, List.length_append, List.length_cons, List.length_nil, List.length_take, List.length_drop, List.length_dropLast, List.length_reverse]; omega), ?_⟩ | refine ⟨sz (by simp only [*, sM, sE, s1, s0, s110, s101, txt_cat, txt_len, cut_to, cut_from, cut_init, List.length_append, List.length_cons, List.length_nil, List.length_take, List.length_drop, List.length_dropLast, List.length_reverse]; omega), ?_⟩))
            refine ⟨by omega, fun H2 e2 => ?_⟩
            (repeat (first | refine ⟨_, rfl, ?_⟩ | refine ⟨rfl, ?_⟩ | refine ⟨_, _, rfl, rfl, ?_⟩ | refine ⟨hz, ?_⟩ | refine ⟨(show 3 ≤ sizeLine by decide), ?_⟩ | refine ⟨(show 2 ≤ sizeLine by decide), ?_⟩ | refine ⟨by decide +kernel, ?_⟩ | refine ⟨.inl ⟨by decide, by decide⟩, ?_⟩ | refine .inl ⟨_, rfl, sz (by simp only [*, sM, sE, s1, s0, s110, s101, txt_cat, txt_len, cut_to, cut_from, cut_init, List.length_append, List.length_cons, List.length_nil, List.length_take, List.length_drop, List.length_dropLast, List.length_reverse]; omega), ?_⟩ | refine ⟨sz (by simp only [*, sM, sE, s1, s0, s110, s101, txt_cat, txt_len, cut_to, cut_from, cut_init, List.length_append, List.length_cons, List.length_nil, List.length_take, List.length_drop, List.length_dropLast, List.length_reverse]; omega), ?_⟩))
            intro q hq
            exact mk (r := (turn (tt x (-(s : Int))), 1, true)) (by rw [beforeH_yes yc, if_pos c3]; rfl) (e1.trans e2) hq
        · rw [show decide (V.int ((s : Nat) : Int) = V.int 3) = false from decide_eq_false (fun z => c3 (by have := V.int.inj z; omega))]
          cases u with
          | true =>
            (repeat (first | refine ⟨_, rfl, ?_⟩ | refine ⟨rfl, ?_⟩ | refine ⟨_, _, rfl, rfl, ?_⟩ | refine ⟨hz, ?_⟩ | refine ⟨(show 3 ≤ sizeLine by decide), ?_⟩ | refine ⟨(show 2 ≤ sizeLine by decide), ?_⟩ | refine ⟨by decide +kernel, ?_⟩ | refine ⟨.inl ⟨by decide, by decide⟩, ?_⟩ | refine .inl ⟨_, rfl, sz (by simp only [*, sM, sE, s1, s0, s110, s101, txt_cat, txt_len, cut_to, cut_from, cut_init, List.length_append, List.length_cons, List.length_nil, List.length_take, List.length_drop, List.length_dropLast, List.length_reverse]; omega), ?_⟩ | refine ⟨sz (by simp only [*, sM, sE, s1, s0, s110, s101, txt_cat, txt_len, cut_to, cut_from, cut_init, List.length_append, List.length_cons, List.length_nil, List.length_take, List.length_drop, List.length_dropLast, List.length_reverse]; omega), ?_⟩))
            intro q hq
            exact mk (r := (x, s, false)) (by rw [beforeH_yes yc, if_neg c3]; rfl) e1 hq
          | false =>
            (repeat (first | refine ⟨_, rfl, ?_⟩ | refine ⟨rfl, ?_⟩ | refine ⟨_, _, rfl, rfl, ?_⟩ | refine ⟨hz, ?_⟩ | refine ⟨(show 3 ≤ sizeLine by decide), ?_⟩ | refine ⟨(show 2 ≤ sizeLine by decide), ?_⟩ | refine ⟨by decide +kernel, ?_⟩ | refine ⟨.inl ⟨by decide, by decide⟩, ?_⟩ | refine .inl ⟨_, rfl, sz (by simp only [*, sM, sE, s1, s0, s110, s101, txt_cat, txt_len, cut_to, cut_from, cut_init, List.length_append, List.length_cons, List.length_nil, List.length_take, List.length_drop, List.length_dropLast, List.length_reverse]; omega), ?_⟩ | refine ⟨sz (by simp only [*, sM, sE, s1, s0, s110, s101, txt_cat, txt_len, cut_to, cut_from, cut_init, List.length_append, List.length_cons, List.length_nil, List.length_take, List.length_drop, List.length_dropLast, List.length_reverse]; omega), ?_⟩))
            refine ⟨by omega, fun H2 e2 => ?_⟩
            (repeat (first | refine ⟨_, rfl, ?_⟩ | refine ⟨rfl, ?_⟩ | refine ⟨_, _, rfl, rfl, ?_⟩ | refine ⟨hz, ?_⟩ | refine ⟨(show 3 ≤ sizeLine by decide), ?_⟩ | refine ⟨(show 2 ≤ sizeLine by decide), ?_⟩ | refine ⟨by decide +kernel, ?_⟩ | refine ⟨.inl ⟨by decide, by decide⟩, ?_⟩ | refine .inl ⟨_, rfl, sz (by simp only [*, sM, sE, s1, s0, s110, s101, txt_cat, txt_len, cut_to, cut_from, cut_init, List.length_append, List.length_cons, List.length_nil, List.length_take, List.length_drop, List.length_dropLast, List.length_reverse]; omega), ?_⟩ | refine ⟨sz (by simp only [*, sM, sE, s1, s0, s110, s101, txt_cat, txt_len, cut_to, cut_from, cut_init, List.length_append, List.length_cons, List.length_nil, List.length_take, List.length_drop, List.length_dropLast, List.length_reverse]; omega), ?_⟩))
            intro q hq
            exact mk (r := (turn x, s + 1, true)) (by rw [beforeH_yes yc, if_neg c3]; rfl) (e1.trans e2) hq
      · refine dF c2 ?_
        have nc : ¬ ((1 ≤ s ∧ s ≤ 3) ∧ Bm ws (tt x (-(s : Int))) = true) := fun z => BmF c2 z.2
        cases u with
        | false =>
          (repeat (first | refine ⟨_, rfl, ?_⟩ | refine ⟨rfl, ?_⟩ | refine ⟨_, _, rfl, rfl, ?_⟩ | refine ⟨hz, ?_⟩ | refine ⟨(show 3 ≤ sizeLine by decide), ?_⟩ | refine ⟨(show 2 ≤ sizeLine by decide), ?_⟩ | refine ⟨by decide +kernel, ?_⟩ | refine ⟨.inl ⟨by decide, by decide⟩, ?_⟩ | refine .inl ⟨_, rfl, sz (by simp only [*, sM, sE, s1, s0, s110, s101, txt_cat, txt_len, cut_to, cut_from, cut_init, List.length_append, List.length_cons, List.length_nil, List.length_take, List.length_drop, List.length_dropLast, List.length_reverse]; omega), ?_⟩ | refine ⟨sz (by simp only [*, sM, sE, s1, s0, s110, s101, txt_cat, txt_len, cut_to, cut_from, cut_init, List.length_append, List.length_cons, List.length_nil, List.length_take, List.length_drop, List.length_dropLast, List.length_reverse]; omega), ?_⟩))
          intro q hq
          exact mk (r := (x, s, true)) (by rw [beforeH_no nc]; rfl) e1 hq
        | true =>
          (repeat (first | refine ⟨_, rfl, ?_⟩ | refine ⟨rfl, ?_⟩ | refine ⟨_, _, rfl, rfl, ?_⟩ | refine ⟨hz, ?_⟩ | refine ⟨(show 3 ≤ sizeLine by decide), ?_⟩ | refine ⟨(show 2 ≤ sizeLine by decide), ?_⟩ | refine ⟨by decide +kernel, ?_⟩ | refine ⟨.inl ⟨by decide, by decide⟩, ?_⟩ | refine .inl ⟨_, rfl, sz (by simp only [*, sM, sE, s1, s0, s110, s101, txt_cat, txt_len, cut_to, cut_from, cut_init, List.length_append, List.length_cons, List.length_nil, List.length_take, List.length_drop, List.length_dropLast, List.length_reverse]; omega), ?_⟩ | refine ⟨sz (by simp only [*, sM, sE, s1, s0, s110, s101, txt_cat, txt_len, cut_to, cut_from, cut_init, List.length_append, List.length_cons, List.length_nil, List.length_take, List.length_drop, List.length_dropLast, List.length_reverse]; omega), ?_⟩))
          refine ⟨by omega, fun H8 e8 => ?_⟩
          (repeat (first | refine ⟨_, rfl, ?_⟩ | refine ⟨rfl, ?_⟩ | refine ⟨_, _, rfl, rfl, ?_⟩ | refine ⟨hz, ?_⟩ | refine ⟨(show 3 ≤ sizeLine by decide), ?_⟩ | refine ⟨(show 2 ≤ sizeLine by decide), ?_⟩ | refine ⟨by decide +kernel, ?_⟩ | refine ⟨.inl ⟨by decide, by decide⟩, ?_⟩ | refine .inl ⟨_, rfl, sz (by simp only [*, sM, sE, s1, s0, s110, s101, txt_cat, txt_len, cut_to, cut_from, cut_init, List.length_append, List.length_cons, List.length_nil, List.length_take, List.length_drop, List.length_dropLast, List.length_reverse]; omega), ?_⟩ | refine ⟨sz (by simp only [*, sM, sE, s1, s0, s110, s101, txt_cat, txt_len, cut_to, cut_from, cut_init, List.length_append, List.length_cons, List.length_nil, List.length_take, List.length_drop, List.length_dropLast, List.length_reverse]; omega), ?_⟩))
          have eq1 : ∀ {n : Int}, n = (x.length : Nat) → (((((s : Nat) : Int) - 1) % (n + 1))) = (((((s : Nat) : Int) - 1) % ((x.length : Nat) + 1)).toNat : Nat) := fun h => by
            rw [h]
            exact (Int.toNat_of_nonneg (Int.emod_nonneg _ (by omega))).symm
          have e9 := Ex.trans e1 e8
          by_cases c1 : s = 1
          · rw [show decide (V.int ((s : Nat) : Int) = V.int 1) = true from decide_eq_true (by rw [c1]; rfl)]
            (repeat (first | refine ⟨_, rfl, ?_⟩ | refine ⟨rfl, ?_⟩ | refine ⟨_, _, rfl, rfl, ?_⟩ | refine ⟨hz, ?_⟩ | refine ⟨(show 3 ≤ sizeLine by decide), ?_⟩ | refine ⟨(show 2 ≤ sizeLine by decide), ?_⟩ | refine ⟨by decide +kernel, ?_⟩ | refine ⟨.inl ⟨by decide, by decide⟩, ?_⟩ | refine .inl ⟨_, rfl, sz (by simp only [*, sM, sE, s1, s0, s110, s101, txt_cat, txt_len, cut_to, cut_from, cut_init, List.length_append, List.length_cons, List.length_nil, List.length_take, List.length_drop, List.length_dropLast, List.length_reverse]; omega), ?_⟩ | refine ⟨sz (by simp only [*, sM, sE, s1, s0, s110, s101, txt_cat, txt_len, cut_to, cut_from, cut_init, List.length_append, List.length_cons, List.length_nil, List.length_take, List.length_drop, List.length_dropLast, List.length_reverse]; omega), ?_⟩))
            refine ⟨back x, f, ws, rfl, by omega, hf.ex e9, fun H3 e3 => ?_⟩
            cases cu : EM.under (Bm ws) (back x) with
            | some v =>
              (repeat (first | refine ⟨_, rfl, ?_⟩ | refine ⟨rfl, ?_⟩ | refine ⟨_, _, rfl, rfl, ?_⟩ | refine ⟨hz, ?_⟩ | refine ⟨(show 3 ≤ sizeLine by decide), ?_⟩ | refine ⟨(show 2 ≤ sizeLine by decide), ?_⟩ | refine ⟨by decide +kernel, ?_⟩ | refine ⟨.inl ⟨by decide, by decide⟩, ?_⟩ | refine .inl ⟨_, rfl, sz (by simp only [*, sM, sE, s1, s0, s110, s101, txt_cat, txt_len, cut_to, cut_from, cut_init, List.length_append, List.length_cons, List.length_nil, List.length_take, List.length_drop, List.length_dropLast, List.length_reverse]; omega), ?_⟩ | refine ⟨sz (by simp only [*, sM, sE, s1, s0, s110, s101, txt_cat, txt_len, cut_to, cut_from, cut_init, List.length_append, List.length_cons, List.length_nil, List.length_take, List.length_drop, List.length_dropLast, List.length_reverse]; omega), ?_⟩))
              intro q hq
              exact mk (r := (v, 0, false)) (by rw [beforeH_no nc, if_pos rfl, if_pos c1, cu]) (e9.trans e3) hq
            | none =>
              (repeat (first | refine ⟨_, rfl, ?_⟩ | refine ⟨rfl, ?_⟩ | refine ⟨_, _, rfl, rfl, ?_⟩ | refine ⟨hz, ?_⟩ | refine ⟨(show 3 ≤ sizeLine by decide), ?_⟩ | refine ⟨(show 2 ≤ sizeLine by decide), ?_⟩ | refine ⟨by decide +kernel, ?_⟩ | refine ⟨.inl ⟨by decide, by decide⟩, ?_⟩ | refine .inl ⟨_, rfl, sz (by simp only [*, sM, sE, s1, s0, s110, s101, txt_cat, txt_len, cut_to, cut_from, cut_init, List.length_append, List.length_cons, List.length_nil, List.length_take, List.length_drop, List.length_dropLast, List.length_reverse]; omega), ?_⟩ | refine ⟨sz (by simp only [*, sM, sE, s1, s0, s110, s101, txt_cat, txt_len, cut_to, cut_from, cut_init, List.length_append, List.length_cons, List.length_nil, List.length_take, List.length_drop, List.length_dropLast, List.length_reverse]; omega), ?_⟩))
              refine ⟨by show (0 : Int) < _; omega, ?_⟩
              (repeat (first | refine ⟨_, rfl, ?_⟩ | refine ⟨rfl, ?_⟩ | refine ⟨_, _, rfl, rfl, ?_⟩ | refine ⟨hz, ?_⟩ | refine ⟨(show 3 ≤ sizeLine by decide), ?_⟩ | refine ⟨(show 2 ≤ sizeLine by decide), ?_⟩ | refine ⟨by decide +kernel, ?_⟩ | refine ⟨.inl ⟨by decide, by decide⟩, ?_⟩ | refine .inl ⟨_, rfl, sz (by simp only [*, sM, sE, s1, s0, s110, s101, txt_cat, txt_len, cut_to, cut_from, cut_init, List.length_append, List.length_cons, List.length_nil, List.length_take, List.length_drop, List.length_dropLast, List.length_reverse]; omega), ?_⟩ | refine ⟨sz (by simp only [*, sM, sE, s1, s0, s110, s101, txt_cat, txt_len, cut_to, cut_from, cut_init, List.length_append, List.length_cons, List.length_nil, List.length_take, List.length_drop, List.length_dropLast, List.length_reverse]; omega), ?_⟩))
              intro q hq
              show Q (.ref q) (upd H3 q (.tup [.str (txt (back x)), .int ((((s : Nat) : Int) - 1) % (((txt x).length : Nat) + 1)), .bl false]))
              rw [eq1 (by rw [txt_len])]
              exact mk (r := (back x, _, false)) (by rw [beforeH_no nc, if_pos rfl, if_pos c1, cu]; rfl) (e9.trans e3) hq
          · rw [show decide (V.int ((s : Nat) : Int) = V.int 1) = false from decide_eq_false (fun z => c1 (by have := V.int.inj z; omega))]
            (repeat (first | refine ⟨_, rfl, ?_⟩ | refine ⟨rfl, ?_⟩ | refine ⟨_, _, rfl, rfl, ?_⟩ | refine ⟨hz, ?_⟩ | refine ⟨(show 3 ≤ sizeLine by decide), ?_⟩ | refine ⟨(show 2 ≤ sizeLine by decide), ?_⟩ | refine ⟨by decide +kernel, ?_⟩ | refine ⟨.inl ⟨by decide, by decide⟩, ?_⟩ | refine .inl ⟨_, rfl, sz (by simp only [*, sM, sE, s1, s0, s110, s101, txt_cat, txt_len, cut_to, cut_from, cut_init, List.length_append, List.length_cons, List.length_nil, List.length_take, List.length_drop, List.length_dropLast, List.length_reverse]; omega), ?_⟩ | refine ⟨sz (by simp only [*, sM, sE, s1, s0, s110, s101, txt_cat, txt_len, cut_to, cut_from, cut_init, List.length_append, List.length_cons, List.length_nil, List.length_take, List.length_drop, List.length_dropLast, List.length_reverse]; omega), ?_⟩))
            refine ⟨by show (0 : Int) < _; omega, ?_⟩
            (repeat (first | refine ⟨_, rfl, ?_⟩ | refine ⟨rfl, ?_⟩ | refine ⟨_, _, rfl, rfl, ?_⟩ | refine ⟨hz, ?_⟩ | refine ⟨(show 3 ≤ sizeLine by decide), ?_⟩ | refine ⟨(show 2 ≤ sizeLine by decide), ?_⟩ | refine ⟨by decide +kernel, ?_⟩ | refine ⟨.inl ⟨by decide, by decide⟩, ?_⟩ | refine .inl ⟨_, rfl, sz (by simp only [*, sM, sE, s1, s0, s110, s101, txt_cat, txt_len, cut_to, cut_from, cut_init, List.length_append, List.length_cons, List.length_nil, List.length_take, List.length_drop, List.length_dropLast, List.length_reverse]; omega), ?_⟩ | refine ⟨sz (by simp only [*, sM, sE, s1, s0, s110, s101, txt_cat, txt_len, cut_to, cut_from, cut_init, List.length_append, List.length_cons, List.length_nil, List.length_take, List.length_drop, List.length_dropLast, List.length_reverse]; omega), ?_⟩))
            intro q hq
            show Q (.ref q) (upd H8 q (.tup [.str (txt (back x)), .int ((((s : Nat) : Int) - 1) % (((txt x).length : Nat) + 1)), .bl false]))
            rw [eq1 (by rw [txt_len])]
            exact mk (r := (back x, _, false)) (by rw [beforeH_no nc, if_pos rfl, if_neg c1]; rfl) e9 hq
    · by_cases h2 : 1 ≤ s
      · refine dT (show (1 : Int) ≤ (s : Nat) by omega) ?_
        (repeat (first | refine ⟨_, rfl, ?_⟩ | refine ⟨rfl, ?_⟩ | refine ⟨_, _, rfl, rfl, ?_⟩ | refine ⟨hz, ?_⟩ | refine ⟨(show 3 ≤ sizeLine by decide), ?_⟩ | refine ⟨(show 2 ≤ sizeLine by decide), ?_⟩ | refine ⟨by decide +kernel, ?_⟩ | refine ⟨.inl ⟨by decide, by decide⟩, ?_⟩ | refine .inl ⟨_, rfl, sz (by simp only [*, sM, sE, s1, s0, s110, s101, txt_cat, txt_len, cut_to, cut_from, cut_init, List.length_append, List.length_cons, List.length_nil, List.length_take, List.length_drop, List.length_dropLast, List.length_reverse]; omega), ?_⟩ | refine ⟨sz (by simp only [*, sM, sE, s1, s0, s110, s101, txt_cat, txt_len, cut_to, cut_from, cut_init, List.length_append, List.length_cons, List.length_nil, List.length_take, List.length_drop, List.length_dropLast, List.length_reverse]; omega), ?_⟩))
        rw [show decide (((s : Nat) : Int) ≤ 3) = false from decide_eq_false (by omega)]
        (repeat (first | refine ⟨_, rfl, ?_⟩ | refine ⟨rfl, ?_⟩ | refine ⟨_, _, rfl, rfl, ?_⟩ | refine ⟨hz, ?_⟩ | refine ⟨(show 3 ≤ sizeLine by decide), ?_⟩ | refine ⟨(show 2 ≤ sizeLine by decide), ?_⟩ | refine ⟨by decide +kernel, ?_⟩ | refine ⟨.inl ⟨by decide, by decide⟩, ?_⟩ | refine .inl ⟨_, rfl, sz (by simp only [*, sM, sE, s1, s0, s110, s101, txt_cat, txt_len, cut_to, cut_from, cut_init, List.length_append, List.length_cons, List.length_nil, List.length_take, List.length_drop, List.length_dropLast, List.length_reverse]; omega), ?_⟩ | refine ⟨sz (by simp only [*, sM, sE, s1, s0, s110, s101, txt_cat, txt_len, cut_to, cut_from, cut_init, List.length_append, List.length_cons, List.length_nil, List.length_take, List.length_drop, List.length_dropLast, List.length_reverse]; omega), ?_⟩))
        have nc : ¬ ((1 ≤ s ∧ s ≤ 3) ∧ Bm ws (tt x (-(s : Int))) = true) := fun z => h1 z.1
        have e1 : Ex K H H := .refl
        cases u with
        | false =>
          (repeat (first | refine ⟨_, rfl, ?_⟩ | refine ⟨rfl, ?_⟩ | refine ⟨_, _, rfl, rfl, ?_⟩ | refine ⟨hz, ?_⟩ | refine ⟨(show 3 ≤ sizeLine by decide), ?_⟩ | refine ⟨(show 2 ≤ sizeLine by decide), ?_⟩ | refine ⟨by decide +kernel, ?_⟩ | refine ⟨.inl ⟨by decide, by decide⟩, ?_⟩ | refine .inl ⟨_, rfl, sz (by simp only [*, sM, sE, s1, s0, s110, s101, txt_cat, txt_len, cut_to, cut_from, cut_init, List.length_append, List.length_cons, List.length_nil, List.length_take, List.length_drop, List.length_dropLast, List.length_reverse]; omega), ?_⟩ | refine ⟨sz (by simp only [*, sM, sE, s1, s0, s110, s101, txt_cat, txt_len, cut_to, cut_from, cut_init, List.length_append, List.length_cons, List.length_nil, List.length_take, List.length_drop, List.length_dropLast, List.length_reverse]; omega), ?_⟩))
          intro q hq
          exact mk (r := (x, s, true)) (by rw [beforeH_no nc]; rfl) e1 hq
        | true =>
          (repeat (first | refine ⟨_, rfl, ?_⟩ | refine ⟨rfl, ?_⟩ | refine ⟨_, _, rfl, rfl, ?_⟩ | refine ⟨hz, ?_⟩ | refine ⟨(show 3 ≤ sizeLine by decide), ?_⟩ | refine ⟨(show 2 ≤ sizeLine by decide), ?_⟩ | refine ⟨by decide +kernel, ?_⟩ | refine ⟨.inl ⟨by decide, by decide⟩, ?_⟩ | refine .inl ⟨_, rfl, sz (by simp only [*, sM, sE, s1, s0, s110, s101, txt_cat, txt_len, cut_to, cut_from, cut_init, List.length_append, List.length_cons, List.length_nil, List.length_take, List.length_drop, List.length_dropLast, List.length_reverse]; omega), ?_⟩ | refine ⟨sz (by simp only [*, sM, sE, s1, s0, s110, s101, txt_cat, txt_len, cut_to, cut_from, cut_init, List.length_append, List.length_cons, List.length_nil, List.length_take, List.length_drop, List.length_dropLast, List.length_reverse]; omega), ?_⟩))
          refine ⟨by omega, fun H8 e8 => ?_⟩
          (repeat (first | refine ⟨_, rfl, ?_⟩ | refine ⟨rfl, ?_⟩ | refine ⟨_, _, rfl, rfl, ?_⟩ | refine ⟨hz, ?_⟩ | refine ⟨(show 3 ≤ sizeLine by decide), ?_⟩ | refine ⟨(show 2 ≤ sizeLine by decide), ?_⟩ | refine ⟨by decide +kernel, ?_⟩ | refine ⟨.inl ⟨by decide, by decide⟩, ?_⟩ | refine .inl ⟨_, rfl, sz (by simp only [*, sM, sE, s1, s0, s110, s101, txt_cat, txt_len, cut_to, cut_from, cut_init, List.length_append, List.length_cons, List.length_nil, List.length_take, List.length_drop, List.length_dropLast, List.length_reverse]; omega), ?_⟩ | refine ⟨sz (by simp only [*, sM, sE, s1, s0, s110, s101, txt_cat, txt_len, cut_to, cut_from, cut_init, List.length_append, List.length_cons, List.length_nil, List.length_take, List.length_drop, List.length_dropLast, List.length_reverse]; omega), ?_⟩))
          have eq1 : ∀ {n : Int}, n = (x.length : Nat) → (((((s : Nat) : Int) - 1) % (n + 1))) = (((((s : Nat) : Int) - 1) % ((x.length : Nat) + 1)).toNat : Nat) := fun h => by
            rw [h]
            exact (Int.toNat_of_nonneg (Int.emod_nonneg _ (by omega))).symm
          have e9 := Ex.trans e1 e8
          by_cases c1 : s = 1
          · rw [show decide (V.int ((s : Nat) : Int) = V.int 1) = true from decide_eq_true (by rw [c1]; rfl)]
            (repeat (first | refine ⟨_, rfl, ?_⟩ | refine ⟨rfl, ?_⟩ | refine ⟨_, _, rfl, rfl, ?_⟩ | refine ⟨hz, ?_⟩ | refine ⟨(show 3 ≤ sizeLine by decide), ?_⟩ | refine ⟨(show 2 ≤ sizeLine by decide), ?_⟩ | refine ⟨by decide +kernel, ?_⟩ | refine ⟨.inl ⟨by decide, by decide⟩, ?_⟩ | refine .inl ⟨_, rfl, sz (by simp only [*, sM, sE, s1, s0, s110, s101, txt_cat, txt_len, cut_to, cut_from, cut_init, List.length_append, List.length_cons, List.length_nil, List.length_take, List.length_drop, List.length_dropLast, List.length_reverse]; omega), ?_⟩ | refine ⟨sz (by simp only [*, sM, sE, s1, s0, s110, s101, txt_cat, txt_len, cut_to, cut_from, cut_init, List.length_append, List.length_cons, List.length_nil, List.length_take, List.length_drop, List.length_dropLast, List.length_reverse]; omega), ?_⟩))
            refine ⟨back x, f, ws, rfl, by omega, hf.ex e9, fun H3 e3 => ?_⟩
            cases cu : EM.under (Bm ws) (back x) with
            | some v =>
              (repeat (first | refine ⟨_, rfl, ?_⟩ | refine ⟨rfl, ?_⟩ | refine ⟨_, _, rfl, rfl, ?_⟩ | refine ⟨hz, ?_⟩ | refine ⟨(show 3 ≤ sizeLine by decide), ?_⟩ | refine ⟨(show 2 ≤ sizeLine by decide), ?_⟩ | refine ⟨by decide +kernel, ?_⟩ | refine ⟨.inl ⟨by decide, by decide⟩, ?_⟩ | refine .inl ⟨_, rfl, sz (by simp only [*, sM, sE, s1, s0, s110, s101, txt_cat, txt_len, cut_to, cut_from, cut_init, List.length_append, List.length_cons, List.length_nil, List.length_take, List.length_drop, List.length_dropLast, List.length_reverse]; omega), ?_⟩ | refine ⟨sz (by simp only [*, sM, sE, s1, s0, s110, s101, txt_cat, txt_len, cut_to, cut_from, cut_init, List.length_append, List.length_cons, List.length_nil, List.length_take, List.length_drop, List.length_dropLast, List.length_reverse]; omega), ?_⟩))
              intro q hq
              exact mk (r := (v, 0, false)) (by rw [beforeH_no nc, if_pos rfl, if_pos c1, cu]) (e9.trans e3) hq
            | none =>
              (repeat (first | refine ⟨_, rfl, ?_⟩ | refine ⟨rfl, ?_⟩ | refine ⟨_, _, rfl, rfl, ?_⟩ | refine ⟨hz, ?_⟩ | refine ⟨(show 3 ≤ sizeLine by decide), ?_⟩ | refine ⟨(show 2 ≤ sizeLine by decide), ?_⟩ | refine ⟨by decide +kernel, ?_⟩ | refine ⟨.inl ⟨by decide, by decide⟩, ?_⟩ | refine .inl ⟨_, rfl, sz (by simp only [*, sM, sE, s1, s0, s110, s101, txt_cat, txt_len, cut_to, cut_from, cut_init, List.length_append, List.length_cons, List.length_nil, List.length_take, List.length_drop, List.length_dropLast, List.length_reverse]; omega), ?_⟩ | refine ⟨sz (by simp only [*, sM, sE, s1, s0, s110, s101, txt_cat, txt_len, cut_to, cut_from, cut_init, List.length_append, List.length_cons, List.length_nil, List.length_take, List.length_drop, List.length_dropLast, List.length_reverse]; omega), ?_⟩))
              refine ⟨by show (0 : Int) < _; omega, ?_⟩
              (repeat (first | refine ⟨_, rfl, ?_⟩ | refine ⟨rfl, ?_⟩ | refine ⟨_, _, rfl, rfl, ?_⟩ | refine ⟨hz, ?_⟩ | refine ⟨(show 3 ≤ sizeLine by decide), ?_⟩ | refine ⟨(show 2 ≤ sizeLine by decide), ?_⟩ | refine ⟨by decide +kernel, ?_⟩ | refine ⟨.inl ⟨by decide, by decide⟩, ?_⟩ | refine .inl ⟨_, rfl, sz (by simp only [*, sM, sE, s1, s0, s110, s101, txt_cat, txt_len, cut_to, cut_from, cut_init, List.length_append, List.length_cons, List.length_nil, List.length_take, List.length_drop, List.length_dropLast, List.length_reverse]; omega), ?_⟩ | refine ⟨sz (by simp only [*, sM, sE, s1, s0, s110, s101, txt_cat, txt_len, cut_to, cut_from, cut_init, List.length_append, List.length_cons, List.length_nil, List.length_take, List.length_drop, List.length_dropLast, List.length_reverse]; omega), ?_⟩))
              intro q hq
              show Q (.ref q) (upd H3 q (.tup [.str (txt (back x)), .int ((((s : Nat) : Int) - 1) % (((txt x).length : Nat) + 1)), .bl false]))
              rw [eq1 (by rw [txt_len])]
              exact mk (r := (back x, _, false)) (by rw [beforeH_no nc, if_pos rfl, if_pos c1, cu]; rfl) (e9.trans e3) hq
          · rw [show decide (V.int ((s : Nat) : Int) = V.int 1) = false from decide_eq_false (fun z => c1 (by have := V.int.inj z; omega))]
            (repeat (first | refine ⟨_, rfl, ?_⟩ | refine ⟨rfl, ?_⟩ | refine ⟨_, _, rfl, rfl, ?_⟩ | refine ⟨hz, ?_⟩ | refine ⟨(show 3 ≤ sizeLine by decide), ?_⟩ | refine ⟨(show 2 ≤ sizeLine by decide), ?_⟩ | refine ⟨by decide +kernel, ?_⟩ | refine ⟨.inl ⟨by decide, by decide⟩, ?_⟩ | refine .inl ⟨_, rfl, sz (by simp only [*, sM, sE, s1, s0, s110, s101, txt_cat, txt_len, cut_to, cut_from, cut_init, List.length_append, List.length_cons, List.length_nil, List.length_take, List.length_drop, List.length_dropLast, List.length_reverse]; omega), ?_⟩ | refine ⟨sz (by simp only [*, sM, sE, s1, s0, s110, s101, txt_cat, txt_len, cut_to, cut_from, cut_init, List.length_append, List.length_cons, List.length_nil, List.length_take, List.length_drop, List.length_dropLast, List.length_reverse]; omega), ?_⟩))
            refine ⟨by show (0 : Int) < _; omega, ?_⟩
            (repeat (first | refine ⟨_, rfl, ?_⟩ | refine ⟨rfl, ?_⟩ | refine ⟨_, _, rfl, rfl, ?_⟩ | refine ⟨hz, ?_⟩ | refine ⟨(show 3 ≤ sizeLine by decide), ?_⟩ | refine ⟨(show 2 ≤ sizeLine by decide), ?_⟩ | refine ⟨by decide +kernel, ?_⟩ | refine ⟨.inl ⟨by decide, by decide⟩, ?_⟩ | refine .inl ⟨_, rfl, sz (by simp only [*, sM, sE, s1, s0, s110, s101, txt_cat, txt_len, cut_to, cut_from, cut_init, List.length_append, List.length_cons, List.length_nil, List.length_take, List.length_drop, List.length_dropLast, List.length_reverse]; omega), ?_⟩ | refine ⟨sz (by simp only [*, sM, sE, s1, s0, s110, s101, txt_cat, txt_len, cut_to, cut_from, cut_init, List.length_append, List.length_cons, List.length_nil, List.length_take, List.length_drop, List.length_dropLast, List.length_reverse]; omega), ?_⟩))
            intro q hq
            show Q (.ref q) (upd H8 q (.tup [.str (txt (back x)), .int ((((s : Nat) : Int) - 1) % (((txt x).length : Nat) + 1)), .bl false]))
            rw [eq1 (by rw [txt_len])]
            exact mk (r := (back x, _, false)) (by rw [beforeH_no nc, if_pos rfl, if_neg c1]; rfl) e9 hq
      · refine dF (show ¬ (1 : Int) ≤ (s : Nat) by omega) ?_
        (repeat (first | refine ⟨_, rfl, ?_⟩ | refine ⟨rfl, ?_⟩ | refine ⟨_, _, rfl, rfl, ?_⟩ | refine ⟨hz, ?_⟩ | refine ⟨(show 3 ≤ sizeLine by decide), ?_⟩ | refine ⟨(show 2 ≤ sizeLine by decide), ?_⟩ | refine ⟨by decide +kernel, ?_⟩ | refine ⟨.inl ⟨by decide, by decide⟩, ?_⟩ | refine .inl ⟨_, rfl, sz (by simp only [*, sM, sE, s1, s0, s110, s101, txt_cat, txt_len, cut_to, cut_from, cut_init, List.length_append, List.length_cons, List.length_nil, List.length_take, List.length_drop, List.length_dropLast, List.length_reverse]; omega), ?_⟩ | refine ⟨sz (by simp only [*, sM, sE, s1, s0, s110, s101, txt_cat, txt_len, cut_to, cut_from, cut_init, List.length_append, List.length_cons, List.length_nil, List.length_take, List.length_drop, List.length_dropLast, List.length_reverse]; omega), ?_⟩))
        have nc : ¬ ((1 ≤ s ∧ s ≤ 3) ∧ Bm ws (tt x (-(s : Int))) = true) := fun z => h1 z.1
        have e1 : Ex K H H := .refl
        cases u with
        | false =>
          (repeat (first | refine ⟨_, rfl, ?_⟩ | refine ⟨rfl, ?_⟩ | refine ⟨_, _, rfl, rfl, ?_⟩ | refine ⟨hz, ?_⟩ | refine ⟨(show 3 ≤ sizeLine by decide), ?_⟩ | refine ⟨(show 2 ≤ sizeLine by decide), ?_⟩ | refine ⟨by decide +kernel, ?_⟩ | refine ⟨.inl ⟨by decide, by decide⟩, ?_⟩ | refine .inl ⟨_, rfl, sz (by simp only [*, sM, sE, s1, s0, s110, s101, txt_cat, txt_len, cut_to, cut_from, cut_init, List.length_append, List.length_cons, List.length_nil, List.length_take, List.length_drop, List.length_dropLast, List.length_reverse]; omega), ?_⟩ | refine ⟨sz (by simp only [*, sM, sE, s1, s0, s110, s101, txt_cat, txt_len, cut_to, cut_from, cut_init, List.length_append, List.length_cons, List.length_nil, List.length_take, List.length_drop, List.length_dropLast, List.length_reverse]; omega), ?_⟩))
          intro q hq
          exact mk (r := (x, s, true)) (by rw [beforeH_no nc]; rfl) e1 hq
        | true =>
          (repeat (first | refine ⟨_, rfl, ?_⟩ | refine ⟨rfl, ?_⟩ | refine ⟨_, _, rfl, rfl, ?_⟩ | refine ⟨hz, ?_⟩ | refine ⟨(show 3 ≤ sizeLine by decide), ?_⟩ | refine ⟨(show 2 ≤ sizeLine by decide), ?_⟩ | refine ⟨by decide +kernel, ?_⟩ | refine ⟨.inl ⟨by decide, by decide⟩, ?_⟩ | refine .inl ⟨_, rfl, sz (by simp only [*, sM, sE, s1, s0, s110, s101, txt_cat, txt_len, cut_to, cut_from, cut_init, List.length_append, List.length_cons, List.length_nil, List.length_take, List.length_drop, List.length_dropLast, List.length_reverse]; omega), ?_⟩ | refine ⟨sz (by simp only [*, sM, sE, s1, s0, s110, s101, txt_cat, txt_len, cut_to, cut_from, cut_init, List.length_append, List.length_cons, List.length_nil, List.length_take, List.length_drop, List.length_dropLast, List.length_reverse]; omega), ?_⟩))
          refine ⟨by omega, fun H8 e8 => ?_⟩
          (repeat (first | refine ⟨_, rfl, ?_⟩ | refine ⟨rfl, ?_⟩ | refine ⟨_, _, rfl, rfl, ?_⟩ | refine ⟨hz, ?_⟩ | refine ⟨(show 3 ≤ sizeLine by decide), ?_⟩ | refine ⟨(show 2 ≤ sizeLine by decide), ?_⟩ | refine ⟨by decide +kernel, ?_⟩ | refine ⟨.inl ⟨by decide, by decide⟩, ?_⟩ | refine .inl ⟨_, rfl, sz (by simp only [*, sM, sE, s1, s0, s110, s101, txt_cat, txt_len, cut_to, cut_from, cut_init, List.length_append, List.length_cons, List.length_nil, List.length_take, List.length_drop, List.length_dropLast, List.length_reverse]; omega), ?_⟩ | refine ⟨sz (by simp only [*, sM, sE, s1, s0, s110, s101, txt_cat, txt_len, cut_to, cut_from, cut_init, List.length_append, List.length_cons, List.length_nil, List.length_take, List.length_drop, List.length_dropLast, List.length_reverse]; omega), ?_⟩))
          have eq1 : ∀ {n : Int}, n = (x.length : Nat) → (((((s : Nat) : Int) - 1) % (n + 1))) = (((((s : Nat) : Int) - 1) % ((x.length : Nat) + 1)).toNat : Nat) := fun h => by
            rw [h]
            exact (Int.toNat_of_nonneg (Int.emod_nonneg _ (by omega))).symm
          have e9 := Ex.trans e1 e8
          by_cases c1 : s = 1
          · rw [show decide (V.int ((s : Nat) : Int) = V.int 1) = true from decide_eq_true (by rw [c1]; rfl)]
            (repeat (first | refine ⟨_, rfl, ?_⟩ | refine ⟨rfl, ?_⟩ | refine ⟨_, _, rfl, rfl, ?_⟩ | refine ⟨hz, ?_⟩ | refine ⟨(show 3 ≤ sizeLine by decide), ?_⟩ | refine ⟨(show 2 ≤ sizeLine by decide), ?_⟩ | refine ⟨by decide +kernel, ?_⟩ | refine ⟨.inl ⟨by decide, by decide⟩, ?_⟩ | refine .inl ⟨_, rfl, sz (by simp only [*, sM, sE, s1, s0, s110, s101, txt_cat, txt_len, cut_to, cut_from, cut_init, List.length_append, List.length_cons, List.length_nil, List.length_take, List.length_drop, List.length_dropLast, List.length_reverse]; omega), ?_⟩ | refine ⟨sz (by simp only [*, sM, sE, s1, s0, s110, s101, txt_cat, txt_len, cut_to, cut_from, cut_init, List.length_append, List.length_cons, List.length_nil, List.length_take, List.length_drop, List.length_dropLast, List.length_reverse]; omega), ?_⟩))
            refine ⟨back x, f, ws, rfl, by omega, hf.ex e9, fun H3 e3 => ?_⟩
            cases cu : EM.under (Bm ws) (back x) with
            | some v =>
              (repeat (first | refine ⟨_, rfl, ?_⟩ | refine ⟨rfl, ?_⟩ | refine ⟨_, _, rfl, rfl, ?_⟩ | refine ⟨hz, ?_⟩ | refine ⟨(show 3 ≤ sizeLine by decide), ?_⟩ | refine ⟨(show 2 ≤ sizeLine by decide), ?_⟩ | refine ⟨by decide +kernel, ?_⟩ | refine ⟨.inl ⟨by decide, by decide⟩, ?_⟩ | refine .inl ⟨_, rfl, sz (by simp only [*, sM, sE, s1, s0, s110, s101, txt_cat, txt_len, cut_to, cut_from, cut_init, List.length_append, List.length_cons, List.length_nil, List.length_take, List.length_drop, List.length_dropLast, List.length_reverse]; omega), ?_⟩ | refine ⟨sz (by simp only [*, sM, sE, s1, s0, s110, s101, txt_cat, txt_len, cut_to, cut_from, cut_init, List.length_append, List.length_cons, List.length_nil, List.length_take, List.length_drop, List.length_dropLast, List.length_reverse]; omega), ?_⟩))
              intro q hq
              exact mk (r := (v, 0, false)) (by rw [beforeH_no nc, if_pos rfl, if_pos c1, cu]) (e9.trans e3) hq
            | none =>
              (repeat (first | refine ⟨_, rfl, ?_⟩ | refine ⟨rfl, ?_⟩ | refine ⟨_, _, rfl, rfl, ?_⟩ | refine ⟨hz, ?_⟩ | refine ⟨(show 3 ≤ sizeLine by decide), ?_⟩ | refine ⟨(show 2 ≤ sizeLine by decide), ?_⟩ | refine ⟨by decide +kernel, ?_⟩ | refine ⟨.inl ⟨by decide, by decide⟩, ?_⟩ | refine .inl ⟨_, rfl, sz (by simp only [*, sM, sE, s1, s0, s110, s101, txt_cat, txt_len, cut_to, cut_from, cut_init, List.length_append, List.length_cons, List.length_nil, List.length_take, List.length_drop, List.length_dropLast, List.length_reverse]; omega), ?_⟩ | refine ⟨sz (by simp only [*, sM, sE, s1, s0, s110, s101, txt_cat, txt_len, cut_to, cut_from, cut_init, List.length_append, List.length_cons, List.length_nil, List.length_take, List.length_drop, List.length_dropLast, List.length_reverse]; omega), ?_⟩))
              refine ⟨by show (0 : Int) < _; omega, ?_⟩
              (repeat (first | refine ⟨_, rfl, ?_⟩ | refine ⟨rfl, ?_⟩ | refine ⟨_, _, rfl, rfl, ?_⟩ | refine ⟨hz, ?_⟩ | refine ⟨(show 3 ≤ sizeLine by decide), ?_⟩ | refine ⟨(show 2 ≤ sizeLine by decide), ?_⟩ | refine ⟨by decide +kernel, ?_⟩ | refine ⟨.inl ⟨by decide, by decide⟩, ?_⟩ | refine .inl ⟨_, rfl, sz (by simp only [*, sM, sE, s1, s0, s110, s101, txt_cat, txt_len, cut_to, cut_from, cut_init, List.length_append, List.length_cons, List.length_nil, List.length_take, List.length_drop, List.length_dropLast, List.length_reverse]; omega), ?_⟩ | refine ⟨sz (by simp only [*, sM, sE, s1, s0, s110, s101, txt_cat, txt_len, cut_to, cut_from, cut_init, List.length_append, List.length_cons, List.length_nil, List.length_take, List.length_drop, List.length_dropLast, List.length_reverse]; omega), ?_⟩))
              intro q hq
              show Q (.ref q) (upd H3 q (.tup [.str (txt (back x)), .int ((((s : Nat) : Int) - 1) % (((txt x).length : Nat) + 1)), .bl false]))
              rw [eq1 (by rw [txt_len])]
              exact mk (r := (back x, _, false)) (by rw [beforeH_no nc, if_pos rfl, if_pos c1, cu]; rfl) (e9.trans e3) hq
          · rw [show decide (V.int ((s : Nat) : Int) = V.int 1) = false from decide_eq_false (fun z => c1 (by have := V.int.inj z; omega))]
            (repeat (first | refine ⟨_, rfl, ?_⟩ | refine ⟨rfl, ?_⟩ | refine ⟨_, _, rfl, rfl, ?_⟩ | refine ⟨hz, ?_⟩ | refine ⟨(show 3 ≤ sizeLine by decide), ?_⟩ | refine ⟨(show 2 ≤ sizeLine by decide), ?_⟩ | refine ⟨by decide +kernel, ?_⟩ | refine ⟨.inl ⟨by decide, by decide⟩, ?_⟩ | refine .inl ⟨_, rfl, sz (by simp only [*, sM, sE, s1, s0, s110, s101, txt_cat, txt_len, cut_to, cut_from, cut_init, List.length_append, List.length_cons, List.length_nil, List.length_take, List.length_drop, List.length_dropLast, List.length_reverse]; omega), ?_⟩ | refine ⟨sz (by simp only [*, sM, sE, s1, s0, s110, s101, txt_cat, txt_len, cut_to, cut_from, cut_init, List.length_append, List.length_cons, List.length_nil, List.length_take, List.length_drop, List.length_dropLast, List.length_reverse]; omega), ?_⟩))
            refine ⟨by show (0 : Int) < _; omega, ?_⟩
            (repeat (first | refine ⟨_, rfl, ?_⟩ | refine ⟨rfl, ?_⟩ | refine ⟨_, _, rfl, rfl, ?_⟩ | refine ⟨hz, ?_⟩ | refine ⟨(show 3 ≤ sizeLine by decide), ?_⟩ | refine ⟨(show 2 ≤ sizeLine by decide), ?_⟩ | refine ⟨by decide +kernel, ?_⟩ | refine ⟨.inl ⟨by decide, by decide⟩, ?_⟩ | refine .inl ⟨_, rfl, sz (by simp only [*, sM, sE, s1, s0, s110, s101, txt_cat, txt_len, cut_to, cut_from, cut_init, List.length_append, List.length_cons, List.length_nil, List.length_take, List.length_drop, List.length_dropLast, List.length_reverse]; omega), ?_⟩ | refine ⟨sz (by simp only [*, sM, sE, s1, s0, s110, s101, txt_cat, txt_len, cut_to, cut_from, cut_init, List.length_append, List.length_cons, List.length_nil, List.length_take, List.length_drop, List.length_dropLast, List.length_reverse]; omega), ?_⟩))
            intro q hq
            show Q (.ref q) (upd H8 q (.tup [.str (txt (back x)), .int ((((s : Nat) : Int) - 1) % (((txt x).length : Nat) + 1)), .bl false]))
            rw [eq1 (by rw [txt_len])]
            exact mk (r := (back x, _, false)) (by rw [beforeH_no nc, if_pos rfl, if_neg c1]; rfl) e9 hq
end
end EH

set_option Elab.async false
set_option linter.all false
set_option maxRecDepth 100000
set_option maxHeartbeats 4000000
namespace EH
open PySem PySem.Spec PyProof.Rows L2 LamX EL EM
theorem homeIn_len (x : W) : (homeIn x).1.length = x.length - 1 := by
  unfold homeIn
  split
  · show (exch (lowHome (exch x.reverse)).1.reverse).length = _
    rw [exch_len, List.length_reverse, lowHome_len, exch_len, List.length_reverse]
  · exact lowHome_len x
theorem homeIn_lt {x : W} (h : 0 < x.length) : (homeIn x).2 < x.length := by
  unfold homeIn
  split
  · have a := Int.emod_lt_of_pos (1 - ((lowHome (exch x.reverse)).2 : Int)) (show (0 : Int) < (x.length : Nat) by omega)
    have b := Int.emod_nonneg (1 - ((lowHome (exch x.reverse)).2 : Int)) (show ((x.length : Nat) : Int) ≠ 0 by omega)
    show ((1 - ((lowHome (exch x.reverse)).2 : Int)) % x.length).toNat < x.length
    omega
  · exact Nat.mod_lt _ h
theorem homeOf_len (x : W) : (homeOf x).1.length = x.length - 1 := homeIn_len x
theorem nextH_le (B : W → Bool) (x : W) (s : Nat) (u : Bool) : (nextH B (x, s, u)).1.length ≤ x.length + 20 := by
  have h1 := turn_le2 x
  have h2 := back_le2 x
  have h3 := pulled_le x
  have h4 := turn_le2 (pulled x)
  cases cs : stretch B (x, s, u) with
  | some g =>
    have h5 := stretch_le cs
    have h6 := tt_le g 3
    have e : (3 : Int).natAbs = 3 := rfl
    unfold nextH
    rw [cs]
    show (if u = true then (if s = 1 then (tt g 3, 3, false) else (back x, s - 1, false)) else (x, s, true) : Ho).1.length ≤ _
    split
    · split
      · show (tt g 3).length ≤ _; omega
      · show (back x).length ≤ _; omega
    · show x.length ≤ _; omega
  | none =>
    unfold nextH
    rw [cs]
    show (if s = 0 ∧ u = false then (match EM.under B x with
      | some u => (tt u 3, 3, true)
      | none => (turn (if B x then pulled x else x), 1, true))
      else if u then (x, s, false) else (turn x, (s + 1) % (x.length + 1), true) : Ho).1.length ≤ _
    split
    · cases cu : EM.under B x with
      | some v =>
        have h5 := under_le cu
        have h6 := tt_le v 3
        have e : (3 : Int).natAbs = 3 := rfl
        show (tt v 3).length ≤ _
        omega
      | none =>
        show (turn (if B x then pulled x else x)).length ≤ _
        split <;> omega
    · split
      · show x.length ≤ _; omega
      · show (turn x).length ≤ _; omega
theorem beforeH_le (B : W → Bool) (x : W) (s : Nat) (u : Bool) : (beforeH B (x, s, u)).1.length ≤ x.length + 20 := by
  have h1 := turn_le2 x
  have h2 := back_le2 x
  by_cases c : (1 ≤ s ∧ s ≤ 3) ∧ B (tt x (-(s : Int))) = true
  · have h3 := tt_le x (-(s : Int))
    have h4 := turn_le2 (tt x (-(s : Int)))
    have h5 := pulled_le (tt x (-(s : Int)))
    rw [beforeH_yes c]
    split
    · split
      · show (pulled (tt x (-(s : Int)))).length ≤ _; omega
      · show (turn (tt x (-(s : Int)))).length ≤ _; omega
    · split
      · show x.length ≤ _; omega
      · show (turn x).length ≤ _; omega
  · rw [beforeH_no c]
    split
    · split
      · show (back x).length ≤ _; omega
      · rename_i v h
        split at h
        · have := under_le h
          show v.length ≤ _; omega
        · cases h
    · show x.length ≤ _; omega
section
variable {Pg : Program} {w : World} {K : PySem.W.Frag} {mg : Str → Option Value} {base : Heap}
def N_next_in : List Str := ["state", "is_sewn", "home"]
theorem sc_next_in : FnScope N_next_in ["state", "is_sewn"] (defScope s_next_in) := ⟨rfl, rfl, rfl, by decide +kernel, rfl, by decide +kernel, by decide +kernel⟩
def sp_next_in (K : PySem.W.Frag) : Sp := fun vs H Q _ => ∃ (x : W) (f : Addr) (ws : List W), vs = [.str (txt x), .ref f] ∧ StOk x ∧ Sewn K H f ws ∧ Gives K (.str (txt (stateIn (nextH (Bm ws) (homeOf x))))) H Q
theorem c_next_in (T : Tx K mg) : Cl Pg w K mg base 6 "next_in" (sp_next_in K) :=
  have c_home_of_state := c_home_of_state (Pg := Pg) (w := w) (base := base) T
  have c_next_home := c_next_home (Pg := Pg) (w := w) (base := base) T
  have c_state_in := c_state_in (Pg := Pg) (w := w) (base := base) T
  calD T.g_next_in T.f_next_in sc_next_in (fun _ _ _ _ _ _ us hl => match us, hl with | [_, _], _ => rfl) (fun vs H Q E h => by obtain ⟨i, _, _, rfl, _⟩ := h; rfl) fun cdv A outer st H vs Q E hr h => by
    obtain ⟨x, f, ws, rfl, hs, hf, hQ⟩ := h
    have hl := homeOf_len x
    have hl2 := hs.hi
    refine ⟨_, (pss_cons (ps_set (i := 2) sc_next_in.nd rfl (Or.inl rfl) (C8.pe_c c_next_home hr (by decide) (by rfl) (pa_cons (C8.pe_c c_home_of_state hr (by decide) (by rfl) (pa_cons (pv 0) pa_nil)) (pa_cons (pv 1) pa_nil))))
      (pss_one (ps_ret (pe_star c_state_in hr (by decide) (by rfl) (pv 2))))), ?_⟩
    refine ⟨_, rfl, x, rfl, hs, fun p H1 e1 hp h1 => ?_⟩
    have hf1 := hf.ex e1
    refine ⟨_, rfl, p, homeOf x, f, ws, rfl, h1, by omega, hf1, fun p' H2 e2 hp' h2 => ?_⟩
    refine ⟨_, rfl, p', _, rfl, .inl (.inl (.inl h2)), _, _, _, rfl, ?_, fun H3 e3 => hQ H3 ((e1.trans e2).trans e3)⟩
    have := nextH_le (Bm ws) (homeOf x).1 (homeOf x).2.1 (homeOf x).2.2
    show (nextH (Bm ws) (homeOf x)).1.length ≤ 900
    have e : ((homeOf x).1, (homeOf x).2.1, (homeOf x).2.2) = homeOf x := rfl
    rw [e] at this
    omega
def N_before_in : List Str := ["state", "is_sewn", "home"]
theorem sc_before_in : FnScope N_before_in ["state", "is_sewn"] (defScope s_before_in) := ⟨rfl, rfl, rfl, by decide +kernel, rfl, by decide +kernel, by decide +kernel⟩
def sp_before_in (K : PySem.W.Frag) : Sp := fun vs H Q _ => ∃ (x : W) (f : Addr) (ws : List W), vs = [.str (txt x), .ref f] ∧ StOk x ∧ Sewn K H f ws ∧ Gives K (.str (txt (stateIn (beforeH (Bm ws) (homeOf x))))) H Q
theorem c_before_in (T : Tx K mg) : Cl Pg w K mg base 6 "before_in" (sp_before_in K) :=
  have c_home_of_state := c_home_of_state (Pg := Pg) (w := w) (base := base) T
  have c_before_home := c_before_home (Pg := Pg) (w := w) (base := base) T
  have c_state_in := c_state_in (Pg := Pg) (w := w) (base := base) T
  calD T.g_before_in T.f_before_in sc_before_in (fun _ _ _ _ _ _ us hl => match us, hl with | [_, _], _ => rfl) (fun vs H Q E h => by obtain ⟨i, _, _, rfl, _⟩ := h; rfl) fun cdv A outer st H vs Q E hr h => by
    obtain ⟨x, f, ws, rfl, hs, hf, hQ⟩ := h
    have hl := homeOf_len x
    have hl2 := hs.hi
    refine ⟨_, (pss_cons (ps_set (i := 2) sc_before_in.nd rfl (Or.inl rfl) (C8.pe_c c_before_home hr (by decide) (by rfl) (pa_cons (C8.pe_c c_home_of_state hr (by decide) (by rfl) (pa_cons (pv 0) pa_nil)) (pa_cons (pv 1) pa_nil))))
      (pss_one (ps_ret (pe_star c_state_in hr (by decide) (by rfl) (pv 2))))), ?_⟩
    refine ⟨_, rfl, x, rfl, hs, fun p H1 e1 hp h1 => ?_⟩
    have hf1 := hf.ex e1
    refine ⟨_, rfl, p, homeOf x, f, ws, rfl, h1, by omega, hf1, fun p' H2 e2 hp' h2 => ?_⟩
    refine ⟨_, rfl, p', _, rfl, .inl (.inl (.inl h2)), _, _, _, rfl, ?_, fun H3 e3 => hQ H3 ((e1.trans e2).trans e3)⟩
    have := beforeH_le (Bm ws) (homeOf x).1 (homeOf x).2.1 (homeOf x).2.2
    show (beforeH (Bm ws) (homeOf x)).1.length ≤ 900
    have e : ((homeOf x).1, (homeOf x).2.1, (homeOf x).2.2) = homeOf x := rfl
    rw [e] at this
    omega
def N_post_in : List Str := ["state", "is_sewn", "home", "word", "shift", "is_up", "first"]
theorem sc_post_in : FnScope N_post_in ["state", "is_sewn"] (defScope s_post_in) := ⟨rfl, rfl, rfl, by decide +kernel, rfl, by decide +kernel, by decide +kernel⟩
def sp_post_in (K : PySem.W.Frag) : Sp := fun vs H Q _ => ∃ (x : W) (f : Addr) (ws : List W), vs = [.str (txt x), .ref f] ∧ StOk x ∧ x.length ≤ 200 ∧ Sewn K H f ws ∧ ∀ p H', Ex K H H' → H p = none → H' p = some (.tup [.str (txt (postH (Bm ws) (homeOf x)).1), .int ((postH (Bm ws) (homeOf x)).2 : Nat)]) → Q (.ref p) H'
theorem c_post_in (T : Tx K mg) : Cl Pg w K mg base 6 "post_in" (sp_post_in K) :=
  have c_home_of_state := c_home_of_state (Pg := Pg) (w := w) (base := base) T
  have c_swapped_in := c_swapped_in (Pg := Pg) (w := w) (base := base) T
  have c_back_in := c_back_in (Pg := Pg) (w := w) (base := base) T
  have c_wide_of := c_wide_of (Pg := Pg) (w := w) (base := base) T
  have c_stretch_word := c_stretch_word (Pg := Pg) (w := w) (base := base) T
  have c_pulled_in := c_pulled_in (Pg := Pg) (w := w) (base := base) T
  have c_turned_times := c_turned_times (Pg := Pg) (w := w) (base := base) T
  calD T.g_post_in T.f_post_in sc_post_in (fun _ _ _ _ _ _ us hl => match us, hl with | [_, _], _ => rfl) (fun vs H Q E h => by obtain ⟨i, _, _, rfl, _⟩ := h; rfl) fun cdv A outer st H vs Q E hr h => by
    obtain ⟨x0, f, ws, rfl, hs, h200, hf, hQ⟩ := h
    have hlt := homeIn_lt (x := x0) (by have := hs.lo; omega)
    have hl := homeOf_len x0
    have hl2 := hs.hi
    obtain ⟨x, s, u, eh⟩ : ∃ x s u, homeOf x0 = (x, s, u) := ⟨_, _, _, rfl⟩
    have hlt : s < x0.length := by have : (homeOf x0).2.1 < x0.length := hlt; rw [eh] at this; exact this
    rw [eh] at hl hQ
    have hl : x.length = x0.length - 1 := hl
    have hb := back_le2 x
    have ht := tt_le x (-(s : Int))
    refine ⟨_, (pss_cons (ps_set (i := 2) sc_post_in.nd rfl (Or.inl rfl) (C8.pe_c c_home_of_state hr (by decide) (by rfl) (pa_cons (pv 0) pa_nil)))
      (pss_cons (ps_asg (pv 2) (pg_tup rfl (pgs_cons (pg_name (i := 3) sc_post_in.nd rfl (Or.inl rfl)) (pgs_cons (pg_name (i := 4) sc_post_in.nd rfl (Or.inl rfl)) (pgs_cons (pg_name (i := 5) sc_post_in.nd rfl (Or.inl rfl)) pgs_nil)))))
      (pss_cons (ps_if (pt_cmpR op_eq (pv 4) pe_int (nomark _)) (pss_one (ps_ret (pe_ifExp (pt_val (pv 5)) (pe_tup (pa_cons (C8.pe_c c_swapped_in hr (by decide) (by rfl) (pa_cons (C8.pe_c c_back_in hr (by decide) (by rfl) (pa_cons (pv 3) pa_nil)) (pa_cons (pv 1) pa_nil))) (pa_cons (pe_op op_sub (C8.pe_c c_wide_of hr (by decide) (by rfl) (pa_cons (pv 3) pa_nil)) pe_int) pa_nil))) (pe_tup (pa_cons (pv 3) (pa_cons pe_int pa_nil)))))) pss_nil)
      (pss_cons (ps_set (i := 6) sc_post_in.nd rfl (Or.inl rfl) (C8.pe_c c_stretch_word hr (by decide) (by rfl) (pa_cons (pv 2) (pa_cons (pv 1) pa_nil))))
      (pss_cons (ps_if (pt_cmpR op_notN (pv 6) pe_non (nomark _)) (pss_one (ps_ret (pe_tup (pa_cons (C8.pe_c c_pulled_in hr (by decide) (by rfl) (pa_cons (pv 6) pa_nil)) (pa_cons (pe_op op_sub (pe_op op_add pe_int (pe_callTy call_int1 (by rfl) T.n_int (by decide +kernel) (pa_cons (pv 5) pa_nil))) (pe_op op_mul pe_int (pv 4))) pa_nil))))) pss_nil)
      (pss_one (ps_ret (pe_tup (pa_cons (C8.pe_c c_swapped_in hr (by decide) (by rfl) (pa_cons (C8.pe_c c_turned_times hr (by decide) (by rfl) (pa_cons (pv 3) (pa_cons (pe_un un_neg (pv 4)) pa_nil))) (pa_cons (pv 1) pa_nil))) (pa_cons (pe_op op_sub (pe_op op_mul pe_int (pv 4)) (pe_callTy call_int1 (by rfl) T.n_int (by decide +kernel) (pa_cons (pv 5) pa_nil))) pa_nil)))))))))), ?_⟩
    refine ⟨_, rfl, x0, rfl, hs, fun p H1 e1 hp h1 => ?_⟩
    have hf1 := hf.ex e1
    rw [eh] at h1
    have h1 : H1 p = some (.tup [.str (txt x), .int (s : Nat), .bl u]) := h1
    have mk : ∀ {r : W × Nat} {H' : Hp} {q : Addr}, postH (Bm ws) (x, s, u) = r → Ex K H H' → H' q = none → Q (.ref q) (upd H' q (.tup [.str (txt r.1), .int (r.2 : Nat)])) := fun er e hq => hQ _ _ (e.trans (Ex.new hq)) (e.free hq) (by rw [er]; exact upd_same)
    refine ⟨_, rfl, p, _, rfl, .inl (.inl h1), rfl, _, _, rfl, _, _, rfl, _, _, rfl, rfl, ?_⟩
    by_cases c : s = 0
    · subst c
      cases u with
      | true =>
        (repeat (first | refine ⟨_, rfl, ?_⟩ | refine ⟨rfl, ?_⟩ | refine ⟨_, _, rfl, rfl, ?_⟩ | refine ⟨hz, ?_⟩ | refine ⟨(show 3 ≤ sizeLine by decide), ?_⟩ | refine ⟨(show 2 ≤ sizeLine by decide), ?_⟩ | refine ⟨by decide +kernel, ?_⟩ | refine ⟨.inl ⟨by decide, by decide⟩, ?_⟩ | refine .inl ⟨_, rfl, sz (by simp only [*, sM, sE, s1, s0, s110, s101, txt_cat, txt_len, cut_to, cut_from, cut_init, List.length_append, List.length_cons, List.length_nil, List.length_take, List.length_drop, List.length_dropLast, List.length_reverse]; omega), ?_⟩ | refine ⟨sz (by simp only [*, sM, sE, s1, s0, s110, s101, txt_cat, txt_len, cut_to, cut_from, cut_init, List.length_append, List.length_cons, List.length_nil, List.length_take, List.length_drop, List.length_dropLast, List.length_reverse]; omega), ?_⟩))
        refine ⟨by omega, fun H2 e2 => ?_⟩
        refine ⟨_, rfl, back x, f, ws, rfl, by omega, hf1.ex e2, fun H3 e3 => ?_⟩
        (repeat (first | refine ⟨_, rfl, ?_⟩ | refine ⟨rfl, ?_⟩ | refine ⟨_, _, rfl, rfl, ?_⟩ | refine ⟨hz, ?_⟩ | refine ⟨(show 3 ≤ sizeLine by decide), ?_⟩ | refine ⟨(show 2 ≤ sizeLine by decide), ?_⟩ | refine ⟨by decide +kernel, ?_⟩ | refine ⟨.inl ⟨by decide, by decide⟩, ?_⟩ | refine .inl ⟨_, rfl, sz (by simp only [*, sM, sE, s1, s0, s110, s101, txt_cat, txt_len, cut_to, cut_from, cut_init, List.length_append, List.length_cons, List.length_nil, List.length_take, List.length_drop, List.length_dropLast, List.length_reverse]; omega), ?_⟩ | refine ⟨sz (by simp only [*, sM, sE, s1, s0, s110, s101, txt_cat, txt_len, cut_to, cut_from, cut_init, List.length_append, List.length_cons, List.length_nil, List.length_take, List.length_drop, List.length_dropLast, List.length_reverse]; omega), ?_⟩))
        refine ⟨by omega, fun H4 e4 => ?_⟩
        (repeat (first | refine ⟨_, rfl, ?_⟩ | refine ⟨rfl, ?_⟩ | refine ⟨_, _, rfl, rfl, ?_⟩ | refine ⟨hz, ?_⟩ | refine ⟨(show 3 ≤ sizeLine by decide), ?_⟩ | refine ⟨(show 2 ≤ sizeLine by decide), ?_⟩ | refine ⟨by decide +kernel, ?_⟩ | refine ⟨.inl ⟨by decide, by decide⟩, ?_⟩ | refine .inl ⟨_, rfl, sz (by simp only [*, sM, sE, s1, s0, s110, s101, txt_cat, txt_len, cut_to, cut_from, cut_init, List.length_append, List.length_cons, List.length_nil, List.length_take, List.length_drop, List.length_dropLast, List.length_reverse]; omega), ?_⟩ | refine ⟨sz (by simp only [*, sM, sE, s1, s0, s110, s101, txt_cat, txt_len, cut_to, cut_from, cut_init, List.length_append, List.length_cons, List.length_nil, List.length_take, List.length_drop, List.length_dropLast, List.length_reverse]; omega), ?_⟩))
        intro q hq
        show Q (.ref q) (upd H4 q (.tup [.str (txt (swapped (Bm ws) (back x))), .int (((wide x : Nat) : Int) - 1)]))
        rw [show (((wide x : Nat) : Int) - 1) = ((wide x - 1 : Nat) : Int) by unfold wide; omega]
        exact mk (r := (swapped (Bm ws) (back x), wide x - 1)) rfl (((e1.trans e2).trans e3).trans e4) hq
      | false =>
        (repeat (first | refine ⟨_, rfl, ?_⟩ | refine ⟨rfl, ?_⟩ | refine ⟨_, _, rfl, rfl, ?_⟩ | refine ⟨hz, ?_⟩ | refine ⟨(show 3 ≤ sizeLine by decide), ?_⟩ | refine ⟨(show 2 ≤ sizeLine by decide), ?_⟩ | refine ⟨by decide +kernel, ?_⟩ | refine ⟨.inl ⟨by decide, by decide⟩, ?_⟩ | refine .inl ⟨_, rfl, sz (by simp only [*, sM, sE, s1, s0, s110, s101, txt_cat, txt_len, cut_to, cut_from, cut_init, List.length_append, List.length_cons, List.length_nil, List.length_take, List.length_drop, List.length_dropLast, List.length_reverse]; omega), ?_⟩ | refine ⟨sz (by simp only [*, sM, sE, s1, s0, s110, s101, txt_cat, txt_len, cut_to, cut_from, cut_init, List.length_append, List.length_cons, List.length_nil, List.length_take, List.length_drop, List.length_dropLast, List.length_reverse]; omega), ?_⟩))
        intro q hq
        exact mk (r := (x, 0)) rfl e1 hq
    · refine ⟨_, rfl, rfl, ?_⟩
      rw [show decide (V.int ((s : Nat) : Int) = V.int 0) = false from decide_eq_false (fun z => c (by have := V.int.inj z; omega))]
      refine ⟨_, rfl, _, rfl, _, rfl, p, (x, s, u), f, ws, rfl, h1, by show x.length ≤ 850; omega, hf1, fun H2 e2 => ?_⟩
      have hf2 := hf1.ex e2
      cases cs : stretch (Bm ws) (x, s, u) with
      | some g =>
        obtain ⟨g1, g2, g3, g4, g5⟩ := stretch_some cs
        have g6 := stretch_le cs
        (repeat (first | refine ⟨_, rfl, ?_⟩ | refine ⟨rfl, ?_⟩ | refine ⟨_, _, rfl, rfl, ?_⟩ | refine ⟨hz, ?_⟩ | refine ⟨(show 3 ≤ sizeLine by decide), ?_⟩ | refine ⟨(show 2 ≤ sizeLine by decide), ?_⟩ | refine ⟨by decide +kernel, ?_⟩ | refine ⟨.inl ⟨by decide, by decide⟩, ?_⟩ | refine .inl ⟨_, rfl, sz (by simp only [*, sM, sE, s1, s0, s110, s101, txt_cat, txt_len, cut_to, cut_from, cut_init, List.length_append, List.length_cons, List.length_nil, List.length_take, List.length_drop, List.length_dropLast, List.length_reverse]; omega), ?_⟩ | refine ⟨sz (by simp only [*, sM, sE, s1, s0, s110, s101, txt_cat, txt_len, cut_to, cut_from, cut_init, List.length_append, List.length_cons, List.length_nil, List.length_take, List.length_drop, List.length_dropLast, List.length_reverse]; omega), ?_⟩))
        refine ⟨by omega, fun H3 e3 => ?_⟩
        (repeat (first | refine ⟨_, rfl, ?_⟩ | refine ⟨rfl, ?_⟩ | refine ⟨_, _, rfl, rfl, ?_⟩ | refine ⟨hz, ?_⟩ | refine ⟨(show 3 ≤ sizeLine by decide), ?_⟩ | refine ⟨(show 2 ≤ sizeLine by decide), ?_⟩ | refine ⟨by decide +kernel, ?_⟩ | refine ⟨.inl ⟨by decide, by decide⟩, ?_⟩ | refine .inl ⟨_, rfl, sz (by simp only [*, sM, sE, s1, s0, s110, s101, txt_cat, txt_len, cut_to, cut_from, cut_init, List.length_append, List.length_cons, List.length_nil, List.length_take, List.length_drop, List.length_dropLast, List.length_reverse]; omega), ?_⟩ | refine ⟨sz (by simp only [*, sM, sE, s1, s0, s110, s101, txt_cat, txt_len, cut_to, cut_from, cut_init, List.length_append, List.length_cons, List.length_nil, List.length_take, List.length_drop, List.length_dropLast, List.length_reverse]; omega), ?_⟩))
        refine .inr ⟨_, rfl, ?_⟩
        (repeat (first | refine ⟨_, rfl, ?_⟩ | refine ⟨rfl, ?_⟩ | refine ⟨_, _, rfl, rfl, ?_⟩ | refine ⟨hz, ?_⟩ | refine ⟨(show 3 ≤ sizeLine by decide), ?_⟩ | refine ⟨(show 2 ≤ sizeLine by decide), ?_⟩ | refine ⟨by decide +kernel, ?_⟩ | refine ⟨.inl ⟨by decide, by decide⟩, ?_⟩ | refine .inl ⟨_, rfl, sz (by simp only [*, sM, sE, s1, s0, s110, s101, txt_cat, txt_len, cut_to, cut_from, cut_init, List.length_append, List.length_cons, List.length_nil, List.length_take, List.length_drop, List.length_dropLast, List.length_reverse]; omega), ?_⟩ | refine ⟨sz (by simp only [*, sM, sE, s1, s0, s110, s101, txt_cat, txt_len, cut_to, cut_from, cut_init, List.length_append, List.length_cons, List.length_nil, List.length_take, List.length_drop, List.length_dropLast, List.length_reverse]; omega), ?_⟩))
        intro q hq
        show Q (.ref q) (upd H3 q (.tup [.str (txt (pulled g)), .int (6 + (if u = true then 1 else 0) - 2 * ((s : Nat) : Int))]))
        rw [show ((6 + (if u = true then 1 else 0) - 2 * ((s : Nat) : Int)) : Int) = ((6 + u.toNat - 2 * s : Nat) : Int) by cases u <;> simp <;> omega]
        exact mk (r := (pulled g, 6 + u.toNat - 2 * s)) (by unfold postH; rw [if_neg c, cs]) ((e1.trans e2).trans e3) hq
      | none =>
        (repeat (first | refine ⟨_, rfl, ?_⟩ | refine ⟨rfl, ?_⟩ | refine ⟨_, _, rfl, rfl, ?_⟩ | refine ⟨hz, ?_⟩ | refine ⟨(show 3 ≤ sizeLine by decide), ?_⟩ | refine ⟨(show 2 ≤ sizeLine by decide), ?_⟩ | refine ⟨by decide +kernel, ?_⟩ | refine ⟨.inl ⟨by decide, by decide⟩, ?_⟩ | refine .inl ⟨_, rfl, sz (by simp only [*, sM, sE, s1, s0, s110, s101, txt_cat, txt_len, cut_to, cut_from, cut_init, List.length_append, List.length_cons, List.length_nil, List.length_take, List.length_drop, List.length_dropLast, List.length_reverse]; omega), ?_⟩ | refine ⟨sz (by simp only [*, sM, sE, s1, s0, s110, s101, txt_cat, txt_len, cut_to, cut_from, cut_init, List.length_append, List.length_cons, List.length_nil, List.length_take, List.length_drop, List.length_dropLast, List.length_reverse]; omega), ?_⟩))
        refine ⟨_, _, rfl, by omega, fun H3 e3 => ?_⟩
        (repeat (first | refine ⟨_, rfl, ?_⟩ | refine ⟨rfl, ?_⟩ | refine ⟨_, _, rfl, rfl, ?_⟩ | refine ⟨hz, ?_⟩ | refine ⟨(show 3 ≤ sizeLine by decide), ?_⟩ | refine ⟨(show 2 ≤ sizeLine by decide), ?_⟩ | refine ⟨by decide +kernel, ?_⟩ | refine ⟨.inl ⟨by decide, by decide⟩, ?_⟩ | refine .inl ⟨_, rfl, sz (by simp only [*, sM, sE, s1, s0, s110, s101, txt_cat, txt_len, cut_to, cut_from, cut_init, List.length_append, List.length_cons, List.length_nil, List.length_take, List.length_drop, List.length_dropLast, List.length_reverse]; omega), ?_⟩ | refine ⟨sz (by simp only [*, sM, sE, s1, s0, s110, s101, txt_cat, txt_len, cut_to, cut_from, cut_init, List.length_append, List.length_cons, List.length_nil, List.length_take, List.length_drop, List.length_dropLast, List.length_reverse]; omega), ?_⟩))
        refine ⟨_, f, ws, rfl, by omega, hf2.ex e3, fun H4 e4 => ?_⟩
        (repeat (first | refine ⟨_, rfl, ?_⟩ | refine ⟨rfl, ?_⟩ | refine ⟨_, _, rfl, rfl, ?_⟩ | refine ⟨hz, ?_⟩ | refine ⟨(show 3 ≤ sizeLine by decide), ?_⟩ | refine ⟨(show 2 ≤ sizeLine by decide), ?_⟩ | refine ⟨by decide +kernel, ?_⟩ | refine ⟨.inl ⟨by decide, by decide⟩, ?_⟩ | refine .inl ⟨_, rfl, sz (by simp only [*, sM, sE, s1, s0, s110, s101, txt_cat, txt_len, cut_to, cut_from, cut_init, List.length_append, List.length_cons, List.length_nil, List.length_take, List.length_drop, List.length_dropLast, List.length_reverse]; omega), ?_⟩ | refine ⟨sz (by simp only [*, sM, sE, s1, s0, s110, s101, txt_cat, txt_len, cut_to, cut_from, cut_init, List.length_append, List.length_cons, List.length_nil, List.length_take, List.length_drop, List.length_dropLast, List.length_reverse]; omega), ?_⟩))
        refine .inr ⟨_, rfl, ?_⟩
        (repeat (first | refine ⟨_, rfl, ?_⟩ | refine ⟨rfl, ?_⟩ | refine ⟨_, _, rfl, rfl, ?_⟩ | refine ⟨hz, ?_⟩ | refine ⟨(show 3 ≤ sizeLine by decide), ?_⟩ | refine ⟨(show 2 ≤ sizeLine by decide), ?_⟩ | refine ⟨by decide +kernel, ?_⟩ | refine ⟨.inl ⟨by decide, by decide⟩, ?_⟩ | refine .inl ⟨_, rfl, sz (by simp only [*, sM, sE, s1, s0, s110, s101, txt_cat, txt_len, cut_to, cut_from, cut_init, List.length_append, List.length_cons, List.length_nil, List.length_take, List.length_drop, List.length_dropLast, List.length_reverse]; omega), ?_⟩ | refine ⟨sz (by simp only [*, sM, sE, s1, s0, s110, s101, txt_cat, txt_len, cut_to, cut_from, cut_init, List.length_append, List.length_cons, List.length_nil, List.length_take, List.length_drop, List.length_dropLast, List.length_reverse]; omega), ?_⟩))
        intro q hq
        show Q (.ref q) (upd H4 q (.tup [.str (txt (swapped (Bm ws) (tt x (-(s : Int))))), .int (2 * ((s : Nat) : Int) - (if u = true then 1 else 0))]))
        rw [show ((2 * ((s : Nat) : Int) - (if u = true then 1 else 0)) : Int) = ((2 * s - u.toNat : Nat) : Int) by cases u <;> simp <;> omega]
        exact mk (r := (swapped (Bm ws) (tt x (-(s : Int))), 2 * s - u.toNat)) (by unfold postH; rw [if_neg c, cs]) (((e1.trans e2).trans e3).trans e4) hq
end
end EH

set_option Elab.async false
set_option linter.all false
set_option maxRecDepth 100000
set_option maxHeartbeats 4000000
namespace EH
open PySem PySem.Spec PyProof.Rows L2 LamX EL EM
/-! ### how many trees -/
def lotsA (m : Int) : Nat → Int
  | 0 => 1
  | t + 1 => lotsA m t * (m - t) / (t + 1)
def lotsM (m s : Int) : Int := if s < 0 then 0 else lotsA m s.toNat
def waysM (a b : Int) : Int := lotsM (a + b) a - lotsM (a + b) (a - 1)
def allM (n : Int) : Int := waysM n n
def comM (a b : Nat) : Bool := decide (1 < Nat.gcd a b)
def apartL (n : Nat) (i : Nat) : List Nat := (List.range i).filter fun k => !comM n (k + 1)
def apartM (n : Nat) : Nat := (apartL n n).length
def placeA (n : Nat) : Nat → Int
  | 0 => 0
  | p + 1 => if n % (p + 1) = 0 then placeA n p + (apartM (n / (p + 1)) : Nat) * lotsM (2 * ((p : Int) + 1)) ((p : Int) + 1) else placeA n p
def placeM (n : Nat) : Int := placeA n n / (2 * (n : Int))
def tieM (n : Nat) : Int := if n % 2 = 0 then allM n / 2 else (allM n + allM ((n / 2 : Nat) : Int)) / 2
def treesM (n : Nat) : Int := placeM n + tieM n - allM n
theorem apartM_le (n : Nat) : apartM n ≤ n := by
  have := List.length_filter_le (fun k => !comM n (k + 1)) (List.range n)
  rw [List.length_range] at this
  exact this
section
variable {Pg : Program} {w : World} {K : PySem.W.Frag} {mg : Str → Option Value} {base : Heap}
def N_need_number : List Str := ["value", "part", "least", "most"]
theorem sc_need_number : FnScope N_need_number ["value", "part", "least", "most"] (defScope s_need_number) := ⟨rfl, rfl, rfl, by decide +kernel, rfl, by decide +kernel, by decide +kernel⟩
def sp_need_number (K : PySem.W.Frag) : Sp := fun vs H Q _ => ∃ (i a b : Int) (s : Str), vs = [.int i, .str s, .int a, .int b] ∧ a ≤ i ∧ i ≤ b ∧ Gives K .non H Q
theorem c_need_number (T : Tx K mg) : Cl Pg w K mg base 3 "need_number" (sp_need_number K) :=
  have c_is_within := c_is_within (Pg := Pg) (w := w) (base := base) T
  calD T.g_need_number T.f_need_number sc_need_number (fun _ _ _ _ _ _ us hl => match us, hl with | [_, _, _, _], _ => rfl) (fun vs H Q E h => by obtain ⟨_, _, _, _, rfl, _⟩ := h; rfl) fun cdv A outer st H vs Q E hr h => by
    obtain ⟨i, a, b, s, rfl, h1, h2, hQ⟩ := h
    refine ⟨_, (pss_one (ps_if (pt_not (pt_val (C8.pe_c c_is_within hr (by decide) (by rfl) (pa_cons (pv 0) (pa_cons (pv 2) (pa_cons (pv 3) pa_nil)))))) pss_never pss_nil)), ?_⟩
    exact ⟨_, rfl, _, rfl, _, rfl, i, a, b, rfl, h1, h2, fun H1 e1 => ⟨true, rfl, hQ H1 e1⟩⟩
def N_lots : List Str := ["many", "some", "found", "turn"]
theorem sc_lots : FnScope N_lots ["many", "some"] (defScope s_lots) := ⟨rfl, rfl, rfl, by decide +kernel, rfl, by decide +kernel, by decide +kernel⟩
def sp_lots (K : PySem.W.Frag) : Sp := fun vs H Q _ => ∃ m s : Int, vs = [.int m, .int s] ∧ (-1000 ≤ m ∧ m ≤ 1000) ∧ (-1000 ≤ s ∧ s ≤ 1000) ∧ Gives K (.int (lotsM m s)) H Q
theorem c_lots (T : Tx K mg) : Cl Pg w K mg base 1 "lots" (sp_lots K) :=
  calD T.g_lots T.f_lots sc_lots (fun _ _ _ _ _ _ us hl => match us, hl with | [_, _], _ => rfl) (fun vs H Q E h => by obtain ⟨i, _, rfl, _⟩ := h; rfl) fun cdv A outer st H vs Q E hr h => by
    obtain ⟨m, s, rfl, hm, hs, hQ⟩ := h
    refine ⟨_, (pss_cons (ps_if (pt_cmpR op_lt (pv 1) pe_int (nomark _)) (pss_one (ps_ret pe_int)) pss_nil)
      (pss_cons (ps_set (i := 2) sc_lots.nd rfl (Or.inl rfl) pe_int)
      (pss_cons (ps_for PassesOwn.never rfl (pi_range1 (by rfl) T.n_range (pa_cons (pv 1) pa_nil)) (pg_name (i := 3) sc_lots.nd rfl (Or.inl rfl)) (pss_one (ps_set (i := 2) sc_lots.nd rfl (Or.inl rfl) (pe_op op_fdiv (pe_op op_mul (pv 2) (pe_op op_sub (pv 0) (pv 3))) (pe_op op_add (pv 3) pe_int)))))
      (pss_one (ps_ret (pv 2)))))), ?_⟩
    refine ⟨_, rfl, _, _, rfl, rfl, decide (s < 0), rfl, ?_⟩
    unfold lotsM at hQ
    by_cases c : s < 0
    · rw [if_pos c] at hQ
      exact dT c (gk hQ)
    · rw [if_neg c] at hQ
      refine dF c ?_
      (repeat (first | refine ⟨_, rfl, ?_⟩ | refine ⟨rfl, ?_⟩ | refine ⟨_, _, rfl, rfl, ?_⟩ | refine ⟨hz, ?_⟩ | refine ⟨(show 3 ≤ sizeLine by decide), ?_⟩ | refine ⟨(show 2 ≤ sizeLine by decide), ?_⟩ | refine ⟨by decide +kernel, ?_⟩ | refine ⟨.inl ⟨by decide, by decide⟩, ?_⟩ | refine ⟨(by show (0 : Int) < _; omega), ?_⟩ | refine ⟨⟨by omega, by omega⟩, ?_⟩ | refine .inl ⟨_, rfl, sz (by simp only [*, sM, sE, s1, s0, s110, s101, txt_cat, txt_len, cut_to, cut_from, cut_init, List.length_append, List.length_cons, List.length_nil, List.length_take, List.length_drop, List.length_dropLast, List.length_reverse]; omega), ?_⟩ | refine ⟨sz (by simp only [*, sM, sE, s1, s0, s110, s101, txt_cat, txt_len, cut_to, cut_from, cut_init, List.length_append, List.length_cons, List.length_nil, List.length_take, List.length_drop, List.length_dropLast, List.length_reverse]; omega), ?_⟩))
      refine ⟨by omega, by omega, for_rng (fun i σ H' => ∃ z, σ = [some (.int m), some (.int s), some (.int (lotsA m i)), z] ∧ Ex K H H') ⟨none, rfl, .refl⟩ (fun i σ H' hi hp => ?_) fun σ H' hp => ?_⟩
      · obtain ⟨z, rfl, he⟩ := hp
        (repeat (first | refine ⟨_, rfl, ?_⟩ | refine ⟨rfl, ?_⟩ | refine ⟨_, _, rfl, rfl, ?_⟩ | refine ⟨hz, ?_⟩ | refine ⟨(show 3 ≤ sizeLine by decide), ?_⟩ | refine ⟨(show 2 ≤ sizeLine by decide), ?_⟩ | refine ⟨by decide +kernel, ?_⟩ | refine ⟨.inl ⟨by decide, by decide⟩, ?_⟩ | refine ⟨(by show (0 : Int) < _; omega), ?_⟩ | refine ⟨⟨by omega, by omega⟩, ?_⟩ | refine .inl ⟨_, rfl, sz (by simp only [*, sM, sE, s1, s0, s110, s101, txt_cat, txt_len, cut_to, cut_from, cut_init, List.length_append, List.length_cons, List.length_nil, List.length_take, List.length_drop, List.length_dropLast, List.length_reverse]; omega), ?_⟩ | refine ⟨sz (by simp only [*, sM, sE, s1, s0, s110, s101, txt_cat, txt_len, cut_to, cut_from, cut_init, List.length_append, List.length_cons, List.length_nil, List.length_take, List.length_drop, List.length_dropLast, List.length_reverse]; omega), ?_⟩))
        refine ⟨.inr (by omega), ?_⟩
        (repeat (first | refine ⟨_, rfl, ?_⟩ | refine ⟨rfl, ?_⟩ | refine ⟨_, _, rfl, rfl, ?_⟩ | refine ⟨hz, ?_⟩ | refine ⟨(show 3 ≤ sizeLine by decide), ?_⟩ | refine ⟨(show 2 ≤ sizeLine by decide), ?_⟩ | refine ⟨by decide +kernel, ?_⟩ | refine ⟨.inl ⟨by decide, by decide⟩, ?_⟩ | refine ⟨(by show (0 : Int) < _; omega), ?_⟩ | refine ⟨⟨by omega, by omega⟩, ?_⟩ | refine .inl ⟨_, rfl, sz (by simp only [*, sM, sE, s1, s0, s110, s101, txt_cat, txt_len, cut_to, cut_from, cut_init, List.length_append, List.length_cons, List.length_nil, List.length_take, List.length_drop, List.length_dropLast, List.length_reverse]; omega), ?_⟩ | refine ⟨sz (by simp only [*, sM, sE, s1, s0, s110, s101, txt_cat, txt_len, cut_to, cut_from, cut_init, List.length_append, List.length_cons, List.length_nil, List.length_take, List.length_drop, List.length_dropLast, List.length_reverse]; omega), ?_⟩))
        refine ⟨some (.int (0 + (i : Nat))), ?_, he⟩
        show [_, _, some (V.int (lotsA m i * (m - (0 + (i : Nat))) / (0 + (i : Nat) + 1))), _] = _
        rw [Int.zero_add]
        rfl
      · obtain ⟨z, rfl, he⟩ := hp
        exact ⟨_, rfl, hQ H' he⟩
def N_ways_on : List Str := ["ones", "zeros"]
theorem sc_ways_on : FnScope N_ways_on ["ones", "zeros"] (defScope s_ways_on) := ⟨rfl, rfl, rfl, by decide +kernel, rfl, by decide +kernel, by decide +kernel⟩
def sp_ways (K : PySem.W.Frag) : Sp := fun vs H Q _ => ∃ m s : Int, vs = [.int m, .int s] ∧ (-400 ≤ m ∧ m ≤ 400) ∧ (-400 ≤ s ∧ s ≤ 400) ∧ Gives K (.int (waysM m s)) H Q
theorem c_ways_on (T : Tx K mg) : Cl Pg w K mg base 2 "ways_on" (sp_ways K) :=
  have c_lots := c_lots (Pg := Pg) (w := w) (base := base) T
  calD T.g_ways_on T.f_ways_on sc_ways_on (fun _ _ _ _ _ _ us hl => match us, hl with | [_, _], _ => rfl) (fun vs H Q E h => by obtain ⟨i, _, rfl, _⟩ := h; rfl) fun cdv A outer st H vs Q E hr h => by
    obtain ⟨m, s, rfl, hm, hs, hQ⟩ := h
    refine ⟨_, (pss_one (ps_ret (pe_op op_sub (C8.pe_c c_lots hr (by decide) (by rfl) (pa_cons (pe_op op_add (pv 0) (pv 1)) (pa_cons (pv 0) pa_nil))) (C8.pe_c c_lots hr (by decide) (by rfl) (pa_cons (pe_op op_add (pv 0) (pv 1)) (pa_cons (pe_op op_sub (pv 0) pe_int) pa_nil)))))), ?_⟩
    (repeat (first | refine ⟨_, rfl, ?_⟩ | refine ⟨rfl, ?_⟩ | refine ⟨_, _, rfl, rfl, ?_⟩ | refine ⟨hz, ?_⟩ | refine ⟨(show 3 ≤ sizeLine by decide), ?_⟩ | refine ⟨(show 2 ≤ sizeLine by decide), ?_⟩ | refine ⟨by decide +kernel, ?_⟩ | refine ⟨.inl ⟨by decide, by decide⟩, ?_⟩ | refine ⟨(by show (0 : Int) < _; omega), ?_⟩ | refine ⟨⟨by omega, by omega⟩, ?_⟩ | refine .inl ⟨_, rfl, sz (by simp only [*, sM, sE, s1, s0, s110, s101, txt_cat, txt_len, cut_to, cut_from, cut_init, List.length_append, List.length_cons, List.length_nil, List.length_take, List.length_drop, List.length_dropLast, List.length_reverse]; omega), ?_⟩ | refine ⟨sz (by simp only [*, sM, sE, s1, s0, s110, s101, txt_cat, txt_len, cut_to, cut_from, cut_init, List.length_append, List.length_cons, List.length_nil, List.length_take, List.length_drop, List.length_dropLast, List.length_reverse]; omega), ?_⟩))
    refine ⟨_, _, rfl, by omega, by omega, fun H1 e1 => ?_⟩
    (repeat (first | refine ⟨_, rfl, ?_⟩ | refine ⟨rfl, ?_⟩ | refine ⟨_, _, rfl, rfl, ?_⟩ | refine ⟨hz, ?_⟩ | refine ⟨(show 3 ≤ sizeLine by decide), ?_⟩ | refine ⟨(show 2 ≤ sizeLine by decide), ?_⟩ | refine ⟨by decide +kernel, ?_⟩ | refine ⟨.inl ⟨by decide, by decide⟩, ?_⟩ | refine ⟨(by show (0 : Int) < _; omega), ?_⟩ | refine ⟨⟨by omega, by omega⟩, ?_⟩ | refine .inl ⟨_, rfl, sz (by simp only [*, sM, sE, s1, s0, s110, s101, txt_cat, txt_len, cut_to, cut_from, cut_init, List.length_append, List.length_cons, List.length_nil, List.length_take, List.length_drop, List.length_dropLast, List.length_reverse]; omega), ?_⟩ | refine ⟨sz (by simp only [*, sM, sE, s1, s0, s110, s101, txt_cat, txt_len, cut_to, cut_from, cut_init, List.length_append, List.length_cons, List.length_nil, List.length_take, List.length_drop, List.length_dropLast, List.length_reverse]; omega), ?_⟩))
    refine ⟨_, _, rfl, by omega, by omega, fun H2 e2 => ?_⟩
    (repeat (first | refine ⟨_, rfl, ?_⟩ | refine ⟨rfl, ?_⟩ | refine ⟨_, _, rfl, rfl, ?_⟩ | refine ⟨hz, ?_⟩ | refine ⟨(show 3 ≤ sizeLine by decide), ?_⟩ | refine ⟨(show 2 ≤ sizeLine by decide), ?_⟩ | refine ⟨by decide +kernel, ?_⟩ | refine ⟨.inl ⟨by decide, by decide⟩, ?_⟩ | refine ⟨(by show (0 : Int) < _; omega), ?_⟩ | refine ⟨⟨by omega, by omega⟩, ?_⟩ | refine .inl ⟨_, rfl, sz (by simp only [*, sM, sE, s1, s0, s110, s101, txt_cat, txt_len, cut_to, cut_from, cut_init, List.length_append, List.length_cons, List.length_nil, List.length_take, List.length_drop, List.length_dropLast, List.length_reverse]; omega), ?_⟩ | refine ⟨sz (by simp only [*, sM, sE, s1, s0, s110, s101, txt_cat, txt_len, cut_to, cut_from, cut_init, List.length_append, List.length_cons, List.length_nil, List.length_take, List.length_drop, List.length_dropLast, List.length_reverse]; omega), ?_⟩))
    exact hQ H2 (e1.trans e2)
def N_all_in : List Str := ["pairs"]
theorem sc_all_in : FnScope N_all_in ["pairs"] (defScope s_all_in) := ⟨rfl, rfl, rfl, by decide +kernel, rfl, by decide +kernel, by decide +kernel⟩
def sp_all_in (K : PySem.W.Frag) : Sp := fun vs H Q _ => ∃ m : Int, vs = [.int m] ∧ (-400 ≤ m ∧ m ≤ 400) ∧ Gives K (.int (allM m)) H Q
theorem c_all_in (T : Tx K mg) : Cl Pg w K mg base 3 "all_in" (sp_all_in K) :=
  have c_ways_on := c_ways_on (Pg := Pg) (w := w) (base := base) T
  calD T.g_all_in T.f_all_in sc_all_in (fun _ _ _ _ _ _ us hl => match us, hl with | [_], _ => rfl) (fun vs H Q E h => by obtain ⟨i, rfl, _⟩ := h; rfl) fun cdv A outer st H vs Q E hr h => by
    obtain ⟨m, rfl, hm, hQ⟩ := h
    refine ⟨_, (pss_one (ps_ret (C8.pe_c c_ways_on hr (by decide) (by rfl) (pa_cons (pv 0) (pa_cons (pv 0) pa_nil))))), ?_⟩
    exact ⟨_, rfl, _, rfl, m, m, rfl, hm, hm, fun H1 e1 => hQ H1 e1⟩
def N_has_common : List Str := ["one", "other"]
theorem sc_has_common : FnScope N_has_common ["one", "other"] (defScope s_has_common) := ⟨rfl, rfl, rfl, by decide +kernel, rfl, by decide +kernel, by decide +kernel⟩
def sp_com (K : PySem.W.Frag) : Sp := fun vs H Q _ => ∃ a b : Nat, vs = [.int (a : Nat), .int (b : Nat)] ∧ Gives K (.bl (comM a b)) H Q
theorem c_has_common (T : Tx K mg) : Cl Pg w K mg base 1 "has_common" (sp_com K) :=
  calD T.g_has_common T.f_has_common sc_has_common (fun _ _ _ _ _ _ us hl => match us, hl with | [_, _], _ => rfl) (fun vs H Q E h => by obtain ⟨i, _, rfl, _⟩ := h; rfl) fun cdv A outer st H vs Q E hr h => by
    obtain ⟨a, b, rfl, hQ⟩ := h
    refine ⟨_, (pss_cons (ps_while PassesOwn.never (pt_cmpR op_gt (pv 1) pe_int (nomark _)) (pss_one (ps_par (i := 0) (j := 1) rfl sc_has_common.nd rfl rfl (by decide) rfl rfl (pa_cons (pv 1) (pa_cons (pe_op op_mod (pv 0) (pv 1)) pa_nil)) (by rfl))))
      (pss_one (ps_ret (pe_cmpR op_gt (pv 0) pe_int (nomark _))))), ?_⟩
    refine ⟨fun m σ H' => ∃ c : Nat, Nat.gcd c m = Nat.gcd a b ∧ σ = [some (.int (c : Nat)), some (.int (m : Nat))] ∧ Ex K H H', ⟨b, a, rfl, rfl, .refl⟩, fun m σ H' ⟨c, hg, hs, he⟩ => ?_⟩
    subst hs
    (repeat (first | refine ⟨_, rfl, ?_⟩ | refine ⟨rfl, ?_⟩ | refine ⟨_, _, rfl, rfl, ?_⟩ | refine ⟨hz, ?_⟩ | refine ⟨(show 3 ≤ sizeLine by decide), ?_⟩ | refine ⟨(show 2 ≤ sizeLine by decide), ?_⟩ | refine ⟨by decide +kernel, ?_⟩ | refine ⟨.inl ⟨by decide, by decide⟩, ?_⟩ | refine ⟨(by show (0 : Int) < _; omega), ?_⟩ | refine ⟨⟨by omega, by omega⟩, ?_⟩ | refine .inl ⟨_, rfl, sz (by simp only [*, sM, sE, s1, s0, s110, s101, txt_cat, txt_len, cut_to, cut_from, cut_init, List.length_append, List.length_cons, List.length_nil, List.length_take, List.length_drop, List.length_dropLast, List.length_reverse]; omega), ?_⟩ | refine ⟨sz (by simp only [*, sM, sE, s1, s0, s110, s101, txt_cat, txt_len, cut_to, cut_from, cut_init, List.length_append, List.length_cons, List.length_nil, List.length_take, List.length_drop, List.length_dropLast, List.length_reverse]; omega), ?_⟩))
    by_cases z : m = 0
    · subst z
      (repeat (first | refine ⟨_, rfl, ?_⟩ | refine ⟨rfl, ?_⟩ | refine ⟨_, _, rfl, rfl, ?_⟩ | refine ⟨hz, ?_⟩ | refine ⟨(show 3 ≤ sizeLine by decide), ?_⟩ | refine ⟨(show 2 ≤ sizeLine by decide), ?_⟩ | refine ⟨by decide +kernel, ?_⟩ | refine ⟨.inl ⟨by decide, by decide⟩, ?_⟩ | refine ⟨(by show (0 : Int) < _; omega), ?_⟩ | refine ⟨⟨by omega, by omega⟩, ?_⟩ | refine .inl ⟨_, rfl, sz (by simp only [*, sM, sE, s1, s0, s110, s101, txt_cat, txt_len, cut_to, cut_from, cut_init, List.length_append, List.length_cons, List.length_nil, List.length_take, List.length_drop, List.length_dropLast, List.length_reverse]; omega), ?_⟩ | refine ⟨sz (by simp only [*, sM, sE, s1, s0, s110, s101, txt_cat, txt_len, cut_to, cut_from, cut_init, List.length_append, List.length_cons, List.length_nil, List.length_take, List.length_drop, List.length_dropLast, List.length_reverse]; omega), ?_⟩))
      rw [Nat.gcd_zero_right] at hg
      subst hg
      show Q (.bl (decide ((1 : Int) < ((a.gcd b : Nat) : Int)))) H'
      rw [show decide ((1 : Int) < ((a.gcd b : Nat) : Int)) = comM a b from decide_eq_decide.mpr (by omega)]
      exact hQ H' he
    · rw [show decide ((0 : Int) < ((m : Nat) : Int)) = true from decide_eq_true (by omega)]
      refine ⟨fun σ H' => ∃ m', m' < m ∧ ∃ c : Nat, Nat.gcd c m' = Nat.gcd a b ∧ σ = [some (.int (c : Nat)), some (.int (m' : Nat))] ∧ Ex K H H', fun σ' H' h => h, ?_⟩
      refine ⟨_, rfl, _, rfl, _, rfl, _, _, rfl, rfl, (by show (0 : Int) < _; omega), _, _, rfl, c % m, Nat.mod_lt _ (by omega), m, ?_, rfl, he⟩
      rw [← hg, Nat.gcd_comm c m, Nat.gcd_rec m c, Nat.gcd_comm]
def N_how_many_apart : List Str := ["number", "each"]
theorem sc_how_many_apart : FnScope N_how_many_apart ["number"] (defScope s_how_many_apart) := ⟨rfl, rfl, rfl, by decide +kernel, rfl, by decide +kernel, by decide +kernel⟩
def sp_apart (K : PySem.W.Frag) : Sp := fun vs H Q _ => ∃ n : Nat, vs = [.int (n : Nat)] ∧ n ≤ 1000 ∧ Gives K (.int (apartM n : Nat)) H Q
theorem c_how_many_apart (T : Tx K mg) : Cl Pg w K mg base 2 "how_many_apart" (sp_apart K) :=
  have c_has_common := c_has_common (Pg := Pg) (w := w) (base := base) T
  calD T.g_how_many_apart T.f_how_many_apart sc_how_many_apart (fun _ _ _ _ _ _ us hl => match us, hl with | [_], _ => rfl) (fun vs H Q E h => by obtain ⟨i, rfl, _⟩ := h; rfl) fun cdv A outer st H vs Q E hr h => by
    obtain ⟨n, rfl, hn, hQ⟩ := h
    refine ⟨_, (pss_one (ps_ret (pe_callB call_len_seq (by rfl) T.n_len PySem.boot_len (pa_cons (pe_lc (own := [("each", 1)]) (g := gName 1) (by rfl) sc_how_many_apart.nd (pi_range2 (by rfl) T.n_range (pa_cons pe_int (pa_cons (pe_op op_add (pv 0) pe_int) pa_nil))) (blkOk_by (own := [("each", 1)]) (N := N_how_many_apart) (sc := (defScope s_how_many_apart)) (by decide +kernel)) (fun _ _ _ _ _ => pg_name (i := 1) sc_how_many_apart.nd rfl (Or.inl rfl)) (fun _ _ _ _ _ => (pts_one (pt_not (pt_val (C8.pe_c c_has_common hr (by decide) (by rfl) (pa_cons (pv 0) (pa_cons (pv 1) pa_nil))))))) (fun _ _ _ _ _ => (pv 1))) pa_nil)))), ?_⟩
    (repeat (first | refine ⟨_, rfl, ?_⟩ | refine ⟨rfl, ?_⟩ | refine ⟨_, _, rfl, rfl, ?_⟩ | refine ⟨hz, ?_⟩ | refine ⟨(show 3 ≤ sizeLine by decide), ?_⟩ | refine ⟨(show 2 ≤ sizeLine by decide), ?_⟩ | refine ⟨by decide +kernel, ?_⟩ | refine ⟨.inl ⟨by decide, by decide⟩, ?_⟩ | refine ⟨(by show (0 : Int) < _; omega), ?_⟩ | refine ⟨⟨by omega, by omega⟩, ?_⟩ | refine .inl ⟨_, rfl, sz (by simp only [*, sM, sE, s1, s0, s110, s101, txt_cat, txt_len, cut_to, cut_from, cut_init, List.length_append, List.length_cons, List.length_nil, List.length_take, List.length_drop, List.length_dropLast, List.length_reverse]; omega), ?_⟩ | refine ⟨sz (by simp only [*, sM, sE, s1, s0, s110, s101, txt_cat, txt_len, cut_to, cut_from, cut_init, List.length_append, List.length_cons, List.length_nil, List.length_take, List.length_drop, List.length_dropLast, List.length_reverse]; omega), ?_⟩))
    refine ⟨_, _, rfl, ⟨by omega, by omega, by omega, by omega⟩, lc_rng (K := K) (fun i => (apartL n i).map fun k => V.int (1 + (k : Nat))) rfl (fun i hi => ?_) (fun i L H' Nx hi he hl hL hY hN => ?_) (fun L H' hL he hl => ?_)⟩
    · rw [List.length_map]
      have := List.length_filter_le (fun k => !comM n (k + 1)) (List.range i)
      rw [List.length_range] at this
      unfold apartL
      omega
    · refine ⟨rfl, ?_⟩
      (repeat (first | refine ⟨_, rfl, ?_⟩ | refine ⟨rfl, ?_⟩ | refine ⟨_, _, rfl, rfl, ?_⟩ | refine ⟨hz, ?_⟩ | refine ⟨(show 3 ≤ sizeLine by decide), ?_⟩ | refine ⟨(show 2 ≤ sizeLine by decide), ?_⟩ | refine ⟨by decide +kernel, ?_⟩ | refine ⟨.inl ⟨by decide, by decide⟩, ?_⟩ | refine ⟨(by show (0 : Int) < _; omega), ?_⟩ | refine ⟨⟨by omega, by omega⟩, ?_⟩ | refine .inl ⟨_, rfl, sz (by simp only [*, sM, sE, s1, s0, s110, s101, txt_cat, txt_len, cut_to, cut_from, cut_init, List.length_append, List.length_cons, List.length_nil, List.length_take, List.length_drop, List.length_dropLast, List.length_reverse]; omega), ?_⟩ | refine ⟨sz (by simp only [*, sM, sE, s1, s0, s110, s101, txt_cat, txt_len, cut_to, cut_from, cut_init, List.length_append, List.length_cons, List.length_nil, List.length_take, List.length_drop, List.length_dropLast, List.length_reverse]; omega), ?_⟩))
      refine ⟨n, i + 1, by rw [show ((i + 1 : Nat) : Int) = 1 + (i : Nat) by omega]; rfl, fun H1 e1 => ?_⟩
      (repeat (first | refine ⟨_, rfl, ?_⟩ | refine ⟨rfl, ?_⟩ | refine ⟨_, _, rfl, rfl, ?_⟩ | refine ⟨hz, ?_⟩ | refine ⟨(show 3 ≤ sizeLine by decide), ?_⟩ | refine ⟨(show 2 ≤ sizeLine by decide), ?_⟩ | refine ⟨by decide +kernel, ?_⟩ | refine ⟨.inl ⟨by decide, by decide⟩, ?_⟩ | refine ⟨(by show (0 : Int) < _; omega), ?_⟩ | refine ⟨⟨by omega, by omega⟩, ?_⟩ | refine .inl ⟨_, rfl, sz (by simp only [*, sM, sE, s1, s0, s110, s101, txt_cat, txt_len, cut_to, cut_from, cut_init, List.length_append, List.length_cons, List.length_nil, List.length_take, List.length_drop, List.length_dropLast, List.length_reverse]; omega), ?_⟩ | refine ⟨sz (by simp only [*, sM, sE, s1, s0, s110, s101, txt_cat, txt_len, cut_to, cut_from, cut_init, List.length_append, List.length_cons, List.length_nil, List.length_take, List.length_drop, List.length_dropLast, List.length_reverse]; omega), ?_⟩))
      have e2 : apartL n (i + 1) = if comM n (i + 1) then apartL n i else apartL n i ++ [i] := by
        unfold apartL
        rw [List.range_succ, List.filter_append]
        cases h : comM n (i + 1) <;> simp [h]
      cases h : comM n (i + 1) with
      | true =>
        rw [h] at e2
        exact hN H1 e1 (by rw [e2]; rfl)
      | false =>
        rw [h] at e2
        exact ⟨_, rfl, _, hY H1 _ e1 (by rw [e2]; exact List.map_append)⟩
    · have e : ((n : Int) + 1 - 1).toNat = n := by omega
      rw [e] at hl
      refine ⟨L, _, rfl, .inl (.inl (.inl hl)), ?_⟩
      rw [List.length_map]
      exact hQ H' he
def N_with_place : List Str := ["pairs", "found", "part"]
theorem sc_with_place : FnScope N_with_place ["pairs"] (defScope s_with_place) := ⟨rfl, rfl, rfl, by decide +kernel, rfl, by decide +kernel, by decide +kernel⟩
def sp_place (K : PySem.W.Frag) : Sp := fun vs H Q _ => ∃ n : Nat, vs = [.int (n : Nat)] ∧ 1 ≤ n ∧ n ≤ 200 ∧ Gives K (.int (placeM n)) H Q
theorem c_with_place (T : Tx K mg) : Cl Pg w K mg base 3 "with_place" (sp_place K) :=
  have c_how_many_apart := c_how_many_apart (Pg := Pg) (w := w) (base := base) T
  have c_lots := c_lots (Pg := Pg) (w := w) (base := base) T
  calD T.g_with_place T.f_with_place sc_with_place (fun _ _ _ _ _ _ us hl => match us, hl with | [_], _ => rfl) (fun vs H Q E h => by obtain ⟨i, rfl, _⟩ := h; rfl) fun cdv A outer st H vs Q E hr h => by
    obtain ⟨n, rfl, h1, hn, hQ⟩ := h
    refine ⟨_, (pss_cons (ps_set (i := 1) sc_with_place.nd rfl (Or.inl rfl) pe_int)
      (pss_cons (ps_for PassesOwn.never rfl (pi_range2 (by rfl) T.n_range (pa_cons pe_int (pa_cons (pe_op op_add (pv 0) pe_int) pa_nil))) (pg_name (i := 2) sc_with_place.nd rfl (Or.inl rfl)) (pss_one (ps_if (pt_cmpR op_eq (pe_op op_mod (pv 0) (pv 2)) pe_int (nomark _)) (pss_one (ps_set (i := 1) sc_with_place.nd rfl (Or.inl rfl) (pe_op op_add (pv 1) (pe_op op_mul (C8.pe_c c_how_many_apart hr (by decide) (by rfl) (pa_cons (pe_op op_fdiv (pv 0) (pv 2)) pa_nil)) (C8.pe_c c_lots hr (by decide) (by rfl) (pa_cons (pe_op op_mul pe_int (pv 2)) (pa_cons (pv 2) pa_nil))))))) pss_nil)))
      (pss_one (ps_ret (pe_op op_fdiv (pv 1) (pe_op op_mul pe_int (pv 0))))))), ?_⟩
    (repeat (first | refine ⟨_, rfl, ?_⟩ | refine ⟨rfl, ?_⟩ | refine ⟨_, _, rfl, rfl, ?_⟩ | refine ⟨hz, ?_⟩ | refine ⟨(show 3 ≤ sizeLine by decide), ?_⟩ | refine ⟨(show 2 ≤ sizeLine by decide), ?_⟩ | refine ⟨by decide +kernel, ?_⟩ | refine ⟨.inl ⟨by decide, by decide⟩, ?_⟩ | refine ⟨(by show (0 : Int) < _; omega), ?_⟩ | refine ⟨⟨by omega, by omega⟩, ?_⟩ | refine .inl ⟨_, rfl, sz (by simp only [*, sM, sE, s1, s0, s110, s101, txt_cat, txt_len, cut_to, cut_from, cut_init, List.length_append, List.length_cons, List.length_nil, List.length_take, List.length_drop, List.length_dropLast, List.length_reverse]; omega), ?_⟩ | refine ⟨sz (by simp only [*, sM, sE, s1, s0, s110, s101, txt_cat, txt_len, cut_to, cut_from, cut_init, List.length_append, List.length_cons, List.length_nil, List.length_take, List.length_drop, List.length_dropLast, List.length_reverse]; omega), ?_⟩))
    refine ⟨_, _, rfl, ⟨by omega, by omega, by omega, by omega⟩, for_rng (fun i σ H' => ∃ z, σ = [some (.int (n : Nat)), some (.int (placeA n i)), z] ∧ Ex K H H') ⟨none, rfl, .refl⟩ (fun i σ H' hi hp => ?_) fun σ H' hp => ?_⟩
    · obtain ⟨z, rfl, he⟩ := hp
      (repeat (first | refine ⟨_, rfl, ?_⟩ | refine ⟨rfl, ?_⟩ | refine ⟨_, _, rfl, rfl, ?_⟩ | refine ⟨hz, ?_⟩ | refine ⟨(show 3 ≤ sizeLine by decide), ?_⟩ | refine ⟨(show 2 ≤ sizeLine by decide), ?_⟩ | refine ⟨by decide +kernel, ?_⟩ | refine ⟨.inl ⟨by decide, by decide⟩, ?_⟩ | refine ⟨(by show (0 : Int) < _; omega), ?_⟩ | refine ⟨⟨by omega, by omega⟩, ?_⟩ | refine .inl ⟨_, rfl, sz (by simp only [*, sM, sE, s1, s0, s110, s101, txt_cat, txt_len, cut_to, cut_from, cut_init, List.length_append, List.length_cons, List.length_nil, List.length_take, List.length_drop, List.length_dropLast, List.length_reverse]; omega), ?_⟩ | refine ⟨sz (by simp only [*, sM, sE, s1, s0, s110, s101, txt_cat, txt_len, cut_to, cut_from, cut_init, List.length_append, List.length_cons, List.length_nil, List.length_take, List.length_drop, List.length_dropLast, List.length_reverse]; omega), ?_⟩))
      have q : placeA n (i + 1) = if n % (i + 1) = 0 then placeA n i + (apartM (n / (i + 1)) : Nat) * lotsM (2 * ((i : Int) + 1)) ((i : Int) + 1) else placeA n i := rfl
      have ei : (1 + (i : Nat) : Int) = ((i + 1 : Nat) : Int) := by omega
      rw [ei]
      by_cases c : n % (i + 1) = 0
      · rw [show decide (V.int (((n : Nat) : Int) % ((i + 1 : Nat) : Int)) = V.int 0) = true from decide_eq_true (by rw [← Int.natCast_emod, c]; rfl)]
        rw [if_pos c] at q
        (repeat (first | refine ⟨_, rfl, ?_⟩ | refine ⟨rfl, ?_⟩ | refine ⟨_, _, rfl, rfl, ?_⟩ | refine ⟨hz, ?_⟩ | refine ⟨(show 3 ≤ sizeLine by decide), ?_⟩ | refine ⟨(show 2 ≤ sizeLine by decide), ?_⟩ | refine ⟨by decide +kernel, ?_⟩ | refine ⟨.inl ⟨by decide, by decide⟩, ?_⟩ | refine ⟨(by show (0 : Int) < _; omega), ?_⟩ | refine ⟨⟨by omega, by omega⟩, ?_⟩ | refine .inl ⟨_, rfl, sz (by simp only [*, sM, sE, s1, s0, s110, s101, txt_cat, txt_len, cut_to, cut_from, cut_init, List.length_append, List.length_cons, List.length_nil, List.length_take, List.length_drop, List.length_dropLast, List.length_reverse]; omega), ?_⟩ | refine ⟨sz (by simp only [*, sM, sE, s1, s0, s110, s101, txt_cat, txt_len, cut_to, cut_from, cut_init, List.length_append, List.length_cons, List.length_nil, List.length_take, List.length_drop, List.length_dropLast, List.length_reverse]; omega), ?_⟩))
        refine ⟨Nat.le_trans (Nat.div_le_self _ _) (by omega), fun H1 e1 => ?_⟩
        (repeat (first | refine ⟨_, rfl, ?_⟩ | refine ⟨rfl, ?_⟩ | refine ⟨_, _, rfl, rfl, ?_⟩ | refine ⟨hz, ?_⟩ | refine ⟨(show 3 ≤ sizeLine by decide), ?_⟩ | refine ⟨(show 2 ≤ sizeLine by decide), ?_⟩ | refine ⟨by decide +kernel, ?_⟩ | refine ⟨.inl ⟨by decide, by decide⟩, ?_⟩ | refine ⟨(by show (0 : Int) < _; omega), ?_⟩ | refine ⟨⟨by omega, by omega⟩, ?_⟩ | refine .inl ⟨_, rfl, sz (by simp only [*, sM, sE, s1, s0, s110, s101, txt_cat, txt_len, cut_to, cut_from, cut_init, List.length_append, List.length_cons, List.length_nil, List.length_take, List.length_drop, List.length_dropLast, List.length_reverse]; omega), ?_⟩ | refine ⟨sz (by simp only [*, sM, sE, s1, s0, s110, s101, txt_cat, txt_len, cut_to, cut_from, cut_init, List.length_append, List.length_cons, List.length_nil, List.length_take, List.length_drop, List.length_dropLast, List.length_reverse]; omega), ?_⟩))
        refine ⟨_, _, rfl, ⟨by omega, by omega⟩, ⟨by omega, by omega⟩, fun H2 e2 => ?_⟩
        have ha := apartM_le (n / (i + 1))
        have hd := Nat.div_le_self n (i + 1)
        refine ⟨_, _, rfl, rfl, .inl ⟨by omega, by omega⟩, _, _, rfl, rfl, some (.int ((i + 1 : Nat) : Int)), ?_, (he.trans e1).trans e2⟩
        rw [q]
        rfl
      · rw [show decide (V.int (((n : Nat) : Int) % ((i + 1 : Nat) : Int)) = V.int 0) = false from decide_eq_false (fun z => c (by have := V.int.inj z; rw [← Int.natCast_emod] at this; omega))]
        rw [if_neg c] at q
        exact ⟨_, by rw [q]; rfl, he⟩
    · obtain ⟨z, rfl, he⟩ := hp
      (repeat (first | refine ⟨_, rfl, ?_⟩ | refine ⟨rfl, ?_⟩ | refine ⟨_, _, rfl, rfl, ?_⟩ | refine ⟨hz, ?_⟩ | refine ⟨(show 3 ≤ sizeLine by decide), ?_⟩ | refine ⟨(show 2 ≤ sizeLine by decide), ?_⟩ | refine ⟨by decide +kernel, ?_⟩ | refine ⟨.inl ⟨by decide, by decide⟩, ?_⟩ | refine ⟨(by show (0 : Int) < _; omega), ?_⟩ | refine ⟨⟨by omega, by omega⟩, ?_⟩ | refine .inl ⟨_, rfl, sz (by simp only [*, sM, sE, s1, s0, s110, s101, txt_cat, txt_len, cut_to, cut_from, cut_init, List.length_append, List.length_cons, List.length_nil, List.length_take, List.length_drop, List.length_dropLast, List.length_reverse]; omega), ?_⟩ | refine ⟨sz (by simp only [*, sM, sE, s1, s0, s110, s101, txt_cat, txt_len, cut_to, cut_from, cut_init, List.length_append, List.length_cons, List.length_nil, List.length_take, List.length_drop, List.length_dropLast, List.length_reverse]; omega), ?_⟩))
      have e : ((n : Int) + 1 - 1).toNat = n := by omega
      rw [e]
      exact hQ H' he
def N_with_tie : List Str := ["pairs"]
theorem sc_with_tie : FnScope N_with_tie ["pairs"] (defScope s_with_tie) := ⟨rfl, rfl, rfl, by decide +kernel, rfl, by decide +kernel, by decide +kernel⟩
def sp_tie (K : PySem.W.Frag) : Sp := fun vs H Q _ => ∃ n : Nat, vs = [.int (n : Nat)] ∧ n ≤ 200 ∧ Gives K (.int (tieM n)) H Q
theorem c_with_tie (T : Tx K mg) : Cl Pg w K mg base 4 "with_tie" (sp_tie K) :=
  have c_all_in := c_all_in (Pg := Pg) (w := w) (base := base) T
  calD T.g_with_tie T.f_with_tie sc_with_tie (fun _ _ _ _ _ _ us hl => match us, hl with | [_], _ => rfl) (fun vs H Q E h => by obtain ⟨i, rfl, _⟩ := h; rfl) fun cdv A outer st H vs Q E hr h => by
    obtain ⟨n, rfl, hn, hQ⟩ := h
    refine ⟨_, (pss_cons (ps_if (pt_cmpR op_eq (pe_op op_mod (pv 0) pe_int) pe_int (nomark _)) (pss_one (ps_ret (pe_op op_fdiv (C8.pe_c c_all_in hr (by decide) (by rfl) (pa_cons (pv 0) pa_nil)) pe_int))) pss_nil)
      (pss_one (ps_ret (pe_op op_fdiv (pe_op op_add (C8.pe_c c_all_in hr (by decide) (by rfl) (pa_cons (pv 0) pa_nil)) (C8.pe_c c_all_in hr (by decide) (by rfl) (pa_cons (pe_op op_fdiv (pv 0) pe_int) pa_nil))) pe_int)))), ?_⟩
    (repeat (first | refine ⟨_, rfl, ?_⟩ | refine ⟨rfl, ?_⟩ | refine ⟨_, _, rfl, rfl, ?_⟩ | refine ⟨hz, ?_⟩ | refine ⟨(show 3 ≤ sizeLine by decide), ?_⟩ | refine ⟨(show 2 ≤ sizeLine by decide), ?_⟩ | refine ⟨by decide +kernel, ?_⟩ | refine ⟨.inl ⟨by decide, by decide⟩, ?_⟩ | refine ⟨(by show (0 : Int) < _; omega), ?_⟩ | refine ⟨⟨by omega, by omega⟩, ?_⟩ | refine .inl ⟨_, rfl, sz (by simp only [*, sM, sE, s1, s0, s110, s101, txt_cat, txt_len, cut_to, cut_from, cut_init, List.length_append, List.length_cons, List.length_nil, List.length_take, List.length_drop, List.length_dropLast, List.length_reverse]; omega), ?_⟩ | refine ⟨sz (by simp only [*, sM, sE, s1, s0, s110, s101, txt_cat, txt_len, cut_to, cut_from, cut_init, List.length_append, List.length_cons, List.length_nil, List.length_take, List.length_drop, List.length_dropLast, List.length_reverse]; omega), ?_⟩))
    unfold tieM at hQ
    by_cases c : n % 2 = 0
    · rw [show decide (V.int (((n : Nat) : Int) % 2) = V.int 0) = true from decide_eq_true (by rw [show ((n : Nat) : Int) % 2 = ((n % 2 : Nat) : Int) from rfl, c]; rfl)]
      rw [if_pos c] at hQ
      (repeat (first | refine ⟨_, rfl, ?_⟩ | refine ⟨rfl, ?_⟩ | refine ⟨_, _, rfl, rfl, ?_⟩ | refine ⟨hz, ?_⟩ | refine ⟨(show 3 ≤ sizeLine by decide), ?_⟩ | refine ⟨(show 2 ≤ sizeLine by decide), ?_⟩ | refine ⟨by decide +kernel, ?_⟩ | refine ⟨.inl ⟨by decide, by decide⟩, ?_⟩ | refine ⟨(by show (0 : Int) < _; omega), ?_⟩ | refine ⟨⟨by omega, by omega⟩, ?_⟩ | refine .inl ⟨_, rfl, sz (by simp only [*, sM, sE, s1, s0, s110, s101, txt_cat, txt_len, cut_to, cut_from, cut_init, List.length_append, List.length_cons, List.length_nil, List.length_take, List.length_drop, List.length_dropLast, List.length_reverse]; omega), ?_⟩ | refine ⟨sz (by simp only [*, sM, sE, s1, s0, s110, s101, txt_cat, txt_len, cut_to, cut_from, cut_init, List.length_append, List.length_cons, List.length_nil, List.length_take, List.length_drop, List.length_dropLast, List.length_reverse]; omega), ?_⟩))
      intro H1 e1
      (repeat (first | refine ⟨_, rfl, ?_⟩ | refine ⟨rfl, ?_⟩ | refine ⟨_, _, rfl, rfl, ?_⟩ | refine ⟨hz, ?_⟩ | refine ⟨(show 3 ≤ sizeLine by decide), ?_⟩ | refine ⟨(show 2 ≤ sizeLine by decide), ?_⟩ | refine ⟨by decide +kernel, ?_⟩ | refine ⟨.inl ⟨by decide, by decide⟩, ?_⟩ | refine ⟨(by show (0 : Int) < _; omega), ?_⟩ | refine ⟨⟨by omega, by omega⟩, ?_⟩ | refine .inl ⟨_, rfl, sz (by simp only [*, sM, sE, s1, s0, s110, s101, txt_cat, txt_len, cut_to, cut_from, cut_init, List.length_append, List.length_cons, List.length_nil, List.length_take, List.length_drop, List.length_dropLast, List.length_reverse]; omega), ?_⟩ | refine ⟨sz (by simp only [*, sM, sE, s1, s0, s110, s101, txt_cat, txt_len, cut_to, cut_from, cut_init, List.length_append, List.length_cons, List.length_nil, List.length_take, List.length_drop, List.length_dropLast, List.length_reverse]; omega), ?_⟩))
      exact hQ H1 e1
    · rw [show decide (V.int (((n : Nat) : Int) % 2) = V.int 0) = false from decide_eq_false (fun z => c (by have := V.int.inj z; omega))]
      rw [if_neg c] at hQ
      (repeat (first | refine ⟨_, rfl, ?_⟩ | refine ⟨rfl, ?_⟩ | refine ⟨_, _, rfl, rfl, ?_⟩ | refine ⟨hz, ?_⟩ | refine ⟨(show 3 ≤ sizeLine by decide), ?_⟩ | refine ⟨(show 2 ≤ sizeLine by decide), ?_⟩ | refine ⟨by decide +kernel, ?_⟩ | refine ⟨.inl ⟨by decide, by decide⟩, ?_⟩ | refine ⟨(by show (0 : Int) < _; omega), ?_⟩ | refine ⟨⟨by omega, by omega⟩, ?_⟩ | refine .inl ⟨_, rfl, sz (by simp only [*, sM, sE, s1, s0, s110, s101, txt_cat, txt_len, cut_to, cut_from, cut_init, List.length_append, List.length_cons, List.length_nil, List.length_take, List.length_drop, List.length_dropLast, List.length_reverse]; omega), ?_⟩ | refine ⟨sz (by simp only [*, sM, sE, s1, s0, s110, s101, txt_cat, txt_len, cut_to, cut_from, cut_init, List.length_append, List.length_cons, List.length_nil, List.length_take, List.length_drop, List.length_dropLast, List.length_reverse]; omega), ?_⟩))
      intro H1 e1
      (repeat (first | refine ⟨_, rfl, ?_⟩ | refine ⟨rfl, ?_⟩ | refine ⟨_, _, rfl, rfl, ?_⟩ | refine ⟨hz, ?_⟩ | refine ⟨(show 3 ≤ sizeLine by decide), ?_⟩ | refine ⟨(show 2 ≤ sizeLine by decide), ?_⟩ | refine ⟨by decide +kernel, ?_⟩ | refine ⟨.inl ⟨by decide, by decide⟩, ?_⟩ | refine ⟨(by show (0 : Int) < _; omega), ?_⟩ | refine ⟨⟨by omega, by omega⟩, ?_⟩ | refine .inl ⟨_, rfl, sz (by simp only [*, sM, sE, s1, s0, s110, s101, txt_cat, txt_len, cut_to, cut_from, cut_init, List.length_append, List.length_cons, List.length_nil, List.length_take, List.length_drop, List.length_dropLast, List.length_reverse]; omega), ?_⟩ | refine ⟨sz (by simp only [*, sM, sE, s1, s0, s110, s101, txt_cat, txt_len, cut_to, cut_from, cut_init, List.length_append, List.length_cons, List.length_nil, List.length_take, List.length_drop, List.length_dropLast, List.length_reverse]; omega), ?_⟩))
      intro H2 e2
      (repeat (first | refine ⟨_, rfl, ?_⟩ | refine ⟨rfl, ?_⟩ | refine ⟨_, _, rfl, rfl, ?_⟩ | refine ⟨hz, ?_⟩ | refine ⟨(show 3 ≤ sizeLine by decide), ?_⟩ | refine ⟨(show 2 ≤ sizeLine by decide), ?_⟩ | refine ⟨by decide +kernel, ?_⟩ | refine ⟨.inl ⟨by decide, by decide⟩, ?_⟩ | refine ⟨(by show (0 : Int) < _; omega), ?_⟩ | refine ⟨⟨by omega, by omega⟩, ?_⟩ | refine .inl ⟨_, rfl, sz (by simp only [*, sM, sE, s1, s0, s110, s101, txt_cat, txt_len, cut_to, cut_from, cut_init, List.length_append, List.length_cons, List.length_nil, List.length_take, List.length_drop, List.length_dropLast, List.length_reverse]; omega), ?_⟩ | refine ⟨sz (by simp only [*, sM, sE, s1, s0, s110, s101, txt_cat, txt_len, cut_to, cut_from, cut_init, List.length_append, List.length_cons, List.length_nil, List.length_take, List.length_drop, List.length_dropLast, List.length_reverse]; omega), ?_⟩))
      exact hQ H2 (e1.trans e2)
def N_how_many_trees : List Str := ["pairs"]
theorem sc_how_many_trees : FnScope N_how_many_trees ["pairs"] (defScope s_how_many_trees) := ⟨rfl, rfl, rfl, by decide +kernel, rfl, by decide +kernel, by decide +kernel⟩
def sp_trees (K : PySem.W.Frag) : Sp := fun vs H Q _ => ∃ n : Nat, vs = [.int (n : Nat)] ∧ 1 ≤ n ∧ n ≤ 200 ∧ Gives K (.int (treesM n)) H Q
theorem c_how_many_trees (T : Tx K mg) : Cl Pg w K mg base 5 "how_many_trees" (sp_trees K) :=
  have c_all_in := c_all_in (Pg := Pg) (w := w) (base := base) T
  have c_with_tie := c_with_tie (Pg := Pg) (w := w) (base := base) T
  have c_with_place := c_with_place (Pg := Pg) (w := w) (base := base) T
  have c_need_number := c_need_number (Pg := Pg) (w := w) (base := base) T
  calD T.g_how_many_trees T.f_how_many_trees sc_how_many_trees (fun _ _ _ _ _ _ us hl => match us, hl with | [_], _ => rfl) (fun vs H Q E h => by obtain ⟨i, rfl, _⟩ := h; rfl) fun cdv A outer st H vs Q E hr h => by
    obtain ⟨n, rfl, h1, hn, hQ⟩ := h
    refine ⟨_, (pss_cons (ps_expr (C8.pe_c c_need_number hr (by decide) (by rfl) (pa_cons (pv 0) (pa_cons pe_str (pa_cons pe_int (pa_cons (C8.pe_gc (by rfl) T.c_MOST_PAIRS_words) pa_nil))))))
      (pss_one (ps_ret (pe_op op_sub (pe_op op_add (C8.pe_c c_with_place hr (by decide) (by rfl) (pa_cons (pv 0) pa_nil)) (C8.pe_c c_with_tie hr (by decide) (by rfl) (pa_cons (pv 0) pa_nil))) (C8.pe_c c_all_in hr (by decide) (by rfl) (pa_cons (pv 0) pa_nil)))))), ?_⟩
    (repeat (first | refine ⟨_, rfl, ?_⟩ | refine ⟨rfl, ?_⟩ | refine ⟨_, _, rfl, rfl, ?_⟩ | refine ⟨hz, ?_⟩ | refine ⟨(show 3 ≤ sizeLine by decide), ?_⟩ | refine ⟨(show 2 ≤ sizeLine by decide), ?_⟩ | refine ⟨by decide +kernel, ?_⟩ | refine ⟨.inl ⟨by decide, by decide⟩, ?_⟩ | refine ⟨(by show (0 : Int) < _; omega), ?_⟩ | refine ⟨⟨by omega, by omega⟩, ?_⟩ | refine .inl ⟨_, rfl, sz (by simp only [*, sM, sE, s1, s0, s110, s101, txt_cat, txt_len, cut_to, cut_from, cut_init, List.length_append, List.length_cons, List.length_nil, List.length_take, List.length_drop, List.length_dropLast, List.length_reverse]; omega), ?_⟩ | refine ⟨sz (by simp only [*, sM, sE, s1, s0, s110, s101, txt_cat, txt_len, cut_to, cut_from, cut_init, List.length_append, List.length_cons, List.length_nil, List.length_take, List.length_drop, List.length_dropLast, List.length_reverse]; omega), ?_⟩))
    refine ⟨_, _, _, _, rfl, by omega, by omega, fun H1 e1 => ?_⟩
    (repeat (first | refine ⟨_, rfl, ?_⟩ | refine ⟨rfl, ?_⟩ | refine ⟨_, _, rfl, rfl, ?_⟩ | refine ⟨hz, ?_⟩ | refine ⟨(show 3 ≤ sizeLine by decide), ?_⟩ | refine ⟨(show 2 ≤ sizeLine by decide), ?_⟩ | refine ⟨by decide +kernel, ?_⟩ | refine ⟨.inl ⟨by decide, by decide⟩, ?_⟩ | refine ⟨(by show (0 : Int) < _; omega), ?_⟩ | refine ⟨⟨by omega, by omega⟩, ?_⟩ | refine .inl ⟨_, rfl, sz (by simp only [*, sM, sE, s1, s0, s110, s101, txt_cat, txt_len, cut_to, cut_from, cut_init, List.length_append, List.length_cons, List.length_nil, List.length_take, List.length_drop, List.length_dropLast, List.length_reverse]; omega), ?_⟩ | refine ⟨sz (by simp only [*, sM, sE, s1, s0, s110, s101, txt_cat, txt_len, cut_to, cut_from, cut_init, List.length_append, List.length_cons, List.length_nil, List.length_take, List.length_drop, List.length_dropLast, List.length_reverse]; omega), ?_⟩))
    refine ⟨by omega, by omega, fun H2 e2 => ?_⟩
    (repeat (first | refine ⟨_, rfl, ?_⟩ | refine ⟨rfl, ?_⟩ | refine ⟨_, _, rfl, rfl, ?_⟩ | refine ⟨hz, ?_⟩ | refine ⟨(show 3 ≤ sizeLine by decide), ?_⟩ | refine ⟨(show 2 ≤ sizeLine by decide), ?_⟩ | refine ⟨by decide +kernel, ?_⟩ | refine ⟨.inl ⟨by decide, by decide⟩, ?_⟩ | refine ⟨(by show (0 : Int) < _; omega), ?_⟩ | refine ⟨⟨by omega, by omega⟩, ?_⟩ | refine .inl ⟨_, rfl, sz (by simp only [*, sM, sE, s1, s0, s110, s101, txt_cat, txt_len, cut_to, cut_from, cut_init, List.length_append, List.length_cons, List.length_nil, List.length_take, List.length_drop, List.length_dropLast, List.length_reverse]; omega), ?_⟩ | refine ⟨sz (by simp only [*, sM, sE, s1, s0, s110, s101, txt_cat, txt_len, cut_to, cut_from, cut_init, List.length_append, List.length_cons, List.length_nil, List.length_take, List.length_drop, List.length_dropLast, List.length_reverse]; omega), ?_⟩))
    refine ⟨by omega, fun H3 e3 => ?_⟩
    (repeat (first | refine ⟨_, rfl, ?_⟩ | refine ⟨rfl, ?_⟩ | refine ⟨_, _, rfl, rfl, ?_⟩ | refine ⟨hz, ?_⟩ | refine ⟨(show 3 ≤ sizeLine by decide), ?_⟩ | refine ⟨(show 2 ≤ sizeLine by decide), ?_⟩ | refine ⟨by decide +kernel, ?_⟩ | refine ⟨.inl ⟨by decide, by decide⟩, ?_⟩ | refine ⟨(by show (0 : Int) < _; omega), ?_⟩ | refine ⟨⟨by omega, by omega⟩, ?_⟩ | refine .inl ⟨_, rfl, sz (by simp only [*, sM, sE, s1, s0, s110, s101, txt_cat, txt_len, cut_to, cut_from, cut_init, List.length_append, List.length_cons, List.length_nil, List.length_take, List.length_drop, List.length_dropLast, List.length_reverse]; omega), ?_⟩ | refine ⟨sz (by simp only [*, sM, sE, s1, s0, s110, s101, txt_cat, txt_len, cut_to, cut_from, cut_init, List.length_append, List.length_cons, List.length_nil, List.length_take, List.length_drop, List.length_dropLast, List.length_reverse]; omega), ?_⟩))
    intro H4 e4
    (repeat (first | refine ⟨_, rfl, ?_⟩ | refine ⟨rfl, ?_⟩ | refine ⟨_, _, rfl, rfl, ?_⟩ | refine ⟨hz, ?_⟩ | refine ⟨(show 3 ≤ sizeLine by decide), ?_⟩ | refine ⟨(show 2 ≤ sizeLine by decide), ?_⟩ | refine ⟨by decide +kernel, ?_⟩ | refine ⟨.inl ⟨by decide, by decide⟩, ?_⟩ | refine ⟨(by show (0 : Int) < _; omega), ?_⟩ | refine ⟨⟨by omega, by omega⟩, ?_⟩ | refine .inl ⟨_, rfl, sz (by simp only [*, sM, sE, s1, s0, s110, s101, txt_cat, txt_len, cut_to, cut_from, cut_init, List.length_append, List.length_cons, List.length_nil, List.length_take, List.length_drop, List.length_dropLast, List.length_reverse]; omega), ?_⟩ | refine ⟨sz (by simp only [*, sM, sE, s1, s0, s110, s101, txt_cat, txt_len, cut_to, cut_from, cut_init, List.length_append, List.length_cons, List.length_nil, List.length_take, List.length_drop, List.length_dropLast, List.length_reverse]; omega), ?_⟩))
    exact hQ H4 (((e1.trans e2).trans e3).trans e4)
end
end EH

set_option Elab.async false
set_option linter.all false
set_option maxRecDepth 100000
set_option maxHeartbeats 4000000
namespace EH
open PySem PySem.Spec PyProof.Rows L2 LamX EL EM
/-- a word that can be pulled, of n pairs -/
structure PuOk (n : Nat) (x : W) : Prop where
  ok : WoOk x
  len : x.length = 2 * n
  pre : x.take 3 = p110
structure PsOk (n : Nat) (ws : List W) : Prop where
  all : ∀ x ∈ ws, PuOk n x
  few : ws.length ≤ 60
  nd : ws.Nodup
theorem wds_at {ws : List W} {i : Nat} {x : V} (h : (wds ws)[i]? = some x) : ∃ z, ws[i]? = some z ∧ x = V.str (txt z) := by
  unfold wds at h
  rw [List.getElem?_map] at h
  cases q : ws[i]? with
  | none => rw [q] at h; cases h
  | some z => rw [q] at h; exact ⟨z, rfl, (Option.some.inj h).symm⟩
theorem nodup_txt {ws : List W} (h : ws.Nodup) : (ws.map txt).Nodup := List.pairwise_map.mpr (h.imp fun n z => n (txt_inj z))
section
variable {Pg : Program} {w : World} {K : PySem.W.Frag} {mg : Str → Option Value} {base : Heap}
def N_is_pull : List Str := ["value", "pairs"]
theorem sc_is_pull : FnScope N_is_pull ["value", "pairs"] (defScope s_is_pull) := ⟨rfl, rfl, rfl, by decide +kernel, rfl, by decide +kernel, by decide +kernel⟩
def sp_is_pull (K : PySem.W.Frag) : Sp := fun vs H Q _ => ∃ (x : W) (n : Nat), vs = [.str (txt x), .int (n : Nat)] ∧ PuOk n x ∧ Gives K (.bl true) H Q
theorem c_is_pull (T : Tx K mg) : Cl Pg w K mg base 3 "is_pull" (sp_is_pull K) :=
  have c_is_word := c_is_word (Pg := Pg) (w := w) (base := base) T
  have c_can_pull_in := c_can_pull_in (Pg := Pg) (w := w) (base := base) T
  calD T.g_is_pull T.f_is_pull sc_is_pull (fun _ _ _ _ _ _ us hl => match us, hl with | [_, _], _ => rfl) (fun vs H Q E h => by obtain ⟨i, _, rfl, _⟩ := h; rfl) fun cdv A outer st H vs Q E hr h => by
    obtain ⟨x, n, rfl, hx, hQ⟩ := h
    have hl := hx.len
    have hi := hx.ok.hi
    have hz : (txt x).length ≤ sizeLine := sz (by rw [txt_len]; omega)
    refine ⟨_, (pss_one (ps_ret (pe_and (C8.pe_c c_is_word hr (by decide) (by rfl) (pa_cons (pv 0) pa_nil)) (pe_and (pe_cmpR op_eq (pe_callB call_len_str (by rfl) T.n_len PySem.boot_len (pa_cons (pv 0) pa_nil)) (pe_op op_mul pe_int (pv 1)) (nomark _)) (pe_one (C8.pe_c c_can_pull_in hr (by decide) (by rfl) (pa_cons (pv 0) pa_nil))))))), ?_⟩
    refine ⟨_, rfl, x, rfl, hx.ok, fun H1 e1 => ⟨true, rfl, ?_⟩⟩
    (repeat (first | refine ⟨_, rfl, ?_⟩ | refine ⟨rfl, ?_⟩ | refine ⟨_, _, rfl, rfl, ?_⟩ | refine ⟨hz, ?_⟩ | refine ⟨(show 3 ≤ sizeLine by decide), ?_⟩ | refine ⟨(show 2 ≤ sizeLine by decide), ?_⟩ | refine ⟨by decide +kernel, ?_⟩ | refine ⟨.inl ⟨by decide, by decide⟩, ?_⟩ | refine ⟨(by show (0 : Int) < _; omega), ?_⟩ | refine ⟨⟨by omega, by omega⟩, ?_⟩ | refine .inl ⟨_, rfl, sz (by simp only [*, sM, sE, s1, s0, s110, s101, txt_cat, txt_len, cut_to, cut_from, cut_init, List.length_append, List.length_cons, List.length_nil, List.length_take, List.length_drop, List.length_dropLast, List.length_reverse]; omega), ?_⟩ | refine ⟨sz (by simp only [*, sM, sE, s1, s0, s110, s101, txt_cat, txt_len, cut_to, cut_from, cut_init, List.length_append, List.length_cons, List.length_nil, List.length_take, List.length_drop, List.length_dropLast, List.length_reverse]; omega), ?_⟩))
    rw [show decide (V.int ((txt x).length : Nat) = V.int (2 * (n : Nat))) = true from decide_eq_true (by rw [txt_len, hl]; rfl)]
    (repeat (first | refine ⟨_, rfl, ?_⟩ | refine ⟨rfl, ?_⟩ | refine ⟨_, _, rfl, rfl, ?_⟩ | refine ⟨hz, ?_⟩ | refine ⟨(show 3 ≤ sizeLine by decide), ?_⟩ | refine ⟨(show 2 ≤ sizeLine by decide), ?_⟩ | refine ⟨by decide +kernel, ?_⟩ | refine ⟨.inl ⟨by decide, by decide⟩, ?_⟩ | refine ⟨(by show (0 : Int) < _; omega), ?_⟩ | refine ⟨⟨by omega, by omega⟩, ?_⟩ | refine .inl ⟨_, rfl, sz (by simp only [*, sM, sE, s1, s0, s110, s101, txt_cat, txt_len, cut_to, cut_from, cut_init, List.length_append, List.length_cons, List.length_nil, List.length_take, List.length_drop, List.length_dropLast, List.length_reverse]; omega), ?_⟩ | refine ⟨sz (by simp only [*, sM, sE, s1, s0, s110, s101, txt_cat, txt_len, cut_to, cut_from, cut_init, List.length_append, List.length_cons, List.length_nil, List.length_take, List.length_drop, List.length_dropLast, List.length_reverse]; omega), ?_⟩))
    refine ⟨by omega, fun H2 e2 => ?_⟩
    rw [decide_eq_true hx.pre]
    exact hQ H2 (e1.trans e2)
def N_are_pulls : List Str := ["value", "pairs", "word"]
theorem sc_are_pulls : FnScope N_are_pulls ["value", "pairs"] (defScope s_are_pulls) := ⟨rfl, rfl, rfl, by decide +kernel, rfl, by decide +kernel, by decide +kernel⟩
def sp_are_pulls (K : PySem.W.Frag) : Sp := fun vs H Q _ => ∃ (a : Addr) (n : Nat) (ws : List W), vs = [.ref a, .int (n : Nat)] ∧ H a = some (.lst (wds ws)) ∧ PsOk n ws ∧ Gives K (.bl true) H Q
theorem c_are_pulls (T : Tx K mg) : Cl Pg w K mg base 4 "are_pulls" (sp_are_pulls K) :=
  have c_is_pull := c_is_pull (Pg := Pg) (w := w) (base := base) T
  calD T.g_are_pulls T.f_are_pulls sc_are_pulls (fun _ _ _ _ _ _ us hl => match us, hl with | [_, _], _ => rfl) (fun vs H Q E h => by obtain ⟨i, _, _, rfl, _⟩ := h; rfl) fun cdv A outer st H vs Q E hr h => by
    obtain ⟨a, n, ws, rfl, ha, hw, hQ⟩ := h
    have lw : (wds ws).length = ws.length := List.length_map _
    have h60 := hw.few
    refine ⟨_, (pss_cons (ps_if (PW.pt (pw_or (pt_not (pt_val (pe_callB call_isiT (by rfl) T.n_isinstance (by decide +kernel) (pa_cons (pv 0) (pa_cons (pe_tup (pa_cons (pe_bltn (v := .ty "list") (u := .type "list") (by rfl) T.n_list (by decide +kernel) rfl) (pa_cons (pe_bltn (v := .ty "tuple") (u := .type "tuple") (by rfl) T.n_tuple (by decide +kernel) rfl) pa_nil))) pa_nil))))) (pw_or1 (pt_cmpR op_gt (pe_callB call_len_seq (by rfl) T.n_len PySem.boot_len (pa_cons (pv 0) pa_nil)) (C8.pe_gc (by rfl) T.c_MOST_WORDS) (nomark _))))) (pss_one (ps_ret pe_bl)) pss_nil)
      (pss_cons (ps_if (pt_not (pt_val (pe_callB (cr_all rfl) (by rfl) T.n_all (by decide +kernel) (pa_cons (pe_lc (own := [("word", 2)]) (g := gName 2) (tt := tYes) (by rfl) sc_are_pulls.nd (pi_list (pv 0)) (blkOk_by (own := [("word", 2)]) (N := N_are_pulls) (sc := (defScope s_are_pulls)) (by decide +kernel)) (fun _ _ _ _ _ => pg_name (i := 2) sc_are_pulls.nd rfl (Or.inl rfl)) (fun _ _ _ _ _ => pts_nil) (fun _ _ _ _ _ => (C8.pe_c c_is_pull hr (by decide) (by rfl) (pa_cons (pv 2) (pa_cons (pv 1) pa_nil))))) pa_nil)))) (pss_one (ps_ret pe_bl)) pss_nil)
      (pss_one (ps_ret (pe_cmpR op_eq (pe_lenSetS (by rfl) T.n_len (by rfl) T.n_set (pv 0)) (pe_callB call_len_seq (by rfl) T.n_len PySem.boot_len (pa_cons (pv 0) pa_nil)) (nomark _)))))), ?_⟩
    refine ⟨_, rfl, (show 2 ≤ sizeLine by decide), fun tp htp => ?_⟩
    have e1 : Ex K H (upd H tp (.tup [.ty "list", .ty "tuple"])) := Ex.new htp
    refine ⟨_, tp, _, _, _, true, rfl, upd_same, .cons (.ty _) (.cons (.ty _) .nil), .base (.lst (e1.lst ha)), kitAny_cons (b := true) (kit_ty (by decide +kernel)) (fun z => by cases z) (fun _ => rfl), true, rfl, ?_⟩
    have ha1 := e1.lst ha
    (repeat (first | refine ⟨_, rfl, ?_⟩ | refine ⟨rfl, ?_⟩ | refine ⟨_, _, rfl, rfl, ?_⟩ | refine ⟨hz, ?_⟩ | refine ⟨(show 3 ≤ sizeLine by decide), ?_⟩ | refine ⟨(show 2 ≤ sizeLine by decide), ?_⟩ | refine ⟨by decide +kernel, ?_⟩ | refine ⟨.inl ⟨by decide, by decide⟩, ?_⟩ | refine ⟨(by show (0 : Int) < _; omega), ?_⟩ | refine ⟨⟨by omega, by omega⟩, ?_⟩ | refine .inl ⟨_, rfl, sz (by simp only [*, sM, sE, s1, s0, s110, s101, txt_cat, txt_len, cut_to, cut_from, cut_init, List.length_append, List.length_cons, List.length_nil, List.length_take, List.length_drop, List.length_dropLast, List.length_reverse]; omega), ?_⟩ | refine ⟨sz (by simp only [*, sM, sE, s1, s0, s110, s101, txt_cat, txt_len, cut_to, cut_from, cut_init, List.length_append, List.length_cons, List.length_nil, List.length_take, List.length_drop, List.length_dropLast, List.length_reverse]; omega), ?_⟩))
    refine ⟨a, wds ws, rfl, .inl (.inl (.inl ha1)), ?_⟩
    (repeat (first | refine ⟨_, rfl, ?_⟩ | refine ⟨rfl, ?_⟩ | refine ⟨_, _, rfl, rfl, ?_⟩ | refine ⟨hz, ?_⟩ | refine ⟨(show 3 ≤ sizeLine by decide), ?_⟩ | refine ⟨(show 2 ≤ sizeLine by decide), ?_⟩ | refine ⟨by decide +kernel, ?_⟩ | refine ⟨.inl ⟨by decide, by decide⟩, ?_⟩ | refine ⟨(by show (0 : Int) < _; omega), ?_⟩ | refine ⟨⟨by omega, by omega⟩, ?_⟩ | refine .inl ⟨_, rfl, sz (by simp only [*, sM, sE, s1, s0, s110, s101, txt_cat, txt_len, cut_to, cut_from, cut_init, List.length_append, List.length_cons, List.length_nil, List.length_take, List.length_drop, List.length_dropLast, List.length_reverse]; omega), ?_⟩ | refine ⟨sz (by simp only [*, sM, sE, s1, s0, s110, s101, txt_cat, txt_len, cut_to, cut_from, cut_init, List.length_append, List.length_cons, List.length_nil, List.length_take, List.length_drop, List.length_dropLast, List.length_reverse]; omega), ?_⟩))
    rw [show decide ((300 : Int) < (((wds ws).length : Nat) : Int)) = false from decide_eq_false (by rw [lw]; omega)]
    (repeat (first | refine ⟨_, rfl, ?_⟩ | refine ⟨rfl, ?_⟩ | refine ⟨_, _, rfl, rfl, ?_⟩ | refine ⟨hz, ?_⟩ | refine ⟨(show 3 ≤ sizeLine by decide), ?_⟩ | refine ⟨(show 2 ≤ sizeLine by decide), ?_⟩ | refine ⟨by decide +kernel, ?_⟩ | refine ⟨.inl ⟨by decide, by decide⟩, ?_⟩ | refine ⟨(by show (0 : Int) < _; omega), ?_⟩ | refine ⟨⟨by omega, by omega⟩, ?_⟩ | refine .inl ⟨_, rfl, sz (by simp only [*, sM, sE, s1, s0, s110, s101, txt_cat, txt_len, cut_to, cut_from, cut_init, List.length_append, List.length_cons, List.length_nil, List.length_take, List.length_drop, List.length_dropLast, List.length_reverse]; omega), ?_⟩ | refine ⟨sz (by simp only [*, sM, sE, s1, s0, s110, s101, txt_cat, txt_len, cut_to, cut_from, cut_init, List.length_append, List.length_cons, List.length_nil, List.length_take, List.length_drop, List.length_dropLast, List.length_reverse]; omega), ?_⟩))
    refine ⟨⟨_, .inl (.inl ha1)⟩, lc_lst (K := K) (.inl (.inl ha1)) (fun i => List.replicate i (V.bl true)) rfl (fun i hi => by rw [List.length_replicate]; omega) (fun i x L H' Nx hb he hl hL hY hN => ?_) (fun L H' hL he hl => ?_)⟩
    · refine ⟨rfl, ?_⟩
      obtain ⟨z, hz, rfl⟩ := wds_at hb
      (repeat (first | refine ⟨_, rfl, ?_⟩ | refine ⟨rfl, ?_⟩ | refine ⟨_, _, rfl, rfl, ?_⟩ | refine ⟨hz, ?_⟩ | refine ⟨(show 3 ≤ sizeLine by decide), ?_⟩ | refine ⟨(show 2 ≤ sizeLine by decide), ?_⟩ | refine ⟨by decide +kernel, ?_⟩ | refine ⟨.inl ⟨by decide, by decide⟩, ?_⟩ | refine ⟨(by show (0 : Int) < _; omega), ?_⟩ | refine ⟨⟨by omega, by omega⟩, ?_⟩ | refine .inl ⟨_, rfl, sz (by simp only [*, sM, sE, s1, s0, s110, s101, txt_cat, txt_len, cut_to, cut_from, cut_init, List.length_append, List.length_cons, List.length_nil, List.length_take, List.length_drop, List.length_dropLast, List.length_reverse]; omega), ?_⟩ | refine ⟨sz (by simp only [*, sM, sE, s1, s0, s110, s101, txt_cat, txt_len, cut_to, cut_from, cut_init, List.length_append, List.length_cons, List.length_nil, List.length_take, List.length_drop, List.length_dropLast, List.length_reverse]; omega), ?_⟩))
      refine ⟨z, n, rfl, hw.all z (List.mem_of_getElem? hz), fun H1 e1 => ⟨_, hY H1 _ e1 (by rw [List.replicate_succ'])⟩⟩
    · refine ⟨L, List.replicate (wds ws).length true, rfl, .inl (.inl (by rw [List.map_replicate]; exact hl)), ?_⟩
      rw [show (List.replicate (wds ws).length true).all id = true by rw [List.all_replicate]; simp]
      (repeat (first | refine ⟨_, rfl, ?_⟩ | refine ⟨rfl, ?_⟩ | refine ⟨_, _, rfl, rfl, ?_⟩ | refine ⟨hz, ?_⟩ | refine ⟨(show 3 ≤ sizeLine by decide), ?_⟩ | refine ⟨(show 2 ≤ sizeLine by decide), ?_⟩ | refine ⟨by decide +kernel, ?_⟩ | refine ⟨.inl ⟨by decide, by decide⟩, ?_⟩ | refine ⟨(by show (0 : Int) < _; omega), ?_⟩ | refine ⟨⟨by omega, by omega⟩, ?_⟩ | refine .inl ⟨_, rfl, sz (by simp only [*, sM, sE, s1, s0, s110, s101, txt_cat, txt_len, cut_to, cut_from, cut_init, List.length_append, List.length_cons, List.length_nil, List.length_take, List.length_drop, List.length_dropLast, List.length_reverse]; omega), ?_⟩ | refine ⟨sz (by simp only [*, sM, sE, s1, s0, s110, s101, txt_cat, txt_len, cut_to, cut_from, cut_init, List.length_append, List.length_cons, List.length_nil, List.length_take, List.length_drop, List.length_dropLast, List.length_reverse]; omega), ?_⟩))
      have ha2 := he.lst ha1
      have ew : (ws.map txt).map V.str = wds ws := List.map_map
      refine ⟨a, ws.map txt, rfl, .inl (.inl (by rw [ew]; exact ha2)), nodup_txt hw.nd, by rw [List.length_map]; omega, ?_⟩
      (repeat (first | refine ⟨_, rfl, ?_⟩ | refine ⟨rfl, ?_⟩ | refine ⟨_, _, rfl, rfl, ?_⟩ | refine ⟨hz, ?_⟩ | refine ⟨(show 3 ≤ sizeLine by decide), ?_⟩ | refine ⟨(show 2 ≤ sizeLine by decide), ?_⟩ | refine ⟨by decide +kernel, ?_⟩ | refine ⟨.inl ⟨by decide, by decide⟩, ?_⟩ | refine ⟨(by show (0 : Int) < _; omega), ?_⟩ | refine ⟨⟨by omega, by omega⟩, ?_⟩ | refine .inl ⟨_, rfl, sz (by simp only [*, sM, sE, s1, s0, s110, s101, txt_cat, txt_len, cut_to, cut_from, cut_init, List.length_append, List.length_cons, List.length_nil, List.length_take, List.length_drop, List.length_dropLast, List.length_reverse]; omega), ?_⟩ | refine ⟨sz (by simp only [*, sM, sE, s1, s0, s110, s101, txt_cat, txt_len, cut_to, cut_from, cut_init, List.length_append, List.length_cons, List.length_nil, List.length_take, List.length_drop, List.length_dropLast, List.length_reverse]; omega), ?_⟩))
      refine ⟨a, wds ws, rfl, .inl (.inl (.inl ha2)), ?_⟩
      (repeat (first | refine ⟨_, rfl, ?_⟩ | refine ⟨rfl, ?_⟩ | refine ⟨_, _, rfl, rfl, ?_⟩ | refine ⟨hz, ?_⟩ | refine ⟨(show 3 ≤ sizeLine by decide), ?_⟩ | refine ⟨(show 2 ≤ sizeLine by decide), ?_⟩ | refine ⟨by decide +kernel, ?_⟩ | refine ⟨.inl ⟨by decide, by decide⟩, ?_⟩ | refine ⟨(by show (0 : Int) < _; omega), ?_⟩ | refine ⟨⟨by omega, by omega⟩, ?_⟩ | refine .inl ⟨_, rfl, sz (by simp only [*, sM, sE, s1, s0, s110, s101, txt_cat, txt_len, cut_to, cut_from, cut_init, List.length_append, List.length_cons, List.length_nil, List.length_take, List.length_drop, List.length_dropLast, List.length_reverse]; omega), ?_⟩ | refine ⟨sz (by simp only [*, sM, sE, s1, s0, s110, s101, txt_cat, txt_len, cut_to, cut_from, cut_init, List.length_append, List.length_cons, List.length_nil, List.length_take, List.length_drop, List.length_dropLast, List.length_reverse]; omega), ?_⟩))
      show Q (.bl (decide (V.int ((ws.map txt).length : Nat) = V.int ((wds ws).length : Nat)))) H'
      rw [lw, List.length_map, decide_eq_true rfl]
      exact hQ H' (e1.trans he)
def N_need_book : List Str := ["value"]
theorem sc_need_book : FnScope N_need_book ["value"] (defScope s_need_book) := ⟨rfl, rfl, rfl, by decide +kernel, rfl, by decide +kernel, by decide +kernel⟩
def sp_need_book (K : PySem.W.Frag) : Sp := fun vs H Q _ => ∃ (b : Addr) (n : Int) (ws : List W), vs = [.ref b] ∧ BookAt K H b n ws ∧ Gives K .non H Q
theorem c_need_book (T : Tx K mg) : Cl Pg w K mg base 1 "need_book" (sp_need_book K) :=
  calD T.g_need_book T.f_need_book sc_need_book (fun _ _ _ _ _ _ us hl => match us, hl with | [_], _ => rfl) (fun vs H Q E h => by obtain ⟨i, _, _, rfl, _⟩ := h; rfl) fun cdv A outer st H vs Q E hr h => by
    obtain ⟨b, n, ws, rfl, ⟨dx, t, d, hb, ht, hd⟩, hQ⟩ := h
    refine ⟨_, (pss_one (ps_if (pt_not (pt_val (pe_callB (C8.call_isC T.bin) (by rfl) T.n_isinstance (by decide +kernel) (pa_cons (pv 0) (pa_cons (C8.pe_gc (v := V.ref (CB K)) (by rfl) ⟨_, T.g_Book, rfl⟩) pa_nil))))) pss_never pss_nil)), ?_⟩
    (repeat (first | refine ⟨_, rfl, ?_⟩ | refine ⟨rfl, ?_⟩ | refine ⟨_, _, rfl, rfl, ?_⟩ | refine ⟨hz, ?_⟩ | refine ⟨(show 3 ≤ sizeLine by decide), ?_⟩ | refine ⟨(show 2 ≤ sizeLine by decide), ?_⟩ | refine ⟨by decide +kernel, ?_⟩ | refine ⟨.inl ⟨by decide, by decide⟩, ?_⟩ | refine ⟨(by show (0 : Int) < _; omega), ?_⟩ | refine ⟨⟨by omega, by omega⟩, ?_⟩ | refine .inl ⟨_, rfl, sz (by simp only [*, sM, sE, s1, s0, s110, s101, txt_cat, txt_len, cut_to, cut_from, cut_init, List.length_append, List.length_cons, List.length_nil, List.length_take, List.length_drop, List.length_dropLast, List.length_reverse]; omega), ?_⟩ | refine ⟨sz (by simp only [*, sM, sE, s1, s0, s110, s101, txt_cat, txt_len, cut_to, cut_from, cut_init, List.length_append, List.length_cons, List.length_nil, List.length_take, List.length_drop, List.length_dropLast, List.length_reverse]; omega), ?_⟩))
    refine ⟨b, dx, _, rfl, hb, ?_⟩
    (repeat (first | refine ⟨_, rfl, ?_⟩ | refine ⟨rfl, ?_⟩ | refine ⟨_, _, rfl, rfl, ?_⟩ | refine ⟨hz, ?_⟩ | refine ⟨(show 3 ≤ sizeLine by decide), ?_⟩ | refine ⟨(show 2 ≤ sizeLine by decide), ?_⟩ | refine ⟨by decide +kernel, ?_⟩ | refine ⟨.inl ⟨by decide, by decide⟩, ?_⟩ | refine ⟨(by show (0 : Int) < _; omega), ?_⟩ | refine ⟨⟨by omega, by omega⟩, ?_⟩ | refine .inl ⟨_, rfl, sz (by simp only [*, sM, sE, s1, s0, s110, s101, txt_cat, txt_len, cut_to, cut_from, cut_init, List.length_append, List.length_cons, List.length_nil, List.length_take, List.length_drop, List.length_dropLast, List.length_reverse]; omega), ?_⟩ | refine ⟨sz (by simp only [*, sM, sE, s1, s0, s110, s101, txt_cat, txt_len, cut_to, cut_from, cut_init, List.length_append, List.length_cons, List.length_nil, List.length_take, List.length_drop, List.length_dropLast, List.length_reverse]; omega), ?_⟩))
    exact gk hQ
def N_need_fitting : List Str := ["book", "value", "part"]
theorem sc_need_fitting : FnScope N_need_fitting ["book", "value", "part"] (defScope s_need_fitting) := ⟨rfl, rfl, rfl, by decide +kernel, rfl, by decide +kernel, by decide +kernel⟩
def sp_need_fitting (K : PySem.W.Frag) : Sp := fun vs H Q _ => ∃ (b : Addr) (n : Nat) (ws : List W) (x : W) (s : Str), vs = [.ref b, .str (txt x), .str s] ∧ BookAt K H b (n : Nat) ws ∧ x.length ≤ 1000 ∧ x.length / 2 = n ∧ Gives K .non H Q
theorem c_need_fitting (T : Tx K mg) : Cl Pg w K mg base 1 "need_fitting" (sp_need_fitting K) :=
  calD T.g_need_fitting T.f_need_fitting sc_need_fitting (fun _ _ _ _ _ _ us hl => match us, hl with | [_, _, _], _ => rfl) (fun vs H Q E h => by obtain ⟨i, _, _, _, _, rfl, _⟩ := h; rfl) fun cdv A outer st H vs Q E hr h => by
    obtain ⟨b, n, ws, x, s, rfl, ⟨dx, t, d, hb, ht, hd⟩, hx, hn, hQ⟩ := h
    have hz : (txt x).length ≤ sizeLine := sz (by rw [txt_len]; omega)
    refine ⟨_, (pss_one (ps_if (pt_cmpR op_ne (pe_op op_fdiv (pe_callB call_len_str (by rfl) T.n_len PySem.boot_len (pa_cons (pv 1) pa_nil)) pe_int) (pe_fld (pv 0) rfl) (nomark _)) pss_never pss_nil)), ?_⟩
    (repeat (first | refine ⟨_, rfl, ?_⟩ | refine ⟨rfl, ?_⟩ | refine ⟨_, _, rfl, rfl, ?_⟩ | refine ⟨hz, ?_⟩ | refine ⟨(show 3 ≤ sizeLine by decide), ?_⟩ | refine ⟨(show 2 ≤ sizeLine by decide), ?_⟩ | refine ⟨by decide +kernel, ?_⟩ | refine ⟨.inl ⟨by decide, by decide⟩, ?_⟩ | refine ⟨(by show (0 : Int) < _; omega), ?_⟩ | refine ⟨⟨by omega, by omega⟩, ?_⟩ | refine .inl ⟨_, rfl, sz (by simp only [*, sM, sE, s1, s0, s110, s101, txt_cat, txt_len, cut_to, cut_from, cut_init, List.length_append, List.length_cons, List.length_nil, List.length_take, List.length_drop, List.length_dropLast, List.length_reverse]; omega), ?_⟩ | refine ⟨sz (by simp only [*, sM, sE, s1, s0, s110, s101, txt_cat, txt_len, cut_to, cut_from, cut_init, List.length_append, List.length_cons, List.length_nil, List.length_take, List.length_drop, List.length_dropLast, List.length_reverse]; omega), ?_⟩))
    refine ⟨b, CB K, dx, bfs (n : Nat) t d, _, rfl, hb, T.bcl, T.bnP, bfs_p _ t d, ?_⟩
    (repeat (first | refine ⟨_, rfl, ?_⟩ | refine ⟨rfl, ?_⟩ | refine ⟨_, _, rfl, rfl, ?_⟩ | refine ⟨hz, ?_⟩ | refine ⟨(show 3 ≤ sizeLine by decide), ?_⟩ | refine ⟨(show 2 ≤ sizeLine by decide), ?_⟩ | refine ⟨by decide +kernel, ?_⟩ | refine ⟨.inl ⟨by decide, by decide⟩, ?_⟩ | refine ⟨(by show (0 : Int) < _; omega), ?_⟩ | refine ⟨⟨by omega, by omega⟩, ?_⟩ | refine .inl ⟨_, rfl, sz (by simp only [*, sM, sE, s1, s0, s110, s101, txt_cat, txt_len, cut_to, cut_from, cut_init, List.length_append, List.length_cons, List.length_nil, List.length_take, List.length_drop, List.length_dropLast, List.length_reverse]; omega), ?_⟩ | refine ⟨sz (by simp only [*, sM, sE, s1, s0, s110, s101, txt_cat, txt_len, cut_to, cut_from, cut_init, List.length_append, List.length_cons, List.length_nil, List.length_take, List.length_drop, List.length_dropLast, List.length_reverse]; omega), ?_⟩))
    rw [show decide (V.int (((txt x).length : Nat) / 2) = V.int ((n : Nat) : Int)) = true from decide_eq_true (by rw [txt_len, ← hn]; rfl)]
    exact gk hQ
def N_need_its_state : List Str := ["book", "state"]
theorem sc_need_its_state : FnScope N_need_its_state ["book", "state"] (defScope s_need_its_state) := ⟨rfl, rfl, rfl, by decide +kernel, rfl, by decide +kernel, by decide +kernel⟩
def sp_need_its (K : PySem.W.Frag) : Sp := fun vs H Q _ => ∃ (b : Addr) (n : Nat) (ws : List W) (x : W), vs = [.ref b, .str (txt x)] ∧ BookAt K H b (n : Nat) ws ∧ StOk x ∧ x.length / 2 = n ∧ Gives K .non H Q
theorem c_need_its_state (T : Tx K mg) : Cl Pg w K mg base 4 "need_its_state" (sp_need_its K) :=
  have c_need_book := c_need_book (Pg := Pg) (w := w) (base := base) T
  have c_need_state := c_need_state (Pg := Pg) (w := w) (base := base) T
  have c_need_fitting := c_need_fitting (Pg := Pg) (w := w) (base := base) T
  calD T.g_need_its_state T.f_need_its_state sc_need_its_state (fun _ _ _ _ _ _ us hl => match us, hl with | [_, _], _ => rfl) (fun vs H Q E h => by obtain ⟨i, _, _, _, rfl, _⟩ := h; rfl) fun cdv A outer st H vs Q E hr h => by
    obtain ⟨b, n, ws, x, rfl, hb, hs, hn, hQ⟩ := h
    refine ⟨_, (pss_cons (ps_expr (C8.pe_c c_need_book hr (by decide) (by rfl) (pa_cons (pv 0) pa_nil)))
      (pss_cons (ps_expr (C8.pe_c c_need_state hr (by decide) (by rfl) (pa_cons (pv 1) pa_nil)))
      (pss_one (ps_expr (C8.pe_c c_need_fitting hr (by decide) (by rfl) (pa_cons (pv 0) (pa_cons (pv 1) (pa_cons pe_str pa_nil)))))))), ?_⟩
    refine ⟨_, rfl, b, _, ws, rfl, hb, fun H1 e1 => ?_⟩
    refine ⟨_, rfl, x, _, rfl, hs, fun H2 e2 => ?_⟩
    (repeat (first | refine ⟨_, rfl, ?_⟩ | refine ⟨rfl, ?_⟩ | refine ⟨_, _, rfl, rfl, ?_⟩ | refine ⟨hz, ?_⟩ | refine ⟨(show 3 ≤ sizeLine by decide), ?_⟩ | refine ⟨(show 2 ≤ sizeLine by decide), ?_⟩ | refine ⟨by decide +kernel, ?_⟩ | refine ⟨.inl ⟨by decide, by decide⟩, ?_⟩ | refine ⟨(by show (0 : Int) < _; omega), ?_⟩ | refine ⟨⟨by omega, by omega⟩, ?_⟩ | refine .inl ⟨_, rfl, sz (by simp only [*, sM, sE, s1, s0, s110, s101, txt_cat, txt_len, cut_to, cut_from, cut_init, List.length_append, List.length_cons, List.length_nil, List.length_take, List.length_drop, List.length_dropLast, List.length_reverse]; omega), ?_⟩ | refine ⟨sz (by simp only [*, sM, sE, s1, s0, s110, s101, txt_cat, txt_len, cut_to, cut_from, cut_init, List.length_append, List.length_cons, List.length_nil, List.length_take, List.length_drop, List.length_dropLast, List.length_reverse]; omega), ?_⟩))
    exact ⟨b, n, ws, x, _, rfl, hb.ex (e1.trans e2), hs.le, hn, fun H3 e3 => hQ H3 ((e1.trans e2).trans e3)⟩
def N_next_by : List Str := ["book", "state"]
theorem sc_next_by : FnScope N_next_by ["book", "state"] (defScope s_next_by) := ⟨rfl, rfl, rfl, by decide +kernel, rfl, by decide +kernel, by decide +kernel⟩
def sp_next_by (K : PySem.W.Frag) : Sp := fun vs H Q _ => ∃ (b : Addr) (n : Nat) (ws : List W) (x : W), vs = [.ref b, .str (txt x)] ∧ BookAt K H b (n : Nat) ws ∧ Tab K H ∧ StOk x ∧ x.length / 2 = n ∧ Gives K (.str (txt (stateIn (nextH (Bm ws) (homeOf x))))) H Q
theorem c_next_by (T : Tx K mg) (TB : TabB base mg (cS K) (P0 K)) : Cl Pg w K mg base 7 "next_by" (sp_next_by K) :=
  have c_need_its_state := c_need_its_state (Pg := Pg) (w := w) (base := base) T
  have c_next_in := c_next_in (Pg := Pg) (w := w) (base := base) T
  have c_sewn_by := c_sewn (Pg := Pg) (w := w) T TB
  calD T.g_next_by T.f_next_by sc_next_by (fun _ _ _ _ _ _ us hl => match us, hl with | [_, _], _ => rfl) (fun vs H Q E h => by obtain ⟨i, _, _, _, rfl, _⟩ := h; rfl) fun cdv A outer st H vs Q E hr h => by
    obtain ⟨b, n, ws, x, rfl, hb, ht, hs, hn, hQ⟩ := h
    refine ⟨_, (pss_cons (ps_expr (C8.pe_c c_need_its_state hr (by decide) (by rfl) (pa_cons (pv 0) (pa_cons (pv 1) pa_nil))))
      (pss_one (ps_ret (C8.pe_c c_next_in hr (by decide) (by rfl) (pa_cons (pv 1) (pa_cons (C8.pe_c c_sewn_by hr (by decide) (by rfl) (pa_cons (pv 0) pa_nil)) pa_nil)))))), ?_⟩
    refine ⟨_, rfl, _, rfl, b, n, ws, x, rfl, hb, hs, hn, fun H1 e1 => ?_⟩
    refine ⟨_, rfl, _, rfl, b, _, ws, rfl, hb.ex e1, e1.t ht, fun f H2 e2 hf h2 => ?_⟩
    exact ⟨x, f, ws, rfl, hs, h2, fun H3 e3 => hQ H3 ((e1.trans e2).trans e3)⟩
def N_before_by : List Str := ["book", "state"]
theorem sc_before_by : FnScope N_before_by ["book", "state"] (defScope s_before_by) := ⟨rfl, rfl, rfl, by decide +kernel, rfl, by decide +kernel, by decide +kernel⟩
def sp_before_by (K : PySem.W.Frag) : Sp := fun vs H Q _ => ∃ (b : Addr) (n : Nat) (ws : List W) (x : W), vs = [.ref b, .str (txt x)] ∧ BookAt K H b (n : Nat) ws ∧ Tab K H ∧ StOk x ∧ x.length / 2 = n ∧ Gives K (.str (txt (stateIn (beforeH (Bm ws) (homeOf x))))) H Q
theorem c_before_by (T : Tx K mg) (TB : TabB base mg (cS K) (P0 K)) : Cl Pg w K mg base 7 "before_by" (sp_before_by K) :=
  have c_need_its_state := c_need_its_state (Pg := Pg) (w := w) (base := base) T
  have c_before_in := c_before_in (Pg := Pg) (w := w) (base := base) T
  have c_sewn_by := c_sewn (Pg := Pg) (w := w) T TB
  calD T.g_before_by T.f_before_by sc_before_by (fun _ _ _ _ _ _ us hl => match us, hl with | [_, _], _ => rfl) (fun vs H Q E h => by obtain ⟨i, _, _, _, rfl, _⟩ := h; rfl) fun cdv A outer st H vs Q E hr h => by
    obtain ⟨b, n, ws, x, rfl, hb, ht, hs, hn, hQ⟩ := h
    refine ⟨_, (pss_cons (ps_expr (C8.pe_c c_need_its_state hr (by decide) (by rfl) (pa_cons (pv 0) (pa_cons (pv 1) pa_nil))))
      (pss_one (ps_ret (C8.pe_c c_before_in hr (by decide) (by rfl) (pa_cons (pv 1) (pa_cons (C8.pe_c c_sewn_by hr (by decide) (by rfl) (pa_cons (pv 0) pa_nil)) pa_nil)))))), ?_⟩
    refine ⟨_, rfl, _, rfl, b, n, ws, x, rfl, hb, hs, hn, fun H1 e1 => ?_⟩
    refine ⟨_, rfl, _, rfl, b, _, ws, rfl, hb.ex e1, e1.t ht, fun f H2 e2 hf h2 => ?_⟩
    exact ⟨x, f, ws, rfl, hs, h2, fun H3 e3 => hQ H3 ((e1.trans e2).trans e3)⟩
def N_post_by : List Str := ["book", "state"]
theorem sc_post_by : FnScope N_post_by ["book", "state"] (defScope s_post_by) := ⟨rfl, rfl, rfl, by decide +kernel, rfl, by decide +kernel, by decide +kernel⟩
def sp_post_by (K : PySem.W.Frag) : Sp := fun vs H Q _ => ∃ (b : Addr) (n : Nat) (ws : List W) (x : W), vs = [.ref b, .str (txt x)] ∧ BookAt K H b (n : Nat) ws ∧ Tab K H ∧ StOk x ∧ x.length ≤ 200 ∧ x.length / 2 = n ∧ ∀ p H', Ex K H H' → H p = none → H' p = some (.tup [.str (txt (postH (Bm ws) (homeOf x)).1), .int ((postH (Bm ws) (homeOf x)).2 : Nat)]) → Q (.ref p) H'
theorem c_post_by (T : Tx K mg) (TB : TabB base mg (cS K) (P0 K)) : Cl Pg w K mg base 7 "post_by" (sp_post_by K) :=
  have c_need_its_state := c_need_its_state (Pg := Pg) (w := w) (base := base) T
  have c_post_in := c_post_in (Pg := Pg) (w := w) (base := base) T
  have c_sewn_by := c_sewn (Pg := Pg) (w := w) T TB
  calD T.g_post_by T.f_post_by sc_post_by (fun _ _ _ _ _ _ us hl => match us, hl with | [_, _], _ => rfl) (fun vs H Q E h => by obtain ⟨i, _, _, _, rfl, _⟩ := h; rfl) fun cdv A outer st H vs Q E hr h => by
    obtain ⟨b, n, ws, x, rfl, hb, ht, hs, h200, hn, hQ⟩ := h
    refine ⟨_, (pss_cons (ps_expr (C8.pe_c c_need_its_state hr (by decide) (by rfl) (pa_cons (pv 0) (pa_cons (pv 1) pa_nil))))
      (pss_one (ps_ret (C8.pe_c c_post_in hr (by decide) (by rfl) (pa_cons (pv 1) (pa_cons (C8.pe_c c_sewn_by hr (by decide) (by rfl) (pa_cons (pv 0) pa_nil)) pa_nil)))))), ?_⟩
    refine ⟨_, rfl, _, rfl, b, n, ws, x, rfl, hb, hs, hn, fun H1 e1 => ?_⟩
    refine ⟨_, rfl, _, rfl, b, _, ws, rfl, hb.ex e1, e1.t ht, fun f H2 e2 hf h2 => ?_⟩
    exact ⟨x, f, ws, rfl, hs, h200, h2, fun p H3 e3 hp h3 => hQ p H3 ((e1.trans e2).trans e3) ((e1.trans e2).free hp) h3⟩
end
end EH

set_option Elab.async false
set_option linter.all false
set_option maxRecDepth 100000
set_option maxHeartbeats 4000000
namespace EH
open PySem PySem.Spec PyProof.Rows L2 LamX EL EM
theorem perm_map {α β : Type} (f : α → β) : ∀ {zs ys : List β}, zs.Perm ys → ∀ ws : List α, zs = ws.map f → ∃ ws' : List α, ws'.Perm ws ∧ ys = ws'.map f := by
  intro zs ys h
  induction h with
  | nil => exact fun ws e => ⟨ws, .refl _, e⟩
  | cons x _ ih =>
    intro ws e
    cases ws with
    | nil => cases e
    | cons a r =>
      rw [List.map_cons] at e
      injection e with e1 e2
      obtain ⟨ws', h1, h2⟩ := ih r e2
      exact ⟨a :: ws', .cons a h1, by rw [List.map_cons, e1, h2]⟩
  | swap x y l =>
    intro ws e
    cases ws with
    | nil => cases e
    | cons a r => cases r with
      | nil => cases e
      | cons b r =>
        rw [List.map_cons, List.map_cons] at e
        injection e with e1 e2
        injection e2 with e2 e3
        exact ⟨b :: a :: r, .swap _ _ _, by rw [List.map_cons, List.map_cons, e1, e2, e3]⟩
  | trans _ _ ih1 ih2 =>
    intro ws e
    obtain ⟨w1, h1, e1⟩ := ih1 ws e
    obtain ⟨w2, h2, e2⟩ := ih2 w1 e1
    exact ⟨w2, h2.trans h1, e2⟩
theorem put1 (v : V) : putF "pairs" v [] = [(("pairs" : Str), v)] := rfl
theorem put2 (v a : V) : putF "words" v [(("pairs" : Str), a)] = [(("pairs" : Str), a), (("words" : Str), v)] := by
  unfold putF
  rw [if_neg (by decide +kernel)]
  rfl
theorem put3 (v a b : V) : putF "sewn" v [(("pairs" : Str), a), (("words" : Str), b)] = [(("pairs" : Str), a), (("words" : Str), b), (("sewn" : Str), v)] := by
  unfold putF
  rw [if_neg (by decide +kernel)]
  unfold putF
  rw [if_neg (by decide +kernel)]
  rfl
theorem any_seen (ws : List W) (z : W) : ((seen ws).any fun kv => decide (kv.1 = (.inr (txt z) : Key))) = decide (z ∈ ws) := by
  unfold seen
  rw [List.any_map]
  by_cases h : z ∈ ws
  · rw [decide_eq_true h, List.any_eq_true]
    exact ⟨z, h, decide_eq_true rfl⟩
  · rw [decide_eq_false h, List.any_eq_false]
    intro y hy q
    exact h (by have := txt_inj (Sum.inr.inj (of_decide_eq_true q)); rw [← this]; exact hy)
theorem put_seen {ws : List W} {z : W} (h : z ∉ ws) : putK (seen ws) (.inr (txt z) : Key) (V.bl true) = seen (ws ++ [z]) := by
  unfold putK
  rw [any_seen, decide_eq_false h]
  unfold seen
  rw [List.map_append]
  rfl
theorem put_seen2 {ws : List W} {z : W} (h : z ∈ ws) : putK (seen ws) (.inr (txt z) : Key) (V.bl true) = seen ws := by
  unfold putK
  rw [any_seen, decide_eq_true h, if_pos rfl]
  unfold seen
  rw [List.map_map]
  refine List.map_congr_left fun y _ => ?_
  show (if ((.inr (txt y) : Key)) = (.inr (txt z) : Key) then _ else _) = _
  split <;> rfl
theorem nd_take {α : Type} {l : List α} {i : Nat} {z : α} (h : l.Nodup) (hz : l[i]? = some z) : z ∉ l.take i := by
  intro hm
  obtain ⟨lt, e⟩ := List.getElem?_eq_some_iff.mp hz
  have q : l.take i ++ l.drop i = l := List.take_append_drop i l
  rw [← q, List.nodup_append] at h
  refine h.2.2 z hm z ?_ rfl
  rw [List.drop_eq_getElem_cons lt, e]
  exact List.mem_cons_self
section
variable {Pg : Program} {w : World} {K : PySem.W.Frag} {mg : Str → Option Value} {base : Heap}
def N_Book_init : List Str := ["self", "pairs", "words", "word"]
theorem sc_Book_init : FnScope N_Book_init ["self", "pairs", "words"] (defScope s_Book_init) := ⟨rfl, rfl, rfl, by decide +kernel, rfl, by decide +kernel, by decide +kernel⟩
def sp_Book (K : PySem.W.Frag) : Sp := fun vs H Q _ => ∃ (H0 : Hp) (x dx : Addr) (n : Nat) (a : Addr) (ws : List W), vs = [.ref x, .int (n : Nat), .ref a] ∧ H0 x = none ∧ H0 dx = none ∧ dx ≠ x ∧ H = upd (upd H0 dx (.own x)) x (.ins (CB K) dx []) ∧ H0 a = some (.lst (wds ws)) ∧ PsOk n ws ∧ 2 ≤ n ∧ n ≤ 60 ∧ ∀ H' ws', ws'.Perm ws → Ex K H0 H' → BookAt K H' x (n : Nat) ws' → Q .non H'
theorem c_Book (T : Tx K mg) : C8.Mak Pg w K mg base 5 "Book" (CB K) (sp_Book K) [] := by
  have c_is_within := c_is_within (Pg := Pg) (w := w) (base := base) T
  have c_are_pulls := c_are_pulls (Pg := Pg) (w := w) (base := base) T
  obtain ⟨fd, F⟩ := T.f_init
  refine ⟨_, fd, ["self", "pairs", "words"], [], T.bmk, F.ok sc_Book_init (fun vs H Q E h => by obtain ⟨_, _, _, _, _, _, rfl, _⟩ := h; rfl) fun cdv A outer st H vs Q E hr h => ?_, T.g_Book, F.bindsN fun _ _ _ _ _ _ us hl => match us, hl with | [_, _, _], _ => rfl, .nil⟩
  obtain ⟨H0, x, dx, n, a, ws, rfl, hx, hdx, hne, rfl, ha, hw, h2, h60, hQ⟩ := h
  have body : ∃ t, PSs (cxOf C8.CX0 Pg w K mg base N_Book_init "Book.__init__" (defScope s_Book_init) (He.ma K (CB K) "__init__") cdv A outer st (upd (upd H0 dx (.own x)) x (.ins (CB K) dx [])) E).nox (defBody s_Book_init) t ∧ t { nx := fun _ H' => Q .non H', rt := Q } (L2.start N_Book_init [.ref x, .int (n : Nat), .ref a]) (upd (upd H0 dx (.own x)) x (.ins (CB K) dx [])) := by
    have E0 : Ex K H0 (upd (upd H0 dx (.own x)) x (.ins (CB K) dx [])) := (Ex.new hdx).trans (Ex.new ((upd_ne (fun z => hne z.symm)).trans hx))
    have hx0 : (upd (upd H0 dx (.own x)) x (.ins (CB K) dx [])) x = some (.ins (CB K) dx []) := upd_same
    have ha0 := E0.lst ha
    refine ⟨_, (pss_cons (ps_if (pt_not (pt_val (C8.pe_c c_is_within hr (by decide) (by rfl) (pa_cons (pv 1) (pa_cons (C8.pe_gc (by rfl) T.c_LEAST_PAIRS) (pa_cons (C8.pe_gc (by rfl) T.c_MOST_PAIRS_books) pa_nil)))))) pss_never pss_nil)
      (pss_cons (ps_if (pt_not (pt_val (C8.pe_c c_are_pulls hr (by decide) (by rfl) (pa_cons (pv 2) (pa_cons (pv 1) pa_nil))))) pss_never pss_nil)
      (pss_cons (ps_fld (pv 0) (pv 1) rfl)
      (pss_cons (ps_fld (pv 0) (pe_callTy call_tuple_of (by rfl) T.n_tuple (by decide +kernel) (pa_cons (pe_callB cr_sortedS (by rfl) T.n_sorted (by decide +kernel) (pa_cons (pv 2) pa_nil)) pa_nil)) rfl)
      (pss_one (ps_fld (pv 0) (pe_dc (own := [("word", 3)]) (g := gName 3) (tt := tYes) (by rfl) sc_Book_init.nd (pi_tup (pe_fld (pv 0) rfl)) (blkOk_by (own := [("word", 3)]) (N := N_Book_init) (sc := (defScope s_Book_init)) (by decide +kernel)) (fun _ _ _ _ _ => pg_name (i := 3) sc_Book_init.nd rfl (Or.inl rfl)) (fun _ _ _ _ _ => pts_nil) (fun _ _ _ _ _ => (pv 3)) (fun _ _ _ _ _ => pe_bl)) rfl)))))), ?_⟩
    (repeat (first | refine ⟨_, rfl, ?_⟩ | refine ⟨rfl, ?_⟩ | refine ⟨_, _, rfl, rfl, ?_⟩ | refine ⟨hz, ?_⟩ | refine ⟨(show 3 ≤ sizeLine by decide), ?_⟩ | refine ⟨(show 2 ≤ sizeLine by decide), ?_⟩ | refine ⟨by decide +kernel, ?_⟩ | refine ⟨.inl ⟨by decide, by decide⟩, ?_⟩ | refine ⟨(by show (0 : Int) < _; omega), ?_⟩ | refine ⟨⟨by omega, by omega⟩, ?_⟩ | refine .inl ⟨_, rfl, sz (by simp only [*, sM, sE, s1, s0, s110, s101, txt_cat, txt_len, cut_to, cut_from, cut_init, List.length_append, List.length_cons, List.length_nil, List.length_take, List.length_drop, List.length_dropLast, List.length_reverse]; omega), ?_⟩ | refine ⟨sz (by simp only [*, sM, sE, s1, s0, s110, s101, txt_cat, txt_len, cut_to, cut_from, cut_init, List.length_append, List.length_cons, List.length_nil, List.length_take, List.length_drop, List.length_dropLast, List.length_reverse]; omega), ?_⟩))
    refine ⟨_, _, _, rfl, by omega, by omega, fun H1 e1 => ?_⟩
    (repeat (first | refine ⟨_, rfl, ?_⟩ | refine ⟨rfl, ?_⟩ | refine ⟨_, _, rfl, rfl, ?_⟩ | refine ⟨hz, ?_⟩ | refine ⟨(show 3 ≤ sizeLine by decide), ?_⟩ | refine ⟨(show 2 ≤ sizeLine by decide), ?_⟩ | refine ⟨by decide +kernel, ?_⟩ | refine ⟨.inl ⟨by decide, by decide⟩, ?_⟩ | refine ⟨(by show (0 : Int) < _; omega), ?_⟩ | refine ⟨⟨by omega, by omega⟩, ?_⟩ | refine .inl ⟨_, rfl, sz (by simp only [*, sM, sE, s1, s0, s110, s101, txt_cat, txt_len, cut_to, cut_from, cut_init, List.length_append, List.length_cons, List.length_nil, List.length_take, List.length_drop, List.length_dropLast, List.length_reverse]; omega), ?_⟩ | refine ⟨sz (by simp only [*, sM, sE, s1, s0, s110, s101, txt_cat, txt_len, cut_to, cut_from, cut_init, List.length_append, List.length_cons, List.length_nil, List.length_take, List.length_drop, List.length_dropLast, List.length_reverse]; omega), ?_⟩))
    refine ⟨a, n, ws, rfl, e1.lst ha0, hw, fun H2 e2 => ?_⟩
    (repeat (first | refine ⟨_, rfl, ?_⟩ | refine ⟨rfl, ?_⟩ | refine ⟨_, _, rfl, rfl, ?_⟩ | refine ⟨hz, ?_⟩ | refine ⟨(show 3 ≤ sizeLine by decide), ?_⟩ | refine ⟨(show 2 ≤ sizeLine by decide), ?_⟩ | refine ⟨by decide +kernel, ?_⟩ | refine ⟨.inl ⟨by decide, by decide⟩, ?_⟩ | refine ⟨(by show (0 : Int) < _; omega), ?_⟩ | refine ⟨⟨by omega, by omega⟩, ?_⟩ | refine .inl ⟨_, rfl, sz (by simp only [*, sM, sE, s1, s0, s110, s101, txt_cat, txt_len, cut_to, cut_from, cut_init, List.length_append, List.length_cons, List.length_nil, List.length_take, List.length_drop, List.length_dropLast, List.length_reverse]; omega), ?_⟩ | refine ⟨sz (by simp only [*, sM, sE, s1, s0, s110, s101, txt_cat, txt_len, cut_to, cut_from, cut_init, List.length_append, List.length_cons, List.length_nil, List.length_take, List.length_drop, List.length_dropLast, List.length_reverse]; omega), ?_⟩))
    have hx2 := (e1.trans e2).k _ _ hx0 fun ps z => by cases z
    have E2 := (E0.trans e1).trans e2
    refine ⟨x, CB K, dx, [], rfl, hx2, T.bcl, T.bnP, by decide, ?_⟩
    rw [put1]
    have E3 : Ex K H0 (upd H2 x (.ins (CB K) dx [(("pairs" : Str), .int (n : Nat))])) := E2.mut hx hx2 (fun φ z => by cases z) _
    have hx3 : (upd H2 x (.ins (CB K) dx [(("pairs" : Str), .int (n : Nat))])) x = some (.ins (CB K) dx [(("pairs" : Str), .int (n : Nat))]) := upd_same
    generalize upd H2 x (.ins (CB K) dx [(("pairs" : Str), .int (n : Nat))]) = H3 at E3 hx3 ⊢
    (repeat (first | refine ⟨_, rfl, ?_⟩ | refine ⟨rfl, ?_⟩ | refine ⟨_, _, rfl, rfl, ?_⟩ | refine ⟨hz, ?_⟩ | refine ⟨(show 3 ≤ sizeLine by decide), ?_⟩ | refine ⟨(show 2 ≤ sizeLine by decide), ?_⟩ | refine ⟨by decide +kernel, ?_⟩ | refine ⟨.inl ⟨by decide, by decide⟩, ?_⟩ | refine ⟨(by show (0 : Int) < _; omega), ?_⟩ | refine ⟨⟨by omega, by omega⟩, ?_⟩ | refine .inl ⟨_, rfl, sz (by simp only [*, sM, sE, s1, s0, s110, s101, txt_cat, txt_len, cut_to, cut_from, cut_init, List.length_append, List.length_cons, List.length_nil, List.length_take, List.length_drop, List.length_dropLast, List.length_reverse]; omega), ?_⟩ | refine ⟨sz (by simp only [*, sM, sE, s1, s0, s110, s101, txt_cat, txt_len, cut_to, cut_from, cut_init, List.length_append, List.length_cons, List.length_nil, List.length_take, List.length_drop, List.length_dropLast, List.length_reverse]; omega), ?_⟩))
    refine ⟨a, ws.map txt, rfl, .inl (.inl (by rw [List.map_map]; exact E3.lst ha)), by rw [List.length_map]; have := hw.few; omega, fun ys p hys _ hp => ?_⟩
    obtain ⟨ws', hperm, rfl⟩ := perm_map txt hys.symm ws rfl
    (repeat (first | refine ⟨_, rfl, ?_⟩ | refine ⟨rfl, ?_⟩ | refine ⟨_, _, rfl, rfl, ?_⟩ | refine ⟨hz, ?_⟩ | refine ⟨(show 3 ≤ sizeLine by decide), ?_⟩ | refine ⟨(show 2 ≤ sizeLine by decide), ?_⟩ | refine ⟨by decide +kernel, ?_⟩ | refine ⟨.inl ⟨by decide, by decide⟩, ?_⟩ | refine ⟨(by show (0 : Int) < _; omega), ?_⟩ | refine ⟨⟨by omega, by omega⟩, ?_⟩ | refine .inl ⟨_, rfl, sz (by simp only [*, sM, sE, s1, s0, s110, s101, txt_cat, txt_len, cut_to, cut_from, cut_init, List.length_append, List.length_cons, List.length_nil, List.length_take, List.length_drop, List.length_dropLast, List.length_reverse]; omega), ?_⟩ | refine ⟨sz (by simp only [*, sM, sE, s1, s0, s110, s101, txt_cat, txt_len, cut_to, cut_from, cut_init, List.length_append, List.length_cons, List.length_nil, List.length_take, List.length_drop, List.length_dropLast, List.length_reverse]; omega), ?_⟩))
    refine ⟨p, _, rfl, .inl ⟨.inl (.inl upd_same), fun l hl => ?_⟩⟩
    have e4 : Ex K H3 (upd (upd H3 p (.lst ((ws'.map txt).map V.str))) l (.tup ((ws'.map txt).map V.str))) := (Ex.new hp).trans (Ex.new hl)
    have E4 := E3.trans e4
    have hx4 := e4.k _ _ hx3 fun ps z => by cases z
    have hl4 : (upd (upd H3 p (.lst ((ws'.map txt).map V.str))) l (.tup ((ws'.map txt).map V.str))) l = some (.tup (wds ws')) := by
      rw [upd_same, List.map_map]
      rfl
    generalize upd (upd H3 p (.lst ((ws'.map txt).map V.str))) l (.tup ((ws'.map txt).map V.str)) = H4 at E4 hx4 hl4 ⊢
    (repeat (first | refine ⟨_, rfl, ?_⟩ | refine ⟨rfl, ?_⟩ | refine ⟨_, _, rfl, rfl, ?_⟩ | refine ⟨hz, ?_⟩ | refine ⟨(show 3 ≤ sizeLine by decide), ?_⟩ | refine ⟨(show 2 ≤ sizeLine by decide), ?_⟩ | refine ⟨by decide +kernel, ?_⟩ | refine ⟨.inl ⟨by decide, by decide⟩, ?_⟩ | refine ⟨(by show (0 : Int) < _; omega), ?_⟩ | refine ⟨⟨by omega, by omega⟩, ?_⟩ | refine .inl ⟨_, rfl, sz (by simp only [*, sM, sE, s1, s0, s110, s101, txt_cat, txt_len, cut_to, cut_from, cut_init, List.length_append, List.length_cons, List.length_nil, List.length_take, List.length_drop, List.length_dropLast, List.length_reverse]; omega), ?_⟩ | refine ⟨sz (by simp only [*, sM, sE, s1, s0, s110, s101, txt_cat, txt_len, cut_to, cut_from, cut_init, List.length_append, List.length_cons, List.length_nil, List.length_take, List.length_drop, List.length_dropLast, List.length_reverse]; omega), ?_⟩))
    refine ⟨x, CB K, dx, _, rfl, hx4, T.bcl, T.bnW, by show 1 < 1000; decide, ?_⟩
    rw [put2]
    have E5 : Ex K H0 (upd H4 x (.ins (CB K) dx [(("pairs" : Str), .int (n : Nat)), (("words" : Str), .ref l)])) := E4.mut hx hx4 (fun φ z => by cases z) _
    have hx5 : (upd H4 x (.ins (CB K) dx [(("pairs" : Str), .int (n : Nat)), (("words" : Str), .ref l)])) x = some (.ins (CB K) dx [(("pairs" : Str), .int (n : Nat)), (("words" : Str), .ref l)]) := upd_same
    have hl5 : (upd H4 x (.ins (CB K) dx [(("pairs" : Str), .int (n : Nat)), (("words" : Str), .ref l)])) l = some (.tup (wds ws')) := (upd_ne (fun z => by rw [z, hx4] at hl4; cases hl4)).trans hl4
    generalize upd H4 x (.ins (CB K) dx [(("pairs" : Str), .int (n : Nat)), (("words" : Str), .ref l)]) = H5 at E5 hx5 hl5 ⊢
    (repeat (first | refine ⟨_, rfl, ?_⟩ | refine ⟨rfl, ?_⟩ | refine ⟨_, _, rfl, rfl, ?_⟩ | refine ⟨hz, ?_⟩ | refine ⟨(show 3 ≤ sizeLine by decide), ?_⟩ | refine ⟨(show 2 ≤ sizeLine by decide), ?_⟩ | refine ⟨by decide +kernel, ?_⟩ | refine ⟨.inl ⟨by decide, by decide⟩, ?_⟩ | refine ⟨(by show (0 : Int) < _; omega), ?_⟩ | refine ⟨⟨by omega, by omega⟩, ?_⟩ | refine .inl ⟨_, rfl, sz (by simp only [*, sM, sE, s1, s0, s110, s101, txt_cat, txt_len, cut_to, cut_from, cut_init, List.length_append, List.length_cons, List.length_nil, List.length_take, List.length_drop, List.length_dropLast, List.length_reverse]; omega), ?_⟩ | refine ⟨sz (by simp only [*, sM, sE, s1, s0, s110, s101, txt_cat, txt_len, cut_to, cut_from, cut_init, List.length_append, List.length_cons, List.length_nil, List.length_take, List.length_drop, List.length_dropLast, List.length_reverse]; omega), ?_⟩))
    refine ⟨x, CB K, dx, _, .ref l, rfl, hx5, T.bcl, T.bnW, by rw [look_ne (by decide +kernel), look_eq], l, rfl, ⟨_, .inl (.inl hl5)⟩, fun D hD => dc_tup (xs := wds ws') (fun i H => Ex K H5 H ∧ H D = some (.dK (seen (ws'.take i)))) ⟨Ex.new hD, upd_same⟩ (fun i H _ h => h.1.sqt (.inl (.inl hl5))) (fun i y H hy h => ?_) fun H h => ?_⟩
    · obtain ⟨z, hz, rfl⟩ := wds_at hy
      obtain ⟨e6, hd6⟩ := h
      have nz : z ∉ ws'.take i := nd_take (hperm.nodup_iff.mpr hw.nd) hz
      have et : ws'.take (i + 1) = ws'.take i ++ [z] := by rw [List.take_add_one, hz]; rfl
      refine ⟨rfl, _, rfl, seen (ws'.take i), .inr (txt z), rfl, hd6, ?_, e6.mutD hD hd6 _, ?_⟩
      · unfold seen
        rw [List.length_map, List.length_take]
        have h1 := hperm.length_eq
        have h2 := hw.few
        exact Nat.lt_of_le_of_lt (show min i ws'.length ≤ 60 by omega) (by decide)
      · rw [upd_same, put_seen nz, et]
    · obtain ⟨e6, hd6⟩ := h
      rw [show (wds ws').length = ws'.length from List.length_map _, List.take_length] at hd6
      have hx6 := e6.k _ _ hx5 fun ps z => by cases z
      have hl6 := e6.tup hl5
      refine ⟨_, rfl, x, CB K, dx, _, rfl, hx6, T.bcl, T.bnS, by show 2 < 1000; decide, ?_⟩
      rw [put3]
      refine hQ _ ws' hperm ((E5.trans e6).mut hx hx6 (fun φ z => by cases z) _) ⟨dx, l, D, upd_same, (upd_ne (fun z => by rw [z, hx6] at hl6; cases hl6)).trans hl6, (upd_ne (fun z => by rw [z, hx6] at hd6; cases hd6)).trans hd6⟩
  obtain ⟨t, h1, h2⟩ := body
  exact ⟨t, h1.nox, h2⟩
end
end EH

set_option Elab.async false
set_option linter.all false
set_option maxRecDepth 100000
set_option maxHeartbeats 4000000
namespace EM
theorem Per.nodup {α : Type} {f : α → α} {x : α} {p : Nat} (h : Per f x p) : (orb f x p).Nodup := by
  unfold orb
  refine List.pairwise_map.mpr (List.pairwise_lt_range.imp_of_mem fun {i j} hi hj hij e => ?_)
  have hj := List.mem_range.mp hj
  have q := congrArg (it f (p - j)) e
  rw [← it_add, ← it_add, show p - j + j = p by omega, h.ret] at q
  exact h.no (p - j + i) (by omega) (by omega) q
/-- what update adds to the keys of a dict -/
def addAll {α : Type} [DecidableEq α] (J L : List α) : List α := L.foldl (fun J z => if z ∈ J then J else J ++ [z]) J
theorem addAll_cons {α : Type} [DecidableEq α] (J r : List α) (z : α) : addAll J (z :: r) = addAll (if z ∈ J then J else J ++ [z]) r := rfl
/-- the greedy count of classes -/
def grd {α : Type} [DecidableEq α] (o : α → List α) (l : List α) (s : Nat × List α) : Nat × List α := l.foldl (fun s x => if x ∈ s.2 then s else (s.1 + 1, addAll s.2 (o x))) s
theorem grd_snoc {α : Type} [DecidableEq α] (o : α → List α) (l : List α) (x : α) (s : Nat × List α) : grd o (l ++ [x]) s = if x ∈ (grd o l s).2 then grd o l s else ((grd o l s).1 + 1, addAll (grd o l s).2 (o x)) := by
  unfold grd
  rw [List.foldl_append]
  rfl
theorem addAll_le {α : Type} [DecidableEq α] (L : List α) : ∀ J : List α, (addAll J L).length ≤ J.length + L.length := by
  induction L with
  | nil => exact fun J => Nat.le_refl _
  | cons z r ih =>
    intro J
    show (addAll (if z ∈ J then J else J ++ [z]) r).length ≤ _
    have := ih (if z ∈ J then J else J ++ [z])
    have h2 : (if z ∈ J then J else J ++ [z]).length ≤ J.length + 1 := by
      split
      · omega
      · rw [List.length_append]
        exact Nat.le_refl _
    rw [List.length_cons]
    omega
theorem grd_le {α : Type} [DecidableEq α] {o : α → List α} {m : Nat} (l : List α) (ho : ∀ x ∈ l, (o x).length ≤ m) : ∀ s : Nat × List α, (grd o l s).2.length ≤ s.2.length + l.length * m := by
  induction l with
  | nil => exact fun s => by show s.2.length ≤ _; omega
  | cons x r ih =>
    intro s
    show (grd o r (if x ∈ s.2 then s else (s.1 + 1, addAll s.2 (o x)))).2.length ≤ _
    have := ih (fun y hy => ho y (List.mem_cons_of_mem _ hy)) (if x ∈ s.2 then s else (s.1 + 1, addAll s.2 (o x)))
    have h2 : (if x ∈ s.2 then s else (s.1 + 1, addAll s.2 (o x))).2.length ≤ s.2.length + m := by
      split
      · omega
      · have := addAll_le (o x) s.2
        have := ho x List.mem_cons_self
        show (addAll s.2 (o x)).length ≤ _
        omega
    rw [List.length_cons, Nat.succ_mul]
    omega
end EM
namespace EH
open PySem PySem.Spec PyProof.Rows L2 LamX EL EM
theorem merge_seen (L : List W) : ∀ J : List W, mergeK (seen J) (seen L) = seen (addAll J L) := by
  induction L with
  | nil => exact fun J => rfl
  | cons z r ih =>
    intro J
    rw [addAll_cons]
    show mergeK (putK (seen J) (.inr (txt z) : Key) (V.bl true)) (seen r) = _
    by_cases h : z ∈ J
    · rw [put_seen2 h, if_pos h, ih]
    · rw [put_seen h, if_neg h, ih]
/-- {each: True for each in a list that stays} -/
theorem dc_lst {K : PySem.W.Frag} {a : Addr} {L : List W} {g : TG} {tt : TT} {tk tv : TE} {vs : List Nat} {σ : L2.St} {H1 : Hp} {D : Addr} {Qd : Hp → Prop} (Pv : Nat → Hp → Prop) (h0 : Pv 0 (upd H1 D (.dK []))) (hl : ∀ i H, Pv i H → SqL K H a (wds L))
    (hs : ∀ i z H, L[i]? = some z → Pv i H → g (.str (txt z)) (wipe σ vs) H fun σ2 H2 => wipe σ2 vs = wipe σ vs ∧ tt σ2 H2 fun b H3 =>
      if b = true then tk σ2 H3 fun y H4 => tv σ2 H4 fun z H5 => ∃ kvs k, y = kV k ∧ H5 D = some (.dK kvs) ∧ kvs.length < sizeLine ∧ Pv (i + 1) (upd H5 D (.dK (putK kvs k z))) else Pv (i + 1) H3) (hd : ∀ H, Pv L.length H → Qd H) :
    ∃ W : Nat → Nat → Hp → Prop, (∃ m, W 0 m (upd H1 D (.dK []))) ∧ ∀ i m H, W i m H →
      ((Itl K a).stop i H ∧ Qd H) ∨ ((Itl K a).go i H ∧ ∃ Nx : Hp → Prop, (∀ H', Nx H' → ∃ m', m' < m ∧ W (i + 1) m' H') ∧ ∀ x H', (Itl K a).yld i H x H' → g x (wipe σ vs) H' fun σ2 H2 => wipe σ2 vs = wipe σ vs ∧ tt σ2 H2 fun b H3 =>
        if b = true then tk σ2 H3 fun y H4 => tv σ2 H4 fun z H5 => ∃ kvs k, y = kV k ∧ H5 D = some (.dK kvs) ∧ kvs.length < sizeLine ∧ Nx (upd H5 D (.dK (putK kvs k z))) else Nx H3) := by
  have lw : (wds L).length = L.length := List.length_map _
  refine ⟨fun i m H => m = L.length - i ∧ i ≤ L.length ∧ Pv i H, ⟨L.length, by simp, Nat.zero_le _, h0⟩, ?_⟩
  rintro i m H ⟨rfl, hi, p⟩
  have q := hl i H p
  by_cases hlt : i < L.length
  · refine .inr ⟨⟨wds L, (wds L)[i]'(by omega), q, List.getElem?_eq_getElem _⟩, Pv (i + 1), fun H' p' => ⟨L.length - (i + 1), by omega, rfl, hlt, p'⟩, fun x H' y => ?_⟩
    obtain ⟨e, y⟩ := y
    subst e
    obtain ⟨z, hz, rfl⟩ := wds_at (y _ q)
    exact hs i z _ hz p
  · have e : i = L.length := by omega
    subst e
    exact .inl ⟨⟨wds L, q, by omega⟩, hd H p⟩
/-- the turns of a word, so many -/
def PerOk (f : W → W) (x : W) (p : Nat) (L : List W) : Prop := p ≤ 500 ∧ Per f x p ∧ (∀ j, j ≤ p → (it f j x).length ≤ 900) ∧ L = orb f x p
section
variable {Pg : Program} {w : World} {K : PySem.W.Frag} {mg : Str → Option Value} {base : Heap}
def N_round_of : List Str := ["book", "word", "is_sewn", "found", "later"]
theorem sc_round_of : FnScope N_round_of ["book", "word"] (defScope s_round_of) := ⟨rfl, rfl, rfl, by decide +kernel, rfl, by decide +kernel, by decide +kernel⟩
def sp_round (K : PySem.W.Frag) : Sp := fun vs H Q _ => ∃ (b : Addr) (n : Int) (ws : List W) (x : W) (p : Nat) (O : List W), vs = [.ref b, .str (txt x)] ∧ BookAt K H b n ws ∧ Tab K H ∧ PerOk (behind (Bm ws)) x p O ∧ ∀ L H', Ex K H H' → H L = none → H' L = some (.lst (wds O)) → Q (.ref L) H'
theorem c_round_of (T : Tx K mg) (TB : TabB base mg (cS K) (P0 K)) : Cl Pg w K mg base 6 "round_of" (sp_round K) :=
  have c_word_behind_in := c_word_behind_in (Pg := Pg) (w := w) (base := base) T
  have c_sewn_by := c_sewn (Pg := Pg) (w := w) T TB
  calD T.g_round_of T.f_round_of sc_round_of (fun _ _ _ _ _ _ us hl => match us, hl with | [_, _], _ => rfl) (fun vs H Q E h => by obtain ⟨i, _, _, _, _, _, rfl, _⟩ := h; rfl) fun cdv A outer st H vs Q E hr h => by
    obtain ⟨b, n, ws, x, p, O, rfl, hb, ht, ⟨hp, hper, hlen, rfl⟩, hQ⟩ := h
    refine ⟨_, (pss_cons (ps_par (i := 2) (j := 3) rfl sc_round_of.nd rfl rfl (by decide) rfl rfl (pa_cons (C8.pe_c c_sewn_by hr (by decide) (by rfl) (pa_cons (pv 0) pa_nil)) (pa_cons (pe_lst (pa_cons (pv 1) pa_nil)) pa_nil)) (by rfl))
      (pss_cons (ps_set (i := 4) sc_round_of.nd rfl (Or.inl rfl) (C8.pe_c c_word_behind_in hr (by decide) (by rfl) (pa_cons (pv 1) (pa_cons (pv 2) pa_nil))))
      (pss_cons (ps_while PassesOwn.never (pt_cmpR op_ne (pv 4) (pv 1) (nomark _)) (pss_cons (ps_expr (pe_bm PySem.F.plainAttrs_list PySem.F.slot_list_append PySem.F.type_list_append mt_append (pv 3) (pa_cons (pv 4) pa_nil)))
      (pss_one (ps_set (i := 4) sc_round_of.nd rfl (Or.inl rfl) (C8.pe_c c_word_behind_in hr (by decide) (by rfl) (pa_cons (pv 4) (pa_cons (pv 2) pa_nil)))))))
      (pss_one (ps_ret (pv 3)))))), ?_⟩
    refine ⟨_, rfl, b, _, ws, rfl, hb, ht, fun f H1 e1 hf h1 => ?_⟩
    (repeat (first | refine ⟨_, rfl, ?_⟩ | refine ⟨rfl, ?_⟩ | refine ⟨_, _, rfl, rfl, ?_⟩ | refine ⟨_, _, rfl, ?_⟩ | refine ⟨hz, ?_⟩ | refine ⟨(show 3 ≤ sizeLine by decide), ?_⟩ | refine ⟨(show 2 ≤ sizeLine by decide), ?_⟩ | refine ⟨by decide +kernel, ?_⟩ | refine ⟨.inl ⟨by decide, by decide⟩, ?_⟩ | refine ⟨(by show (0 : Int) < _; omega), ?_⟩ | refine ⟨⟨by omega, by omega⟩, ?_⟩ | refine .inl ⟨_, rfl, sz (by simp only [*, sM, sE, s1, s0, s110, s101, txt_cat, txt_len, cut_to, cut_from, cut_init, List.length_append, List.length_cons, List.length_nil, List.length_take, List.length_drop, List.length_dropLast, List.length_reverse]; omega), ?_⟩ | refine ⟨sz (by simp only [*, sM, sE, s1, s0, s110, s101, txt_cat, txt_len, cut_to, cut_from, cut_init, List.length_append, List.length_cons, List.length_nil, List.length_take, List.length_drop, List.length_dropLast, List.length_reverse]; omega), ?_⟩))
    intro L hL
    have e2 : Ex K H1 (upd H1 L (.lst (wds [x]))) := Ex.new hL
    (repeat (first | refine ⟨_, rfl, ?_⟩ | refine ⟨rfl, ?_⟩ | refine ⟨_, _, rfl, rfl, ?_⟩ | refine ⟨_, _, rfl, ?_⟩ | refine ⟨hz, ?_⟩ | refine ⟨(show 3 ≤ sizeLine by decide), ?_⟩ | refine ⟨(show 2 ≤ sizeLine by decide), ?_⟩ | refine ⟨by decide +kernel, ?_⟩ | refine ⟨.inl ⟨by decide, by decide⟩, ?_⟩ | refine ⟨(by show (0 : Int) < _; omega), ?_⟩ | refine ⟨⟨by omega, by omega⟩, ?_⟩ | refine .inl ⟨_, rfl, sz (by simp only [*, sM, sE, s1, s0, s110, s101, txt_cat, txt_len, cut_to, cut_from, cut_init, List.length_append, List.length_cons, List.length_nil, List.length_take, List.length_drop, List.length_dropLast, List.length_reverse]; omega), ?_⟩ | refine ⟨sz (by simp only [*, sM, sE, s1, s0, s110, s101, txt_cat, txt_len, cut_to, cut_from, cut_init, List.length_append, List.length_cons, List.length_nil, List.length_take, List.length_drop, List.length_dropLast, List.length_reverse]; omega), ?_⟩))
    refine ⟨x, f, ws, rfl, hlen 0 (Nat.zero_le _), h1.ex e2, fun H2 e3 => ?_⟩
    have E3 := (e1.trans e2).trans e3
    have hL0 : H L = none := e1.free hL
    refine ⟨fun m σ H' => ∃ j, 1 ≤ j ∧ j ≤ p ∧ m = p - j ∧ σ = [some (.ref b), some (.str (txt x)), some (.ref f), some (.ref L), some (.str (txt (it (behind (Bm ws)) j x)))] ∧ Ex K H H' ∧ Sewn K H' f ws ∧ H' L = some (.lst (wds (orb (behind (Bm ws)) x j))), ⟨_, 1, Nat.le_refl _, hper.pos, rfl, rfl, E3, h1.ex (e2.trans e3), e3.lst upd_same⟩, fun m σ H' ⟨j, j1, jp, hm, hs, he, hsw, hl⟩ => ?_⟩
    subst hs
    by_cases c : j = p
    · subst c
      rw [hper.ret]
      (repeat (first | refine ⟨_, rfl, ?_⟩ | refine ⟨rfl, ?_⟩ | refine ⟨_, _, rfl, rfl, ?_⟩ | refine ⟨_, _, rfl, ?_⟩ | refine ⟨hz, ?_⟩ | refine ⟨(show 3 ≤ sizeLine by decide), ?_⟩ | refine ⟨(show 2 ≤ sizeLine by decide), ?_⟩ | refine ⟨by decide +kernel, ?_⟩ | refine ⟨.inl ⟨by decide, by decide⟩, ?_⟩ | refine ⟨(by show (0 : Int) < _; omega), ?_⟩ | refine ⟨⟨by omega, by omega⟩, ?_⟩ | refine .inl ⟨_, rfl, sz (by simp only [*, sM, sE, s1, s0, s110, s101, txt_cat, txt_len, cut_to, cut_from, cut_init, List.length_append, List.length_cons, List.length_nil, List.length_take, List.length_drop, List.length_dropLast, List.length_reverse]; omega), ?_⟩ | refine ⟨sz (by simp only [*, sM, sE, s1, s0, s110, s101, txt_cat, txt_len, cut_to, cut_from, cut_init, List.length_append, List.length_cons, List.length_nil, List.length_take, List.length_drop, List.length_dropLast, List.length_reverse]; omega), ?_⟩))
      exact nF rfl ⟨_, rfl, hQ L H' he hL0 hl⟩
    · (repeat (first | refine ⟨_, rfl, ?_⟩ | refine ⟨rfl, ?_⟩ | refine ⟨_, _, rfl, rfl, ?_⟩ | refine ⟨_, _, rfl, ?_⟩ | refine ⟨hz, ?_⟩ | refine ⟨(show 3 ≤ sizeLine by decide), ?_⟩ | refine ⟨(show 2 ≤ sizeLine by decide), ?_⟩ | refine ⟨by decide +kernel, ?_⟩ | refine ⟨.inl ⟨by decide, by decide⟩, ?_⟩ | refine ⟨(by show (0 : Int) < _; omega), ?_⟩ | refine ⟨⟨by omega, by omega⟩, ?_⟩ | refine .inl ⟨_, rfl, sz (by simp only [*, sM, sE, s1, s0, s110, s101, txt_cat, txt_len, cut_to, cut_from, cut_init, List.length_append, List.length_cons, List.length_nil, List.length_take, List.length_drop, List.length_dropLast, List.length_reverse]; omega), ?_⟩ | refine ⟨sz (by simp only [*, sM, sE, s1, s0, s110, s101, txt_cat, txt_len, cut_to, cut_from, cut_init, List.length_append, List.length_cons, List.length_nil, List.length_take, List.length_drop, List.length_dropLast, List.length_reverse]; omega), ?_⟩))
      refine nT (fun z => hper.no j (by omega) (by omega) (txt_inj (V.str.inj z))) ?_
      refine ⟨fun σ H' => ∃ j2, j < j2 ∧ j2 ≤ p ∧ σ = [some (.ref b), some (.str (txt x)), some (.ref f), some (.ref L), some (.str (txt (it (behind (Bm ws)) j2 x)))] ∧ Ex K H H' ∧ Sewn K H' f ws ∧ H' L = some (.lst (wds (orb (behind (Bm ws)) x j2))), fun σ' H2 ⟨j2, h1, h2, h3, h4, h5, h6⟩ => ⟨p - j2, by omega, j2, by omega, h2, rfl, h3, h4, h5, h6⟩, ?_⟩
      refine ⟨_, rfl, .inl ⟨rfl, _, .inl (.inl hl)⟩, _, rfl, L, _, _, rfl, rfl, hl, ?_, ?_⟩
      · unfold wds
        rw [List.length_map, orb_len]
        exact Nat.lt_of_le_of_lt (by omega : j ≤ 1000) (by decide)
      have el : wds (orb (behind (Bm ws)) x j) ++ [V.str (txt (it (behind (Bm ws)) j x))] = wds (orb (behind (Bm ws)) x (j + 1)) := by
        rw [orb_succ]
        unfold wds
        rw [List.map_append]
        rfl
      rw [el]
      have he2 : Ex K H (upd H' L (.lst (wds (orb (behind (Bm ws)) x (j + 1))))) := he.mutL hL0 hl _
      have hsw2 : Sewn K (upd H' L (.lst (wds (orb (behind (Bm ws)) x (j + 1))))) f ws := by
        obtain ⟨b', n', c1, c2, ⟨dx, t, d, g1, g2, g3⟩, g4, g5, g6⟩ := hsw
        have ne : ∀ {a u}, H' a = some u → u ≠ .lst (wds (orb (behind (Bm ws)) x j)) → (upd H' L (.lst (wds (orb (behind (Bm ws)) x (j + 1))))) a = some u := fun h n => (upd_ne (fun z => by rw [z, hl] at h; exact n (Option.some.inj h).symm)).trans h
        exact ⟨b', n', c1, c2, ⟨dx, t, d, ne g1 (fun z => by cases z), ne g2 (fun z => by cases z), ne g3 (fun z => by cases z)⟩, ne g4 (fun z => by cases z), ne g5 (fun z => by cases z), ne g6 (fun z => by cases z)⟩
      (repeat (first | refine ⟨_, rfl, ?_⟩ | refine ⟨rfl, ?_⟩ | refine ⟨_, _, rfl, rfl, ?_⟩ | refine ⟨_, _, rfl, ?_⟩ | refine ⟨hz, ?_⟩ | refine ⟨(show 3 ≤ sizeLine by decide), ?_⟩ | refine ⟨(show 2 ≤ sizeLine by decide), ?_⟩ | refine ⟨by decide +kernel, ?_⟩ | refine ⟨.inl ⟨by decide, by decide⟩, ?_⟩ | refine ⟨(by show (0 : Int) < _; omega), ?_⟩ | refine ⟨⟨by omega, by omega⟩, ?_⟩ | refine .inl ⟨_, rfl, sz (by simp only [*, sM, sE, s1, s0, s110, s101, txt_cat, txt_len, cut_to, cut_from, cut_init, List.length_append, List.length_cons, List.length_nil, List.length_take, List.length_drop, List.length_dropLast, List.length_reverse]; omega), ?_⟩ | refine ⟨sz (by simp only [*, sM, sE, s1, s0, s110, s101, txt_cat, txt_len, cut_to, cut_from, cut_init, List.length_append, List.length_cons, List.length_nil, List.length_take, List.length_drop, List.length_dropLast, List.length_reverse]; omega), ?_⟩))
      exact ⟨_, f, ws, rfl, hlen j jp, hsw2, fun H2 e2 => ⟨j + 1, by omega, by omega, rfl, he2.trans e2, hsw2.ex e2, e2.lst upd_same⟩⟩
end
end EH

set_option Elab.async false
set_option linter.all false
set_option maxRecDepth 100000
set_option maxHeartbeats 4000000
namespace EH
open PySem PySem.Spec PyProof.Rows L2 LamX EL EM
/-- the ends of the pulls -/
def endsOf (ws : List W) : List W := ws.flatMap fun z => [z, pulled z]
theorem ends_len (ws : List W) : (endsOf ws).length = 2 * ws.length := by
  induction ws with
  | nil => rfl
  | cons a r ih =>
    show ([a, pulled a] ++ endsOf r).length = _
    have e : (a :: r).length = r.length + 1 := rfl
    rw [List.length_append, ih, e]
    show 2 + _ = _
    omega
theorem seen_at {ws : List W} {i : Nat} {k : Key} {v : V} (h : (seen ws)[i]? = some (k, v)) : ∃ z, ws[i]? = some z ∧ k = .inr (txt z) := by
  unfold seen at h
  rw [List.getElem?_map] at h
  cases q : ws[i]? with
  | none => rw [q] at h; cases h
  | some z =>
    rw [q] at h
    cases h
    exact ⟨z, rfl, rfl⟩
theorem dc_seen {K : PySem.W.Frag} {a : Addr} {L : List W} {s0 s1 s2 s3 s4 s5 s6 s7 : Option V} {H5 : Hp} {R : Addr → Hp → Prop} (hnd : L.Nodup) (hl : L.length ≤ 500) (ha : SqL K H5 a (wds L)) (hQ : ∀ D H6, H5 D = none → Ex K H5 H6 → H6 D = some (.dK (seen L)) → R D H6) :
    ∀ D, H5 D = none → ∃ W : Nat → Nat → Hp → Prop, (∃ m, W 0 m (upd H5 D (.dK []))) ∧ ∀ i m H, W i m H →
      ((Itl K a).stop i H ∧ R D H) ∨ ((Itl K a).go i H ∧ ∃ Nx : Hp → Prop, (∀ H', Nx H' → ∃ m', m' < m ∧ W (i + 1) m' H') ∧ ∀ x H', (Itl K a).yld i H x H' → gName 7 x (wipe [s0, s1, s2, s3, s4, s5, s6, s7] [7]) H' fun σ2 H2 => wipe σ2 [7] = wipe [s0, s1, s2, s3, s4, s5, s6, s7] [7] ∧ tYes σ2 H2 fun b H3 =>
        if b = true then tVar 7 σ2 H3 fun y H4 => tC (.bl true) σ2 H4 fun z H5 => ∃ kvs k, y = kV k ∧ H5 D = some (.dK kvs) ∧ kvs.length < sizeLine ∧ Nx (upd H5 D (.dK (putK kvs k z))) else Nx H3) := by
  intro D hD
  refine dc_lst (fun m H' => Ex K H5 H' ∧ H' D = some (.dK (seen (L.take m)))) ⟨Ex.new hD, upd_same⟩ (fun m H' h => h.1.sql ha) (fun m z H' hz h => ?_) fun H6 h6 => hQ D H6 hD h6.1 (by rw [← List.take_length (l := L)]; exact h6.2)
  obtain ⟨e6, hd6⟩ := h
  have nz := nd_take hnd hz
  have et : L.take (m + 1) = L.take m ++ [z] := by rw [List.take_add_one, hz]; rfl
  refine ⟨rfl, _, rfl, seen (L.take m), .inr (txt z), rfl, hd6, ?_, e6.mutD hD hd6 _, ?_⟩
  · unfold seen
    rw [List.length_map, List.length_take]
    exact Nat.lt_of_le_of_lt (show min m L.length ≤ 500 by omega) (by decide)
  · rw [upd_same, put_seen nz, et]
section
variable {Pg : Program} {w : World} {K : PySem.W.Frag} {mg : Str → Option Value} {base : Heap}
def N_rounds_in : List Str := ["book", "trees", "rounds", "joined", "known", "word", "end", "each"]
theorem sc_rounds_in : FnScope N_rounds_in ["book"] (defScope s_rounds_in) := ⟨rfl, rfl, rfl, by decide +kernel, rfl, by decide +kernel, by decide +kernel⟩
def sp_rounds_in (K : PySem.W.Frag) : Sp := fun vs H Q _ => ∃ (b : Addr) (n : Nat) (ws : List W) (oT oR : W → List W), vs = [.ref b] ∧ BookAt K H b (n : Nat) ws ∧ Tab K H ∧ 1 ≤ n ∧ n ≤ 200 ∧ ws.length ≤ 9 ∧ (∀ z ∈ ws, z.length ≤ 1000) ∧ (∀ x ∈ endsOf ws, ∃ p, PerOk turn x p (oT x)) ∧ (∀ x ∈ (grd oT (endsOf ws) (0, [])).2, ∃ p, PerOk (behind (Bm ws)) x p (oR x)) ∧
  (grd oT (endsOf ws) (0, [])).2.length ≤ 500 ∧ (grd oR (grd oT (endsOf ws) (0, [])).2 (0, [])).2.length ≤ 500 ∧ Gives K (.int (treesM n - ((grd oT (endsOf ws) (0, [])).1 : Nat) + ((grd oR (grd oT (endsOf ws) (0, [])).2 (0, [])).1 : Nat))) H Q
theorem c_rounds_in (T : Tx K mg) (TB : TabB base mg (cS K) (P0 K)) : Cl Pg w K mg base 7 "rounds_in" (sp_rounds_in K) :=
  have c_pulled_in := c_pulled_in (Pg := Pg) (w := w) (base := base) T
  have c_turns_in := c_turns_in (Pg := Pg) (w := w) (base := base) T
  have c_how_many_trees := c_how_many_trees (Pg := Pg) (w := w) (base := base) T
  have c_round_of := c_round_of (Pg := Pg) (w := w) T TB
  calD T.g_rounds_in T.f_rounds_in sc_rounds_in (fun _ _ _ _ _ _ us hl => match us, hl with | [_], _ => rfl) (fun vs H Q E h => by obtain ⟨i, _, _, _, _, rfl, _⟩ := h; rfl) fun cdv A outer st H vs Q E hr h => by
    obtain ⟨b, n, ws, oT, oR, rfl, ⟨dx, t, d, hb, ht, hd⟩, htab, h1, h200, h9, hlen, hT, hR, hsT, hsR, hQ⟩ := h
    refine ⟨_, (pss_cons (ps_asg (pe_tup (pa_cons pe_int (pa_cons pe_int (pa_cons pe_dnewK (pa_cons pe_dnewK pa_nil))))) (pg_tup rfl (pgs_cons (pg_name (i := 1) sc_rounds_in.nd rfl (Or.inl rfl)) (pgs_cons (pg_name (i := 2) sc_rounds_in.nd rfl (Or.inl rfl)) (pgs_cons (pg_name (i := 3) sc_rounds_in.nd rfl (Or.inl rfl)) (pgs_cons (pg_name (i := 4) sc_rounds_in.nd rfl (Or.inl rfl)) pgs_nil))))))
      (pss_cons (ps_for PassesOwn.never rfl (pi_tup (pe_fld (pv 0) rfl)) (pg_name (i := 5) sc_rounds_in.nd rfl (Or.inl rfl)) (pss_one (ps_for PassesOwn.never rfl (pi_tup (pe_tup (pa_cons (pv 5) (pa_cons (C8.pe_c c_pulled_in hr (by decide) (by rfl) (pa_cons (pv 5) pa_nil)) pa_nil)))) (pg_name (i := 6) sc_rounds_in.nd rfl (Or.inl rfl)) (pss_one (ps_if (pt_cmp (pc_dnotin (hu_of hr) (pv 6) (pv 3))) (pss_cons (ps_set (i := 1) sc_rounds_in.nd rfl (Or.inl rfl) (pe_op op_add (pv 1) pe_int))
      (pss_one (ps_expr (pe_bm PySem.F.plainAttrs_dict PySem.F.slot_dict_update PySem.F.type_dict_update mt_dupd (pv 3) (pa_cons (pe_dc (own := [("each", 7)]) (g := gName 7) (tt := tYes) (by rfl) sc_rounds_in.nd (pi_list (C8.pe_c c_turns_in hr (by decide) (by rfl) (pa_cons (pv 6) pa_nil))) (blkOk_by (own := [("each", 7)]) (N := N_rounds_in) (sc := (defScope s_rounds_in)) (by decide +kernel)) (fun _ _ _ _ _ => pg_name (i := 7) sc_rounds_in.nd rfl (Or.inl rfl)) (fun _ _ _ _ _ => pts_nil) (fun _ _ _ _ _ => (pv 7)) (fun _ _ _ _ _ => pe_bl)) pa_nil))))) pss_nil)))))
      (pss_cons (ps_lock (ps_for PassesOwn.never rfl (pi_keys (pv 3)) (pg_name (i := 5) sc_rounds_in.nd rfl (Or.inl rfl)) (pss_one (ps_if (pt_cmp (pc_dnotin (hu_of hr) (pv 5) (pv 4))) (pss_cons (ps_set (i := 2) sc_rounds_in.nd rfl (Or.inl rfl) (pe_op op_add (pv 2) pe_int))
      (pss_one (ps_expr (pe_bm PySem.F.plainAttrs_dict PySem.F.slot_dict_update PySem.F.type_dict_update mt_dupd (pv 4) (pa_cons (pe_dc (own := [("each", 7)]) (g := gName 7) (tt := tYes) (by rfl) sc_rounds_in.nd (pi_list (C8.pe_c c_round_of hr (by decide) (by rfl) (pa_cons (pv 0) (pa_cons (pv 5) pa_nil)))) (blkOk_by (own := [("each", 7)]) (N := N_rounds_in) (sc := (defScope s_rounds_in)) (by decide +kernel)) (fun _ _ _ _ _ => pg_name (i := 7) sc_rounds_in.nd rfl (Or.inl rfl)) (fun _ _ _ _ _ => pts_nil) (fun _ _ _ _ _ => (pv 7)) (fun _ _ _ _ _ => pe_bl)) pa_nil))))) pss_nil))))
      (pss_one (ps_ret (pe_op op_add (pe_op op_sub (C8.pe_c c_how_many_trees hr (by decide) (by rfl) (pa_cons (pe_fld (pv 0) rfl) pa_nil)) (pv 1)) (pv 2))))))), ?_⟩
    (repeat (first | refine ⟨_, rfl, ?_⟩ | refine ⟨rfl, ?_⟩ | refine ⟨_, _, rfl, rfl, ?_⟩ | refine ⟨_, _, rfl, ?_⟩ | refine ⟨hz, ?_⟩ | refine ⟨(show 3 ≤ sizeLine by decide), ?_⟩ | refine ⟨(show 2 ≤ sizeLine by decide), ?_⟩ | refine ⟨by decide +kernel, ?_⟩ | refine ⟨.inl ⟨by decide, by decide⟩, ?_⟩ | refine ⟨(by show (0 : Int) < _; omega), ?_⟩ | refine ⟨⟨by omega, by omega⟩, ?_⟩ | refine .inl ⟨_, rfl, sz (by simp only [*, sM, sE, s1, s0, s110, s101, txt_cat, txt_len, cut_to, cut_from, cut_init, List.length_append, List.length_cons, List.length_nil, List.length_take, List.length_drop, List.length_dropLast, List.length_reverse]; omega), ?_⟩ | refine ⟨sz (by simp only [*, sM, sE, s1, s0, s110, s101, txt_cat, txt_len, cut_to, cut_from, cut_init, List.length_append, List.length_cons, List.length_nil, List.length_take, List.length_drop, List.length_dropLast, List.length_reverse]; omega), ?_⟩))
    intro J hJ
    (repeat (first | refine ⟨_, rfl, ?_⟩ | refine ⟨rfl, ?_⟩ | refine ⟨_, _, rfl, rfl, ?_⟩ | refine ⟨_, _, rfl, ?_⟩ | refine ⟨hz, ?_⟩ | refine ⟨(show 3 ≤ sizeLine by decide), ?_⟩ | refine ⟨(show 2 ≤ sizeLine by decide), ?_⟩ | refine ⟨by decide +kernel, ?_⟩ | refine ⟨.inl ⟨by decide, by decide⟩, ?_⟩ | refine ⟨(by show (0 : Int) < _; omega), ?_⟩ | refine ⟨⟨by omega, by omega⟩, ?_⟩ | refine .inl ⟨_, rfl, sz (by simp only [*, sM, sE, s1, s0, s110, s101, txt_cat, txt_len, cut_to, cut_from, cut_init, List.length_append, List.length_cons, List.length_nil, List.length_take, List.length_drop, List.length_dropLast, List.length_reverse]; omega), ?_⟩ | refine ⟨sz (by simp only [*, sM, sE, s1, s0, s110, s101, txt_cat, txt_len, cut_to, cut_from, cut_init, List.length_append, List.length_cons, List.length_nil, List.length_take, List.length_drop, List.length_dropLast, List.length_reverse]; omega), ?_⟩))
    intro Kn hKn
    (repeat (first | refine ⟨_, rfl, ?_⟩ | refine ⟨rfl, ?_⟩ | refine ⟨_, _, rfl, rfl, ?_⟩ | refine ⟨_, _, rfl, ?_⟩ | refine ⟨hz, ?_⟩ | refine ⟨(show 3 ≤ sizeLine by decide), ?_⟩ | refine ⟨(show 2 ≤ sizeLine by decide), ?_⟩ | refine ⟨by decide +kernel, ?_⟩ | refine ⟨.inl ⟨by decide, by decide⟩, ?_⟩ | refine ⟨(by show (0 : Int) < _; omega), ?_⟩ | refine ⟨⟨by omega, by omega⟩, ?_⟩ | refine .inl ⟨_, rfl, sz (by simp only [*, sM, sE, s1, s0, s110, s101, txt_cat, txt_len, cut_to, cut_from, cut_init, List.length_append, List.length_cons, List.length_nil, List.length_take, List.length_drop, List.length_dropLast, List.length_reverse]; omega), ?_⟩ | refine ⟨sz (by simp only [*, sM, sE, s1, s0, s110, s101, txt_cat, txt_len, cut_to, cut_from, cut_init, List.length_append, List.length_cons, List.length_nil, List.length_take, List.length_drop, List.length_dropLast, List.length_reverse]; omega), ?_⟩))
    intro p0 hp0
    have hKJ : Kn ≠ J := fun z => by rw [z, upd_same] at hKn; cases hKn
    have hKn0 : H Kn = none := upd_no hKn
    refine ⟨p0, _, rfl, .inl (.inl upd_same), rfl, _, _, rfl, _, _, rfl, _, _, rfl, _, _, rfl, rfl, ?_⟩
    have E0 : Ex K H (upd (upd (upd H J (.dK [])) Kn (.dK [])) p0 (.tup [.int 0, .int 0, .ref J, .ref Kn])) := ((Ex.new hJ).trans (Ex.new hKn)).trans (Ex.new hp0)
    have J0 : (upd (upd (upd H J (.dK [])) Kn (.dK [])) p0 (.tup [.int 0, .int 0, .ref J, .ref Kn])) J = some (.dK []) := (Ex.new (K := K) hp0).dK ((Ex.new (K := K) hKn).dK upd_same)
    have K0 : (upd (upd (upd H J (.dK [])) Kn (.dK [])) p0 (.tup [.int 0, .int 0, .ref J, .ref Kn])) Kn = some (.dK []) := (Ex.new (K := K) hp0).dK upd_same
    generalize upd (upd (upd H J (.dK [])) Kn (.dK [])) p0 (.tup [.int 0, .int 0, .ref J, .ref Kn]) = Hs at E0 J0 K0 ⊢
    have hb1 := E0.k _ _ hb fun ps z => by cases z
    refine ⟨_, rfl, b, CB K, dx, bfs (n : Nat) t d, .ref t, rfl, hb1, T.bcl, T.bnW, bfs_w _ t d, t, rfl, ⟨_, .inl (.inl (E0.tup ht))⟩, ?_⟩
    refine for_tup (xs := wds ws) (fun i σ H' => ∃ a5 a6 a7, σ = [some (.ref b), some (.int ((grd oT (endsOf (ws.take i)) (0, [])).1 : Nat)), some (.int 0), some (.ref J), some (.ref Kn), a5, a6, a7] ∧ Ex K H H' ∧ H' J = some (.dK (seen (grd oT (endsOf (ws.take i)) (0, [])).2)) ∧ H' Kn = some (.dK [])) (fun i σ H' ⟨_, _, _, _, e, _⟩ => .inl (.inl (e.tup ht))) ⟨none, none, none, rfl, E0, J0, K0⟩ (fun i v σ H1 hv hp => ?_) fun σ H1 hp => ?_
    · obtain ⟨z, hz, rfl⟩ := wds_at hv
      obtain ⟨a5, a6, a7, rfl, e1, j1, k1⟩ := hp
      have hzm := List.mem_of_getElem? hz
      (repeat (first | refine ⟨_, rfl, ?_⟩ | refine ⟨rfl, ?_⟩ | refine ⟨_, _, rfl, rfl, ?_⟩ | refine ⟨_, _, rfl, ?_⟩ | refine ⟨hz, ?_⟩ | refine ⟨(show 3 ≤ sizeLine by decide), ?_⟩ | refine ⟨(show 2 ≤ sizeLine by decide), ?_⟩ | refine ⟨by decide +kernel, ?_⟩ | refine ⟨.inl ⟨by decide, by decide⟩, ?_⟩ | refine ⟨(by show (0 : Int) < _; omega), ?_⟩ | refine ⟨⟨by omega, by omega⟩, ?_⟩ | refine .inl ⟨_, rfl, sz (by simp only [*, sM, sE, s1, s0, s110, s101, txt_cat, txt_len, cut_to, cut_from, cut_init, List.length_append, List.length_cons, List.length_nil, List.length_take, List.length_drop, List.length_dropLast, List.length_reverse]; omega), ?_⟩ | refine ⟨sz (by simp only [*, sM, sE, s1, s0, s110, s101, txt_cat, txt_len, cut_to, cut_from, cut_init, List.length_append, List.length_cons, List.length_nil, List.length_take, List.length_drop, List.length_dropLast, List.length_reverse]; omega), ?_⟩))
      refine ⟨hlen z hzm, fun H2 e2 => ?_⟩
      (repeat (first | refine ⟨_, rfl, ?_⟩ | refine ⟨rfl, ?_⟩ | refine ⟨_, _, rfl, rfl, ?_⟩ | refine ⟨_, _, rfl, ?_⟩ | refine ⟨hz, ?_⟩ | refine ⟨(show 3 ≤ sizeLine by decide), ?_⟩ | refine ⟨(show 2 ≤ sizeLine by decide), ?_⟩ | refine ⟨by decide +kernel, ?_⟩ | refine ⟨.inl ⟨by decide, by decide⟩, ?_⟩ | refine ⟨(by show (0 : Int) < _; omega), ?_⟩ | refine ⟨⟨by omega, by omega⟩, ?_⟩ | refine .inl ⟨_, rfl, sz (by simp only [*, sM, sE, s1, s0, s110, s101, txt_cat, txt_len, cut_to, cut_from, cut_init, List.length_append, List.length_cons, List.length_nil, List.length_take, List.length_drop, List.length_dropLast, List.length_reverse]; omega), ?_⟩ | refine ⟨sz (by simp only [*, sM, sE, s1, s0, s110, s101, txt_cat, txt_len, cut_to, cut_from, cut_init, List.length_append, List.length_cons, List.length_nil, List.length_take, List.length_drop, List.length_dropLast, List.length_reverse]; omega), ?_⟩))
      intro tp htp
      (repeat (first | refine ⟨_, rfl, ?_⟩ | refine ⟨rfl, ?_⟩ | refine ⟨_, _, rfl, rfl, ?_⟩ | refine ⟨_, _, rfl, ?_⟩ | refine ⟨hz, ?_⟩ | refine ⟨(show 3 ≤ sizeLine by decide), ?_⟩ | refine ⟨(show 2 ≤ sizeLine by decide), ?_⟩ | refine ⟨by decide +kernel, ?_⟩ | refine ⟨.inl ⟨by decide, by decide⟩, ?_⟩ | refine ⟨(by show (0 : Int) < _; omega), ?_⟩ | refine ⟨⟨by omega, by omega⟩, ?_⟩ | refine .inl ⟨_, rfl, sz (by simp only [*, sM, sE, s1, s0, s110, s101, txt_cat, txt_len, cut_to, cut_from, cut_init, List.length_append, List.length_cons, List.length_nil, List.length_take, List.length_drop, List.length_dropLast, List.length_reverse]; omega), ?_⟩ | refine ⟨sz (by simp only [*, sM, sE, s1, s0, s110, s101, txt_cat, txt_len, cut_to, cut_from, cut_init, List.length_append, List.length_cons, List.length_nil, List.length_take, List.length_drop, List.length_dropLast, List.length_reverse]; omega), ?_⟩))
      have e3 : Ex K H1 (upd H2 tp (.tup (wds [z, pulled z]))) := e2.trans (Ex.new htp)
      refine ⟨⟨_, .inl (.inl upd_same)⟩, for_tup (xs := wds [z, pulled z]) (fun k σ H' => ∃ a6 a7, σ = [some (.ref b), some (.int ((grd oT (endsOf (ws.take i) ++ [z, pulled z].take k) (0, [])).1 : Nat)), some (.int 0), some (.ref J), some (.ref Kn), some (.str (txt z)), a6, a7] ∧ Ex K H H' ∧ H' J = some (.dK (seen (grd oT (endsOf (ws.take i) ++ [z, pulled z].take k) (0, [])).2)) ∧ H' Kn = some (.dK []) ∧ H' tp = some (.tup (wds [z, pulled z]))) (fun i σ H' ⟨_, _, _, _, _, _, e⟩ => .inl (.inl e)) ⟨a6, a7, by rw [List.take_zero, List.append_nil]; rfl, e1.trans e3, by rw [List.take_zero, List.append_nil]; exact e3.dK j1, e3.dK k1, upd_same⟩ (fun k v σ H4 hv hp => ?_) fun σ H4 hp => ?_⟩
      · obtain ⟨x, hx, rfl⟩ := wds_at hv
        obtain ⟨c6, c7, rfl, f1, f2, f3, f4⟩ := hp
        have hxe : x ∈ endsOf ws := List.mem_flatMap.mpr ⟨z, hzm, List.mem_of_getElem? hx⟩
        obtain ⟨p, hp5, hper, hle, hO⟩ := hT x hxe
        have elk : endsOf (ws.take i) ++ [z, pulled z].take (k + 1) = (endsOf (ws.take i) ++ [z, pulled z].take k) ++ [x] := by
          rw [List.append_assoc, List.take_add_one, hx]
          rfl
        rw [elk, grd_snoc]
        have hsub : ∀ y ∈ endsOf (ws.take i) ++ [z, pulled z].take k, y ∈ endsOf ws := fun y hy => by
          rcases List.mem_append.mp hy with q | q
          · obtain ⟨y0, q1, q2⟩ := List.mem_flatMap.mp q
            exact List.mem_flatMap.mpr ⟨y0, List.mem_of_mem_take q1, q2⟩
          · exact List.mem_flatMap.mpr ⟨z, hzm, List.mem_of_mem_take q⟩
        have hlenl : (endsOf (ws.take i) ++ [z, pulled z].take k).length ≤ 20 := by
          rw [List.length_append, ends_len, List.length_take, List.length_take]
          show _ + min k 2 ≤ 20
          omega
        have hsz := grd_le (o := oT) (m := 500) (endsOf (ws.take i) ++ [z, pulled z].take k) (fun y hy => by
          obtain ⟨p', a1, _, _, a4⟩ := hT y (hsub y hy)
          rw [a4, orb_len]
          exact a1) (0, [])
        have hszx : (oT x).length ≤ 500 := by rw [hO, orb_len]; exact hp5
        generalize grd oT (endsOf (ws.take i) ++ [z, pulled z].take k) (0, []) = S at f2 hsz ⊢
        refine ⟨_, rfl, _, rfl, J, valV (seen S.2) (.inr (txt x) : Key), rfl, DGet.k (k := Sum.inr (txt x)) f2, _, rfl, ?_⟩
        rw [seen_val]
        by_cases cm : x ∈ S.2
        · rw [if_pos cm]
          exact nF cm ⟨_, _, rfl, f1, f2, f3, f4⟩
        · rw [if_neg cm]
          refine nT cm ?_
          (repeat (first | refine ⟨_, rfl, ?_⟩ | refine ⟨rfl, ?_⟩ | refine ⟨_, _, rfl, rfl, ?_⟩ | refine ⟨_, _, rfl, ?_⟩ | refine ⟨hz, ?_⟩ | refine ⟨(show 3 ≤ sizeLine by decide), ?_⟩ | refine ⟨(show 2 ≤ sizeLine by decide), ?_⟩ | refine ⟨by decide +kernel, ?_⟩ | refine ⟨.inl ⟨by decide, by decide⟩, ?_⟩ | refine ⟨(by show (0 : Int) < _; omega), ?_⟩ | refine ⟨⟨by omega, by omega⟩, ?_⟩ | refine .inl ⟨_, rfl, sz (by simp only [*, sM, sE, s1, s0, s110, s101, txt_cat, txt_len, cut_to, cut_from, cut_init, List.length_append, List.length_cons, List.length_nil, List.length_take, List.length_drop, List.length_dropLast, List.length_reverse]; omega), ?_⟩ | refine ⟨sz (by simp only [*, sM, sE, s1, s0, s110, s101, txt_cat, txt_len, cut_to, cut_from, cut_init, List.length_append, List.length_cons, List.length_nil, List.length_take, List.length_drop, List.length_dropLast, List.length_reverse]; omega), ?_⟩))
          refine ⟨.inr (.inr (.inl ⟨rfl, .inl ⟨_, f2⟩⟩)), ?_⟩
          refine ⟨_, rfl, x, p, rfl, by omega, hper, fun j hj => Nat.le_trans (hle j hj) (by decide), fun L H5 e5 hL hl => ⟨L, rfl, ⟨_, .inl (.inl hl)⟩, ?_⟩⟩
          rw [← hO] at hl
          refine dc_seen (by rw [hO]; exact hper.nodup) hszx (.inl (.inl hl)) fun D H6 hD e6 h6 => ?_
          have e56 := e5.trans e6
          have j6 := e56.dK f2
          have hJD : J ≠ D := fun z => by rw [← z, e5.dK f2] at hD; cases hD
          refine ⟨J, D, _, _, rfl, rfl, j6, h6, hJD, ?_, ?_⟩
          · unfold seen
            rw [List.length_map, List.length_map]
            exact Nat.le_trans (show _ ≤ 20000 by have h0 : ((0, []) : Nat × List W).2.length = 0 := rfl; omega) (by decide)
          · rw [merge_seen]
            exact ⟨_, _, rfl, (f1.trans e56).mutD hJ j6 _, upd_same, (upd_ne hKJ).trans (e56.dK f3), (upd_ne (fun z => by rw [z, f2] at f4; cases f4)).trans (e56.tup f4)⟩
      · obtain ⟨c6, c7, rfl, f1, f2, f3, f4⟩ := hp
        have e : endsOf (ws.take i) ++ [z, pulled z].take 2 = endsOf (ws.take (i + 1)) := by
          have e0 : ws.take (i + 1) = ws.take i ++ [z] := by rw [List.take_add_one, hz]; rfl
          rw [e0]
          unfold endsOf
          rw [List.flatMap_append]
          rfl
        have f1' : (wds [z, pulled z]).length = 2 := rfl
        rw [f1', e] at f2
        rw [f1', e]
        exact ⟨_, _, _, rfl, f1, f2, f3⟩
    · obtain ⟨a5, a6, a7, rfl, e1, j1, k1⟩ := hp
      rw [show (wds ws).length = ws.length from List.length_map _, List.take_length] at j1 ⊢
      have hg : ∀ x ∈ (grd oT (endsOf ws) (0, [])).2, (oR x).length ≤ 500 := fun x hx => by
        obtain ⟨p, q1, _, _, q4⟩ := hR x hx
        rw [q4, orb_len]
        exact q1
      generalize grd oT (endsOf ws) (0, []) = S at hR hsT hsR hQ j1 hg ⊢
      refine ⟨J, _, j1, True.intro, fun od => ?_⟩
      have hbk : BookAt K H b (n : Nat) ws := ⟨dx, t, d, hb, ht, hd⟩
      have lsn : (seen S.2).length = S.2.length := List.length_map _
      refine ⟨_, rfl, J, od, rfl, .inl ⟨_, upd_same, for_key (fun i σ H' => ∃ a5 a6 a7, σ = [some (.ref b), some (.int (S.1 : Nat)), some (.int ((grd oR (S.2.take i) (0, [])).1 : Nat)), some (.ref J), some (.ref Kn), a5, a6, a7] ∧ Ex K H H' ∧ H' J = some (.frz od (.dK (seen S.2))) ∧ H' Kn = some (.dK (seen (grd oR (S.2.take i) (0, [])).2))) (fun i σ H' ⟨_, _, _, _, _, e, _⟩ => e) ⟨a5, a6, a7, rfl, e1.mutD hJ j1 _, upd_same, (upd_ne hKJ).trans k1⟩ (fun i k v σ H2 hv hp => ?_) fun σ H2 hp => ?_⟩⟩
      · obtain ⟨x, hx, rfl⟩ := seen_at hv
        obtain ⟨c5, c6, c7, rfl, f1, f2, f3⟩ := hp
        have hxm := List.mem_of_getElem? hx
        obtain ⟨p, hp5, hper, hle, hO⟩ := hR x hxm
        have elk : S.2.take (i + 1) = S.2.take i ++ [x] := by
          rw [List.take_add_one, hx]
          rfl
        rw [elk, grd_snoc]
        have hszr := hg x hxm
        have hszk : ∀ y ∈ S.2.take i, (oR y).length ≤ 500 := fun y hy => hg y (List.mem_of_mem_take hy)
        have hsz := grd_le (o := oR) (m := 500) (S.2.take i) hszk (0, [])
        have hti : (S.2.take i).length ≤ 500 := by rw [List.length_take]; omega
        generalize grd oR (S.2.take i) (0, []) = U at f3 hsz ⊢
        refine ⟨_, rfl, _, rfl, Kn, valV (seen U.2) (.inr (txt x) : Key), rfl, DGet.k (k := Sum.inr (txt x)) f3, _, rfl, ?_⟩
        rw [seen_val]
        by_cases cm : x ∈ U.2
        · rw [if_pos cm]
          exact nF cm ⟨_, _, _, rfl, f1, f2, f3⟩
        · rw [if_neg cm]
          refine nT cm ?_
          (repeat (first | refine ⟨_, rfl, ?_⟩ | refine ⟨rfl, ?_⟩ | refine ⟨_, _, rfl, rfl, ?_⟩ | refine ⟨_, _, rfl, ?_⟩ | refine ⟨hz, ?_⟩ | refine ⟨(show 3 ≤ sizeLine by decide), ?_⟩ | refine ⟨(show 2 ≤ sizeLine by decide), ?_⟩ | refine ⟨by decide +kernel, ?_⟩ | refine ⟨.inl ⟨by decide, by decide⟩, ?_⟩ | refine ⟨(by show (0 : Int) < _; omega), ?_⟩ | refine ⟨⟨by omega, by omega⟩, ?_⟩ | refine .inl ⟨_, rfl, sz (by simp only [*, sM, sE, s1, s0, s110, s101, txt_cat, txt_len, cut_to, cut_from, cut_init, List.length_append, List.length_cons, List.length_nil, List.length_take, List.length_drop, List.length_dropLast, List.length_reverse]; omega), ?_⟩ | refine ⟨sz (by simp only [*, sM, sE, s1, s0, s110, s101, txt_cat, txt_len, cut_to, cut_from, cut_init, List.length_append, List.length_cons, List.length_nil, List.length_take, List.length_drop, List.length_dropLast, List.length_reverse]; omega), ?_⟩))
          refine ⟨.inr (.inr (.inl ⟨rfl, .inl ⟨_, f3⟩⟩)), ?_⟩
          refine ⟨_, rfl, _, rfl, b, _, ws, x, p, oR x, rfl, hbk.ex f1, f1.t htab, ⟨hp5, hper, hle, hO⟩, fun L H5 e5 hL hl => ⟨L, rfl, ⟨_, .inl (.inl hl)⟩, ?_⟩⟩
          refine dc_seen (by rw [hO]; exact hper.nodup) hszr (.inl (.inl hl)) fun D H6 hD e6 h6 => ?_
          have e56 := e5.trans e6
          have j6 := e56.dK f3
          have hJD : Kn ≠ D := fun z => by rw [← z, e5.dK f3] at hD; cases hD
          have g2 := e56.k _ _ f2 fun ps z => by cases z
          refine ⟨Kn, D, _, _, rfl, rfl, j6, h6, hJD, ?_, ?_⟩
          · unfold seen
            rw [List.length_map, List.length_map]
            exact Nat.le_trans (show _ ≤ 260000 by have h0 : ((0, []) : Nat × List W).2.length = 0 := rfl; omega) (by decide)
          · rw [merge_seen]
            exact ⟨_, _, _, rfl, (f1.trans e56).mutD hKn0 j6 _, (upd_ne (fun z => hKJ z.symm)).trans g2, upd_same⟩
      · obtain ⟨c5, c6, c7, rfl, f1, f2, f3⟩ := hp
        rw [lsn, List.take_length]
        refine ⟨f2, ?_⟩
        have E9 : Ex K H (upd H2 J (.dK (seen S.2))) := f1.mut hJ f2 (fun φ z => by cases z) _
        have hb9 := E9.k _ _ hb fun ps z => by cases z
        refine ⟨_, rfl, b, CB K, dx, bfs (n : Nat) t d, .int (n : Nat), rfl, hb9, T.bcl, T.bnP, bfs_p _ t d, n, rfl, h1, h200, fun H7 e7 => ?_⟩
        (repeat (first | refine ⟨_, rfl, ?_⟩ | refine ⟨rfl, ?_⟩ | refine ⟨_, _, rfl, rfl, ?_⟩ | refine ⟨_, _, rfl, ?_⟩ | refine ⟨hz, ?_⟩ | refine ⟨(show 3 ≤ sizeLine by decide), ?_⟩ | refine ⟨(show 2 ≤ sizeLine by decide), ?_⟩ | refine ⟨by decide +kernel, ?_⟩ | refine ⟨.inl ⟨by decide, by decide⟩, ?_⟩ | refine ⟨(by show (0 : Int) < _; omega), ?_⟩ | refine ⟨⟨by omega, by omega⟩, ?_⟩ | refine .inl ⟨_, rfl, sz (by simp only [*, sM, sE, s1, s0, s110, s101, txt_cat, txt_len, cut_to, cut_from, cut_init, List.length_append, List.length_cons, List.length_nil, List.length_take, List.length_drop, List.length_dropLast, List.length_reverse]; omega), ?_⟩ | refine ⟨sz (by simp only [*, sM, sE, s1, s0, s110, s101, txt_cat, txt_len, cut_to, cut_from, cut_init, List.length_append, List.length_cons, List.length_nil, List.length_take, List.length_drop, List.length_dropLast, List.length_reverse]; omega), ?_⟩))
        exact hQ H7 (E9.trans e7)
end
end EH

set_option Elab.async false
set_option linter.all false
set_option maxRecDepth 100000
set_option maxHeartbeats 4000000
namespace EH
open PySem PySem.Spec PyProof.Rows L2 LamX EL EM
/-- what count of rounds the program makes -/
def manyM (n : Nat) (ws : List W) (oT oR : W → List W) : Int := treesM n - ((grd oT (endsOf ws) (0, [])).1 : Nat) + ((grd oR (grd oT (endsOf ws) (0, [])).2 (0, [])).1 : Nat)
/-- the steps from one post to another, the second's word the i-th of p -/
def stepM (i wd off gone p : Nat) : Int := if ((i : Int) * wd + off - gone) ≥ 0 then (i : Int) * wd + off - gone else (i : Int) * wd + off - gone + (p : Int) * wd
theorem eq_str (a b : W) : eqV (.str (txt a)) (.str (txt b)) = decide (a = b) := by
  show (txt a == txt b) = _
  by_cases h : a = b
  · rw [h, decide_eq_true rfl, beq_self_eq_true]
  · rw [decide_eq_false h]
    exact beq_eq_false_iff_ne.mpr fun z => h (txt_inj z)
theorem flat_wds (O : List W) : (wds O).all flatV = true := List.all_eq_true.mpr fun x hx => by
  obtain ⟨z, _, rfl⟩ := List.mem_map.mp hx
  rfl
theorem inV_wds (z : W) (O : List W) : inV (.str (txt z)) (wds O) = decide (z ∈ O) := by
  unfold inV wds
  rw [List.any_map]
  by_cases h : z ∈ O
  · rw [decide_eq_true h, List.any_eq_true]
    exact ⟨z, h, by show eqV (.str (txt z)) (.str (txt z)) = true; rw [eq_str, decide_eq_true rfl]⟩
  · rw [decide_eq_false h, List.any_eq_false]
    intro y hy q
    have q : eqV (.str (txt y)) (.str (txt z)) = true := q
    rw [eq_str] at q
    exact h (by rw [← of_decide_eq_true q]; exact hy)
theorem nd_before {α : Type} {O : List α} {i m : Nat} {a b : α} (h : O.Nodup) (hi : O[i]? = some a) (hm : m < i) (hb : O[m]? = some b) : b ≠ a := by
  intro e
  subst e
  refine nd_take h hi ?_
  exact List.mem_of_getElem? (i := m) (by rw [List.getElem?_take, if_pos hm]; exact hb)
section
variable {Pg : Program} {w : World} {K : PySem.W.Frag} {mg : Str → Option Value} {base : Heap}
def N_how_many_rounds : List Str := ["book"]
theorem sc_how_many_rounds : FnScope N_how_many_rounds ["book"] (defScope s_how_many_rounds) := ⟨rfl, rfl, rfl, by decide +kernel, rfl, by decide +kernel, by decide +kernel⟩
def sp_many (K : PySem.W.Frag) : Sp := fun vs H Q _ => ∃ (b : Addr) (n : Nat) (ws : List W) (oT oR : W → List W), vs = [.ref b] ∧ BookAt K H b (n : Nat) ws ∧ Tab K H ∧ 1 ≤ n ∧ n ≤ 200 ∧ ws.length ≤ 9 ∧ (∀ z ∈ ws, z.length ≤ 1000) ∧ (∀ x ∈ endsOf ws, ∃ p, PerOk turn x p (oT x)) ∧ (∀ x ∈ (grd oT (endsOf ws) (0, [])).2, ∃ p, PerOk (behind (Bm ws)) x p (oR x)) ∧
  (grd oT (endsOf ws) (0, [])).2.length ≤ 500 ∧ (grd oR (grd oT (endsOf ws) (0, [])).2 (0, [])).2.length ≤ 500 ∧ Gives K (.int (manyM n ws oT oR)) H Q
theorem c_how_many_rounds (T : Tx K mg) (TB : TabB base mg (cS K) (P0 K)) : Cl Pg w K mg base 8 "how_many_rounds" (sp_many K) :=
  have c_need_book := c_need_book (Pg := Pg) (w := w) (base := base) T
  have c_rounds_in := c_rounds_in (Pg := Pg) (w := w) T TB
  calD T.g_how_many_rounds T.f_how_many_rounds sc_how_many_rounds (fun _ _ _ _ _ _ us hl => match us, hl with | [_], _ => rfl) (fun vs H Q E h => by obtain ⟨i, _, _, _, _, rfl, _⟩ := h; rfl) fun cdv A outer st H vs Q E hr h => by
    obtain ⟨b, n, ws, oT, oR, rfl, hb, htab, h1, h200, h9, hlen, hT, hR, hsT, hsR, hQ⟩ := h
    refine ⟨_, (pss_cons (ps_expr (C8.pe_c c_need_book hr (by decide) (by rfl) (pa_cons (pv 0) pa_nil)))
      (pss_one (ps_ret (C8.pe_c c_rounds_in hr (by decide) (by rfl) (pa_cons (pv 0) pa_nil))))), ?_⟩
    refine ⟨_, rfl, b, _, ws, rfl, hb, fun H1 e1 => ?_⟩
    exact ⟨_, rfl, b, n, ws, oT, oR, rfl, hb.ex e1, e1.t htab, h1, h200, h9, hlen, hT, hR, hsT, hsR, fun H2 e2 => hQ H2 (e1.trans e2)⟩
def N_round_long : List Str := ["book", "state", "word"]
theorem sc_round_long : FnScope N_round_long ["book", "state"] (defScope s_round_long) := ⟨rfl, rfl, rfl, by decide +kernel, rfl, by decide +kernel, by decide +kernel⟩
def sp_long (K : PySem.W.Frag) : Sp := fun vs H Q _ => ∃ (b : Addr) (n : Nat) (ws : List W) (x : W) (p : Nat) (O : List W), vs = [.ref b, .str (txt x)] ∧ BookAt K H b (n : Nat) ws ∧ Tab K H ∧ StOk x ∧ x.length ≤ 200 ∧ x.length / 2 = n ∧ PerOk (behind (Bm ws)) (postH (Bm ws) (homeOf x)).1 p O ∧ Gives K (.int ((p * wide (postH (Bm ws) (homeOf x)).1 : Nat) : Int)) H Q
theorem c_round_long (T : Tx K mg) (TB : TabB base mg (cS K) (P0 K)) : Cl Pg w K mg base 7 "round_long" (sp_long K) :=
  have c_need_its_state := c_need_its_state (Pg := Pg) (w := w) (base := base) T
  have c_post_in := c_post_in (Pg := Pg) (w := w) (base := base) T
  have c_wide_of := c_wide_of (Pg := Pg) (w := w) (base := base) T
  have c_sewn_by := c_sewn (Pg := Pg) (w := w) T TB
  have c_round_of := c_round_of (Pg := Pg) (w := w) T TB
  calD T.g_round_long T.f_round_long sc_round_long (fun _ _ _ _ _ _ us hl => match us, hl with | [_, _], _ => rfl) (fun vs H Q E h => by obtain ⟨i, _, _, _, _, _, rfl, _⟩ := h; rfl) fun cdv A outer st H vs Q E hr h => by
    obtain ⟨b, n, ws, x, p, O, rfl, hb, ht, hs, h200, hn, hO, hQ⟩ := h
    refine ⟨_, (pss_cons (ps_expr (C8.pe_c c_need_its_state hr (by decide) (by rfl) (pa_cons (pv 0) (pa_cons (pv 1) pa_nil))))
      (pss_cons (ps_set (i := 2) sc_round_long.nd rfl (Or.inl rfl) (pe_ix ix_tup (C8.pe_c c_post_in hr (by decide) (by rfl) (pa_cons (pv 1) (pa_cons (C8.pe_c c_sewn_by hr (by decide) (by rfl) (pa_cons (pv 0) pa_nil)) pa_nil))) pe_int (fun _ _ => rfl)))
      (pss_one (ps_ret (pe_op op_mul (pe_callB call_len_seq (by rfl) T.n_len PySem.boot_len (pa_cons (C8.pe_c c_round_of hr (by decide) (by rfl) (pa_cons (pv 0) (pa_cons (pv 2) pa_nil))) pa_nil)) (C8.pe_c c_wide_of hr (by decide) (by rfl) (pa_cons (pv 2) pa_nil))))))), ?_⟩
    refine ⟨_, rfl, _, rfl, b, n, ws, x, rfl, hb, hs, hn, fun H1 e1 => ?_⟩
    refine ⟨_, rfl, _, rfl, b, _, ws, rfl, hb.ex e1, e1.t ht, fun f H2 e2 hf h2 => ?_⟩
    refine ⟨x, f, ws, rfl, hs, h200, h2, fun q H3 e3 hq h3 => ?_⟩
    have E3 := (e1.trans e2).trans e3
    generalize postH (Bm ws) (homeOf x) = P at hO hQ h3
    (repeat (first | refine ⟨_, rfl, ?_⟩ | refine ⟨rfl, ?_⟩ | refine ⟨_, _, rfl, rfl, ?_⟩ | refine ⟨_, _, rfl, ?_⟩ | refine ⟨hz, ?_⟩ | refine ⟨(show 3 ≤ sizeLine by decide), ?_⟩ | refine ⟨(show 2 ≤ sizeLine by decide), ?_⟩ | refine ⟨by decide +kernel, ?_⟩ | refine ⟨.inl ⟨by decide, by decide⟩, ?_⟩ | refine ⟨(by show (0 : Int) < _; omega), ?_⟩ | refine ⟨⟨by omega, by omega⟩, ?_⟩ | refine .inl ⟨_, rfl, sz (by simp only [*, sM, sE, s1, s0, s110, s101, txt_cat, txt_len, cut_to, cut_from, cut_init, List.length_append, List.length_cons, List.length_nil, List.length_take, List.length_drop, List.length_dropLast, List.length_reverse]; omega), ?_⟩ | refine ⟨sz (by simp only [*, sM, sE, s1, s0, s110, s101, txt_cat, txt_len, cut_to, cut_from, cut_init, List.length_append, List.length_cons, List.length_nil, List.length_take, List.length_drop, List.length_dropLast, List.length_reverse]; omega), ?_⟩))
    refine ⟨q, _, _, _, rfl, rfl, .inl (.inl h3), rfl, ?_⟩
    obtain ⟨hp5, hper, hle, hO'⟩ := hO
    refine ⟨_, rfl, _, rfl, b, _, ws, P.1, p, O, rfl, hb.ex E3, E3.t ht, ⟨hp5, hper, hle, hO'⟩, fun L H5 e5 hL hl => ?_⟩
    refine ⟨L, _, rfl, .inl (.inl (.inl hl)), ?_⟩
    have hl0 := hle 0 (Nat.zero_le _)
    have lO : (wds O).length = p := by rw [hO']; exact (List.length_map _).trans (orb_len _ _ _)
    refine ⟨_, rfl, P.1, rfl, Nat.le_trans hl0 (by decide), fun H6 e6 => ?_⟩
    refine ⟨_, _, rfl, rfl, .inl ⟨by omega, by omega⟩, ?_⟩
    rw [lO]
    exact hQ H6 ((E3.trans e5).trans e6)
def N_steps_by : List Str := ["book", "one", "other", "begin", "gone", "goal", "offset", "words", "steps"]
theorem sc_steps_by : FnScope N_steps_by ["book", "one", "other"] (defScope s_steps_by) := ⟨rfl, rfl, rfl, by decide +kernel, rfl, by decide +kernel, by decide +kernel⟩
def sp_steps (K : PySem.W.Frag) : Sp := fun vs H Q _ => ∃ (b : Addr) (n : Nat) (ws : List W) (x y : W) (p : Nat) (O : List W), vs = [.ref b, .str (txt x), .str (txt y)] ∧ BookAt K H b (n : Nat) ws ∧ Tab K H ∧ (StOk x ∧ x.length ≤ 200 ∧ x.length / 2 = n) ∧ (StOk y ∧ y.length ≤ 200 ∧ y.length / 2 = n) ∧ PerOk (behind (Bm ws)) (postH (Bm ws) (homeOf x)).1 p O ∧
  ((postH (Bm ws) (homeOf y)).1 ∉ O → Gives K .non H Q) ∧ ∀ i, O[i]? = some (postH (Bm ws) (homeOf y)).1 → Gives K (.int (stepM i (wide (postH (Bm ws) (homeOf x)).1) (postH (Bm ws) (homeOf y)).2 (postH (Bm ws) (homeOf x)).2 p)) H Q
theorem c_steps_by (T : Tx K mg) (TB : TabB base mg (cS K) (P0 K)) : Cl Pg w K mg base 7 "steps_by" (sp_steps K) :=
  have c_need_book := c_need_book (Pg := Pg) (w := w) (base := base) T
  have c_need_state2 := c_need_state2 (Pg := Pg) (w := w) (base := base) T
  have c_need_fitting := c_need_fitting (Pg := Pg) (w := w) (base := base) T
  have c_post_in := c_post_in (Pg := Pg) (w := w) (base := base) T
  have c_wide_of := c_wide_of (Pg := Pg) (w := w) (base := base) T
  have c_sewn_by := c_sewn (Pg := Pg) (w := w) T TB
  have c_round_of := c_round_of (Pg := Pg) (w := w) T TB
  calD T.g_steps_by T.f_steps_by sc_steps_by (fun _ _ _ _ _ _ us hl => match us, hl with | [_, _, _], _ => rfl) (fun vs H Q E h => by obtain ⟨i, _, _, _, _, _, _, rfl, _⟩ := h; rfl) fun cdv A outer st H vs Q E hr h => by
    obtain ⟨b, n, ws, x, y, p, O, rfl, hb, ht, ⟨hs, h200, hn⟩, ⟨hs', h200', hn'⟩, hO, hQ0, hQ⟩ := h
    refine ⟨_, (pss_cons (ps_expr (C8.pe_c c_need_book hr (by decide) (by rfl) (pa_cons (pv 0) pa_nil)))
      (pss_cons (ps_expr (C8.pe_c c_need_state2 hr (by decide) (by rfl) (pa_cons (pv 1) (pa_cons pe_str pa_nil))))
      (pss_cons (ps_expr (C8.pe_c c_need_state2 hr (by decide) (by rfl) (pa_cons (pv 2) (pa_cons pe_str pa_nil))))
      (pss_cons (ps_expr (C8.pe_c c_need_fitting hr (by decide) (by rfl) (pa_cons (pv 0) (pa_cons (pv 1) (pa_cons pe_str pa_nil)))))
      (pss_cons (ps_expr (C8.pe_c c_need_fitting hr (by decide) (by rfl) (pa_cons (pv 0) (pa_cons (pv 2) (pa_cons pe_str pa_nil)))))
      (pss_cons (ps_asg (C8.pe_c c_post_in hr (by decide) (by rfl) (pa_cons (pv 1) (pa_cons (C8.pe_c c_sewn_by hr (by decide) (by rfl) (pa_cons (pv 0) pa_nil)) pa_nil))) (pg_tup rfl (pgs_cons (pg_name (i := 3) sc_steps_by.nd rfl (Or.inl rfl)) (pgs_cons (pg_name (i := 4) sc_steps_by.nd rfl (Or.inl rfl)) pgs_nil))))
      (pss_cons (ps_asg (C8.pe_c c_post_in hr (by decide) (by rfl) (pa_cons (pv 2) (pa_cons (C8.pe_c c_sewn_by hr (by decide) (by rfl) (pa_cons (pv 0) pa_nil)) pa_nil))) (pg_tup rfl (pgs_cons (pg_name (i := 5) sc_steps_by.nd rfl (Or.inl rfl)) (pgs_cons (pg_name (i := 6) sc_steps_by.nd rfl (Or.inl rfl)) pgs_nil))))
      (pss_cons (ps_set (i := 7) sc_steps_by.nd rfl (Or.inl rfl) (C8.pe_c c_round_of hr (by decide) (by rfl) (pa_cons (pv 0) (pa_cons (pv 3) pa_nil))))
      (pss_cons (ps_if (pt_cmpR op_notIn_seq (pv 5) (pv 7) (by rfl)) (pss_one (ps_ret pe_non)) pss_nil)
      (pss_cons (ps_set (i := 8) sc_steps_by.nd rfl (Or.inl rfl) (pe_op op_sub (pe_op op_add (pe_op op_mul (pe_bm PySem.F.plainAttrs_list PySem.F.slot_list_index PySem.F.type_list_index mt_index (pv 7) (pa_cons (pv 5) pa_nil)) (C8.pe_c c_wide_of hr (by decide) (by rfl) (pa_cons (pv 3) pa_nil))) (pv 6)) (pv 4)))
      (pss_one (ps_ret (pe_ifExp (pt_cmpR op_ge (pv 8) pe_int (nomark _)) (pv 8) (pe_op op_add (pv 8) (pe_op op_mul (pe_callB call_len_seq (by rfl) T.n_len PySem.boot_len (pa_cons (pv 7) pa_nil)) (C8.pe_c c_wide_of hr (by decide) (by rfl) (pa_cons (pv 3) pa_nil))))))))))))))))), ?_⟩
    refine ⟨_, rfl, b, _, ws, rfl, hb, fun H1 e1 => ?_⟩
    (repeat (first | refine ⟨_, rfl, ?_⟩ | refine ⟨rfl, ?_⟩ | refine ⟨_, _, rfl, rfl, ?_⟩ | refine ⟨_, _, rfl, ?_⟩ | refine ⟨hz, ?_⟩ | refine ⟨(show 3 ≤ sizeLine by decide), ?_⟩ | refine ⟨(show 2 ≤ sizeLine by decide), ?_⟩ | refine ⟨by decide +kernel, ?_⟩ | refine ⟨.inl ⟨by decide, by decide⟩, ?_⟩ | refine ⟨(by show (0 : Int) < _; omega), ?_⟩ | refine ⟨⟨by omega, by omega⟩, ?_⟩ | refine .inl ⟨_, rfl, sz (by simp only [*, sM, sE, s1, s0, s110, s101, txt_cat, txt_len, cut_to, cut_from, cut_init, List.length_append, List.length_cons, List.length_nil, List.length_take, List.length_drop, List.length_dropLast, List.length_reverse]; omega), ?_⟩ | refine ⟨sz (by simp only [*, sM, sE, s1, s0, s110, s101, txt_cat, txt_len, cut_to, cut_from, cut_init, List.length_append, List.length_cons, List.length_nil, List.length_take, List.length_drop, List.length_dropLast, List.length_reverse]; omega), ?_⟩))
    refine ⟨hs, fun H2 e2 => ?_⟩
    (repeat (first | refine ⟨_, rfl, ?_⟩ | refine ⟨rfl, ?_⟩ | refine ⟨_, _, rfl, rfl, ?_⟩ | refine ⟨_, _, rfl, ?_⟩ | refine ⟨hz, ?_⟩ | refine ⟨(show 3 ≤ sizeLine by decide), ?_⟩ | refine ⟨(show 2 ≤ sizeLine by decide), ?_⟩ | refine ⟨by decide +kernel, ?_⟩ | refine ⟨.inl ⟨by decide, by decide⟩, ?_⟩ | refine ⟨(by show (0 : Int) < _; omega), ?_⟩ | refine ⟨⟨by omega, by omega⟩, ?_⟩ | refine .inl ⟨_, rfl, sz (by simp only [*, sM, sE, s1, s0, s110, s101, txt_cat, txt_len, cut_to, cut_from, cut_init, List.length_append, List.length_cons, List.length_nil, List.length_take, List.length_drop, List.length_dropLast, List.length_reverse]; omega), ?_⟩ | refine ⟨sz (by simp only [*, sM, sE, s1, s0, s110, s101, txt_cat, txt_len, cut_to, cut_from, cut_init, List.length_append, List.length_cons, List.length_nil, List.length_take, List.length_drop, List.length_dropLast, List.length_reverse]; omega), ?_⟩))
    refine ⟨hs', fun H3 e3 => ?_⟩
    have E3 := (e1.trans e2).trans e3
    refine ⟨_, rfl, _, rfl, b, n, ws, x, _, rfl, hb.ex E3, hs.le, hn, fun H4 e4 => ?_⟩
    have E4 := E3.trans e4
    refine ⟨_, rfl, _, rfl, b, n, ws, y, _, rfl, hb.ex E4, hs'.le, hn', fun H5 e5 => ?_⟩
    have E5 := E4.trans e5
    refine ⟨_, rfl, _, rfl, b, _, ws, rfl, hb.ex E5, E5.t ht, fun f1 H6 e6 hf1 h6 => ?_⟩
    refine ⟨x, f1, ws, rfl, hs, h200, h6, fun q H7 e7 hq h7 => ?_⟩
    have E7 := (E5.trans e6).trans e7
    refine ⟨q, _, rfl, .inl (.inl h7), rfl, _, _, rfl, _, _, rfl, rfl, ?_⟩
    refine ⟨_, rfl, _, rfl, b, _, ws, rfl, hb.ex E7, E7.t ht, fun f2 H8 e8 hf2 h8 => ?_⟩
    refine ⟨y, f2, ws, rfl, hs', h200', h8, fun q' H9 e9 hq' h9 => ?_⟩
    have E9 := (E7.trans e8).trans e9
    refine ⟨q', _, rfl, .inl (.inl h9), rfl, _, _, rfl, _, _, rfl, rfl, ?_⟩
    generalize postH (Bm ws) (homeOf x) = P at hO hQ
    generalize postH (Bm ws) (homeOf y) = G at hQ0 hQ
    obtain ⟨hp5, hper, hle, hO'⟩ := hO
    have hl0 : P.1.length ≤ 900 := hle 0 (Nat.zero_le _)
    have lO : (wds O).length = p := by rw [hO']; exact (List.length_map _).trans (orb_len _ _ _)
    have hnd : O.Nodup := by rw [hO']; exact hper.nodup
    refine ⟨_, rfl, _, rfl, b, _, ws, P.1, p, O, rfl, hb.ex E9, E9.t ht, ⟨hp5, hper, hle, hO'⟩, fun L Ha ea hL hl => ?_⟩
    have Ea := E9.trans ea
    refine ⟨_, rfl, _, rfl, L, wds O, rfl, .inl (.inl (.inl hl)), rfl, flat_wds O, _, rfl, ?_⟩
    rw [inV_wds]
    by_cases c : G.1 ∈ O
    · rw [decide_eq_true c]
      obtain ⟨i, hi⟩ := List.mem_iff_getElem?.mp c
      have hip : i < p := by
        obtain ⟨lt, _⟩ := List.getElem?_eq_some_iff.mp hi
        rw [hO', orb_len] at lt
        exact lt
      have hQi := hQ i hi
      refine ⟨_, rfl, .inl ⟨rfl, _, .inl (.inl hl)⟩, _, rfl, L, wds O, _, i, V.str (txt G.1), rfl, rfl, .inl (.inl hl), rfl, flat_wds O, by unfold wds; rw [List.getElem?_map, hi]; rfl, by rw [eq_str, decide_eq_true rfl], fun m z' hm hz => ?_, ?_⟩
      · obtain ⟨z2, h2, rfl⟩ := wds_at hz
        rw [eq_str, decide_eq_false (nd_before hnd hi hm h2)]
      refine ⟨_, rfl, P.1, rfl, Nat.le_trans hl0 (by decide), fun Hb eb => ?_⟩
      have Eb := Ea.trans eb
      refine ⟨_, _, rfl, rfl, .inl ⟨by omega, by omega⟩, ?_⟩
      (repeat (first | refine ⟨_, rfl, ?_⟩ | refine ⟨rfl, ?_⟩ | refine ⟨_, _, rfl, rfl, ?_⟩ | refine ⟨_, _, rfl, ?_⟩ | refine ⟨hz, ?_⟩ | refine ⟨(show 3 ≤ sizeLine by decide), ?_⟩ | refine ⟨(show 2 ≤ sizeLine by decide), ?_⟩ | refine ⟨by decide +kernel, ?_⟩ | refine ⟨.inl ⟨by decide, by decide⟩, ?_⟩ | refine ⟨(by show (0 : Int) < _; omega), ?_⟩ | refine ⟨⟨by omega, by omega⟩, ?_⟩ | refine .inl ⟨_, rfl, sz (by simp only [*, sM, sE, s1, s0, s110, s101, txt_cat, txt_len, cut_to, cut_from, cut_init, List.length_append, List.length_cons, List.length_nil, List.length_take, List.length_drop, List.length_dropLast, List.length_reverse]; omega), ?_⟩ | refine ⟨sz (by simp only [*, sM, sE, s1, s0, s110, s101, txt_cat, txt_len, cut_to, cut_from, cut_init, List.length_append, List.length_cons, List.length_nil, List.length_take, List.length_drop, List.length_dropLast, List.length_reverse]; omega), ?_⟩))
      unfold stepM at hQi
      by_cases c3 : ((i : Int) * (wide P.1 : Nat) + (G.2 : Nat) - (P.2 : Nat)) ≥ 0
      · rw [if_pos c3] at hQi
        exact dT (show (0 : Int) ≤ (i : Int) * (wide P.1 : Nat) + (G.2 : Nat) - (P.2 : Nat) from c3) ⟨_, rfl, hQi Hb Eb⟩
      · rw [if_neg c3] at hQi
        refine dF (show ¬ (0 : Int) ≤ (i : Int) * (wide P.1 : Nat) + (G.2 : Nat) - (P.2 : Nat) from c3) ?_
        (repeat (first | refine ⟨_, rfl, ?_⟩ | refine ⟨rfl, ?_⟩ | refine ⟨_, _, rfl, rfl, ?_⟩ | refine ⟨_, _, rfl, ?_⟩ | refine ⟨hz, ?_⟩ | refine ⟨(show 3 ≤ sizeLine by decide), ?_⟩ | refine ⟨(show 2 ≤ sizeLine by decide), ?_⟩ | refine ⟨by decide +kernel, ?_⟩ | refine ⟨.inl ⟨by decide, by decide⟩, ?_⟩ | refine ⟨(by show (0 : Int) < _; omega), ?_⟩ | refine ⟨⟨by omega, by omega⟩, ?_⟩ | refine .inl ⟨_, rfl, sz (by simp only [*, sM, sE, s1, s0, s110, s101, txt_cat, txt_len, cut_to, cut_from, cut_init, List.length_append, List.length_cons, List.length_nil, List.length_take, List.length_drop, List.length_dropLast, List.length_reverse]; omega), ?_⟩ | refine ⟨sz (by simp only [*, sM, sE, s1, s0, s110, s101, txt_cat, txt_len, cut_to, cut_from, cut_init, List.length_append, List.length_cons, List.length_nil, List.length_take, List.length_drop, List.length_dropLast, List.length_reverse]; omega), ?_⟩))
        refine ⟨L, wds O, rfl, .inl (.inl (.inl (eb.lst hl))), ?_⟩
        refine ⟨_, rfl, P.1, rfl, Nat.le_trans hl0 (by decide), fun Hc ec => ?_⟩
        rw [lO]
        refine ⟨_, _, rfl, rfl, .inl ⟨by omega, by omega⟩, ?_⟩
        (repeat (first | refine ⟨_, rfl, ?_⟩ | refine ⟨rfl, ?_⟩ | refine ⟨_, _, rfl, rfl, ?_⟩ | refine ⟨_, _, rfl, ?_⟩ | refine ⟨hz, ?_⟩ | refine ⟨(show 3 ≤ sizeLine by decide), ?_⟩ | refine ⟨(show 2 ≤ sizeLine by decide), ?_⟩ | refine ⟨by decide +kernel, ?_⟩ | refine ⟨.inl ⟨by decide, by decide⟩, ?_⟩ | refine ⟨(by show (0 : Int) < _; omega), ?_⟩ | refine ⟨⟨by omega, by omega⟩, ?_⟩ | refine .inl ⟨_, rfl, sz (by simp only [*, sM, sE, s1, s0, s110, s101, txt_cat, txt_len, cut_to, cut_from, cut_init, List.length_append, List.length_cons, List.length_nil, List.length_take, List.length_drop, List.length_dropLast, List.length_reverse]; omega), ?_⟩ | refine ⟨sz (by simp only [*, sM, sE, s1, s0, s110, s101, txt_cat, txt_len, cut_to, cut_from, cut_init, List.length_append, List.length_cons, List.length_nil, List.length_take, List.length_drop, List.length_dropLast, List.length_reverse]; omega), ?_⟩))
        exact hQi Hc (Eb.trans ec)
    · rw [decide_eq_false c]
      exact hQ0 c Ha Ea
end
end EH

set_option Elab.async false
set_option linter.all false
set_option maxRecDepth 100000
set_option maxHeartbeats 4000000
namespace EH
open PySem PySem.Spec PyProof.Rows L2 LamX EL EM
/-! ### lists as data -/
def dI (cs : List Int) : List PyData := cs.map PyData.int
def dW (ws : List W) : List PyData := ws.map fun z => PyData.str (txt z)
theorem dI_lay : ∀ cs : List Int, PyData.canLayAll0 (dI cs) = true
  | [] => rfl
  | a :: r => by
    show (PyData.canLay0 (.int a) && PyData.canLayAll0 (dI r)) = true
    rw [dI_lay r]
    rfl
theorem okTxt (a : W) : PyData.canLay0 (.str (txt a)) = true := by
  show ((txt a).cps.all fun c => decide (c < 0x110000)) = true
  unfold txt
  rw [List.all_toArray, List.all_map]
  refine List.all_eq_true.mpr fun b _ => ?_
  cases b <;> rfl
theorem dW_lay : ∀ ws : List W, PyData.canLayAll0 (dW ws) = true
  | [] => rfl
  | a :: r => by
    show (PyData.canLay0 (.str (txt a)) && PyData.canLayAll0 (dW r)) = true
    rw [dW_lay r, Bool.and_true]
    exact okTxt a
theorem dI_dep : ∀ cs : List Int, PyData.depthAll (dI cs) = 0
  | [] => rfl
  | a :: r => by
    show max (PyData.depth (.int a)) (PyData.depthAll (dI r)) = 0
    rw [dI_dep r]
    rfl
theorem dW_dep : ∀ ws : List W, PyData.depthAll (dW ws) = 0
  | [] => rfl
  | a :: r => by
    show max (PyData.depth (.str (txt a))) (PyData.depthAll (dW r)) = 0
    rw [dW_dep r]
    rfl
theorem dI_ok (cs : List Int) : SeqAt.shaped (.list (dI cs)) = true := by
  show (PyData.canLayAll0 (dI cs) && decide (PyData.depthAll (dI cs) + 1 ≤ 64)) = true
  rw [dI_lay, dI_dep]
  rfl
theorem dW_ok (ws : List W) : SeqAt.shaped (.list (dW ws)) = true := by
  show (PyData.canLayAll0 (dW ws) && decide (PyData.depthAll (dW ws) + 1 ≤ 64)) = true
  rw [dW_lay, dW_dep]
  rfl
theorem dpI {K : PySem.W.Frag} {H : Hp} : ∀ cs : List Int, DpAll K H (cs.map V.int) (dI cs)
  | [] => .nil
  | a :: r => .cons (.int a) (dpI r)
theorem dpW {K : PySem.W.Frag} {H : Hp} : ∀ ws : List W, DpAll K H (wds ws) (dW ws)
  | [] => .nil
  | a :: r => .cons (.str (txt a)) (dpW r)
theorem eqW : ∀ a b : List W, PyData.eqv (.list (dW a)) (.list (dW b)) = decide (a = b)
  | [], [] => rfl
  | [], b :: r => rfl
  | a :: r, [] => rfl
  | a :: r, b :: s => by
    show ((txt a == txt b) && PyData.eqv (.list (dW r)) (.list (dW s))) = _
    rw [eqW r s]
    by_cases h : a = b
    · subst h
      rw [beq_self_eq_true, Bool.true_and]
      by_cases h2 : r = s
      · subst h2
        rw [decide_eq_true rfl, decide_eq_true rfl]
      · rw [decide_eq_false h2, decide_eq_false fun z => h2 (List.cons.inj z).2]
    · rw [show (txt a == txt b) = false from beq_eq_false_iff_ne.mpr fun z => h (txt_inj z), Bool.false_and, decide_eq_false fun z => h (List.cons.inj z).1]
theorem eqI0 (cs : List Int) : PyData.eqv (.list (dI cs)) (.list []) = decide (cs = []) := by
  cases cs <;> rfl
/-- what stands, stands, but for a reed -/
structure Ey (K : PySem.W.Frag) (H H' : Hp) : Prop where
  k : ∀ a o, H a = some o → (∀ ps, o ≠ .tbl ps) → (∀ c i j, o ≠ .lst [.ref c, .int i, .int j]) → H' a = some o
  t : Tab K H → Tab K H'
  n : ∀ a, H' a = none → H a = none
section
variable {K : PySem.W.Frag} {H H1 H2 : Hp} {a p : Addr} {o : HO} {xs : List V}
theorem Ex.y (e : Ex K H H1) : Ey K H H1 := ⟨fun a o h n _ => e.k a o h n, e.t, e.n⟩
theorem Ey.refl : Ey K H H := Ex.refl.y
theorem Ey.trans (a : Ey K H H1) (b : Ey K H1 H2) : Ey K H H2 := ⟨fun x o h n m => b.k x o (a.k x o h n m) n m, fun h => b.t (a.t h), fun x h => a.n x (b.n x h)⟩
theorem Ey.free (e : Ey K H H1) (h : H1 p = none) : H p = none := e.n p h
theorem Ey.tup (e : Ey K H H1) (h : H a = some (.tup xs)) : H1 a = some (.tup xs) := e.k a _ h (fun ps z => by cases z) fun c i j z => by cases z
theorem Ey.dK {kvs : List (Key × V)} (e : Ey K H H1) (h : H a = some (.dK kvs)) : H1 a = some (.dK kvs) := e.k a _ h (fun ps z => by cases z) fun c i j z => by cases z
theorem Ey.wds {ws : List W} (e : Ey K H H1) (h : H a = some (.lst (wds ws))) : H1 a = some (.lst (EH.wds ws)) := e.k a _ h (fun ps z => by cases z) fun c i j z => by
  cases ws with
  | nil => cases z
  | cons x r =>
    have q : EH.wds (x :: r) = V.str (txt x) :: EH.wds r := rfl
    rw [q] at z
    injection z with z
    injection z with z1 z2
    cases z1
theorem Ey.book {b : Addr} {n : Int} {ws : List W} (e : Ey K H H1) (h : BookAt K H b n ws) : BookAt K H1 b n ws := by
  obtain ⟨dx, t, d, h1, h2, h3⟩ := h
  exact ⟨dx, t, d, e.k _ _ h1 (fun ps z => by cases z) (fun c i j z => by cases z), e.tup h2, e.dK h3⟩
theorem Ey.mut (e : Ey K H H1) (h : H p = none) (h1 : H1 p = some o) (ho : ∀ φ, o ≠ .ext φ) (u : HO) : Ey K H (upd H1 p u) := by
  refine ⟨fun b v q n m => ?_, fun q => ?_, fun b q => e.n b (upd_no q)⟩
  · rw [upd_ne (ne_of_none q h)]
    exact e.k b v q n m
  · obtain ⟨ps, z, _⟩ := id q
    obtain ⟨ps1, h2, h3, h4⟩ := e.t q
    refine ⟨ps1, (upd_ne (ne_of_none z h)).trans h2, h3, fun pos cv hc => ?_⟩
    obtain ⟨c, e1, e2⟩ := h4 pos cv hc
    refine ⟨c, e1, (upd_ne fun z => ?_).trans e2⟩
    rw [z, h1] at e2
    exact ho _ (Option.some.inj e2)
theorem Ey.mutL (e : Ey K H H1) (h : H p = none) (h1 : H1 p = some (.lst xs)) (u : HO) : Ey K H (upd H1 p u) := e.mut h h1 (fun φ z => by cases z) u
/-- a reed changes -/
theorem Ey.reed {r c : Addr} {i j : Int} (h : H r = some (.lst [.ref c, .int i, .int j])) (u : HO) : Ey K H (upd H r u) := by
  refine ⟨fun b v q n m => ?_, fun q => ?_, fun b q => upd_no q⟩
  · rw [upd_ne (fun z => by rw [z, h] at q; exact m _ _ _ (Option.some.inj q).symm)]
    exact q
  · obtain ⟨ps, z, h3, h4⟩ := id q
    have nr : ∀ {a u}, H a = some u → (∀ xs, u ≠ .lst xs) → (upd H r u) a = (upd H r u) a := fun _ _ => rfl
    refine ⟨ps, (upd_ne fun z' => ?_).trans z, h3, fun pos cv hc => ?_⟩
    · rw [z', h] at z
      cases z
    · obtain ⟨c, e1, e2⟩ := h4 pos cv hc
      refine ⟨c, e1, (upd_ne fun z' => ?_).trans e2⟩
      rw [z', h] at e2
      cases e2
/-- a reed: its cells, how many were read (at most m), what is left of one -/
def RdAt (K : PySem.W.Frag) (H : Hp) (r c : Addr) (m : Nat) : Prop := ∃ (i j : Int) (cs : List Int), H r = some (.lst [.ref c, .int i, .int j]) ∧ 0 ≤ i ∧ i ≤ m ∧ H c = some (.lst (cs.map V.int)) ∧ cs.length ≤ 60
theorem RdAt.ex {r c : Addr} {m : Nat} (h : RdAt K H r c m) (e : Ex K H H1) : RdAt K H1 r c m := by
  obtain ⟨i, j, cs, h1, h2, h3, h4, h5⟩ := h
  exact ⟨i, j, cs, e.lst h1, h2, h3, e.lst h4, h5⟩
theorem RdAt.le {r c : Addr} {m m' : Nat} (h : RdAt K H r c m) (e : m ≤ m') : RdAt K H r c m' := by
  obtain ⟨i, j, cs, h1, h2, h3, h4, h5⟩ := h
  exact ⟨i, j, cs, h1, h2, by omega, h4, h5⟩
theorem RdAt.upd {r c L : Addr} {m : Nat} {u : HO} (h : RdAt K H r c m) (hr : r ≠ L) (hc : c ≠ L) : RdAt K (upd H L u) r c m := by
  obtain ⟨i, j, cs, h1, h2, h3, h4, h5⟩ := h
  exact ⟨i, j, cs, (upd_ne hr).trans h1, h2, h3, (upd_ne hc).trans h4, h5⟩
theorem RdAt.ne {r c L : Addr} {m : Nat} (h : RdAt K H r c m) (hL : H L = none) : r ≠ L ∧ c ≠ L := by
  obtain ⟨i, j, cs, h1, h2, h3, h4, h5⟩ := h
  exact ⟨fun z => (by rw [z, hL] at h1; cases h1), fun z => (by rw [z, hL] at h4; cases h4)⟩
end
theorem iteN {P : Prop} [Decidable P] {te : TE} {g : TG} {D : Ends} {σ : L2.St} {s : Int → L2.St} {c0 : Int} {H : Hp} (hs : s c0 = σ) (fin : ∀ cell, D.nx (s cell) H) (ha : ¬ P → (∀ cell, D.nx (s cell) H) → tAsg te g D σ H) :
    if (!decide P) = true then tAsg te g D σ H else tNext D σ H := by
  by_cases h : P
  · refine nF h ?_
    rw [← hs]
    exact fin c0
  · exact nT h (ha h fin)
section
variable {Pg : Program} {w : World} {K : PySem.W.Frag} {mg : Str → Option Value} {base : Heap}
def N_law_reed : List Str := ["_law_script", "_law_cell"]
theorem sc_law_reed : FnScope N_law_reed ["_law_script"] (defScope s_law_reed) := ⟨rfl, rfl, rfl, by decide +kernel, rfl, by decide +kernel, by decide +kernel⟩
def sp_reed (K : PySem.W.Frag) : Sp := fun vs H Q _ => ∃ (s : Addr) (is : List Int), vs = [.ref s] ∧ SqL K H s (is.map V.int) ∧ ∀ r c H', Ex K H H' → H r = none → RdAt K H' r c 0 → Q (.ref r) H'
theorem c_law_reed (T : Tx K mg) : Cl Pg w K mg base 1 "_law_reed" (sp_reed K) :=
  calD T.g_law_reed T.f_law_reed sc_law_reed (fun _ _ _ _ _ _ us hl => match us, hl with | [_], _ => rfl) (fun vs H Q E h => by obtain ⟨_, _, rfl, _⟩ := h; rfl) fun cdv A outer st H vs Q E hr h => by
    obtain ⟨s, is, rfl, hs, hQ⟩ := h
    refine ⟨_, (pss_one (ps_ret (pe_lst (pa_cons (pe_lc (own := [("_law_cell", 1)]) (g := gName 1) (tt := tYes) (by rfl) sc_law_reed.nd (pi_list (pe_slice sl_list (pv 0) po_none (po_some pe_int))) (blkOk_by (own := [("_law_cell", 1)]) (N := N_law_reed) (sc := (defScope s_law_reed)) (by decide +kernel)) (fun _ _ _ _ _ => pg_name (i := 1) sc_law_reed.nd rfl (Or.inl rfl)) (fun _ _ _ _ _ => pts_nil) (fun _ _ _ _ _ => (pe_callTy call_int1 (by rfl) T.n_int (by decide +kernel) (pa_cons (pv 1) pa_nil)))) (pa_cons pe_int (pa_cons pe_int pa_nil)))))), ?_⟩
    (repeat (first | refine ⟨_, rfl, ?_⟩ | refine ⟨rfl, ?_⟩ | refine ⟨_, _, rfl, rfl, ?_⟩ | refine ⟨_, _, rfl, ?_⟩ | refine ⟨hz, ?_⟩ | refine ⟨(show 3 ≤ sizeLine by decide), ?_⟩ | refine ⟨(show 2 ≤ sizeLine by decide), ?_⟩ | refine ⟨by decide +kernel, ?_⟩ | refine ⟨.inl ⟨by decide, by decide⟩, ?_⟩ | refine ⟨(by show (0 : Int) < _; omega), ?_⟩ | refine ⟨⟨by omega, by omega⟩, ?_⟩ | refine .inl ⟨_, rfl, sz (by simp only [*, sM, sE, s1, s0, s110, s101, txt_cat, txt_len, cut_to, cut_from, cut_init, List.length_append, List.length_cons, List.length_nil, List.length_take, List.length_drop, List.length_dropLast, List.length_reverse]; omega), ?_⟩ | refine ⟨sz (by simp only [*, sM, sE, s1, s0, s110, s101, txt_cat, txt_len, cut_to, cut_from, cut_init, List.length_append, List.length_cons, List.length_nil, List.length_take, List.length_drop, List.length_dropLast, List.length_reverse]; omega), ?_⟩))
    refine ⟨s, _, rfl, hs, fun p hp => ?_⟩
    have e1 : Ex K H (upd H p (.lst (cutV (is.map V.int) none (some 60)))) := Ex.new hp
    have ec : cutV (is.map V.int) none (some 60) = (is.take 60).map V.int := by
      unfold cutV
      have h1 : HT.sIx (is.map V.int).length 0 none = 0 := HT.sIx_none _ _
      have h2 : HT.sIx (is.map V.int).length (is.map V.int).length (some 60) = min 60 (is.map V.int).length := HT.sIx_nat _ _ 60
      rw [h1, h2, List.drop_zero, Nat.sub_zero, List.map_take, List.take_eq_take_iff]
      omega
    rw [ec] at e1 ⊢
    have p1 : (upd H p (.lst ((is.take 60).map V.int))) p = some (.lst ((is.take 60).map V.int)) := upd_same
    generalize upd H p (.lst ((is.take 60).map V.int)) = H1 at e1 p1 ⊢
    refine ⟨p, rfl, ⟨_, .inl (.inl p1)⟩, lc_lst (K := K) (.inl (.inl p1)) (fun i => ((is.take 60).take i).map V.int) rfl (fun i hi => by rw [List.length_map, List.length_take, List.length_take]; omega) (fun i x L H' Nx hb he hl hL hY hN => ?_) (fun L H' hL he hl => ?_)⟩
    · rw [List.getElem?_map] at hb
      obtain ⟨z, hz, rfl⟩ := Option.map_eq_some_iff.mp hb
      refine ⟨rfl, _, rfl, .inl ⟨_, rfl, _, hY H' _ .refl ?_⟩⟩
      rw [List.take_add_one, hz, List.map_append]
      rfl
    · rw [List.length_map, List.take_length] at hl
      (repeat (first | refine ⟨_, rfl, ?_⟩ | refine ⟨rfl, ?_⟩ | refine ⟨_, _, rfl, rfl, ?_⟩ | refine ⟨_, _, rfl, ?_⟩ | refine ⟨hz, ?_⟩ | refine ⟨(show 3 ≤ sizeLine by decide), ?_⟩ | refine ⟨(show 2 ≤ sizeLine by decide), ?_⟩ | refine ⟨by decide +kernel, ?_⟩ | refine ⟨.inl ⟨by decide, by decide⟩, ?_⟩ | refine ⟨(by show (0 : Int) < _; omega), ?_⟩ | refine ⟨⟨by omega, by omega⟩, ?_⟩ | refine .inl ⟨_, rfl, sz (by simp only [*, sM, sE, s1, s0, s110, s101, txt_cat, txt_len, cut_to, cut_from, cut_init, List.length_append, List.length_cons, List.length_nil, List.length_take, List.length_drop, List.length_dropLast, List.length_reverse]; omega), ?_⟩ | refine ⟨sz (by simp only [*, sM, sE, s1, s0, s110, s101, txt_cat, txt_len, cut_to, cut_from, cut_init, List.length_append, List.length_cons, List.length_nil, List.length_take, List.length_drop, List.length_dropLast, List.length_reverse]; omega), ?_⟩))
      intro r hr
      have hLr : L ≠ r := fun z => by rw [z, hr] at hl; cases hl
      exact hQ r L _ ((e1.trans he).trans (Ex.new hr)) ((e1.trans he).free hr) ⟨0, 0, is.take 60, upd_same, by decide, by decide, (upd_ne hLr).trans hl, by rw [List.length_take]; omega⟩
def N_law_weft : List Str := ["_law_reed_here", "_law_many", "_law_rest", "_law_at", "_law_cell", "_law_mixed"]
theorem sc_law_weft : FnScope N_law_weft ["_law_reed_here", "_law_many"] (defScope s_law_weft) := ⟨rfl, rfl, rfl, by decide +kernel, rfl, by decide +kernel, by decide +kernel⟩
def sp_weft (K : PySem.W.Frag) : Sp := fun vs H Q _ => ∃ (r c : Addr) (m n : Nat), vs = [.ref r, .int (n : Nat)] ∧ RdAt K H r c m ∧ m ≤ 1000000 ∧ 1 ≤ n ∧ n ≤ 1000000 ∧ ∀ (v : Nat) H', Ey K H H' → RdAt K H' r c (m + 1) → v < n → Q (.int (v : Nat)) H'
theorem c_law_weft (T : Tx K mg) : Cl Pg w K mg base 1 "_law_weft" (sp_weft K) :=
  calD T.g_law_weft T.f_law_weft sc_law_weft (fun _ _ _ _ _ _ us hl => match us, hl with | [_, _], _ => rfl) (fun vs H Q E h => by obtain ⟨_, _, _, _, rfl, _⟩ := h; rfl) fun cdv A outer st H vs Q E hr h => by
    obtain ⟨r, c, m, n, rfl, ⟨i, j, cs, h1, h2, h3, h4, h5⟩, hm, hn1, hn2, hQ⟩ := h
    refine ⟨_, (pss_cons (ps_if (pt_cmpR op_gt (pe_ix ix_list (pv 0) pe_int (fun _ _ => rfl)) pe_int (nomark _)) (pss_cons (ps_set (i := 2) sc_law_weft.nd rfl (Or.inl rfl) (pe_callTy call_int1 (by rfl) T.n_int (by decide +kernel) (pa_cons (pe_ix ix_list (pv 0) pe_int (fun _ _ => rfl)) pa_nil)))
      (pss_cons (ps_asg (pe_op op_fdiv (pv 2) (pv 1)) (pg_sub (pv 0) pe_int set_list))
      (pss_one (ps_ret (pe_op op_mod (pe_callTy call_int1 (by rfl) T.n_int (by decide +kernel) (pa_cons (pv 2) pa_nil)) (pv 1)))))) pss_nil)
      (pss_cons (ps_set (i := 3) sc_law_weft.nd rfl (Or.inl rfl) (pe_ix ix_list (pv 0) pe_int (fun _ _ => rfl)))
      (pss_cons (ps_asg (pe_op op_add (pv 3) pe_int) (pg_sub (pv 0) pe_int set_list))
      (pss_cons (ps_set (i := 4) sc_law_weft.nd rfl (Or.inl rfl) (pe_op op_add (pe_op op_mul pe_int (pv 3)) pe_int))
      (pss_cons (ps_if (pt_cmpR (op_neD hr.units) (pe_ix ix_list (pv 0) pe_int (fun _ _ => rfl)) (pe_lst pa_nil) (nomark _)) (pss_one (ps_set (i := 4) sc_law_weft.nd rfl (Or.inl rfl) (pe_ix ix_list (pe_ix ix_list (pv 0) pe_int (fun _ _ => rfl)) (pe_op op_mod (pe_callTy call_int1 (by rfl) T.n_int (by decide +kernel) (pa_cons (pv 3) pa_nil)) (pe_callB call_len_seq (by rfl) T.n_len PySem.boot_len (pa_cons (pe_ix ix_list (pv 0) pe_int (fun _ _ => rfl)) pa_nil))) (fun _ _ => rfl)))) pss_nil)
      (pss_cons (ps_if (PW.pt (pw_and (pt_cmpR op_lt (pv 3) (pe_callB call_len_seq (by rfl) T.n_len PySem.boot_len (pa_cons (pe_ix ix_list (pv 0) pe_int (fun _ _ => rfl)) pa_nil)) (nomark _)) (pw_and1 (pt_cmpR op_ge (pe_callB call_abs (by rfl) T.n_abs (by decide +kernel) (pa_cons (pv 4) pa_nil)) (pe_op op_pow pe_int pe_int) (nomark _))))) (pss_cons (ps_set (i := 2) sc_law_weft.nd rfl (Or.inl rfl) (pe_op op_add (pe_op op_mul pe_int (pe_op op_sub (pe_callB call_abs (by rfl) T.n_abs (by decide +kernel) (pa_cons (pv 4) pa_nil)) (pe_op op_pow pe_int pe_int))) (pe_callTy call_int1 (by rfl) T.n_int (by decide +kernel) (pa_cons (pe_cmpR op_lt (pv 4) pe_int (nomark _)) pa_nil))))
      (pss_cons (ps_asg (pe_op op_fdiv (pe_callTy call_int1 (by rfl) T.n_int (by decide +kernel) (pa_cons (pv 2) pa_nil)) (pv 1)) (pg_sub (pv 0) pe_int set_list))
      (pss_one (ps_ret (pe_op op_mod (pe_callTy call_int1 (by rfl) T.n_int (by decide +kernel) (pa_cons (pv 2) pa_nil)) (pv 1)))))) pss_nil)
      (pss_cons (ps_set (i := 5) sc_law_weft.nd rfl (Or.inl rfl) (pe_op op_mod (pe_callTy call_int1 (by rfl) T.n_int (by decide +kernel) (pa_cons (pe_op op_pow (pe_op op_add (pe_op op_add (pe_op op_mod (pe_callTy call_int1 (by rfl) T.n_int (by decide +kernel) (pa_cons (pv 4) pa_nil)) pe_int) (pe_op op_mul pe_int (pv 3))) pe_int) pe_int) pa_nil)) pe_int))
      (pss_cons (ps_set (i := 5) sc_law_weft.nd rfl (Or.inl rfl) (pe_op op_mod (pe_callTy call_int1 (by rfl) T.n_int (by decide +kernel) (pa_cons (pe_op op_pow (pe_op op_add (pe_op op_add (pe_op op_mul (pv 5) (pe_op op_add (pe_op op_mul pe_int (pv 3)) pe_int)) (pe_op op_mul (pe_op op_mul pe_int (pv 3)) (pv 3))) pe_int) pe_int) pa_nil)) pe_int))
      (pss_one (ps_ret (pe_op op_mod (pe_callTy call_int1 (by rfl) T.n_int (by decide +kernel) (pa_cons (pe_op op_fdiv (pv 5) pe_int) pa_nil)) (pv 1)))))))))))), ?_⟩
    have ncr : c ≠ r := fun z => by
      rw [z, h1] at h4
      cases cs with
      | nil => cases h4
      | cons a t => cases h4
    refine ⟨_, rfl, r, _, 2, _, rfl, rfl, .inl (.inl h1), rfl, _, _, rfl, rfl, decide (0 < j), rfl, ?_⟩
    by_cases z : 0 < j
    · refine dT z ?_
      refine ⟨_, rfl, r, _, 2, _, rfl, rfl, .inl (.inl h1), rfl, .inl ⟨_, rfl, ?_⟩⟩
      (repeat (first | refine ⟨_, rfl, ?_⟩ | refine ⟨rfl, ?_⟩ | refine ⟨_, _, rfl, rfl, ?_⟩ | refine ⟨_, _, rfl, ?_⟩ | refine ⟨hz, ?_⟩ | refine ⟨(show 3 ≤ sizeLine by decide), ?_⟩ | refine ⟨(show 2 ≤ sizeLine by decide), ?_⟩ | refine ⟨by decide +kernel, ?_⟩ | refine ⟨.inl ⟨by decide, by decide⟩, ?_⟩ | refine ⟨(by show (0 : Int) < _; omega), ?_⟩ | refine ⟨⟨by omega, by omega⟩, ?_⟩ | refine .inl ⟨_, rfl, sz (by simp only [*, sM, sE, s1, s0, s110, s101, txt_cat, txt_len, cut_to, cut_from, cut_init, List.length_append, List.length_cons, List.length_nil, List.length_take, List.length_drop, List.length_dropLast, List.length_reverse]; omega), ?_⟩ | refine ⟨sz (by simp only [*, sM, sE, s1, s0, s110, s101, txt_cat, txt_len, cut_to, cut_from, cut_init, List.length_append, List.length_cons, List.length_nil, List.length_take, List.length_drop, List.length_dropLast, List.length_reverse]; omega), ?_⟩))
      refine ⟨r, _, 2, 2, rfl, rfl, h1, rfl, ?_⟩
      (repeat (first | refine ⟨_, rfl, ?_⟩ | refine ⟨rfl, ?_⟩ | refine ⟨_, _, rfl, rfl, ?_⟩ | refine ⟨_, _, rfl, ?_⟩ | refine ⟨hz, ?_⟩ | refine ⟨(show 3 ≤ sizeLine by decide), ?_⟩ | refine ⟨(show 2 ≤ sizeLine by decide), ?_⟩ | refine ⟨by decide +kernel, ?_⟩ | refine ⟨.inl ⟨by decide, by decide⟩, ?_⟩ | refine ⟨(by show (0 : Int) < _; omega), ?_⟩ | refine ⟨⟨by omega, by omega⟩, ?_⟩ | refine .inl ⟨_, rfl, sz (by simp only [*, sM, sE, s1, s0, s110, s101, txt_cat, txt_len, cut_to, cut_from, cut_init, List.length_append, List.length_cons, List.length_nil, List.length_take, List.length_drop, List.length_dropLast, List.length_reverse]; omega), ?_⟩ | refine ⟨sz (by simp only [*, sM, sE, s1, s0, s110, s101, txt_cat, txt_len, cut_to, cut_from, cut_init, List.length_append, List.length_cons, List.length_nil, List.length_take, List.length_drop, List.length_dropLast, List.length_reverse]; omega), ?_⟩))
      refine .inl ⟨_, rfl, ?_⟩
      (repeat (first | refine ⟨_, rfl, ?_⟩ | refine ⟨rfl, ?_⟩ | refine ⟨_, _, rfl, rfl, ?_⟩ | refine ⟨_, _, rfl, ?_⟩ | refine ⟨hz, ?_⟩ | refine ⟨(show 3 ≤ sizeLine by decide), ?_⟩ | refine ⟨(show 2 ≤ sizeLine by decide), ?_⟩ | refine ⟨by decide +kernel, ?_⟩ | refine ⟨.inl ⟨by decide, by decide⟩, ?_⟩ | refine ⟨(by show (0 : Int) < _; omega), ?_⟩ | refine ⟨⟨by omega, by omega⟩, ?_⟩ | refine .inl ⟨_, rfl, sz (by simp only [*, sM, sE, s1, s0, s110, s101, txt_cat, txt_len, cut_to, cut_from, cut_init, List.length_append, List.length_cons, List.length_nil, List.length_take, List.length_drop, List.length_dropLast, List.length_reverse]; omega), ?_⟩ | refine ⟨sz (by simp only [*, sM, sE, s1, s0, s110, s101, txt_cat, txt_len, cut_to, cut_from, cut_init, List.length_append, List.length_cons, List.length_nil, List.length_take, List.length_drop, List.length_dropLast, List.length_reverse]; omega), ?_⟩))
      have hv : (j % (n : Nat)) = ((j % (n : Nat)).toNat : Nat) := (Int.toNat_of_nonneg (Int.emod_nonneg _ (by omega))).symm
      have hl := Int.emod_lt_of_pos j (show (0 : Int) < (n : Nat) by omega)
      show Q (.int (j % (n : Nat))) _
      rw [hv]
      exact hQ _ _ (Ey.reed h1 _) ⟨i, j / (n : Nat), cs, upd_same, h2, by omega, (upd_ne ncr).trans h4, h5⟩ (by omega)
    · refine dF z ?_
      refine ⟨_, rfl, r, _, 1, _, rfl, rfl, .inl (.inl h1), rfl, ?_⟩
      (repeat (first | refine ⟨_, rfl, ?_⟩ | refine ⟨rfl, ?_⟩ | refine ⟨_, _, rfl, rfl, ?_⟩ | refine ⟨_, _, rfl, ?_⟩ | refine ⟨hz, ?_⟩ | refine ⟨(show 3 ≤ sizeLine by decide), ?_⟩ | refine ⟨(show 2 ≤ sizeLine by decide), ?_⟩ | refine ⟨by decide +kernel, ?_⟩ | refine ⟨.inl ⟨by decide, by decide⟩, ?_⟩ | refine ⟨(by show (0 : Int) < _; omega), ?_⟩ | refine ⟨⟨by omega, by omega⟩, ?_⟩ | refine .inl ⟨_, rfl, sz (by simp only [*, sM, sE, s1, s0, s110, s101, txt_cat, txt_len, cut_to, cut_from, cut_init, List.length_append, List.length_cons, List.length_nil, List.length_take, List.length_drop, List.length_dropLast, List.length_reverse]; omega), ?_⟩ | refine ⟨sz (by simp only [*, sM, sE, s1, s0, s110, s101, txt_cat, txt_len, cut_to, cut_from, cut_init, List.length_append, List.length_cons, List.length_nil, List.length_take, List.length_drop, List.length_dropLast, List.length_reverse]; omega), ?_⟩))
      refine ⟨r, _, 1, 1, rfl, rfl, h1, rfl, ?_⟩
      have r1 : (upd H r (.lst ([.ref c, .int i, .int j].set 1 (.int (i + 1))))) r = some (.lst [.ref c, .int (i + 1), .int j]) := upd_same
      have c1 : (upd H r (.lst ([.ref c, .int i, .int j].set 1 (.int (i + 1))))) c = some (.lst (cs.map V.int)) := (upd_ne ncr).trans h4
      have y1 : Ey K H (upd H r (.lst ([.ref c, .int i, .int j].set 1 (.int (i + 1))))) := Ey.reed h1 _
      generalize upd H r (.lst ([.ref c, .int i, .int j].set 1 (.int (i + 1)))) = H1 at r1 c1 y1 ⊢
      (repeat (first | refine ⟨_, rfl, ?_⟩ | refine ⟨rfl, ?_⟩ | refine ⟨_, _, rfl, rfl, ?_⟩ | refine ⟨_, _, rfl, ?_⟩ | refine ⟨hz, ?_⟩ | refine ⟨(show 3 ≤ sizeLine by decide), ?_⟩ | refine ⟨(show 2 ≤ sizeLine by decide), ?_⟩ | refine ⟨by decide +kernel, ?_⟩ | refine ⟨.inl ⟨by decide, by decide⟩, ?_⟩ | refine ⟨(by show (0 : Int) < _; omega), ?_⟩ | refine ⟨⟨by omega, by omega⟩, ?_⟩ | refine .inl ⟨_, rfl, sz (by simp only [*, sM, sE, s1, s0, s110, s101, txt_cat, txt_len, cut_to, cut_from, cut_init, List.length_append, List.length_cons, List.length_nil, List.length_take, List.length_drop, List.length_dropLast, List.length_reverse]; omega), ?_⟩ | refine ⟨sz (by simp only [*, sM, sE, s1, s0, s110, s101, txt_cat, txt_len, cut_to, cut_from, cut_init, List.length_append, List.length_cons, List.length_nil, List.length_take, List.length_drop, List.length_dropLast, List.length_reverse]; omega), ?_⟩))
      refine ⟨r, _, 0, _, rfl, rfl, .inl (.inl r1), rfl, (by decide), fun l0 hl0 => ?_⟩
      have e2 : Ex K H1 (upd H1 l0 (.lst [])) := Ex.new hl0
      have l2 : (upd H1 l0 (.lst [])) l0 = some (.lst []) := upd_same
      have r2 := e2.lst r1
      have c2 := e2.lst c1
      have y2 := y1.trans e2.y
      generalize upd H1 l0 (.lst []) = H2 at e2 l2 r2 c2 y2 ⊢
      refine ⟨.list (dI cs), .list [], .lst (.inl (.inl c2)) (dpI cs), .lst (.inl (.inl l2)) .nil, dI_ok cs, rfl, _, rfl, ?_⟩
      have done : ∀ X : Int, Q (.int (X % (n : Nat))) H2 := fun X => by
        have hv : (X % (n : Nat)) = ((X % (n : Nat)).toNat : Nat) := (Int.toNat_of_nonneg (Int.emod_nonneg _ (by omega))).symm
        have hl := Int.emod_lt_of_pos X (show (0 : Int) < (n : Nat) by omega)
        rw [hv]
        exact hQ _ _ y2 ⟨i + 1, j, cs, r2, by omega, by omega, c2, h5⟩ (by omega)
      rw [eqI0]
      refine iteN (s := fun cell => [some (.ref r), some (.int (n : Nat)), none, some (.int i), some (.int cell), none]) (c0 := 118927 * i + 7901) rfl (fun cell => ?_) fun hc fin => ?_
      · refine ⟨_, rfl, _, rfl, r, _, 0, _, rfl, rfl, .inl (.inl r2), rfl, c, _, rfl, .inl (.inl (.inl c2)), _, _, rfl, rfl, _, rfl, ?_⟩
        rw [List.length_map]
        by_cases b1 : i < (cs.length : Nat)
        · rw [show decide (i < ((cs.length : Nat) : Int)) = true from decide_eq_true b1]
          (repeat (first | refine ⟨_, rfl, ?_⟩ | refine ⟨rfl, ?_⟩ | refine ⟨_, _, rfl, rfl, ?_⟩ | refine ⟨_, _, rfl, ?_⟩ | refine ⟨hz, ?_⟩ | refine ⟨(show 3 ≤ sizeLine by decide), ?_⟩ | refine ⟨(show 2 ≤ sizeLine by decide), ?_⟩ | refine ⟨by decide +kernel, ?_⟩ | refine ⟨.inl ⟨by decide, by decide⟩, ?_⟩ | refine ⟨(by show (0 : Int) < _; omega), ?_⟩ | refine ⟨⟨by omega, by omega⟩, ?_⟩ | refine .inl ⟨_, rfl, sz (by simp only [*, sM, sE, s1, s0, s110, s101, txt_cat, txt_len, cut_to, cut_from, cut_init, List.length_append, List.length_cons, List.length_nil, List.length_take, List.length_drop, List.length_dropLast, List.length_reverse]; omega), ?_⟩ | refine ⟨sz (by simp only [*, sM, sE, s1, s0, s110, s101, txt_cat, txt_len, cut_to, cut_from, cut_init, List.length_append, List.length_cons, List.length_nil, List.length_take, List.length_drop, List.length_dropLast, List.length_reverse]; omega), ?_⟩))
          by_cases b2 : (10 : Int) ^ (18 : Int).toNat ≤ (if cell < 0 then -cell else cell)
          · rw [show decide ((10 : Int) ^ (18 : Int).toNat ≤ (if cell < 0 then -cell else cell)) = true from decide_eq_true b2]
            (repeat (first | refine ⟨_, rfl, ?_⟩ | refine ⟨rfl, ?_⟩ | refine ⟨_, _, rfl, rfl, ?_⟩ | refine ⟨_, _, rfl, ?_⟩ | refine ⟨hz, ?_⟩ | refine ⟨(show 3 ≤ sizeLine by decide), ?_⟩ | refine ⟨(show 2 ≤ sizeLine by decide), ?_⟩ | refine ⟨by decide +kernel, ?_⟩ | refine ⟨.inl ⟨by decide, by decide⟩, ?_⟩ | refine ⟨(by show (0 : Int) < _; omega), ?_⟩ | refine ⟨⟨by omega, by omega⟩, ?_⟩ | refine .inl ⟨_, rfl, sz (by simp only [*, sM, sE, s1, s0, s110, s101, txt_cat, txt_len, cut_to, cut_from, cut_init, List.length_append, List.length_cons, List.length_nil, List.length_take, List.length_drop, List.length_dropLast, List.length_reverse]; omega), ?_⟩ | refine ⟨sz (by simp only [*, sM, sE, s1, s0, s110, s101, txt_cat, txt_len, cut_to, cut_from, cut_init, List.length_append, List.length_cons, List.length_nil, List.length_take, List.length_drop, List.length_dropLast, List.length_reverse]; omega), ?_⟩))
            refine .inr ⟨_, rfl, ?_⟩
            (repeat (first | refine ⟨_, rfl, ?_⟩ | refine ⟨rfl, ?_⟩ | refine ⟨_, _, rfl, rfl, ?_⟩ | refine ⟨_, _, rfl, ?_⟩ | refine ⟨hz, ?_⟩ | refine ⟨(show 3 ≤ sizeLine by decide), ?_⟩ | refine ⟨(show 2 ≤ sizeLine by decide), ?_⟩ | refine ⟨by decide +kernel, ?_⟩ | refine ⟨.inl ⟨by decide, by decide⟩, ?_⟩ | refine ⟨(by show (0 : Int) < _; omega), ?_⟩ | refine ⟨⟨by omega, by omega⟩, ?_⟩ | refine .inl ⟨_, rfl, sz (by simp only [*, sM, sE, s1, s0, s110, s101, txt_cat, txt_len, cut_to, cut_from, cut_init, List.length_append, List.length_cons, List.length_nil, List.length_take, List.length_drop, List.length_dropLast, List.length_reverse]; omega), ?_⟩ | refine ⟨sz (by simp only [*, sM, sE, s1, s0, s110, s101, txt_cat, txt_len, cut_to, cut_from, cut_init, List.length_append, List.length_cons, List.length_nil, List.length_take, List.length_drop, List.length_dropLast, List.length_reverse]; omega), ?_⟩))
            refine .inl ⟨_, rfl, ?_⟩
            (repeat (first | refine ⟨_, rfl, ?_⟩ | refine ⟨rfl, ?_⟩ | refine ⟨_, _, rfl, rfl, ?_⟩ | refine ⟨_, _, rfl, ?_⟩ | refine ⟨hz, ?_⟩ | refine ⟨(show 3 ≤ sizeLine by decide), ?_⟩ | refine ⟨(show 2 ≤ sizeLine by decide), ?_⟩ | refine ⟨by decide +kernel, ?_⟩ | refine ⟨.inl ⟨by decide, by decide⟩, ?_⟩ | refine ⟨(by show (0 : Int) < _; omega), ?_⟩ | refine ⟨⟨by omega, by omega⟩, ?_⟩ | refine .inl ⟨_, rfl, sz (by simp only [*, sM, sE, s1, s0, s110, s101, txt_cat, txt_len, cut_to, cut_from, cut_init, List.length_append, List.length_cons, List.length_nil, List.length_take, List.length_drop, List.length_dropLast, List.length_reverse]; omega), ?_⟩ | refine ⟨sz (by simp only [*, sM, sE, s1, s0, s110, s101, txt_cat, txt_len, cut_to, cut_from, cut_init, List.length_append, List.length_cons, List.length_nil, List.length_take, List.length_drop, List.length_dropLast, List.length_reverse]; omega), ?_⟩))
            refine ⟨r, _, 2, 2, rfl, rfl, r2, rfl, ?_⟩
            (repeat (first | refine ⟨_, rfl, ?_⟩ | refine ⟨rfl, ?_⟩ | refine ⟨_, _, rfl, rfl, ?_⟩ | refine ⟨_, _, rfl, ?_⟩ | refine ⟨hz, ?_⟩ | refine ⟨(show 3 ≤ sizeLine by decide), ?_⟩ | refine ⟨(show 2 ≤ sizeLine by decide), ?_⟩ | refine ⟨by decide +kernel, ?_⟩ | refine ⟨.inl ⟨by decide, by decide⟩, ?_⟩ | refine ⟨(by show (0 : Int) < _; omega), ?_⟩ | refine ⟨⟨by omega, by omega⟩, ?_⟩ | refine .inl ⟨_, rfl, sz (by simp only [*, sM, sE, s1, s0, s110, s101, txt_cat, txt_len, cut_to, cut_from, cut_init, List.length_append, List.length_cons, List.length_nil, List.length_take, List.length_drop, List.length_dropLast, List.length_reverse]; omega), ?_⟩ | refine ⟨sz (by simp only [*, sM, sE, s1, s0, s110, s101, txt_cat, txt_len, cut_to, cut_from, cut_init, List.length_append, List.length_cons, List.length_nil, List.length_take, List.length_drop, List.length_dropLast, List.length_reverse]; omega), ?_⟩))
            refine .inl ⟨_, rfl, ?_⟩
            (repeat (first | refine ⟨_, rfl, ?_⟩ | refine ⟨rfl, ?_⟩ | refine ⟨_, _, rfl, rfl, ?_⟩ | refine ⟨_, _, rfl, ?_⟩ | refine ⟨hz, ?_⟩ | refine ⟨(show 3 ≤ sizeLine by decide), ?_⟩ | refine ⟨(show 2 ≤ sizeLine by decide), ?_⟩ | refine ⟨by decide +kernel, ?_⟩ | refine ⟨.inl ⟨by decide, by decide⟩, ?_⟩ | refine ⟨(by show (0 : Int) < _; omega), ?_⟩ | refine ⟨⟨by omega, by omega⟩, ?_⟩ | refine .inl ⟨_, rfl, sz (by simp only [*, sM, sE, s1, s0, s110, s101, txt_cat, txt_len, cut_to, cut_from, cut_init, List.length_append, List.length_cons, List.length_nil, List.length_take, List.length_drop, List.length_dropLast, List.length_reverse]; omega), ?_⟩ | refine ⟨sz (by simp only [*, sM, sE, s1, s0, s110, s101, txt_cat, txt_len, cut_to, cut_from, cut_init, List.length_append, List.length_cons, List.length_nil, List.length_take, List.length_drop, List.length_dropLast, List.length_reverse]; omega), ?_⟩))
            generalize (2 * ((if cell < 0 then -cell else cell) - 10 ^ (18 : Int).toNat) + if decide (cell < 0) = true then 1 else 0) = X
            have hv : (X % (n : Nat)) = ((X % (n : Nat)).toNat : Nat) := (Int.toNat_of_nonneg (Int.emod_nonneg _ (by omega))).symm
            have hl := Int.emod_lt_of_pos X (show (0 : Int) < (n : Nat) by omega)
            show Q (.int (X % (n : Nat))) _
            rw [hv]
            exact hQ _ _ (y2.trans (Ey.reed r2 _)) ⟨i + 1, X / (n : Nat), cs, upd_same, by omega, by omega, (upd_ne ncr).trans c2, h5⟩ (by omega)
          · rw [show decide ((10 : Int) ^ (18 : Int).toNat ≤ (if cell < 0 then -cell else cell)) = false from decide_eq_false b2]
            (repeat (first | refine ⟨_, rfl, ?_⟩ | refine ⟨rfl, ?_⟩ | refine ⟨_, _, rfl, rfl, ?_⟩ | refine ⟨_, _, rfl, ?_⟩ | refine ⟨hz, ?_⟩ | refine ⟨(show 3 ≤ sizeLine by decide), ?_⟩ | refine ⟨(show 2 ≤ sizeLine by decide), ?_⟩ | refine ⟨by decide +kernel, ?_⟩ | refine ⟨.inl ⟨by decide, by decide⟩, ?_⟩ | refine ⟨(by show (0 : Int) < _; omega), ?_⟩ | refine ⟨⟨by omega, by omega⟩, ?_⟩ | refine .inl ⟨_, rfl, sz (by simp only [*, sM, sE, s1, s0, s110, s101, txt_cat, txt_len, cut_to, cut_from, cut_init, List.length_append, List.length_cons, List.length_nil, List.length_take, List.length_drop, List.length_dropLast, List.length_reverse]; omega), ?_⟩ | refine ⟨sz (by simp only [*, sM, sE, s1, s0, s110, s101, txt_cat, txt_len, cut_to, cut_from, cut_init, List.length_append, List.length_cons, List.length_nil, List.length_take, List.length_drop, List.length_dropLast, List.length_reverse]; omega), ?_⟩))
            refine .inl ⟨_, rfl, ?_⟩
            (repeat (first | refine ⟨_, rfl, ?_⟩ | refine ⟨rfl, ?_⟩ | refine ⟨_, _, rfl, rfl, ?_⟩ | refine ⟨_, _, rfl, ?_⟩ | refine ⟨hz, ?_⟩ | refine ⟨(show 3 ≤ sizeLine by decide), ?_⟩ | refine ⟨(show 2 ≤ sizeLine by decide), ?_⟩ | refine ⟨by decide +kernel, ?_⟩ | refine ⟨.inl ⟨by decide, by decide⟩, ?_⟩ | refine ⟨(by show (0 : Int) < _; omega), ?_⟩ | refine ⟨⟨by omega, by omega⟩, ?_⟩ | refine .inl ⟨_, rfl, sz (by simp only [*, sM, sE, s1, s0, s110, s101, txt_cat, txt_len, cut_to, cut_from, cut_init, List.length_append, List.length_cons, List.length_nil, List.length_take, List.length_drop, List.length_dropLast, List.length_reverse]; omega), ?_⟩ | refine ⟨sz (by simp only [*, sM, sE, s1, s0, s110, s101, txt_cat, txt_len, cut_to, cut_from, cut_init, List.length_append, List.length_cons, List.length_nil, List.length_take, List.length_drop, List.length_dropLast, List.length_reverse]; omega), ?_⟩))
            refine .inl ⟨_, rfl, ?_⟩
            (repeat (first | refine ⟨_, rfl, ?_⟩ | refine ⟨rfl, ?_⟩ | refine ⟨_, _, rfl, rfl, ?_⟩ | refine ⟨_, _, rfl, ?_⟩ | refine ⟨hz, ?_⟩ | refine ⟨(show 3 ≤ sizeLine by decide), ?_⟩ | refine ⟨(show 2 ≤ sizeLine by decide), ?_⟩ | refine ⟨by decide +kernel, ?_⟩ | refine ⟨.inl ⟨by decide, by decide⟩, ?_⟩ | refine ⟨(by show (0 : Int) < _; omega), ?_⟩ | refine ⟨⟨by omega, by omega⟩, ?_⟩ | refine .inl ⟨_, rfl, sz (by simp only [*, sM, sE, s1, s0, s110, s101, txt_cat, txt_len, cut_to, cut_from, cut_init, List.length_append, List.length_cons, List.length_nil, List.length_take, List.length_drop, List.length_dropLast, List.length_reverse]; omega), ?_⟩ | refine ⟨sz (by simp only [*, sM, sE, s1, s0, s110, s101, txt_cat, txt_len, cut_to, cut_from, cut_init, List.length_append, List.length_cons, List.length_nil, List.length_take, List.length_drop, List.length_dropLast, List.length_reverse]; omega), ?_⟩))
            generalize hM : (cell % 2147483563 + 53623 * i + 7901) ^ (5 : Int).toNat % 2147483549 = M
            have hM0 : 0 ≤ M := by rw [← hM]; exact Int.emod_nonneg _ (by decide)
            have hM1 : M < 2147483549 := by rw [← hM]; exact Int.emod_lt_of_pos _ (by decide)
            have hb1 : M * (2 * i + 4591) ≤ 2147483549 * 2004591 := Int.mul_le_mul (by omega) (by omega) (by omega) (by decide)
            have hb0 : 0 ≤ M * (2 * i + 4591) := Int.mul_nonneg hM0 (by omega)
            have hc1 : 118927 * i * i ≤ 118927000000 * 1000000 := Int.mul_le_mul (by omega) (by omega) (by omega) (by decide)
            have hc0 : 0 ≤ 118927 * i * i := Int.mul_nonneg (by omega) (by omega)
            refine ⟨.inl ⟨by omega, by omega⟩, ?_⟩
            (repeat (first | refine ⟨_, rfl, ?_⟩ | refine ⟨rfl, ?_⟩ | refine ⟨_, _, rfl, rfl, ?_⟩ | refine ⟨_, _, rfl, ?_⟩ | refine ⟨hz, ?_⟩ | refine ⟨(show 3 ≤ sizeLine by decide), ?_⟩ | refine ⟨(show 2 ≤ sizeLine by decide), ?_⟩ | refine ⟨by decide +kernel, ?_⟩ | refine ⟨.inl ⟨by decide, by decide⟩, ?_⟩ | refine ⟨(by show (0 : Int) < _; omega), ?_⟩ | refine ⟨⟨by omega, by omega⟩, ?_⟩ | refine .inl ⟨_, rfl, sz (by simp only [*, sM, sE, s1, s0, s110, s101, txt_cat, txt_len, cut_to, cut_from, cut_init, List.length_append, List.length_cons, List.length_nil, List.length_take, List.length_drop, List.length_dropLast, List.length_reverse]; omega), ?_⟩ | refine ⟨sz (by simp only [*, sM, sE, s1, s0, s110, s101, txt_cat, txt_len, cut_to, cut_from, cut_init, List.length_append, List.length_cons, List.length_nil, List.length_take, List.length_drop, List.length_dropLast, List.length_reverse]; omega), ?_⟩))
            refine ⟨.inr ⟨by omega, by omega⟩, ?_⟩
            (repeat (first | refine ⟨_, rfl, ?_⟩ | refine ⟨rfl, ?_⟩ | refine ⟨_, _, rfl, rfl, ?_⟩ | refine ⟨_, _, rfl, ?_⟩ | refine ⟨hz, ?_⟩ | refine ⟨(show 3 ≤ sizeLine by decide), ?_⟩ | refine ⟨(show 2 ≤ sizeLine by decide), ?_⟩ | refine ⟨by decide +kernel, ?_⟩ | refine ⟨.inl ⟨by decide, by decide⟩, ?_⟩ | refine ⟨(by show (0 : Int) < _; omega), ?_⟩ | refine ⟨⟨by omega, by omega⟩, ?_⟩ | refine .inl ⟨_, rfl, sz (by simp only [*, sM, sE, s1, s0, s110, s101, txt_cat, txt_len, cut_to, cut_from, cut_init, List.length_append, List.length_cons, List.length_nil, List.length_take, List.length_drop, List.length_dropLast, List.length_reverse]; omega), ?_⟩ | refine ⟨sz (by simp only [*, sM, sE, s1, s0, s110, s101, txt_cat, txt_len, cut_to, cut_from, cut_init, List.length_append, List.length_cons, List.length_nil, List.length_take, List.length_drop, List.length_dropLast, List.length_reverse]; omega), ?_⟩))
            refine .inl ⟨_, rfl, ?_⟩
            (repeat (first | refine ⟨_, rfl, ?_⟩ | refine ⟨rfl, ?_⟩ | refine ⟨_, _, rfl, rfl, ?_⟩ | refine ⟨_, _, rfl, ?_⟩ | refine ⟨hz, ?_⟩ | refine ⟨(show 3 ≤ sizeLine by decide), ?_⟩ | refine ⟨(show 2 ≤ sizeLine by decide), ?_⟩ | refine ⟨by decide +kernel, ?_⟩ | refine ⟨.inl ⟨by decide, by decide⟩, ?_⟩ | refine ⟨(by show (0 : Int) < _; omega), ?_⟩ | refine ⟨⟨by omega, by omega⟩, ?_⟩ | refine .inl ⟨_, rfl, sz (by simp only [*, sM, sE, s1, s0, s110, s101, txt_cat, txt_len, cut_to, cut_from, cut_init, List.length_append, List.length_cons, List.length_nil, List.length_take, List.length_drop, List.length_dropLast, List.length_reverse]; omega), ?_⟩ | refine ⟨sz (by simp only [*, sM, sE, s1, s0, s110, s101, txt_cat, txt_len, cut_to, cut_from, cut_init, List.length_append, List.length_cons, List.length_nil, List.length_take, List.length_drop, List.length_dropLast, List.length_reverse]; omega), ?_⟩))
            refine .inl ⟨_, rfl, ?_⟩
            (repeat (first | refine ⟨_, rfl, ?_⟩ | refine ⟨rfl, ?_⟩ | refine ⟨_, _, rfl, rfl, ?_⟩ | refine ⟨_, _, rfl, ?_⟩ | refine ⟨hz, ?_⟩ | refine ⟨(show 3 ≤ sizeLine by decide), ?_⟩ | refine ⟨(show 2 ≤ sizeLine by decide), ?_⟩ | refine ⟨by decide +kernel, ?_⟩ | refine ⟨.inl ⟨by decide, by decide⟩, ?_⟩ | refine ⟨(by show (0 : Int) < _; omega), ?_⟩ | refine ⟨⟨by omega, by omega⟩, ?_⟩ | refine .inl ⟨_, rfl, sz (by simp only [*, sM, sE, s1, s0, s110, s101, txt_cat, txt_len, cut_to, cut_from, cut_init, List.length_append, List.length_cons, List.length_nil, List.length_take, List.length_drop, List.length_dropLast, List.length_reverse]; omega), ?_⟩ | refine ⟨sz (by simp only [*, sM, sE, s1, s0, s110, s101, txt_cat, txt_len, cut_to, cut_from, cut_init, List.length_append, List.length_cons, List.length_nil, List.length_take, List.length_drop, List.length_dropLast, List.length_reverse]; omega), ?_⟩))
            exact done _
        · rw [show decide (i < ((cs.length : Nat) : Int)) = false from decide_eq_false b1]
          (repeat (first | refine ⟨_, rfl, ?_⟩ | refine ⟨rfl, ?_⟩ | refine ⟨_, _, rfl, rfl, ?_⟩ | refine ⟨_, _, rfl, ?_⟩ | refine ⟨hz, ?_⟩ | refine ⟨(show 3 ≤ sizeLine by decide), ?_⟩ | refine ⟨(show 2 ≤ sizeLine by decide), ?_⟩ | refine ⟨by decide +kernel, ?_⟩ | refine ⟨.inl ⟨by decide, by decide⟩, ?_⟩ | refine ⟨(by show (0 : Int) < _; omega), ?_⟩ | refine ⟨⟨by omega, by omega⟩, ?_⟩ | refine .inl ⟨_, rfl, sz (by simp only [*, sM, sE, s1, s0, s110, s101, txt_cat, txt_len, cut_to, cut_from, cut_init, List.length_append, List.length_cons, List.length_nil, List.length_take, List.length_drop, List.length_dropLast, List.length_reverse]; omega), ?_⟩ | refine ⟨sz (by simp only [*, sM, sE, s1, s0, s110, s101, txt_cat, txt_len, cut_to, cut_from, cut_init, List.length_append, List.length_cons, List.length_nil, List.length_take, List.length_drop, List.length_dropLast, List.length_reverse]; omega), ?_⟩))
          refine .inl ⟨_, rfl, ?_⟩
          (repeat (first | refine ⟨_, rfl, ?_⟩ | refine ⟨rfl, ?_⟩ | refine ⟨_, _, rfl, rfl, ?_⟩ | refine ⟨_, _, rfl, ?_⟩ | refine ⟨hz, ?_⟩ | refine ⟨(show 3 ≤ sizeLine by decide), ?_⟩ | refine ⟨(show 2 ≤ sizeLine by decide), ?_⟩ | refine ⟨by decide +kernel, ?_⟩ | refine ⟨.inl ⟨by decide, by decide⟩, ?_⟩ | refine ⟨(by show (0 : Int) < _; omega), ?_⟩ | refine ⟨⟨by omega, by omega⟩, ?_⟩ | refine .inl ⟨_, rfl, sz (by simp only [*, sM, sE, s1, s0, s110, s101, txt_cat, txt_len, cut_to, cut_from, cut_init, List.length_append, List.length_cons, List.length_nil, List.length_take, List.length_drop, List.length_dropLast, List.length_reverse]; omega), ?_⟩ | refine ⟨sz (by simp only [*, sM, sE, s1, s0, s110, s101, txt_cat, txt_len, cut_to, cut_from, cut_init, List.length_append, List.length_cons, List.length_nil, List.length_take, List.length_drop, List.length_dropLast, List.length_reverse]; omega), ?_⟩))
          refine .inl ⟨_, rfl, ?_⟩
          (repeat (first | refine ⟨_, rfl, ?_⟩ | refine ⟨rfl, ?_⟩ | refine ⟨_, _, rfl, rfl, ?_⟩ | refine ⟨_, _, rfl, ?_⟩ | refine ⟨hz, ?_⟩ | refine ⟨(show 3 ≤ sizeLine by decide), ?_⟩ | refine ⟨(show 2 ≤ sizeLine by decide), ?_⟩ | refine ⟨by decide +kernel, ?_⟩ | refine ⟨.inl ⟨by decide, by decide⟩, ?_⟩ | refine ⟨(by show (0 : Int) < _; omega), ?_⟩ | refine ⟨⟨by omega, by omega⟩, ?_⟩ | refine .inl ⟨_, rfl, sz (by simp only [*, sM, sE, s1, s0, s110, s101, txt_cat, txt_len, cut_to, cut_from, cut_init, List.length_append, List.length_cons, List.length_nil, List.length_take, List.length_drop, List.length_dropLast, List.length_reverse]; omega), ?_⟩ | refine ⟨sz (by simp only [*, sM, sE, s1, s0, s110, s101, txt_cat, txt_len, cut_to, cut_from, cut_init, List.length_append, List.length_cons, List.length_nil, List.length_take, List.length_drop, List.length_dropLast, List.length_reverse]; omega), ?_⟩))
          generalize hM : (cell % 2147483563 + 53623 * i + 7901) ^ (5 : Int).toNat % 2147483549 = M
          have hM0 : 0 ≤ M := by rw [← hM]; exact Int.emod_nonneg _ (by decide)
          have hM1 : M < 2147483549 := by rw [← hM]; exact Int.emod_lt_of_pos _ (by decide)
          have hb1 : M * (2 * i + 4591) ≤ 2147483549 * 2004591 := Int.mul_le_mul (by omega) (by omega) (by omega) (by decide)
          have hb0 : 0 ≤ M * (2 * i + 4591) := Int.mul_nonneg hM0 (by omega)
          have hc1 : 118927 * i * i ≤ 118927000000 * 1000000 := Int.mul_le_mul (by omega) (by omega) (by omega) (by decide)
          have hc0 : 0 ≤ 118927 * i * i := Int.mul_nonneg (by omega) (by omega)
          refine ⟨.inl ⟨by omega, by omega⟩, ?_⟩
          (repeat (first | refine ⟨_, rfl, ?_⟩ | refine ⟨rfl, ?_⟩ | refine ⟨_, _, rfl, rfl, ?_⟩ | refine ⟨_, _, rfl, ?_⟩ | refine ⟨hz, ?_⟩ | refine ⟨(show 3 ≤ sizeLine by decide), ?_⟩ | refine ⟨(show 2 ≤ sizeLine by decide), ?_⟩ | refine ⟨by decide +kernel, ?_⟩ | refine ⟨.inl ⟨by decide, by decide⟩, ?_⟩ | refine ⟨(by show (0 : Int) < _; omega), ?_⟩ | refine ⟨⟨by omega, by omega⟩, ?_⟩ | refine .inl ⟨_, rfl, sz (by simp only [*, sM, sE, s1, s0, s110, s101, txt_cat, txt_len, cut_to, cut_from, cut_init, List.length_append, List.length_cons, List.length_nil, List.length_take, List.length_drop, List.length_dropLast, List.length_reverse]; omega), ?_⟩ | refine ⟨sz (by simp only [*, sM, sE, s1, s0, s110, s101, txt_cat, txt_len, cut_to, cut_from, cut_init, List.length_append, List.length_cons, List.length_nil, List.length_take, List.length_drop, List.length_dropLast, List.length_reverse]; omega), ?_⟩))
          refine ⟨.inr ⟨by omega, by omega⟩, ?_⟩
          (repeat (first | refine ⟨_, rfl, ?_⟩ | refine ⟨rfl, ?_⟩ | refine ⟨_, _, rfl, rfl, ?_⟩ | refine ⟨_, _, rfl, ?_⟩ | refine ⟨hz, ?_⟩ | refine ⟨(show 3 ≤ sizeLine by decide), ?_⟩ | refine ⟨(show 2 ≤ sizeLine by decide), ?_⟩ | refine ⟨by decide +kernel, ?_⟩ | refine ⟨.inl ⟨by decide, by decide⟩, ?_⟩ | refine ⟨(by show (0 : Int) < _; omega), ?_⟩ | refine ⟨⟨by omega, by omega⟩, ?_⟩ | refine .inl ⟨_, rfl, sz (by simp only [*, sM, sE, s1, s0, s110, s101, txt_cat, txt_len, cut_to, cut_from, cut_init, List.length_append, List.length_cons, List.length_nil, List.length_take, List.length_drop, List.length_dropLast, List.length_reverse]; omega), ?_⟩ | refine ⟨sz (by simp only [*, sM, sE, s1, s0, s110, s101, txt_cat, txt_len, cut_to, cut_from, cut_init, List.length_append, List.length_cons, List.length_nil, List.length_take, List.length_drop, List.length_dropLast, List.length_reverse]; omega), ?_⟩))
          refine .inl ⟨_, rfl, ?_⟩
          (repeat (first | refine ⟨_, rfl, ?_⟩ | refine ⟨rfl, ?_⟩ | refine ⟨_, _, rfl, rfl, ?_⟩ | refine ⟨_, _, rfl, ?_⟩ | refine ⟨hz, ?_⟩ | refine ⟨(show 3 ≤ sizeLine by decide), ?_⟩ | refine ⟨(show 2 ≤ sizeLine by decide), ?_⟩ | refine ⟨by decide +kernel, ?_⟩ | refine ⟨.inl ⟨by decide, by decide⟩, ?_⟩ | refine ⟨(by show (0 : Int) < _; omega), ?_⟩ | refine ⟨⟨by omega, by omega⟩, ?_⟩ | refine .inl ⟨_, rfl, sz (by simp only [*, sM, sE, s1, s0, s110, s101, txt_cat, txt_len, cut_to, cut_from, cut_init, List.length_append, List.length_cons, List.length_nil, List.length_take, List.length_drop, List.length_dropLast, List.length_reverse]; omega), ?_⟩ | refine ⟨sz (by simp only [*, sM, sE, s1, s0, s110, s101, txt_cat, txt_len, cut_to, cut_from, cut_init, List.length_append, List.length_cons, List.length_nil, List.length_take, List.length_drop, List.length_dropLast, List.length_reverse]; omega), ?_⟩))
          refine .inl ⟨_, rfl, ?_⟩
          (repeat (first | refine ⟨_, rfl, ?_⟩ | refine ⟨rfl, ?_⟩ | refine ⟨_, _, rfl, rfl, ?_⟩ | refine ⟨_, _, rfl, ?_⟩ | refine ⟨hz, ?_⟩ | refine ⟨(show 3 ≤ sizeLine by decide), ?_⟩ | refine ⟨(show 2 ≤ sizeLine by decide), ?_⟩ | refine ⟨by decide +kernel, ?_⟩ | refine ⟨.inl ⟨by decide, by decide⟩, ?_⟩ | refine ⟨(by show (0 : Int) < _; omega), ?_⟩ | refine ⟨⟨by omega, by omega⟩, ?_⟩ | refine .inl ⟨_, rfl, sz (by simp only [*, sM, sE, s1, s0, s110, s101, txt_cat, txt_len, cut_to, cut_from, cut_init, List.length_append, List.length_cons, List.length_nil, List.length_take, List.length_drop, List.length_dropLast, List.length_reverse]; omega), ?_⟩ | refine ⟨sz (by simp only [*, sM, sE, s1, s0, s110, s101, txt_cat, txt_len, cut_to, cut_from, cut_init, List.length_append, List.length_cons, List.length_nil, List.length_take, List.length_drop, List.length_dropLast, List.length_reverse]; omega), ?_⟩))
          exact done _
      · have hpos : 0 < cs.length := List.length_pos_iff.mpr hc
        (repeat (first | refine ⟨_, rfl, ?_⟩ | refine ⟨rfl, ?_⟩ | refine ⟨_, _, rfl, rfl, ?_⟩ | refine ⟨_, _, rfl, ?_⟩ | refine ⟨hz, ?_⟩ | refine ⟨(show 3 ≤ sizeLine by decide), ?_⟩ | refine ⟨(show 2 ≤ sizeLine by decide), ?_⟩ | refine ⟨by decide +kernel, ?_⟩ | refine ⟨.inl ⟨by decide, by decide⟩, ?_⟩ | refine ⟨(by show (0 : Int) < _; omega), ?_⟩ | refine ⟨⟨by omega, by omega⟩, ?_⟩ | refine .inl ⟨_, rfl, sz (by simp only [*, sM, sE, s1, s0, s110, s101, txt_cat, txt_len, cut_to, cut_from, cut_init, List.length_append, List.length_cons, List.length_nil, List.length_take, List.length_drop, List.length_dropLast, List.length_reverse]; omega), ?_⟩ | refine ⟨sz (by simp only [*, sM, sE, s1, s0, s110, s101, txt_cat, txt_len, cut_to, cut_from, cut_init, List.length_append, List.length_cons, List.length_nil, List.length_take, List.length_drop, List.length_dropLast, List.length_reverse]; omega), ?_⟩))
        refine ⟨r, _, 0, _, rfl, rfl, .inl (.inl r2), rfl, ?_⟩
        (repeat (first | refine ⟨_, rfl, ?_⟩ | refine ⟨rfl, ?_⟩ | refine ⟨_, _, rfl, rfl, ?_⟩ | refine ⟨_, _, rfl, ?_⟩ | refine ⟨hz, ?_⟩ | refine ⟨(show 3 ≤ sizeLine by decide), ?_⟩ | refine ⟨(show 2 ≤ sizeLine by decide), ?_⟩ | refine ⟨by decide +kernel, ?_⟩ | refine ⟨.inl ⟨by decide, by decide⟩, ?_⟩ | refine ⟨(by show (0 : Int) < _; omega), ?_⟩ | refine ⟨⟨by omega, by omega⟩, ?_⟩ | refine .inl ⟨_, rfl, sz (by simp only [*, sM, sE, s1, s0, s110, s101, txt_cat, txt_len, cut_to, cut_from, cut_init, List.length_append, List.length_cons, List.length_nil, List.length_take, List.length_drop, List.length_dropLast, List.length_reverse]; omega), ?_⟩ | refine ⟨sz (by simp only [*, sM, sE, s1, s0, s110, s101, txt_cat, txt_len, cut_to, cut_from, cut_init, List.length_append, List.length_cons, List.length_nil, List.length_take, List.length_drop, List.length_dropLast, List.length_reverse]; omega), ?_⟩))
        refine .inl ⟨_, rfl, ?_⟩
        (repeat (first | refine ⟨_, rfl, ?_⟩ | refine ⟨rfl, ?_⟩ | refine ⟨_, _, rfl, rfl, ?_⟩ | refine ⟨_, _, rfl, ?_⟩ | refine ⟨hz, ?_⟩ | refine ⟨(show 3 ≤ sizeLine by decide), ?_⟩ | refine ⟨(show 2 ≤ sizeLine by decide), ?_⟩ | refine ⟨by decide +kernel, ?_⟩ | refine ⟨.inl ⟨by decide, by decide⟩, ?_⟩ | refine ⟨(by show (0 : Int) < _; omega), ?_⟩ | refine ⟨⟨by omega, by omega⟩, ?_⟩ | refine .inl ⟨_, rfl, sz (by simp only [*, sM, sE, s1, s0, s110, s101, txt_cat, txt_len, cut_to, cut_from, cut_init, List.length_append, List.length_cons, List.length_nil, List.length_take, List.length_drop, List.length_dropLast, List.length_reverse]; omega), ?_⟩ | refine ⟨sz (by simp only [*, sM, sE, s1, s0, s110, s101, txt_cat, txt_len, cut_to, cut_from, cut_init, List.length_append, List.length_cons, List.length_nil, List.length_take, List.length_drop, List.length_dropLast, List.length_reverse]; omega), ?_⟩))
        refine ⟨r, _, 0, _, rfl, rfl, .inl (.inl r2), rfl, ?_⟩
        (repeat (first | refine ⟨_, rfl, ?_⟩ | refine ⟨rfl, ?_⟩ | refine ⟨_, _, rfl, rfl, ?_⟩ | refine ⟨_, _, rfl, ?_⟩ | refine ⟨hz, ?_⟩ | refine ⟨(show 3 ≤ sizeLine by decide), ?_⟩ | refine ⟨(show 2 ≤ sizeLine by decide), ?_⟩ | refine ⟨by decide +kernel, ?_⟩ | refine ⟨.inl ⟨by decide, by decide⟩, ?_⟩ | refine ⟨(by show (0 : Int) < _; omega), ?_⟩ | refine ⟨⟨by omega, by omega⟩, ?_⟩ | refine .inl ⟨_, rfl, sz (by simp only [*, sM, sE, s1, s0, s110, s101, txt_cat, txt_len, cut_to, cut_from, cut_init, List.length_append, List.length_cons, List.length_nil, List.length_take, List.length_drop, List.length_dropLast, List.length_reverse]; omega), ?_⟩ | refine ⟨sz (by simp only [*, sM, sE, s1, s0, s110, s101, txt_cat, txt_len, cut_to, cut_from, cut_init, List.length_append, List.length_cons, List.length_nil, List.length_take, List.length_drop, List.length_dropLast, List.length_reverse]; omega), ?_⟩))
        refine ⟨c, _, rfl, .inl (.inl (.inl c2)), ?_⟩
        rw [List.length_map]
        have hl := Int.emod_lt_of_pos i (show (0 : Int) < (cs.length : Nat) by omega)
        have hv : (i % (cs.length : Nat)) = ((i % (cs.length : Nat)).toNat : Nat) := (Int.toNat_of_nonneg (Int.emod_nonneg _ (by omega))).symm
        have lt : (i % (cs.length : Nat)).toNat < cs.length := by omega
        refine ⟨_, _, rfl, rfl, (by show (0 : Int) < (cs.length : Nat); omega), c, _, _, .int (cs[(i % (cs.length : Nat)).toNat]'lt), rfl, rfl, .inl (.inl c2), ?_, fin _⟩
        have ha : atI (cs.map V.int) (((i % (cs.length : Nat)).toNat : Nat) : Int) = some (V.int (cs[(i % (cs.length : Nat)).toNat]'lt)) := by
          refine atI_nat ?_
          rw [List.getElem?_map, List.getElem?_eq_getElem lt]
          rfl
        exact (congrArg (atI (cs.map V.int)) hv).trans ha
end
end EH

set_option Elab.async false
set_option linter.all false
set_option maxRecDepth 100000
set_option maxHeartbeats 4000000
namespace EH
open PySem PySem.Spec PyProof.Rows L2 LamX EL EM
theorem goesA_snoc : ∀ (x : W) (d : Int) (b : Bool), goesA d (x ++ [b]) = (goesA d x).bind fun e => if stp e b < 0 then none else some (stp e b)
  | [], d, b => rfl
  | a :: r, d, b => by
    show (if stp d a < 0 then none else goesA (stp d a) (r ++ [b])) = (if stp d a < 0 then none else goesA (stp d a) r).bind _
    split
    · rfl
    · exact goesA_snoc r _ b
theorem goesA_app : ∀ (x y : W) (d : Int), goesA d (x ++ y) = (goesA d x).bind fun e => goesA e y
  | [], y, d => rfl
  | a :: r, y, d => by
    show (if stp d a < 0 then none else goesA (stp d a) (r ++ y)) = (if stp d a < 0 then none else goesA (stp d a) r).bind _
    split
    · rfl
    · exact goesA_app r y _
theorem stp_add (d k : Int) (b : Bool) : stp (d + k) b = stp d b + k := by
  cases b
  · show d + k - 1 = d - 1 + k; omega
  · show d + k + 1 = d + 1 + k; omega
theorem goesA_up : ∀ (x : W) (d e k : Int), 0 ≤ k → goesA d x = some e → goesA (d + k) x = some (e + k)
  | [], d, e, k, hk, h => by cases h; rfl
  | a :: r, d, e, k, hk, h => by
    have h : (if stp d a < 0 then none else goesA (stp d a) r) = some e := h
    show (if stp (d + k) a < 0 then none else goesA (stp (d + k) a) r) = some (e + k)
    rw [stp_add]
    split at h
    · cases h
    · rename_i c
      rw [if_neg (by omega)]
      exact goesA_up r _ e k hk h
/-- a balanced word of n pairs -/
def Bal (n : Nat) (x : W) : Prop := x.length = 2 * n ∧ goesA 0 x = some 0
section
variable {Pg : Program} {w : World} {K : PySem.W.Frag} {mg : Str → Option Value} {base : Heap}
def N_law_one : List Str := ["_law_reed_here", "_law_some"]
theorem sc_law_one : FnScope N_law_one ["_law_reed_here", "_law_some"] (defScope s_law_one) := ⟨rfl, rfl, rfl, by decide +kernel, rfl, by decide +kernel, by decide +kernel⟩
def sp_one (K : PySem.W.Frag) : Sp := fun vs H Q _ => ∃ (r c : Addr) (m : Nat) (a : Addr) (xs : List V), vs = [.ref r, .ref a] ∧ RdAt K H r c m ∧ m ≤ 1000000 ∧ H a = some (.lst xs) ∧ 1 ≤ xs.length ∧ xs.length ≤ 1000 ∧ (∀ c i j, xs ≠ [.ref c, .int i, .int j]) ∧ ∀ (k : Nat) v H', xs[k]? = some v → Ey K H H' → RdAt K H' r c (m + 1) → Q v H'
theorem c_law_one (T : Tx K mg) : Cl Pg w K mg base 2 "_law_one" (sp_one K) :=
  have c_law_weft := c_law_weft (Pg := Pg) (w := w) (base := base) T
  calD T.g_law_one T.f_law_one sc_law_one (fun _ _ _ _ _ _ us hl => match us, hl with | [_, _], _ => rfl) (fun vs H Q E h => by obtain ⟨_, _, _, _, _, rfl, _⟩ := h; rfl) fun cdv A outer st H vs Q E hr h => by
    obtain ⟨r, c, m, a, xs, rfl, hR, hm, ha, hl1, hl2, hx, hQ⟩ := h
    refine ⟨_, (pss_one (ps_ret (pe_ix ix_list (pv 1) (C8.pe_c c_law_weft hr (by decide) (by rfl) (pa_cons (pv 0) (pa_cons (pe_callB call_len_seq (by rfl) T.n_len PySem.boot_len (pa_cons (pv 1) pa_nil)) pa_nil))) (fun _ _ => rfl)))), ?_⟩
    refine ⟨_, rfl, _, rfl, _, rfl, a, xs, rfl, .inl (.inl (.inl ha)), r, c, m, xs.length, rfl, hR, hm, hl1, by omega, fun v H1 e1 r1 hv => ?_⟩
    have ha1 := e1.k _ _ ha (fun ps z => by cases z) fun c i j z => hx c i j (HO.lst.inj (by exact z))
    refine ⟨a, xs, _, xs[v], rfl, rfl, .inl (.inl ha1), atI_nat (List.getElem?_eq_getElem hv), hQ v _ H1 (List.getElem?_eq_getElem hv) e1 r1⟩
def N_law_word : List Str := ["_law_reed_here", "_law_pairs", "_law_signs", "_law_deep", "_law_left", "_law_is_up"]
theorem sc_law_word : FnScope N_law_word ["_law_reed_here", "_law_pairs"] (defScope s_law_word) := ⟨rfl, rfl, rfl, by decide +kernel, rfl, by decide +kernel, by decide +kernel⟩
def sp_lword (K : PySem.W.Frag) : Sp := fun vs H Q _ => ∃ (r c : Addr) (m n : Nat), vs = [.ref r, .int (n : Nat)] ∧ RdAt K H r c m ∧ m + 2 * n ≤ 1000000 ∧ n ≤ 100 ∧ ∀ x H', Ey K H H' → RdAt K H' r c (m + 2 * n) → Bal n x → Q (.str (txt x)) H'
theorem c_law_word (T : Tx K mg) : Cl Pg w K mg base 2 "_law_word" (sp_lword K) :=
  have c_law_weft := c_law_weft (Pg := Pg) (w := w) (base := base) T
  calD T.g_law_word T.f_law_word sc_law_word (fun _ _ _ _ _ _ us hl => match us, hl with | [_, _], _ => rfl) (fun vs H Q E h => by obtain ⟨_, _, _, _, rfl, _⟩ := h; rfl) fun cdv A outer st H vs Q E hr h => by
    obtain ⟨r, c, m, n, rfl, hR, hm, hn, hQ⟩ := h
    refine ⟨_, (pss_cons (ps_par (i := 2) (j := 3) rfl sc_law_word.nd rfl rfl (by decide) rfl rfl (pa_cons (pe_lst pa_nil) (pa_cons pe_int pa_nil)) (by rfl))
      (pss_cons (ps_for PassesOwn.never rfl (pi_range3 (by rfl) T.n_range (pa_cons (pe_op op_mul pe_int (pv 1)) (pa_cons pe_int (pa_cons (pe_un un_neg pe_int) pa_nil)))) (pg_name (i := 4) sc_law_word.nd rfl (Or.inl rfl)) (pss_cons (ps_set (i := 5) sc_law_word.nd rfl (Or.inl rfl) (pe_or (pe_cmpR op_eq (pv 3) pe_int (nomark _)) (pe_one (pe_and (pe_cmpR op_lt (pv 3) (pv 4) (nomark _)) (pe_one (pe_cmpR op_eq (C8.pe_c c_law_weft hr (by decide) (by rfl) (pa_cons (pv 0) (pa_cons pe_int pa_nil))) pe_int (nomark _)))))))
      (pss_cons (ps_expr (pe_bm PySem.F.plainAttrs_list PySem.F.slot_list_append PySem.F.type_list_append mt_append (pv 2) (pa_cons (pe_ifExp (pt_val (pv 5)) pe_str pe_str) pa_nil)))
      (pss_one (ps_set (i := 3) sc_law_word.nd rfl (Or.inl rfl) (pe_ifExp (pt_val (pv 5)) (pe_op op_add (pv 3) pe_int) (pe_op op_sub (pv 3) pe_int)))))))
      (pss_one (ps_ret (pe_join pe_str (pv 2)))))), ?_⟩
    (repeat (first | refine ⟨_, rfl, ?_⟩ | refine ⟨rfl, ?_⟩ | refine ⟨_, _, rfl, rfl, ?_⟩ | refine ⟨_, _, rfl, ?_⟩ | refine ⟨hz, ?_⟩ | refine ⟨(show 3 ≤ sizeLine by decide), ?_⟩ | refine ⟨(show 2 ≤ sizeLine by decide), ?_⟩ | refine ⟨by decide +kernel, ?_⟩ | refine ⟨.inl ⟨by decide, by decide⟩, ?_⟩ | refine ⟨(by show (0 : Int) < _; omega), ?_⟩ | refine ⟨⟨by omega, by omega⟩, ?_⟩ | refine .inl ⟨_, rfl, sz (by simp only [*, sM, sE, s1, s0, s110, s101, txt_cat, txt_len, cut_to, cut_from, cut_init, List.length_append, List.length_cons, List.length_nil, List.length_take, List.length_drop, List.length_dropLast, List.length_reverse]; omega), ?_⟩ | refine ⟨sz (by simp only [*, sM, sE, s1, s0, s110, s101, txt_cat, txt_len, cut_to, cut_from, cut_init, List.length_append, List.length_cons, List.length_nil, List.length_take, List.length_drop, List.length_dropLast, List.length_reverse]; omega), ?_⟩))
    intro L hL
    have nr := hR.ne hL
    (repeat (first | refine ⟨_, rfl, ?_⟩ | refine ⟨rfl, ?_⟩ | refine ⟨_, _, rfl, rfl, ?_⟩ | refine ⟨_, _, rfl, ?_⟩ | refine ⟨hz, ?_⟩ | refine ⟨(show 3 ≤ sizeLine by decide), ?_⟩ | refine ⟨(show 2 ≤ sizeLine by decide), ?_⟩ | refine ⟨by decide +kernel, ?_⟩ | refine ⟨.inl ⟨by decide, by decide⟩, ?_⟩ | refine ⟨(by show (0 : Int) < _; omega), ?_⟩ | refine ⟨⟨by omega, by omega⟩, ?_⟩ | refine .inl ⟨_, rfl, sz (by simp only [*, sM, sE, s1, s0, s110, s101, txt_cat, txt_len, cut_to, cut_from, cut_init, List.length_append, List.length_cons, List.length_nil, List.length_take, List.length_drop, List.length_dropLast, List.length_reverse]; omega), ?_⟩ | refine ⟨sz (by simp only [*, sM, sE, s1, s0, s110, s101, txt_cat, txt_len, cut_to, cut_from, cut_init, List.length_append, List.length_cons, List.length_nil, List.length_take, List.length_drop, List.length_dropLast, List.length_reverse]; omega), ?_⟩))
    refine ⟨_, _, _, _, rfl, RgC.neg (by omega) (by omega) (by decide) (by decide), ?_⟩
    rw [show (2 * ((n : Nat) : Int) - 0).toNat = 2 * n by omega]
    refine for_rngc (fun i σ H' => ∃ (x : W) (d : Int) (a4 a5 : Option V), x.length = i ∧ goesA 0 x = some d ∧ 0 ≤ d ∧ d ≤ 2 * n - i ∧ (d + i) % 2 = 0 ∧ i ≤ 2 * n ∧ σ = [some (.ref r), some (.int (n : Nat)), some (.ref L), some (.int d), a4, a5] ∧ Ey K H H' ∧ RdAt K H' r c (m + i) ∧ H' L = some (.lst (wds (x.map fun b => [b])))) ⟨[], 0, none, none, rfl, rfl, by decide, by omega, by decide, by omega, rfl, (Ex.new hL).y, hR.ex (Ex.new hL), upd_same⟩ (fun i σ H1 hi hp => ?_) fun σ H1 hp => ?_
    · obtain ⟨x, d, a4, a5, hlen, hg, hd0, hd1, hpar, hi2, rfl, e1, r1, l1⟩ := hp
      (repeat (first | refine ⟨_, rfl, ?_⟩ | refine ⟨rfl, ?_⟩ | refine ⟨_, _, rfl, rfl, ?_⟩ | refine ⟨_, _, rfl, ?_⟩ | refine ⟨hz, ?_⟩ | refine ⟨(show 3 ≤ sizeLine by decide), ?_⟩ | refine ⟨(show 2 ≤ sizeLine by decide), ?_⟩ | refine ⟨by decide +kernel, ?_⟩ | refine ⟨.inl ⟨by decide, by decide⟩, ?_⟩ | refine ⟨(by show (0 : Int) < _; omega), ?_⟩ | refine ⟨⟨by omega, by omega⟩, ?_⟩ | refine .inl ⟨_, rfl, sz (by simp only [*, sM, sE, s1, s0, s110, s101, txt_cat, txt_len, cut_to, cut_from, cut_init, List.length_append, List.length_cons, List.length_nil, List.length_take, List.length_drop, List.length_dropLast, List.length_reverse]; omega), ?_⟩ | refine ⟨sz (by simp only [*, sM, sE, s1, s0, s110, s101, txt_cat, txt_len, cut_to, cut_from, cut_init, List.length_append, List.length_cons, List.length_nil, List.length_take, List.length_drop, List.length_dropLast, List.length_reverse]; omega), ?_⟩))
      by_cases c0 : d = 0
      · refine dT (congrArg V.int c0) ?_
        have r2 := r1.le (show m + i ≤ m + (i + 1) by omega)
        (repeat (first | refine ⟨_, rfl, ?_⟩ | refine ⟨rfl, ?_⟩ | refine ⟨_, _, rfl, rfl, ?_⟩ | refine ⟨_, _, rfl, ?_⟩ | refine ⟨hz, ?_⟩ | refine ⟨(show 3 ≤ sizeLine by decide), ?_⟩ | refine ⟨(show 2 ≤ sizeLine by decide), ?_⟩ | refine ⟨by decide +kernel, ?_⟩ | refine ⟨.inl ⟨by decide, by decide⟩, ?_⟩ | refine ⟨(by show (0 : Int) < _; omega), ?_⟩ | refine ⟨⟨by omega, by omega⟩, ?_⟩ | refine .inl ⟨_, rfl, sz (by simp only [*, sM, sE, s1, s0, s110, s101, txt_cat, txt_len, cut_to, cut_from, cut_init, List.length_append, List.length_cons, List.length_nil, List.length_take, List.length_drop, List.length_dropLast, List.length_reverse]; omega), ?_⟩ | refine ⟨sz (by simp only [*, sM, sE, s1, s0, s110, s101, txt_cat, txt_len, cut_to, cut_from, cut_init, List.length_append, List.length_cons, List.length_nil, List.length_take, List.length_drop, List.length_dropLast, List.length_reverse]; omega), ?_⟩))
        refine ⟨.inl ⟨rfl, _, .inl (.inl l1)⟩, ?_⟩
        (repeat (first | refine ⟨_, rfl, ?_⟩ | refine ⟨rfl, ?_⟩ | refine ⟨_, _, rfl, rfl, ?_⟩ | refine ⟨_, _, rfl, ?_⟩ | refine ⟨hz, ?_⟩ | refine ⟨(show 3 ≤ sizeLine by decide), ?_⟩ | refine ⟨(show 2 ≤ sizeLine by decide), ?_⟩ | refine ⟨by decide +kernel, ?_⟩ | refine ⟨.inl ⟨by decide, by decide⟩, ?_⟩ | refine ⟨(by show (0 : Int) < _; omega), ?_⟩ | refine ⟨⟨by omega, by omega⟩, ?_⟩ | refine .inl ⟨_, rfl, sz (by simp only [*, sM, sE, s1, s0, s110, s101, txt_cat, txt_len, cut_to, cut_from, cut_init, List.length_append, List.length_cons, List.length_nil, List.length_take, List.length_drop, List.length_dropLast, List.length_reverse]; omega), ?_⟩ | refine ⟨sz (by simp only [*, sM, sE, s1, s0, s110, s101, txt_cat, txt_len, cut_to, cut_from, cut_init, List.length_append, List.length_cons, List.length_nil, List.length_take, List.length_drop, List.length_dropLast, List.length_reverse]; omega), ?_⟩))
        refine ⟨L, _, _, rfl, rfl, l1, ?_, ?_⟩
        · unfold wds
          rw [List.length_map, List.length_map]
          exact Nat.lt_of_le_of_lt (show x.length ≤ 200 by omega) (by decide)
        (repeat (first | refine ⟨_, rfl, ?_⟩ | refine ⟨rfl, ?_⟩ | refine ⟨_, _, rfl, rfl, ?_⟩ | refine ⟨_, _, rfl, ?_⟩ | refine ⟨hz, ?_⟩ | refine ⟨(show 3 ≤ sizeLine by decide), ?_⟩ | refine ⟨(show 2 ≤ sizeLine by decide), ?_⟩ | refine ⟨by decide +kernel, ?_⟩ | refine ⟨.inl ⟨by decide, by decide⟩, ?_⟩ | refine ⟨(by show (0 : Int) < _; omega), ?_⟩ | refine ⟨⟨by omega, by omega⟩, ?_⟩ | refine .inl ⟨_, rfl, sz (by simp only [*, sM, sE, s1, s0, s110, s101, txt_cat, txt_len, cut_to, cut_from, cut_init, List.length_append, List.length_cons, List.length_nil, List.length_take, List.length_drop, List.length_dropLast, List.length_reverse]; omega), ?_⟩ | refine ⟨sz (by simp only [*, sM, sE, s1, s0, s110, s101, txt_cat, txt_len, cut_to, cut_from, cut_init, List.length_append, List.length_cons, List.length_nil, List.length_take, List.length_drop, List.length_dropLast, List.length_reverse]; omega), ?_⟩))
        refine ⟨x ++ [true], d + 1, some (.int (2 * (n : Nat) + (i : Nat) * -1)), some (.bl true), by rw [List.length_append, hlen]; rfl, ?_, by omega, by omega, by omega, by omega, rfl, e1.mutL hL l1 _, ?_, ?_⟩
        · rw [goesA_snoc, hg]
          show (if d + 1 < 0 then none else some (d + 1)) = _
          rw [if_neg (by omega)]
        · exact r2.upd nr.1 nr.2
        · rw [upd_same]
          show some (HO.lst (wds (x.map fun b => [b]) ++ [V.str "1"])) = _
          rw [s1]
          unfold wds
          rw [List.map_append, List.map_append]
          rfl
      · refine dF (fun z => c0 (V.int.inj z)) ?_
        (repeat (first | refine ⟨_, rfl, ?_⟩ | refine ⟨rfl, ?_⟩ | refine ⟨_, _, rfl, rfl, ?_⟩ | refine ⟨_, _, rfl, ?_⟩ | refine ⟨hz, ?_⟩ | refine ⟨(show 3 ≤ sizeLine by decide), ?_⟩ | refine ⟨(show 2 ≤ sizeLine by decide), ?_⟩ | refine ⟨by decide +kernel, ?_⟩ | refine ⟨.inl ⟨by decide, by decide⟩, ?_⟩ | refine ⟨(by show (0 : Int) < _; omega), ?_⟩ | refine ⟨⟨by omega, by omega⟩, ?_⟩ | refine .inl ⟨_, rfl, sz (by simp only [*, sM, sE, s1, s0, s110, s101, txt_cat, txt_len, cut_to, cut_from, cut_init, List.length_append, List.length_cons, List.length_nil, List.length_take, List.length_drop, List.length_dropLast, List.length_reverse]; omega), ?_⟩ | refine ⟨sz (by simp only [*, sM, sE, s1, s0, s110, s101, txt_cat, txt_len, cut_to, cut_from, cut_init, List.length_append, List.length_cons, List.length_nil, List.length_take, List.length_drop, List.length_dropLast, List.length_reverse]; omega), ?_⟩))
        by_cases c1 : d < 2 * (n : Nat) + (i : Nat) * -1
        · rw [show decide (d < 2 * ((n : Nat) : Int) + ((i : Nat) : Int) * -1) = true from decide_eq_true c1]
          (repeat (first | refine ⟨_, rfl, ?_⟩ | refine ⟨rfl, ?_⟩ | refine ⟨_, _, rfl, rfl, ?_⟩ | refine ⟨_, _, rfl, ?_⟩ | refine ⟨hz, ?_⟩ | refine ⟨(show 3 ≤ sizeLine by decide), ?_⟩ | refine ⟨(show 2 ≤ sizeLine by decide), ?_⟩ | refine ⟨by decide +kernel, ?_⟩ | refine ⟨.inl ⟨by decide, by decide⟩, ?_⟩ | refine ⟨(by show (0 : Int) < _; omega), ?_⟩ | refine ⟨⟨by omega, by omega⟩, ?_⟩ | refine .inl ⟨_, rfl, sz (by simp only [*, sM, sE, s1, s0, s110, s101, txt_cat, txt_len, cut_to, cut_from, cut_init, List.length_append, List.length_cons, List.length_nil, List.length_take, List.length_drop, List.length_dropLast, List.length_reverse]; omega), ?_⟩ | refine ⟨sz (by simp only [*, sM, sE, s1, s0, s110, s101, txt_cat, txt_len, cut_to, cut_from, cut_init, List.length_append, List.length_cons, List.length_nil, List.length_take, List.length_drop, List.length_dropLast, List.length_reverse]; omega), ?_⟩))
          refine ⟨r, c, m + i, 2, rfl, r1, by omega, by omega, by omega, fun v H2 e2 r2 hv => ?_⟩
          have e3 := e1.trans e2
          have l2 := e2.wds l1
          have r2 := r2.le (show m + i + 1 ≤ m + (i + 1) by omega)
          (repeat (first | refine ⟨_, rfl, ?_⟩ | refine ⟨rfl, ?_⟩ | refine ⟨_, _, rfl, rfl, ?_⟩ | refine ⟨_, _, rfl, ?_⟩ | refine ⟨hz, ?_⟩ | refine ⟨(show 3 ≤ sizeLine by decide), ?_⟩ | refine ⟨(show 2 ≤ sizeLine by decide), ?_⟩ | refine ⟨by decide +kernel, ?_⟩ | refine ⟨.inl ⟨by decide, by decide⟩, ?_⟩ | refine ⟨(by show (0 : Int) < _; omega), ?_⟩ | refine ⟨⟨by omega, by omega⟩, ?_⟩ | refine .inl ⟨_, rfl, sz (by simp only [*, sM, sE, s1, s0, s110, s101, txt_cat, txt_len, cut_to, cut_from, cut_init, List.length_append, List.length_cons, List.length_nil, List.length_take, List.length_drop, List.length_dropLast, List.length_reverse]; omega), ?_⟩ | refine ⟨sz (by simp only [*, sM, sE, s1, s0, s110, s101, txt_cat, txt_len, cut_to, cut_from, cut_init, List.length_append, List.length_cons, List.length_nil, List.length_take, List.length_drop, List.length_dropLast, List.length_reverse]; omega), ?_⟩))
          by_cases c2 : v = 0
          · rw [show decide (V.int ((v : Nat) : Int) = V.int 0) = true from decide_eq_true (by rw [c2]; rfl)]
            (repeat (first | refine ⟨_, rfl, ?_⟩ | refine ⟨rfl, ?_⟩ | refine ⟨_, _, rfl, rfl, ?_⟩ | refine ⟨_, _, rfl, ?_⟩ | refine ⟨hz, ?_⟩ | refine ⟨(show 3 ≤ sizeLine by decide), ?_⟩ | refine ⟨(show 2 ≤ sizeLine by decide), ?_⟩ | refine ⟨by decide +kernel, ?_⟩ | refine ⟨.inl ⟨by decide, by decide⟩, ?_⟩ | refine ⟨(by show (0 : Int) < _; omega), ?_⟩ | refine ⟨⟨by omega, by omega⟩, ?_⟩ | refine .inl ⟨_, rfl, sz (by simp only [*, sM, sE, s1, s0, s110, s101, txt_cat, txt_len, cut_to, cut_from, cut_init, List.length_append, List.length_cons, List.length_nil, List.length_take, List.length_drop, List.length_dropLast, List.length_reverse]; omega), ?_⟩ | refine ⟨sz (by simp only [*, sM, sE, s1, s0, s110, s101, txt_cat, txt_len, cut_to, cut_from, cut_init, List.length_append, List.length_cons, List.length_nil, List.length_take, List.length_drop, List.length_dropLast, List.length_reverse]; omega), ?_⟩))
            refine ⟨.inl ⟨rfl, _, .inl (.inl l2)⟩, ?_⟩
            (repeat (first | refine ⟨_, rfl, ?_⟩ | refine ⟨rfl, ?_⟩ | refine ⟨_, _, rfl, rfl, ?_⟩ | refine ⟨_, _, rfl, ?_⟩ | refine ⟨hz, ?_⟩ | refine ⟨(show 3 ≤ sizeLine by decide), ?_⟩ | refine ⟨(show 2 ≤ sizeLine by decide), ?_⟩ | refine ⟨by decide +kernel, ?_⟩ | refine ⟨.inl ⟨by decide, by decide⟩, ?_⟩ | refine ⟨(by show (0 : Int) < _; omega), ?_⟩ | refine ⟨⟨by omega, by omega⟩, ?_⟩ | refine .inl ⟨_, rfl, sz (by simp only [*, sM, sE, s1, s0, s110, s101, txt_cat, txt_len, cut_to, cut_from, cut_init, List.length_append, List.length_cons, List.length_nil, List.length_take, List.length_drop, List.length_dropLast, List.length_reverse]; omega), ?_⟩ | refine ⟨sz (by simp only [*, sM, sE, s1, s0, s110, s101, txt_cat, txt_len, cut_to, cut_from, cut_init, List.length_append, List.length_cons, List.length_nil, List.length_take, List.length_drop, List.length_dropLast, List.length_reverse]; omega), ?_⟩))
            refine ⟨L, _, _, rfl, rfl, l2, ?_, ?_⟩
            · unfold wds
              rw [List.length_map, List.length_map]
              exact Nat.lt_of_le_of_lt (show x.length ≤ 200 by omega) (by decide)
            (repeat (first | refine ⟨_, rfl, ?_⟩ | refine ⟨rfl, ?_⟩ | refine ⟨_, _, rfl, rfl, ?_⟩ | refine ⟨_, _, rfl, ?_⟩ | refine ⟨hz, ?_⟩ | refine ⟨(show 3 ≤ sizeLine by decide), ?_⟩ | refine ⟨(show 2 ≤ sizeLine by decide), ?_⟩ | refine ⟨by decide +kernel, ?_⟩ | refine ⟨.inl ⟨by decide, by decide⟩, ?_⟩ | refine ⟨(by show (0 : Int) < _; omega), ?_⟩ | refine ⟨⟨by omega, by omega⟩, ?_⟩ | refine .inl ⟨_, rfl, sz (by simp only [*, sM, sE, s1, s0, s110, s101, txt_cat, txt_len, cut_to, cut_from, cut_init, List.length_append, List.length_cons, List.length_nil, List.length_take, List.length_drop, List.length_dropLast, List.length_reverse]; omega), ?_⟩ | refine ⟨sz (by simp only [*, sM, sE, s1, s0, s110, s101, txt_cat, txt_len, cut_to, cut_from, cut_init, List.length_append, List.length_cons, List.length_nil, List.length_take, List.length_drop, List.length_dropLast, List.length_reverse]; omega), ?_⟩))
            refine ⟨x ++ [true], d + 1, some (.int (2 * (n : Nat) + (i : Nat) * -1)), some (.bl true), by rw [List.length_append, hlen]; rfl, ?_, by omega, by omega, by omega, by omega, rfl, e3.mutL hL l2 _, ?_, ?_⟩
            · rw [goesA_snoc, hg]
              show (if d + 1 < 0 then none else some (d + 1)) = _
              rw [if_neg (by omega)]
            · exact r2.upd nr.1 nr.2
            · rw [upd_same]
              show some (HO.lst (wds (x.map fun b => [b]) ++ [V.str "1"])) = _
              rw [s1]
              unfold wds
              rw [List.map_append, List.map_append]
              rfl
          · rw [show decide (V.int ((v : Nat) : Int) = V.int 0) = false from decide_eq_false (fun z => c2 (by have := V.int.inj z; omega))]
            (repeat (first | refine ⟨_, rfl, ?_⟩ | refine ⟨rfl, ?_⟩ | refine ⟨_, _, rfl, rfl, ?_⟩ | refine ⟨_, _, rfl, ?_⟩ | refine ⟨hz, ?_⟩ | refine ⟨(show 3 ≤ sizeLine by decide), ?_⟩ | refine ⟨(show 2 ≤ sizeLine by decide), ?_⟩ | refine ⟨by decide +kernel, ?_⟩ | refine ⟨.inl ⟨by decide, by decide⟩, ?_⟩ | refine ⟨(by show (0 : Int) < _; omega), ?_⟩ | refine ⟨⟨by omega, by omega⟩, ?_⟩ | refine .inl ⟨_, rfl, sz (by simp only [*, sM, sE, s1, s0, s110, s101, txt_cat, txt_len, cut_to, cut_from, cut_init, List.length_append, List.length_cons, List.length_nil, List.length_take, List.length_drop, List.length_dropLast, List.length_reverse]; omega), ?_⟩ | refine ⟨sz (by simp only [*, sM, sE, s1, s0, s110, s101, txt_cat, txt_len, cut_to, cut_from, cut_init, List.length_append, List.length_cons, List.length_nil, List.length_take, List.length_drop, List.length_dropLast, List.length_reverse]; omega), ?_⟩))
            refine ⟨.inl ⟨rfl, _, .inl (.inl l2)⟩, ?_⟩
            (repeat (first | refine ⟨_, rfl, ?_⟩ | refine ⟨rfl, ?_⟩ | refine ⟨_, _, rfl, rfl, ?_⟩ | refine ⟨_, _, rfl, ?_⟩ | refine ⟨hz, ?_⟩ | refine ⟨(show 3 ≤ sizeLine by decide), ?_⟩ | refine ⟨(show 2 ≤ sizeLine by decide), ?_⟩ | refine ⟨by decide +kernel, ?_⟩ | refine ⟨.inl ⟨by decide, by decide⟩, ?_⟩ | refine ⟨(by show (0 : Int) < _; omega), ?_⟩ | refine ⟨⟨by omega, by omega⟩, ?_⟩ | refine .inl ⟨_, rfl, sz (by simp only [*, sM, sE, s1, s0, s110, s101, txt_cat, txt_len, cut_to, cut_from, cut_init, List.length_append, List.length_cons, List.length_nil, List.length_take, List.length_drop, List.length_dropLast, List.length_reverse]; omega), ?_⟩ | refine ⟨sz (by simp only [*, sM, sE, s1, s0, s110, s101, txt_cat, txt_len, cut_to, cut_from, cut_init, List.length_append, List.length_cons, List.length_nil, List.length_take, List.length_drop, List.length_dropLast, List.length_reverse]; omega), ?_⟩))
            refine ⟨L, _, _, rfl, rfl, l2, ?_, ?_⟩
            · unfold wds
              rw [List.length_map, List.length_map]
              exact Nat.lt_of_le_of_lt (show x.length ≤ 200 by omega) (by decide)
            (repeat (first | refine ⟨_, rfl, ?_⟩ | refine ⟨rfl, ?_⟩ | refine ⟨_, _, rfl, rfl, ?_⟩ | refine ⟨_, _, rfl, ?_⟩ | refine ⟨hz, ?_⟩ | refine ⟨(show 3 ≤ sizeLine by decide), ?_⟩ | refine ⟨(show 2 ≤ sizeLine by decide), ?_⟩ | refine ⟨by decide +kernel, ?_⟩ | refine ⟨.inl ⟨by decide, by decide⟩, ?_⟩ | refine ⟨(by show (0 : Int) < _; omega), ?_⟩ | refine ⟨⟨by omega, by omega⟩, ?_⟩ | refine .inl ⟨_, rfl, sz (by simp only [*, sM, sE, s1, s0, s110, s101, txt_cat, txt_len, cut_to, cut_from, cut_init, List.length_append, List.length_cons, List.length_nil, List.length_take, List.length_drop, List.length_dropLast, List.length_reverse]; omega), ?_⟩ | refine ⟨sz (by simp only [*, sM, sE, s1, s0, s110, s101, txt_cat, txt_len, cut_to, cut_from, cut_init, List.length_append, List.length_cons, List.length_nil, List.length_take, List.length_drop, List.length_dropLast, List.length_reverse]; omega), ?_⟩))
            refine ⟨x ++ [false], d - 1, some (.int (2 * (n : Nat) + (i : Nat) * -1)), some (.bl false), by rw [List.length_append, hlen]; rfl, ?_, by omega, by omega, by omega, by omega, rfl, e3.mutL hL l2 _, ?_, ?_⟩
            · rw [goesA_snoc, hg]
              show (if d - 1 < 0 then none else some (d - 1)) = _
              rw [if_neg (by omega)]
            · exact r2.upd nr.1 nr.2
            · rw [upd_same]
              show some (HO.lst (wds (x.map fun b => [b]) ++ [V.str "0"])) = _
              rw [s0]
              unfold wds
              rw [List.map_append, List.map_append]
              rfl
        · rw [show decide (d < 2 * ((n : Nat) : Int) + ((i : Nat) : Int) * -1) = false from decide_eq_false c1]
          have r2 := r1.le (show m + i ≤ m + (i + 1) by omega)
          (repeat (first | refine ⟨_, rfl, ?_⟩ | refine ⟨rfl, ?_⟩ | refine ⟨_, _, rfl, rfl, ?_⟩ | refine ⟨_, _, rfl, ?_⟩ | refine ⟨hz, ?_⟩ | refine ⟨(show 3 ≤ sizeLine by decide), ?_⟩ | refine ⟨(show 2 ≤ sizeLine by decide), ?_⟩ | refine ⟨by decide +kernel, ?_⟩ | refine ⟨.inl ⟨by decide, by decide⟩, ?_⟩ | refine ⟨(by show (0 : Int) < _; omega), ?_⟩ | refine ⟨⟨by omega, by omega⟩, ?_⟩ | refine .inl ⟨_, rfl, sz (by simp only [*, sM, sE, s1, s0, s110, s101, txt_cat, txt_len, cut_to, cut_from, cut_init, List.length_append, List.length_cons, List.length_nil, List.length_take, List.length_drop, List.length_dropLast, List.length_reverse]; omega), ?_⟩ | refine ⟨sz (by simp only [*, sM, sE, s1, s0, s110, s101, txt_cat, txt_len, cut_to, cut_from, cut_init, List.length_append, List.length_cons, List.length_nil, List.length_take, List.length_drop, List.length_dropLast, List.length_reverse]; omega), ?_⟩))
          refine ⟨.inl ⟨rfl, _, .inl (.inl l1)⟩, ?_⟩
          (repeat (first | refine ⟨_, rfl, ?_⟩ | refine ⟨rfl, ?_⟩ | refine ⟨_, _, rfl, rfl, ?_⟩ | refine ⟨_, _, rfl, ?_⟩ | refine ⟨hz, ?_⟩ | refine ⟨(show 3 ≤ sizeLine by decide), ?_⟩ | refine ⟨(show 2 ≤ sizeLine by decide), ?_⟩ | refine ⟨by decide +kernel, ?_⟩ | refine ⟨.inl ⟨by decide, by decide⟩, ?_⟩ | refine ⟨(by show (0 : Int) < _; omega), ?_⟩ | refine ⟨⟨by omega, by omega⟩, ?_⟩ | refine .inl ⟨_, rfl, sz (by simp only [*, sM, sE, s1, s0, s110, s101, txt_cat, txt_len, cut_to, cut_from, cut_init, List.length_append, List.length_cons, List.length_nil, List.length_take, List.length_drop, List.length_dropLast, List.length_reverse]; omega), ?_⟩ | refine ⟨sz (by simp only [*, sM, sE, s1, s0, s110, s101, txt_cat, txt_len, cut_to, cut_from, cut_init, List.length_append, List.length_cons, List.length_nil, List.length_take, List.length_drop, List.length_dropLast, List.length_reverse]; omega), ?_⟩))
          refine ⟨L, _, _, rfl, rfl, l1, ?_, ?_⟩
          · unfold wds
            rw [List.length_map, List.length_map]
            exact Nat.lt_of_le_of_lt (show x.length ≤ 200 by omega) (by decide)
          (repeat (first | refine ⟨_, rfl, ?_⟩ | refine ⟨rfl, ?_⟩ | refine ⟨_, _, rfl, rfl, ?_⟩ | refine ⟨_, _, rfl, ?_⟩ | refine ⟨hz, ?_⟩ | refine ⟨(show 3 ≤ sizeLine by decide), ?_⟩ | refine ⟨(show 2 ≤ sizeLine by decide), ?_⟩ | refine ⟨by decide +kernel, ?_⟩ | refine ⟨.inl ⟨by decide, by decide⟩, ?_⟩ | refine ⟨(by show (0 : Int) < _; omega), ?_⟩ | refine ⟨⟨by omega, by omega⟩, ?_⟩ | refine .inl ⟨_, rfl, sz (by simp only [*, sM, sE, s1, s0, s110, s101, txt_cat, txt_len, cut_to, cut_from, cut_init, List.length_append, List.length_cons, List.length_nil, List.length_take, List.length_drop, List.length_dropLast, List.length_reverse]; omega), ?_⟩ | refine ⟨sz (by simp only [*, sM, sE, s1, s0, s110, s101, txt_cat, txt_len, cut_to, cut_from, cut_init, List.length_append, List.length_cons, List.length_nil, List.length_take, List.length_drop, List.length_dropLast, List.length_reverse]; omega), ?_⟩))
          refine ⟨x ++ [false], d - 1, some (.int (2 * (n : Nat) + (i : Nat) * -1)), some (.bl false), by rw [List.length_append, hlen]; rfl, ?_, by omega, by omega, by omega, by omega, rfl, e1.mutL hL l1 _, ?_, ?_⟩
          · rw [goesA_snoc, hg]
            show (if d - 1 < 0 then none else some (d - 1)) = _
            rw [if_neg (by omega)]
          · exact r2.upd nr.1 nr.2
          · rw [upd_same]
            show some (HO.lst (wds (x.map fun b => [b]) ++ [V.str "0"])) = _
            rw [s0]
            unfold wds
            rw [List.map_append, List.map_append]
            rfl
    · obtain ⟨x, d, a4, a5, hlen, hg, hd0, hd1, hpar, hi2, rfl, e1, r1, l1⟩ := hp
      (repeat (first | refine ⟨_, rfl, ?_⟩ | refine ⟨rfl, ?_⟩ | refine ⟨_, _, rfl, rfl, ?_⟩ | refine ⟨_, _, rfl, ?_⟩ | refine ⟨hz, ?_⟩ | refine ⟨(show 3 ≤ sizeLine by decide), ?_⟩ | refine ⟨(show 2 ≤ sizeLine by decide), ?_⟩ | refine ⟨by decide +kernel, ?_⟩ | refine ⟨.inl ⟨by decide, by decide⟩, ?_⟩ | refine ⟨(by show (0 : Int) < _; omega), ?_⟩ | refine ⟨⟨by omega, by omega⟩, ?_⟩ | refine .inl ⟨_, rfl, sz (by simp only [*, sM, sE, s1, s0, s110, s101, txt_cat, txt_len, cut_to, cut_from, cut_init, List.length_append, List.length_cons, List.length_nil, List.length_take, List.length_drop, List.length_dropLast, List.length_reverse]; omega), ?_⟩ | refine ⟨sz (by simp only [*, sM, sE, s1, s0, s110, s101, txt_cat, txt_len, cut_to, cut_from, cut_init, List.length_append, List.length_cons, List.length_nil, List.length_take, List.length_drop, List.length_dropLast, List.length_reverse]; omega), ?_⟩))
      obtain rfl : d = 0 := by omega
      have ew : wds (x.map fun b => [b]) = (x.map fun b => txt [b]).map V.str := by
        unfold wds
        rw [List.map_map, List.map_map]
        rfl
      rw [ew] at l1
      refine ⟨⟨_, rfl⟩, _, rfl, _, L, _, rfl, rfl, .inl (.inl (.inl l1)), ?_, ?_⟩
      · rw [List.map_map]
        have e2 : ∀ y : W, ((y.map ((·.length) ∘ fun b => txt [b])).sum) = y.length := fun y => by
          induction y with
          | nil => rfl
          | cons a r ih =>
            rw [List.map_cons, List.sum_cons, ih, List.length_cons]
            show (txt [a]).length + _ = _
            rw [txt_len]
            simp only [List.length_cons, List.length_nil]
            omega
        rw [e2, List.length_map]
        have e3 : ("" : Str).length = 0 := by decide +kernel
        rw [e3]
        omega
      · rw [join_bits]
        exact hQ x H1 e1 (r1.le (by omega)) ⟨hlen, hg⟩
end
end EH

set_option Elab.async false
set_option linter.all false
set_option maxRecDepth 100000
set_option maxHeartbeats 4000000
namespace EH
open PySem PySem.Spec PyProof.Rows L2 LamX EL EM
theorem PsOk.nil (n : Nat) : PsOk n [] := ⟨fun _ h => (by cases h), by decide, .nil⟩
theorem PsOk.snoc {n : Nat} {ws : List W} {z : W} (h : PsOk n ws) (hz : PuOk n z) (hn : z ∉ ws) (h60 : ws.length < 60) : PsOk n (ws ++ [z]) := by
  refine ⟨fun x hx => ?_, by rw [List.length_append]; show ws.length + 1 ≤ 60; omega, List.nodup_append.mpr ⟨h.nd, by simp, fun a ha b hb e => ?_⟩⟩
  · rcases List.mem_append.mp hx with q | q
    · exact h.all x q
    · rw [List.mem_singleton.mp q]
      exact hz
  · rw [List.mem_singleton.mp hb] at e
    exact hn (e ▸ ha)
theorem Bal.pull {n i : Nat} {a b : W} (ha : Bal i a) (hb : Bal (n - 2 - i) b) (h : i + 2 ≤ n) (hn : n ≤ 100) : PuOk n (p110 ++ a ++ [false] ++ b) := by
  have hl : (p110 ++ a ++ [false] ++ b).length = 2 * n := by
    simp only [List.length_append, ha.1, hb.1, p110, List.length_cons, List.length_nil]
    omega
  refine ⟨⟨by omega, by omega, ?_⟩, hl, rfl⟩
  have h1 : goesA 0 p110 = some 1 := by decide
  have h2 : goesA 1 a = some 1 := goesA_up a 0 0 1 (by decide) ha.2
  rw [goesA_app, goesA_app, goesA_app, h1]
  show ((goesA 1 a).bind fun e => goesA e [false]).bind (fun e => goesA e b) = some 0
  rw [h2]
  show goesA 0 b = some 0
  exact hb.2
section
variable {Pg : Program} {w : World} {K : PySem.W.Frag} {mg : Str → Option Value} {base : Heap}
def N_law_pulls : List Str := ["_law_reed_here", "_law_pairs", "_law_most", "_law_found", "_law_turn", "_law_inner", "_law_word_here"]
theorem sc_law_pulls : FnScope N_law_pulls ["_law_reed_here", "_law_pairs", "_law_most"] (defScope s_law_pulls) := ⟨rfl, rfl, rfl, by decide +kernel, rfl, by decide +kernel, by decide +kernel⟩
def sp_lpulls (K : PySem.W.Frag) : Sp := fun vs H Q _ => ∃ (r c : Addr) (m n k : Nat), vs = [.ref r, .int (n : Nat), .int (k : Nat)] ∧ RdAt K H r c m ∧ m + 1000 ≤ 1000000 ∧ 2 ≤ n ∧ n ≤ 5 ∧ k ≤ 9 ∧ ∀ L ws H', Ey K H H' → H L = none → H' L = some (.lst (wds ws)) → RdAt K H' r c (m + 1000) → PsOk n ws → ws.length ≤ 9 → Q (.ref L) H'
theorem c_law_pulls (T : Tx K mg) : Cl Pg w K mg base 3 "_law_pulls" (sp_lpulls K) :=
  have c_law_weft := c_law_weft (Pg := Pg) (w := w) (base := base) T
  have c_law_word := c_law_word (Pg := Pg) (w := w) (base := base) T
  calD T.g_law_pulls T.f_law_pulls sc_law_pulls (fun _ _ _ _ _ _ us hl => match us, hl with | [_, _, _], _ => rfl) (fun vs H Q E h => by obtain ⟨_, _, _, _, _, rfl, _⟩ := h; rfl) fun cdv A outer st H vs Q E hr h => by
    obtain ⟨r, c, m, n, k, rfl, hR, hm, hn2, hn5, hk, hQ⟩ := h
    refine ⟨_, (pss_cons (ps_set (i := 3) sc_law_pulls.nd rfl (Or.inl rfl) (pe_lst pa_nil))
      (pss_cons (ps_for PassesOwn.never rfl (pi_range1 (by rfl) T.n_range (pa_cons (pv 2) pa_nil)) (pg_name (i := 4) sc_law_pulls.nd rfl (Or.inl rfl)) (pss_cons (ps_set (i := 5) sc_law_pulls.nd rfl (Or.inl rfl) (C8.pe_c c_law_weft hr (by decide) (by rfl) (pa_cons (pv 0) (pa_cons (pe_op op_sub (pv 1) pe_int) pa_nil))))
      (pss_cons (ps_set (i := 6) sc_law_pulls.nd rfl (Or.inl rfl) (pe_op op_add_str (pe_op op_add_str (pe_op op_add_str pe_str (C8.pe_c c_law_word hr (by decide) (by rfl) (pa_cons (pv 0) (pa_cons (pv 5) pa_nil)))) pe_str) (C8.pe_c c_law_word hr (by decide) (by rfl) (pa_cons (pv 0) (pa_cons (pe_op op_sub (pe_op op_sub (pv 1) pe_int) (pv 5)) pa_nil)))))
      (pss_one (ps_if (pt_cmpR op_notIn_seq (pv 6) (pv 3) (by rfl)) (pss_one (ps_expr (pe_bm PySem.F.plainAttrs_list PySem.F.slot_list_append PySem.F.type_list_append mt_append (pv 3) (pa_cons (pv 6) pa_nil)))) pss_nil)))))
      (pss_one (ps_ret (pv 3))))), ?_⟩
    (repeat (first | refine ⟨_, rfl, ?_⟩ | refine ⟨rfl, ?_⟩ | refine ⟨_, _, rfl, rfl, ?_⟩ | refine ⟨_, _, rfl, ?_⟩ | refine ⟨hz, ?_⟩ | refine ⟨(show 3 ≤ sizeLine by decide), ?_⟩ | refine ⟨(show 2 ≤ sizeLine by decide), ?_⟩ | refine ⟨by decide +kernel, ?_⟩ | refine ⟨.inl ⟨by decide, by decide⟩, ?_⟩ | refine ⟨(by show (0 : Int) < _; omega), ?_⟩ | refine ⟨⟨by omega, by omega⟩, ?_⟩ | refine .inl ⟨_, rfl, sz (by simp only [*, p110, p101, sM, sE, s1, s0, s110, s101, txt_cat, txt_len, cut_to, cut_from, cut_init, List.length_append, List.length_cons, List.length_nil, List.length_take, List.length_drop, List.length_dropLast, List.length_reverse]; omega), ?_⟩ | refine ⟨sz (by simp only [*, p110, p101, sM, sE, s1, s0, s110, s101, txt_cat, txt_len, cut_to, cut_from, cut_init, List.length_append, List.length_cons, List.length_nil, List.length_take, List.length_drop, List.length_dropLast, List.length_reverse]; omega), ?_⟩))
    intro L hL
    have nr := hR.ne hL
    (repeat (first | refine ⟨_, rfl, ?_⟩ | refine ⟨rfl, ?_⟩ | refine ⟨_, _, rfl, rfl, ?_⟩ | refine ⟨_, _, rfl, ?_⟩ | refine ⟨hz, ?_⟩ | refine ⟨(show 3 ≤ sizeLine by decide), ?_⟩ | refine ⟨(show 2 ≤ sizeLine by decide), ?_⟩ | refine ⟨by decide +kernel, ?_⟩ | refine ⟨.inl ⟨by decide, by decide⟩, ?_⟩ | refine ⟨(by show (0 : Int) < _; omega), ?_⟩ | refine ⟨⟨by omega, by omega⟩, ?_⟩ | refine .inl ⟨_, rfl, sz (by simp only [*, p110, p101, sM, sE, s1, s0, s110, s101, txt_cat, txt_len, cut_to, cut_from, cut_init, List.length_append, List.length_cons, List.length_nil, List.length_take, List.length_drop, List.length_dropLast, List.length_reverse]; omega), ?_⟩ | refine ⟨sz (by simp only [*, p110, p101, sM, sE, s1, s0, s110, s101, txt_cat, txt_len, cut_to, cut_from, cut_init, List.length_append, List.length_cons, List.length_nil, List.length_take, List.length_drop, List.length_dropLast, List.length_reverse]; omega), ?_⟩))
    refine ⟨by omega, by omega, ?_⟩
    rw [show ((k : Nat) : Int).toNat = k by omega]
    refine for_rng (fun i σ H' => ∃ (ws : List W) (a4 a5 a6 : Option V), PsOk n ws ∧ ws.length ≤ i ∧ i ≤ k ∧ σ = [some (.ref r), some (.int (n : Nat)), some (.int (k : Nat)), some (.ref L), a4, a5, a6] ∧ Ey K H H' ∧ RdAt K H' r c (m + 50 * i) ∧ H' L = some (.lst (wds ws))) ⟨[], none, none, none, PsOk.nil n, by decide, by omega, rfl, (Ex.new hL).y, hR.ex (Ex.new hL), upd_same⟩ (fun i σ H1 hi hp => ?_) fun σ H1 hp => ?_
    · obtain ⟨ws, a4, a5, a6, hw, hwl, hik, rfl, e1, r1, l1⟩ := hp
      (repeat (first | refine ⟨_, rfl, ?_⟩ | refine ⟨rfl, ?_⟩ | refine ⟨_, _, rfl, rfl, ?_⟩ | refine ⟨_, _, rfl, ?_⟩ | refine ⟨hz, ?_⟩ | refine ⟨(show 3 ≤ sizeLine by decide), ?_⟩ | refine ⟨(show 2 ≤ sizeLine by decide), ?_⟩ | refine ⟨by decide +kernel, ?_⟩ | refine ⟨.inl ⟨by decide, by decide⟩, ?_⟩ | refine ⟨(by show (0 : Int) < _; omega), ?_⟩ | refine ⟨⟨by omega, by omega⟩, ?_⟩ | refine .inl ⟨_, rfl, sz (by simp only [*, p110, p101, sM, sE, s1, s0, s110, s101, txt_cat, txt_len, cut_to, cut_from, cut_init, List.length_append, List.length_cons, List.length_nil, List.length_take, List.length_drop, List.length_dropLast, List.length_reverse]; omega), ?_⟩ | refine ⟨sz (by simp only [*, p110, p101, sM, sE, s1, s0, s110, s101, txt_cat, txt_len, cut_to, cut_from, cut_init, List.length_append, List.length_cons, List.length_nil, List.length_take, List.length_drop, List.length_dropLast, List.length_reverse]; omega), ?_⟩))
      refine ⟨r, c, m + 50 * i, n - 1, by rw [show (((n - 1 : Nat)) : Int) = (n : Nat) - 1 by omega]; rfl, r1, by omega, by omega, by omega, fun v H2 e2 r2 hv => ?_⟩
      have l2 := e2.wds l1
      (repeat (first | refine ⟨_, rfl, ?_⟩ | refine ⟨rfl, ?_⟩ | refine ⟨_, _, rfl, rfl, ?_⟩ | refine ⟨_, _, rfl, ?_⟩ | refine ⟨hz, ?_⟩ | refine ⟨(show 3 ≤ sizeLine by decide), ?_⟩ | refine ⟨(show 2 ≤ sizeLine by decide), ?_⟩ | refine ⟨by decide +kernel, ?_⟩ | refine ⟨.inl ⟨by decide, by decide⟩, ?_⟩ | refine ⟨(by show (0 : Int) < _; omega), ?_⟩ | refine ⟨⟨by omega, by omega⟩, ?_⟩ | refine .inl ⟨_, rfl, sz (by simp only [*, p110, p101, sM, sE, s1, s0, s110, s101, txt_cat, txt_len, cut_to, cut_from, cut_init, List.length_append, List.length_cons, List.length_nil, List.length_take, List.length_drop, List.length_dropLast, List.length_reverse]; omega), ?_⟩ | refine ⟨sz (by simp only [*, p110, p101, sM, sE, s1, s0, s110, s101, txt_cat, txt_len, cut_to, cut_from, cut_init, List.length_append, List.length_cons, List.length_nil, List.length_take, List.length_drop, List.length_dropLast, List.length_reverse]; omega), ?_⟩))
      refine ⟨r, c, m + 50 * i + 1, v, rfl, r2, by omega, by omega, fun x H3 e3 r3 hx => ?_⟩
      have l3 := e3.wds l2
      have hxl := hx.1
      (repeat (first | refine ⟨_, rfl, ?_⟩ | refine ⟨rfl, ?_⟩ | refine ⟨_, _, rfl, rfl, ?_⟩ | refine ⟨_, _, rfl, ?_⟩ | refine ⟨hz, ?_⟩ | refine ⟨(show 3 ≤ sizeLine by decide), ?_⟩ | refine ⟨(show 2 ≤ sizeLine by decide), ?_⟩ | refine ⟨by decide +kernel, ?_⟩ | refine ⟨.inl ⟨by decide, by decide⟩, ?_⟩ | refine ⟨(by show (0 : Int) < _; omega), ?_⟩ | refine ⟨⟨by omega, by omega⟩, ?_⟩ | refine .inl ⟨_, rfl, sz (by simp only [*, p110, p101, sM, sE, s1, s0, s110, s101, txt_cat, txt_len, cut_to, cut_from, cut_init, List.length_append, List.length_cons, List.length_nil, List.length_take, List.length_drop, List.length_dropLast, List.length_reverse]; omega), ?_⟩ | refine ⟨sz (by simp only [*, p110, p101, sM, sE, s1, s0, s110, s101, txt_cat, txt_len, cut_to, cut_from, cut_init, List.length_append, List.length_cons, List.length_nil, List.length_take, List.length_drop, List.length_dropLast, List.length_reverse]; omega), ?_⟩))
      refine ⟨r, c, m + 50 * i + 1 + 2 * v, n - 2 - v, by rw [show (((n - 2 - v : Nat)) : Int) = (n : Nat) - 2 - (v : Nat) by omega]; rfl, r3, by omega, by omega, fun y H4 e4 r4 hy => ?_⟩
      have l4 := e4.wds l3
      have hyl := hy.1
      have hu : PuOk n (p110 ++ x ++ [false] ++ y) := hx.pull hy (by omega) (by omega)
      have e14 := ((e1.trans e2).trans e3).trans e4
      (repeat (first | refine ⟨_, rfl, ?_⟩ | refine ⟨rfl, ?_⟩ | refine ⟨_, _, rfl, rfl, ?_⟩ | refine ⟨_, _, rfl, ?_⟩ | refine ⟨hz, ?_⟩ | refine ⟨(show 3 ≤ sizeLine by decide), ?_⟩ | refine ⟨(show 2 ≤ sizeLine by decide), ?_⟩ | refine ⟨by decide +kernel, ?_⟩ | refine ⟨.inl ⟨by decide, by decide⟩, ?_⟩ | refine ⟨(by show (0 : Int) < _; omega), ?_⟩ | refine ⟨⟨by omega, by omega⟩, ?_⟩ | refine .inl ⟨_, rfl, sz (by simp only [*, p110, p101, sM, sE, s1, s0, s110, s101, txt_cat, txt_len, cut_to, cut_from, cut_init, List.length_append, List.length_cons, List.length_nil, List.length_take, List.length_drop, List.length_dropLast, List.length_reverse]; omega), ?_⟩ | refine ⟨sz (by simp only [*, p110, p101, sM, sE, s1, s0, s110, s101, txt_cat, txt_len, cut_to, cut_from, cut_init, List.length_append, List.length_cons, List.length_nil, List.length_take, List.length_drop, List.length_dropLast, List.length_reverse]; omega), ?_⟩))
      rw [s110, s0, txt_cat, txt_cat, txt_cat]
      generalize p110 ++ x ++ [false] ++ y = z at hu ⊢
      (repeat (first | refine ⟨_, rfl, ?_⟩ | refine ⟨rfl, ?_⟩ | refine ⟨_, _, rfl, rfl, ?_⟩ | refine ⟨_, _, rfl, ?_⟩ | refine ⟨hz, ?_⟩ | refine ⟨(show 3 ≤ sizeLine by decide), ?_⟩ | refine ⟨(show 2 ≤ sizeLine by decide), ?_⟩ | refine ⟨by decide +kernel, ?_⟩ | refine ⟨.inl ⟨by decide, by decide⟩, ?_⟩ | refine ⟨(by show (0 : Int) < _; omega), ?_⟩ | refine ⟨⟨by omega, by omega⟩, ?_⟩ | refine .inl ⟨_, rfl, sz (by simp only [*, p110, p101, sM, sE, s1, s0, s110, s101, txt_cat, txt_len, cut_to, cut_from, cut_init, List.length_append, List.length_cons, List.length_nil, List.length_take, List.length_drop, List.length_dropLast, List.length_reverse]; omega), ?_⟩ | refine ⟨sz (by simp only [*, p110, p101, sM, sE, s1, s0, s110, s101, txt_cat, txt_len, cut_to, cut_from, cut_init, List.length_append, List.length_cons, List.length_nil, List.length_take, List.length_drop, List.length_dropLast, List.length_reverse]; omega), ?_⟩))
      refine ⟨L, wds ws, rfl, .inl (.inl (.inl l4)), rfl, flat_wds ws, _, rfl, ?_⟩
      rw [inV_wds]
      have r5 := r4.le (show m + 50 * i + 1 + 2 * v + 2 * (n - 2 - v) ≤ m + 50 * (i + 1) by omega)
      by_cases cz : z ∈ ws
      · rw [decide_eq_true cz]
        exact ⟨ws, _, _, _, hw, by omega, by omega, rfl, e14, r5, l4⟩
      · rw [decide_eq_false cz]
        (repeat (first | refine ⟨_, rfl, ?_⟩ | refine ⟨rfl, ?_⟩ | refine ⟨_, _, rfl, rfl, ?_⟩ | refine ⟨_, _, rfl, ?_⟩ | refine ⟨hz, ?_⟩ | refine ⟨(show 3 ≤ sizeLine by decide), ?_⟩ | refine ⟨(show 2 ≤ sizeLine by decide), ?_⟩ | refine ⟨by decide +kernel, ?_⟩ | refine ⟨.inl ⟨by decide, by decide⟩, ?_⟩ | refine ⟨(by show (0 : Int) < _; omega), ?_⟩ | refine ⟨⟨by omega, by omega⟩, ?_⟩ | refine .inl ⟨_, rfl, sz (by simp only [*, p110, p101, sM, sE, s1, s0, s110, s101, txt_cat, txt_len, cut_to, cut_from, cut_init, List.length_append, List.length_cons, List.length_nil, List.length_take, List.length_drop, List.length_dropLast, List.length_reverse]; omega), ?_⟩ | refine ⟨sz (by simp only [*, p110, p101, sM, sE, s1, s0, s110, s101, txt_cat, txt_len, cut_to, cut_from, cut_init, List.length_append, List.length_cons, List.length_nil, List.length_take, List.length_drop, List.length_dropLast, List.length_reverse]; omega), ?_⟩))
        refine ⟨.inl ⟨rfl, _, .inl (.inl l4)⟩, ?_⟩
        (repeat (first | refine ⟨_, rfl, ?_⟩ | refine ⟨rfl, ?_⟩ | refine ⟨_, _, rfl, rfl, ?_⟩ | refine ⟨_, _, rfl, ?_⟩ | refine ⟨hz, ?_⟩ | refine ⟨(show 3 ≤ sizeLine by decide), ?_⟩ | refine ⟨(show 2 ≤ sizeLine by decide), ?_⟩ | refine ⟨by decide +kernel, ?_⟩ | refine ⟨.inl ⟨by decide, by decide⟩, ?_⟩ | refine ⟨(by show (0 : Int) < _; omega), ?_⟩ | refine ⟨⟨by omega, by omega⟩, ?_⟩ | refine .inl ⟨_, rfl, sz (by simp only [*, p110, p101, sM, sE, s1, s0, s110, s101, txt_cat, txt_len, cut_to, cut_from, cut_init, List.length_append, List.length_cons, List.length_nil, List.length_take, List.length_drop, List.length_dropLast, List.length_reverse]; omega), ?_⟩ | refine ⟨sz (by simp only [*, p110, p101, sM, sE, s1, s0, s110, s101, txt_cat, txt_len, cut_to, cut_from, cut_init, List.length_append, List.length_cons, List.length_nil, List.length_take, List.length_drop, List.length_dropLast, List.length_reverse]; omega), ?_⟩))
        refine ⟨L, _, _, rfl, rfl, l4, ?_, ?_⟩
        · unfold wds
          rw [List.length_map]
          exact Nat.lt_of_le_of_lt (show ws.length ≤ 200 by omega) (by decide)
        refine ⟨ws ++ [z], _, _, _, hw.snoc hu cz (by omega), by rw [List.length_append]; show ws.length + 1 ≤ i + 1; omega, by omega, rfl, e14.mutL hL l4 _, r5.upd nr.1 nr.2, ?_⟩
        rw [upd_same]
        unfold wds
        rw [List.map_append]
        rfl
    · obtain ⟨ws, a4, a5, a6, hw, hwl, hik, rfl, e1, r1, l1⟩ := hp
      exact ⟨_, rfl, hQ L ws H1 e1 hL l1 (r1.le (by omega)) hw (by omega)⟩
def N_law_end : List Str := ["_law_word_here", "_law_deep", "_law_at", "_law_sign"]
theorem sc_law_end : FnScope N_law_end ["_law_word_here"] (defScope s_law_end) := ⟨rfl, rfl, rfl, by decide +kernel, rfl, by decide +kernel, by decide +kernel⟩
def sp_lend (K : PySem.W.Frag) : Sp := fun vs H Q _ => ∃ (x : W) (i : Nat), vs = [.str (txt x)] ∧ fpA 0 x 0 = some i ∧ x.length ≤ 1000 ∧ Gives K (.int (i : Nat)) H Q
theorem c_law_end (T : Tx K mg) : Cl Pg w K mg base 1 "_law_end" (sp_lend K) :=
  calD T.g_law_end T.f_law_end sc_law_end (fun _ _ _ _ _ _ us hl => match us, hl with | [_], _ => rfl) (fun vs H Q E h => by obtain ⟨i, _, rfl, _⟩ := h; rfl) fun cdv A outer st H vs Q E hr h => by
    obtain ⟨x, i0, rfl, hx0, hx, hQ⟩ := h
    have hz : (txt x).length ≤ sizeLine := sz (by rw [txt_len]; omega)
    refine ⟨_, (pss_cons (ps_set (i := 1) sc_law_end.nd rfl (Or.inl rfl) pe_int)
      (pss_cons (ps_for PassesOwn.never rfl (pi_enumS (by rfl) T.n_enumerate (pa_cons (pv 0) pa_nil)) (pg_tup rfl (pgs_cons (pg_name (i := 2) sc_law_end.nd rfl (Or.inl rfl)) (pgs_cons (pg_name (i := 3) sc_law_end.nd rfl (Or.inl rfl)) pgs_nil))) (pss_cons (ps_set (i := 1) sc_law_end.nd rfl (Or.inl rfl) (pe_ifExp (pt_cmpR op_eq (pv 3) pe_str (nomark _)) (pe_op op_add (pv 1) pe_int) (pe_op op_sub (pv 1) pe_int)))
      (pss_one (ps_if (pt_cmpR op_eq (pv 1) pe_int (nomark _)) (pss_one (ps_ret (pv 2))) pss_nil))))
      (pss_one (ps_ret (pe_callB call_len_str (by rfl) T.n_len PySem.boot_len (pa_cons (pv 0) pa_nil)))))), ?_⟩
    refine ⟨_, rfl, _, rfl, for_enumT (fun i σ H' => ∃ d a s, fpA 0 x 0 = fpA d (x.drop i) i ∧ σ = [some (.str (txt x)), some (.int d), a, s] ∧ Ex K H H') ⟨0, none, none, rfl, rfl, .refl⟩ (fun i b t σ H' hb hp ht => ?_) fun σ H' hp => ?_⟩
    · obtain ⟨d, a, s, hd, rfl, he⟩ := hp
      rw [drop_at hb, fpA_cons] at hd
      have he2 := he.trans (Ex.new (o := .tup [.int (i : Nat), .str (txt [b])]) ht)
      refine ⟨t, _, rfl, .inl (.inl upd_same), rfl, _, _, rfl, _, _, rfl, rfl, ?_⟩
      refine ⟨_, rfl, rfl, _, rfl, ?_⟩
      rw [s1, txt_dec]
      cases b with
      | true =>
        refine ⟨_, rfl, _, _, rfl, rfl, _, rfl, rfl, _, rfl, ?_⟩
        by_cases c : stp d true = 0
        · rw [if_pos c, hx0] at hd
          cases hd
          exact dT (congrArg V.int c) ⟨_, rfl, hQ _ he2⟩
        · rw [if_neg c] at hd
          exact dF (fun z => c (V.int.inj z)) ⟨_, _, _, hd, rfl, he2⟩
      | false =>
        refine ⟨_, rfl, _, _, rfl, rfl, _, rfl, rfl, _, rfl, ?_⟩
        by_cases c : stp d false = 0
        · rw [if_pos c, hx0] at hd
          cases hd
          exact dT (congrArg V.int c) ⟨_, rfl, hQ _ he2⟩
        · rw [if_neg c] at hd
          exact dF (fun z => c (V.int.inj z)) ⟨_, _, _, hd, rfl, he2⟩
    · obtain ⟨d, a, s, hd, rfl, he⟩ := hp
      rw [List.drop_length, hx0] at hd
      cases hd
def N_law_turned : List Str := ["_law_word_here", "_law_at"]
theorem sc_law_turned : FnScope N_law_turned ["_law_word_here"] (defScope s_law_turned) := ⟨rfl, rfl, rfl, by decide +kernel, rfl, by decide +kernel, by decide +kernel⟩
def sp_lturned (K : PySem.W.Frag) : Sp := fun vs H Q _ => ∃ (x : W) (i : Nat), vs = [.str (txt x)] ∧ fpA 0 x 0 = some i ∧ x.length ≤ 1000 ∧ Gives K (.str (txt (turn x))) H Q
theorem c_law_turned (T : Tx K mg) : Cl Pg w K mg base 2 "_law_turned" (sp_lturned K) :=
  have c_law_end := c_law_end (Pg := Pg) (w := w) (base := base) T
  calD T.g_law_turned T.f_law_turned sc_law_turned (fun _ _ _ _ _ _ us hl => match us, hl with | [_], _ => rfl) (fun vs H Q E h => by obtain ⟨i, _, rfl, _⟩ := h; rfl) fun cdv A outer st H vs Q E hr h => by
    obtain ⟨x, i, rfl, hx0, hx, hQ⟩ := h
    have hz : (txt x).length ≤ sizeLine := sz (by rw [txt_len]; omega)
    refine ⟨_, (pss_cons (ps_set (i := 1) sc_law_turned.nd rfl (Or.inl rfl) (C8.pe_c c_law_end hr (by decide) (by rfl) (pa_cons (pv 0) pa_nil)))
      (pss_one (ps_ret (pe_op op_add_str (pe_op op_add_str (pe_op op_add_str (pe_slice sl_str (pv 0) (po_some pe_int) (po_some (pv 1))) pe_str) (pe_slice sl_str (pv 0) (po_some (pe_op op_add (pv 1) pe_int)) po_none)) pe_str)))), ?_⟩
    refine ⟨_, rfl, x, i, rfl, hx0, hx, fun H1 e1 => ?_⟩
    obtain ⟨hi0, hi1⟩ := fpA_lt hx0
    have c1 : cutS (txt x) (some 1) (some ((i : Nat) : Int)) = txt ((x.take i).drop 1) := cut_ab x 1 i
    have c2 : cutS (txt x) (some (((i : Nat) : Int) + 1)) none = txt (x.drop (i + 1)) := cut_from x (i + 1)
    (repeat (first | refine ⟨_, rfl, ?_⟩ | refine ⟨rfl, ?_⟩ | refine ⟨_, _, rfl, rfl, ?_⟩ | refine ⟨_, _, rfl, ?_⟩ | refine ⟨hz, ?_⟩ | refine ⟨(show 3 ≤ sizeLine by decide), ?_⟩ | refine ⟨(show 2 ≤ sizeLine by decide), ?_⟩ | refine ⟨by decide +kernel, ?_⟩ | refine ⟨.inl ⟨by decide, by decide⟩, ?_⟩ | refine ⟨(by show (0 : Int) < _; omega), ?_⟩ | refine ⟨⟨by omega, by omega⟩, ?_⟩ | refine .inl ⟨_, rfl, sz (by simp only [*, p110, p101, sM, sE, s1, s0, s110, s101, txt_cat, txt_len, cut_to, cut_from, cut_init, List.length_append, List.length_cons, List.length_nil, List.length_take, List.length_drop, List.length_dropLast, List.length_reverse]; omega), ?_⟩ | refine ⟨sz (by simp only [*, p110, p101, sM, sE, s1, s0, s110, s101, txt_cat, txt_len, cut_to, cut_from, cut_init, List.length_append, List.length_cons, List.length_nil, List.length_take, List.length_drop, List.length_dropLast, List.length_reverse]; omega), ?_⟩))
    have e : cutS (txt x) (some 1) (some ((i : Nat) : Int)) ++ "1" ++ cutS (txt x) (some (((i : Nat) : Int) + 1)) none ++ "0" = txt (turn x) := by
      rw [c1, c2, s1, s0, txt_cat, txt_cat, txt_cat]
      unfold turn first
      rw [hx0]
      simp
    show Q (.str (cutS (txt x) (some 1) (some ((i : Nat) : Int)) ++ "1" ++ cutS (txt x) (some (((i : Nat) : Int) + 1)) none ++ "0")) H1
    rw [e]
    exact hQ H1 e1
end
end EH

set_option Elab.async false
set_option linter.all false
set_option maxRecDepth 100000
set_option maxHeartbeats 4000000
namespace EH
open PySem PySem.Spec PyProof.Rows L2 LamX EL EM
theorem cut3 (x : W) : cutS (txt x) none (some 3) = txt (x.take 3) := cut_to x 3
theorem cut3f (x : W) : cutS (txt x) (some 3) none = txt (x.drop 3) := cut_from x 3
theorem count_txt (x : W) : Txt.count (txt x) "1" = (ones x : Nat) := by
  have e : ("1" : Str) = ⟨#[49]⟩ := by decide +kernel
  rw [e]
  refine (PyProof.Rows.count_is (txt x) 49).trans ?_
  show PyProof.Rows.cnt 49 (txt x).cps.toList = _
  rw [txt_list]
  unfold ones
  induction x with
  | nil => rfl
  | cons a r ih =>
    rw [List.map_cons, PyProof.Rows.cnt_cons, ih, List.count_cons]
    cases a
    · show (if 48 = 49 then (1 : Int) else 0) + _ = _
      simp
    · show (if 49 = 49 then (1 : Int) else 0) + _ = _
      simp
      omega
theorem stateIn_eq {x : W} {s : Nat} {u : Bool} (h : s ≤ x.length) : stateIn (x, s, u) = (x ++ [u]).drop ((-(s : Int)) % ((x ++ [u]).length : Nat)).toNat ++ (x ++ [u]).take ((-(s : Int)) % ((x ++ [u]).length : Nat)).toNat := by
  have hl : (x ++ [u]).length = x.length + 1 := by simp
  unfold stateIn moved
  show (x ++ [u]).drop ((x ++ [u]).length - (((s : Nat) : Int) % ((x ++ [u]).length : Nat)).toNat) ++ (x ++ [u]).take ((x ++ [u]).length - (((s : Nat) : Int) % ((x ++ [u]).length : Nat)).toNat) = _
  have h1 : (((s : Nat) : Int) % ((x ++ [u]).length : Nat)).toNat = s := by
    rw [Int.emod_eq_of_lt (by omega) (by omega)]
    rfl
  rw [h1]
  by_cases c : s = 0
  · subst c
    have h2 : ((-((0 : Nat) : Int)) % ((x ++ [u]).length : Nat)).toNat = 0 := by simp
    rw [h2, Nat.sub_zero, List.drop_length, List.take_length, List.drop_zero, List.take_zero, List.nil_append, List.append_nil]
  · have h2 : ((-((s : Nat) : Int)) % ((x ++ [u]).length : Nat)).toNat = (x ++ [u]).length - s := by
      have : (-((s : Nat) : Int)) % ((x ++ [u]).length : Nat) = ((x ++ [u]).length : Nat) - (s : Nat) := by
        rw [← Int.add_emod_right, Int.emod_eq_of_lt (by omega) (by omega)]
        omega
      rw [this]
      omega
    rw [h2]
theorem dsp : mergeK [] [((.inr "110" : Key), V.str "101"), ((.inr "101" : Key), V.str "110")] = [((.inr (txt p110) : Key), V.str (txt p101)), ((.inr (txt p101) : Key), V.str (txt p110))] := by
  rw [s110, s101]
  show putK [((.inr (txt p110) : Key), V.str (txt p101))] (.inr (txt p101) : Key) (V.str (txt p110)) = _
  unfold putK
  rw [if_neg]
  · rfl
  · show ¬ (decide ((.inr (txt p110) : Key) = .inr (txt p101)) || false) = true
    rw [decide_eq_false fun z => by have := txt_inj (Sum.inr.inj z); revert this; decide]
    decide
def dsK : List (Key × V) := [((.inr (txt p110) : Key), V.str (txt p101)), ((.inr (txt p101) : Key), V.str (txt p110))]
theorem ds110 : valV dsK (.inr (txt p110) : Key) = some (.str (txt p101)) := valV_pos rfl
theorem ds101 : valV dsK (.inr (txt p101) : Key) = some (.str (txt p110)) := by
  unfold dsK
  rw [valV_neg (fun z => by have := txt_inj (Sum.inr.inj z); revert this; decide), valV_pos rfl]
theorem dsNo {x : W} (h1 : x ≠ p110) (h2 : x ≠ p101) : valV dsK (.inr (txt x) : Key) = none := by
  unfold dsK
  rw [valV_neg (fun z => h1 (txt_inj (Sum.inr.inj z)).symm), valV_neg (fun z => h2 (txt_inj (Sum.inr.inj z)).symm)]
  rfl
def grow (n i : Nat) : List W := it (fun l => l.flatMap (longer n)) i [[]]
theorem longer_len {n : Nat} {x y : W} (h : y ∈ longer n x) : y.length = x.length + 1 := by
  unfold longer at h
  rcases List.mem_append.mp h with q | q
  · split at q
    · rw [List.mem_singleton.mp q]; simp
    · cases q
  · split at q
    · rw [List.mem_singleton.mp q]; simp
    · cases q
theorem grow_len (n : Nat) : ∀ i, ∀ x ∈ grow n i, x.length = i
  | 0, x, h => by rw [List.mem_singleton.mp h]; rfl
  | i + 1, x, h => by
    obtain ⟨y, hy, hx⟩ := List.mem_flatMap.mp (show x ∈ (grow n i).flatMap (longer n) from h)
    rw [longer_len hx, grow_len n i y hy]
theorem longer_le (n : Nat) (x : W) : (longer n x).length ≤ 2 := by
  unfold longer
  rw [List.length_append]
  have h1 : ∀ {p : Prop} [Decidable p] {y : W}, (if p then [y] else []).length ≤ 1 := by
    intro p _ y
    split <;> simp
  have := h1 (p := x.length < 2 * ones x) (y := x ++ [false])
  have := h1 (p := ones x < n) (y := x ++ [true])
  omega
theorem flat_le (n : Nat) (l : List W) : (l.flatMap (longer n)).length ≤ 2 * l.length := by
  induction l with
  | nil => exact Nat.le_refl _
  | cons a r ih =>
    rw [List.flatMap_cons, List.length_append, List.length_cons]
    have := longer_le n a
    omega
theorem grow_le (n : Nat) : ∀ i, (grow n i).length ≤ 2 ^ i
  | 0 => Nat.le_refl _
  | i + 1 => by
    have h := flat_le n (grow n i)
    have := grow_le n i
    show ((grow n i).flatMap (longer n)).length ≤ _
    rw [Nat.pow_succ]
    omega
section
variable {Pg : Program} {w : World} {K : PySem.W.Frag} {mg : Str → Option Value} {base : Heap}
def N_law_swapped : List Str := ["_law_words", "_law_word_here", "_law_other"]
theorem sc_law_swapped : FnScope N_law_swapped ["_law_words", "_law_word_here"] (defScope s_law_swapped) := ⟨rfl, rfl, rfl, by decide +kernel, rfl, by decide +kernel, by decide +kernel⟩
def sp_lswapped (K : PySem.W.Frag) : Sp := fun vs H Q _ => ∃ (a : Addr) (ws : List W) (x : W), vs = [.ref a, .str (txt x)] ∧ H a = some (.lst (wds ws)) ∧ (∀ z ∈ ws, z.take 3 = p110) ∧ x.length ≤ 1000 ∧ Gives K (.str (txt (swapped (Bm ws) x))) H Q
theorem c_law_swapped (T : Tx K mg) : Cl Pg w K mg base 1 "_law_swapped" (sp_lswapped K) :=
  calD T.g_law_swapped T.f_law_swapped sc_law_swapped (fun _ _ _ _ _ _ us hl => match us, hl with | [_, _], _ => rfl) (fun vs H Q E h => by obtain ⟨i, _, _, rfl, _⟩ := h; rfl) fun cdv A outer st H vs Q E hr h => by
    obtain ⟨a, ws, x, rfl, ha, hw, hx, hQ⟩ := h
    have hz : (txt x).length ≤ sizeLine := sz (by rw [txt_len]; omega)
    refine ⟨_, (pss_cons (ps_set (i := 2) sc_law_swapped.nd rfl (Or.inl rfl) (pe_op op_add_str (pe_dget2 (hu_of hr) (pe_disp (pps_cons pe_str pe_str (pps_cons pe_str pe_str pps_nil)) (by rfl) (by rfl) (fun z => by cases z) (by decide)) (pe_slice sl_str (pv 1) po_none (po_some pe_int)) (pe_slice sl_str (pv 1) po_none (po_some pe_int)) ⟨rfl, rfl, rfl, rfl⟩) (pe_slice sl_str (pv 1) (po_some pe_int) po_none)))
      (pss_one (ps_ret (pe_ifExp (PW.pt (pw_or (pt_cmpR op_in_seq (pv 1) (pv 0) (by rfl)) (pw_or1 (PW.pt (pw_and (pt_cmpR op_eq (pe_slice sl_str (pv 1) po_none (po_some pe_int)) pe_str (nomark _)) (pw_and1 (pt_cmpR op_in_seq (pv 2) (pv 0) (by rfl)))))))) (pv 2) (pv 1))))), ?_⟩
    show ∀ p : Addr, H p = none → _
    intro p hp
    have e1 : Ex K H (upd (upd H p (.dK [])) p (.dK (mergeK [] [((.inr "110" : Key), V.str "101"), ((.inr "101" : Key), V.str "110")]))) := (Ex.new hp).mutD hp upd_same _
    have d1 : (upd (upd H p (.dK [])) p (.dK (mergeK [] [((.inr "110" : Key), V.str "101"), ((.inr "101" : Key), V.str "110")]))) p = some (.dK (mergeK [] [((.inr "110" : Key), V.str "101"), ((.inr "101" : Key), V.str "110")])) := upd_same
    refine ⟨upd_same, [((.inr "110" : Key), V.str "101"), ((.inr "101" : Key), V.str "110")], rfl, by decide, ?_⟩
    generalize upd (upd H p (.dK [])) p (.dK (mergeK [] [((.inr "110" : Key), V.str "101"), ((.inr "101" : Key), V.str "110")])) = H1 at e1 d1 ⊢
    have ha1 := e1.lst ha
    refine ⟨p, rfl, .inl ⟨_, .inl d1⟩, ?_⟩
    (repeat (first | refine ⟨_, rfl, ?_⟩ | refine ⟨rfl, ?_⟩ | refine ⟨_, _, rfl, rfl, ?_⟩ | refine ⟨_, _, rfl, ?_⟩ | refine ⟨hz, ?_⟩ | refine ⟨(show 3 ≤ sizeLine by decide), ?_⟩ | refine ⟨(show 2 ≤ sizeLine by decide), ?_⟩ | refine ⟨by decide +kernel, ?_⟩ | refine ⟨.inl ⟨by decide, by decide⟩, ?_⟩ | refine ⟨(by show (0 : Int) < _; omega), ?_⟩ | refine ⟨⟨by omega, by omega⟩, ?_⟩ | refine .inl ⟨_, rfl, sz (by simp only [*, p110, p101, sM, sE, s1, s0, s110, s101, txt_cat, txt_len, cut_to, cut_from, cut_init, List.length_append, List.length_cons, List.length_nil, List.length_take, List.length_drop, List.length_dropLast, List.length_reverse]; omega), ?_⟩ | refine ⟨sz (by simp only [*, p110, p101, sM, sE, s1, s0, s110, s101, txt_cat, txt_len, cut_to, cut_from, cut_init, List.length_append, List.length_cons, List.length_nil, List.length_take, List.length_drop, List.length_dropLast, List.length_reverse]; omega), ?_⟩))
    rw [cut3]
    have q := hQ H1 e1
    rw [dsp] at d1
    have hin : inV (.str (txt x)) (wds ws) = decide (x ∈ ws) := inV_wds x ws
    have hg : DGet H1 p (.str (txt (x.take 3))) (valV dsK (.inr (txt (x.take 3)) : Key)) := DGet.k (k := Sum.inr (txt (x.take 3))) d1
    refine ⟨_, hg, ?_⟩
    have l3 : (x.take 3).length ≤ 3 := by rw [List.length_take]; omega
    by_cases c1 : x.take 3 = p110
    · rw [c1, ds110]
      (repeat (first | refine ⟨_, rfl, ?_⟩ | refine ⟨rfl, ?_⟩ | refine ⟨_, _, rfl, rfl, ?_⟩ | refine ⟨_, _, rfl, ?_⟩ | refine ⟨hz, ?_⟩ | refine ⟨(show 3 ≤ sizeLine by decide), ?_⟩ | refine ⟨(show 2 ≤ sizeLine by decide), ?_⟩ | refine ⟨by decide +kernel, ?_⟩ | refine ⟨.inl ⟨by decide, by decide⟩, ?_⟩ | refine ⟨(by show (0 : Int) < _; omega), ?_⟩ | refine ⟨⟨by omega, by omega⟩, ?_⟩ | refine .inl ⟨_, rfl, sz (by simp only [*, p110, p101, sM, sE, s1, s0, s110, s101, txt_cat, txt_len, cut_to, cut_from, cut_init, List.length_append, List.length_cons, List.length_nil, List.length_take, List.length_drop, List.length_dropLast, List.length_reverse]; omega), ?_⟩ | refine ⟨sz (by simp only [*, p110, p101, sM, sE, s1, s0, s110, s101, txt_cat, txt_len, cut_to, cut_from, cut_init, List.length_append, List.length_cons, List.length_nil, List.length_take, List.length_drop, List.length_dropLast, List.length_reverse]; omega), ?_⟩))
      rw [cut3f, txt_cat]
      refine ⟨sz (by rw [txt_len, txt_len, List.length_drop]; show 3 + _ ≤ _; omega), ?_⟩
      (repeat (first | refine ⟨_, rfl, ?_⟩ | refine ⟨rfl, ?_⟩ | refine ⟨_, _, rfl, rfl, ?_⟩ | refine ⟨_, _, rfl, ?_⟩ | refine ⟨hz, ?_⟩ | refine ⟨(show 3 ≤ sizeLine by decide), ?_⟩ | refine ⟨(show 2 ≤ sizeLine by decide), ?_⟩ | refine ⟨by decide +kernel, ?_⟩ | refine ⟨.inl ⟨by decide, by decide⟩, ?_⟩ | refine ⟨(by show (0 : Int) < _; omega), ?_⟩ | refine ⟨⟨by omega, by omega⟩, ?_⟩ | refine .inl ⟨_, rfl, sz (by simp only [*, p110, p101, sM, sE, s1, s0, s110, s101, txt_cat, txt_len, cut_to, cut_from, cut_init, List.length_append, List.length_cons, List.length_nil, List.length_take, List.length_drop, List.length_dropLast, List.length_reverse]; omega), ?_⟩ | refine ⟨sz (by simp only [*, p110, p101, sM, sE, s1, s0, s110, s101, txt_cat, txt_len, cut_to, cut_from, cut_init, List.length_append, List.length_cons, List.length_nil, List.length_take, List.length_drop, List.length_dropLast, List.length_reverse]; omega), ?_⟩))
      refine ⟨a, wds ws, rfl, .inl (.inl (.inl ha1)), rfl, flat_wds ws, inV (.str (txt x)) (wds ws), rfl, ?_⟩
      rw [hin]
      by_cases cx : x ∈ ws
      · rw [decide_eq_true cx]
        (repeat (first | refine ⟨_, rfl, ?_⟩ | refine ⟨rfl, ?_⟩ | refine ⟨_, _, rfl, rfl, ?_⟩ | refine ⟨_, _, rfl, ?_⟩ | refine ⟨hz, ?_⟩ | refine ⟨(show 3 ≤ sizeLine by decide), ?_⟩ | refine ⟨(show 2 ≤ sizeLine by decide), ?_⟩ | refine ⟨by decide +kernel, ?_⟩ | refine ⟨.inl ⟨by decide, by decide⟩, ?_⟩ | refine ⟨(by show (0 : Int) < _; omega), ?_⟩ | refine ⟨⟨by omega, by omega⟩, ?_⟩ | refine .inl ⟨_, rfl, sz (by simp only [*, p110, p101, sM, sE, s1, s0, s110, s101, txt_cat, txt_len, cut_to, cut_from, cut_init, List.length_append, List.length_cons, List.length_nil, List.length_take, List.length_drop, List.length_dropLast, List.length_reverse]; omega), ?_⟩ | refine ⟨sz (by simp only [*, p110, p101, sM, sE, s1, s0, s110, s101, txt_cat, txt_len, cut_to, cut_from, cut_init, List.length_append, List.length_cons, List.length_nil, List.length_take, List.length_drop, List.length_dropLast, List.length_reverse]; omega), ?_⟩))
        have e : swapped (Bm ws) x = pulled x := by unfold swapped; rw [if_pos (decide_eq_true cx)]
        rw [e] at q
        exact q
      · rw [decide_eq_false cx]
        (repeat (first | refine ⟨_, rfl, ?_⟩ | refine ⟨rfl, ?_⟩ | refine ⟨_, _, rfl, rfl, ?_⟩ | refine ⟨_, _, rfl, ?_⟩ | refine ⟨hz, ?_⟩ | refine ⟨(show 3 ≤ sizeLine by decide), ?_⟩ | refine ⟨(show 2 ≤ sizeLine by decide), ?_⟩ | refine ⟨by decide +kernel, ?_⟩ | refine ⟨.inl ⟨by decide, by decide⟩, ?_⟩ | refine ⟨(by show (0 : Int) < _; omega), ?_⟩ | refine ⟨⟨by omega, by omega⟩, ?_⟩ | refine .inl ⟨_, rfl, sz (by simp only [*, p110, p101, sM, sE, s1, s0, s110, s101, txt_cat, txt_len, cut_to, cut_from, cut_init, List.length_append, List.length_cons, List.length_nil, List.length_take, List.length_drop, List.length_dropLast, List.length_reverse]; omega), ?_⟩ | refine ⟨sz (by simp only [*, p110, p101, sM, sE, s1, s0, s110, s101, txt_cat, txt_len, cut_to, cut_from, cut_init, List.length_append, List.length_cons, List.length_nil, List.length_take, List.length_drop, List.length_dropLast, List.length_reverse]; omega), ?_⟩))
        rw [cut3, s101, txt_dec, decide_eq_false (fun z => by rw [c1] at z; revert z; decide)]
        (repeat (first | refine ⟨_, rfl, ?_⟩ | refine ⟨rfl, ?_⟩ | refine ⟨_, _, rfl, rfl, ?_⟩ | refine ⟨_, _, rfl, ?_⟩ | refine ⟨hz, ?_⟩ | refine ⟨(show 3 ≤ sizeLine by decide), ?_⟩ | refine ⟨(show 2 ≤ sizeLine by decide), ?_⟩ | refine ⟨by decide +kernel, ?_⟩ | refine ⟨.inl ⟨by decide, by decide⟩, ?_⟩ | refine ⟨(by show (0 : Int) < _; omega), ?_⟩ | refine ⟨⟨by omega, by omega⟩, ?_⟩ | refine .inl ⟨_, rfl, sz (by simp only [*, p110, p101, sM, sE, s1, s0, s110, s101, txt_cat, txt_len, cut_to, cut_from, cut_init, List.length_append, List.length_cons, List.length_nil, List.length_take, List.length_drop, List.length_dropLast, List.length_reverse]; omega), ?_⟩ | refine ⟨sz (by simp only [*, p110, p101, sM, sE, s1, s0, s110, s101, txt_cat, txt_len, cut_to, cut_from, cut_init, List.length_append, List.length_cons, List.length_nil, List.length_take, List.length_drop, List.length_dropLast, List.length_reverse]; omega), ?_⟩))
        have e : swapped (Bm ws) x = x := by
          unfold swapped EM.under
          rw [if_neg (BmF cx), if_neg (fun z => by rw [c1] at z; revert z; decide)]
        rw [e] at q
        exact q
    · have nx : x ∉ ws := fun z => c1 (hw x z)
      by_cases c2 : x.take 3 = p101
      · rw [c2, ds101]
        (repeat (first | refine ⟨_, rfl, ?_⟩ | refine ⟨rfl, ?_⟩ | refine ⟨_, _, rfl, rfl, ?_⟩ | refine ⟨_, _, rfl, ?_⟩ | refine ⟨hz, ?_⟩ | refine ⟨(show 3 ≤ sizeLine by decide), ?_⟩ | refine ⟨(show 2 ≤ sizeLine by decide), ?_⟩ | refine ⟨by decide +kernel, ?_⟩ | refine ⟨.inl ⟨by decide, by decide⟩, ?_⟩ | refine ⟨(by show (0 : Int) < _; omega), ?_⟩ | refine ⟨⟨by omega, by omega⟩, ?_⟩ | refine .inl ⟨_, rfl, sz (by simp only [*, p110, p101, sM, sE, s1, s0, s110, s101, txt_cat, txt_len, cut_to, cut_from, cut_init, List.length_append, List.length_cons, List.length_nil, List.length_take, List.length_drop, List.length_dropLast, List.length_reverse]; omega), ?_⟩ | refine ⟨sz (by simp only [*, p110, p101, sM, sE, s1, s0, s110, s101, txt_cat, txt_len, cut_to, cut_from, cut_init, List.length_append, List.length_cons, List.length_nil, List.length_take, List.length_drop, List.length_dropLast, List.length_reverse]; omega), ?_⟩))
        rw [cut3f, txt_cat]
        refine ⟨sz (by rw [txt_len, txt_len, List.length_drop]; show 3 + _ ≤ _; omega), ?_⟩
        (repeat (first | refine ⟨_, rfl, ?_⟩ | refine ⟨rfl, ?_⟩ | refine ⟨_, _, rfl, rfl, ?_⟩ | refine ⟨_, _, rfl, ?_⟩ | refine ⟨hz, ?_⟩ | refine ⟨(show 3 ≤ sizeLine by decide), ?_⟩ | refine ⟨(show 2 ≤ sizeLine by decide), ?_⟩ | refine ⟨by decide +kernel, ?_⟩ | refine ⟨.inl ⟨by decide, by decide⟩, ?_⟩ | refine ⟨(by show (0 : Int) < _; omega), ?_⟩ | refine ⟨⟨by omega, by omega⟩, ?_⟩ | refine .inl ⟨_, rfl, sz (by simp only [*, p110, p101, sM, sE, s1, s0, s110, s101, txt_cat, txt_len, cut_to, cut_from, cut_init, List.length_append, List.length_cons, List.length_nil, List.length_take, List.length_drop, List.length_dropLast, List.length_reverse]; omega), ?_⟩ | refine ⟨sz (by simp only [*, p110, p101, sM, sE, s1, s0, s110, s101, txt_cat, txt_len, cut_to, cut_from, cut_init, List.length_append, List.length_cons, List.length_nil, List.length_take, List.length_drop, List.length_dropLast, List.length_reverse]; omega), ?_⟩))
        refine ⟨a, wds ws, rfl, .inl (.inl (.inl ha1)), rfl, flat_wds ws, inV (.str (txt x)) (wds ws), rfl, ?_⟩
        rw [hin, decide_eq_false nx]
        (repeat (first | refine ⟨_, rfl, ?_⟩ | refine ⟨rfl, ?_⟩ | refine ⟨_, _, rfl, rfl, ?_⟩ | refine ⟨_, _, rfl, ?_⟩ | refine ⟨hz, ?_⟩ | refine ⟨(show 3 ≤ sizeLine by decide), ?_⟩ | refine ⟨(show 2 ≤ sizeLine by decide), ?_⟩ | refine ⟨by decide +kernel, ?_⟩ | refine ⟨.inl ⟨by decide, by decide⟩, ?_⟩ | refine ⟨(by show (0 : Int) < _; omega), ?_⟩ | refine ⟨⟨by omega, by omega⟩, ?_⟩ | refine .inl ⟨_, rfl, sz (by simp only [*, p110, p101, sM, sE, s1, s0, s110, s101, txt_cat, txt_len, cut_to, cut_from, cut_init, List.length_append, List.length_cons, List.length_nil, List.length_take, List.length_drop, List.length_dropLast, List.length_reverse]; omega), ?_⟩ | refine ⟨sz (by simp only [*, p110, p101, sM, sE, s1, s0, s110, s101, txt_cat, txt_len, cut_to, cut_from, cut_init, List.length_append, List.length_cons, List.length_nil, List.length_take, List.length_drop, List.length_dropLast, List.length_reverse]; omega), ?_⟩))
        rw [cut3, s101, txt_dec, decide_eq_true c2]
        (repeat (first | refine ⟨_, rfl, ?_⟩ | refine ⟨rfl, ?_⟩ | refine ⟨_, _, rfl, rfl, ?_⟩ | refine ⟨_, _, rfl, ?_⟩ | refine ⟨hz, ?_⟩ | refine ⟨(show 3 ≤ sizeLine by decide), ?_⟩ | refine ⟨(show 2 ≤ sizeLine by decide), ?_⟩ | refine ⟨by decide +kernel, ?_⟩ | refine ⟨.inl ⟨by decide, by decide⟩, ?_⟩ | refine ⟨(by show (0 : Int) < _; omega), ?_⟩ | refine ⟨⟨by omega, by omega⟩, ?_⟩ | refine .inl ⟨_, rfl, sz (by simp only [*, p110, p101, sM, sE, s1, s0, s110, s101, txt_cat, txt_len, cut_to, cut_from, cut_init, List.length_append, List.length_cons, List.length_nil, List.length_take, List.length_drop, List.length_dropLast, List.length_reverse]; omega), ?_⟩ | refine ⟨sz (by simp only [*, p110, p101, sM, sE, s1, s0, s110, s101, txt_cat, txt_len, cut_to, cut_from, cut_init, List.length_append, List.length_cons, List.length_nil, List.length_take, List.length_drop, List.length_dropLast, List.length_reverse]; omega), ?_⟩))
        refine ⟨a, wds ws, rfl, .inl (.inl (.inl ha1)), rfl, flat_wds ws, inV (.str (txt (p110 ++ x.drop 3))) (wds ws), rfl, ?_⟩
        rw [inV_wds]
        have e0 : p110 ++ x.drop 3 = unpulled x := rfl
        rw [e0]
        by_cases cu : unpulled x ∈ ws
        · rw [decide_eq_true cu]
          (repeat (first | refine ⟨_, rfl, ?_⟩ | refine ⟨rfl, ?_⟩ | refine ⟨_, _, rfl, rfl, ?_⟩ | refine ⟨_, _, rfl, ?_⟩ | refine ⟨hz, ?_⟩ | refine ⟨(show 3 ≤ sizeLine by decide), ?_⟩ | refine ⟨(show 2 ≤ sizeLine by decide), ?_⟩ | refine ⟨by decide +kernel, ?_⟩ | refine ⟨.inl ⟨by decide, by decide⟩, ?_⟩ | refine ⟨(by show (0 : Int) < _; omega), ?_⟩ | refine ⟨⟨by omega, by omega⟩, ?_⟩ | refine .inl ⟨_, rfl, sz (by simp only [*, p110, p101, sM, sE, s1, s0, s110, s101, txt_cat, txt_len, cut_to, cut_from, cut_init, List.length_append, List.length_cons, List.length_nil, List.length_take, List.length_drop, List.length_dropLast, List.length_reverse]; omega), ?_⟩ | refine ⟨sz (by simp only [*, p110, p101, sM, sE, s1, s0, s110, s101, txt_cat, txt_len, cut_to, cut_from, cut_init, List.length_append, List.length_cons, List.length_nil, List.length_take, List.length_drop, List.length_dropLast, List.length_reverse]; omega), ?_⟩))
          have e : swapped (Bm ws) x = unpulled x := by
            unfold swapped EM.under
            rw [if_neg (BmF nx), if_pos c2, if_pos (decide_eq_true cu)]
          rw [e] at q
          exact q
        · rw [decide_eq_false cu]
          (repeat (first | refine ⟨_, rfl, ?_⟩ | refine ⟨rfl, ?_⟩ | refine ⟨_, _, rfl, rfl, ?_⟩ | refine ⟨_, _, rfl, ?_⟩ | refine ⟨hz, ?_⟩ | refine ⟨(show 3 ≤ sizeLine by decide), ?_⟩ | refine ⟨(show 2 ≤ sizeLine by decide), ?_⟩ | refine ⟨by decide +kernel, ?_⟩ | refine ⟨.inl ⟨by decide, by decide⟩, ?_⟩ | refine ⟨(by show (0 : Int) < _; omega), ?_⟩ | refine ⟨⟨by omega, by omega⟩, ?_⟩ | refine .inl ⟨_, rfl, sz (by simp only [*, p110, p101, sM, sE, s1, s0, s110, s101, txt_cat, txt_len, cut_to, cut_from, cut_init, List.length_append, List.length_cons, List.length_nil, List.length_take, List.length_drop, List.length_dropLast, List.length_reverse]; omega), ?_⟩ | refine ⟨sz (by simp only [*, p110, p101, sM, sE, s1, s0, s110, s101, txt_cat, txt_len, cut_to, cut_from, cut_init, List.length_append, List.length_cons, List.length_nil, List.length_take, List.length_drop, List.length_dropLast, List.length_reverse]; omega), ?_⟩))
          have e : swapped (Bm ws) x = x := by
            unfold swapped EM.under
            rw [if_neg (BmF nx), if_pos c2, if_neg (BmF cu)]
          rw [e] at q
          exact q
      · rw [dsNo c1 c2]
        (repeat (first | refine ⟨_, rfl, ?_⟩ | refine ⟨rfl, ?_⟩ | refine ⟨_, _, rfl, rfl, ?_⟩ | refine ⟨_, _, rfl, ?_⟩ | refine ⟨hz, ?_⟩ | refine ⟨(show 3 ≤ sizeLine by decide), ?_⟩ | refine ⟨(show 2 ≤ sizeLine by decide), ?_⟩ | refine ⟨by decide +kernel, ?_⟩ | refine ⟨.inl ⟨by decide, by decide⟩, ?_⟩ | refine ⟨(by show (0 : Int) < _; omega), ?_⟩ | refine ⟨⟨by omega, by omega⟩, ?_⟩ | refine .inl ⟨_, rfl, sz (by simp only [*, p110, p101, sM, sE, s1, s0, s110, s101, txt_cat, txt_len, cut_to, cut_from, cut_init, List.length_append, List.length_cons, List.length_nil, List.length_take, List.length_drop, List.length_dropLast, List.length_reverse]; omega), ?_⟩ | refine ⟨sz (by simp only [*, p110, p101, sM, sE, s1, s0, s110, s101, txt_cat, txt_len, cut_to, cut_from, cut_init, List.length_append, List.length_cons, List.length_nil, List.length_take, List.length_drop, List.length_dropLast, List.length_reverse]; omega), ?_⟩))
        rw [cut3f]
        refine ⟨sz (by rw [txt_len, txt_len, List.length_drop]; omega), ?_⟩
        rw [txt_cat, List.take_append_drop]
        (repeat (first | refine ⟨_, rfl, ?_⟩ | refine ⟨rfl, ?_⟩ | refine ⟨_, _, rfl, rfl, ?_⟩ | refine ⟨_, _, rfl, ?_⟩ | refine ⟨hz, ?_⟩ | refine ⟨(show 3 ≤ sizeLine by decide), ?_⟩ | refine ⟨(show 2 ≤ sizeLine by decide), ?_⟩ | refine ⟨by decide +kernel, ?_⟩ | refine ⟨.inl ⟨by decide, by decide⟩, ?_⟩ | refine ⟨(by show (0 : Int) < _; omega), ?_⟩ | refine ⟨⟨by omega, by omega⟩, ?_⟩ | refine .inl ⟨_, rfl, sz (by simp only [*, p110, p101, sM, sE, s1, s0, s110, s101, txt_cat, txt_len, cut_to, cut_from, cut_init, List.length_append, List.length_cons, List.length_nil, List.length_take, List.length_drop, List.length_dropLast, List.length_reverse]; omega), ?_⟩ | refine ⟨sz (by simp only [*, p110, p101, sM, sE, s1, s0, s110, s101, txt_cat, txt_len, cut_to, cut_from, cut_init, List.length_append, List.length_cons, List.length_nil, List.length_take, List.length_drop, List.length_dropLast, List.length_reverse]; omega), ?_⟩))
        refine ⟨a, wds ws, rfl, .inl (.inl (.inl ha1)), rfl, flat_wds ws, inV (.str (txt x)) (wds ws), rfl, ?_⟩
        rw [hin, decide_eq_false nx]
        (repeat (first | refine ⟨_, rfl, ?_⟩ | refine ⟨rfl, ?_⟩ | refine ⟨_, _, rfl, rfl, ?_⟩ | refine ⟨_, _, rfl, ?_⟩ | refine ⟨hz, ?_⟩ | refine ⟨(show 3 ≤ sizeLine by decide), ?_⟩ | refine ⟨(show 2 ≤ sizeLine by decide), ?_⟩ | refine ⟨by decide +kernel, ?_⟩ | refine ⟨.inl ⟨by decide, by decide⟩, ?_⟩ | refine ⟨(by show (0 : Int) < _; omega), ?_⟩ | refine ⟨⟨by omega, by omega⟩, ?_⟩ | refine .inl ⟨_, rfl, sz (by simp only [*, p110, p101, sM, sE, s1, s0, s110, s101, txt_cat, txt_len, cut_to, cut_from, cut_init, List.length_append, List.length_cons, List.length_nil, List.length_take, List.length_drop, List.length_dropLast, List.length_reverse]; omega), ?_⟩ | refine ⟨sz (by simp only [*, p110, p101, sM, sE, s1, s0, s110, s101, txt_cat, txt_len, cut_to, cut_from, cut_init, List.length_append, List.length_cons, List.length_nil, List.length_take, List.length_drop, List.length_dropLast, List.length_reverse]; omega), ?_⟩))
        rw [cut3, s101, txt_dec, decide_eq_false c2]
        (repeat (first | refine ⟨_, rfl, ?_⟩ | refine ⟨rfl, ?_⟩ | refine ⟨_, _, rfl, rfl, ?_⟩ | refine ⟨_, _, rfl, ?_⟩ | refine ⟨hz, ?_⟩ | refine ⟨(show 3 ≤ sizeLine by decide), ?_⟩ | refine ⟨(show 2 ≤ sizeLine by decide), ?_⟩ | refine ⟨by decide +kernel, ?_⟩ | refine ⟨.inl ⟨by decide, by decide⟩, ?_⟩ | refine ⟨(by show (0 : Int) < _; omega), ?_⟩ | refine ⟨⟨by omega, by omega⟩, ?_⟩ | refine .inl ⟨_, rfl, sz (by simp only [*, p110, p101, sM, sE, s1, s0, s110, s101, txt_cat, txt_len, cut_to, cut_from, cut_init, List.length_append, List.length_cons, List.length_nil, List.length_take, List.length_drop, List.length_dropLast, List.length_reverse]; omega), ?_⟩ | refine ⟨sz (by simp only [*, p110, p101, sM, sE, s1, s0, s110, s101, txt_cat, txt_len, cut_to, cut_from, cut_init, List.length_append, List.length_cons, List.length_nil, List.length_take, List.length_drop, List.length_dropLast, List.length_reverse]; omega), ?_⟩))
        have e : swapped (Bm ws) x = x := by
          unfold swapped EM.under
          rw [if_neg (BmF nx), if_neg c2]
        rw [e] at q
        exact q
def N_law_state : List Str := ["_law_word_here", "_law_shift", "_law_sign", "_law_row", "_law_cut"]
theorem sc_law_state : FnScope N_law_state ["_law_word_here", "_law_shift", "_law_sign"] (defScope s_law_state) := ⟨rfl, rfl, rfl, by decide +kernel, rfl, by decide +kernel, by decide +kernel⟩
def sp_lstate (K : PySem.W.Frag) : Sp := fun vs H Q _ => ∃ (x : W) (s : Nat) (u : Bool), vs = [.str (txt x), .int (s : Nat), .str (txt [u])] ∧ s ≤ x.length ∧ x.length ≤ 900 ∧ Gives K (.str (txt (stateIn (x, s, u)))) H Q
theorem c_law_state (T : Tx K mg) : Cl Pg w K mg base 1 "_law_state" (sp_lstate K) :=
  calD T.g_law_state T.f_law_state sc_law_state (fun _ _ _ _ _ _ us hl => match us, hl with | [_, _, _], _ => rfl) (fun vs H Q E h => by obtain ⟨i, _, _, rfl, _⟩ := h; rfl) fun cdv A outer st H vs Q E hr h => by
    obtain ⟨x, s, u, rfl, hs, hx, hQ⟩ := h
    refine ⟨_, (pss_cons (ps_set (i := 3) sc_law_state.nd rfl (Or.inl rfl) (pe_op op_add_str (pv 0) (pv 2)))
      (pss_cons (ps_set (i := 4) sc_law_state.nd rfl (Or.inl rfl) (pe_op op_mod (pe_callTy call_int1 (by rfl) T.n_int (by decide +kernel) (pa_cons (pe_un un_neg (pv 1)) pa_nil)) (pe_callB call_len_str (by rfl) T.n_len PySem.boot_len (pa_cons (pv 3) pa_nil))))
      (pss_one (ps_ret (pe_op op_add_str (pe_slice sl_str (pv 3) (po_some (pv 4)) po_none) (pe_slice sl_str (pv 3) po_none (po_some (pv 4)))))))), ?_⟩
    (repeat (first | refine ⟨_, rfl, ?_⟩ | refine ⟨rfl, ?_⟩ | refine ⟨_, _, rfl, rfl, ?_⟩ | refine ⟨_, _, rfl, ?_⟩ | refine ⟨hz, ?_⟩ | refine ⟨(show 3 ≤ sizeLine by decide), ?_⟩ | refine ⟨(show 2 ≤ sizeLine by decide), ?_⟩ | refine ⟨by decide +kernel, ?_⟩ | refine ⟨.inl ⟨by decide, by decide⟩, ?_⟩ | refine ⟨(by show (0 : Int) < _; omega), ?_⟩ | refine ⟨⟨by omega, by omega⟩, ?_⟩ | refine .inl ⟨_, rfl, sz (by simp only [*, p110, p101, sM, sE, s1, s0, s110, s101, txt_cat, txt_len, cut_to, cut_from, cut_init, List.length_append, List.length_cons, List.length_nil, List.length_take, List.length_drop, List.length_dropLast, List.length_reverse]; omega), ?_⟩ | refine ⟨sz (by simp only [*, p110, p101, sM, sE, s1, s0, s110, s101, txt_cat, txt_len, cut_to, cut_from, cut_init, List.length_append, List.length_cons, List.length_nil, List.length_take, List.length_drop, List.length_dropLast, List.length_reverse]; omega), ?_⟩))
    refine .inl ⟨_, rfl, ?_⟩
    rw [txt_cat]
    have hl : (x ++ [u]).length = x.length + 1 := by simp
    have hz : (txt (x ++ [u])).length ≤ sizeLine := sz (by rw [txt_len]; omega)
    refine ⟨_, rfl, _, rfl, hz, _, _, rfl, rfl, (by show (0 : Int) < ((txt (x ++ [u])).length : Nat); rw [txt_len]; omega), ?_⟩
    rw [stateIn_eq hs] at hQ
    rw [txt_len]
    have hp : (0 : Int) ≤ (-((s : Nat) : Int)) % ((x ++ [u]).length : Nat) := Int.emod_nonneg _ (by omega)
    have hv : (-((s : Nat) : Int)) % ((x ++ [u]).length : Nat) = (((-((s : Nat) : Int)) % ((x ++ [u]).length : Nat)).toNat : Nat) := (Int.toNat_of_nonneg hp).symm
    show gName 4 (.int ((-((s : Nat) : Int)) % ((x ++ [u]).length : Nat))) _ H _
    rw [hv]
    generalize ((-((s : Nat) : Int)) % ((x ++ [u]).length : Nat)).toNat = k at hQ ⊢
    generalize x ++ [u] = y at hQ hz hl ⊢
    (repeat (first | refine ⟨_, rfl, ?_⟩ | refine ⟨rfl, ?_⟩ | refine ⟨_, _, rfl, rfl, ?_⟩ | refine ⟨_, _, rfl, ?_⟩ | refine ⟨hz, ?_⟩ | refine ⟨(show 3 ≤ sizeLine by decide), ?_⟩ | refine ⟨(show 2 ≤ sizeLine by decide), ?_⟩ | refine ⟨by decide +kernel, ?_⟩ | refine ⟨.inl ⟨by decide, by decide⟩, ?_⟩ | refine ⟨(by show (0 : Int) < _; omega), ?_⟩ | refine ⟨⟨by omega, by omega⟩, ?_⟩ | refine .inl ⟨_, rfl, sz (by simp only [*, p110, p101, sM, sE, s1, s0, s110, s101, txt_cat, txt_len, cut_to, cut_from, cut_init, List.length_append, List.length_cons, List.length_nil, List.length_take, List.length_drop, List.length_dropLast, List.length_reverse]; omega), ?_⟩ | refine ⟨sz (by simp only [*, p110, p101, sM, sE, s1, s0, s110, s101, txt_cat, txt_len, cut_to, cut_from, cut_init, List.length_append, List.length_cons, List.length_nil, List.length_take, List.length_drop, List.length_dropLast, List.length_reverse]; omega), ?_⟩))
    show Q (.str (cutS (txt y) (some ((k : Nat) : Int)) none ++ cutS (txt y) none (some ((k : Nat) : Int)))) H
    rw [cut_from, cut_to, txt_cat]
    exact gk hQ
def N_law_all_words : List Str := ["_law_pairs", "_law_found", "_law_turn", "_law_longer", "_law_row", "_law_ups"]
theorem sc_law_all_words : FnScope N_law_all_words ["_law_pairs"] (defScope s_law_all_words) := ⟨rfl, rfl, rfl, by decide +kernel, rfl, by decide +kernel, by decide +kernel⟩
def sp_lall (K : PySem.W.Frag) : Sp := fun vs H Q _ => ∃ (n : Nat), vs = [.int (n : Nat)] ∧ n ≤ 5 ∧ ∀ L H', Ex K H H' → H L = none → H' L = some (.lst (wds (allW n))) → Q (.ref L) H'
theorem c_law_all_words (T : Tx K mg) : Cl Pg w K mg base 1 "_law_all_words" (sp_lall K) :=
  calD T.g_law_all_words T.f_law_all_words sc_law_all_words (fun _ _ _ _ _ _ us hl => match us, hl with | [_], _ => rfl) (fun vs H Q E h => by obtain ⟨i, rfl, _⟩ := h; rfl) fun cdv A outer st H vs Q E hr h => by
    obtain ⟨n, rfl, hn, hQ⟩ := h
    refine ⟨_, (pss_cons (ps_set (i := 1) sc_law_all_words.nd rfl (Or.inl rfl) (pe_lst (pa_cons pe_str pa_nil)))
      (pss_cons (ps_for PassesOwn.never rfl (pi_range1 (by rfl) T.n_range (pa_cons (pe_op op_mul pe_int (pv 0)) pa_nil)) (pg_name (i := 2) sc_law_all_words.nd rfl (Or.inl rfl)) (pss_cons (ps_set (i := 3) sc_law_all_words.nd rfl (Or.inl rfl) (pe_lst pa_nil))
      (pss_cons (ps_for PassesOwn.never rfl (pi_list (pv 1)) (pg_name (i := 4) sc_law_all_words.nd rfl (Or.inl rfl)) (pss_cons (ps_set (i := 5) sc_law_all_words.nd rfl (Or.inl rfl) (pe_m1 PySem.F.slot_str_count PySem.F.type_str_count mt_count (pv 4) pe_str))
      (pss_cons (ps_if (pt_cmpR op_gt (pe_op op_mul pe_int (pv 5)) (pe_callB call_len_str (by rfl) T.n_len PySem.boot_len (pa_cons (pv 4) pa_nil)) (nomark _)) (pss_one (ps_expr (pe_bm PySem.F.plainAttrs_list PySem.F.slot_list_append PySem.F.type_list_append mt_append (pv 3) (pa_cons (pe_op op_add_str (pv 4) pe_str) pa_nil)))) pss_nil)
      (pss_one (ps_if (pt_cmpR op_lt (pv 5) (pv 0) (nomark _)) (pss_one (ps_expr (pe_bm PySem.F.plainAttrs_list PySem.F.slot_list_append PySem.F.type_list_append mt_append (pv 3) (pa_cons (pe_op op_add_str (pv 4) pe_str) pa_nil)))) pss_nil)))))
      (pss_one (ps_set (i := 1) sc_law_all_words.nd rfl (Or.inl rfl) (pv 3))))))
      (pss_one (ps_ret (pv 1))))), ?_⟩
    (repeat (first | refine ⟨_, rfl, ?_⟩ | refine ⟨rfl, ?_⟩ | refine ⟨_, _, rfl, rfl, ?_⟩ | refine ⟨_, _, rfl, ?_⟩ | refine ⟨hz, ?_⟩ | refine ⟨(show 3 ≤ sizeLine by decide), ?_⟩ | refine ⟨(show 2 ≤ sizeLine by decide), ?_⟩ | refine ⟨by decide +kernel, ?_⟩ | refine ⟨.inl ⟨by decide, by decide⟩, ?_⟩ | refine ⟨(by show (0 : Int) < _; omega), ?_⟩ | refine ⟨⟨by omega, by omega⟩, ?_⟩ | refine .inl ⟨_, rfl, sz (by simp only [*, p110, p101, sM, sE, s1, s0, s110, s101, txt_cat, txt_len, cut_to, cut_from, cut_init, List.length_append, List.length_cons, List.length_nil, List.length_take, List.length_drop, List.length_dropLast, List.length_reverse]; omega), ?_⟩ | refine ⟨sz (by simp only [*, p110, p101, sM, sE, s1, s0, s110, s101, txt_cat, txt_len, cut_to, cut_from, cut_init, List.length_append, List.length_cons, List.length_nil, List.length_take, List.length_drop, List.length_dropLast, List.length_reverse]; omega), ?_⟩))
    intro L hL
    (repeat (first | refine ⟨_, rfl, ?_⟩ | refine ⟨rfl, ?_⟩ | refine ⟨_, _, rfl, rfl, ?_⟩ | refine ⟨_, _, rfl, ?_⟩ | refine ⟨hz, ?_⟩ | refine ⟨(show 3 ≤ sizeLine by decide), ?_⟩ | refine ⟨(show 2 ≤ sizeLine by decide), ?_⟩ | refine ⟨by decide +kernel, ?_⟩ | refine ⟨.inl ⟨by decide, by decide⟩, ?_⟩ | refine ⟨(by show (0 : Int) < _; omega), ?_⟩ | refine ⟨⟨by omega, by omega⟩, ?_⟩ | refine .inl ⟨_, rfl, sz (by simp only [*, p110, p101, sM, sE, s1, s0, s110, s101, txt_cat, txt_len, cut_to, cut_from, cut_init, List.length_append, List.length_cons, List.length_nil, List.length_take, List.length_drop, List.length_dropLast, List.length_reverse]; omega), ?_⟩ | refine ⟨sz (by simp only [*, p110, p101, sM, sE, s1, s0, s110, s101, txt_cat, txt_len, cut_to, cut_from, cut_init, List.length_append, List.length_cons, List.length_nil, List.length_take, List.length_drop, List.length_dropLast, List.length_reverse]; omega), ?_⟩))
    refine ⟨by omega, by omega, ?_⟩
    rw [show (2 * ((n : Nat) : Int)).toNat = 2 * n by omega]
    have l0 : (upd H L (.lst [V.str ""])) L = some (.lst (wds (grow n 0))) := by
      rw [upd_same, sE]
      rfl
    refine for_rng (fun i σ H' => ∃ (L : Addr) (a2 a3 a4 a5 : Option V), i ≤ 2 * n ∧ σ = [some (.int (n : Nat)), some (.ref L), a2, a3, a4, a5] ∧ Ex K H H' ∧ H L = none ∧ H' L = some (.lst (wds (grow n i)))) ⟨L, none, none, none, none, by omega, rfl, Ex.new hL, hL, l0⟩ (fun i σ H1 hi hp => ?_) fun σ H1 hp => ?_
    · obtain ⟨L1, a2, a3, a4, a5, hi2, rfl, e1, hL1, l1⟩ := hp
      (repeat (first | refine ⟨_, rfl, ?_⟩ | refine ⟨rfl, ?_⟩ | refine ⟨_, _, rfl, rfl, ?_⟩ | refine ⟨_, _, rfl, ?_⟩ | refine ⟨hz, ?_⟩ | refine ⟨(show 3 ≤ sizeLine by decide), ?_⟩ | refine ⟨(show 2 ≤ sizeLine by decide), ?_⟩ | refine ⟨by decide +kernel, ?_⟩ | refine ⟨.inl ⟨by decide, by decide⟩, ?_⟩ | refine ⟨(by show (0 : Int) < _; omega), ?_⟩ | refine ⟨⟨by omega, by omega⟩, ?_⟩ | refine .inl ⟨_, rfl, sz (by simp only [*, p110, p101, sM, sE, s1, s0, s110, s101, txt_cat, txt_len, cut_to, cut_from, cut_init, List.length_append, List.length_cons, List.length_nil, List.length_take, List.length_drop, List.length_dropLast, List.length_reverse]; omega), ?_⟩ | refine ⟨sz (by simp only [*, p110, p101, sM, sE, s1, s0, s110, s101, txt_cat, txt_len, cut_to, cut_from, cut_init, List.length_append, List.length_cons, List.length_nil, List.length_take, List.length_drop, List.length_dropLast, List.length_reverse]; omega), ?_⟩))
      intro M hM
      have hMH : H M = none := e1.free hM
      have hLM : L1 ≠ M := fun z => by rw [z, hM] at l1; cases l1
      have e2 := e1.trans (Ex.new (o := .lst []) hM)
      have l2 := (Ex.new (K := K) (o := .lst []) hM).lst l1
      have m2 : (upd H1 M (.lst [])) M = some (.lst (wds [])) := upd_same
      generalize upd H1 M (.lst []) = H2 at e2 l2 m2 ⊢
      (repeat (first | refine ⟨_, rfl, ?_⟩ | refine ⟨rfl, ?_⟩ | refine ⟨_, _, rfl, rfl, ?_⟩ | refine ⟨_, _, rfl, ?_⟩ | refine ⟨hz, ?_⟩ | refine ⟨(show 3 ≤ sizeLine by decide), ?_⟩ | refine ⟨(show 2 ≤ sizeLine by decide), ?_⟩ | refine ⟨by decide +kernel, ?_⟩ | refine ⟨.inl ⟨by decide, by decide⟩, ?_⟩ | refine ⟨(by show (0 : Int) < _; omega), ?_⟩ | refine ⟨⟨by omega, by omega⟩, ?_⟩ | refine .inl ⟨_, rfl, sz (by simp only [*, p110, p101, sM, sE, s1, s0, s110, s101, txt_cat, txt_len, cut_to, cut_from, cut_init, List.length_append, List.length_cons, List.length_nil, List.length_take, List.length_drop, List.length_dropLast, List.length_reverse]; omega), ?_⟩ | refine ⟨sz (by simp only [*, p110, p101, sM, sE, s1, s0, s110, s101, txt_cat, txt_len, cut_to, cut_from, cut_init, List.length_append, List.length_cons, List.length_nil, List.length_take, List.length_drop, List.length_dropLast, List.length_reverse]; omega), ?_⟩))
      have hgl := grow_len n i
      have hpow : 2 ^ i ≤ 2 ^ 10 := Nat.pow_le_pow_right (by decide) (by omega)
      have hgle := Nat.le_trans (grow_le n i) hpow
      refine ⟨⟨_, .inl (.inl l2)⟩, for_lst (xs := wds (grow n i)) (fun j σ H' => ∃ (a4 a5 : Option V), σ = [some (.int (n : Nat)), some (.ref L1), some (.int (0 + (i : Nat))), some (.ref M), a4, a5] ∧ Ex K H H' ∧ H' L1 = some (.lst (wds (grow n i))) ∧ H' M = some (.lst (wds (((grow n i).take j).flatMap (longer n))))) (fun j σ H' ⟨_, _, _, _, e, _⟩ => .inl (.inl e)) ⟨_, _, rfl, e2, l2, m2⟩ (fun j v σ H3 hv hp => ?_) fun σ H3 hp => ?_⟩
      · obtain ⟨x, hx, rfl⟩ := wds_at hv
        obtain ⟨b4, b5, rfl, e3, l3, m3⟩ := hp
        have hxl := hgl x (List.mem_of_getElem? hx)
        have hz : (txt x).length ≤ sizeLine := sz (by rw [txt_len]; omega)
        have ej : (grow n i).take (j + 1) = (grow n i).take j ++ [x] := by rw [List.take_add_one, hx]; rfl
        have ef : ((grow n i).take (j + 1)).flatMap (longer n) = ((grow n i).take j).flatMap (longer n) ++ longer n x := by
          rw [ej, List.flatMap_append, List.flatMap_cons, List.flatMap_nil, List.append_nil]
        have hfl := flat_le n ((grow n i).take j)
        have htl : ((grow n i).take j).length ≤ 1024 := by rw [List.length_take]; omega
        rw [ef]
        generalize ((grow n i).take j).flatMap (longer n) = F at m3 hfl ⊢
        (repeat (first | refine ⟨_, rfl, ?_⟩ | refine ⟨rfl, ?_⟩ | refine ⟨_, _, rfl, rfl, ?_⟩ | refine ⟨_, _, rfl, ?_⟩ | refine ⟨hz, ?_⟩ | refine ⟨(show 3 ≤ sizeLine by decide), ?_⟩ | refine ⟨(show 2 ≤ sizeLine by decide), ?_⟩ | refine ⟨by decide +kernel, ?_⟩ | refine ⟨.inl ⟨by decide, by decide⟩, ?_⟩ | refine ⟨(by show (0 : Int) < _; omega), ?_⟩ | refine ⟨⟨by omega, by omega⟩, ?_⟩ | refine .inl ⟨_, rfl, sz (by simp only [*, p110, p101, sM, sE, s1, s0, s110, s101, txt_cat, txt_len, cut_to, cut_from, cut_init, List.length_append, List.length_cons, List.length_nil, List.length_take, List.length_drop, List.length_dropLast, List.length_reverse]; omega), ?_⟩ | refine ⟨sz (by simp only [*, p110, p101, sM, sE, s1, s0, s110, s101, txt_cat, txt_len, cut_to, cut_from, cut_init, List.length_append, List.length_cons, List.length_nil, List.length_take, List.length_drop, List.length_dropLast, List.length_reverse]; omega), ?_⟩))
        refine ⟨⟨_, rfl⟩, _, _, rfl, rfl, ?_⟩
        rw [count_txt]
        (repeat (first | refine ⟨_, rfl, ?_⟩ | refine ⟨rfl, ?_⟩ | refine ⟨_, _, rfl, rfl, ?_⟩ | refine ⟨_, _, rfl, ?_⟩ | refine ⟨hz, ?_⟩ | refine ⟨(show 3 ≤ sizeLine by decide), ?_⟩ | refine ⟨(show 2 ≤ sizeLine by decide), ?_⟩ | refine ⟨by decide +kernel, ?_⟩ | refine ⟨.inl ⟨by decide, by decide⟩, ?_⟩ | refine ⟨(by show (0 : Int) < _; omega), ?_⟩ | refine ⟨⟨by omega, by omega⟩, ?_⟩ | refine .inl ⟨_, rfl, sz (by simp only [*, p110, p101, sM, sE, s1, s0, s110, s101, txt_cat, txt_len, cut_to, cut_from, cut_init, List.length_append, List.length_cons, List.length_nil, List.length_take, List.length_drop, List.length_dropLast, List.length_reverse]; omega), ?_⟩ | refine ⟨sz (by simp only [*, p110, p101, sM, sE, s1, s0, s110, s101, txt_cat, txt_len, cut_to, cut_from, cut_init, List.length_append, List.length_cons, List.length_nil, List.length_take, List.length_drop, List.length_dropLast, List.length_reverse]; omega), ?_⟩))
        rw [txt_len]
        have fin : ∀ (G : List W) (H4 : Hp), Ex K H H4 → H4 L1 = some (.lst (wds (grow n i))) → H4 M = some (.lst (wds G)) → G.length ≤ 4000 → F ++ longer n x = G ++ (if ones x < n then [x ++ [true]] else []) → ∀ {D : Ends}, D.nx = (fun σ H' => ∃ (a4 a5 : Option V), σ = [some (.int (n : Nat)), some (.ref L1), some (.int (0 + (i : Nat))), some (.ref M), a4, a5] ∧ Ex K H H' ∧ H' L1 = some (.lst (wds (grow n i))) ∧ H' M = some (.lst (wds (F ++ longer n x)))) →
            tIfS (tTest (tOp (rI0 fun i j => V.bl (decide (i < j))) (tVar 5) (tVar 0))) (tDrop (tBM (cxOf C8.CX0 Pg w K mg base N_law_all_words "_law_all_words" (defScope s_law_all_words) (He.ga K "_law_all_words") cdv A outer st H E).nox.K "list" rAppend (tVar 3) (tCons (tOp (fun x y H Q => ∃ i j, x = V.str i ∧ y = V.str j ∧ i.length + j.length ≤ sizeLine ∧ Q (V.str (i ++ j)) H) (tVar 4) (tC (V.str "1"))) tNil))) tNext D [some (.int (n : Nat)), some (.ref L1), some (.int (0 + (i : Nat))), some (.ref M), some (.str (txt x)), some (.int (ones x : Nat))] H4 := by
          intro G H4 e4 l4 m4 hG hE D hD
          (repeat (first | refine ⟨_, rfl, ?_⟩ | refine ⟨rfl, ?_⟩ | refine ⟨_, _, rfl, rfl, ?_⟩ | refine ⟨_, _, rfl, ?_⟩ | refine ⟨hz, ?_⟩ | refine ⟨(show 3 ≤ sizeLine by decide), ?_⟩ | refine ⟨(show 2 ≤ sizeLine by decide), ?_⟩ | refine ⟨by decide +kernel, ?_⟩ | refine ⟨.inl ⟨by decide, by decide⟩, ?_⟩ | refine ⟨(by show (0 : Int) < _; omega), ?_⟩ | refine ⟨⟨by omega, by omega⟩, ?_⟩ | refine .inl ⟨_, rfl, sz (by simp only [*, p110, p101, sM, sE, s1, s0, s110, s101, txt_cat, txt_len, cut_to, cut_from, cut_init, List.length_append, List.length_cons, List.length_nil, List.length_take, List.length_drop, List.length_dropLast, List.length_reverse]; omega), ?_⟩ | refine ⟨sz (by simp only [*, p110, p101, sM, sE, s1, s0, s110, s101, txt_cat, txt_len, cut_to, cut_from, cut_init, List.length_append, List.length_cons, List.length_nil, List.length_take, List.length_drop, List.length_dropLast, List.length_reverse]; omega), ?_⟩))
          by_cases c2 : ones x < n
          · rw [if_pos c2] at hE
            rw [show decide (((ones x : Nat) : Int) < ((n : Nat) : Int)) = true from decide_eq_true (by omega)]
            (repeat (first | refine ⟨_, rfl, ?_⟩ | refine ⟨rfl, ?_⟩ | refine ⟨_, _, rfl, rfl, ?_⟩ | refine ⟨_, _, rfl, ?_⟩ | refine ⟨hz, ?_⟩ | refine ⟨(show 3 ≤ sizeLine by decide), ?_⟩ | refine ⟨(show 2 ≤ sizeLine by decide), ?_⟩ | refine ⟨by decide +kernel, ?_⟩ | refine ⟨.inl ⟨by decide, by decide⟩, ?_⟩ | refine ⟨(by show (0 : Int) < _; omega), ?_⟩ | refine ⟨⟨by omega, by omega⟩, ?_⟩ | refine .inl ⟨_, rfl, sz (by simp only [*, p110, p101, sM, sE, s1, s0, s110, s101, txt_cat, txt_len, cut_to, cut_from, cut_init, List.length_append, List.length_cons, List.length_nil, List.length_take, List.length_drop, List.length_dropLast, List.length_reverse]; omega), ?_⟩ | refine ⟨sz (by simp only [*, p110, p101, sM, sE, s1, s0, s110, s101, txt_cat, txt_len, cut_to, cut_from, cut_init, List.length_append, List.length_cons, List.length_nil, List.length_take, List.length_drop, List.length_dropLast, List.length_reverse]; omega), ?_⟩))
            refine ⟨.inl ⟨rfl, _, .inl (.inl m4)⟩, ?_⟩
            (repeat (first | refine ⟨_, rfl, ?_⟩ | refine ⟨rfl, ?_⟩ | refine ⟨_, _, rfl, rfl, ?_⟩ | refine ⟨_, _, rfl, ?_⟩ | refine ⟨hz, ?_⟩ | refine ⟨(show 3 ≤ sizeLine by decide), ?_⟩ | refine ⟨(show 2 ≤ sizeLine by decide), ?_⟩ | refine ⟨by decide +kernel, ?_⟩ | refine ⟨.inl ⟨by decide, by decide⟩, ?_⟩ | refine ⟨(by show (0 : Int) < _; omega), ?_⟩ | refine ⟨⟨by omega, by omega⟩, ?_⟩ | refine .inl ⟨_, rfl, sz (by simp only [*, p110, p101, sM, sE, s1, s0, s110, s101, txt_cat, txt_len, cut_to, cut_from, cut_init, List.length_append, List.length_cons, List.length_nil, List.length_take, List.length_drop, List.length_dropLast, List.length_reverse]; omega), ?_⟩ | refine ⟨sz (by simp only [*, p110, p101, sM, sE, s1, s0, s110, s101, txt_cat, txt_len, cut_to, cut_from, cut_init, List.length_append, List.length_cons, List.length_nil, List.length_take, List.length_drop, List.length_dropLast, List.length_reverse]; omega), ?_⟩))
            rw [s1, txt_cat]
            (repeat (first | refine ⟨_, rfl, ?_⟩ | refine ⟨rfl, ?_⟩ | refine ⟨_, _, rfl, rfl, ?_⟩ | refine ⟨_, _, rfl, ?_⟩ | refine ⟨hz, ?_⟩ | refine ⟨(show 3 ≤ sizeLine by decide), ?_⟩ | refine ⟨(show 2 ≤ sizeLine by decide), ?_⟩ | refine ⟨by decide +kernel, ?_⟩ | refine ⟨.inl ⟨by decide, by decide⟩, ?_⟩ | refine ⟨(by show (0 : Int) < _; omega), ?_⟩ | refine ⟨⟨by omega, by omega⟩, ?_⟩ | refine .inl ⟨_, rfl, sz (by simp only [*, p110, p101, sM, sE, s1, s0, s110, s101, txt_cat, txt_len, cut_to, cut_from, cut_init, List.length_append, List.length_cons, List.length_nil, List.length_take, List.length_drop, List.length_dropLast, List.length_reverse]; omega), ?_⟩ | refine ⟨sz (by simp only [*, p110, p101, sM, sE, s1, s0, s110, s101, txt_cat, txt_len, cut_to, cut_from, cut_init, List.length_append, List.length_cons, List.length_nil, List.length_take, List.length_drop, List.length_dropLast, List.length_reverse]; omega), ?_⟩))
            refine ⟨M, _, _, rfl, rfl, m4, ?_, ?_⟩
            · unfold wds
              rw [List.length_map]
              exact Nat.lt_of_le_of_lt hG (by decide)
            rw [hD]
            refine ⟨_, _, rfl, e4.mutL hMH m4 _, (upd_ne hLM).trans l4, ?_⟩
            rw [upd_same, hE]
            unfold wds
            rw [List.map_append]
            rfl
          · rw [if_neg c2, List.append_nil] at hE
            rw [show decide (((ones x : Nat) : Int) < ((n : Nat) : Int)) = false from decide_eq_false (by omega)]
            show D.nx _ _
            rw [hD]
            exact ⟨_, _, rfl, e4, l4, by rw [hE]; exact m4⟩
        by_cases c1 : x.length < 2 * ones x
        · rw [show decide (((x.length : Nat) : Int) < 2 * ((ones x : Nat) : Int)) = true from decide_eq_true (by omega)]
          (repeat (first | refine ⟨_, rfl, ?_⟩ | refine ⟨rfl, ?_⟩ | refine ⟨_, _, rfl, rfl, ?_⟩ | refine ⟨_, _, rfl, ?_⟩ | refine ⟨hz, ?_⟩ | refine ⟨(show 3 ≤ sizeLine by decide), ?_⟩ | refine ⟨(show 2 ≤ sizeLine by decide), ?_⟩ | refine ⟨by decide +kernel, ?_⟩ | refine ⟨.inl ⟨by decide, by decide⟩, ?_⟩ | refine ⟨(by show (0 : Int) < _; omega), ?_⟩ | refine ⟨⟨by omega, by omega⟩, ?_⟩ | refine .inl ⟨_, rfl, sz (by simp only [*, p110, p101, sM, sE, s1, s0, s110, s101, txt_cat, txt_len, cut_to, cut_from, cut_init, List.length_append, List.length_cons, List.length_nil, List.length_take, List.length_drop, List.length_dropLast, List.length_reverse]; omega), ?_⟩ | refine ⟨sz (by simp only [*, p110, p101, sM, sE, s1, s0, s110, s101, txt_cat, txt_len, cut_to, cut_from, cut_init, List.length_append, List.length_cons, List.length_nil, List.length_take, List.length_drop, List.length_dropLast, List.length_reverse]; omega), ?_⟩))
          refine ⟨.inl ⟨rfl, _, .inl (.inl m3)⟩, ?_⟩
          (repeat (first | refine ⟨_, rfl, ?_⟩ | refine ⟨rfl, ?_⟩ | refine ⟨_, _, rfl, rfl, ?_⟩ | refine ⟨_, _, rfl, ?_⟩ | refine ⟨hz, ?_⟩ | refine ⟨(show 3 ≤ sizeLine by decide), ?_⟩ | refine ⟨(show 2 ≤ sizeLine by decide), ?_⟩ | refine ⟨by decide +kernel, ?_⟩ | refine ⟨.inl ⟨by decide, by decide⟩, ?_⟩ | refine ⟨(by show (0 : Int) < _; omega), ?_⟩ | refine ⟨⟨by omega, by omega⟩, ?_⟩ | refine .inl ⟨_, rfl, sz (by simp only [*, p110, p101, sM, sE, s1, s0, s110, s101, txt_cat, txt_len, cut_to, cut_from, cut_init, List.length_append, List.length_cons, List.length_nil, List.length_take, List.length_drop, List.length_dropLast, List.length_reverse]; omega), ?_⟩ | refine ⟨sz (by simp only [*, p110, p101, sM, sE, s1, s0, s110, s101, txt_cat, txt_len, cut_to, cut_from, cut_init, List.length_append, List.length_cons, List.length_nil, List.length_take, List.length_drop, List.length_dropLast, List.length_reverse]; omega), ?_⟩))
          rw [s0, txt_cat]
          (repeat (first | refine ⟨_, rfl, ?_⟩ | refine ⟨rfl, ?_⟩ | refine ⟨_, _, rfl, rfl, ?_⟩ | refine ⟨_, _, rfl, ?_⟩ | refine ⟨hz, ?_⟩ | refine ⟨(show 3 ≤ sizeLine by decide), ?_⟩ | refine ⟨(show 2 ≤ sizeLine by decide), ?_⟩ | refine ⟨by decide +kernel, ?_⟩ | refine ⟨.inl ⟨by decide, by decide⟩, ?_⟩ | refine ⟨(by show (0 : Int) < _; omega), ?_⟩ | refine ⟨⟨by omega, by omega⟩, ?_⟩ | refine .inl ⟨_, rfl, sz (by simp only [*, p110, p101, sM, sE, s1, s0, s110, s101, txt_cat, txt_len, cut_to, cut_from, cut_init, List.length_append, List.length_cons, List.length_nil, List.length_take, List.length_drop, List.length_dropLast, List.length_reverse]; omega), ?_⟩ | refine ⟨sz (by simp only [*, p110, p101, sM, sE, s1, s0, s110, s101, txt_cat, txt_len, cut_to, cut_from, cut_init, List.length_append, List.length_cons, List.length_nil, List.length_take, List.length_drop, List.length_dropLast, List.length_reverse]; omega), ?_⟩))
          refine ⟨M, _, _, rfl, rfl, m3, ?_, ?_⟩
          · unfold wds
            rw [List.length_map]
            exact Nat.lt_of_le_of_lt (show F.length ≤ 3000 by omega) (by decide)
          have ew : wds F ++ [V.str (txt (x ++ [false]))] = wds (F ++ [x ++ [false]]) := by
            unfold wds
            rw [List.map_append]
            rfl
          rw [ew]
          exact fin (F ++ [x ++ [false]]) _ (e3.mutL hMH m3 _) ((upd_ne hLM).trans l3) upd_same (by rw [List.length_append]; show F.length + 1 ≤ _; omega) (by unfold longer; rw [if_pos c1, List.append_assoc]) rfl
        · rw [show decide (((x.length : Nat) : Int) < 2 * ((ones x : Nat) : Int)) = false from decide_eq_false (by omega)]
          exact fin F _ e3 l3 m3 (by omega) (by unfold longer; rw [if_neg c1, List.nil_append]) rfl
      · obtain ⟨b4, b5, rfl, e3, l3, m3⟩ := hp
        rw [show (wds (grow n i)).length = (grow n i).length from List.length_map _, List.take_length] at m3
        exact ⟨_, rfl, M, _, _, _, _, by omega, rfl, e3, hMH, m3⟩
    · obtain ⟨L1, a2, a3, a4, a5, hi2, rfl, e1, hL1, l1⟩ := hp
      exact ⟨_, rfl, hQ L1 H1 e1 hL1 l1⟩
def N_law_low_word : List Str := ["_law_state_here", "_law_deep", "_law_sign"]
theorem sc_law_low_word : FnScope N_law_low_word ["_law_state_here"] (defScope s_law_low_word) := ⟨rfl, rfl, rfl, by decide +kernel, rfl, by decide +kernel, by decide +kernel⟩
def sp_llow (K : PySem.W.Frag) : Sp := fun vs H Q _ => ∃ (x : W), vs = [.str (txt x)] ∧ x ≠ [] ∧ x.length ≤ 900 ∧ Gives K (.str (txt (lowWord x))) H Q
theorem c_law_low_word (T : Tx K mg) : Cl Pg w K mg base 1 "_law_low_word" (sp_llow K) :=
  calD T.g_law_low_word T.f_law_low_word sc_law_low_word (fun _ _ _ _ _ _ us hl => match us, hl with | [_], _ => rfl) (fun vs H Q E h => by obtain ⟨i, rfl, _⟩ := h; rfl) fun cdv A outer st H vs Q E hr h => by
    obtain ⟨x, rfl, h0, hx, hQ⟩ := h
    have hz : (txt x).length ≤ sizeLine := sz (by rw [txt_len]; omega)
    refine ⟨_, (pss_cons (ps_set (i := 1) sc_law_low_word.nd rfl (Or.inl rfl) pe_int)
      (pss_cons (ps_for PassesOwn.never rfl (pi_str (pe_slice sl_str (pv 0) po_none (po_some (pe_un un_neg pe_int)))) (pg_name (i := 2) sc_law_low_word.nd rfl (Or.inl rfl)) (pss_cons (ps_set (i := 1) sc_law_low_word.nd rfl (Or.inl rfl) (pe_ifExp (pt_cmpR op_eq (pv 2) pe_str (nomark _)) (pe_op op_add (pv 1) pe_int) (pe_op op_sub (pv 1) pe_int)))
      (pss_one (ps_if (pt_cmpR op_lt (pv 1) pe_int (nomark _)) (pss_one (ps_ret pe_str)) pss_nil))))
      (pss_one (ps_ret (pe_ifExp (PW.pt (pw_and (pt_cmpR op_eq (pv 1) pe_int (nomark _)) (pw_and1 (pt_cmpR op_eq (pe_ix ix_str (pv 0) (pe_un un_neg pe_int) (fun _ _ => rfl)) pe_str (nomark _))))) (pe_slice sl_str (pv 0) po_none (po_some (pe_un un_neg pe_int))) pe_str))))), ?_⟩
    (repeat (first | refine ⟨_, rfl, ?_⟩ | refine ⟨rfl, ?_⟩ | refine ⟨_, _, rfl, rfl, ?_⟩ | refine ⟨_, _, rfl, ?_⟩ | refine ⟨hz, ?_⟩ | refine ⟨(show 3 ≤ sizeLine by decide), ?_⟩ | refine ⟨(show 2 ≤ sizeLine by decide), ?_⟩ | refine ⟨by decide +kernel, ?_⟩ | refine ⟨.inl ⟨by decide, by decide⟩, ?_⟩ | refine ⟨(by show (0 : Int) < _; omega), ?_⟩ | refine ⟨⟨by omega, by omega⟩, ?_⟩ | refine .inl ⟨_, rfl, sz (by simp only [*, p110, p101, sM, sE, s1, s0, s110, s101, txt_cat, txt_len, cut_to, cut_from, cut_init, List.length_append, List.length_cons, List.length_nil, List.length_take, List.length_drop, List.length_dropLast, List.length_reverse]; omega), ?_⟩ | refine ⟨sz (by simp only [*, p110, p101, sM, sE, s1, s0, s110, s101, txt_cat, txt_len, cut_to, cut_from, cut_init, List.length_append, List.length_cons, List.length_nil, List.length_take, List.length_drop, List.length_dropLast, List.length_reverse]; omega), ?_⟩))
    rw [cut_init]
    refine for_txt (fun i σ H' => ∃ (d : Int) (s : Option V), goesA 0 (x.dropLast.take i) = some d ∧ σ = [some (.str (txt x)), some (.int d), s] ∧ Ex K H H') ⟨0, none, rfl, rfl, .refl⟩ (fun i b σ H1 hb hp => ?_) fun σ H1 hp => ?_
    · obtain ⟨d, s, hd, rfl, he⟩ := hp
      have et : x.dropLast.take (i + 1) = x.dropLast.take i ++ [b] := by rw [List.take_add_one, hb]; rfl
      have hg : goesA 0 (x.dropLast.take (i + 1)) = if stp d b < 0 then none else some (stp d b) := by rw [et, goesA_snoc, hd]; rfl
      have hno : stp d b < 0 → lowWord x = [] := fun c => by
        have h0 : goesA 0 x.dropLast = none := by
          rw [← List.take_append_drop (i + 1) x.dropLast, goesA_app, hg, if_pos c]
          rfl
        unfold lowWord
        rw [h0]
        rfl
      refine ⟨_, rfl, rfl, _, rfl, ?_⟩
      rw [s1, txt_dec]
      cases b with
      | true =>
        (repeat (first | refine ⟨_, rfl, ?_⟩ | refine ⟨rfl, ?_⟩ | refine ⟨_, _, rfl, rfl, ?_⟩ | refine ⟨_, _, rfl, ?_⟩ | refine ⟨hz, ?_⟩ | refine ⟨(show 3 ≤ sizeLine by decide), ?_⟩ | refine ⟨(show 2 ≤ sizeLine by decide), ?_⟩ | refine ⟨by decide +kernel, ?_⟩ | refine ⟨.inl ⟨by decide, by decide⟩, ?_⟩ | refine ⟨(by show (0 : Int) < _; omega), ?_⟩ | refine ⟨⟨by omega, by omega⟩, ?_⟩ | refine .inl ⟨_, rfl, sz (by simp only [*, p110, p101, sM, sE, s1, s0, s110, s101, txt_cat, txt_len, cut_to, cut_from, cut_init, List.length_append, List.length_cons, List.length_nil, List.length_take, List.length_drop, List.length_dropLast, List.length_reverse]; omega), ?_⟩ | refine ⟨sz (by simp only [*, p110, p101, sM, sE, s1, s0, s110, s101, txt_cat, txt_len, cut_to, cut_from, cut_init, List.length_append, List.length_cons, List.length_nil, List.length_take, List.length_drop, List.length_dropLast, List.length_reverse]; omega), ?_⟩))
        have hg : goesA 0 (x.dropLast.take (i + 1)) = if d + 1 < 0 then none else some (d + 1) := hg
        by_cases c : d + 1 < 0
        · rw [show decide (d + 1 < 0) = true from decide_eq_true c]
          (repeat (first | refine ⟨_, rfl, ?_⟩ | refine ⟨rfl, ?_⟩ | refine ⟨_, _, rfl, rfl, ?_⟩ | refine ⟨_, _, rfl, ?_⟩ | refine ⟨hz, ?_⟩ | refine ⟨(show 3 ≤ sizeLine by decide), ?_⟩ | refine ⟨(show 2 ≤ sizeLine by decide), ?_⟩ | refine ⟨by decide +kernel, ?_⟩ | refine ⟨.inl ⟨by decide, by decide⟩, ?_⟩ | refine ⟨(by show (0 : Int) < _; omega), ?_⟩ | refine ⟨⟨by omega, by omega⟩, ?_⟩ | refine .inl ⟨_, rfl, sz (by simp only [*, p110, p101, sM, sE, s1, s0, s110, s101, txt_cat, txt_len, cut_to, cut_from, cut_init, List.length_append, List.length_cons, List.length_nil, List.length_take, List.length_drop, List.length_dropLast, List.length_reverse]; omega), ?_⟩ | refine ⟨sz (by simp only [*, p110, p101, sM, sE, s1, s0, s110, s101, txt_cat, txt_len, cut_to, cut_from, cut_init, List.length_append, List.length_cons, List.length_nil, List.length_take, List.length_drop, List.length_dropLast, List.length_reverse]; omega), ?_⟩))
          have q := hQ H1 he
          rw [hno c] at q
          rw [sE]
          exact q
        · rw [show decide (d + 1 < 0) = false from decide_eq_false c]
          rw [if_neg c] at hg
          exact ⟨_, _, hg, rfl, he⟩
      | false =>
        (repeat (first | refine ⟨_, rfl, ?_⟩ | refine ⟨rfl, ?_⟩ | refine ⟨_, _, rfl, rfl, ?_⟩ | refine ⟨_, _, rfl, ?_⟩ | refine ⟨hz, ?_⟩ | refine ⟨(show 3 ≤ sizeLine by decide), ?_⟩ | refine ⟨(show 2 ≤ sizeLine by decide), ?_⟩ | refine ⟨by decide +kernel, ?_⟩ | refine ⟨.inl ⟨by decide, by decide⟩, ?_⟩ | refine ⟨(by show (0 : Int) < _; omega), ?_⟩ | refine ⟨⟨by omega, by omega⟩, ?_⟩ | refine .inl ⟨_, rfl, sz (by simp only [*, p110, p101, sM, sE, s1, s0, s110, s101, txt_cat, txt_len, cut_to, cut_from, cut_init, List.length_append, List.length_cons, List.length_nil, List.length_take, List.length_drop, List.length_dropLast, List.length_reverse]; omega), ?_⟩ | refine ⟨sz (by simp only [*, p110, p101, sM, sE, s1, s0, s110, s101, txt_cat, txt_len, cut_to, cut_from, cut_init, List.length_append, List.length_cons, List.length_nil, List.length_take, List.length_drop, List.length_dropLast, List.length_reverse]; omega), ?_⟩))
        have hg : goesA 0 (x.dropLast.take (i + 1)) = if d - 1 < 0 then none else some (d - 1) := hg
        by_cases c : d - 1 < 0
        · rw [show decide (d - 1 < 0) = true from decide_eq_true c]
          (repeat (first | refine ⟨_, rfl, ?_⟩ | refine ⟨rfl, ?_⟩ | refine ⟨_, _, rfl, rfl, ?_⟩ | refine ⟨_, _, rfl, ?_⟩ | refine ⟨hz, ?_⟩ | refine ⟨(show 3 ≤ sizeLine by decide), ?_⟩ | refine ⟨(show 2 ≤ sizeLine by decide), ?_⟩ | refine ⟨by decide +kernel, ?_⟩ | refine ⟨.inl ⟨by decide, by decide⟩, ?_⟩ | refine ⟨(by show (0 : Int) < _; omega), ?_⟩ | refine ⟨⟨by omega, by omega⟩, ?_⟩ | refine .inl ⟨_, rfl, sz (by simp only [*, p110, p101, sM, sE, s1, s0, s110, s101, txt_cat, txt_len, cut_to, cut_from, cut_init, List.length_append, List.length_cons, List.length_nil, List.length_take, List.length_drop, List.length_dropLast, List.length_reverse]; omega), ?_⟩ | refine ⟨sz (by simp only [*, p110, p101, sM, sE, s1, s0, s110, s101, txt_cat, txt_len, cut_to, cut_from, cut_init, List.length_append, List.length_cons, List.length_nil, List.length_take, List.length_drop, List.length_dropLast, List.length_reverse]; omega), ?_⟩))
          have q := hQ H1 he
          rw [hno c] at q
          rw [sE]
          exact q
        · rw [show decide (d - 1 < 0) = false from decide_eq_false c]
          rw [if_neg c] at hg
          exact ⟨_, _, hg, rfl, he⟩
    · obtain ⟨d, s, hd, rfl, he⟩ := hp
      rw [List.take_length] at hd
      (repeat (first | refine ⟨_, rfl, ?_⟩ | refine ⟨rfl, ?_⟩ | refine ⟨_, _, rfl, rfl, ?_⟩ | refine ⟨_, _, rfl, ?_⟩ | refine ⟨hz, ?_⟩ | refine ⟨(show 3 ≤ sizeLine by decide), ?_⟩ | refine ⟨(show 2 ≤ sizeLine by decide), ?_⟩ | refine ⟨by decide +kernel, ?_⟩ | refine ⟨.inl ⟨by decide, by decide⟩, ?_⟩ | refine ⟨(by show (0 : Int) < _; omega), ?_⟩ | refine ⟨⟨by omega, by omega⟩, ?_⟩ | refine .inl ⟨_, rfl, sz (by simp only [*, p110, p101, sM, sE, s1, s0, s110, s101, txt_cat, txt_len, cut_to, cut_from, cut_init, List.length_append, List.length_cons, List.length_nil, List.length_take, List.length_drop, List.length_dropLast, List.length_reverse]; omega), ?_⟩ | refine ⟨sz (by simp only [*, p110, p101, sM, sE, s1, s0, s110, s101, txt_cat, txt_len, cut_to, cut_from, cut_init, List.length_append, List.length_cons, List.length_nil, List.length_take, List.length_drop, List.length_dropLast, List.length_reverse]; omega), ?_⟩))
      have q := hQ H1 he
      unfold lowWord at q
      rw [hd] at q
      obtain ⟨y, b, rfl⟩ : ∃ y b, x = y ++ [b] := ⟨x.dropLast, x.getLast h0, (List.dropLast_concat_getLast h0).symm⟩
      rw [List.getLast?_concat, List.dropLast_concat] at q
      by_cases c : d = 0
      · subst c
        (repeat (first | refine ⟨_, rfl, ?_⟩ | refine ⟨rfl, ?_⟩ | refine ⟨_, _, rfl, rfl, ?_⟩ | refine ⟨_, _, rfl, ?_⟩ | refine ⟨hz, ?_⟩ | refine ⟨(show 3 ≤ sizeLine by decide), ?_⟩ | refine ⟨(show 2 ≤ sizeLine by decide), ?_⟩ | refine ⟨by decide +kernel, ?_⟩ | refine ⟨.inl ⟨by decide, by decide⟩, ?_⟩ | refine ⟨(by show (0 : Int) < _; omega), ?_⟩ | refine ⟨⟨by omega, by omega⟩, ?_⟩ | refine .inl ⟨_, rfl, sz (by simp only [*, p110, p101, sM, sE, s1, s0, s110, s101, txt_cat, txt_len, cut_to, cut_from, cut_init, List.length_append, List.length_cons, List.length_nil, List.length_take, List.length_drop, List.length_dropLast, List.length_reverse]; omega), ?_⟩ | refine ⟨sz (by simp only [*, p110, p101, sM, sE, s1, s0, s110, s101, txt_cat, txt_len, cut_to, cut_from, cut_init, List.length_append, List.length_cons, List.length_nil, List.length_take, List.length_drop, List.length_dropLast, List.length_reverse]; omega), ?_⟩))
        refine ⟨_, _, sg b, rfl, rfl, hz, ?_, ?_⟩
        · rw [txt_list, List.map_append]
          exact atI_last _ _
        rw [sg_txt, s0]
        refine ⟨rfl, _, rfl, ?_⟩
        rw [txt_dec]
        cases b with
        | true =>
          (repeat (first | refine ⟨_, rfl, ?_⟩ | refine ⟨rfl, ?_⟩ | refine ⟨_, _, rfl, rfl, ?_⟩ | refine ⟨_, _, rfl, ?_⟩ | refine ⟨hz, ?_⟩ | refine ⟨(show 3 ≤ sizeLine by decide), ?_⟩ | refine ⟨(show 2 ≤ sizeLine by decide), ?_⟩ | refine ⟨by decide +kernel, ?_⟩ | refine ⟨.inl ⟨by decide, by decide⟩, ?_⟩ | refine ⟨(by show (0 : Int) < _; omega), ?_⟩ | refine ⟨⟨by omega, by omega⟩, ?_⟩ | refine .inl ⟨_, rfl, sz (by simp only [*, p110, p101, sM, sE, s1, s0, s110, s101, txt_cat, txt_len, cut_to, cut_from, cut_init, List.length_append, List.length_cons, List.length_nil, List.length_take, List.length_drop, List.length_dropLast, List.length_reverse]; omega), ?_⟩ | refine ⟨sz (by simp only [*, p110, p101, sM, sE, s1, s0, s110, s101, txt_cat, txt_len, cut_to, cut_from, cut_init, List.length_append, List.length_cons, List.length_nil, List.length_take, List.length_drop, List.length_dropLast, List.length_reverse]; omega), ?_⟩))
          rw [sE]
          exact q
        | false =>
          (repeat (first | refine ⟨_, rfl, ?_⟩ | refine ⟨rfl, ?_⟩ | refine ⟨_, _, rfl, rfl, ?_⟩ | refine ⟨_, _, rfl, ?_⟩ | refine ⟨hz, ?_⟩ | refine ⟨(show 3 ≤ sizeLine by decide), ?_⟩ | refine ⟨(show 2 ≤ sizeLine by decide), ?_⟩ | refine ⟨by decide +kernel, ?_⟩ | refine ⟨.inl ⟨by decide, by decide⟩, ?_⟩ | refine ⟨(by show (0 : Int) < _; omega), ?_⟩ | refine ⟨⟨by omega, by omega⟩, ?_⟩ | refine .inl ⟨_, rfl, sz (by simp only [*, p110, p101, sM, sE, s1, s0, s110, s101, txt_cat, txt_len, cut_to, cut_from, cut_init, List.length_append, List.length_cons, List.length_nil, List.length_take, List.length_drop, List.length_dropLast, List.length_reverse]; omega), ?_⟩ | refine ⟨sz (by simp only [*, p110, p101, sM, sE, s1, s0, s110, s101, txt_cat, txt_len, cut_to, cut_from, cut_init, List.length_append, List.length_cons, List.length_nil, List.length_take, List.length_drop, List.length_dropLast, List.length_reverse]; omega), ?_⟩))
          rw [cut_init, List.dropLast_concat]
          exact q
      · rw [show decide (V.int d = V.int 0) = false from decide_eq_false fun z => c (V.int.inj z)]
        rw [if_neg (fun z => c (Option.some.inj z.1))] at q
        rw [sE]
        exact q
end
end EH

set_option Elab.async false
set_option linter.all false
set_option maxRecDepth 100000
set_option maxHeartbeats 4000000
namespace EH
open PySem PySem.Spec PyProof.Rows L2 LamX EL EM
theorem wds_snoc (l : List W) (z : W) : wds (l ++ [z]) = wds l ++ [V.str (txt z)] := by
  unfold wds
  rw [List.map_append]
  rfl
theorem wds_len (l : List W) : (wds l).length = l.length := List.length_map _
theorem orb_last (f : W → W) (x : W) (i : Nat) : atI (wds (orb f x (i + 1))) (-1) = some (.str (txt (it f i x))) := by
  rw [orb_succ, wds_snoc]
  exact atI_last _ _
section
variable {Pg : Program} {w : World} {K : PySem.W.Frag} {mg : Str → Option Value} {base : Heap}
def N_law_round : List Str := ["_law_words", "_law_word_here", "_law_found", "_law_step", "_law_later"]
theorem sc_law_round : FnScope N_law_round ["_law_words", "_law_word_here"] (defScope s_law_round) := ⟨rfl, rfl, rfl, by decide +kernel, rfl, by decide +kernel, by decide +kernel⟩
def sp_lround (K : PySem.W.Frag) : Sp := fun vs H Q _ => ∃ (a : Addr) (ws : List W) (x : W) (p : Nat) (O : List W), vs = [.ref a, .str (txt x)] ∧ H a = some (.lst (wds ws)) ∧ (∀ z ∈ ws, z.take 3 = p110) ∧ PerOk (behind (Bm ws)) x p O ∧ (∀ j, j < p → ∃ i, fpA 0 (swapped (Bm ws) (it (behind (Bm ws)) j x)) 0 = some i) ∧ ∀ L H', Ex K H H' → H L = none → H' L = some (.lst (wds O)) → Q (.ref L) H'
theorem c_law_round (T : Tx K mg) : Cl Pg w K mg base 3 "_law_round" (sp_lround K) :=
  have c_law_turned := c_law_turned (Pg := Pg) (w := w) (base := base) T
  have c_law_swapped := c_law_swapped (Pg := Pg) (w := w) (base := base) T
  calD T.g_law_round T.f_law_round sc_law_round (fun _ _ _ _ _ _ us hl => match us, hl with | [_, _], _ => rfl) (fun vs H Q E h => by obtain ⟨i, _, _, _, _, rfl, _⟩ := h; rfl) fun cdv A outer st H vs Q E hr h => by
    obtain ⟨a, ws, x, p, O, rfl, ha, hw, ⟨hp, hper, hle, rfl⟩, hf, hQ⟩ := h
    refine ⟨_, (pss_cons (ps_set (i := 2) sc_law_round.nd rfl (Or.inl rfl) (pe_lst (pa_cons (pv 1) pa_nil)))
      (pss_cons (ps_for PassesOwn.never rfl (pi_range1 (by rfl) T.n_range (pa_cons pe_int pa_nil)) (pg_name (i := 3) sc_law_round.nd rfl (Or.inl rfl)) (pss_cons (ps_set (i := 4) sc_law_round.nd rfl (Or.inl rfl) (C8.pe_c c_law_turned hr (by decide) (by rfl) (pa_cons (C8.pe_c c_law_swapped hr (by decide) (by rfl) (pa_cons (pv 0) (pa_cons (pe_ix ix_list (pv 2) (pe_un un_neg pe_int) (fun _ _ => rfl)) pa_nil))) pa_nil)))
      (pss_cons (ps_if (pt_cmpR op_eq (pv 4) (pv 1) (nomark _)) (pss_one ps_break) pss_nil)
      (pss_one (ps_expr (pe_bm PySem.F.plainAttrs_list PySem.F.slot_list_append PySem.F.type_list_append mt_append (pv 2) (pa_cons (pv 4) pa_nil)))))))
      (pss_one (ps_ret (pv 2))))), ?_⟩
    (repeat (first | refine ⟨_, rfl, ?_⟩ | refine ⟨rfl, ?_⟩ | refine ⟨_, _, rfl, rfl, ?_⟩ | refine ⟨_, _, rfl, ?_⟩ | refine ⟨hz, ?_⟩ | refine ⟨(show 3 ≤ sizeLine by decide), ?_⟩ | refine ⟨(show 2 ≤ sizeLine by decide), ?_⟩ | refine ⟨by decide +kernel, ?_⟩ | refine ⟨.inl ⟨by decide, by decide⟩, ?_⟩ | refine ⟨(by show (0 : Int) < _; omega), ?_⟩ | refine ⟨⟨by omega, by omega⟩, ?_⟩ | refine .inl ⟨_, rfl, sz (by simp only [*, p110, p101, sM, sE, s1, s0, s110, s101, txt_cat, txt_len, cut_to, cut_from, cut_init, List.length_append, List.length_cons, List.length_nil, List.length_take, List.length_drop, List.length_dropLast, List.length_reverse]; omega), ?_⟩ | refine ⟨sz (by simp only [*, p110, p101, sM, sE, s1, s0, s110, s101, txt_cat, txt_len, cut_to, cut_from, cut_init, List.length_append, List.length_cons, List.length_nil, List.length_take, List.length_drop, List.length_dropLast, List.length_reverse]; omega), ?_⟩))
    intro L hL
    (repeat (first | refine ⟨_, rfl, ?_⟩ | refine ⟨rfl, ?_⟩ | refine ⟨_, _, rfl, rfl, ?_⟩ | refine ⟨_, _, rfl, ?_⟩ | refine ⟨hz, ?_⟩ | refine ⟨(show 3 ≤ sizeLine by decide), ?_⟩ | refine ⟨(show 2 ≤ sizeLine by decide), ?_⟩ | refine ⟨by decide +kernel, ?_⟩ | refine ⟨.inl ⟨by decide, by decide⟩, ?_⟩ | refine ⟨(by show (0 : Int) < _; omega), ?_⟩ | refine ⟨⟨by omega, by omega⟩, ?_⟩ | refine .inl ⟨_, rfl, sz (by simp only [*, p110, p101, sM, sE, s1, s0, s110, s101, txt_cat, txt_len, cut_to, cut_from, cut_init, List.length_append, List.length_cons, List.length_nil, List.length_take, List.length_drop, List.length_dropLast, List.length_reverse]; omega), ?_⟩ | refine ⟨sz (by simp only [*, p110, p101, sM, sE, s1, s0, s110, s101, txt_cat, txt_len, cut_to, cut_from, cut_init, List.length_append, List.length_cons, List.length_nil, List.length_take, List.length_drop, List.length_dropLast, List.length_reverse]; omega), ?_⟩))
    generalize hf0 : behind (Bm ws) = f at hper hle hf hQ
    refine for_rng (fun i σ H' => ∃ (a3 a4 : Option V), i + 1 ≤ p ∧ σ = [some (.ref a), some (.str (txt x)), some (.ref L), a3, a4] ∧ Ex K H H' ∧ H' L = some (.lst (wds (orb f x (i + 1))))) ⟨none, none, hper.pos, rfl, Ex.new hL, upd_same⟩ (fun i σ H1 hi hp1 => ?_) fun σ H1 hp1 => ?_
    · obtain ⟨a3, a4, hip, rfl, e1, l1⟩ := hp1
      (repeat (first | refine ⟨_, rfl, ?_⟩ | refine ⟨rfl, ?_⟩ | refine ⟨_, _, rfl, rfl, ?_⟩ | refine ⟨_, _, rfl, ?_⟩ | refine ⟨hz, ?_⟩ | refine ⟨(show 3 ≤ sizeLine by decide), ?_⟩ | refine ⟨(show 2 ≤ sizeLine by decide), ?_⟩ | refine ⟨by decide +kernel, ?_⟩ | refine ⟨.inl ⟨by decide, by decide⟩, ?_⟩ | refine ⟨(by show (0 : Int) < _; omega), ?_⟩ | refine ⟨⟨by omega, by omega⟩, ?_⟩ | refine .inl ⟨_, rfl, sz (by simp only [*, p110, p101, sM, sE, s1, s0, s110, s101, txt_cat, txt_len, cut_to, cut_from, cut_init, List.length_append, List.length_cons, List.length_nil, List.length_take, List.length_drop, List.length_dropLast, List.length_reverse]; omega), ?_⟩ | refine ⟨sz (by simp only [*, p110, p101, sM, sE, s1, s0, s110, s101, txt_cat, txt_len, cut_to, cut_from, cut_init, List.length_append, List.length_cons, List.length_nil, List.length_take, List.length_drop, List.length_dropLast, List.length_reverse]; omega), ?_⟩))
      refine ⟨L, _, _, _, rfl, rfl, .inl (.inl l1), orb_last f x i, ?_⟩
      have hlx := hle i (by omega)
      have hsw := swapped_le (Bm ws) (it f i x)
      (repeat (first | refine ⟨_, rfl, ?_⟩ | refine ⟨rfl, ?_⟩ | refine ⟨_, _, rfl, rfl, ?_⟩ | refine ⟨_, _, rfl, ?_⟩ | refine ⟨hz, ?_⟩ | refine ⟨(show 3 ≤ sizeLine by decide), ?_⟩ | refine ⟨(show 2 ≤ sizeLine by decide), ?_⟩ | refine ⟨by decide +kernel, ?_⟩ | refine ⟨.inl ⟨by decide, by decide⟩, ?_⟩ | refine ⟨(by show (0 : Int) < _; omega), ?_⟩ | refine ⟨⟨by omega, by omega⟩, ?_⟩ | refine .inl ⟨_, rfl, sz (by simp only [*, p110, p101, sM, sE, s1, s0, s110, s101, txt_cat, txt_len, cut_to, cut_from, cut_init, List.length_append, List.length_cons, List.length_nil, List.length_take, List.length_drop, List.length_dropLast, List.length_reverse]; omega), ?_⟩ | refine ⟨sz (by simp only [*, p110, p101, sM, sE, s1, s0, s110, s101, txt_cat, txt_len, cut_to, cut_from, cut_init, List.length_append, List.length_cons, List.length_nil, List.length_take, List.length_drop, List.length_dropLast, List.length_reverse]; omega), ?_⟩))
      refine ⟨a, ws, _, rfl, e1.lst ha, hw, by omega, fun H2 e2 => ?_⟩
      obtain ⟨i0, h0⟩ := hf i (by omega)
      refine ⟨_, i0, rfl, h0, by omega, fun H3 e3 => ?_⟩
      have et : turn (swapped (Bm ws) (it f i x)) = it f (i + 1) x := by
        show behind (Bm ws) (it f i x) = f (it f i x)
        rw [hf0]
      rw [et]
      have e123 := (e1.trans e2).trans e3
      have l3 := (e2.trans e3).lst l1
      (repeat (first | refine ⟨_, rfl, ?_⟩ | refine ⟨rfl, ?_⟩ | refine ⟨_, _, rfl, rfl, ?_⟩ | refine ⟨_, _, rfl, ?_⟩ | refine ⟨hz, ?_⟩ | refine ⟨(show 3 ≤ sizeLine by decide), ?_⟩ | refine ⟨(show 2 ≤ sizeLine by decide), ?_⟩ | refine ⟨by decide +kernel, ?_⟩ | refine ⟨.inl ⟨by decide, by decide⟩, ?_⟩ | refine ⟨(by show (0 : Int) < _; omega), ?_⟩ | refine ⟨⟨by omega, by omega⟩, ?_⟩ | refine .inl ⟨_, rfl, sz (by simp only [*, p110, p101, sM, sE, s1, s0, s110, s101, txt_cat, txt_len, cut_to, cut_from, cut_init, List.length_append, List.length_cons, List.length_nil, List.length_take, List.length_drop, List.length_dropLast, List.length_reverse]; omega), ?_⟩ | refine ⟨sz (by simp only [*, p110, p101, sM, sE, s1, s0, s110, s101, txt_cat, txt_len, cut_to, cut_from, cut_init, List.length_append, List.length_cons, List.length_nil, List.length_take, List.length_drop, List.length_dropLast, List.length_reverse]; omega), ?_⟩))
      rw [txt_dec]
      by_cases c : i + 1 = p
      · have c2 : it f (i + 1) x = x := by rw [c]; exact hper.ret
        rw [decide_eq_true c2]
        (repeat (first | refine ⟨_, rfl, ?_⟩ | refine ⟨rfl, ?_⟩ | refine ⟨_, _, rfl, rfl, ?_⟩ | refine ⟨_, _, rfl, ?_⟩ | refine ⟨hz, ?_⟩ | refine ⟨(show 3 ≤ sizeLine by decide), ?_⟩ | refine ⟨(show 2 ≤ sizeLine by decide), ?_⟩ | refine ⟨by decide +kernel, ?_⟩ | refine ⟨.inl ⟨by decide, by decide⟩, ?_⟩ | refine ⟨(by show (0 : Int) < _; omega), ?_⟩ | refine ⟨⟨by omega, by omega⟩, ?_⟩ | refine .inl ⟨_, rfl, sz (by simp only [*, p110, p101, sM, sE, s1, s0, s110, s101, txt_cat, txt_len, cut_to, cut_from, cut_init, List.length_append, List.length_cons, List.length_nil, List.length_take, List.length_drop, List.length_dropLast, List.length_reverse]; omega), ?_⟩ | refine ⟨sz (by simp only [*, p110, p101, sM, sE, s1, s0, s110, s101, txt_cat, txt_len, cut_to, cut_from, cut_init, List.length_append, List.length_cons, List.length_nil, List.length_take, List.length_drop, List.length_dropLast, List.length_reverse]; omega), ?_⟩))
        refine hQ L H3 e123 hL ?_
        rw [← c]
        exact l3
      · have c2 : it f (i + 1) x ≠ x := hper.no (i + 1) (by omega) (by omega)
        rw [decide_eq_false c2]
        (repeat (first | refine ⟨_, rfl, ?_⟩ | refine ⟨rfl, ?_⟩ | refine ⟨_, _, rfl, rfl, ?_⟩ | refine ⟨_, _, rfl, ?_⟩ | refine ⟨hz, ?_⟩ | refine ⟨(show 3 ≤ sizeLine by decide), ?_⟩ | refine ⟨(show 2 ≤ sizeLine by decide), ?_⟩ | refine ⟨by decide +kernel, ?_⟩ | refine ⟨.inl ⟨by decide, by decide⟩, ?_⟩ | refine ⟨(by show (0 : Int) < _; omega), ?_⟩ | refine ⟨⟨by omega, by omega⟩, ?_⟩ | refine .inl ⟨_, rfl, sz (by simp only [*, p110, p101, sM, sE, s1, s0, s110, s101, txt_cat, txt_len, cut_to, cut_from, cut_init, List.length_append, List.length_cons, List.length_nil, List.length_take, List.length_drop, List.length_dropLast, List.length_reverse]; omega), ?_⟩ | refine ⟨sz (by simp only [*, p110, p101, sM, sE, s1, s0, s110, s101, txt_cat, txt_len, cut_to, cut_from, cut_init, List.length_append, List.length_cons, List.length_nil, List.length_take, List.length_drop, List.length_dropLast, List.length_reverse]; omega), ?_⟩))
        refine ⟨.inl ⟨rfl, _, .inl (.inl l3)⟩, ?_⟩
        (repeat (first | refine ⟨_, rfl, ?_⟩ | refine ⟨rfl, ?_⟩ | refine ⟨_, _, rfl, rfl, ?_⟩ | refine ⟨_, _, rfl, ?_⟩ | refine ⟨hz, ?_⟩ | refine ⟨(show 3 ≤ sizeLine by decide), ?_⟩ | refine ⟨(show 2 ≤ sizeLine by decide), ?_⟩ | refine ⟨by decide +kernel, ?_⟩ | refine ⟨.inl ⟨by decide, by decide⟩, ?_⟩ | refine ⟨(by show (0 : Int) < _; omega), ?_⟩ | refine ⟨⟨by omega, by omega⟩, ?_⟩ | refine .inl ⟨_, rfl, sz (by simp only [*, p110, p101, sM, sE, s1, s0, s110, s101, txt_cat, txt_len, cut_to, cut_from, cut_init, List.length_append, List.length_cons, List.length_nil, List.length_take, List.length_drop, List.length_dropLast, List.length_reverse]; omega), ?_⟩ | refine ⟨sz (by simp only [*, p110, p101, sM, sE, s1, s0, s110, s101, txt_cat, txt_len, cut_to, cut_from, cut_init, List.length_append, List.length_cons, List.length_nil, List.length_take, List.length_drop, List.length_dropLast, List.length_reverse]; omega), ?_⟩))
        refine ⟨L, _, _, rfl, rfl, l3, ?_, ?_⟩
        · rw [wds_len, orb_len]
          exact Nat.lt_of_le_of_lt (by omega : i + 1 ≤ 1000) (by decide)
        refine ⟨_, _, by omega, rfl, e123.mutL hL l3 _, ?_⟩
        rw [upd_same, orb_succ f x (i + 1), wds_snoc]
    · obtain ⟨a3, a4, hip, _⟩ := hp1
      exfalso
      have : (5000 : Int).toNat = 5000 := rfl
      omega
def N_law_gone : List Str := ["_law_book", "_law_state_here", "_law_most", "_law_found", "_law_step", "_law_later"]
theorem sc_law_gone : FnScope N_law_gone ["_law_book", "_law_state_here", "_law_most"] (defScope s_law_gone) := ⟨rfl, rfl, rfl, by decide +kernel, rfl, by decide +kernel, by decide +kernel⟩
def sp_lgone (K : PySem.W.Frag) : Sp := fun vs H Q _ => ∃ (b : Addr) (n : Nat) (ws : List W) (x : W) (m p : Nat) (f : W → W), vs = [.ref b, .str (txt x), .int (m : Nat)] ∧ BookAt K H b (n : Nat) ws ∧ Tab K H ∧ f = (fun y => stateIn (nextH (Bm ws) (homeOf y))) ∧ Per f x p ∧ p ≤ m ∧ m ≤ 5000 ∧ (∀ j, j ≤ p → StOk (it f j x) ∧ (it f j x).length / 2 = n) ∧ ∀ L H', Ex K H H' → H L = none → H' L = some (.lst (wds (orb f x p))) → Q (.ref L) H'
theorem c_law_gone (T : Tx K mg) (TB : TabB base mg (cS K) (P0 K)) : Cl Pg w K mg base 8 "_law_gone" (sp_lgone K) :=
  have c_next_by := c_next_by (Pg := Pg) (w := w) T TB
  calD T.g_law_gone T.f_law_gone sc_law_gone (fun _ _ _ _ _ _ us hl => match us, hl with | [_, _, _], _ => rfl) (fun vs H Q E h => by obtain ⟨i, _, _, _, _, _, _, rfl, _⟩ := h; rfl) fun cdv A outer st H vs Q E hr h => by
    obtain ⟨b, n, ws, x, m, p, f, rfl, hb, ht, hf0, hper, hpm, hm, hok, hQ⟩ := h
    refine ⟨_, (pss_cons (ps_set (i := 3) sc_law_gone.nd rfl (Or.inl rfl) (pe_lst (pa_cons (pv 1) pa_nil)))
      (pss_cons (ps_for PassesOwn.never rfl (pi_range1 (by rfl) T.n_range (pa_cons (pv 2) pa_nil)) (pg_name (i := 4) sc_law_gone.nd rfl (Or.inl rfl)) (pss_cons (ps_set (i := 5) sc_law_gone.nd rfl (Or.inl rfl) (C8.pe_c c_next_by hr (by decide) (by rfl) (pa_cons (pv 0) (pa_cons (pe_ix ix_list (pv 3) (pe_un un_neg pe_int) (fun _ _ => rfl)) pa_nil))))
      (pss_cons (ps_if (pt_cmpR op_eq (pv 5) (pv 1) (nomark _)) (pss_one (ps_ret (pv 3))) pss_nil)
      (pss_one (ps_expr (pe_bm PySem.F.plainAttrs_list PySem.F.slot_list_append PySem.F.type_list_append mt_append (pv 3) (pa_cons (pv 5) pa_nil)))))))
      (pss_one (ps_ret (pv 3))))), ?_⟩
    (repeat (first | refine ⟨_, rfl, ?_⟩ | refine ⟨rfl, ?_⟩ | refine ⟨_, _, rfl, rfl, ?_⟩ | refine ⟨_, _, rfl, ?_⟩ | refine ⟨hz, ?_⟩ | refine ⟨(show 3 ≤ sizeLine by decide), ?_⟩ | refine ⟨(show 2 ≤ sizeLine by decide), ?_⟩ | refine ⟨by decide +kernel, ?_⟩ | refine ⟨.inl ⟨by decide, by decide⟩, ?_⟩ | refine ⟨(by show (0 : Int) < _; omega), ?_⟩ | refine ⟨⟨by omega, by omega⟩, ?_⟩ | refine .inl ⟨_, rfl, sz (by simp only [*, p110, p101, sM, sE, s1, s0, s110, s101, txt_cat, txt_len, cut_to, cut_from, cut_init, List.length_append, List.length_cons, List.length_nil, List.length_take, List.length_drop, List.length_dropLast, List.length_reverse]; omega), ?_⟩ | refine ⟨sz (by simp only [*, p110, p101, sM, sE, s1, s0, s110, s101, txt_cat, txt_len, cut_to, cut_from, cut_init, List.length_append, List.length_cons, List.length_nil, List.length_take, List.length_drop, List.length_dropLast, List.length_reverse]; omega), ?_⟩))
    intro L hL
    (repeat (first | refine ⟨_, rfl, ?_⟩ | refine ⟨rfl, ?_⟩ | refine ⟨_, _, rfl, rfl, ?_⟩ | refine ⟨_, _, rfl, ?_⟩ | refine ⟨hz, ?_⟩ | refine ⟨(show 3 ≤ sizeLine by decide), ?_⟩ | refine ⟨(show 2 ≤ sizeLine by decide), ?_⟩ | refine ⟨by decide +kernel, ?_⟩ | refine ⟨.inl ⟨by decide, by decide⟩, ?_⟩ | refine ⟨(by show (0 : Int) < _; omega), ?_⟩ | refine ⟨⟨by omega, by omega⟩, ?_⟩ | refine .inl ⟨_, rfl, sz (by simp only [*, p110, p101, sM, sE, s1, s0, s110, s101, txt_cat, txt_len, cut_to, cut_from, cut_init, List.length_append, List.length_cons, List.length_nil, List.length_take, List.length_drop, List.length_dropLast, List.length_reverse]; omega), ?_⟩ | refine ⟨sz (by simp only [*, p110, p101, sM, sE, s1, s0, s110, s101, txt_cat, txt_len, cut_to, cut_from, cut_init, List.length_append, List.length_cons, List.length_nil, List.length_take, List.length_drop, List.length_dropLast, List.length_reverse]; omega), ?_⟩))
    refine ⟨by omega, by omega, ?_⟩
    refine for_rng (fun i σ H' => ∃ (a4 a5 : Option V), i + 1 ≤ p ∧ σ = [some (.ref b), some (.str (txt x)), some (.int (m : Nat)), some (.ref L), a4, a5] ∧ Ex K H H' ∧ H' L = some (.lst (wds (orb f x (i + 1))))) ⟨none, none, hper.pos, rfl, Ex.new hL, upd_same⟩ (fun i σ H1 hi hp1 => ?_) fun σ H1 hp1 => ?_
    · obtain ⟨a4, a5, hip, rfl, e1, l1⟩ := hp1
      (repeat (first | refine ⟨_, rfl, ?_⟩ | refine ⟨rfl, ?_⟩ | refine ⟨_, _, rfl, rfl, ?_⟩ | refine ⟨_, _, rfl, ?_⟩ | refine ⟨hz, ?_⟩ | refine ⟨(show 3 ≤ sizeLine by decide), ?_⟩ | refine ⟨(show 2 ≤ sizeLine by decide), ?_⟩ | refine ⟨by decide +kernel, ?_⟩ | refine ⟨.inl ⟨by decide, by decide⟩, ?_⟩ | refine ⟨(by show (0 : Int) < _; omega), ?_⟩ | refine ⟨⟨by omega, by omega⟩, ?_⟩ | refine .inl ⟨_, rfl, sz (by simp only [*, p110, p101, sM, sE, s1, s0, s110, s101, txt_cat, txt_len, cut_to, cut_from, cut_init, List.length_append, List.length_cons, List.length_nil, List.length_take, List.length_drop, List.length_dropLast, List.length_reverse]; omega), ?_⟩ | refine ⟨sz (by simp only [*, p110, p101, sM, sE, s1, s0, s110, s101, txt_cat, txt_len, cut_to, cut_from, cut_init, List.length_append, List.length_cons, List.length_nil, List.length_take, List.length_drop, List.length_dropLast, List.length_reverse]; omega), ?_⟩))
      refine ⟨L, _, _, _, rfl, rfl, .inl (.inl l1), orb_last f x i, ?_⟩
      obtain ⟨ho1, ho2⟩ := hok i (by omega)
      refine ⟨b, n, ws, _, rfl, hb.ex e1, e1.t ht, ho1, ho2, fun H2 e2 => ?_⟩
      have et : stateIn (nextH (Bm ws) (homeOf (it f i x))) = it f (i + 1) x := by
        show _ = f (it f i x)
        rw [hf0]
      rw [et]
      have e12 := e1.trans e2
      have l2 := e2.lst l1
      (repeat (first | refine ⟨_, rfl, ?_⟩ | refine ⟨rfl, ?_⟩ | refine ⟨_, _, rfl, rfl, ?_⟩ | refine ⟨_, _, rfl, ?_⟩ | refine ⟨hz, ?_⟩ | refine ⟨(show 3 ≤ sizeLine by decide), ?_⟩ | refine ⟨(show 2 ≤ sizeLine by decide), ?_⟩ | refine ⟨by decide +kernel, ?_⟩ | refine ⟨.inl ⟨by decide, by decide⟩, ?_⟩ | refine ⟨(by show (0 : Int) < _; omega), ?_⟩ | refine ⟨⟨by omega, by omega⟩, ?_⟩ | refine .inl ⟨_, rfl, sz (by simp only [*, p110, p101, sM, sE, s1, s0, s110, s101, txt_cat, txt_len, cut_to, cut_from, cut_init, List.length_append, List.length_cons, List.length_nil, List.length_take, List.length_drop, List.length_dropLast, List.length_reverse]; omega), ?_⟩ | refine ⟨sz (by simp only [*, p110, p101, sM, sE, s1, s0, s110, s101, txt_cat, txt_len, cut_to, cut_from, cut_init, List.length_append, List.length_cons, List.length_nil, List.length_take, List.length_drop, List.length_dropLast, List.length_reverse]; omega), ?_⟩))
      rw [txt_dec]
      by_cases c : i + 1 = p
      · have c2 : it f (i + 1) x = x := by rw [c]; exact hper.ret
        rw [decide_eq_true c2]
        (repeat (first | refine ⟨_, rfl, ?_⟩ | refine ⟨rfl, ?_⟩ | refine ⟨_, _, rfl, rfl, ?_⟩ | refine ⟨_, _, rfl, ?_⟩ | refine ⟨hz, ?_⟩ | refine ⟨(show 3 ≤ sizeLine by decide), ?_⟩ | refine ⟨(show 2 ≤ sizeLine by decide), ?_⟩ | refine ⟨by decide +kernel, ?_⟩ | refine ⟨.inl ⟨by decide, by decide⟩, ?_⟩ | refine ⟨(by show (0 : Int) < _; omega), ?_⟩ | refine ⟨⟨by omega, by omega⟩, ?_⟩ | refine .inl ⟨_, rfl, sz (by simp only [*, p110, p101, sM, sE, s1, s0, s110, s101, txt_cat, txt_len, cut_to, cut_from, cut_init, List.length_append, List.length_cons, List.length_nil, List.length_take, List.length_drop, List.length_dropLast, List.length_reverse]; omega), ?_⟩ | refine ⟨sz (by simp only [*, p110, p101, sM, sE, s1, s0, s110, s101, txt_cat, txt_len, cut_to, cut_from, cut_init, List.length_append, List.length_cons, List.length_nil, List.length_take, List.length_drop, List.length_dropLast, List.length_reverse]; omega), ?_⟩))
        refine hQ L H2 e12 hL ?_
        rw [← c]
        exact l2
      · have c2 : it f (i + 1) x ≠ x := hper.no (i + 1) (by omega) (by omega)
        rw [decide_eq_false c2]
        (repeat (first | refine ⟨_, rfl, ?_⟩ | refine ⟨rfl, ?_⟩ | refine ⟨_, _, rfl, rfl, ?_⟩ | refine ⟨_, _, rfl, ?_⟩ | refine ⟨hz, ?_⟩ | refine ⟨(show 3 ≤ sizeLine by decide), ?_⟩ | refine ⟨(show 2 ≤ sizeLine by decide), ?_⟩ | refine ⟨by decide +kernel, ?_⟩ | refine ⟨.inl ⟨by decide, by decide⟩, ?_⟩ | refine ⟨(by show (0 : Int) < _; omega), ?_⟩ | refine ⟨⟨by omega, by omega⟩, ?_⟩ | refine .inl ⟨_, rfl, sz (by simp only [*, p110, p101, sM, sE, s1, s0, s110, s101, txt_cat, txt_len, cut_to, cut_from, cut_init, List.length_append, List.length_cons, List.length_nil, List.length_take, List.length_drop, List.length_dropLast, List.length_reverse]; omega), ?_⟩ | refine ⟨sz (by simp only [*, p110, p101, sM, sE, s1, s0, s110, s101, txt_cat, txt_len, cut_to, cut_from, cut_init, List.length_append, List.length_cons, List.length_nil, List.length_take, List.length_drop, List.length_dropLast, List.length_reverse]; omega), ?_⟩))
        refine ⟨.inl ⟨rfl, _, .inl (.inl l2)⟩, ?_⟩
        (repeat (first | refine ⟨_, rfl, ?_⟩ | refine ⟨rfl, ?_⟩ | refine ⟨_, _, rfl, rfl, ?_⟩ | refine ⟨_, _, rfl, ?_⟩ | refine ⟨hz, ?_⟩ | refine ⟨(show 3 ≤ sizeLine by decide), ?_⟩ | refine ⟨(show 2 ≤ sizeLine by decide), ?_⟩ | refine ⟨by decide +kernel, ?_⟩ | refine ⟨.inl ⟨by decide, by decide⟩, ?_⟩ | refine ⟨(by show (0 : Int) < _; omega), ?_⟩ | refine ⟨⟨by omega, by omega⟩, ?_⟩ | refine .inl ⟨_, rfl, sz (by simp only [*, p110, p101, sM, sE, s1, s0, s110, s101, txt_cat, txt_len, cut_to, cut_from, cut_init, List.length_append, List.length_cons, List.length_nil, List.length_take, List.length_drop, List.length_dropLast, List.length_reverse]; omega), ?_⟩ | refine ⟨sz (by simp only [*, p110, p101, sM, sE, s1, s0, s110, s101, txt_cat, txt_len, cut_to, cut_from, cut_init, List.length_append, List.length_cons, List.length_nil, List.length_take, List.length_drop, List.length_dropLast, List.length_reverse]; omega), ?_⟩))
        refine ⟨L, _, _, rfl, rfl, l2, ?_, ?_⟩
        · rw [wds_len, orb_len]
          exact Nat.lt_of_le_of_lt (by omega : i + 1 ≤ 10000) (by decide)
        refine ⟨_, _, by omega, rfl, e12.mutL hL l2 _, ?_⟩
        rw [upd_same, orb_succ f x (i + 1), wds_snoc]
    · obtain ⟨a4, a5, hip, _⟩ := hp1
      exfalso
      omega
end
end EH

set_option Elab.async false
set_option linter.all false
set_option maxRecDepth 100000
set_option maxHeartbeats 4000000
namespace EM
/-- the state behind -/
def nxS (B : W → Bool) (y : W) : W := stateIn (nextH B (homeOf y))
def diffs (x y : W) (i : Nat) : List Nat := (List.range i).filter fun k => decide (x[k]? ≠ y[k]?)
end EM
namespace EH
open PySem PySem.Spec PyProof.Rows L2 LamX EL EM
/-- all that the law's way asks of a round of states -/
structure Way (n : Nat) (B : W → Bool) (x0 : W) (p k : Nat) (y0 : W) : Prop where
  per : Per (nxS B) x0 p
  st : ∀ j, StOk (it (nxS B) j x0) ∧ (it (nxS B) j x0).length = 2 * n + 1
  pk : p = k * (4 * n + 2)
  k1 : 1 ≤ k
  lows : ((orb (nxS B) x0 p).map lowWord).filter (fun z => decide (z ≠ [])) = orb (behind B) y0 k
  rnd : PerOk (behind B) y0 k (orb (behind B) y0 k)
  fit : ∀ j, j < k → ∃ i, fpA 0 (swapped B (it (behind B) j y0)) 0 = some i
  post0 : PerOk (behind B) (postH B (homeOf x0)).1 k (orb (behind B) (postH B (homeOf x0)).1 k)
  len0 : (postH B (homeOf x0)).1.length = 2 * n
  lamp : ∀ j, (diffs (it (nxS B) j x0) (it (nxS B) (j + 1) x0) (2 * n + 1)).length = 1
  bef : ∀ j, stateIn (beforeH B (homeOf (it (nxS B) (j + 1) x0))) = it (nxS B) j x0
  post : ∀ j, j < p → ∃ t, t < p ∧ it (nxS B) t x0 = (postH B (homeOf (it (nxS B) j x0))).1 ++ [false] ∧ (postH B (homeOf (it (nxS B) j x0))).2 < 4 * n + 2 ∧ (((j : Nat) : Int) - (t : Nat)) % (p : Nat) = ((postH B (homeOf (it (nxS B) j x0))).2 : Nat)
  steps : ∀ j, j < p → ∃ i, (orb (behind B) (postH B (homeOf x0)).1 k)[i]? = some (postH B (homeOf (it (nxS B) j x0))).1 ∧ stepM i (wide (postH B (homeOf x0)).1) (postH B (homeOf (it (nxS B) j x0))).2 (postH B (homeOf x0)).2 k = (j : Nat)
theorem log_ok {i : Int} (h : i.natAbs ≤ 1000000000) : i.natAbs.log2 < 1920 := by
  by_cases z : i.natAbs = 0
  · rw [z]; decide
  · exact Nat.lt_of_lt_of_le ((Nat.log2_lt (k := 31) z).mpr (Nat.lt_of_le_of_lt h (by decide))) (by decide)
theorem nd_inj {α : Type} {O : List α} {i j : Nat} {a : α} (h : O.Nodup) (hi : O[i]? = some a) (hj : O[j]? = some a) : i = j := by
  rcases Nat.lt_trichotomy i j with q | q | q
  · exact absurd rfl (nd_before h hj q hi)
  · exact q
  · exact absurd rfl (nd_before h hi q hj)
section
variable {Pg : Program} {w : World} {K : PySem.W.Frag} {mg : Str → Option Value} {base : Heap}
def N_law_way_right : List Str := ["_law_reed_here", "_law_book", "_law_words", "_law_row", "_law_wide", "_law_lows", "_law_lap", "_law_at", "_law_state_here", "_law_later", "_law_word_here", "_law_offset", "_law_first", "_law_lamp"]
theorem sc_law_way_right : FnScope N_law_way_right ["_law_reed_here", "_law_book", "_law_words", "_law_row"] (defScope s_law_way_right) := ⟨rfl, rfl, rfl, by decide +kernel, rfl, by decide +kernel, by decide +kernel⟩
def sp_way (K : PySem.W.Frag) : Sp := fun vs H Q _ => ∃ (r c b a o : Addr) (m n p k : Nat) (ws ws' : List W) (x0 y0 : W), vs = [.ref r, .ref b, .ref a, .ref o] ∧ RdAt K H r c m ∧ m + 9 ≤ 1000000 ∧ BookAt K H b (n : Nat) ws' ∧ Tab K H ∧ H a = some (.lst (wds ws)) ∧ (∀ z ∈ ws, z.take 3 = p110) ∧ Bm ws = Bm ws' ∧ 2 ≤ n ∧ n ≤ 5 ∧ p ≤ 1000 ∧ Way n (Bm ws') x0 p k y0 ∧ H o = some (.lst (wds (orb (nxS (Bm ws')) x0 p))) ∧ ∀ H', Ey K H H' → RdAt K H' r c (m + 9) → Q (.bl true) H'
theorem c_law_way_right (T : Tx K mg) (TB : TabB base mg (cS K) (P0 K)) : Cl Pg w K mg base 8 "_law_way_right" (sp_way K) :=
  have c_law_low_word := c_law_low_word (Pg := Pg) (w := w) (base := base) T
  have c_law_round := c_law_round (Pg := Pg) (w := w) (base := base) T
  have c_law_weft := c_law_weft (Pg := Pg) (w := w) (base := base) T
  have c_round_long := c_round_long (Pg := Pg) (w := w) T TB
  have c_before_by := c_before_by (Pg := Pg) (w := w) T TB
  have c_post_by := c_post_by (Pg := Pg) (w := w) T TB
  have c_steps_by := c_steps_by (Pg := Pg) (w := w) T TB
  calD T.g_law_way_right T.f_law_way_right sc_law_way_right (fun _ _ _ _ _ _ us hl => match us, hl with | [_, _, _, _], _ => rfl) (fun vs H Q E h => by obtain ⟨_, _, _, _, _, _, _, _, _, _, _, _, _, rfl, _⟩ := h; rfl) fun cdv A outer st H vs Q E hr h => by
    obtain ⟨r, c, b, a, o, m, n, p, k, ws, ws', x0, y0, rfl, hR, hm, hb, ht, ha, hpre, hB, hn2, hn5, hp, hW, ho, hQ⟩ := h
    refine ⟨_, (pss_cons (ps_set (i := 4) sc_law_way_right.nd rfl (Or.inl rfl) (pe_op op_mul pe_int (pe_callB call_len_str (by rfl) T.n_len PySem.boot_len (pa_cons (pe_ix ix_list (pv 3) pe_int (fun _ _ => rfl)) pa_nil))))
      (pss_cons (ps_setLc (i := 5) (own := [("_law_state_here", 8)]) (g := gName 8) (by rfl) sc_law_way_right.nd rfl rfl (sw_true rfl rfl rfl (by decide +kernel)) (pi_list (pv 3)) (blkOk_by (own := [("_law_state_here", 8)]) (N := N_law_way_right) (sc := (defScope s_law_way_right)) (by decide +kernel)) (fun _ _ _ _ _ => pg_name (i := 8) sc_law_way_right.nd rfl (Or.inl rfl)) (fun _ _ _ _ _ => (pts_one (pt_cmpR op_ne (C8.pe_c c_law_low_word hr (by decide) (by rfl) (pa_cons (pv 8) pa_nil)) pe_str (nomark _)))) (fun _ _ _ _ _ => (C8.pe_c c_law_low_word hr (by decide) (by rfl) (pa_cons (pv 8) pa_nil))))
      (pss_cons (ps_if (PW.pt (pw_or (pt_cmpR (op_eqD hr.units) (pv 5) (pe_lst pa_nil) (nomark _)) (pw_or (pt_cmpR (op_neD hr.units) (C8.pe_c c_law_round hr (by decide) (by rfl) (pa_cons (pv 2) (pa_cons (pe_ix ix_list (pv 5) pe_int (fun _ _ => rfl)) pa_nil))) (pv 5) (nomark _)) (pw_or (pt_cmpR op_ne (pe_callB SkE.call_repr_int (by rfl) T.n_repr (by decide +kernel) (pa_cons (C8.pe_c c_round_long hr (by decide) (by rfl) (pa_cons (pv 1) (pa_cons (pe_ix ix_list (pv 3) pe_int (fun _ _ => rfl)) pa_nil))) pa_nil)) (pe_callB SkE.call_repr_int (by rfl) T.n_repr (by decide +kernel) (pa_cons (pe_op op_mul (pe_callB call_len_seq (by rfl) T.n_len PySem.boot_len (pa_cons (pv 5) pa_nil)) (pv 4)) pa_nil)) (nomark _)) (pw_or1 (pt_cmpR op_ne (pe_callB call_len_seq (by rfl) T.n_len PySem.boot_len (pa_cons (pv 3) pa_nil)) (pe_op op_mul (pe_callB call_len_seq (by rfl) T.n_len PySem.boot_len (pa_cons (pv 5) pa_nil)) (pv 4)) (nomark _))))))) (pss_one (ps_ret pe_bl)) pss_nil)
      (pss_cons (ps_if (pt_cmpR op_ne (pe_lenSetS (by rfl) T.n_len (by rfl) T.n_set (pv 3)) (pe_callB call_len_seq (by rfl) T.n_len PySem.boot_len (pa_cons (pv 3) pa_nil)) (nomark _)) (pss_one (ps_ret pe_bl)) pss_nil)
      (pss_cons (ps_for PassesOwn.never rfl (pi_range1 (by rfl) T.n_range (pa_cons pe_int pa_nil)) (pg_name (i := 6) sc_law_way_right.nd rfl (Or.inl rfl)) (pss_cons (ps_set (i := 7) sc_law_way_right.nd rfl (Or.inl rfl) (C8.pe_c c_law_weft hr (by decide) (by rfl) (pa_cons (pv 0) (pa_cons (pe_callB call_len_seq (by rfl) T.n_len PySem.boot_len (pa_cons (pv 3) pa_nil)) pa_nil))))
      (pss_cons (ps_asg (pe_tup (pa_cons (pe_ix ix_list (pv 3) (pv 7) (fun _ _ => rfl)) (pa_cons (pe_ix ix_list (pv 3) (pe_op op_mod (pe_callTy call_int1 (by rfl) T.n_int (by decide +kernel) (pa_cons (pe_op op_add (pv 7) pe_int) pa_nil)) (pe_callB call_len_seq (by rfl) T.n_len PySem.boot_len (pa_cons (pv 3) pa_nil))) (fun _ _ => rfl)) pa_nil))) (pg_tup rfl (pgs_cons (pg_name (i := 8) sc_law_way_right.nd rfl (Or.inr rfl)) (pgs_cons (pg_name (i := 9) sc_law_way_right.nd rfl (Or.inr rfl)) pgs_nil))))
      (pss_cons (ps_if (PW.pt (pw_or (pt_cmpR op_ne (pe_callB call_len_seq (by rfl) T.n_len PySem.boot_len (pa_cons (pe_lc (own := [("_law_lamp", 13)]) (g := gName 13) (by rfl) sc_law_way_right.nd (pi_range1 (by rfl) T.n_range (pa_cons (pe_callB call_len_str (by rfl) T.n_len PySem.boot_len (pa_cons (pv 8) pa_nil)) pa_nil)) (blkOk_by (own := [("_law_lamp", 13)]) (N := N_law_way_right) (sc := (defScope s_law_way_right)) (by decide +kernel)) (fun _ _ _ _ _ => pg_name (i := 13) sc_law_way_right.nd rfl (Or.inl rfl)) (fun _ _ _ _ _ => (pts_one (pt_cmpR op_ne (pe_ix ix_str (pv 8) (pv 13) (fun _ _ => rfl)) (pe_ix ix_str (pv 9) (pv 13) (fun _ _ => rfl)) (nomark _)))) (fun _ _ _ _ _ => (pv 13))) pa_nil)) pe_int (nomark _)) (pw_or1 (pt_cmpR op_ne (C8.pe_c c_before_by hr (by decide) (by rfl) (pa_cons (pv 1) (pa_cons (pv 9) pa_nil))) (pv 8) (nomark _))))) (pss_one (ps_ret pe_bl)) pss_nil)
      (pss_cons (ps_asg (C8.pe_c c_post_by hr (by decide) (by rfl) (pa_cons (pv 1) (pa_cons (pv 8) pa_nil))) (pg_tup rfl (pgs_cons (pg_name (i := 10) sc_law_way_right.nd rfl (Or.inl rfl)) (pgs_cons (pg_name (i := 11) sc_law_way_right.nd rfl (Or.inl rfl)) pgs_nil))))
      (pss_cons (ps_set (i := 12) sc_law_way_right.nd rfl (Or.inl rfl) (pe_bm PySem.F.plainAttrs_list PySem.F.slot_list_index PySem.F.type_list_index mt_index (pv 3) (pa_cons (pe_op op_add_str (pv 10) pe_str) pa_nil)))
      (pss_one (ps_if (PW.pt (pw_or (pt_cmpR op_ne (pe_callB SkE.call_repr_int (by rfl) T.n_repr (by decide +kernel) (pa_cons (pe_op op_mod (pe_callTy call_int1 (by rfl) T.n_int (by decide +kernel) (pa_cons (pe_op op_sub (pv 7) (pv 12)) pa_nil)) (pe_callB call_len_seq (by rfl) T.n_len PySem.boot_len (pa_cons (pv 3) pa_nil))) pa_nil)) (pe_callB SkE.call_repr_int (by rfl) T.n_repr (by decide +kernel) (pa_cons (pv 11) pa_nil)) (nomark _)) (pw_or (pt_cmpR op_ge (pv 11) (pv 4) (nomark _)) (pw_or1 (pt_cmpR op_ne (pe_callB SkE.call_repr_int (by rfl) T.n_repr (by decide +kernel) (pa_cons (C8.pe_c c_steps_by hr (by decide) (by rfl) (pa_cons (pv 1) (pa_cons (pe_ix ix_list (pv 3) pe_int (fun _ _ => rfl)) (pa_cons (pv 8) pa_nil)))) pa_nil)) (pe_callB SkE.call_repr_int (by rfl) T.n_repr (by decide +kernel) (pa_cons (pv 7) pa_nil)) (nomark _)))))) (pss_one (ps_ret pe_bl)) pss_nil))))))))
      (pss_one (ps_ret pe_bl))))))), ?_⟩
    generalize hf : nxS (Bm ws') = f at *
    have hpp := hW.per.pos
    have hst : ∀ j, StOk (it f j x0) ∧ (it f j x0).length = 2 * n + 1 := by rw [← hf]; exact hW.st
    have hlows : ((orb f x0 p).map lowWord).filter (fun z => decide (z ≠ [])) = orb (behind (Bm ws')) y0 k := by rw [← hf]; exact hW.lows
    have hlen : (wds (orb f x0 p)).length = p := by rw [wds_len, orb_len]
    have atj : ∀ j, j < p → (wds (orb f x0 p))[j]? = some (.str (txt (it f j x0))) := fun j hj => by
      unfold wds orb
      rw [List.getElem?_map, List.getElem?_map, List.getElem?_range hj]
      rfl
    have at0 : (wds (orb f x0 p))[0]? = some (.str (txt x0)) := atj 0 hpp
    have h0l : x0.length = 2 * n + 1 := (hst 0).2
    (repeat (first | refine ⟨_, rfl, ?_⟩ | refine ⟨rfl, ?_⟩ | refine ⟨_, _, rfl, rfl, ?_⟩ | refine ⟨_, _, rfl, ?_⟩ | refine ⟨hz, ?_⟩ | refine ⟨(show 3 ≤ sizeLine by decide), ?_⟩ | refine ⟨(show 2 ≤ sizeLine by decide), ?_⟩ | refine ⟨by decide +kernel, ?_⟩ | refine ⟨.inl ⟨by decide, by decide⟩, ?_⟩ | refine ⟨(by show (0 : Int) < _; omega), ?_⟩ | refine ⟨⟨by omega, by omega⟩, ?_⟩ | refine .inl ⟨_, rfl, sz (by simp only [*, p110, p101, sM, sE, s1, s0, s110, s101, txt_cat, txt_len, cut_to, cut_from, cut_init, List.length_append, List.length_cons, List.length_nil, List.length_take, List.length_drop, List.length_dropLast, List.length_reverse]; omega), ?_⟩ | refine ⟨sz (by simp only [*, p110, p101, sM, sE, s1, s0, s110, s101, txt_cat, txt_len, cut_to, cut_from, cut_init, List.length_append, List.length_cons, List.length_nil, List.length_take, List.length_drop, List.length_dropLast, List.length_reverse]; omega), ?_⟩))
    refine ⟨o, _, 0, _, rfl, rfl, .inl (.inl ho), atI_nat (j := 0) at0, ?_⟩
    (repeat (first | refine ⟨_, rfl, ?_⟩ | refine ⟨rfl, ?_⟩ | refine ⟨_, _, rfl, rfl, ?_⟩ | refine ⟨_, _, rfl, ?_⟩ | refine ⟨hz, ?_⟩ | refine ⟨(show 3 ≤ sizeLine by decide), ?_⟩ | refine ⟨(show 2 ≤ sizeLine by decide), ?_⟩ | refine ⟨by decide +kernel, ?_⟩ | refine ⟨.inl ⟨by decide, by decide⟩, ?_⟩ | refine ⟨(by show (0 : Int) < _; omega), ?_⟩ | refine ⟨⟨by omega, by omega⟩, ?_⟩ | refine .inl ⟨_, rfl, sz (by simp only [*, p110, p101, sM, sE, s1, s0, s110, s101, txt_cat, txt_len, cut_to, cut_from, cut_init, List.length_append, List.length_cons, List.length_nil, List.length_take, List.length_drop, List.length_dropLast, List.length_reverse]; omega), ?_⟩ | refine ⟨sz (by simp only [*, p110, p101, sM, sE, s1, s0, s110, s101, txt_cat, txt_len, cut_to, cut_from, cut_init, List.length_append, List.length_cons, List.length_nil, List.length_take, List.length_drop, List.length_dropLast, List.length_reverse]; omega), ?_⟩))
    have hnx : x0 ≠ [] := fun z => by rw [z] at h0l; cases h0l
    refine ⟨⟨_, .inl (.inl ho)⟩, lc_lst (K := K) (.inl (.inl ho)) (fun i => wds ((((orb f x0 p).take i).map lowWord).filter fun z => decide (z ≠ []))) rfl (fun i hi => ?_) (fun i v L H' Nx hv he hl hL hY hN => ?_) (fun L H1 hL e1 hl => ?_)⟩
    · rw [wds_len]
      refine Nat.le_trans (List.length_filter_le _ _) ?_
      rw [List.length_map, List.length_take]
      omega
    · obtain ⟨x, hx, rfl⟩ := wds_at hv
      obtain ⟨j, hj, rfl⟩ : ∃ j, j < p ∧ it f j x0 = x := by
        obtain ⟨j, hj, e⟩ := List.mem_map.mp (List.mem_of_getElem? hx)
        exact ⟨j, List.mem_range.mp hj, e⟩
      have hxl := (hst j).2
      have hxn : it f j x0 ≠ [] := fun z => by rw [z] at hxl; cases hxl
      have et : (((orb f x0 p).take (i + 1)).map lowWord).filter (fun z => decide (z ≠ [])) = (((orb f x0 p).take i).map lowWord).filter (fun z => decide (z ≠ [])) ++ (if lowWord (it f j x0) = [] then [] else [lowWord (it f j x0)]) := by
        rw [List.take_add_one, hx, List.map_append, List.filter_append]
        congr 1
        show [lowWord (it f j x0)].filter (fun z => decide (z ≠ [])) = _
        split <;> rename_i cc
        · simp [cc]
        · simp [cc]
      refine ⟨rfl, ?_⟩
      (repeat (first | refine ⟨_, rfl, ?_⟩ | refine ⟨rfl, ?_⟩ | refine ⟨_, _, rfl, rfl, ?_⟩ | refine ⟨_, _, rfl, ?_⟩ | refine ⟨hz, ?_⟩ | refine ⟨(show 3 ≤ sizeLine by decide), ?_⟩ | refine ⟨(show 2 ≤ sizeLine by decide), ?_⟩ | refine ⟨by decide +kernel, ?_⟩ | refine ⟨.inl ⟨by decide, by decide⟩, ?_⟩ | refine ⟨(by show (0 : Int) < _; omega), ?_⟩ | refine ⟨⟨by omega, by omega⟩, ?_⟩ | refine .inl ⟨_, rfl, sz (by simp only [*, p110, p101, sM, sE, s1, s0, s110, s101, txt_cat, txt_len, cut_to, cut_from, cut_init, List.length_append, List.length_cons, List.length_nil, List.length_take, List.length_drop, List.length_dropLast, List.length_reverse]; omega), ?_⟩ | refine ⟨sz (by simp only [*, p110, p101, sM, sE, s1, s0, s110, s101, txt_cat, txt_len, cut_to, cut_from, cut_init, List.length_append, List.length_cons, List.length_nil, List.length_take, List.length_drop, List.length_dropLast, List.length_reverse]; omega), ?_⟩))
      refine ⟨hxn, by omega, fun H2 e2 => ?_⟩
      (repeat (first | refine ⟨_, rfl, ?_⟩ | refine ⟨rfl, ?_⟩ | refine ⟨_, _, rfl, rfl, ?_⟩ | refine ⟨_, _, rfl, ?_⟩ | refine ⟨hz, ?_⟩ | refine ⟨(show 3 ≤ sizeLine by decide), ?_⟩ | refine ⟨(show 2 ≤ sizeLine by decide), ?_⟩ | refine ⟨by decide +kernel, ?_⟩ | refine ⟨.inl ⟨by decide, by decide⟩, ?_⟩ | refine ⟨(by show (0 : Int) < _; omega), ?_⟩ | refine ⟨⟨by omega, by omega⟩, ?_⟩ | refine .inl ⟨_, rfl, sz (by simp only [*, p110, p101, sM, sE, s1, s0, s110, s101, txt_cat, txt_len, cut_to, cut_from, cut_init, List.length_append, List.length_cons, List.length_nil, List.length_take, List.length_drop, List.length_dropLast, List.length_reverse]; omega), ?_⟩ | refine ⟨sz (by simp only [*, p110, p101, sM, sE, s1, s0, s110, s101, txt_cat, txt_len, cut_to, cut_from, cut_init, List.length_append, List.length_cons, List.length_nil, List.length_take, List.length_drop, List.length_dropLast, List.length_reverse]; omega), ?_⟩))
      rw [sE]
      by_cases cc : lowWord (it f j x0) = []
      · rw [if_pos cc] at et
        rw [cc]
        (repeat (first | refine ⟨_, rfl, ?_⟩ | refine ⟨rfl, ?_⟩ | refine ⟨_, _, rfl, rfl, ?_⟩ | refine ⟨_, _, rfl, ?_⟩ | refine ⟨hz, ?_⟩ | refine ⟨(show 3 ≤ sizeLine by decide), ?_⟩ | refine ⟨(show 2 ≤ sizeLine by decide), ?_⟩ | refine ⟨by decide +kernel, ?_⟩ | refine ⟨.inl ⟨by decide, by decide⟩, ?_⟩ | refine ⟨(by show (0 : Int) < _; omega), ?_⟩ | refine ⟨⟨by omega, by omega⟩, ?_⟩ | refine .inl ⟨_, rfl, sz (by simp only [*, p110, p101, sM, sE, s1, s0, s110, s101, txt_cat, txt_len, cut_to, cut_from, cut_init, List.length_append, List.length_cons, List.length_nil, List.length_take, List.length_drop, List.length_dropLast, List.length_reverse]; omega), ?_⟩ | refine ⟨sz (by simp only [*, p110, p101, sM, sE, s1, s0, s110, s101, txt_cat, txt_len, cut_to, cut_from, cut_init, List.length_append, List.length_cons, List.length_nil, List.length_take, List.length_drop, List.length_dropLast, List.length_reverse]; omega), ?_⟩))
        exact nF rfl (hN H2 e2 (by rw [et, List.append_nil]))
      · rw [if_neg cc] at et
        refine nT (fun z => cc (txt_inj (V.str.inj z))) ?_
        refine ⟨_, rfl, _, rfl, hxn, by omega, fun H3 e3 => ⟨_, hY H3 _ (e2.trans e3) (by rw [et, wds_snoc])⟩⟩
    · rw [hlen, show (orb f x0 p).take p = orb f x0 p from List.take_of_length_le (by rw [orb_len]; omega), hlows] at hl
      have hrnd := hW.rnd
      have hpost0 := hW.post0
      have hk1 := hW.k1
      have ho1 := e1.lst ho
      have lk : (orb (behind (Bm ws')) y0 k).length = k := orb_len _ _ _
      have hy0 : (wds (orb (behind (Bm ws')) y0 k))[0]? = some (.str (txt y0)) := by
        unfold wds orb
        rw [List.getElem?_map, List.getElem?_map, List.getElem?_range (by omega)]
        rfl
      generalize hOL : orb (behind (Bm ws')) y0 k = OL at hl hrnd lk hy0
      have hne : OL ≠ [] := fun z => by rw [z] at lk; have : ([] : List W).length = 0 := rfl; omega
      (repeat (first | refine ⟨_, rfl, ?_⟩ | refine ⟨rfl, ?_⟩ | refine ⟨_, _, rfl, rfl, ?_⟩ | refine ⟨_, _, rfl, ?_⟩ | refine ⟨hz, ?_⟩ | refine ⟨(show 3 ≤ sizeLine by decide), ?_⟩ | refine ⟨(show 2 ≤ sizeLine by decide), ?_⟩ | refine ⟨by decide +kernel, ?_⟩ | refine ⟨.inl ⟨by decide, by decide⟩, ?_⟩ | refine ⟨(by show (0 : Int) < _; omega), ?_⟩ | refine ⟨⟨by omega, by omega⟩, ?_⟩ | refine .inl ⟨_, rfl, sz (by simp only [*, p110, p101, sM, sE, s1, s0, s110, s101, txt_cat, txt_len, cut_to, cut_from, cut_init, List.length_append, List.length_cons, List.length_nil, List.length_take, List.length_drop, List.length_dropLast, List.length_reverse]; omega), ?_⟩ | refine ⟨sz (by simp only [*, p110, p101, sM, sE, s1, s0, s110, s101, txt_cat, txt_len, cut_to, cut_from, cut_init, List.length_append, List.length_cons, List.length_nil, List.length_take, List.length_drop, List.length_dropLast, List.length_reverse]; omega), ?_⟩))
      intro l0 hl0
      have e2 : Ex K H1 (upd H1 l0 (.lst [])) := Ex.new hl0
      have l2 : (upd H1 l0 (.lst [])) l0 = some (.lst []) := upd_same
      have m2 := e2.lst hl
      have o2 := e2.lst ho1
      have e02 := e1.trans e2
      generalize upd H1 l0 (.lst []) = H2 at e2 l2 m2 o2 e02 ⊢
      refine ⟨.list (dW OL), .list (dW []), .lst (.inl (.inl m2)) (dpW OL), .lst (.inl (.inl l2)) .nil, dW_ok OL, rfl, _, rfl, ?_⟩
      rw [eqW, decide_eq_false hne]
      (repeat (first | refine ⟨_, rfl, ?_⟩ | refine ⟨rfl, ?_⟩ | refine ⟨_, _, rfl, rfl, ?_⟩ | refine ⟨_, _, rfl, ?_⟩ | refine ⟨hz, ?_⟩ | refine ⟨(show 3 ≤ sizeLine by decide), ?_⟩ | refine ⟨(show 2 ≤ sizeLine by decide), ?_⟩ | refine ⟨by decide +kernel, ?_⟩ | refine ⟨.inl ⟨by decide, by decide⟩, ?_⟩ | refine ⟨(by show (0 : Int) < _; omega), ?_⟩ | refine ⟨⟨by omega, by omega⟩, ?_⟩ | refine .inl ⟨_, rfl, sz (by simp only [*, p110, p101, sM, sE, s1, s0, s110, s101, txt_cat, txt_len, cut_to, cut_from, cut_init, List.length_append, List.length_cons, List.length_nil, List.length_take, List.length_drop, List.length_dropLast, List.length_reverse]; omega), ?_⟩ | refine ⟨sz (by simp only [*, p110, p101, sM, sE, s1, s0, s110, s101, txt_cat, txt_len, cut_to, cut_from, cut_init, List.length_append, List.length_cons, List.length_nil, List.length_take, List.length_drop, List.length_dropLast, List.length_reverse]; omega), ?_⟩))
      refine ⟨L, _, 0, _, rfl, rfl, .inl (.inl m2), atI_nat (j := 0) hy0, ?_⟩
      (repeat (first | refine ⟨_, rfl, ?_⟩ | refine ⟨rfl, ?_⟩ | refine ⟨_, _, rfl, rfl, ?_⟩ | refine ⟨_, _, rfl, ?_⟩ | refine ⟨hz, ?_⟩ | refine ⟨(show 3 ≤ sizeLine by decide), ?_⟩ | refine ⟨(show 2 ≤ sizeLine by decide), ?_⟩ | refine ⟨by decide +kernel, ?_⟩ | refine ⟨.inl ⟨by decide, by decide⟩, ?_⟩ | refine ⟨(by show (0 : Int) < _; omega), ?_⟩ | refine ⟨⟨by omega, by omega⟩, ?_⟩ | refine .inl ⟨_, rfl, sz (by simp only [*, p110, p101, sM, sE, s1, s0, s110, s101, txt_cat, txt_len, cut_to, cut_from, cut_init, List.length_append, List.length_cons, List.length_nil, List.length_take, List.length_drop, List.length_dropLast, List.length_reverse]; omega), ?_⟩ | refine ⟨sz (by simp only [*, p110, p101, sM, sE, s1, s0, s110, s101, txt_cat, txt_len, cut_to, cut_from, cut_init, List.length_append, List.length_cons, List.length_nil, List.length_take, List.length_drop, List.length_dropLast, List.length_reverse]; omega), ?_⟩))
      refine ⟨a, ws, y0, k, OL, rfl, e02.lst ha, hpre, by rw [hB]; exact hrnd, by rw [hB]; exact hW.fit, fun L3 H3 e3 hL3 hl3 => ?_⟩
      have e13 := e02.trans e3
      have m3 := e3.lst m2
      have o3 := e3.lst o2
      refine ⟨_, rfl, .list (dW OL), .list (dW OL), .lst (.inl (.inl hl3)) (dpW OL), .lst (.inl (.inl m3)) (dpW OL), dW_ok OL, dW_ok OL, _, rfl, ?_⟩
      rw [eqW, decide_eq_true rfl]
      (repeat (first | refine ⟨_, rfl, ?_⟩ | refine ⟨rfl, ?_⟩ | refine ⟨_, _, rfl, rfl, ?_⟩ | refine ⟨_, _, rfl, ?_⟩ | refine ⟨hz, ?_⟩ | refine ⟨(show 3 ≤ sizeLine by decide), ?_⟩ | refine ⟨(show 2 ≤ sizeLine by decide), ?_⟩ | refine ⟨by decide +kernel, ?_⟩ | refine ⟨.inl ⟨by decide, by decide⟩, ?_⟩ | refine ⟨(by show (0 : Int) < _; omega), ?_⟩ | refine ⟨⟨by omega, by omega⟩, ?_⟩ | refine .inl ⟨_, rfl, sz (by simp only [*, p110, p101, sM, sE, s1, s0, s110, s101, txt_cat, txt_len, cut_to, cut_from, cut_init, List.length_append, List.length_cons, List.length_nil, List.length_take, List.length_drop, List.length_dropLast, List.length_reverse]; omega), ?_⟩ | refine ⟨sz (by simp only [*, p110, p101, sM, sE, s1, s0, s110, s101, txt_cat, txt_len, cut_to, cut_from, cut_init, List.length_append, List.length_cons, List.length_nil, List.length_take, List.length_drop, List.length_dropLast, List.length_reverse]; omega), ?_⟩))
      refine ⟨o, _, 0, _, rfl, rfl, .inl (.inl o3), atI_nat (j := 0) at0, ?_⟩
      have hlen0 := hW.len0
      refine ⟨b, n, ws', x0, k, _, rfl, hb.ex e13, e13.t ht, (hst 0).1, by omega, by omega, hpost0, fun H4 e4 => ?_⟩
      have hw1 : ((k * wide (postH (Bm ws') (homeOf x0)).1 : Nat) : Int) = (k : Int) * (2 * ((txt x0).length : Nat)) := by
        unfold wide
        rw [hlen0, txt_len, h0l, Int.natCast_mul]
        congr 1 <;> omega
      have e14 := e13.trans e4
      have m4 := e4.lst m3
      have o4 := e4.lst o3
      have hkp := hW.pk
      have hkb : k * (4 * n + 2) ≤ 1000 := by omega
      have hkI : (k : Int) * (2 * ((txt x0).length : Nat)) = (p : Nat) := by
        rw [txt_len, h0l, hkp, Int.natCast_mul]
        congr 1 <;> omega
      rw [hw1, hkI]
      refine ⟨_, rfl, log_ok (by omega), ?_⟩
      (repeat (first | refine ⟨_, rfl, ?_⟩ | refine ⟨rfl, ?_⟩ | refine ⟨_, _, rfl, rfl, ?_⟩ | refine ⟨_, _, rfl, ?_⟩ | refine ⟨hz, ?_⟩ | refine ⟨(show 3 ≤ sizeLine by decide), ?_⟩ | refine ⟨(show 2 ≤ sizeLine by decide), ?_⟩ | refine ⟨by decide +kernel, ?_⟩ | refine ⟨.inl ⟨by decide, by decide⟩, ?_⟩ | refine ⟨(by show (0 : Int) < _; omega), ?_⟩ | refine ⟨⟨by omega, by omega⟩, ?_⟩ | refine .inl ⟨_, rfl, sz (by simp only [*, p110, p101, sM, sE, s1, s0, s110, s101, txt_cat, txt_len, cut_to, cut_from, cut_init, List.length_append, List.length_cons, List.length_nil, List.length_take, List.length_drop, List.length_dropLast, List.length_reverse]; omega), ?_⟩ | refine ⟨sz (by simp only [*, p110, p101, sM, sE, s1, s0, s110, s101, txt_cat, txt_len, cut_to, cut_from, cut_init, List.length_append, List.length_cons, List.length_nil, List.length_take, List.length_drop, List.length_dropLast, List.length_reverse]; omega), ?_⟩))
      refine ⟨L, _, rfl, .inl (.inl (.inl m4)), ?_⟩
      rw [wds_len, lk]
      (repeat (first | refine ⟨_, rfl, ?_⟩ | refine ⟨rfl, ?_⟩ | refine ⟨_, _, rfl, rfl, ?_⟩ | refine ⟨_, _, rfl, ?_⟩ | refine ⟨hz, ?_⟩ | refine ⟨(show 3 ≤ sizeLine by decide), ?_⟩ | refine ⟨(show 2 ≤ sizeLine by decide), ?_⟩ | refine ⟨by decide +kernel, ?_⟩ | refine ⟨.inl ⟨by decide, by decide⟩, ?_⟩ | refine ⟨(by show (0 : Int) < _; omega), ?_⟩ | refine ⟨⟨by omega, by omega⟩, ?_⟩ | refine .inl ⟨_, rfl, sz (by simp only [*, p110, p101, sM, sE, s1, s0, s110, s101, txt_cat, txt_len, cut_to, cut_from, cut_init, List.length_append, List.length_cons, List.length_nil, List.length_take, List.length_drop, List.length_dropLast, List.length_reverse]; omega), ?_⟩ | refine ⟨sz (by simp only [*, p110, p101, sM, sE, s1, s0, s110, s101, txt_cat, txt_len, cut_to, cut_from, cut_init, List.length_append, List.length_cons, List.length_nil, List.length_take, List.length_drop, List.length_dropLast, List.length_reverse]; omega), ?_⟩))
      refine ⟨.inr (by rw [txt_len]; omega), ?_⟩
      refine ⟨_, rfl, log_ok (by show ((k : Int) * (2 * ((txt x0).length : Nat))).natAbs ≤ _; rw [hkI]; omega), rfl, _, rfl, ?_⟩
      rw [hkI, decide_eq_true rfl]
      (repeat (first | refine ⟨_, rfl, ?_⟩ | refine ⟨rfl, ?_⟩ | refine ⟨_, _, rfl, rfl, ?_⟩ | refine ⟨_, _, rfl, ?_⟩ | refine ⟨hz, ?_⟩ | refine ⟨(show 3 ≤ sizeLine by decide), ?_⟩ | refine ⟨(show 2 ≤ sizeLine by decide), ?_⟩ | refine ⟨by decide +kernel, ?_⟩ | refine ⟨.inl ⟨by decide, by decide⟩, ?_⟩ | refine ⟨(by show (0 : Int) < _; omega), ?_⟩ | refine ⟨⟨by omega, by omega⟩, ?_⟩ | refine .inl ⟨_, rfl, sz (by simp only [*, p110, p101, sM, sE, s1, s0, s110, s101, txt_cat, txt_len, cut_to, cut_from, cut_init, List.length_append, List.length_cons, List.length_nil, List.length_take, List.length_drop, List.length_dropLast, List.length_reverse]; omega), ?_⟩ | refine ⟨sz (by simp only [*, p110, p101, sM, sE, s1, s0, s110, s101, txt_cat, txt_len, cut_to, cut_from, cut_init, List.length_append, List.length_cons, List.length_nil, List.length_take, List.length_drop, List.length_dropLast, List.length_reverse]; omega), ?_⟩))
      refine ⟨o, _, rfl, .inl (.inl (.inl o4)), ?_⟩
      rw [hlen]
      (repeat (first | refine ⟨_, rfl, ?_⟩ | refine ⟨rfl, ?_⟩ | refine ⟨_, _, rfl, rfl, ?_⟩ | refine ⟨_, _, rfl, ?_⟩ | refine ⟨hz, ?_⟩ | refine ⟨(show 3 ≤ sizeLine by decide), ?_⟩ | refine ⟨(show 2 ≤ sizeLine by decide), ?_⟩ | refine ⟨by decide +kernel, ?_⟩ | refine ⟨.inl ⟨by decide, by decide⟩, ?_⟩ | refine ⟨(by show (0 : Int) < _; omega), ?_⟩ | refine ⟨⟨by omega, by omega⟩, ?_⟩ | refine .inl ⟨_, rfl, sz (by simp only [*, p110, p101, sM, sE, s1, s0, s110, s101, txt_cat, txt_len, cut_to, cut_from, cut_init, List.length_append, List.length_cons, List.length_nil, List.length_take, List.length_drop, List.length_dropLast, List.length_reverse]; omega), ?_⟩ | refine ⟨sz (by simp only [*, p110, p101, sM, sE, s1, s0, s110, s101, txt_cat, txt_len, cut_to, cut_from, cut_init, List.length_append, List.length_cons, List.length_nil, List.length_take, List.length_drop, List.length_dropLast, List.length_reverse]; omega), ?_⟩))
      refine ⟨L, _, rfl, .inl (.inl (.inl m4)), ?_⟩
      rw [wds_len, lk]
      refine ⟨_, rfl, _, _, rfl, rfl, .inr (by rw [txt_len]; omega), rfl, _, rfl, ?_⟩
      refine nF (congrArg V.int hkI.symm) ?_
      (repeat (first | refine ⟨_, rfl, ?_⟩ | refine ⟨rfl, ?_⟩ | refine ⟨_, _, rfl, rfl, ?_⟩ | refine ⟨_, _, rfl, ?_⟩ | refine ⟨hz, ?_⟩ | refine ⟨(show 3 ≤ sizeLine by decide), ?_⟩ | refine ⟨(show 2 ≤ sizeLine by decide), ?_⟩ | refine ⟨by decide +kernel, ?_⟩ | refine ⟨.inl ⟨by decide, by decide⟩, ?_⟩ | refine ⟨(by show (0 : Int) < _; omega), ?_⟩ | refine ⟨⟨by omega, by omega⟩, ?_⟩ | refine .inl ⟨_, rfl, sz (by simp only [*, p110, p101, sM, sE, s1, s0, s110, s101, txt_cat, txt_len, cut_to, cut_from, cut_init, List.length_append, List.length_cons, List.length_nil, List.length_take, List.length_drop, List.length_dropLast, List.length_reverse]; omega), ?_⟩ | refine ⟨sz (by simp only [*, p110, p101, sM, sE, s1, s0, s110, s101, txt_cat, txt_len, cut_to, cut_from, cut_init, List.length_append, List.length_cons, List.length_nil, List.length_take, List.length_drop, List.length_dropLast, List.length_reverse]; omega), ?_⟩))
      have hnd : (orb f x0 p).Nodup := by have := hW.per.nodup; rw [hf] at this; exact this
      have ewd : ((orb f x0 p).map txt).map V.str = wds (orb f x0 p) := List.map_map
      refine ⟨o, (orb f x0 p).map txt, rfl, .inl (.inl (by rw [ewd]; exact o4)), nodup_txt hnd, by rw [List.length_map, orb_len]; omega, ?_⟩
      rw [List.length_map, orb_len]
      (repeat (first | refine ⟨_, rfl, ?_⟩ | refine ⟨rfl, ?_⟩ | refine ⟨_, _, rfl, rfl, ?_⟩ | refine ⟨_, _, rfl, ?_⟩ | refine ⟨hz, ?_⟩ | refine ⟨(show 3 ≤ sizeLine by decide), ?_⟩ | refine ⟨(show 2 ≤ sizeLine by decide), ?_⟩ | refine ⟨by decide +kernel, ?_⟩ | refine ⟨.inl ⟨by decide, by decide⟩, ?_⟩ | refine ⟨(by show (0 : Int) < _; omega), ?_⟩ | refine ⟨⟨by omega, by omega⟩, ?_⟩ | refine .inl ⟨_, rfl, sz (by simp only [*, p110, p101, sM, sE, s1, s0, s110, s101, txt_cat, txt_len, cut_to, cut_from, cut_init, List.length_append, List.length_cons, List.length_nil, List.length_take, List.length_drop, List.length_dropLast, List.length_reverse]; omega), ?_⟩ | refine ⟨sz (by simp only [*, p110, p101, sM, sE, s1, s0, s110, s101, txt_cat, txt_len, cut_to, cut_from, cut_init, List.length_append, List.length_cons, List.length_nil, List.length_take, List.length_drop, List.length_dropLast, List.length_reverse]; omega), ?_⟩))
      refine ⟨o, _, rfl, .inl (.inl (.inl o4)), ?_⟩
      rw [hlen]
      refine ⟨rfl, _, rfl, ?_⟩
      rw [decide_eq_true rfl]
      (repeat (first | refine ⟨_, rfl, ?_⟩ | refine ⟨rfl, ?_⟩ | refine ⟨_, _, rfl, rfl, ?_⟩ | refine ⟨_, _, rfl, ?_⟩ | refine ⟨hz, ?_⟩ | refine ⟨(show 3 ≤ sizeLine by decide), ?_⟩ | refine ⟨(show 2 ≤ sizeLine by decide), ?_⟩ | refine ⟨by decide +kernel, ?_⟩ | refine ⟨.inl ⟨by decide, by decide⟩, ?_⟩ | refine ⟨(by show (0 : Int) < _; omega), ?_⟩ | refine ⟨⟨by omega, by omega⟩, ?_⟩ | refine .inl ⟨_, rfl, sz (by simp only [*, p110, p101, sM, sE, s1, s0, s110, s101, txt_cat, txt_len, cut_to, cut_from, cut_init, List.length_append, List.length_cons, List.length_nil, List.length_take, List.length_drop, List.length_dropLast, List.length_reverse]; omega), ?_⟩ | refine ⟨sz (by simp only [*, p110, p101, sM, sE, s1, s0, s110, s101, txt_cat, txt_len, cut_to, cut_from, cut_init, List.length_append, List.length_cons, List.length_nil, List.length_take, List.length_drop, List.length_dropLast, List.length_reverse]; omega), ?_⟩))
      have R4 := hR.ex e14
      refine for_rng (fun i σ H' => ∃ (a6 a7 a8 a9 a10 a11 a12 a13 : Option V), σ = [some (.ref r), some (.ref b), some (.ref a), some (.ref o), some (.int (2 * ((txt x0).length : Nat))), some (.ref L), a6, a7, a8, a9, a10, a11, a12, a13] ∧ Ey K H H' ∧ RdAt K H' r c (m + i) ∧ H' o = some (.lst (wds (orb f x0 p)))) ⟨_, _, _, _, _, _, _, _, rfl, e14.y, R4, o4⟩ (fun i σ H5 hi hp5 => ?_) fun σ H5 hp5 => ?_
      · obtain ⟨a6, a7, a8, a9, a10, a11, a12, a13, rfl, e5, r5, o5⟩ := hp5
        have hi9 : i < 9 := hi
        (repeat (first | refine ⟨_, rfl, ?_⟩ | refine ⟨rfl, ?_⟩ | refine ⟨_, _, rfl, rfl, ?_⟩ | refine ⟨_, _, rfl, ?_⟩ | refine ⟨hz, ?_⟩ | refine ⟨(show 3 ≤ sizeLine by decide), ?_⟩ | refine ⟨(show 2 ≤ sizeLine by decide), ?_⟩ | refine ⟨by decide +kernel, ?_⟩ | refine ⟨.inl ⟨by decide, by decide⟩, ?_⟩ | refine ⟨(by show (0 : Int) < _; omega), ?_⟩ | refine ⟨⟨by omega, by omega⟩, ?_⟩ | refine .inl ⟨_, rfl, sz (by simp only [*, p110, p101, sM, sE, s1, s0, s110, s101, txt_cat, txt_len, cut_to, cut_from, cut_init, List.length_append, List.length_cons, List.length_nil, List.length_take, List.length_drop, List.length_dropLast, List.length_reverse]; omega), ?_⟩ | refine ⟨sz (by simp only [*, p110, p101, sM, sE, s1, s0, s110, s101, txt_cat, txt_len, cut_to, cut_from, cut_init, List.length_append, List.length_cons, List.length_nil, List.length_take, List.length_drop, List.length_dropLast, List.length_reverse]; omega), ?_⟩))
        refine ⟨o, _, rfl, .inl (.inl (.inl o5)), ?_⟩
        rw [hlen]
        refine ⟨r, c, m + i, p, rfl, r5, by omega, by omega, by omega, fun j H6 y6 r6 hj => ?_⟩
        have e6 := e5.trans y6
        have o6 := y6.wds o5
        have hb6 := e6.book hb
        have ht6 := e6.t ht
        (repeat (first | refine ⟨_, rfl, ?_⟩ | refine ⟨rfl, ?_⟩ | refine ⟨_, _, rfl, rfl, ?_⟩ | refine ⟨_, _, rfl, ?_⟩ | refine ⟨hz, ?_⟩ | refine ⟨(show 3 ≤ sizeLine by decide), ?_⟩ | refine ⟨(show 2 ≤ sizeLine by decide), ?_⟩ | refine ⟨by decide +kernel, ?_⟩ | refine ⟨.inl ⟨by decide, by decide⟩, ?_⟩ | refine ⟨(by show (0 : Int) < _; omega), ?_⟩ | refine ⟨⟨by omega, by omega⟩, ?_⟩ | refine .inl ⟨_, rfl, sz (by simp only [*, p110, p101, sM, sE, s1, s0, s110, s101, txt_cat, txt_len, cut_to, cut_from, cut_init, List.length_append, List.length_cons, List.length_nil, List.length_take, List.length_drop, List.length_dropLast, List.length_reverse]; omega), ?_⟩ | refine ⟨sz (by simp only [*, p110, p101, sM, sE, s1, s0, s110, s101, txt_cat, txt_len, cut_to, cut_from, cut_init, List.length_append, List.length_cons, List.length_nil, List.length_take, List.length_drop, List.length_dropLast, List.length_reverse]; omega), ?_⟩))
        refine ⟨o, _, _, _, rfl, rfl, .inl (.inl o6), atI_nat (atj j hj), ?_⟩
        (repeat (first | refine ⟨_, rfl, ?_⟩ | refine ⟨rfl, ?_⟩ | refine ⟨_, _, rfl, rfl, ?_⟩ | refine ⟨_, _, rfl, ?_⟩ | refine ⟨hz, ?_⟩ | refine ⟨(show 3 ≤ sizeLine by decide), ?_⟩ | refine ⟨(show 2 ≤ sizeLine by decide), ?_⟩ | refine ⟨by decide +kernel, ?_⟩ | refine ⟨.inl ⟨by decide, by decide⟩, ?_⟩ | refine ⟨(by show (0 : Int) < _; omega), ?_⟩ | refine ⟨⟨by omega, by omega⟩, ?_⟩ | refine .inl ⟨_, rfl, sz (by simp only [*, p110, p101, sM, sE, s1, s0, s110, s101, txt_cat, txt_len, cut_to, cut_from, cut_init, List.length_append, List.length_cons, List.length_nil, List.length_take, List.length_drop, List.length_dropLast, List.length_reverse]; omega), ?_⟩ | refine ⟨sz (by simp only [*, p110, p101, sM, sE, s1, s0, s110, s101, txt_cat, txt_len, cut_to, cut_from, cut_init, List.length_append, List.length_cons, List.length_nil, List.length_take, List.length_drop, List.length_dropLast, List.length_reverse]; omega), ?_⟩))
        refine .inl ⟨_, rfl, ?_⟩
        (repeat (first | refine ⟨_, rfl, ?_⟩ | refine ⟨rfl, ?_⟩ | refine ⟨_, _, rfl, rfl, ?_⟩ | refine ⟨_, _, rfl, ?_⟩ | refine ⟨hz, ?_⟩ | refine ⟨(show 3 ≤ sizeLine by decide), ?_⟩ | refine ⟨(show 2 ≤ sizeLine by decide), ?_⟩ | refine ⟨by decide +kernel, ?_⟩ | refine ⟨.inl ⟨by decide, by decide⟩, ?_⟩ | refine ⟨(by show (0 : Int) < _; omega), ?_⟩ | refine ⟨⟨by omega, by omega⟩, ?_⟩ | refine .inl ⟨_, rfl, sz (by simp only [*, p110, p101, sM, sE, s1, s0, s110, s101, txt_cat, txt_len, cut_to, cut_from, cut_init, List.length_append, List.length_cons, List.length_nil, List.length_take, List.length_drop, List.length_dropLast, List.length_reverse]; omega), ?_⟩ | refine ⟨sz (by simp only [*, p110, p101, sM, sE, s1, s0, s110, s101, txt_cat, txt_len, cut_to, cut_from, cut_init, List.length_append, List.length_cons, List.length_nil, List.length_take, List.length_drop, List.length_dropLast, List.length_reverse]; omega), ?_⟩))
        refine ⟨o, _, rfl, .inl (.inl (.inl o6)), ?_⟩
        rw [hlen]
        have hjm : (j + 1) % p < p := Nat.mod_lt _ hpp
        have hit : it f ((j + 1) % p) x0 = it f (j + 1) x0 := by
          by_cases c1 : j + 1 = p
          · rw [c1, Nat.mod_self]
            have := hW.per.ret
            rw [hf] at this
            exact this.symm
          · rw [Nat.mod_eq_of_lt (by omega)]
        have hatl : atI (wds (orb f x0 p)) (((j : Nat) : Int) + 1 |> fun z => z % ((p : Nat) : Int)) = some (.str (txt (it f (j + 1) x0))) := by
          have := atI_nat (atj _ hjm)
          rw [hit] at this
          exact this
        refine ⟨_, _, rfl, rfl, (by show (0 : Int) < (p : Nat); omega), o, _, _, _, rfl, rfl, .inl (.inl o6), hatl, ?_⟩
        have hx := hst j
        have hy := hst (j + 1)
        have hlamp := hW.lamp j
        have hbef := hW.bef j
        have hpost := hW.post j hj
        have hsteps := hW.steps j hj
        rw [hf] at hlamp hbef hpost hsteps
        generalize it f j x0 = x at *
        generalize it f (j + 1) x0 = y at *
        have hzx : (txt x).length ≤ sizeLine := sz (by rw [txt_len]; omega)
        have hzy : (txt y).length ≤ sizeLine := sz (by rw [txt_len]; omega)
        (repeat (first | refine ⟨_, rfl, ?_⟩ | refine ⟨rfl, ?_⟩ | refine ⟨_, _, rfl, rfl, ?_⟩ | refine ⟨_, _, rfl, ?_⟩ | refine ⟨hz, ?_⟩ | refine ⟨(show 3 ≤ sizeLine by decide), ?_⟩ | refine ⟨(show 2 ≤ sizeLine by decide), ?_⟩ | refine ⟨by decide +kernel, ?_⟩ | refine ⟨.inl ⟨by decide, by decide⟩, ?_⟩ | refine ⟨(by show (0 : Int) < _; omega), ?_⟩ | refine ⟨⟨by omega, by omega⟩, ?_⟩ | refine .inl ⟨_, rfl, sz (by simp only [*, p110, p101, sM, sE, s1, s0, s110, s101, txt_cat, txt_len, cut_to, cut_from, cut_init, List.length_append, List.length_cons, List.length_nil, List.length_take, List.length_drop, List.length_dropLast, List.length_reverse]; omega), ?_⟩ | refine ⟨sz (by simp only [*, p110, p101, sM, sE, s1, s0, s110, s101, txt_cat, txt_len, cut_to, cut_from, cut_init, List.length_append, List.length_cons, List.length_nil, List.length_take, List.length_drop, List.length_dropLast, List.length_reverse]; omega), ?_⟩))
        intro tp htp
        have e7 : Ex K H6 (upd H6 tp (.tup [.str (txt x), .str (txt y)])) := Ex.new htp
        refine ⟨tp, _, rfl, .inl (.inl upd_same), rfl, _, _, rfl, _, _, rfl, rfl, ?_⟩
        have o7 := e7.lst o6
        generalize upd H6 tp (.tup [.str (txt x), .str (txt y)]) = H7 at e7 o7 ⊢
        refine ⟨_, rfl, _, rfl, hzx, ?_⟩
        rw [show (((txt x).length : Nat) : Int) = ((2 * n + 1 : Nat) : Int) by rw [txt_len, hx.2]]
        (repeat (first | refine ⟨_, rfl, ?_⟩ | refine ⟨rfl, ?_⟩ | refine ⟨_, _, rfl, rfl, ?_⟩ | refine ⟨_, _, rfl, ?_⟩ | refine ⟨hz, ?_⟩ | refine ⟨(show 3 ≤ sizeLine by decide), ?_⟩ | refine ⟨(show 2 ≤ sizeLine by decide), ?_⟩ | refine ⟨by decide +kernel, ?_⟩ | refine ⟨.inl ⟨by decide, by decide⟩, ?_⟩ | refine ⟨(by show (0 : Int) < _; omega), ?_⟩ | refine ⟨⟨by omega, by omega⟩, ?_⟩ | refine .inl ⟨_, rfl, sz (by simp only [*, p110, p101, sM, sE, s1, s0, s110, s101, txt_cat, txt_len, cut_to, cut_from, cut_init, List.length_append, List.length_cons, List.length_nil, List.length_take, List.length_drop, List.length_dropLast, List.length_reverse]; omega), ?_⟩ | refine ⟨sz (by simp only [*, p110, p101, sM, sE, s1, s0, s110, s101, txt_cat, txt_len, cut_to, cut_from, cut_init, List.length_append, List.length_cons, List.length_nil, List.length_take, List.length_drop, List.length_dropLast, List.length_reverse]; omega), ?_⟩))
        refine ⟨by omega, by omega, ?_⟩
        rw [show (((2 * n + 1 : Nat) : Int)).toNat = 2 * n + 1 from rfl]
        refine lc_rng (K := K) (fun i => (diffs x y i).map fun k => V.int (0 + (k : Nat))) rfl (fun i hi => ?_) (fun k L1 H8 Nx hk he hl hL hY hN => ?_) (fun L1 H8 hL he8 hl => ?_)
        · rw [List.length_map]
          refine Nat.le_trans (List.length_filter_le _ _) ?_
          rw [List.length_range]
          omega
        · have hkx : k < x.length := by omega
          have hky : k < y.length := by omega
          have ed : diffs x y (k + 1) = diffs x y k ++ (if x[k] = y[k] then [] else [k]) := by
            unfold diffs
            rw [List.range_succ, List.filter_append]
            congr 1
            show [k].filter (fun k => decide (x[k]? ≠ y[k]?)) = _
            split <;> rename_i cc
            · simp [List.getElem?_eq_getElem hkx, List.getElem?_eq_getElem hky, cc]
            · simp [List.getElem?_eq_getElem hkx, List.getElem?_eq_getElem hky, cc]
          refine ⟨rfl, ?_⟩
          have ax : atI (txt x).cps.toList (0 + ((k : Nat) : Int)) = some (sg x[k]) := by
            rw [Int.zero_add, txt_list]
            refine atI_nat ?_
            rw [List.getElem?_map, List.getElem?_eq_getElem hkx]
            rfl
          have ay : atI (txt y).cps.toList (0 + ((k : Nat) : Int)) = some (sg y[k]) := by
            rw [Int.zero_add, txt_list]
            refine atI_nat ?_
            rw [List.getElem?_map, List.getElem?_eq_getElem hky]
            rfl
          refine ⟨_, rfl, _, rfl, _, _, _, rfl, rfl, hzx, ax, _, rfl, _, rfl, _, _, _, rfl, rfl, hzy, ay, rfl, _, rfl, ?_⟩
          rw [sg_txt, sg_txt]
          by_cases cc : x[k] = y[k]
          · rw [if_pos cc, List.append_nil] at ed
            exact nF (by rw [cc]) (hN H8 .refl (by rw [ed]))
          · rw [if_neg cc] at ed
            refine nT (fun z => cc (List.cons.inj (txt_inj (V.str.inj z))).1) ⟨_, rfl, _, hY H8 _ .refl (by rw [ed, List.map_append]; rfl)⟩
        · refine ⟨L1, _, rfl, .inl (.inl (.inl hl)), ?_⟩
          rw [List.length_map, hlamp]
          (repeat (first | refine ⟨_, rfl, ?_⟩ | refine ⟨rfl, ?_⟩ | refine ⟨_, _, rfl, rfl, ?_⟩ | refine ⟨_, _, rfl, ?_⟩ | refine ⟨hz, ?_⟩ | refine ⟨(show 3 ≤ sizeLine by decide), ?_⟩ | refine ⟨(show 2 ≤ sizeLine by decide), ?_⟩ | refine ⟨by decide +kernel, ?_⟩ | refine ⟨.inl ⟨by decide, by decide⟩, ?_⟩ | refine ⟨(by show (0 : Int) < _; omega), ?_⟩ | refine ⟨⟨by omega, by omega⟩, ?_⟩ | refine .inl ⟨_, rfl, sz (by simp only [*, p110, p101, sM, sE, s1, s0, s110, s101, txt_cat, txt_len, cut_to, cut_from, cut_init, List.length_append, List.length_cons, List.length_nil, List.length_take, List.length_drop, List.length_dropLast, List.length_reverse]; omega), ?_⟩ | refine ⟨sz (by simp only [*, p110, p101, sM, sE, s1, s0, s110, s101, txt_cat, txt_len, cut_to, cut_from, cut_init, List.length_append, List.length_cons, List.length_nil, List.length_take, List.length_drop, List.length_dropLast, List.length_reverse]; omega), ?_⟩))
          have e8 : Ex K H6 H8 := e7.trans he8
          refine ⟨b, n, ws', y, rfl, hb6.ex e8, e8.t ht6, hy.1, by omega, fun H9 e9 => ?_⟩
          rw [hbef]
          refine ⟨_, rfl, rfl, _, rfl, ?_⟩
          rw [decide_eq_true rfl]
          (repeat (first | refine ⟨_, rfl, ?_⟩ | refine ⟨rfl, ?_⟩ | refine ⟨_, _, rfl, rfl, ?_⟩ | refine ⟨_, _, rfl, ?_⟩ | refine ⟨hz, ?_⟩ | refine ⟨(show 3 ≤ sizeLine by decide), ?_⟩ | refine ⟨(show 2 ≤ sizeLine by decide), ?_⟩ | refine ⟨by decide +kernel, ?_⟩ | refine ⟨.inl ⟨by decide, by decide⟩, ?_⟩ | refine ⟨(by show (0 : Int) < _; omega), ?_⟩ | refine ⟨⟨by omega, by omega⟩, ?_⟩ | refine .inl ⟨_, rfl, sz (by simp only [*, p110, p101, sM, sE, s1, s0, s110, s101, txt_cat, txt_len, cut_to, cut_from, cut_init, List.length_append, List.length_cons, List.length_nil, List.length_take, List.length_drop, List.length_dropLast, List.length_reverse]; omega), ?_⟩ | refine ⟨sz (by simp only [*, p110, p101, sM, sE, s1, s0, s110, s101, txt_cat, txt_len, cut_to, cut_from, cut_init, List.length_append, List.length_cons, List.length_nil, List.length_take, List.length_drop, List.length_dropLast, List.length_reverse]; omega), ?_⟩))
          have e69 := e8.trans e9
          refine ⟨b, n, ws', x, rfl, hb6.ex e69, e69.t ht6, hx.1, by omega, by omega, fun q Ha ea hq hq1 => ⟨q, _, rfl, .inl (.inl hq1), rfl, _, _, rfl, _, _, rfl, rfl, ?_⟩⟩
          have e6a := e69.trans ea
          have oa := e6a.lst o6
          obtain ⟨t, ht1, ht2, ht3, ht4⟩ := hpost
          obtain ⟨i3, hi3, hst3⟩ := hsteps
          have hst3' := hst3
          generalize hP : postH (Bm ws') (homeOf x) = P at ht2 ht3 ht4 hi3 hst3 hst3' ⊢
          refine ⟨_, rfl, .inl ⟨rfl, _, .inl (.inl oa)⟩, ?_⟩
          (repeat (first | refine ⟨_, rfl, ?_⟩ | refine ⟨rfl, ?_⟩ | refine ⟨_, _, rfl, rfl, ?_⟩ | refine ⟨_, _, rfl, ?_⟩ | refine ⟨hz, ?_⟩ | refine ⟨(show 3 ≤ sizeLine by decide), ?_⟩ | refine ⟨(show 2 ≤ sizeLine by decide), ?_⟩ | refine ⟨by decide +kernel, ?_⟩ | refine ⟨.inl ⟨by decide, by decide⟩, ?_⟩ | refine ⟨(by show (0 : Int) < _; omega), ?_⟩ | refine ⟨⟨by omega, by omega⟩, ?_⟩ | refine .inl ⟨_, rfl, sz (by simp only [*, p110, p101, sM, sE, s1, s0, s110, s101, txt_cat, txt_len, cut_to, cut_from, cut_init, List.length_append, List.length_cons, List.length_nil, List.length_take, List.length_drop, List.length_dropLast, List.length_reverse]; omega), ?_⟩ | refine ⟨sz (by simp only [*, p110, p101, sM, sE, s1, s0, s110, s101, txt_cat, txt_len, cut_to, cut_from, cut_init, List.length_append, List.length_cons, List.length_nil, List.length_take, List.length_drop, List.length_dropLast, List.length_reverse]; omega), ?_⟩))
          rw [s0]
          have hP1 : (P.1 ++ [false]).length = 2 * n + 1 := by rw [← ht2]; exact (hst t).2
          have hP1' : P.1.length ≤ 2 * n := by rw [List.length_append] at hP1; simp at hP1; omega
          refine ⟨sz (by rw [txt_len, txt_len]; show _ + 1 ≤ _; omega), ?_⟩
          rw [txt_cat, ← ht2]
          refine ⟨o, _, _, t, _, rfl, rfl, .inl (.inl oa), rfl, flat_wds _, atj t ht1, by rw [eq_str, decide_eq_true rfl], fun m' z' hm' hz' => ?_, ?_⟩
          · obtain ⟨z2, h2, rfl⟩ := wds_at hz'
            have ht0 : (orb f x0 p)[t]? = some (it f t x0) := by
              unfold orb
              rw [List.getElem?_map, List.getElem?_range ht1]
              rfl
            rw [eq_str, decide_eq_false (nd_before hnd ht0 hm' h2)]
          (repeat (first | refine ⟨_, rfl, ?_⟩ | refine ⟨rfl, ?_⟩ | refine ⟨_, _, rfl, rfl, ?_⟩ | refine ⟨_, _, rfl, ?_⟩ | refine ⟨hz, ?_⟩ | refine ⟨(show 3 ≤ sizeLine by decide), ?_⟩ | refine ⟨(show 2 ≤ sizeLine by decide), ?_⟩ | refine ⟨by decide +kernel, ?_⟩ | refine ⟨.inl ⟨by decide, by decide⟩, ?_⟩ | refine ⟨(by show (0 : Int) < _; omega), ?_⟩ | refine ⟨⟨by omega, by omega⟩, ?_⟩ | refine .inl ⟨_, rfl, sz (by simp only [*, p110, p101, sM, sE, s1, s0, s110, s101, txt_cat, txt_len, cut_to, cut_from, cut_init, List.length_append, List.length_cons, List.length_nil, List.length_take, List.length_drop, List.length_dropLast, List.length_reverse]; omega), ?_⟩ | refine ⟨sz (by simp only [*, p110, p101, sM, sE, s1, s0, s110, s101, txt_cat, txt_len, cut_to, cut_from, cut_init, List.length_append, List.length_cons, List.length_nil, List.length_take, List.length_drop, List.length_dropLast, List.length_reverse]; omega), ?_⟩))
          refine .inl ⟨_, rfl, ?_⟩
          (repeat (first | refine ⟨_, rfl, ?_⟩ | refine ⟨rfl, ?_⟩ | refine ⟨_, _, rfl, rfl, ?_⟩ | refine ⟨_, _, rfl, ?_⟩ | refine ⟨hz, ?_⟩ | refine ⟨(show 3 ≤ sizeLine by decide), ?_⟩ | refine ⟨(show 2 ≤ sizeLine by decide), ?_⟩ | refine ⟨by decide +kernel, ?_⟩ | refine ⟨.inl ⟨by decide, by decide⟩, ?_⟩ | refine ⟨(by show (0 : Int) < _; omega), ?_⟩ | refine ⟨⟨by omega, by omega⟩, ?_⟩ | refine .inl ⟨_, rfl, sz (by simp only [*, p110, p101, sM, sE, s1, s0, s110, s101, txt_cat, txt_len, cut_to, cut_from, cut_init, List.length_append, List.length_cons, List.length_nil, List.length_take, List.length_drop, List.length_dropLast, List.length_reverse]; omega), ?_⟩ | refine ⟨sz (by simp only [*, p110, p101, sM, sE, s1, s0, s110, s101, txt_cat, txt_len, cut_to, cut_from, cut_init, List.length_append, List.length_cons, List.length_nil, List.length_take, List.length_drop, List.length_dropLast, List.length_reverse]; omega), ?_⟩))
          refine ⟨o, _, rfl, .inl (.inl (.inl oa)), ?_⟩
          rw [hlen]
          refine ⟨_, _, rfl, rfl, (by show (0 : Int) < (p : Nat); omega), ?_⟩
          refine ⟨_, rfl, log_ok (by show ((((j : Nat) : Int) - (t : Nat)) % (p : Nat)).natAbs ≤ _; rw [ht4]; omega), _, rfl, _, rfl, log_ok (by omega), rfl, _, rfl, ?_⟩
          refine nF (congrArg (fun z : Int => V.str (Str.ofString (toString z))) ht4) ?_
          (repeat (first | refine ⟨_, rfl, ?_⟩ | refine ⟨rfl, ?_⟩ | refine ⟨_, _, rfl, rfl, ?_⟩ | refine ⟨_, _, rfl, ?_⟩ | refine ⟨hz, ?_⟩ | refine ⟨(show 3 ≤ sizeLine by decide), ?_⟩ | refine ⟨(show 2 ≤ sizeLine by decide), ?_⟩ | refine ⟨by decide +kernel, ?_⟩ | refine ⟨.inl ⟨by decide, by decide⟩, ?_⟩ | refine ⟨(by show (0 : Int) < _; omega), ?_⟩ | refine ⟨⟨by omega, by omega⟩, ?_⟩ | refine .inl ⟨_, rfl, sz (by simp only [*, p110, p101, sM, sE, s1, s0, s110, s101, txt_cat, txt_len, cut_to, cut_from, cut_init, List.length_append, List.length_cons, List.length_nil, List.length_take, List.length_drop, List.length_dropLast, List.length_reverse]; omega), ?_⟩ | refine ⟨sz (by simp only [*, p110, p101, sM, sE, s1, s0, s110, s101, txt_cat, txt_len, cut_to, cut_from, cut_init, List.length_append, List.length_cons, List.length_nil, List.length_take, List.length_drop, List.length_dropLast, List.length_reverse]; omega), ?_⟩))
          rw [show decide ((2 : Int) * ((txt x0).length : Nat) ≤ ((P.2 : Nat) : Int)) = false from decide_eq_false (by rw [txt_len, h0l]; omega)]
          (repeat (first | refine ⟨_, rfl, ?_⟩ | refine ⟨rfl, ?_⟩ | refine ⟨_, _, rfl, rfl, ?_⟩ | refine ⟨_, _, rfl, ?_⟩ | refine ⟨hz, ?_⟩ | refine ⟨(show 3 ≤ sizeLine by decide), ?_⟩ | refine ⟨(show 2 ≤ sizeLine by decide), ?_⟩ | refine ⟨by decide +kernel, ?_⟩ | refine ⟨.inl ⟨by decide, by decide⟩, ?_⟩ | refine ⟨(by show (0 : Int) < _; omega), ?_⟩ | refine ⟨⟨by omega, by omega⟩, ?_⟩ | refine .inl ⟨_, rfl, sz (by simp only [*, p110, p101, sM, sE, s1, s0, s110, s101, txt_cat, txt_len, cut_to, cut_from, cut_init, List.length_append, List.length_cons, List.length_nil, List.length_take, List.length_drop, List.length_dropLast, List.length_reverse]; omega), ?_⟩ | refine ⟨sz (by simp only [*, p110, p101, sM, sE, s1, s0, s110, s101, txt_cat, txt_len, cut_to, cut_from, cut_init, List.length_append, List.length_cons, List.length_nil, List.length_take, List.length_drop, List.length_dropLast, List.length_reverse]; omega), ?_⟩))
          refine ⟨o, _, 0, _, rfl, rfl, .inl (.inl oa), atI_nat (j := 0) at0, ?_⟩
          (repeat (first | refine ⟨_, rfl, ?_⟩ | refine ⟨rfl, ?_⟩ | refine ⟨_, _, rfl, rfl, ?_⟩ | refine ⟨_, _, rfl, ?_⟩ | refine ⟨hz, ?_⟩ | refine ⟨(show 3 ≤ sizeLine by decide), ?_⟩ | refine ⟨(show 2 ≤ sizeLine by decide), ?_⟩ | refine ⟨by decide +kernel, ?_⟩ | refine ⟨.inl ⟨by decide, by decide⟩, ?_⟩ | refine ⟨(by show (0 : Int) < _; omega), ?_⟩ | refine ⟨⟨by omega, by omega⟩, ?_⟩ | refine .inl ⟨_, rfl, sz (by simp only [*, p110, p101, sM, sE, s1, s0, s110, s101, txt_cat, txt_len, cut_to, cut_from, cut_init, List.length_append, List.length_cons, List.length_nil, List.length_take, List.length_drop, List.length_dropLast, List.length_reverse]; omega), ?_⟩ | refine ⟨sz (by simp only [*, p110, p101, sM, sE, s1, s0, s110, s101, txt_cat, txt_len, cut_to, cut_from, cut_init, List.length_append, List.length_cons, List.length_nil, List.length_take, List.length_drop, List.length_dropLast, List.length_reverse]; omega), ?_⟩))
          have hnO : (orb (behind (Bm ws')) (postH (Bm ws') (homeOf x0)).1 k).Nodup := hpost0.2.1.nodup
          refine ⟨b, n, ws', x0, x, k, _, rfl, hb6.ex e6a, e6a.t ht6, ⟨(hst 0).1, by omega, by omega⟩, ⟨hx.1, by omega, by omega⟩, hpost0, fun hno => absurd (List.mem_of_getElem? hi3) (by rw [hP] at hno; exact hno), fun i' hi' Hb eb => ?_⟩
          rw [hP] at hi'
          obtain rfl := nd_inj hnO hi' hi3
          rw [hP, hst3]
          refine ⟨_, rfl, log_ok (by omega), _, rfl, _, rfl, log_ok (by omega), rfl, _, rfl, ?_⟩
          refine nF rfl ?_
          have eab := e6a.trans eb
          exact ⟨_, _, _, _, _, _, _, _, rfl, e6.trans eab.y, (r6.ex eab).le (by omega), eab.lst o6⟩
      · obtain ⟨a6, a7, a8, a9, a10, a11, a12, a13, rfl, e5, r5, o5⟩ := hp5
        exact hQ H5 e5 r5
end
end EH

set_option Elab.async false
set_option linter.all false
set_option maxRecDepth 100000
set_option maxHeartbeats 4000000
namespace EH
open PySem PySem.Spec PyProof.Rows L2 LamX EL EM
/-- all that the law asks of the words pulled -/
structure LawOk (n : Nat) (ws : List W) (oT oR : W → List W) : Prop where
  small : (allW n).length ≤ 42
  hR : ∀ v ∈ allW n, ∃ p, PerOk (behind (Bm ws)) v p (oR v) ∧ ∀ j, j < p → ∃ i, fpA 0 (swapped (Bm ws) (it (behind (Bm ws)) j v)) 0 = some i
  hT : ∀ x ∈ endsOf ws, ∃ p, PerOk turn x p (oT x)
  joined : ∀ x ∈ (grd oT (endsOf ws) (0, [])).2, x ∈ allW n
  jlen : (grd oT (endsOf ws) (0, [])).2.length ≤ 500
  klen : (grd oR (grd oT (endsOf ws) (0, [])).2 (0, [])).2.length ≤ 500
  many : manyM n ws oT oR = ((grd oR (allW n) (0, [])).1 : Nat)
  st : ∀ v ∈ allW n, StOk (v ++ [false]) ∧ v.length = 2 * n
  p0 : ∀ v ∈ allW n, (postH (Bm ws) (homeOf (v ++ [false]))).1 = v
  way : ∀ z s u, Bal n z → s ≤ 2 * n → ∃ p k y0, p ≤ (allW n).length * (4 * n + 2) ∧ Way n (Bm ws) (stateIn (z, s, u)) p k y0 ∧
    ∀ v ∈ allW n, (v ∈ orb (behind (Bm ws)) (postH (Bm ws) (homeOf (stateIn (z, s, u)))).1 k ↔ v ++ [false] ∈ orb (nxS (Bm ws)) (stateIn (z, s, u)) p)
theorem Bm_perm {ws ws' : List W} (h : ws'.Perm ws) : Bm ws = Bm ws' := by
  funext z
  exact decide_eq_decide.mpr h.mem_iff.symm
theorem PsOk.perm {n : Nat} {ws ws' : List W} (h : PsOk n ws) (p : ws'.Perm ws) : PsOk n ws' := ⟨fun x hx => h.all x (p.mem_iff.mp hx), by rw [p.length_eq]; exact h.few, p.nodup_iff.mpr h.nd⟩
theorem stateIn_len (z : W) (s : Nat) (u : Bool) : (stateIn (z, s, u)).length = z.length + 1 := by
  unfold stateIn
  rw [moved_len]
  simp
theorem ifC {p : Prop} [Decidable p] {a b : V} {σ : L2.St} {H : Hp} {Kk : VK} (h : ∀ v, (v = a ∨ v = b) → Kk v H) : if decide p = true then tC a σ H Kk else tC b σ H Kk := by
  split
  · exact h a (.inl rfl)
  · exact h b (.inr rfl)
theorem addAll_snoc {α : Type} [DecidableEq α] (J L : List α) (z : α) : addAll J (L ++ [z]) = if z ∈ addAll J L then addAll J L else addAll J L ++ [z] := by
  unfold addAll
  rw [List.foldl_append]
  rfl
theorem grd_fst {α : Type} [DecidableEq α] (o : α → List α) (l : List α) : ∀ s : Nat × List α, (grd o l s).1 ≤ s.1 + l.length := by
  induction l with
  | nil => exact fun s => Nat.le_refl _
  | cons x r ih =>
    intro s
    show (grd o r (if x ∈ s.2 then s else (s.1 + 1, addAll s.2 (o x)))).1 ≤ _
    have := ih (if x ∈ s.2 then s else (s.1 + 1, addAll s.2 (o x)))
    have h2 : (if x ∈ s.2 then s else (s.1 + 1, addAll s.2 (o x))).1 ≤ s.1 + 1 := by
      split
      · omega
      · exact Nat.le_refl _
    rw [List.length_cons]
    omega
section
variable {Pg : Program} {w : World} {K : PySem.W.Frag} {mg : Str → Option Value} {base : Heap}
def N_law : List Str := ["_law_script", "_law_reed_here", "_law_turn", "_law_pairs", "_law_words", "_law_book", "_law_all_words_here", "_law_state_here", "_law_row", "_law_met", "_law_many", "_law_word_here", "_law_each"]
theorem sc_law : FnScope N_law ["_law_script"] (defScope s_law) := ⟨rfl, rfl, rfl, by decide +kernel, rfl, by decide +kernel, by decide +kernel⟩
def sp_law (K : PySem.W.Frag) : Sp := fun vs H Q _ => ∃ (s : Addr) (is : List Int), vs = [.ref s] ∧ SqL K H s (is.map V.int) ∧ Tab K H ∧ ∀ H', Q (.bl true) H'
theorem law_ok (T : Tx K mg) (TB : TabB base mg (cS K) (P0 K)) (M : ∀ n ws, 2 ≤ n → n ≤ 5 → PsOk n ws → ws.length ≤ 9 → ∃ oT oR, LawOk n ws oT oR) {fd : FuncData} (F : FunD K "law" "law" (defArgs s_law) (defBody s_law) (defScope s_law) [] [] (He.ga K "law") fd) :
    FnOk Pg w K mg base C8.CX0 9 (He.ga K "law") fd ["_law_script"] (sp_law K) := by
  have c_law_reed := c_law_reed (Pg := Pg) (w := w) (base := base) T
  have c_law_weft := c_law_weft (Pg := Pg) (w := w) (base := base) T
  have c_law_one := c_law_one (Pg := Pg) (w := w) (base := base) T
  have c_law_pulls := c_law_pulls (Pg := Pg) (w := w) (base := base) T
  have c_law_all_words := c_law_all_words (Pg := Pg) (w := w) (base := base) T
  have c_law_word := c_law_word (Pg := Pg) (w := w) (base := base) T
  have c_law_state := c_law_state (Pg := Pg) (w := w) (base := base) T
  have c_law_round := c_law_round (Pg := Pg) (w := w) (base := base) T
  have c_Book := c_Book (Pg := Pg) (w := w) (base := base) T
  have c_law_gone := c_law_gone (Pg := Pg) (w := w) T TB
  have c_law_way_right := c_law_way_right (Pg := Pg) (w := w) T TB
  have c_steps_by := c_steps_by (Pg := Pg) (w := w) T TB
  have c_how_many_rounds := c_how_many_rounds (Pg := Pg) (w := w) T TB
  refine F.ok sc_law (fun vs H Q E h => by obtain ⟨_, _, rfl, _⟩ := h; rfl) fun cdv A outer st H vs Q E hr h => ?_
  have body : ∃ t, PSs (cxOf C8.CX0 Pg w K mg base N_law "law" (defScope s_law) (He.ga K "law") cdv A outer st H E).nox (defBody s_law) t ∧ t { nx := fun _ H' => Q .non H', rt := Q } (L2.start N_law vs) H := by
    obtain ⟨s, is, rfl, hs, htab, hQ⟩ := h
    refine ⟨_, (pss_cons (ps_set (i := 1) sc_law.nd rfl (Or.inl rfl) (C8.pe_c c_law_reed hr (by decide) (by rfl) (pa_cons (pv 0) pa_nil)))
      (pss_cons (ps_for PassesOwn.never rfl (pi_range1 (by rfl) T.n_range (pa_cons pe_int pa_nil)) (pg_name (i := 2) sc_law.nd rfl (Or.inl rfl)) (pss_cons (ps_set (i := 3) sc_law.nd rfl (Or.inl rfl) (C8.pe_c c_law_one hr (by decide) (by rfl) (pa_cons (pv 1) (pa_cons (pe_lst (pa_cons pe_int (pa_cons pe_int (pa_cons (pe_ifExp (pt_cmpR op_eq (C8.pe_c c_law_weft hr (by decide) (by rfl) (pa_cons (pv 1) (pa_cons pe_int pa_nil))) pe_int (nomark _)) pe_int pe_int) (pa_cons (pe_ifExp (pt_cmpR op_eq (C8.pe_c c_law_weft hr (by decide) (by rfl) (pa_cons (pv 1) (pa_cons pe_int pa_nil))) pe_int (nomark _)) pe_int pe_int) pa_nil))))) pa_nil))))
      (pss_cons (ps_set (i := 4) sc_law.nd rfl (Or.inl rfl) (C8.pe_c c_law_pulls hr (by decide) (by rfl) (pa_cons (pv 1) (pa_cons (pv 3) (pa_cons (C8.pe_c c_law_weft hr (by decide) (by rfl) (pa_cons (pv 1) (pa_cons pe_int pa_nil))) pa_nil)))))
      (pss_cons (ps_par (i := 5) (j := 6) rfl sc_law.nd rfl rfl (by decide) rfl rfl (pa_cons (C8.pe_mk c_Book hr (by decide) (by rfl) (pa_cons (pv 3) (pa_cons (pv 4) pa_nil))) (pa_cons (C8.pe_c c_law_all_words hr (by decide) (by rfl) (pa_cons (pv 3) pa_nil)) pa_nil)) (by rfl))
      (pss_cons (ps_set (i := 7) sc_law.nd rfl (Or.inl rfl) (C8.pe_c c_law_state hr (by decide) (by rfl) (pa_cons (C8.pe_c c_law_word hr (by decide) (by rfl) (pa_cons (pv 1) (pa_cons (pv 3) pa_nil))) (pa_cons (C8.pe_c c_law_weft hr (by decide) (by rfl) (pa_cons (pv 1) (pa_cons (pe_op op_add (pe_op op_mul pe_int (pv 3)) pe_int) pa_nil))) (pa_cons (C8.pe_c c_law_one hr (by decide) (by rfl) (pa_cons (pv 1) (pa_cons (pe_lst (pa_cons pe_str (pa_cons pe_str pa_nil))) pa_nil))) pa_nil)))))
      (pss_cons (ps_set (i := 8) sc_law.nd rfl (Or.inl rfl) (C8.pe_c c_law_gone hr (by decide) (by rfl) (pa_cons (pv 5) (pa_cons (pv 7) (pa_cons (pe_op op_mul (pe_callB call_len_seq (by rfl) T.n_len PySem.boot_len (pa_cons (pv 6) pa_nil)) (pe_op op_add (pe_op op_mul pe_int (pv 3)) pe_int)) pa_nil)))))
      (pss_cons (ps_if (pt_not (pt_val (C8.pe_c c_law_way_right hr (by decide) (by rfl) (pa_cons (pv 1) (pa_cons (pv 5) (pa_cons (pv 4) (pa_cons (pv 8) pa_nil))))))) (pss_one (ps_ret pe_bl)) pss_nil)
      (pss_cons (ps_par (i := 9) (j := 10) rfl sc_law.nd rfl rfl (by decide) rfl rfl (pa_cons pe_dnewK (pa_cons pe_int pa_nil)) (by rfl))
      (pss_cons (ps_for PassesOwn.never rfl (pi_list (pv 6)) (pg_name (i := 11) sc_law.nd rfl (Or.inl rfl)) (pss_one (ps_if (pt_cmp (pc_dnotin (hu_of hr) (pv 11) (pv 9))) (pss_cons (ps_set (i := 10) sc_law.nd rfl (Or.inl rfl) (pe_op op_add (pv 10) pe_int))
      (pss_cons (ps_for PassesOwn.never rfl (pi_list (C8.pe_c c_law_round hr (by decide) (by rfl) (pa_cons (pv 4) (pa_cons (pv 11) pa_nil)))) (pg_name (i := 12) sc_law.nd rfl (Or.inl rfl)) (pss_one (ps_dput (hu_of hr) (pv 9) (pv 12) pe_bl rfl)))
      (pss_one (ps_if (pt_cmpR op_ne (pe_cmpR op_isN (C8.pe_c c_steps_by hr (by decide) (by rfl) (pa_cons (pv 5) (pa_cons (pv 7) (pa_cons (pe_op op_add_str (pv 11) pe_str) pa_nil)))) pe_non (nomark _)) (pe_cmpR op_notIn_seq (pe_op op_add_str (pv 11) pe_str) (pv 8) (by rfl)) (nomark _)) (pss_one (ps_ret pe_bl)) pss_nil)))) pss_nil)))
      (pss_one (ps_if (pt_cmpR op_ne (pe_callB SkE.call_repr_int (by rfl) T.n_repr (by decide +kernel) (pa_cons (C8.pe_c c_how_many_rounds hr (by decide) (by rfl) (pa_cons (pv 5) pa_nil)) pa_nil)) (pe_callB SkE.call_repr_int (by rfl) T.n_repr (by decide +kernel) (pa_cons (pv 10) pa_nil)) (nomark _)) (pss_one (ps_ret pe_bl)) pss_nil)))))))))))
      (pss_one (ps_ret pe_bl)))), ?_⟩
    refine ⟨_, rfl, s, is, rfl, hs, fun r c H0 e0 hr0 r0 => ?_⟩
    have t0 := e0.t htab
    (repeat (first | refine ⟨_, rfl, ?_⟩ | refine ⟨rfl, ?_⟩ | refine ⟨_, _, rfl, rfl, ?_⟩ | refine ⟨_, _, rfl, ?_⟩ | refine ⟨hz, ?_⟩ | refine ⟨(show 3 ≤ sizeLine by decide), ?_⟩ | refine ⟨(show 2 ≤ sizeLine by decide), ?_⟩ | refine ⟨by decide +kernel, ?_⟩ | refine ⟨.inl ⟨by decide, by decide⟩, ?_⟩ | refine ⟨(by show (0 : Int) < _; omega), ?_⟩ | refine ⟨⟨by omega, by omega⟩, ?_⟩ | refine .inl ⟨_, rfl, sz (by simp only [*, p110, p101, sM, sE, s1, s0, s110, s101, txt_cat, txt_len, cut_to, cut_from, cut_init, List.length_append, List.length_cons, List.length_nil, List.length_take, List.length_drop, List.length_dropLast, List.length_reverse]; omega), ?_⟩ | refine ⟨sz (by simp only [*, p110, p101, sM, sE, s1, s0, s110, s101, txt_cat, txt_len, cut_to, cut_from, cut_init, List.length_append, List.length_cons, List.length_nil, List.length_take, List.length_drop, List.length_dropLast, List.length_reverse]; omega), ?_⟩))
    refine for_rng (fun i σ H' => ∃ (a2 a3 a4 a5 a6 a7 a8 a9 a10 a11 a12 : Option V), σ = [some (.ref s), some (.ref r), a2, a3, a4, a5, a6, a7, a8, a9, a10, a11, a12] ∧ RdAt K H' r c (2000 * i) ∧ Tab K H') ⟨_, _, _, _, _, _, _, _, _, _, _, rfl, r0, t0⟩ (fun i σ H1 hi hp => ?_) fun σ H1 hp => ?_
    · obtain ⟨a2, a3, a4, a5, a6, a7, a8, a9, a10, a11, a12, rfl, r1, t1⟩ := hp
      have hi2 : i < 2 := hi
      (repeat (first | refine ⟨_, rfl, ?_⟩ | refine ⟨rfl, ?_⟩ | refine ⟨_, _, rfl, rfl, ?_⟩ | refine ⟨_, _, rfl, ?_⟩ | refine ⟨hz, ?_⟩ | refine ⟨(show 3 ≤ sizeLine by decide), ?_⟩ | refine ⟨(show 2 ≤ sizeLine by decide), ?_⟩ | refine ⟨by decide +kernel, ?_⟩ | refine ⟨.inl ⟨by decide, by decide⟩, ?_⟩ | refine ⟨(by show (0 : Int) < _; omega), ?_⟩ | refine ⟨⟨by omega, by omega⟩, ?_⟩ | refine .inl ⟨_, rfl, sz (by simp only [*, p110, p101, sM, sE, s1, s0, s110, s101, txt_cat, txt_len, cut_to, cut_from, cut_init, List.length_append, List.length_cons, List.length_nil, List.length_take, List.length_drop, List.length_dropLast, List.length_reverse]; omega), ?_⟩ | refine ⟨sz (by simp only [*, p110, p101, sM, sE, s1, s0, s110, s101, txt_cat, txt_len, cut_to, cut_from, cut_init, List.length_append, List.length_cons, List.length_nil, List.length_take, List.length_drop, List.length_dropLast, List.length_reverse]; omega), ?_⟩))
      refine ⟨r, c, 2000 * i, 2, rfl, r1, by omega, by decide, by decide, fun v1 H2 y2 r2 hv1 => ?_⟩
      (repeat (first | refine ⟨_, rfl, ?_⟩ | refine ⟨rfl, ?_⟩ | refine ⟨_, _, rfl, rfl, ?_⟩ | refine ⟨_, _, rfl, ?_⟩ | refine ⟨hz, ?_⟩ | refine ⟨(show 3 ≤ sizeLine by decide), ?_⟩ | refine ⟨(show 2 ≤ sizeLine by decide), ?_⟩ | refine ⟨by decide +kernel, ?_⟩ | refine ⟨.inl ⟨by decide, by decide⟩, ?_⟩ | refine ⟨(by show (0 : Int) < _; omega), ?_⟩ | refine ⟨⟨by omega, by omega⟩, ?_⟩ | refine .inl ⟨_, rfl, sz (by simp only [*, p110, p101, sM, sE, s1, s0, s110, s101, txt_cat, txt_len, cut_to, cut_from, cut_init, List.length_append, List.length_cons, List.length_nil, List.length_take, List.length_drop, List.length_dropLast, List.length_reverse]; omega), ?_⟩ | refine ⟨sz (by simp only [*, p110, p101, sM, sE, s1, s0, s110, s101, txt_cat, txt_len, cut_to, cut_from, cut_init, List.length_append, List.length_cons, List.length_nil, List.length_take, List.length_drop, List.length_dropLast, List.length_reverse]; omega), ?_⟩))
      refine ifC fun w1 hw1 => ?_
      refine ⟨_, rfl, r, c, 2000 * i + 1, 12, rfl, r2, by omega, by decide, by decide, fun v2 H3 y3 r3 hv2 => ?_⟩
      (repeat (first | refine ⟨_, rfl, ?_⟩ | refine ⟨rfl, ?_⟩ | refine ⟨_, _, rfl, rfl, ?_⟩ | refine ⟨_, _, rfl, ?_⟩ | refine ⟨hz, ?_⟩ | refine ⟨(show 3 ≤ sizeLine by decide), ?_⟩ | refine ⟨(show 2 ≤ sizeLine by decide), ?_⟩ | refine ⟨by decide +kernel, ?_⟩ | refine ⟨.inl ⟨by decide, by decide⟩, ?_⟩ | refine ⟨(by show (0 : Int) < _; omega), ?_⟩ | refine ⟨⟨by omega, by omega⟩, ?_⟩ | refine .inl ⟨_, rfl, sz (by simp only [*, p110, p101, sM, sE, s1, s0, s110, s101, txt_cat, txt_len, cut_to, cut_from, cut_init, List.length_append, List.length_cons, List.length_nil, List.length_take, List.length_drop, List.length_dropLast, List.length_reverse]; omega), ?_⟩ | refine ⟨sz (by simp only [*, p110, p101, sM, sE, s1, s0, s110, s101, txt_cat, txt_len, cut_to, cut_from, cut_init, List.length_append, List.length_cons, List.length_nil, List.length_take, List.length_drop, List.length_dropLast, List.length_reverse]; omega), ?_⟩))
      refine ifC fun w2 hw2 => ?_
      (repeat (first | refine ⟨_, rfl, ?_⟩ | refine ⟨rfl, ?_⟩ | refine ⟨_, _, rfl, rfl, ?_⟩ | refine ⟨_, _, rfl, ?_⟩ | refine ⟨hz, ?_⟩ | refine ⟨(show 3 ≤ sizeLine by decide), ?_⟩ | refine ⟨(show 2 ≤ sizeLine by decide), ?_⟩ | refine ⟨by decide +kernel, ?_⟩ | refine ⟨.inl ⟨by decide, by decide⟩, ?_⟩ | refine ⟨(by show (0 : Int) < _; omega), ?_⟩ | refine ⟨⟨by omega, by omega⟩, ?_⟩ | refine .inl ⟨_, rfl, sz (by simp only [*, p110, p101, sM, sE, s1, s0, s110, s101, txt_cat, txt_len, cut_to, cut_from, cut_init, List.length_append, List.length_cons, List.length_nil, List.length_take, List.length_drop, List.length_dropLast, List.length_reverse]; omega), ?_⟩ | refine ⟨sz (by simp only [*, p110, p101, sM, sE, s1, s0, s110, s101, txt_cat, txt_len, cut_to, cut_from, cut_init, List.length_append, List.length_cons, List.length_nil, List.length_take, List.length_drop, List.length_dropLast, List.length_reverse]; omega), ?_⟩))
      intro L4 hL4
      have e4 : Ex K H3 (upd H3 L4 (.lst [.int 3, .int 2, w1, w2])) := Ex.new hL4
      refine ⟨r, c, 2000 * i + 2, L4, [.int 3, .int 2, w1, w2], rfl, r3.ex e4, by omega, upd_same, (by show 1 ≤ 4; decide), (by show 4 ≤ 1000; decide), fun c i j z => (by cases z), fun k v H5 hk y5 r5 => ?_⟩
      have t5 : Tab K H5 := y5.t (e4.t (y3.t (y2.t t1)))
      obtain ⟨n, rfl, hn2, hn5⟩ : ∃ n : Nat, v = .int (n : Nat) ∧ 2 ≤ n ∧ n ≤ 5 := by
        have hm := List.mem_of_getElem? hk
        simp only [List.mem_cons, List.not_mem_nil, or_false] at hm
        rcases hm with rfl | rfl | rfl | rfl
        · exact ⟨3, rfl, by decide, by decide⟩
        · exact ⟨2, rfl, by decide, by decide⟩
        · rcases hw1 with rfl | rfl
          · exact ⟨4, rfl, by decide, by decide⟩
          · exact ⟨3, rfl, by decide, by decide⟩
        · rcases hw2 with rfl | rfl
          · exact ⟨5, rfl, by decide, by decide⟩
          · exact ⟨2, rfl, by decide, by decide⟩
      (repeat (first | refine ⟨_, rfl, ?_⟩ | refine ⟨rfl, ?_⟩ | refine ⟨_, _, rfl, rfl, ?_⟩ | refine ⟨_, _, rfl, ?_⟩ | refine ⟨hz, ?_⟩ | refine ⟨(show 3 ≤ sizeLine by decide), ?_⟩ | refine ⟨(show 2 ≤ sizeLine by decide), ?_⟩ | refine ⟨by decide +kernel, ?_⟩ | refine ⟨.inl ⟨by decide, by decide⟩, ?_⟩ | refine ⟨(by show (0 : Int) < _; omega), ?_⟩ | refine ⟨⟨by omega, by omega⟩, ?_⟩ | refine .inl ⟨_, rfl, sz (by simp only [*, p110, p101, sM, sE, s1, s0, s110, s101, txt_cat, txt_len, cut_to, cut_from, cut_init, List.length_append, List.length_cons, List.length_nil, List.length_take, List.length_drop, List.length_dropLast, List.length_reverse]; omega), ?_⟩ | refine ⟨sz (by simp only [*, p110, p101, sM, sE, s1, s0, s110, s101, txt_cat, txt_len, cut_to, cut_from, cut_init, List.length_append, List.length_cons, List.length_nil, List.length_take, List.length_drop, List.length_dropLast, List.length_reverse]; omega), ?_⟩))
      refine ⟨r, c, 2000 * i + 3, 10, rfl, r5, by omega, by decide, by decide, fun v3 H6 y6 r6 hv3 => ?_⟩
      refine ⟨r, c, 2000 * i + 4, n, v3, rfl, r6, by omega, hn2, hn5, by omega, fun La ws H7 y7 hLa la r7 hps hw9 => ?_⟩
      have t7 : Tab K H7 := y7.t (y6.t t5)
      (repeat (first | refine ⟨_, rfl, ?_⟩ | refine ⟨rfl, ?_⟩ | refine ⟨_, _, rfl, rfl, ?_⟩ | refine ⟨_, _, rfl, ?_⟩ | refine ⟨hz, ?_⟩ | refine ⟨(show 3 ≤ sizeLine by decide), ?_⟩ | refine ⟨(show 2 ≤ sizeLine by decide), ?_⟩ | refine ⟨by decide +kernel, ?_⟩ | refine ⟨.inl ⟨by decide, by decide⟩, ?_⟩ | refine ⟨(by show (0 : Int) < _; omega), ?_⟩ | refine ⟨⟨by omega, by omega⟩, ?_⟩ | refine .inl ⟨_, rfl, sz (by simp only [*, p110, p101, sM, sE, s1, s0, s110, s101, txt_cat, txt_len, cut_to, cut_from, cut_init, List.length_append, List.length_cons, List.length_nil, List.length_take, List.length_drop, List.length_dropLast, List.length_reverse]; omega), ?_⟩ | refine ⟨sz (by simp only [*, p110, p101, sM, sE, s1, s0, s110, s101, txt_cat, txt_len, cut_to, cut_from, cut_init, List.length_append, List.length_cons, List.length_nil, List.length_take, List.length_drop, List.length_dropLast, List.length_reverse]; omega), ?_⟩))
      show ∀ x dx : Addr, H7 x = none → H7 dx = none → dx ≠ x → _
      intro bk dx hbk hdx hne
      refine ⟨H7, bk, dx, n, La, ws, rfl, hbk, hdx, hne, rfl, la, hps, hn2, by omega, fun H8 ws' hperm e8 hb8 => ⟨rfl, ?_⟩⟩
      obtain ⟨oT, oR, hM⟩ := M n ws' hn2 hn5 (hps.perm hperm) (by rw [hperm.length_eq]; omega)
      have hBm := Bm_perm hperm
      have hpre : ∀ z ∈ ws, z.take 3 = p110 := fun z hz => (hps.all z hz).pre
      (repeat (first | refine ⟨_, rfl, ?_⟩ | refine ⟨rfl, ?_⟩ | refine ⟨_, _, rfl, rfl, ?_⟩ | refine ⟨_, _, rfl, ?_⟩ | refine ⟨hz, ?_⟩ | refine ⟨(show 3 ≤ sizeLine by decide), ?_⟩ | refine ⟨(show 2 ≤ sizeLine by decide), ?_⟩ | refine ⟨by decide +kernel, ?_⟩ | refine ⟨.inl ⟨by decide, by decide⟩, ?_⟩ | refine ⟨(by show (0 : Int) < _; omega), ?_⟩ | refine ⟨⟨by omega, by omega⟩, ?_⟩ | refine .inl ⟨_, rfl, sz (by simp only [*, p110, p101, sM, sE, s1, s0, s110, s101, txt_cat, txt_len, cut_to, cut_from, cut_init, List.length_append, List.length_cons, List.length_nil, List.length_take, List.length_drop, List.length_dropLast, List.length_reverse]; omega), ?_⟩ | refine ⟨sz (by simp only [*, p110, p101, sM, sE, s1, s0, s110, s101, txt_cat, txt_len, cut_to, cut_from, cut_init, List.length_append, List.length_cons, List.length_nil, List.length_take, List.length_drop, List.length_dropLast, List.length_reverse]; omega), ?_⟩))
      refine ⟨hn5, fun Lw H9 e9 hLw lw => ?_⟩
      have b9 := hb8.ex e9
      have r9 := r7.ex (e8.trans e9)
      have la9 := (e8.trans e9).lst la
      have t9 : Tab K H9 := e9.t (e8.t t7)
      (repeat (first | refine ⟨_, rfl, ?_⟩ | refine ⟨rfl, ?_⟩ | refine ⟨_, _, rfl, rfl, ?_⟩ | refine ⟨_, _, rfl, ?_⟩ | refine ⟨hz, ?_⟩ | refine ⟨(show 3 ≤ sizeLine by decide), ?_⟩ | refine ⟨(show 2 ≤ sizeLine by decide), ?_⟩ | refine ⟨by decide +kernel, ?_⟩ | refine ⟨.inl ⟨by decide, by decide⟩, ?_⟩ | refine ⟨(by show (0 : Int) < _; omega), ?_⟩ | refine ⟨⟨by omega, by omega⟩, ?_⟩ | refine .inl ⟨_, rfl, sz (by simp only [*, p110, p101, sM, sE, s1, s0, s110, s101, txt_cat, txt_len, cut_to, cut_from, cut_init, List.length_append, List.length_cons, List.length_nil, List.length_take, List.length_drop, List.length_dropLast, List.length_reverse]; omega), ?_⟩ | refine ⟨sz (by simp only [*, p110, p101, sM, sE, s1, s0, s110, s101, txt_cat, txt_len, cut_to, cut_from, cut_init, List.length_append, List.length_cons, List.length_nil, List.length_take, List.length_drop, List.length_dropLast, List.length_reverse]; omega), ?_⟩))
      refine ⟨r, c, _, n, rfl, r9, by omega, by omega, fun z Ha ya ra hz => ?_⟩
      (repeat (first | refine ⟨_, rfl, ?_⟩ | refine ⟨rfl, ?_⟩ | refine ⟨_, _, rfl, rfl, ?_⟩ | refine ⟨_, _, rfl, ?_⟩ | refine ⟨hz, ?_⟩ | refine ⟨(show 3 ≤ sizeLine by decide), ?_⟩ | refine ⟨(show 2 ≤ sizeLine by decide), ?_⟩ | refine ⟨by decide +kernel, ?_⟩ | refine ⟨.inl ⟨by decide, by decide⟩, ?_⟩ | refine ⟨(by show (0 : Int) < _; omega), ?_⟩ | refine ⟨⟨by omega, by omega⟩, ?_⟩ | refine .inl ⟨_, rfl, sz (by simp only [*, p110, p101, sM, sE, s1, s0, s110, s101, txt_cat, txt_len, cut_to, cut_from, cut_init, List.length_append, List.length_cons, List.length_nil, List.length_take, List.length_drop, List.length_dropLast, List.length_reverse]; omega), ?_⟩ | refine ⟨sz (by simp only [*, p110, p101, sM, sE, s1, s0, s110, s101, txt_cat, txt_len, cut_to, cut_from, cut_init, List.length_append, List.length_cons, List.length_nil, List.length_take, List.length_drop, List.length_dropLast, List.length_reverse]; omega), ?_⟩))
      refine ⟨r, c, _, 2 * n + 1, by rw [show (((2 * n + 1 : Nat)) : Int) = 2 * (n : Nat) + 1 by omega]; rfl, ra, by omega, by omega, by omega, fun v4 Hb yb rb hv4 => ?_⟩
      (repeat (first | refine ⟨_, rfl, ?_⟩ | refine ⟨rfl, ?_⟩ | refine ⟨_, _, rfl, rfl, ?_⟩ | refine ⟨_, _, rfl, ?_⟩ | refine ⟨hz, ?_⟩ | refine ⟨(show 3 ≤ sizeLine by decide), ?_⟩ | refine ⟨(show 2 ≤ sizeLine by decide), ?_⟩ | refine ⟨by decide +kernel, ?_⟩ | refine ⟨.inl ⟨by decide, by decide⟩, ?_⟩ | refine ⟨(by show (0 : Int) < _; omega), ?_⟩ | refine ⟨⟨by omega, by omega⟩, ?_⟩ | refine .inl ⟨_, rfl, sz (by simp only [*, p110, p101, sM, sE, s1, s0, s110, s101, txt_cat, txt_len, cut_to, cut_from, cut_init, List.length_append, List.length_cons, List.length_nil, List.length_take, List.length_drop, List.length_dropLast, List.length_reverse]; omega), ?_⟩ | refine ⟨sz (by simp only [*, p110, p101, sM, sE, s1, s0, s110, s101, txt_cat, txt_len, cut_to, cut_from, cut_init, List.length_append, List.length_cons, List.length_nil, List.length_take, List.length_drop, List.length_dropLast, List.length_reverse]; omega), ?_⟩))
      intro L5 hL5
      have ec : Ex K Hb (upd Hb L5 (.lst [.str "0", .str "1"])) := Ex.new hL5
      refine ⟨r, c, _, L5, [.str "0", .str "1"], rfl, rb.ex ec, by omega, upd_same, (by show 1 ≤ 2; decide), (by show 2 ≤ 1000; decide), fun c i j z => (by cases z), fun k5 v5 Hd hk5 yd rd => ?_⟩
      obtain ⟨u, rfl⟩ : ∃ u, v5 = .str (txt [u]) := by
        have hm := List.mem_of_getElem? hk5
        simp only [List.mem_cons, List.not_mem_nil, or_false] at hm
        rcases hm with rfl | rfl
        · exact ⟨false, by rw [s0]⟩
        · exact ⟨true, by rw [s1]⟩
      have y9d : Ey K H9 Hd := ((ya.trans yb).trans ec.y).trans yd
      have bd := y9d.book b9
      have lad := y9d.wds la9
      have lwd := y9d.wds lw
      have td := y9d.t t9
      have hzl := hz.1
      (repeat (first | refine ⟨_, rfl, ?_⟩ | refine ⟨rfl, ?_⟩ | refine ⟨_, _, rfl, rfl, ?_⟩ | refine ⟨_, _, rfl, ?_⟩ | refine ⟨hz, ?_⟩ | refine ⟨(show 3 ≤ sizeLine by decide), ?_⟩ | refine ⟨(show 2 ≤ sizeLine by decide), ?_⟩ | refine ⟨by decide +kernel, ?_⟩ | refine ⟨.inl ⟨by decide, by decide⟩, ?_⟩ | refine ⟨(by show (0 : Int) < _; omega), ?_⟩ | refine ⟨⟨by omega, by omega⟩, ?_⟩ | refine .inl ⟨_, rfl, sz (by simp only [*, p110, p101, sM, sE, s1, s0, s110, s101, txt_cat, txt_len, cut_to, cut_from, cut_init, List.length_append, List.length_cons, List.length_nil, List.length_take, List.length_drop, List.length_dropLast, List.length_reverse]; omega), ?_⟩ | refine ⟨sz (by simp only [*, p110, p101, sM, sE, s1, s0, s110, s101, txt_cat, txt_len, cut_to, cut_from, cut_init, List.length_append, List.length_cons, List.length_nil, List.length_take, List.length_drop, List.length_dropLast, List.length_reverse]; omega), ?_⟩))
      refine ⟨z, v4, u, rfl, by omega, by omega, fun He ee => ?_⟩
      have be := bd.ex ee
      have lae := ee.lst lad
      have lwe := ee.lst lwd
      have te := ee.t td
      have re := rd.ex ee
      obtain ⟨p, k, y0, hp, hW, hiff⟩ := hM.way z v4 u hz (by omega)
      have hx0l : (stateIn (z, v4, u)).length = 2 * n + 1 := by rw [stateIn_len, hzl]
      generalize stateIn (z, v4, u) = x0 at *
      have hsm := hM.small
      have hmul : (allW n).length * (4 * n + 2) ≤ 42 * (4 * n + 2) := Nat.mul_le_mul_right _ hsm
      have hwl : (wds (allW n)).length = (allW n).length := wds_len _
      (repeat (first | refine ⟨_, rfl, ?_⟩ | refine ⟨rfl, ?_⟩ | refine ⟨_, _, rfl, rfl, ?_⟩ | refine ⟨_, _, rfl, ?_⟩ | refine ⟨hz, ?_⟩ | refine ⟨(show 3 ≤ sizeLine by decide), ?_⟩ | refine ⟨(show 2 ≤ sizeLine by decide), ?_⟩ | refine ⟨by decide +kernel, ?_⟩ | refine ⟨.inl ⟨by decide, by decide⟩, ?_⟩ | refine ⟨(by show (0 : Int) < _; omega), ?_⟩ | refine ⟨⟨by omega, by omega⟩, ?_⟩ | refine .inl ⟨_, rfl, sz (by simp only [*, p110, p101, sM, sE, s1, s0, s110, s101, txt_cat, txt_len, cut_to, cut_from, cut_init, List.length_append, List.length_cons, List.length_nil, List.length_take, List.length_drop, List.length_dropLast, List.length_reverse]; omega), ?_⟩ | refine ⟨sz (by simp only [*, p110, p101, sM, sE, s1, s0, s110, s101, txt_cat, txt_len, cut_to, cut_from, cut_init, List.length_append, List.length_cons, List.length_nil, List.length_take, List.length_drop, List.length_dropLast, List.length_reverse]; omega), ?_⟩))
      refine ⟨Lw, _, rfl, .inl (.inl (.inl lwe)), ?_⟩
      rw [hwl]
      (repeat (first | refine ⟨_, rfl, ?_⟩ | refine ⟨rfl, ?_⟩ | refine ⟨_, _, rfl, rfl, ?_⟩ | refine ⟨_, _, rfl, ?_⟩ | refine ⟨hz, ?_⟩ | refine ⟨(show 3 ≤ sizeLine by decide), ?_⟩ | refine ⟨(show 2 ≤ sizeLine by decide), ?_⟩ | refine ⟨by decide +kernel, ?_⟩ | refine ⟨.inl ⟨by decide, by decide⟩, ?_⟩ | refine ⟨(by show (0 : Int) < _; omega), ?_⟩ | refine ⟨⟨by omega, by omega⟩, ?_⟩ | refine .inl ⟨_, rfl, sz (by simp only [*, p110, p101, sM, sE, s1, s0, s110, s101, txt_cat, txt_len, cut_to, cut_from, cut_init, List.length_append, List.length_cons, List.length_nil, List.length_take, List.length_drop, List.length_dropLast, List.length_reverse]; omega), ?_⟩ | refine ⟨sz (by simp only [*, p110, p101, sM, sE, s1, s0, s110, s101, txt_cat, txt_len, cut_to, cut_from, cut_init, List.length_append, List.length_cons, List.length_nil, List.length_take, List.length_drop, List.length_dropLast, List.length_reverse]; omega), ?_⟩))
      refine ⟨.inl ⟨by omega, by omega⟩, ?_⟩
      refine ⟨bk, n, ws', x0, (allW n).length * (4 * n + 2), p, nxS (Bm ws'), by show [V.ref bk, V.str (txt x0), V.int (((allW n).length : Int) * (4 * (n : Int) + 2))] = _; rw [Int.natCast_mul]; rfl, be, te, rfl, hW.per, hp, by omega, fun j _ => ⟨(hW.st j).1, by rw [(hW.st j).2]; omega⟩, fun Lr Hf ef hLr lr => ?_⟩
      have rf := re.ex ef
      have bf := be.ex ef
      have laf := ef.lst lae
      have lwf := ef.lst lwe
      have tf := ef.t te
      (repeat (first | refine ⟨_, rfl, ?_⟩ | refine ⟨rfl, ?_⟩ | refine ⟨_, _, rfl, rfl, ?_⟩ | refine ⟨_, _, rfl, ?_⟩ | refine ⟨hz, ?_⟩ | refine ⟨(show 3 ≤ sizeLine by decide), ?_⟩ | refine ⟨(show 2 ≤ sizeLine by decide), ?_⟩ | refine ⟨by decide +kernel, ?_⟩ | refine ⟨.inl ⟨by decide, by decide⟩, ?_⟩ | refine ⟨(by show (0 : Int) < _; omega), ?_⟩ | refine ⟨⟨by omega, by omega⟩, ?_⟩ | refine .inl ⟨_, rfl, sz (by simp only [*, p110, p101, sM, sE, s1, s0, s110, s101, txt_cat, txt_len, cut_to, cut_from, cut_init, List.length_append, List.length_cons, List.length_nil, List.length_take, List.length_drop, List.length_dropLast, List.length_reverse]; omega), ?_⟩ | refine ⟨sz (by simp only [*, p110, p101, sM, sE, s1, s0, s110, s101, txt_cat, txt_len, cut_to, cut_from, cut_init, List.length_append, List.length_cons, List.length_nil, List.length_take, List.length_drop, List.length_dropLast, List.length_reverse]; omega), ?_⟩))
      refine ⟨r, c, bk, La, Lr, _, n, p, k, ws, ws', x0, y0, rfl, rf, by omega, bf, tf, laf, hpre, hBm, hn2, hn5, by omega, hW, lr, fun Hg yg rg => ⟨true, rfl, ?_⟩⟩
      have rg := rg.le (show _ ≤ 2000 * (i + 1) by omega)
      have bg := yg.book bf
      have lag := yg.wds laf
      have lwg := yg.wds lwf
      have lrg := yg.wds lr
      have tg := yg.t tf
      (repeat (first | refine ⟨_, rfl, ?_⟩ | refine ⟨rfl, ?_⟩ | refine ⟨_, _, rfl, rfl, ?_⟩ | refine ⟨_, _, rfl, ?_⟩ | refine ⟨hz, ?_⟩ | refine ⟨(show 3 ≤ sizeLine by decide), ?_⟩ | refine ⟨(show 2 ≤ sizeLine by decide), ?_⟩ | refine ⟨by decide +kernel, ?_⟩ | refine ⟨.inl ⟨by decide, by decide⟩, ?_⟩ | refine ⟨(by show (0 : Int) < _; omega), ?_⟩ | refine ⟨⟨by omega, by omega⟩, ?_⟩ | refine .inl ⟨_, rfl, sz (by simp only [*, p110, p101, sM, sE, s1, s0, s110, s101, txt_cat, txt_len, cut_to, cut_from, cut_init, List.length_append, List.length_cons, List.length_nil, List.length_take, List.length_drop, List.length_dropLast, List.length_reverse]; omega), ?_⟩ | refine ⟨sz (by simp only [*, p110, p101, sM, sE, s1, s0, s110, s101, txt_cat, txt_len, cut_to, cut_from, cut_init, List.length_append, List.length_cons, List.length_nil, List.length_take, List.length_drop, List.length_dropLast, List.length_reverse]; omega), ?_⟩))
      intro Dm hDm
      (repeat (first | refine ⟨_, rfl, ?_⟩ | refine ⟨rfl, ?_⟩ | refine ⟨_, _, rfl, rfl, ?_⟩ | refine ⟨_, _, rfl, ?_⟩ | refine ⟨hz, ?_⟩ | refine ⟨(show 3 ≤ sizeLine by decide), ?_⟩ | refine ⟨(show 2 ≤ sizeLine by decide), ?_⟩ | refine ⟨by decide +kernel, ?_⟩ | refine ⟨.inl ⟨by decide, by decide⟩, ?_⟩ | refine ⟨(by show (0 : Int) < _; omega), ?_⟩ | refine ⟨⟨by omega, by omega⟩, ?_⟩ | refine .inl ⟨_, rfl, sz (by simp only [*, p110, p101, sM, sE, s1, s0, s110, s101, txt_cat, txt_len, cut_to, cut_from, cut_init, List.length_append, List.length_cons, List.length_nil, List.length_take, List.length_drop, List.length_dropLast, List.length_reverse]; omega), ?_⟩ | refine ⟨sz (by simp only [*, p110, p101, sM, sE, s1, s0, s110, s101, txt_cat, txt_len, cut_to, cut_from, cut_init, List.length_append, List.length_cons, List.length_nil, List.length_take, List.length_drop, List.length_dropLast, List.length_reverse]; omega), ?_⟩))
      have em : Ex K Hg (upd Hg Dm (.dK [])) := Ex.new hDm
      have dm : (upd Hg Dm (.dK [])) Dm = some (.dK (seen [])) := upd_same
      generalize upd Hg Dm (.dK []) = Hm at em dm ⊢
      refine ⟨⟨_, .inl (.inl (em.lst lwg))⟩, for_lst (xs := wds (allW n)) (fun j σ H' => ∃ (b11 b12 : Option V), σ = [some (.ref s), some (.ref r), some (.int (0 + (i : Nat))), some (.int (n : Nat)), some (.ref La), some (.ref bk), some (.ref Lw), some (.str (txt x0)), some (.ref Lr), some (.ref Dm), some (.int ((grd oR ((allW n).take j) (0, [])).1 : Nat)), b11, b12] ∧ Ex K Hg H' ∧ H' Dm = some (.dK (seen (grd oR ((allW n).take j) (0, [])).2))) (fun j σ H' ⟨_, _, _, e, _⟩ => .inl (.inl (e.lst lwg))) ⟨_, _, rfl, em, dm⟩ (fun j v σ H1' hv hp' => ?_) fun σ H1' hp' => ?_⟩
      · obtain ⟨v, hvx, rfl⟩ := wds_at hv
        obtain ⟨b11, b12, rfl, e1, d1⟩ := hp'
        have hvm := List.mem_of_getElem? hvx
        have elk : (allW n).take (j + 1) = (allW n).take j ++ [v] := by
          rw [List.take_add_one, hvx]
          rfl
        rw [elk, grd_snoc]
        have hsub : ∀ y ∈ (allW n).take j, (oR y).length ≤ 500 := fun y hy => by
          obtain ⟨p', ⟨q1, _, _, q4⟩, _⟩ := hM.hR y (List.mem_of_mem_take hy)
          rw [q4, orb_len]
          exact q1
        have hsz := grd_le (o := oR) (m := 500) ((allW n).take j) hsub (0, [])
        have hti : ((allW n).take j).length ≤ 42 := by rw [List.length_take]; omega
        generalize grd oR ((allW n).take j) (0, []) = U at d1 hsz ⊢
        refine ⟨_, rfl, _, rfl, Dm, valV (seen U.2) (.inr (txt v) : Key), rfl, DGet.k (k := Sum.inr (txt v)) d1, _, rfl, ?_⟩
        rw [seen_val]
        by_cases cm : v ∈ U.2
        · rw [if_pos cm]
          exact nF cm ⟨_, _, rfl, e1, d1⟩
        · rw [if_neg cm]
          refine nT cm ?_
          (repeat (first | refine ⟨_, rfl, ?_⟩ | refine ⟨rfl, ?_⟩ | refine ⟨_, _, rfl, rfl, ?_⟩ | refine ⟨_, _, rfl, ?_⟩ | refine ⟨hz, ?_⟩ | refine ⟨(show 3 ≤ sizeLine by decide), ?_⟩ | refine ⟨(show 2 ≤ sizeLine by decide), ?_⟩ | refine ⟨by decide +kernel, ?_⟩ | refine ⟨.inl ⟨by decide, by decide⟩, ?_⟩ | refine ⟨(by show (0 : Int) < _; omega), ?_⟩ | refine ⟨⟨by omega, by omega⟩, ?_⟩ | refine .inl ⟨_, rfl, sz (by simp only [*, p110, p101, sM, sE, s1, s0, s110, s101, txt_cat, txt_len, cut_to, cut_from, cut_init, List.length_append, List.length_cons, List.length_nil, List.length_take, List.length_drop, List.length_dropLast, List.length_reverse]; omega), ?_⟩ | refine ⟨sz (by simp only [*, p110, p101, sM, sE, s1, s0, s110, s101, txt_cat, txt_len, cut_to, cut_from, cut_init, List.length_append, List.length_cons, List.length_nil, List.length_take, List.length_drop, List.length_dropLast, List.length_reverse]; omega), ?_⟩))
          obtain ⟨pv, hpv, hfit⟩ := hM.hR v hvm
          have hOl : (oR v).length ≤ 500 := by rw [hpv.2.2.2, orb_len]; exact hpv.1
          refine ⟨La, ws, v, pv, oR v, rfl, e1.lst lag, hpre, by rw [hBm]; exact hpv, by rw [hBm]; exact hfit, fun Lo H2' e2 hLo lo => ⟨Lo, rfl, ⟨_, .inl (.inl lo)⟩, ?_⟩⟩
          refine for_lst (xs := wds (oR v)) (fun q σ H' => ∃ (b12 : Option V), σ = [some (.ref s), some (.ref r), some (.int (0 + (i : Nat))), some (.int (n : Nat)), some (.ref La), some (.ref bk), some (.ref Lw), some (.str (txt x0)), some (.ref Lr), some (.ref Dm), some (.int ((U.1 + 1 : Nat) : Int)), some (.str (txt v)), b12] ∧ Ex K Hg H' ∧ H' Dm = some (.dK (seen (addAll U.2 ((oR v).take q)))) ∧ H' Lo = some (.lst (wds (oR v)))) (fun q σ H' ⟨_, _, _, _, e⟩ => .inl (.inl e)) ⟨_, rfl, e1.trans e2, e2.dK d1, lo⟩ (fun q y σ H3' hy hq => ?_) fun σ H3' hq => ?_
          · obtain ⟨y, hyx, rfl⟩ := wds_at hy
            obtain ⟨b12, rfl, e3, d3, l3⟩ := hq
            have ety : (oR v).take (q + 1) = (oR v).take q ++ [y] := by
              rw [List.take_add_one, hyx]
              rfl
            have hal := addAll_le ((oR v).take q) U.2
            have htq : ((oR v).take q).length ≤ 500 := by rw [List.length_take]; omega
            rw [ety, addAll_snoc]
            (repeat (first | refine ⟨_, rfl, ?_⟩ | refine ⟨rfl, ?_⟩ | refine ⟨_, _, rfl, rfl, ?_⟩ | refine ⟨_, _, rfl, ?_⟩ | refine ⟨hz, ?_⟩ | refine ⟨(show 3 ≤ sizeLine by decide), ?_⟩ | refine ⟨(show 2 ≤ sizeLine by decide), ?_⟩ | refine ⟨by decide +kernel, ?_⟩ | refine ⟨.inl ⟨by decide, by decide⟩, ?_⟩ | refine ⟨(by show (0 : Int) < _; omega), ?_⟩ | refine ⟨⟨by omega, by omega⟩, ?_⟩ | refine .inl ⟨_, rfl, sz (by simp only [*, p110, p101, sM, sE, s1, s0, s110, s101, txt_cat, txt_len, cut_to, cut_from, cut_init, List.length_append, List.length_cons, List.length_nil, List.length_take, List.length_drop, List.length_dropLast, List.length_reverse]; omega), ?_⟩ | refine ⟨sz (by simp only [*, p110, p101, sM, sE, s1, s0, s110, s101, txt_cat, txt_len, cut_to, cut_from, cut_init, List.length_append, List.length_cons, List.length_nil, List.length_take, List.length_drop, List.length_dropLast, List.length_reverse]; omega), ?_⟩))
            refine ⟨Dm, _, rfl, DPut.k (k := Sum.inr (txt y)) d3 ?_, ?_⟩
            · unfold seen
              rw [List.length_map]
              exact Nat.lt_of_le_of_lt (show _ ≤ 30000 by have h0 : ((0, []) : Nat × List W).2.length = 0 := rfl; omega) (by decide)
            have hDl : Lo ≠ Dm := fun z => by rw [z, d3] at l3; cases l3
            refine ⟨_, rfl, e3.mutD hDm d3 _, ?_, (upd_ne hDl).trans l3⟩
            rw [upd_same]
            by_cases hm : y ∈ addAll U.2 ((oR v).take q)
            · rw [if_pos hm, put_seen2 hm]
            · rw [if_neg hm, put_seen hm]
          · obtain ⟨b12, rfl, e3, d3, l3⟩ := hq
            rw [show (wds (oR v)).length = (oR v).length from wds_len _, List.take_length] at d3
            obtain ⟨hstv, hlv⟩ := hM.st v hvm
            have hp0 := hM.p0 v hvm
            have hiv := hiff v hvm
            have hlvf : (v ++ [false]).length = 2 * n + 1 := by rw [List.length_append, hlv]; rfl
            have hst0 : StOk x0 := (hW.st 0).1
            have hinR := inV_wds (v ++ [false]) (orb (nxS (Bm ws')) x0 p)
            (repeat (first | refine ⟨_, rfl, ?_⟩ | refine ⟨rfl, ?_⟩ | refine ⟨_, _, rfl, rfl, ?_⟩ | refine ⟨_, _, rfl, ?_⟩ | refine ⟨hz, ?_⟩ | refine ⟨(show 3 ≤ sizeLine by decide), ?_⟩ | refine ⟨(show 2 ≤ sizeLine by decide), ?_⟩ | refine ⟨by decide +kernel, ?_⟩ | refine ⟨.inl ⟨by decide, by decide⟩, ?_⟩ | refine ⟨(by show (0 : Int) < _; omega), ?_⟩ | refine ⟨⟨by omega, by omega⟩, ?_⟩ | refine .inl ⟨_, rfl, sz (by simp only [*, p110, p101, sM, sE, s1, s0, s110, s101, txt_cat, txt_len, cut_to, cut_from, cut_init, List.length_append, List.length_cons, List.length_nil, List.length_take, List.length_drop, List.length_dropLast, List.length_reverse]; omega), ?_⟩ | refine ⟨sz (by simp only [*, p110, p101, sM, sE, s1, s0, s110, s101, txt_cat, txt_len, cut_to, cut_from, cut_init, List.length_append, List.length_cons, List.length_nil, List.length_take, List.length_drop, List.length_dropLast, List.length_reverse]; omega), ?_⟩))
            by_cases cv : v ∈ orb (behind (Bm ws')) (postH (Bm ws') (homeOf x0)).1 k
            · have c2 := hiv.mp cv
              refine ⟨bk, n, ws', x0, v ++ [false], k, _, by rw [s0, txt_cat]; rfl, bg.ex e3, e3.t tg, ⟨hst0, by omega, by omega⟩, ⟨hstv, by omega, by omega⟩, hW.post0, fun hno => absurd cv (by rw [hp0] at hno; exact hno), fun i' hi' H4' e4' => ?_⟩
              have e34 := e3.trans e4'
              (repeat (first | refine ⟨_, rfl, ?_⟩ | refine ⟨rfl, ?_⟩ | refine ⟨_, _, rfl, rfl, ?_⟩ | refine ⟨_, _, rfl, ?_⟩ | refine ⟨hz, ?_⟩ | refine ⟨(show 3 ≤ sizeLine by decide), ?_⟩ | refine ⟨(show 2 ≤ sizeLine by decide), ?_⟩ | refine ⟨by decide +kernel, ?_⟩ | refine ⟨.inl ⟨by decide, by decide⟩, ?_⟩ | refine ⟨(by show (0 : Int) < _; omega), ?_⟩ | refine ⟨⟨by omega, by omega⟩, ?_⟩ | refine .inl ⟨_, rfl, sz (by simp only [*, p110, p101, sM, sE, s1, s0, s110, s101, txt_cat, txt_len, cut_to, cut_from, cut_init, List.length_append, List.length_cons, List.length_nil, List.length_take, List.length_drop, List.length_dropLast, List.length_reverse]; omega), ?_⟩ | refine ⟨sz (by simp only [*, p110, p101, sM, sE, s1, s0, s110, s101, txt_cat, txt_len, cut_to, cut_from, cut_init, List.length_append, List.length_cons, List.length_nil, List.length_take, List.length_drop, List.length_dropLast, List.length_reverse]; omega), ?_⟩))
              rw [s0, txt_cat]
              refine ⟨Lr, _, rfl, .inl (.inl (.inl (e34.lst lrg))), rfl, flat_wds _, ?_⟩
              rw [hinR, decide_eq_true c2]
              refine ⟨rfl, _, rfl, ?_⟩
              refine nF rfl ⟨_, _, rfl, e34, e4'.dK d3⟩
            · have c2 : v ++ [false] ∉ orb (nxS (Bm ws')) x0 p := fun z => cv (hiv.mpr z)
              refine ⟨bk, n, ws', x0, v ++ [false], k, _, by rw [s0, txt_cat]; rfl, bg.ex e3, e3.t tg, ⟨hst0, by omega, by omega⟩, ⟨hstv, by omega, by omega⟩, hW.post0, fun _ H4' e4' => ?_, fun i' hi' => absurd (by rw [hp0] at hi'; exact List.mem_of_getElem? hi') cv⟩
              have e34 := e3.trans e4'
              (repeat (first | refine ⟨_, rfl, ?_⟩ | refine ⟨rfl, ?_⟩ | refine ⟨_, _, rfl, rfl, ?_⟩ | refine ⟨_, _, rfl, ?_⟩ | refine ⟨hz, ?_⟩ | refine ⟨(show 3 ≤ sizeLine by decide), ?_⟩ | refine ⟨(show 2 ≤ sizeLine by decide), ?_⟩ | refine ⟨by decide +kernel, ?_⟩ | refine ⟨.inl ⟨by decide, by decide⟩, ?_⟩ | refine ⟨(by show (0 : Int) < _; omega), ?_⟩ | refine ⟨⟨by omega, by omega⟩, ?_⟩ | refine .inl ⟨_, rfl, sz (by simp only [*, p110, p101, sM, sE, s1, s0, s110, s101, txt_cat, txt_len, cut_to, cut_from, cut_init, List.length_append, List.length_cons, List.length_nil, List.length_take, List.length_drop, List.length_dropLast, List.length_reverse]; omega), ?_⟩ | refine ⟨sz (by simp only [*, p110, p101, sM, sE, s1, s0, s110, s101, txt_cat, txt_len, cut_to, cut_from, cut_init, List.length_append, List.length_cons, List.length_nil, List.length_take, List.length_drop, List.length_dropLast, List.length_reverse]; omega), ?_⟩))
              rw [s0, txt_cat]
              refine ⟨Lr, _, rfl, .inl (.inl (.inl (e34.lst lrg))), rfl, flat_wds _, ?_⟩
              rw [hinR, decide_eq_false c2]
              refine ⟨rfl, _, rfl, ?_⟩
              refine nF rfl ⟨_, _, rfl, e34, e4'.dK d3⟩
      · obtain ⟨b11, b12, rfl, e1, d1⟩ := hp'
        rw [hwl, List.take_length] at d1 ⊢
        (repeat (first | refine ⟨_, rfl, ?_⟩ | refine ⟨rfl, ?_⟩ | refine ⟨_, _, rfl, rfl, ?_⟩ | refine ⟨_, _, rfl, ?_⟩ | refine ⟨hz, ?_⟩ | refine ⟨(show 3 ≤ sizeLine by decide), ?_⟩ | refine ⟨(show 2 ≤ sizeLine by decide), ?_⟩ | refine ⟨by decide +kernel, ?_⟩ | refine ⟨.inl ⟨by decide, by decide⟩, ?_⟩ | refine ⟨(by show (0 : Int) < _; omega), ?_⟩ | refine ⟨⟨by omega, by omega⟩, ?_⟩ | refine .inl ⟨_, rfl, sz (by simp only [*, p110, p101, sM, sE, s1, s0, s110, s101, txt_cat, txt_len, cut_to, cut_from, cut_init, List.length_append, List.length_cons, List.length_nil, List.length_take, List.length_drop, List.length_dropLast, List.length_reverse]; omega), ?_⟩ | refine ⟨sz (by simp only [*, p110, p101, sM, sE, s1, s0, s110, s101, txt_cat, txt_len, cut_to, cut_from, cut_init, List.length_append, List.length_cons, List.length_nil, List.length_take, List.length_drop, List.length_dropLast, List.length_reverse]; omega), ?_⟩))
        refine ⟨bk, n, ws', oT, oR, rfl, bg.ex e1, e1.t tg, by omega, by omega, by rw [hperm.length_eq]; exact hw9, fun z hz => ?_, hM.hT, fun x hx => ?_, hM.jlen, hM.klen, fun H4' e4' => ?_⟩
        · have := (hps.all z (hperm.mem_iff.mp hz)).len
          omega
        · obtain ⟨p', h1, _⟩ := hM.hR x (hM.joined x hx)
          exact ⟨p', h1⟩
        · rw [hM.many]
          have hgf := grd_fst oR (allW n) (0, [])
          have hg2 : (grd oR (allW n) (0, [])).1 ≤ 42 := by have h0 : ((0, []) : Nat × List W).1 = 0 := rfl; omega
          have e34 := e1.trans e4'
          refine ⟨_, rfl, log_ok (by omega), _, rfl, _, rfl, log_ok (by omega), rfl, _, rfl, ?_⟩
          refine nF rfl ⟨_, _, _, _, _, _, _, _, _, _, _, rfl, rg.ex e34, e34.t tg⟩
    · obtain ⟨a2, a3, a4, a5, a6, a7, a8, a9, a10, a11, a12, rfl, r1, t1⟩ := hp
      exact hQ H1
  obtain ⟨t, h1, h2⟩ := body
  exact ⟨t, h1.nox, h2⟩
end
end EH

set_option Elab.async false
set_option linter.all false
set_option maxRecDepth 100000
namespace EM
def homeChk (n : Nat) (w : W) : Bool := (List.range (2 * n + 1)).all fun s => [true, false].all fun u => homeOf (stateIn (w, s, u)) == (w, s, u) && (lowWord (stateIn (w, s, u)) == (if s == 0 && !u then w else [])) && (ones (stateIn (w, s, u)) == n || ones (stateIn (w, s, u)) == n + 1)
def closeChk (n : Nat) (w : W) : Bool := (allW n).contains (turn w) && (back (turn w) == w) && (fpA 0 w 0).isSome && (w.length == 2 * n) && (!(w.take 3 == p110) || (allW n).contains (pulled w)) && (!(w.take 3 == p101) || (allW n).contains (unpulled w)) && (it turn (2 * n) w == w)
def nodupChk : List W → Bool
  | [] => true
  | a :: r => !r.contains a && nodupChk r
structure FinOk (n : Nat) : Prop where
  word : (allW n).all (wordOk n) = true
  home : (allW n).all (homeChk n) = true
  close : (allW n).all (closeChk n) = true
  nd : nodupChk (allW n) = true
  small : decide ((allW n).length ≤ 42) = true
  trees : (decide (((grd (fun x => orb turn x (2 * n)) (allW n) (0, [])).1 : Int) = EH.treesM n)) = true
theorem fin2 : FinOk 2 := ⟨by decide +kernel, by decide +kernel, by decide +kernel, by decide +kernel, by decide +kernel, by decide +kernel⟩
theorem fin3 : FinOk 3 := ⟨by decide +kernel, by decide +kernel, by decide +kernel, by decide +kernel, by decide +kernel, by decide +kernel⟩
theorem fin4 : FinOk 4 := ⟨by decide +kernel, by decide +kernel, by decide +kernel, by decide +kernel, by decide +kernel, by decide +kernel⟩
end EM

set_option Elab.async false
set_option linter.all false
set_option maxRecDepth 100000
/-! plain facts: lists that hold no thing twice, turns that come back, the count of rounds -/
namespace EM
section
variable {α : Type} [DecidableEq α]
theorem mem_erase' {a b : α} {l : List α} (h : a ≠ b) (m : a ∈ l) : a ∈ l.erase b := by
  rw [List.mem_erase_of_ne h]
  exact m
theorem pig : ∀ {l1 l2 : List α}, l1.Nodup → (∀ x ∈ l1, x ∈ l2) → l1.length ≤ l2.length ∧ (l2.length ≤ l1.length → ∀ x ∈ l2, x ∈ l1)
  | [], l2, _, _ => ⟨Nat.zero_le _, fun h x hx => by cases l2 with
    | nil => cases hx
    | cons a r => simp at h⟩
  | a :: r, l2, h, s => by
    have ha : a ∈ l2 := s a List.mem_cons_self
    have hn := List.nodup_cons.mp h
    have hs : ∀ x ∈ r, x ∈ l2.erase a := fun x hx => mem_erase' (fun e => hn.1 (e ▸ hx)) (s x (List.mem_cons_of_mem _ hx))
    have hl : (l2.erase a).length = l2.length - 1 := List.length_erase_of_mem ha
    have hp : 0 < l2.length := List.length_pos_of_mem ha
    obtain ⟨h1, h2⟩ := pig hn.2 hs
    rw [List.length_cons]
    refine ⟨by omega, fun hle x hx => ?_⟩
    by_cases e : x = a
    · rw [e]; exact List.mem_cons_self
    · exact List.mem_cons_of_mem _ (h2 (by omega) x (mem_erase' e hx))
theorem least {P : Nat → Prop} : ∀ n, 0 < n → P n → ∃ j, 0 < j ∧ j ≤ n ∧ P j ∧ ∀ i, 0 < i → i < j → ¬ P i := by
  intro n
  induction n using Nat.strongRecOn with
  | ind n ih =>
    intro h0 hp
    by_cases c : ∃ i, 0 < i ∧ i < n ∧ P i
    · obtain ⟨i, h1, h2, h3⟩ := c
      obtain ⟨j, q1, q2, q3, q4⟩ := ih i h2 h1 h3
      exact ⟨j, q1, by omega, q3, q4⟩
    · exact ⟨n, h0, Nat.le_refl _, hp, fun i h1 h2 h3 => c ⟨i, h1, h2, h3⟩⟩
/-- f turns the things of A around -/
structure Turns (A : List α) (f : α → α) : Prop where
  cl : ∀ x ∈ A, f x ∈ A
  inj : ∀ x ∈ A, ∀ y ∈ A, f x = f y → x = y
variable {A : List α} {f : α → α}
theorem Turns.it (T : Turns A f) {x : α} (h : x ∈ A) : ∀ n, EM.it f n x ∈ A
  | 0 => h
  | n + 1 => T.cl _ (T.it h n)
theorem Turns.cancel (T : Turns A f) {x y : α} (hx : x ∈ A) (hy : y ∈ A) : ∀ n, EM.it f n x = EM.it f n y → x = y
  | 0, h => h
  | n + 1, h => T.cancel hx hy n (T.inj _ (T.it hx n) _ (T.it hy n) h)
theorem Turns.per (T : Turns A f) {x : α} (h : x ∈ A) : ∃ p, Per f x p ∧ p ≤ A.length := by
  by_cases c : ∃ j, 0 < j ∧ j ≤ A.length ∧ EM.it f j x = x
  · obtain ⟨j, h1, h2, h3⟩ := c
    obtain ⟨p, q1, q2, q3, q4⟩ := least (P := fun j => EM.it f j x = x) j h1 h3
    exact ⟨p, ⟨q1, q3, q4⟩, by omega⟩
  · exfalso
    have hnd : (orb f x (A.length + 1)).Nodup := by
      unfold orb
      refine List.pairwise_map.mpr (List.pairwise_lt_range.imp_of_mem fun {i j} hi hj hij e => ?_)
      have hj := List.mem_range.mp hj
      refine c ⟨j - i, by omega, by omega, ?_⟩
      have e2 : EM.it f i x = EM.it f i (EM.it f (j - i) x) := by rw [← it_add, show i + (j - i) = j by omega]; exact e
      exact (T.cancel h (T.it h _) i e2).symm
    have := (pig hnd (l2 := A) fun y hy => by
      obtain ⟨j, _, rfl⟩ := List.mem_map.mp hy
      exact T.it h j).1
    rw [orb_len] at this
    omega
theorem Per.add {x : α} {p : Nat} (h : Per f x p) (i : Nat) : EM.it f (i + p) x = EM.it f i x := by
  rw [it_add, h.ret]
theorem Per.mul {x : α} {p : Nat} (h : Per f x p) (i : Nat) : ∀ k, EM.it f (i + k * p) x = EM.it f i x
  | 0 => by rw [Nat.zero_mul, Nat.add_zero]
  | k + 1 => by rw [Nat.succ_mul, ← Nat.add_assoc, h.add, h.mul i k]
theorem Per.mod {x : α} {p : Nat} (h : Per f x p) (i : Nat) : EM.it f i x = EM.it f (i % p) x := by
  have := h.mul (i % p) (i / p)
  rw [← this]
  congr 1
  rw [Nat.mul_comm]
  exact (Nat.mod_add_div i p).symm
theorem mem_orb {x y : α} {p : Nat} : y ∈ orb f x p ↔ ∃ j, j < p ∧ EM.it f j x = y := by
  unfold orb
  rw [List.mem_map]
  exact ⟨fun ⟨j, h, e⟩ => ⟨j, List.mem_range.mp h, e⟩, fun ⟨j, h, e⟩ => ⟨j, List.mem_range.mpr h, e⟩⟩
theorem Per.mem {x y : α} {p : Nat} (h : Per f x p) : y ∈ orb f x p ↔ ∃ j, y = EM.it f j x := by
  rw [mem_orb]
  exact ⟨fun ⟨j, _, e⟩ => ⟨j, e.symm⟩, fun ⟨j, e⟩ => ⟨j % p, Nat.mod_lt _ h.pos, by rw [e, ← h.mod]⟩⟩
/-- y comes behind x -/
def Beh (f : α → α) (x y : α) : Prop := ∃ j, y = EM.it f j x
theorem Beh.refl (x : α) : Beh f x x := ⟨0, rfl⟩
theorem Beh.trans {x y z : α} (a : Beh f x y) (b : Beh f y z) : Beh f x z := by
  obtain ⟨i, rfl⟩ := a
  obtain ⟨j, rfl⟩ := b
  exact ⟨j + i, (it_add f j i x).symm⟩
theorem Beh.step {x y : α} (a : Beh f x y) : Beh f x (f y) := a.trans ⟨1, rfl⟩
theorem Turns.symm (T : Turns A f) {x y : α} (h : x ∈ A) (b : Beh f x y) : Beh f y x := by
  obtain ⟨j, rfl⟩ := b
  obtain ⟨p, hp, _⟩ := T.per h
  refine ⟨p * (j + 1) - j, ?_⟩
  have hpos := hp.pos
  have : j ≤ p * (j + 1) := Nat.le_trans (by omega) (Nat.le_mul_of_pos_left (j + 1) hpos)
  rw [← it_add, show p * (j + 1) - j + j = 0 + (j + 1) * p by rw [Nat.mul_comm (j + 1)]; omega, hp.mul]
  rfl
theorem Turns.beh (T : Turns A f) {x y : α} (h : x ∈ A) (b : Beh f x y) : y ∈ A := by
  obtain ⟨j, rfl⟩ := b
  exact T.it h j
/-! ### the greedy count -/
theorem mem_addAll {L : List α} {z : α} : ∀ {J : List α}, z ∈ addAll J L ↔ z ∈ J ∨ z ∈ L := by
  induction L with
  | nil => intro J; exact ⟨.inl, fun h => h.elim id fun q => by cases q⟩
  | cons a r ih =>
    intro J
    rw [addAll_cons, ih]
    by_cases c : a ∈ J
    · rw [if_pos c]
      exact ⟨fun h => h.elim .inl fun q => .inr (List.mem_cons_of_mem _ q), fun h => h.elim .inl fun q => by
        rcases List.mem_cons.mp q with rfl | q
        · exact .inl c
        · exact .inr q⟩
    · rw [if_neg c, List.mem_append, List.mem_singleton, List.mem_cons]
      exact ⟨fun h => by rcases h with (h | h) | h <;> simp [h], fun h => by rcases h with h | h | h <;> simp [h]⟩
variable (A) in
/-- the first of its round, as A has them -/
def Lead (f : α → α) (x : α) : Prop := ∀ j, A.idxOf x ≤ A.idxOf (EM.it f j x)
theorem idx_inj {x y : α} (hx : x ∈ A) (hy : y ∈ A) (h : A.idxOf x = A.idxOf y) : x = y := by
  have h1 := List.getElem_idxOf (List.idxOf_lt_length_iff.mpr hx)
  have h2 := List.getElem_idxOf (List.idxOf_lt_length_iff.mpr hy)
  rw [← h1, ← h2]
  congr 1
theorem minOf {P : α → Prop} (hne : ∃ x ∈ A, P x) : ∃ x ∈ A, P x ∧ ∀ y ∈ A, P y → A.idxOf x ≤ A.idxOf y := by
  obtain ⟨x, hx, hp⟩ := hne
  have key : ∀ n x, x ∈ A → P x → A.idxOf x ≤ n → ∃ x ∈ A, P x ∧ ∀ y ∈ A, P y → A.idxOf x ≤ A.idxOf y := by
    intro n
    induction n with
    | zero => exact fun x hx hp h => ⟨x, hx, hp, fun y _ _ => by omega⟩
    | succ n ih =>
      intro x hx hp h
      by_cases c : ∃ y ∈ A, P y ∧ A.idxOf y < A.idxOf x
      · obtain ⟨y, h1, h2, h3⟩ := c
        exact ih y h1 h2 (by omega)
      · exact ⟨x, hx, hp, fun y h1 h2 => Nat.le_of_not_lt fun h3 => c ⟨y, h1, h2, h3⟩⟩
  exact key _ x hx hp (Nat.le_refl _)
theorem Turns.lead (T : Turns A f) {x : α} (h : x ∈ A) : ∃ z ∈ A, (Beh f x z ∧ Lead A f z) ∧ ∀ y ∈ A, Beh f x y → Lead A f y → y = z := by
  obtain ⟨z, hz, hb, hm⟩ := minOf (A := A) (P := fun y => Beh f x y) ⟨x, h, .refl x⟩
  refine ⟨z, hz, ⟨hb, fun j => hm _ (T.it hz j) (hb.trans ⟨j, rfl⟩)⟩, fun y hy b l => ?_⟩
  obtain ⟨j, e⟩ := (T.symm h b).trans hb
  have h1 := l j
  rw [← e] at h1
  exact idx_inj hy hz (Nat.le_antisymm h1 (hm y hy b))
open Classical in
/-- how many of A have it -/
noncomputable def cnt (A : List α) (P : α → Prop) : Nat := A.countP fun x => decide (P x)
theorem cnt_congr {P Q : α → Prop} (h : ∀ x ∈ A, P x ↔ Q x) : cnt A P = cnt A Q := by
  unfold cnt
  exact List.countP_congr fun x hx => by simp [h x hx]
theorem cnt_none {P : α → Prop} (h : ∀ x ∈ A, ¬ P x) : cnt A P = 0 := by
  unfold cnt
  rw [List.countP_eq_zero]
  intro x hx
  simp [h x hx]
theorem cnt_or {P Q : α → Prop} (h : ∀ x ∈ A, ¬ (P x ∧ Q x)) : cnt A (fun x => P x ∨ Q x) = cnt A P + cnt A Q := by
  unfold cnt
  induction A with
  | nil => rfl
  | cons a r ih =>
    have h1 := h a List.mem_cons_self
    have h2 := ih fun x hx => h x (List.mem_cons_of_mem _ hx)
    rw [List.countP_cons, List.countP_cons, List.countP_cons, h2]
    by_cases p : P a
    · have q : ¬ Q a := fun q => h1 ⟨p, q⟩
      simp [p, q]
      omega
    · by_cases q : Q a
      · simp [p, q]
        omega
      · simp [p, q]
open Classical in
theorem cnt_one {P : α → Prop} (hn : A.Nodup) {z : α} (hz : z ∈ A) (hp : P z) (hu : ∀ y ∈ A, P y → y = z) : cnt A P = 1 := by
  unfold cnt
  induction A with
  | nil => cases hz
  | cons a r ih =>
    have hn' := List.nodup_cons.mp hn
    rw [List.countP_cons]
    by_cases e : a = z
    · subst e
      have : r.countP (fun x => decide (P x)) = 0 := by
        rw [List.countP_eq_zero]
        intro x hx q
        have := hu x (List.mem_cons_of_mem _ hx) (of_decide_eq_true q)
        exact hn'.1 (this ▸ hx)
      rw [this]
      simp [hp]
    · have hzr : z ∈ r := by
        rcases List.mem_cons.mp hz with q | q
        · exact absurd q.symm e
        · exact q
      rw [ih hn'.2 hzr fun y hy => hu y (List.mem_cons_of_mem _ hy)]
      have : ¬ P a := fun q => e (hu a List.mem_cons_self q)
      simp [this]
theorem grd_count (T : Turns A f) (hn : A.Nodup) {o : α → List α} (ho : ∀ x ∈ A, ∀ z, z ∈ o x ↔ Beh f x z) : ∀ (k : Nat) (l : List α), l.length = k → (∀ x ∈ l, x ∈ A) →
    (∀ z, z ∈ (grd o l (0, [])).2 ↔ ∃ y ∈ l, Beh f y z) ∧ (grd o l (0, [])).1 = cnt A fun z => (∃ y ∈ l, Beh f y z) ∧ Lead A f z := by
  intro k
  induction k with
  | zero =>
    intro l hl _
    obtain rfl := List.eq_nil_of_length_eq_zero hl
    refine ⟨fun z => ⟨fun h => (by cases h), fun ⟨y, h, _⟩ => (by cases h)⟩, ?_⟩
    rw [cnt_none fun x _ ⟨⟨y, h, _⟩, _⟩ => by cases h]
    rfl
  | succ k ih =>
    intro l hl hA
    obtain ⟨l0, x, rfl⟩ : ∃ l0 x, l = l0 ++ [x] := ⟨l.dropLast, l.getLast (fun z => by rw [z] at hl; cases hl), (List.dropLast_concat_getLast _).symm⟩
    have hx : x ∈ A := hA x (List.mem_append_right _ (List.mem_singleton.mpr rfl))
    have hA0 : ∀ y ∈ l0, y ∈ A := fun y hy => hA y (List.mem_append_left _ hy)
    obtain ⟨h1, h2⟩ := ih l0 (by rw [List.length_append] at hl; simpa using hl) hA0
    have hex : ∀ z, (∃ y ∈ l0 ++ [x], Beh f y z) ↔ (∃ y ∈ l0, Beh f y z) ∨ Beh f x z := fun z => ⟨fun ⟨y, hy, b⟩ => by
      rcases List.mem_append.mp hy with q | q
      · exact .inl ⟨y, q, b⟩
      · rw [List.mem_singleton.mp q] at b
        exact .inr b, fun h => by
      rcases h with ⟨y, hy, b⟩ | b
      · exact ⟨y, List.mem_append_left _ hy, b⟩
      · exact ⟨x, List.mem_append_right _ (List.mem_singleton.mpr rfl), b⟩⟩
    rw [grd_snoc]
    by_cases c : x ∈ (grd o l0 (0, [])).2
    · rw [if_pos c]
      obtain ⟨y, hy, b⟩ := (h1 x).mp c
      have hsub : ∀ z, Beh f x z → ∃ y ∈ l0, Beh f y z := fun z bz => ⟨y, hy, b.trans bz⟩
      refine ⟨fun z => (h1 z).trans ⟨fun q => (hex z).mpr (.inl q), fun q => ((hex z).mp q).elim id (hsub z)⟩, ?_⟩
      rw [h2]
      exact cnt_congr fun z _ => ⟨fun ⟨a, b⟩ => ⟨(hex z).mpr (.inl a), b⟩, fun ⟨a, b⟩ => ⟨((hex z).mp a).elim id (hsub z), b⟩⟩
    · rw [if_neg c]
      refine ⟨fun z => ?_, ?_⟩
      · rw [mem_addAll, h1, ho x hx, hex]
      · show (grd o l0 (0, [])).1 + 1 = _
        have hdis : ∀ z ∈ A, ¬ (((∃ y ∈ l0, Beh f y z) ∧ Lead A f z) ∧ (Beh f x z ∧ Lead A f z)) := fun z hz ⟨⟨⟨y, hy, b⟩, _⟩, b2, _⟩ => c ((h1 x).mpr ⟨y, hy, b.trans (T.symm hx b2)⟩)
        obtain ⟨z0, hz0, hz1, hz2⟩ := T.lead hx
        have hone : cnt A (fun z => Beh f x z ∧ Lead A f z) = 1 := cnt_one hn hz0 hz1 fun y hy hp => hz2 y hy hp.1 hp.2
        rw [h2, ← hone, ← cnt_or hdis]
        exact cnt_congr fun z _ => ⟨fun h => by
          rcases h with ⟨a, b⟩ | ⟨a, b⟩
          · exact ⟨(hex z).mpr (.inl a), b⟩
          · exact ⟨(hex z).mpr (.inr a), b⟩, fun ⟨a, b⟩ => ((hex z).mp a).elim (fun q => .inl ⟨q, b⟩) fun q => .inr ⟨q, b⟩⟩
end
end EM

set_option Elab.async false
set_option linter.all false
set_option maxRecDepth 100000
/-! the finite looks, lifted to any book -/
namespace EM
open EH
theorem nodup_of : ∀ {l : List W}, nodupChk l = true → l.Nodup
  | [], _ => .nil
  | a :: r, h => by
    have h : (!r.contains a && nodupChk r) = true := h
    rw [Bool.and_eq_true] at h
    refine List.nodup_cons.mpr ⟨fun m => ?_, nodup_of h.2⟩
    have := h.1
    rw [List.contains_iff_mem.mpr m] at this
    cases this
structure CloseOk (n : Nat) (w : W) : Prop where
  turn : EM.turn w ∈ allW n
  bk : back (EM.turn w) = w
  fp : ∃ i, fpA 0 w 0 = some i
  len : w.length = 2 * n
  pull : w.take 3 = p110 → pulled w ∈ allW n
  unpull : w.take 3 = p101 → unpulled w ∈ allW n
  tn : it EM.turn (2 * n) w = w
theorem FinOk.cl {n : Nat} (F : FinOk n) {w : W} (h : w ∈ allW n) : CloseOk n w := by
  have h1 := List.all_eq_true.mp F.close w h
  unfold closeChk at h1
  simp only [Bool.and_eq_true, Bool.or_eq_true, Bool.not_eq_true', beq_iff_eq, beq_eq_false_iff_ne, List.contains_iff_mem] at h1
  obtain ⟨⟨⟨⟨⟨⟨a1, a2⟩, a3⟩, a4⟩, a5⟩, a6⟩, a7⟩ := h1
  exact ⟨a1, a2, Option.isSome_iff_exists.mp a3, a4, fun z => a5.resolve_left fun q => q z, fun z => a6.resolve_left fun q => q z, a7⟩
theorem FinOk.hm {n : Nat} (F : FinOk n) {w : W} (h : w ∈ allW n) {s : Nat} (hs : s ≤ 2 * n) (u : Bool) : homeOf (stateIn (w, s, u)) = (w, s, u) ∧ lowWord (stateIn (w, s, u)) = (if s = 0 ∧ u = false then w else []) ∧ (ones (stateIn (w, s, u)) = n ∨ ones (stateIn (w, s, u)) = n + 1) := by
  have h1 := List.all_eq_true.mp F.home w h
  unfold homeChk at h1
  have h2 := List.all_eq_true.mp h1 s (List.mem_range.mpr (by omega))
  have h3 := List.all_eq_true.mp h2 u (by cases u <;> simp)
  simp only [Bool.and_eq_true, Bool.or_eq_true, beq_iff_eq] at h3
  obtain ⟨⟨a1, a2⟩, a3⟩ := h3
  refine ⟨a1, ?_, a3⟩
  rw [a2]
  cases u <;> simp
/-! ### every balanced word is one of all words -/
theorem goesA_val : ∀ (x : W) (d e : Int), goesA d x = some e → e = d + 2 * (ones x : Nat) - (x.length : Nat)
  | [], d, e, h => by cases h; simp [ones]
  | a :: r, d, e, h => by
    have h : (if stp d a < 0 then none else goesA (stp d a) r) = some e := h
    split at h
    · cases h
    · have := goesA_val r _ _ h
      unfold ones at *
      rw [List.count_cons, List.length_cons]
      cases a
      · have e1 : stp d false = d - 1 := rfl
        rw [e1] at this
        simp
        omega
      · have e1 : stp d true = d + 1 := rfl
        rw [e1] at this
        simp
        omega
theorem goesA_nn : ∀ (x : W) (d e : Int), 0 ≤ d → goesA d x = some e → 0 ≤ e
  | [], d, e, hd, h => by cases h; exact hd
  | a :: r, d, e, hd, h => by
    have h : (if stp d a < 0 then none else goesA (stp d a) r) = some e := h
    split at h
    · cases h
    · exact goesA_nn r _ e (by omega) h
theorem grow_mem (n : Nat) : ∀ (k : Nat) (x : W), x.length = k → (∃ e, goesA 0 x = some e) → ones x ≤ n → x ∈ grow n k
  | 0, x, hl, _, _ => by rw [List.eq_nil_of_length_eq_zero hl]; exact List.mem_singleton.mpr rfl
  | k + 1, x, hl, ⟨e, he⟩, ho => by
    obtain ⟨y, b, rfl⟩ : ∃ y b, x = y ++ [b] := ⟨x.dropLast, x.getLast (fun z => by rw [z] at hl; cases hl), (List.dropLast_concat_getLast _).symm⟩
    rw [goesA_snoc] at he
    cases hg : goesA 0 y with
    | none => rw [hg] at he; cases he
    | some d =>
      rw [hg] at he
      have he : (if stp d b < 0 then none else some (stp d b)) = some e := he
      have hly : y.length = k := by rw [List.length_append] at hl; simpa using hl
      have hoy : ones (y ++ [b]) = ones y + ones [b] := List.count_append
      have hv := goesA_val y 0 d hg
      have hm := grow_mem n k y hly ⟨d, hg⟩ (by omega)
      show y ++ [b] ∈ (grow n k).flatMap (longer n)
      refine List.mem_flatMap.mpr ⟨y, hm, ?_⟩
      unfold longer
      cases b with
      | true =>
        have o1 : ones [true] = 1 := rfl
        refine List.mem_append_right _ ?_
        rw [if_pos (by omega)]
        exact List.mem_singleton.mpr rfl
      | false =>
        refine List.mem_append_left _ ?_
        split at he
        · cases he
        · rename_i c
          have c : ¬ d - 1 < 0 := c
          rw [if_pos (by omega)]
          exact List.mem_singleton.mpr rfl
theorem Bal.mem {n : Nat} {x : W} (h : Bal n x) : x ∈ allW n := by
  have hv := goesA_val x 0 0 h.2
  exact grow_mem n (2 * n) x h.1 ⟨0, h.2⟩ (by have := h.1; omega)
theorem PuOk.mem {n : Nat} {x : W} (h : PuOk n x) : x ∈ allW n := Bal.mem ⟨h.len, h.ok.ok⟩
/-! ### the book at one word -/
section
variable {n : Nat} {ws : List W}
/-- what the block of y sees of the book -/
def near (ws : List W) (y : W) : W → Bool := if y ∈ ws then (fun q => q == y) else if y.take 3 = p101 ∧ unpulled y ∈ ws then (fun q => q == unpulled y) else fun _ => false
theorem un110 (y : W) : (unpulled y).take 3 = p110 := rfl
theorem near_safe (P : ∀ z ∈ ws, z.take 3 = p110) {y q : W} (h : safe y q = true) : Bm ws q = near ws y q := by
  unfold near
  unfold safe at h
  simp only [Bool.or_eq_true, Bool.and_eq_true, beq_iff_eq, Bool.not_eq_true', beq_eq_false_iff_ne] at h
  have n101 : ∀ {z : W}, z.take 3 = p101 → z ∉ ws := fun e m => by have := P _ m; rw [e] at this; revert this; decide
  by_cases c : y ∈ ws
  · rw [if_pos c]
    show decide (q ∈ ws) = (q == y)
    by_cases e : q = y
    · rw [e, decide_eq_true c, beq_self_eq_true]
    · rw [beq_eq_false_iff_ne.mpr e]
      rcases h with (h | ⟨h, _⟩) | h
      · exact absurd h e
      · exact absurd c (n101 h)
      · exact decide_eq_false fun m => h (P q m)
  · rw [if_neg c]
    by_cases c2 : y.take 3 = p101 ∧ unpulled y ∈ ws
    · rw [if_pos c2]
      show decide (q ∈ ws) = (q == unpulled y)
      by_cases e : q = unpulled y
      · rw [e, decide_eq_true c2.2, beq_self_eq_true]
      · rw [beq_eq_false_iff_ne.mpr e]
        rcases h with (h | ⟨_, h⟩) | h
        · rw [h]; exact decide_eq_false c
        · exact absurd h e
        · exact decide_eq_false fun m => h (P q m)
    · rw [if_neg c2]
      show decide (q ∈ ws) = false
      rcases h with (h | ⟨h1, h⟩) | h
      · rw [h]; exact decide_eq_false c
      · rw [h]; exact decide_eq_false fun m => c2 ⟨h1, m⟩
      · exact decide_eq_false fun m => h (P q m)
theorem near_ok (P : ∀ z ∈ ws, z.take 3 = p110) {y : W} (h : wordOk n y = true) : blockOk n (near ws y) y = true := by
  unfold wordOk at h
  simp only [Bool.and_eq_true, Bool.or_eq_true, Bool.not_eq_true', beq_eq_false_iff_ne] at h
  obtain ⟨h1, h2, h3⟩ := h
  unfold near
  by_cases c : y ∈ ws
  · rw [if_pos c]
    exact h2.resolve_left fun z => z (P y c)
  · rw [if_neg c]
    by_cases c2 : y.take 3 = p101 ∧ unpulled y ∈ ws
    · rw [if_pos c2]
      exact h3.resolve_left fun z => z c2.1
    · rw [if_neg c2]
      exact h1
theorem safe_self (y : W) : safe y y = true := by simp [safe]
theorem safe_swap {y q : W} (h : q ∈ qSwap y) : safe y q = true := by
  unfold qSwap qUnder at h
  rcases List.mem_cons.mp h with rfl | h
  · exact safe_self _
  · split at h
    · rename_i c
      rw [List.mem_singleton.mp h]
      simp [safe, c]
    · cases h
/-- a step of a block -/
structure StepOk (n : Nat) (B : W → Bool) (y : W) (k : Nat) (h : Ho) : Prop where
  low : k = 0 ∨ ¬ (h.2.1 = 0 ∧ h.2.2 = false)
  val : h.1 ∈ allW n ∧ h.2.1 ≤ 2 * n
  post : postH B h = (y, k)
  bef : beforeH B (nextH B h) = h
  lamp : lampsOff (stateIn h) (stateIn (nextH B h)) = 1
theorem step_lift {B B' : W → Bool} {y : W} (e : ∀ q, safe y q = true → B q = B' q) {k : Nat} {h g : Ho} (hg : g = nextH B' h) (s : stepOk n B' y k h g = true) : StepOk n B y k h ∧ nextH B h = g := by
  unfold stepOk at s
  simp only [Bool.and_eq_true, Bool.or_eq_true, Bool.not_eq_true', beq_iff_eq, Bool.and_eq_false_imp, Bool.not_eq_false', List.all_eq_true] at s
  obtain ⟨s1, s2, s3, s4, s5, s6, s7, s8⟩ := s
  have en : nextH B h = g := (next_congr fun q hq => e q (s6 q hq)).trans hg.symm
  have eb : beforeH B g = h := (before_congr fun q hq => e q (s7 q hq)).trans s4
  have ep : postH B h = (y, k) := (post_congr fun q hq => e q (s8 q hq)).trans s3
  have sv := s2
  unfold valid at sv
  simp only [Bool.and_eq_true, decide_eq_true_eq, List.contains_iff_mem] at sv
  refine ⟨⟨?_, sv, ep, by rw [en]; exact eb, by rw [en]; exact s5⟩, en⟩
  rcases s1 with s1 | s1
  · exact .inl s1
  · refine .inr fun z => ?_
    have := s1 z.1
    rw [z.2] at this
    cases this
theorem walk_lift {B B' : W → Bool} {y : W} (e : ∀ q, safe y q = true → B q = B' q) : ∀ (f k : Nat) (h : Ho), walkOk n B' y f k h = true → (∀ i, i < f → StepOk n B y (k + i) (it (nextH B) i h)) ∧ it (nextH B) f h = (turn (swapped B' y), 0, false)
  | 0, k, h, w => by
    have w : (h == (turn (swapped B' y), 0, false)) = true := w
    exact ⟨fun i hi => absurd hi (Nat.not_lt_zero i), beq_iff_eq.mp w⟩
  | f + 1, k, h, w => by
    have w : fH (nextH B' h) (fun g => stepOk n B' y k h g && walkOk n B' y f (k + 1) g) = true := w
    rw [fH_eq, Bool.and_eq_true] at w
    obtain ⟨s, en⟩ := step_lift e rfl w.1
    obtain ⟨r1, r2⟩ := walk_lift e f (k + 1) (nextH B' h) w.2
    rw [← en] at r1 r2
    refine ⟨fun i hi => ?_, ?_⟩
    · cases i with
      | zero => exact s
      | succ i =>
        have := r1 i (by omega)
        rw [it_succ', show k + (i + 1) = k + 1 + i by omega]
        exact this
    · rw [it_succ']
      exact r2
theorem block (F : FinOk n) (P : ∀ z ∈ ws, z.take 3 = p110) {y : W} (h : y ∈ allW n) :
    (∀ k, k < 4 * n + 2 → StepOk n (Bm ws) y k (it (nextH (Bm ws)) k (y, 0, false))) ∧ it (nextH (Bm ws)) (4 * n + 2) (y, 0, false) = (behind (Bm ws) y, 0, false) := by
  have hw := List.all_eq_true.mp F.word y h
  have hb : walkOk n (near ws y) y (4 * n + 2) 0 (y, 0, false) = true := near_ok P hw
  obtain ⟨r1, r2⟩ := walk_lift (B := Bm ws) (fun q hq => near_safe P hq) _ _ _ hb
  refine ⟨fun k hk => by have := r1 k hk; rwa [Nat.zero_add] at this, ?_⟩
  rw [r2]
  unfold behind
  rw [swapped_congr (B := Bm ws) (B' := near ws y) fun q hq => near_safe P (safe_swap hq)]
end
end EM

set_option Elab.async false
set_option linter.all false
set_option maxRecDepth 100000
/-! rounds of states are rounds of words -/
namespace EM
open EH
section
variable {n : Nat} {ws : List W}
structure Ctx (n : Nat) (ws : List W) : Prop where
  F : FinOk n
  P : PsOk n ws
  n2 : 2 ≤ n
theorem Ctx.pre (C : Ctx n ws) : ∀ z ∈ ws, z.take 3 = p110 := fun z hz => (C.P.all z hz).pre
theorem Ctx.sw (C : Ctx n ws) {y : W} (h : y ∈ allW n) : swapped (Bm ws) y ∈ allW n := by
  have c := C.F.cl h
  unfold swapped
  split
  · rename_i q
    exact c.pull (C.pre y (of_decide_eq_true q))
  · unfold under
    split
    · exact h
    · rename_i u hu
      split at hu
      · rename_i c1
        split at hu
        · cases hu
          exact c.unpull c1
        · cases hu
      · cases hu
theorem Ctx.bh (C : Ctx n ws) {y : W} (h : y ∈ allW n) : behind (Bm ws) y ∈ allW n := (C.F.cl (C.sw h)).turn
abbrev hk (ws : List W) (y : W) (k : Nat) : Ho := it (nextH (Bm ws)) k (y, 0, false)
theorem Ctx.blk (C : Ctx n ws) {y : W} (h : y ∈ allW n) {k : Nat} (hk' : k < 4 * n + 2) : StepOk n (Bm ws) y k (hk ws y k) := (block C.F C.pre h).1 k hk'
theorem Ctx.blkEnd (C : Ctx n ws) {y : W} (h : y ∈ allW n) : hk ws y (4 * n + 2) = (behind (Bm ws) y, 0, false) := (block C.F C.pre h).2
theorem Ctx.turns (C : Ctx n ws) : Turns (allW n) (behind (Bm ws)) := by
  refine ⟨fun x hx => C.bh hx, fun x hx y hy e => ?_⟩
  have h1 := C.blk hx (k := 4 * n + 1) (by omega)
  have h2 := C.blk hy (k := 4 * n + 1) (by omega)
  have e1 : nextH (Bm ws) (hk ws x (4 * n + 1)) = (behind (Bm ws) x, 0, false) := C.blkEnd hx
  have e2 : nextH (Bm ws) (hk ws y (4 * n + 1)) = (behind (Bm ws) y, 0, false) := C.blkEnd hy
  have b1 := h1.bef
  have b2 := h2.bef
  rw [e1] at b1
  rw [e2, ← e, b1] at b2
  have p := h2.post
  rw [← b2, h1.post] at p
  exact (Prod.mk.inj p).1
theorem Ctx.turnT (C : Ctx n ws) : Turns (allW n) turn := ⟨fun x hx => (C.F.cl hx).turn, fun x hx y hy e => by rw [← (C.F.cl hx).bk, e, (C.F.cl hy).bk]⟩
/-- far on: whole blocks, and a part of one -/
theorem Ctx.far (C : Ctx n ws) {y : W} (h : y ∈ allW n) (r : Nat) : ∀ q, it (nextH (Bm ws)) (q * (4 * n + 2) + r) (y, 0, false) = hk ws (it (behind (Bm ws)) q y) r
  | 0 => by rw [Nat.zero_mul, Nat.zero_add]; rfl
  | q + 1 => by
    have eb : it (nextH (Bm ws)) (4 * n + 2) (y, 0, false) = (behind (Bm ws) y, 0, false) := C.blkEnd h
    rw [show (q + 1) * (4 * n + 2) + r = (q * (4 * n + 2) + r) + (4 * n + 2) by rw [Nat.succ_mul]; omega, it_add, eb, C.far (C.bh h) r q, it_succ']
/-- all homes -/
def homes (n : Nat) : List Ho := (allW n).flatMap fun w => (List.range (2 * n + 1)).flatMap fun s => [(w, s, true), (w, s, false)]
theorem mem_homes {h : Ho} : h ∈ homes n ↔ h.1 ∈ allW n ∧ h.2.1 ≤ 2 * n := by
  unfold homes
  rw [List.mem_flatMap]
  constructor
  · rintro ⟨w, hw, hm⟩
    rw [List.mem_flatMap] at hm
    obtain ⟨s, hs, hm⟩ := hm
    have hs := List.mem_range.mp hs
    simp only [List.mem_cons, List.not_mem_nil, or_false] at hm
    rcases hm with rfl | rfl <;> exact ⟨hw, by show s ≤ 2 * n; omega⟩
  · rintro ⟨h1, h2⟩
    refine ⟨h.1, h1, List.mem_flatMap.mpr ⟨h.2.1, List.mem_range.mpr (by omega), ?_⟩⟩
    obtain ⟨w, s, u⟩ := h
    cases u <;> simp
theorem flat_len {α β : Type} {f : α → List β} {k : Nat} : ∀ {l : List α}, (∀ x ∈ l, (f x).length = k) → (l.flatMap f).length = l.length * k
  | [], _ => by simp
  | a :: r, h => by
    rw [List.flatMap_cons, List.length_append, h a List.mem_cons_self, flat_len fun x hx => h x (List.mem_cons_of_mem _ hx), List.length_cons, Nat.succ_mul, Nat.add_comm]
theorem homes_len : (homes n).length = (allW n).length * (4 * n + 2) := by
  unfold homes
  refine flat_len fun w _ => ?_
  rw [flat_len (k := 2) fun s _ => rfl, List.length_range]
  omega
theorem nodup_flat {α β : Type} {f : α → List β} : ∀ {l : List α}, l.Nodup → (∀ x ∈ l, (f x).Nodup) → (∀ x ∈ l, ∀ y ∈ l, ∀ z, z ∈ f x → z ∈ f y → x = y) → (l.flatMap f).Nodup
  | [], _, _, _ => .nil
  | a :: r, h, h1, h2 => by
    have hn := List.nodup_cons.mp h
    rw [List.flatMap_cons]
    refine List.nodup_append.mpr ⟨h1 a List.mem_cons_self, nodup_flat hn.2 (fun x hx => h1 x (List.mem_cons_of_mem _ hx)) fun x hx y hy => h2 x (List.mem_cons_of_mem _ hx) y (List.mem_cons_of_mem _ hy), fun z hz z' hz' e => ?_⟩
    subst e
    obtain ⟨y, hy, hm⟩ := List.mem_flatMap.mp hz'
    have := h2 a List.mem_cons_self y (List.mem_cons_of_mem _ hy) z hz hm
    exact hn.1 (this ▸ hy)
/-- every home stands in the block of its post -/
theorem Ctx.all (C : Ctx n ws) {h : Ho} (h1 : h.1 ∈ allW n) (h2 : h.2.1 ≤ 2 * n) : ∃ y ∈ allW n, ∃ k, k < 4 * n + 2 ∧ h = hk ws y k := by
  let im : List Ho := (allW n).flatMap fun y => (List.range (4 * n + 2)).map fun k => hk ws y k
  have mem : ∀ z, z ∈ im ↔ ∃ y ∈ allW n, ∃ k, k < 4 * n + 2 ∧ hk ws y k = z := fun z => by
    show z ∈ (allW n).flatMap _ ↔ _
    rw [List.mem_flatMap]
    exact ⟨fun ⟨y, hy, hm⟩ => by
      obtain ⟨k, hk1, e⟩ := List.mem_map.mp hm
      exact ⟨y, hy, k, List.mem_range.mp hk1, e⟩, fun ⟨y, hy, k, hk1, e⟩ => ⟨y, hy, List.mem_map.mpr ⟨k, List.mem_range.mpr hk1, e⟩⟩⟩
  have hnd : im.Nodup := by
    refine nodup_flat (nodup_of C.F.nd) (fun y hy => ?_) fun x hx y hy z hz hz' => ?_
    · refine List.pairwise_map.mpr (List.pairwise_lt_range.imp_of_mem fun {i j} hi hj hij e => ?_)
      have p1 := (C.blk hy (List.mem_range.mp hi)).post
      have p2 := (C.blk hy (List.mem_range.mp hj)).post
      rw [e, p2] at p1
      have := (Prod.mk.inj p1).2
      omega
    · obtain ⟨k, hk1, e1⟩ := List.mem_map.mp hz
      obtain ⟨k', hk2, e2⟩ := List.mem_map.mp hz'
      have p1 := (C.blk hx (List.mem_range.mp hk1)).post
      have p2 := (C.blk hy (List.mem_range.mp hk2)).post
      rw [e1] at p1
      rw [e2, p1] at p2
      exact (Prod.mk.inj p2).1
  have hl : im.length = (allW n).length * (4 * n + 2) := flat_len fun y _ => by rw [List.length_map, List.length_range]
  have hsub : ∀ z ∈ im, z ∈ homes n := fun z hz => by
    obtain ⟨y, hy, k, hk1, rfl⟩ := (mem z).mp hz
    exact mem_homes.mpr (C.blk hy hk1).val
  have := (pig hnd hsub).2 (by rw [hl, homes_len]; exact Nat.le_refl _) h (mem_homes.mpr ⟨h1, h2⟩)
  obtain ⟨y, hy, k, hk1, e⟩ := (mem h).mp this
  exact ⟨y, hy, k, hk1, e.symm⟩
theorem Ctx.sh (C : Ctx n ws) {h : Ho} (h1 : h.1 ∈ allW n) (h2 : h.2.1 ≤ 2 * n) : homeOf (stateIn h) = h := (C.F.hm h1 h2 h.2.2).1
theorem Ctx.fst (C : Ctx n ws) {h : Ho} (h1 : h.1 ∈ allW n) (h2 : h.2.1 ≤ 2 * n) : nxS (Bm ws) (stateIn h) = stateIn (nextH (Bm ws) h) := by
  unfold nxS
  rw [C.sh h1 h2]
theorem Ctx.nval (C : Ctx n ws) {h : Ho} (h1 : h.1 ∈ allW n) (h2 : h.2.1 ≤ 2 * n) : (nextH (Bm ws) h).1 ∈ allW n ∧ (nextH (Bm ws) h).2.1 ≤ 2 * n := by
  obtain ⟨y, hy, k, hk1, rfl⟩ := C.all h1 h2
  by_cases c : k + 1 < 4 * n + 2
  · exact (C.blk hy c).val
  · have e : k + 1 = 4 * n + 2 := by omega
    have : nextH (Bm ws) (hk ws y k) = (behind (Bm ws) y, 0, false) := by
      have := C.blkEnd hy
      rw [← e] at this
      exact this
    rw [this]
    exact ⟨C.bh hy, Nat.zero_le _⟩
theorem Ctx.ival (C : Ctx n ws) {h : Ho} (h1 : h.1 ∈ allW n) (h2 : h.2.1 ≤ 2 * n) : ∀ j, (it (nextH (Bm ws)) j h).1 ∈ allW n ∧ (it (nextH (Bm ws)) j h).2.1 ≤ 2 * n
  | 0 => ⟨h1, h2⟩
  | j + 1 => C.nval (C.ival h1 h2 j).1 (C.ival h1 h2 j).2
theorem Ctx.its (C : Ctx n ws) {h : Ho} (h1 : h.1 ∈ allW n) (h2 : h.2.1 ≤ 2 * n) : ∀ j, it (nxS (Bm ws)) j (stateIn h) = stateIn (it (nextH (Bm ws)) j h)
  | 0 => rfl
  | j + 1 => by
    have v := C.ival h1 h2 j
    show nxS (Bm ws) (it (nxS (Bm ws)) j (stateIn h)) = _
    rw [C.its h1 h2 j, C.fst v.1 v.2]
    rfl
theorem Ctx.inj (C : Ctx n ws) {h g : Ho} (h1 : h.1 ∈ allW n) (h2 : h.2.1 ≤ 2 * n) (g1 : g.1 ∈ allW n) (g2 : g.2.1 ≤ 2 * n) (e : stateIn h = stateIn g) : h = g := by
  rw [← C.sh h1 h2, e, C.sh g1 g2]
end
end EM

set_option Elab.async false
set_option linter.all false
set_option maxRecDepth 100000
/-! the way of a round -/
namespace EM
open EH
theorem one_of (g : Nat → W) (d : Nat) : ∀ L, (∀ i, i < L → (g i = [] ↔ i ≠ d)) → ((List.range L).map g).filter (fun z => decide (z ≠ [])) = if d < L then [g d] else []
  | 0, _ => rfl
  | L + 1, h => by
    rw [List.range_succ, List.map_append, List.filter_append, one_of g d L fun i hi => h i (by omega)]
    have hL := h L (by omega)
    by_cases c : L = d
    · have hg : g L ≠ [] := fun z => hL.mp z c
      rw [if_neg (by omega), if_pos (by omega), ← c, List.nil_append]
      simp [hg]
    · have hg : g L = [] := hL.mpr c
      have : ([L].map g).filter (fun z => decide (z ≠ [])) = [] := by simp [hg]
      rw [this, List.append_nil]
      by_cases c2 : d < L
      · rw [if_pos c2, if_pos (by omega)]
      · rw [if_neg c2, if_neg (by omega)]
theorem chunks (g : Nat → W) (d L : Nat) (hd : d < L) (h : ∀ q i, i < L → (g (q * L + i) = [] ↔ i ≠ d)) : ∀ m, ((List.range (m * L)).map g).filter (fun z => decide (z ≠ [])) = (List.range m).map fun q => g (q * L + d)
  | 0 => by rw [Nat.zero_mul]; rfl
  | m + 1 => by
    rw [Nat.succ_mul, List.range_add, List.map_append, List.filter_append, chunks g d L hd h m, List.map_map, List.range_succ, List.map_append]
    have := one_of (fun i => g (m * L + i)) d L fun i hi => h m i hi
    rw [if_pos hd] at this
    congr 1
theorem state0 (y : W) : stateIn (y, 0, false) = y ++ [false] := by
  unfold stateIn moved
  show (y ++ [false]).drop ((y ++ [false]).length - ((((0 : Nat) : Int)) % ((y ++ [false]).length : Nat)).toNat) ++ (y ++ [false]).take ((y ++ [false]).length - ((((0 : Nat) : Int)) % ((y ++ [false]).length : Nat)).toNat) = _
  rw [show ((((0 : Nat) : Int)) % ((y ++ [false]).length : Nat)).toNat = 0 by simp, Nat.sub_zero, List.drop_length, List.take_length, List.nil_append]
section
variable {n : Nat} {ws : List W}
theorem Ctx.stok (C : Ctx n ws) {h : Ho} (h1 : h.1 ∈ allW n) (h2 : h.2.1 ≤ 2 * n) (hn : n ≤ 5) : StOk (stateIn h) ∧ (stateIn h).length = 2 * n + 1 := by
  obtain ⟨w, s, u⟩ := h
  have hl : (stateIn (w, s, u)).length = 2 * n + 1 := by rw [stateIn_len, (C.F.cl h1).len]
  have ho := (C.F.hm h1 h2 u).2.2
  have h2n := C.n2
  refine ⟨⟨by rw [hl]; omega, by rw [hl]; omega, by rw [hl]; omega, ?_⟩, hl⟩
  rw [hl]
  rcases ho with ho | ho
  · left
    rw [ho]
    omega
  · right
    rw [ho]
    omega
theorem lamp_eq {x y : W} {m : Nat} (h : x.length = m) (e : lampsOff x y = 1) : (diffs x y m).length = 1 := by
  unfold lampsOff at e
  unfold diffs
  rw [← h, ← List.countP_eq_length_filter, ← e]
  refine List.countP_congr fun i _ => ?_
  simp [bne_iff_ne]
theorem Ctx.perOk (C : Ctx n ws) (hn : n ≤ 5) {y : W} (h : y ∈ allW n) {m : Nat} (hp : Per (behind (Bm ws)) y m) (hm : m ≤ (allW n).length) : PerOk (behind (Bm ws)) y m (orb (behind (Bm ws)) y m) := by
  have hs := of_decide_eq_true C.F.small
  refine ⟨by omega, hp, fun j _ => ?_, rfl⟩
  rw [(C.F.cl (C.turns.it h j)).len]
  omega
theorem Ctx.fit (C : Ctx n ws) {y : W} (h : y ∈ allW n) (j : Nat) : ∃ i, fpA 0 (swapped (Bm ws) (it (behind (Bm ws)) j y)) 0 = some i := (C.F.cl (C.sw (C.turns.it h j))).fp
theorem Per.shift {α : Type} [DecidableEq α] {f : α → α} {y : α} {m : Nat} (h : Per f y m) (e : Nat) : Per f (it f e y) m := by
  refine ⟨h.pos, by rw [← it_add, show m + e = e + m by omega, h.add], fun j h1 h2 z => ?_⟩
  -- go round to y again
  have hpos := h.pos
  have hle : e ≤ m * (e + 1) := Nat.le_trans (by omega) (Nat.le_mul_of_pos_left (e + 1) hpos)
  have k := congrArg (it f (m * (e + 1) - e)) z
  rw [← it_add, ← it_add, ← it_add, show m * (e + 1) - e + j + e = j + (e + 1) * m by rw [Nat.mul_comm (e + 1)]; omega, show m * (e + 1) - e + e = 0 + (e + 1) * m by rw [Nat.mul_comm (e + 1)]; omega, h.mul, h.mul] at k
  exact h.no j h1 h2 k
theorem Ctx.way (C : Ctx n ws) (hn : n ≤ 5) {h0 : Ho} (h1 : h0.1 ∈ allW n) (h2 : h0.2.1 ≤ 2 * n) : ∃ p k y0, p ≤ (allW n).length * (4 * n + 2) ∧ Way n (Bm ws) (stateIn h0) p k y0 ∧
    ∀ v ∈ allW n, (v ∈ orb (behind (Bm ws)) (postH (Bm ws) (homeOf (stateIn h0))).1 k ↔ v ++ [false] ∈ orb (nxS (Bm ws)) (stateIn h0) p) := by
  obtain ⟨y, hy, k0, hk0, e0⟩ := C.all h1 h2
  obtain ⟨m, hm, hml⟩ := C.turns.per hy
  have hmp := hm.pos
  generalize hL : 4 * n + 2 = L at *
  have hLp : 0 < L := by omega
  have hmL : L ≤ m * L := Nat.le_mul_of_pos_left L hmp
  have R : ∀ j, it (behind (Bm ws)) j y ∈ allW n := C.turns.it hy
  have pos : ∀ j, it (nextH (Bm ws)) j h0 = hk ws (it (behind (Bm ws)) ((j + k0) / L) y) ((j + k0) % L) := fun j => by
    have := C.far hy ((j + k0) % L) ((j + k0) / L)
    rw [hL] at this
    rw [← this, e0, ← it_add]
    congr 1
    rw [Nat.mul_comm]
    exact (Nat.div_add_mod _ _).symm
  have rlt : ∀ j, (j + k0) % L < L := fun j => Nat.mod_lt _ hLp
  have blk : ∀ j, StepOk n (Bm ws) (it (behind (Bm ws)) ((j + k0) / L) y) ((j + k0) % L) (it (nextH (Bm ws)) j h0) := fun j => by
    rw [pos j]
    exact C.blk (R _) (by rw [hL]; exact rlt j)
  have its := C.its h1 h2
  have val := C.ival h1 h2
  have hof : ∀ j, homeOf (it (nxS (Bm ws)) j (stateIn h0)) = it (nextH (Bm ws)) j h0 := fun j => by rw [its j, C.sh (val j).1 (val j).2]
  have post : ∀ j, postH (Bm ws) (homeOf (it (nxS (Bm ws)) j (stateIn h0))) = (it (behind (Bm ws)) ((j + k0) / L) y, (j + k0) % L) := fun j => by rw [hof j, (blk j).post]
  have post0 : postH (Bm ws) (homeOf (stateIn h0)) = (y, k0) := by
    have := post 0
    rw [Nat.zero_add, Nat.div_eq_of_lt hk0, Nat.mod_eq_of_lt hk0] at this
    exact this
  have at0 : ∀ t Q, t + k0 = Q * L → it (nxS (Bm ws)) t (stateIn h0) = it (behind (Bm ws)) Q y ++ [false] := fun t Q e => by
    rw [its, pos, e, Nat.mul_div_cancel _ hLp, Nat.mul_mod_left]
    exact state0 _
  have per : Per (nxS (Bm ws)) (stateIn h0) (m * L) := by
    refine ⟨Nat.mul_pos hmp hLp, ?_, fun j j1 j2 z => ?_⟩
    · rw [its, pos, show m * L + k0 = k0 + m * L by omega, Nat.add_mul_div_right _ _ hLp, Nat.add_mul_mod_self_right, Nat.div_eq_of_lt hk0, Nat.mod_eq_of_lt hk0, Nat.zero_add, hm.ret, ← e0]
    · have z2 := post j
      rw [z, post0] at z2
      obtain ⟨z3, z4⟩ := Prod.mk.inj z2
      have hd := Nat.div_add_mod (j + k0) L
      rw [← z4] at hd
      have hq : j = L * ((j + k0) / L) := by omega
      refine hm.no ((j + k0) / L) ?_ ?_ z3.symm
      · rcases Nat.eq_zero_or_pos ((j + k0) / L) with q | q
        · rw [q] at hq; omega
        · exact q
      · refine Nat.lt_of_mul_lt_mul_left (a := L) ?_
        rw [← hq, Nat.mul_comm]
        exact j2
  obtain ⟨d, f0, hd, hdk, hfe⟩ : ∃ d f0, d < L ∧ d + k0 = f0 * L ∧ f0 ≤ 1 := by
    by_cases c : k0 = 0
    · exact ⟨0, 0, hLp, by omega, by decide⟩
    · exact ⟨L - k0, 1, by omega, by omega, by decide⟩
  refine ⟨m * L, m, it (behind (Bm ws)) f0 y, Nat.mul_le_mul_right _ hml, ⟨per, fun j => ?_, by rw [hL], hmp, ?_, C.perOk hn (R f0) (hm.shift f0) hml, fun j _ => C.fit (R f0) j, ?_, ?_, fun j => ?_, fun j => ?_, fun j hj => ?_, fun j hj => ?_⟩, fun v hv => ?_⟩
  · rw [its]
    exact C.stok (val j).1 (val j).2 hn
  · -- the low states
    have hg : ∀ j, lowWord (it (nxS (Bm ws)) j (stateIn h0)) = if (j + k0) % L = 0 then it (behind (Bm ws)) ((j + k0) / L) y else [] := fun j => by
      rw [its]
      have hv := val j
      have hs := (C.F.hm hv.1 hv.2 (it (nextH (Bm ws)) j h0).2.2).2.1
      have hs : lowWord (stateIn (it (nextH (Bm ws)) j h0)) = if (it (nextH (Bm ws)) j h0).2.1 = 0 ∧ (it (nextH (Bm ws)) j h0).2.2 = false then (it (nextH (Bm ws)) j h0).1 else [] := hs
      rw [hs]
      by_cases c : (j + k0) % L = 0
      · rw [if_pos c, pos j, c]
        rfl
      · rw [if_neg c]
        exact if_neg ((blk j).low.resolve_left c)
    unfold orb
    rw [List.map_map]
    have hne : ∀ Q, it (behind (Bm ws)) Q y ≠ [] := fun Q z => by
      have := (C.F.cl (R Q)).len
      rw [z] at this
      have h2n := C.n2
      have : ([] : W).length = 0 := rfl
      omega
    have key := chunks (lowWord ∘ fun j => it (nxS (Bm ws)) j (stateIn h0)) d L hd (fun q i hi => ?_) m
    · rw [key]
      refine List.map_congr_left fun q _ => ?_
      show lowWord (it (nxS (Bm ws)) (q * L + d) (stateIn h0)) = _
      have e : q * L + d + k0 = (q + f0) * L := by rw [Nat.add_mul]; omega
      rw [hg, e, Nat.mul_mod_left, if_pos rfl, Nat.mul_div_cancel _ hLp, it_add]
    · show lowWord (it (nxS (Bm ws)) (q * L + i) (stateIn h0)) = [] ↔ _
      rw [hg]
      by_cases c : (q * L + i + k0) % L = 0
      · rw [if_pos c]
        refine ⟨fun z => absurd z (hne _), fun z => absurd ?_ z⟩
        have e : (i + k0) % L = 0 := by
          rw [show q * L + i + k0 = i + k0 + q * L by omega, Nat.add_mul_mod_self_right] at c
          exact c
        obtain ⟨a, ha⟩ := Nat.dvd_of_mod_eq_zero e
        -- i + k0 is 0, or L
        have : a = f0 := by
          have h3 : L * a < 2 * L := by omega
          have h4 : a < 2 := by
            rw [Nat.mul_comm] at h3
            exact Nat.lt_of_mul_lt_mul_right h3
          rcases Nat.lt_or_ge a 1 with q1 | q1
          · have : a = 0 := by omega
            subst this
            have : k0 = 0 := by omega
            subst this
            rcases Nat.lt_or_ge f0 1 with q2 | q2
            · omega
            · have : f0 = 1 := by omega
              subst this
              omega
          · have : a = 1 := by omega
            subst this
            rcases Nat.lt_or_ge f0 1 with q2 | q2
            · have : f0 = 0 := by omega
              subst this
              omega
            · omega
        subst this
        rw [Nat.mul_comm] at ha
        omega
      · rw [if_neg c]
        refine ⟨fun _ z => c ?_, fun _ => rfl⟩
        rw [z, show q * L + d + k0 = (q + f0) * L by rw [Nat.add_mul]; omega, Nat.mul_mod_left]
  · rw [post0]
    exact C.perOk hn hy hm hml
  · rw [post0]
    exact (C.F.cl hy).len
  · -- one lamp
    rw [its j, its (j + 1)]
    exact lamp_eq (C.stok (val j).1 (val j).2 hn).2 (blk j).lamp
  · rw [hof (j + 1), its j]
    have := (blk j).bef
    exact congrArg stateIn this
  · -- the post
    rw [post j]
    have hr := rlt j
    have hdm := Nat.div_add_mod (j + k0) L
    rw [Nat.mul_comm] at hdm
    generalize (j + k0) / L = q at hdm ⊢
    generalize (j + k0) % L = r at hdm hr ⊢
    by_cases c : r ≤ j
    · refine ⟨j - r, by omega, at0 _ q (by omega), by show r < 4 * n + 2; omega, ?_⟩
      show (((j : Nat) : Int) - ((j - r : Nat) : Int)) % ((m * L : Nat) : Int) = ((r : Nat) : Int)
      rw [show ((j : Nat) : Int) - ((j - r : Nat) : Int) = (r : Nat) by omega]
      exact Int.emod_eq_of_lt (by omega) (by omega)
    · refine ⟨j + m * L - r, by omega, ?_, by show r < 4 * n + 2; omega, ?_⟩
      · rw [at0 _ (q + m) (by rw [Nat.add_mul]; omega), hm.add]
      · show (((j : Nat) : Int) - ((j + m * L - r : Nat) : Int)) % ((m * L : Nat) : Int) = ((r : Nat) : Int)
        rw [show ((j : Nat) : Int) - ((j + m * L - r : Nat) : Int) = (r : Nat) - ((m * L : Nat) : Int) by omega, Int.sub_emod_right]
        exact Int.emod_eq_of_lt (by omega) (by omega)
  · -- the steps
    rw [post0, post j]
    have hr := rlt j
    have hdm := Nat.div_add_mod (j + k0) L
    rw [Nat.mul_comm] at hdm
    generalize (j + k0) / L = q at hdm ⊢
    generalize (j + k0) % L = r at hdm hr ⊢
    have hw : wide y = L := by
      unfold wide
      rw [(C.F.cl hy).len]
      omega
    show ∃ i, (orb (behind (Bm ws)) y m)[i]? = some (it (behind (Bm ws)) q y) ∧ stepM i (wide y) r k0 m = (j : Nat)
    rw [hw]
    have hq : q ≤ m := by
      refine Nat.le_of_lt_succ (Nat.lt_of_mul_lt_mul_right (a := L) ?_)
      rw [Nat.succ_mul]
      omega
    have get : ∀ i, i < m → (orb (behind (Bm ws)) y m)[i]? = some (it (behind (Bm ws)) i y) := fun i hi => by
      unfold orb
      rw [List.getElem?_map, List.getElem?_range hi]
      rfl
    by_cases c : q < m
    · refine ⟨q, get q c, ?_⟩
      unfold stepM
      have e : ((q : Int) * (L : Nat) + (r : Nat) - (k0 : Nat)) = (j : Nat) := by
        rw [← Int.natCast_mul]
        omega
      rw [e, if_pos (by omega)]
    · have e1 : q = m := by omega
      subst e1
      refine ⟨0, by rw [get 0 hmp, hm.ret]; rfl, ?_⟩
      unfold stepM
      have e : (((0 : Nat) : Int) * (L : Nat) + (r : Nat) - (k0 : Nat)) = (j : Int) - ((q * L : Nat) : Int) := by omega
      rw [e, if_neg (by omega), ← Int.natCast_mul]
      omega
  · -- which words
    rw [post0]
    show v ∈ orb (behind (Bm ws)) y m ↔ _
    rw [hm.mem, per.mem]
    constructor
    · rintro ⟨i, rfl⟩
      refine ⟨(i + m) * L - k0, ?_⟩
      have e : (i + m) * L - k0 + k0 = (i + m) * L := by
        have := Nat.add_mul i m L
        omega
      rw [at0 _ (i + m) e, hm.add]
    · rintro ⟨j, e⟩
      rw [its j, ← state0 v] at e
      have e2 := C.inj (h := (v, 0, false)) hv (Nat.zero_le _) (val j).1 (val j).2 e
      have p := (blk j).post
      rw [← e2] at p
      exact ⟨_, (Prod.mk.inj p).1⟩
end
end EM

set_option Elab.async false
set_option linter.all false
set_option maxRecDepth 100000
set_option maxHeartbeats 4000000
namespace EM
theorem fin5 : FinOk 5 := ⟨by decide +kernel, by decide +kernel, by decide +kernel, by decide +kernel, by decide +kernel, by decide +kernel⟩
end EM

set_option Elab.async false
set_option linter.all false
set_option maxRecDepth 100000
/-! all that the law asks -/
namespace EM
open EH
section
variable {α : Type} [DecidableEq α]
theorem ret_mod {f : α → α} {x : α} {p : Nat} (hp : 0 < p) (h : it f p x = x) (i : Nat) : it f i x = it f (i % p) x := by
  have mul : ∀ k i, it f (i + k * p) x = it f i x := by
    intro k
    induction k with
    | zero => intro i; rw [Nat.zero_mul, Nat.add_zero]
    | succ k ih => intro i; rw [Nat.succ_mul, ← Nat.add_assoc, it_add, h, ih]
  have := mul (i / p) (i % p)
  rw [← this]
  congr 1
  rw [Nat.mul_comm]
  exact (Nat.mod_add_div i p).symm
theorem addAll_nodup : ∀ {L J : List α}, J.Nodup → (addAll J L).Nodup
  | [], J, h => h
  | z :: r, J, h => by
    rw [addAll_cons]
    refine addAll_nodup ?_
    by_cases c : z ∈ J
    · rw [if_pos c]; exact h
    · rw [if_neg c]
      exact List.nodup_append.mpr ⟨h, by simp, fun a ha b hb e => by rw [List.mem_singleton.mp hb] at e; exact c (e ▸ ha)⟩
theorem grd_nodup (o : α → List α) : ∀ (l : List α) (s : Nat × List α), s.2.Nodup → (grd o l s).2.Nodup
  | [], s, h => h
  | x :: r, s, h => by
    show (grd o r (if x ∈ s.2 then s else (s.1 + 1, addAll s.2 (o x)))).2.Nodup
    refine grd_nodup o r _ ?_
    split
    · exact h
    · exact addAll_nodup h
end
section
variable {n : Nat} {ws : List W}
theorem Ctx.ends (C : Ctx n ws) {x : W} (h : x ∈ endsOf ws) : x ∈ allW n := by
  obtain ⟨z, hz, hm⟩ := List.mem_flatMap.mp h
  have hp := PuOk.mem (C.P.all z hz)
  rcases List.mem_cons.mp hm with rfl | hm
  · exact hp
  · rw [List.mem_singleton.mp hm]
    exact (C.F.cl hp).pull (C.pre z hz)
theorem ends_l {z : W} (h : z ∈ ws) : z ∈ endsOf ws := List.mem_flatMap.mpr ⟨z, h, by simp⟩
theorem ends_r {z : W} (h : z ∈ ws) : pulled z ∈ endsOf ws := List.mem_flatMap.mpr ⟨z, h, by simp⟩
open Classical in
noncomputable def rOf (f : W → W) (A : List W) (T : Turns A f) (v : W) : List W := if h : v ∈ A then orb f v (Classical.choose (T.per h)) else []
theorem rOf_eq {f : W → W} {A : List W} {T : Turns A f} {v : W} (h : v ∈ A) : ∃ p, rOf f A T v = orb f v p ∧ Per f v p ∧ p ≤ A.length := by
  have q := Classical.choose_spec (T.per h)
  refine ⟨Classical.choose (T.per h), ?_, q.1, q.2⟩
  unfold rOf
  rw [dif_pos h]
theorem rOf_mem {f : W → W} {A : List W} {T : Turns A f} : ∀ x ∈ A, ∀ z, z ∈ rOf f A T x ↔ Beh f x z := fun x hx z => by
  obtain ⟨p, e, hp, _⟩ := rOf_eq (T := T) hx
  rw [e]
  exact hp.mem
theorem Ctx.many (C : Ctx n ws) : manyM n ws (rOf turn (allW n) C.turnT) (rOf (behind (Bm ws)) (allW n) C.turns) = ((grd (rOf (behind (Bm ws)) (allW n) C.turns) (allW n) (0, [])).1 : Nat) := by
  have hnd := nodup_of C.F.nd
  have hE : ∀ x ∈ endsOf ws, x ∈ allW n := fun x hx => C.ends hx
  obtain ⟨j1, j2⟩ := grd_count C.turnT hnd (rOf_mem (T := C.turnT)) _ (endsOf ws) rfl hE
  have hJA : ∀ z, z ∈ (grd (rOf turn (allW n) C.turnT) (endsOf ws) (0, [])).2 → z ∈ allW n := fun z hz => by
    obtain ⟨y, hy, b⟩ := (j1 z).mp hz
    exact C.turnT.beh (hE y hy) b
  obtain ⟨r1, r2⟩ := grd_count C.turns hnd (rOf_mem (T := C.turns)) _ (grd (rOf turn (allW n) C.turnT) (endsOf ws) (0, [])).2 rfl hJA
  obtain ⟨a1, a2⟩ := grd_count C.turns hnd (rOf_mem (T := C.turns)) _ (allW n) rfl fun x hx => hx
  have h2n := C.n2
  obtain ⟨t1, t2⟩ := grd_count C.turnT hnd (o := fun x => orb turn x (2 * n)) (fun x hx z => by
    rw [mem_orb]
    exact ⟨fun ⟨j, _, e⟩ => ⟨j, e.symm⟩, fun ⟨j, e⟩ => ⟨j % (2 * n), Nat.mod_lt _ (by omega), by rw [e, ← ret_mod (by omega) (C.F.cl hx).tn]⟩⟩) _ (allW n) rfl fun x hx => hx
  have ht : ((grd (fun x => orb turn x (2 * n)) (allW n) (0, [])).1 : Int) = treesM n := of_decide_eq_true C.F.trees
  unfold manyM
  rw [← ht, t2, j2, r2, a2]
  generalize (grd (rOf turn (allW n) C.turnT) (endsOf ws) (0, [])).2 = J at j1 hJA
  -- J, and what is not in it
  have jE : ∀ z ∈ endsOf ws, z ∈ J := fun z hz => (j1 z).mpr ⟨z, hz, .refl z⟩
  have jT : ∀ z ∈ J, turn z ∈ J := fun z hz => by
    obtain ⟨y, hy, b⟩ := (j1 z).mp hz
    exact (j1 _).mpr ⟨y, hy, b.step⟩
  have jT' : ∀ z ∈ allW n, turn z ∈ J → z ∈ J := fun z hz h => by
    obtain ⟨y, hy, b⟩ := (j1 _).mp h
    exact (j1 z).mpr ⟨y, hy, b.trans (C.turnT.symm hz ⟨1, rfl⟩)⟩
  have jS : ∀ z ∈ J, swapped (Bm ws) z ∈ J := fun z hz => by
    unfold swapped
    split
    · rename_i q
      exact jE _ (ends_r (of_decide_eq_true q))
    · unfold under
      split
      · exact hz
      · rename_i u hu
        split at hu
        · split at hu
          · rename_i q
            cases hu
            exact jE _ (ends_l (of_decide_eq_true q))
          · cases hu
        · cases hu
  have jR : ∀ z ∈ J, behind (Bm ws) z ∈ J := fun z hz => jT _ (jS z hz)
  have nS : ∀ z, z ∉ J → swapped (Bm ws) z = z := fun z hz => by
    unfold swapped
    rw [if_neg fun q => hz (jE _ (ends_l (of_decide_eq_true q)))]
    unfold under
    by_cases c : z.take 3 = p101
    · rw [if_pos c]
      have : unpulled z ∉ ws := fun m => by
        have e : pulled (unpulled z) = z := by
          show p101 ++ (p110 ++ z.drop 3).drop 3 = z
          rw [← c]
          exact List.take_append_drop 3 z
        have := jE _ (ends_r m)
        rw [e] at this
        exact hz this
      rw [if_neg fun q => this (of_decide_eq_true q)]
    · rw [if_neg c]
  have nR : ∀ z, z ∉ J → behind (Bm ws) z = turn z := fun z hz => by
    unfold behind
    rw [nS z hz]
  have nI : ∀ z ∈ allW n, z ∉ J → ∀ j, it (behind (Bm ws)) j z = it turn j z ∧ it turn j z ∉ J := fun z hz hn j => by
    induction j with
    | zero => exact ⟨rfl, hn⟩
    | succ j ih =>
      have e : it (behind (Bm ws)) (j + 1) z = it turn (j + 1) z := by
        show behind (Bm ws) (it (behind (Bm ws)) j z) = turn (it turn j z)
        rw [ih.1, nR _ ih.2]
      exact ⟨e, fun m => ih.2 (jT' _ (C.turnT.it hz j) m)⟩
  have e1 : cnt (allW n) (fun z => (∃ y ∈ allW n, Beh turn y z) ∧ Lead (allW n) turn z) = cnt (allW n) (fun z => (z ∈ J ∧ Lead (allW n) turn z) ∨ (z ∉ J ∧ Lead (allW n) turn z)) :=
    cnt_congr fun z hz => ⟨fun ⟨_, l⟩ => by
      by_cases c : z ∈ J
      · exact .inl ⟨c, l⟩
      · exact .inr ⟨c, l⟩, fun h => ⟨⟨z, hz, .refl z⟩, h.elim (·.2) (·.2)⟩⟩
  have e2 : cnt (allW n) (fun z => (∃ y ∈ endsOf ws, Beh turn y z) ∧ Lead (allW n) turn z) = cnt (allW n) (fun z => z ∈ J ∧ Lead (allW n) turn z) :=
    cnt_congr fun z _ => by rw [j1]
  have e3 : cnt (allW n) (fun z => (∃ y ∈ J, Beh (behind (Bm ws)) y z) ∧ Lead (allW n) (behind (Bm ws)) z) = cnt (allW n) (fun z => z ∈ J ∧ Lead (allW n) (behind (Bm ws)) z) :=
    cnt_congr fun z _ => ⟨fun ⟨⟨y, hy, j, e⟩, l⟩ => ⟨by
      have : ∀ j, it (behind (Bm ws)) j y ∈ J := fun j => by
        induction j with
        | zero => exact hy
        | succ j ih => exact jR _ ih
      rw [e]
      exact this j, l⟩, fun ⟨h, l⟩ => ⟨⟨z, h, .refl z⟩, l⟩⟩
  have e4 : cnt (allW n) (fun z => (∃ y ∈ allW n, Beh (behind (Bm ws)) y z) ∧ Lead (allW n) (behind (Bm ws)) z) = cnt (allW n) (fun z => (z ∈ J ∧ Lead (allW n) (behind (Bm ws)) z) ∨ (z ∉ J ∧ Lead (allW n) (behind (Bm ws)) z)) :=
    cnt_congr fun z hz => ⟨fun ⟨_, l⟩ => by
      by_cases c : z ∈ J
      · exact .inl ⟨c, l⟩
      · exact .inr ⟨c, l⟩, fun h => ⟨⟨z, hz, .refl z⟩, h.elim (·.2) (·.2)⟩⟩
  have e5 : cnt (allW n) (fun z => z ∉ J ∧ Lead (allW n) (behind (Bm ws)) z) = cnt (allW n) (fun z => z ∉ J ∧ Lead (allW n) turn z) :=
    cnt_congr fun z hz => ⟨fun ⟨c, l⟩ => ⟨c, fun j => by rw [← (nI z hz c j).1]; exact l j⟩, fun ⟨c, l⟩ => ⟨c, fun j => by rw [(nI z hz c j).1]; exact l j⟩⟩
  rw [e1, e2, e3, e4, cnt_or fun z _ ⟨a, b⟩ => b.1 a.1, cnt_or fun z _ ⟨a, b⟩ => b.1 a.1, e5]
  omega
theorem Ctx.law (C : Ctx n ws) (hn : n ≤ 5) : ∃ oT oR, LawOk n ws oT oR := by
  refine ⟨rOf turn (allW n) C.turnT, rOf (behind (Bm ws)) (allW n) C.turns, of_decide_eq_true C.F.small, fun v hv => ?_, fun x hx => ?_, fun x hx => ?_, ?_, ?_, C.many, fun v hv => ?_, fun v hv => ?_, fun z s u hz hs => C.way hn (h0 := (z, s, u)) (Bal.mem hz) hs⟩
  · obtain ⟨p, e, hp, hl⟩ := rOf_eq (T := C.turns) hv
    rw [e]
    exact ⟨p, C.perOk hn hv hp hl, fun j _ => C.fit hv j⟩
  · have hxa := C.ends hx
    obtain ⟨p, e, hp, hl⟩ := rOf_eq (T := C.turnT) hxa
    have hs := of_decide_eq_true C.F.small
    rw [e]
    refine ⟨p, by omega, hp, fun j _ => ?_, rfl⟩
    rw [(C.F.cl (C.turnT.it hxa j)).len]
    omega
  · obtain ⟨j1, _⟩ := grd_count C.turnT (nodup_of C.F.nd) (rOf_mem (T := C.turnT)) _ (endsOf ws) rfl fun x hx => C.ends hx
    obtain ⟨y, hy, b⟩ := (j1 x).mp hx
    exact C.turnT.beh (C.ends hy) b
  · obtain ⟨j1, _⟩ := grd_count C.turnT (nodup_of C.F.nd) (rOf_mem (T := C.turnT)) _ (endsOf ws) rfl fun x hx => C.ends hx
    have hs := of_decide_eq_true C.F.small
    have := (pig (grd_nodup (rOf turn (allW n) C.turnT) (endsOf ws) (0, []) .nil) (l2 := allW n) fun x hx => by
      obtain ⟨y, hy, b⟩ := (j1 x).mp hx
      exact C.turnT.beh (C.ends hy) b).1
    omega
  · obtain ⟨j1, _⟩ := grd_count C.turnT (nodup_of C.F.nd) (rOf_mem (T := C.turnT)) _ (endsOf ws) rfl fun x hx => C.ends hx
    have hJA : ∀ z, z ∈ (grd (rOf turn (allW n) C.turnT) (endsOf ws) (0, [])).2 → z ∈ allW n := fun z hz => by
      obtain ⟨y, hy, b⟩ := (j1 z).mp hz
      exact C.turnT.beh (C.ends hy) b
    obtain ⟨r1, _⟩ := grd_count C.turns (nodup_of C.F.nd) (rOf_mem (T := C.turns)) _ (grd (rOf turn (allW n) C.turnT) (endsOf ws) (0, [])).2 rfl hJA
    have hs := of_decide_eq_true C.F.small
    have := (pig (grd_nodup (rOf (behind (Bm ws)) (allW n) C.turns) (grd (rOf turn (allW n) C.turnT) (endsOf ws) (0, [])).2 (0, []) .nil) (l2 := allW n) fun x hx => by
      obtain ⟨y, hy, b⟩ := (r1 x).mp hx
      exact C.turns.beh (hJA y hy) b).1
    omega
  · have := C.stok (h := (v, 0, false)) hv (Nat.zero_le _) hn
    rw [state0] at this
    exact ⟨this.1, (C.F.cl hv).len⟩
  · rw [← state0, C.sh (h := (v, 0, false)) hv (Nat.zero_le _)]
    rfl
theorem lawAll (n : Nat) (ws : List W) (h2 : 2 ≤ n) (h5 : n ≤ 5) (P : PsOk n ws) (h9 : ws.length ≤ 9) : ∃ oT oR, LawOk n ws oT oR := by
  have F : FinOk n := by
    have : n = 2 ∨ n = 3 ∨ n = 4 ∨ n = 5 := by omega
    rcases this with rfl | rfl | rfl | rfl
    · exact fin2
    · exact fin3
    · exact fin4
    · exact fin5
  exact Ctx.law ⟨F, P, h2⟩ h5
end
end EM

set_option Elab.async false
set_option linter.all false
set_option maxRecDepth 100000
set_option maxHeartbeats 0
namespace EH
open PySem PySem.Spec PyProof.Rows L2 LamX
theorem at_law {w : World} {K : PySem.W.Frag} {h : Heap} {mg : Str → Option Value} {f : Addr} (X : K.In h) (G : h.Ns mainGlobals mg) (hfa : mg ("law" : Str) = some (.ref f)) (c : He.SaysX fa fn [] tf ex w h K) :
    LawAtS PySem.Challenge.rw_everyhalf_k80_whole_rounds_of_states_are w K C8.CX0 9 63 "_law_script" mg f h := by
  have T := tx_mk X G c
  obtain ⟨fd, F⟩ := T.f_law
  have e := hfa.symm.trans T.g_law
  cases e
  have b := FunD.bindsA (ps := ["_law_script"]) F fun _ _ _ _ _ _ us hl => match us, hl with | [_], _ => rfl
  have one : ∀ p ∈ [He.cT K ("sewn_by", none)], p = He.cT K ("sewn_by", none) := fun p hp => List.mem_singleton.mp hp
  have tm : (("sewn_by" : Str), (none : Option Str)) ∈ tf := List.mem_singleton.mpr rfl
  refine ⟨fd, [He.cT K ("sewn_by", none)], sp_law K, fun p hp => ?_, fun p hp => ?_, fun p hp => ?_, fun s u => b s [u] rfl, fun H a ns _ _ hT hS => ?_, fun base _ _ hB => ?_⟩
  · rw [one p hp]
    exact c.empty _ tm
  · rw [one p hp]
    exact c.out _ tm
  · rw [one p hp]
    exact PySem.W.codeHd_of_K X (c.hd _ tm)
  · exact ⟨a, ns, rfl, hS, TabS.nil (hT _ (List.mem_singleton.mpr rfl)), fun _ => rfl⟩
  · exact law_ok T (hB _ (List.mem_singleton.mpr rfl)) EM.lawAll F
end EH
open PySem PySem.W PySem.Calls PyProof.Rows
theorem PySem.Challenge.cw_everyhalf_k80_whole_rounds_of_states_are_holds : PySem.Challenge.rw_everyhalf_k80_whole_rounds_of_states_are.Holds := by
  w_on; o_law
  refine HandSHeadRun.head_any (r := OpenLaw.row PySem.Challenge.rw_everyhalf_k80_whole_rounds_of_states_are) (q := view (OpenLaw.row PySem.Challenge.rw_everyhalf_k80_whole_rounds_of_states_are).prog [109]) (H := EH.hk) (ob := EH.ob) (M := 6000) (loose := EH.nms) (d := HandSHeadRun.topDef (OpenLaw.row PySem.Challenge.rw_everyhalf_k80_whole_rounds_of_states_are).prog 109) (kwd := []) EH.ob_eq
    (by kernel_rfl) (fun s => by kernel_rfl) EH.run (by kernel_rfl) (by kernel_rfl) (by kernel_rfl) (by rfl) (by first | assumption | decide +kernel) (by decide +kernel) ⟨rfl, rfl, rfl, rfl, rfl, by decide +kernel⟩ ?hw ?hc
  case hw => w_witness2
  case hc =>
    refine LamX.walk_ofTsE (l := PySem.Challenge.rw_everyhalf_k80_whole_rounds_of_states_are) (n := 63) (k := 9) (x := "_law_script") (CX := fun _ => C8.CX0) rfl (by decide) (by kernel_rfl) ⟨rfl, by decide, by decide⟩ ?F (fun _ _ _ _ _ z => z)
    intro w mg fa h Y G hmg0
    obtain ⟨K, KX, c⟩ := Y
    have hmg : mg ("law" : PySem.Str) = some (.ref fa) := by
      have e : (HandSHeadRun.topDef (OpenLaw.row PySem.Challenge.rw_everyhalf_k80_whole_rounds_of_states_are).prog 109).name = ("law" : PySem.Str) := by kernel_rfl
      rw [← e]
      exact hmg0
    exact ⟨K, KX, EH.at_law KX G hmg c⟩

