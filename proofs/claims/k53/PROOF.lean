import PyProof.Rows.All
import Wide.All
import OpenK.AllK
import Wide.FinOn
import HandS.ForMost
import KE.SortData
import KE.DataEq
import KE.DataMinMax
import HandS.Conv
import HandS.IsInst
import HandS.Style
import HandS.TupAny
import HandS.TupMul
import HandS.TupLe
import HandS.SortInts
import HandS.Flow
import HandS.Zip
import HandS.Small
import HandS.Deep
import PyProof.NeKinds
import PyProof.ReprRoads
import KE.KTupSum
import HandS.SortKw
import HandS.More
import KE.KDictPairs
import HandS.WordsExc
import HandS.Defaults
import KE.KRevSl
import PyProof.LongRange
import KE.GoesMore
import KE.GoesEnum
import KE.GoesZip
import KE.KItemsList
import HandS.SetFor
import HandS.Text
import HandS.TupSets
import HandS.Strs
import HandS.ForExc
import HandS.RaiseMore
import HandS.ExcIs
import HandS.HotCalls
import HandS.Ends
import HandS.HeadEnd
import HandS.HeadHook2
import HandS.Head0
import HandS.Head1
import HandS.Head2
import HandS.HeadHook1
import PySem.Challenge.RW_rimehold_k53_rings_looked_at
set_option Elab.async false
set_option linter.all false
set_option maxRecDepth 100000
set_option maxHeartbeats 4000000
namespace MP
open PySem PySem.Spec PyProof.Rows L2
def excNames : List Str := ["NoHouse", "NoOuts", "NoRoom", "NoHour", "NoPages", "NoLot", "NoAsks", "NoNumber", "NoMoves", "NoEach", "NoOrder", "NoPage", "NoOut", "Twice", "Missing", "TooMany", "NoDeed"]
def clsName (c : Nat) : Str := if c = 0 then "Reading" else "Ledger"
structure Tab where
  consts : List (Str × Int)
  free : List Str
  funs : List (Nat × Str × Nat)
  excs : List Str
  hots : List (Nat × Str) := []
  hot : Bool := false
  tries : Bool := false
  flds : List (Nat × Str) := []
  mths : List (Nat × Nat × Str × Nat) := []
  mks : List (Nat × Nat × Nat) := []
def faOf (T : Tab) : List He.Fa := T.funs.map (fun p => He.Fa.glo p.2.1) ++ T.free.map He.Fa.free ++ T.consts.map (fun p => He.Fa.int p.1 p.2) ++ T.hots.map (fun p => He.Fa.glo p.2) ++ T.excs.map He.Fa.glo ++ T.excs.map He.Fa.exc
  ++ (if T.tries then excNames.map He.Fa.glo ++ He.Fa.glo "RimeError" :: excNames.map (fun x => He.Fa.exm x "RimeError" true) else [])
  ++ (T.flds.map (fun p => He.Fa.glo (clsName p.1)) ++ T.flds.map (fun p => He.Fa.cls (clsName p.1)) ++ T.flds.map (fun p => He.Fa.noat (clsName p.1) p.2) ++ T.mths.map (fun p => He.Fa.glo (clsName p.2.1)) ++ T.mths.map (fun p => He.Fa.cls (clsName p.2.1)) ++ T.mths.map (fun p => He.Fa.meth (clsName p.2.1) p.2.2.1)
    ++ T.mks.map (fun p => He.Fa.glo (clsName p.1)) ++ T.mks.map (fun p => He.Fa.mkr (clsName p.1)))
def exB (K : PySem.W.Frag) (x : Str) : Bool :=
  He.eqO (PySem.W.findIn K (.ref (He.ga K x)) "__getattribute__") (some (some (.builtin "BaseException.__getattribute__"))) && (He.eqO (PySem.W.findIn K (.ref (He.ga K x)) "__getattr__") (some none) && (decide (PySem.W.subIn K (.ref (He.ga K x)) (.type "BaseException") = some true) && (PySem.W.hasDictIn K (He.ga K x)
    && (He.eqO (PySem.W.findIn K (.ref (He.ga K x)) "__class__") (some (some (.builtin "object.__class__"))) && (He.eqO (PySem.W.specialIn K (.builtin "object.__class__") "__get__") (some (some (.builtin "getset_descriptor.__get__"))) && (decide (PySem.W.takesIn K (.builtin "object.__class__") = some true)
      && (decide (PySem.W.mroIn K (He.ga K x) (.type "object") = some true) && (decide (PySem.W.kitOne K (.ref (He.ga K x)) (.type "ValueError") = some true) && excNames.all fun d => decide (PySem.W.kitOne K (.ref (He.ga K x)) (.ref (He.ga K d)) = some (decide (x = d)))))))))))
def eqK (K : PySem.W.Frag) : Bool := match PySem.W.nsIn K mainGlobals "Ledger" with
  | none => false
  | some (some (.ref C)) => decide (PySem.W.mroIn K C (.type "object") = some true) && He.eqO (PySem.W.findIn K (.ref C) "__eq__") (some (some (.builtin "object.__eq__")))
  | some _ => true
def exK (K : PySem.W.Frag) : Bool := excNames.all (exB K) && eqK K
def obsX (fa : List He.Fa) (fn : List He.DefD) (xt : Bool) (K : PySem.W.Frag) : He.AlD := (((fa.all fun f => f.ok K) && fn.all fun d => d.ok K) && (!xt || exK K), fn.map fun d => He.fnW K d.at_)
def SaysX (fa : List He.Fa) (fn : List He.DefD) (xt : Bool) (K : PySem.W.Frag) : Prop := obsX fa fn xt K = He.valD fn
def obsXG (n : Nat) (fa : List He.Fa) (fn : List He.DefD) (xt : Bool) (g : Addr → Option Obj) : He.AlD := obsX fa fn xt (He.frG g (He.asD g n))
def hookX (n : Nat) (fa : List He.Fa) (fn : List He.DefD) (xt : Bool) : PySem.W.Hook where
  α := He.AlD
  obs := fun s => obsXG n fa fn xt s.heap.get?
  val := fun _ => He.valD fn
  says := fun _ h => ∃ K : PySem.W.Frag, K.In h ∧ SaysX fa fn xt K
  of := fun _ _ e => ⟨_, He.frG_in, e⟩
  keeps := fun _ _ _ ⟨K, hK, c⟩ k => ⟨K, PySem.W.Frag.In.keeps hK k, c⟩
theorem obsXG_eq {n : Nat} {fa : List He.Fa} {fn : List He.DefD} {xt : Bool} {g : Addr → Option Obj} {s : Shared} (h : ∀ a, g a = s.heap.get? a) : obsXG n fa fn xt g = (hookX n fa fn xt).obs s := by
  have e : g = s.heap.get? := funext h
  rw [e] <;> rfl
end MP
namespace HandSHeadRun
open PySem PySem.W PySem.Calls PyProof.Rows
noncomputable def EndR (r : OpenRow) (M : Nat) (w : World) (os : OsState) : Option SharedT := endF (stepQ (denQ tabQ) r.prog w) M r.prog w os
noncomputable def LooksR (r : OpenRow) (w : World) (s : SharedT) : Bool := looksF r.prog (boot_heap w.params) s.abs
noncomputable def seenR (r : OpenRow) (q : Program) (loose : List PySem.Str) (s : SharedT) := seenQ q loose (importedModules r.prog.main.body) (fun s => xlAt q [] s && recOk r.toRowW.records s) s.abs
theorem run_parts {r : OpenRow} {q : Program} {H : Hook} {ob : SharedT → H.α} {M : Nat} {loose : List PySem.Str} {w : World} (hA : ∀ os, (EndR r M w os).map (LooksR r w) = some true) (hB : ∀ os, (EndR r M w os).map (seenR r q loose) = some (openGood q loose)) (hC : ∀ os, (EndR r M w os).map ob = some (H.val w)) : RunEq r q H ob M loose w := by
  intro os
  have a := hA os
  have b := hB os
  have c := hC os
  show (EndR r M w os).map (fun s => (LooksR r w s, seenR r q loose s, ob s)) = some (true, openGood q loose, H.val w)
  cases e : EndR r M w os with
  | none => rw [e] at a; exact absurd a (by simp)
  | some s =>
    rw [e] at a b c
    have a' : LooksR r w s = true := Option.some.inj a
    have b' := Option.some.inj b
    have c' := Option.some.inj c
    rw [Option.map_some, a', b', c']
end HandSHeadRun
namespace MP
open PySem PySem.Spec PyProof.Rows L2
theorem obs_and {r : PySem.W.OpenRow} {M n : Nat} {w : World} {fa1 fa2 : List He.Fa} {fn1 fn2 : List He.DefD} {x1 x2 : Bool} (h1 : ∀ os, (HandSHeadRun.EndR r M w os).map (fun s => obsXG n fa1 fn1 x1 (HandSHeadRun.getT s)) = some (He.valD fn1)) (h2 : ∀ os, (HandSHeadRun.EndR r M w os).map (fun s => obsXG n fa2 fn2 x2 (HandSHeadRun.getT s)) = some (He.valD fn2)) :
    ∀ os, (HandSHeadRun.EndR r M w os).map (fun s => obsXG n (fa1 ++ fa2) (fn1 ++ fn2) (x1 || x2) (HandSHeadRun.getT s)) = some (He.valD (fn1 ++ fn2)) := by
  intro os
  have a := h1 os
  have b := h2 os
  revert a b
  generalize HandSHeadRun.EndR r M w os = E
  intro a b
  cases E with
  | none => exact absurd a (by intro z; exact nomatch z)
  | some s =>
    have a4 : obsXG n fa1 fn1 x1 (HandSHeadRun.getT s) = He.valD fn1 := Option.some.inj a
    have b4 : obsXG n fa2 fn2 x2 (HandSHeadRun.getT s) = He.valD fn2 := Option.some.inj b
    show some (obsXG n (fa1 ++ fa2) (fn1 ++ fn2) (x1 || x2) (HandSHeadRun.getT s)) = some (He.valD (fn1 ++ fn2))
    refine congrArg some ?_
    unfold obsXG at a4 b4 ⊢
    generalize He.frG (HandSHeadRun.getT s) (He.asD (HandSHeadRun.getT s) n) = K at a4 b4 ⊢
    have c1 : (((fa1.all fun f => f.ok K) && fn1.all fun d => d.ok K) && (!x1 || exK K)) = true := congrArg (fun z : He.AlD => z.1) a4
    have c2 : fn1.map (fun d => He.fnW K d.at_) = fn1.map He.DefD.val := congrArg (fun z : He.AlD => z.2) a4
    have e1 : (((fa2.all fun f => f.ok K) && fn2.all fun d => d.ok K) && (!x2 || exK K)) = true := congrArg (fun z : He.AlD => z.1) b4
    have e2 : fn2.map (fun d => He.fnW K d.at_) = fn2.map He.DefD.val := congrArg (fun z : He.AlD => z.2) b4
    show (((((fa1 ++ fa2).all fun f => f.ok K) && (fn1 ++ fn2).all fun d => d.ok K) && (!(x1 || x2) || exK K)), (fn1 ++ fn2).map fun d => He.fnW K d.at_) = (true, (fn1 ++ fn2).map He.DefD.val)
    rw [List.map_append, List.map_append, c2, e2]
    congr 1
    rw [List.all_append, List.all_append]
    simp only [Bool.and_eq_true] at c1 e1
    rw [c1.1.1, c1.1.2, e1.1.1, e1.1.2]
    cases x1 <;> cases x2 <;> simp_all
end MP

namespace MPL
open PySem PySem.Spec PyProof.Rows L2 MP
abbrev pw : Program := PySem.Challenge.pw_rimehold_k53_rings_looked_at
def top (i : Nat) : Stmt := pw.main.body.getD i (.Pass ⟨0, 0, 0, 0⟩)
def dd_is_whole : He.DefD := ⟨("is_whole", none), "is_whole", "is_whole", defArgs (top 26), defBody (top 26), defScope (top 26), [], []⟩
def dd_is_within : He.DefD := ⟨("is_within", none), "is_within", "is_within", defArgs (top 27), defBody (top 27), defScope (top 27), [], []⟩
def dd_is_kind : He.DefD := ⟨("is_kind", none), "is_kind", "is_kind", defArgs (top 28), defBody (top 28), defScope (top 28), [], []⟩
def dd_are_apart : He.DefD := ⟨("are_apart", none), "are_apart", "are_apart", defArgs (top 29), defBody (top 29), defScope (top 29), [], []⟩
def dd_is_house : He.DefD := ⟨("is_house", none), "is_house", "is_house", defArgs (top 30), defBody (top 30), defScope (top 30), [], []⟩
def dd_check_house : He.DefD := ⟨("check_house", none), "check_house", "check_house", defArgs (top 31), defBody (top 31), defScope (top 31), [], []⟩
def dd_is_room : He.DefD := ⟨("is_room", none), "is_room", "is_room", defArgs (top 36), defBody (top 36), defScope (top 36), [], []⟩
def dd_is_move : He.DefD := ⟨("is_move", none), "is_move", "is_move", defArgs (top 37), defBody (top 37), defScope (top 37), [], []⟩
def dd_check_moves : He.DefD := ⟨("check_moves", none), "check_moves", "check_moves", defArgs (top 38), defBody (top 38), defScope (top 38), [], []⟩
def dd_room_lots : He.DefD := ⟨("room_lots", none), "room_lots", "room_lots", defArgs (top 39), defBody (top 39), defScope (top 39), [], []⟩
def dd_is_ring : He.DefD := ⟨("is_ring", none), "is_ring", "is_ring", defArgs (top 40), defBody (top 40), defScope (top 40), [], []⟩
def dd_fewest_in : He.DefD := ⟨("fewest_in", none), "fewest_in", "fewest_in", defArgs (top 41), defBody (top 41), defScope (top 41), [], []⟩
def dd_are_rings : He.DefD := ⟨("are_rings", none), "are_rings", "are_rings", defArgs (top 42), defBody (top 42), defScope (top 42), [], []⟩
def dd__law_cell_at : He.DefD := ⟨("_law_cell_at", none), "_law_cell_at", "_law_cell_at", defArgs (top 44), defBody (top 44), defScope (top 44), [], []⟩
def dd__law_pot : He.DefD := ⟨("_law_pot", none), "_law_pot", "_law_pot", defArgs (top 45), defBody (top 45), defScope (top 45), [], []⟩
def dd__law_take : He.DefD := ⟨("_law_take", none), "_law_take", "_law_take", defArgs (top 46), defBody (top 46), defScope (top 46), [], []⟩
def dd__law_whole : He.DefD := ⟨("_law_whole", none), "_law_whole", "_law_whole", defArgs (top 47), defBody (top 47), defScope (top 47), [], []⟩
def dd__law_odd : He.DefD := ⟨("_law_odd", none), "_law_odd", "_law_odd", defArgs (top 48), defBody (top 48), defScope (top 48), [], []⟩
def dd__law_bent : He.DefD := ⟨("_law_bent", none), "_law_bent", "_law_bent", defArgs (top 49), defBody (top 49), defScope (top 49), [], []⟩
def dd__law_house : He.DefD := ⟨("_law_house", none), "_law_house", "_law_house", defArgs (top 50), defBody (top 50), defScope (top 50), [], []⟩
def dd__law_word : He.DefD := ⟨("_law_word", none), "_law_word", "_law_word", defArgs (top 51), defBody (top 51), defScope (top 51), [], []⟩
def dd__law_moves : He.DefD := ⟨("_law_moves", none), "_law_moves", "_law_moves", defArgs (top 52), defBody (top 52), defScope (top 52), [], []⟩
def dd__law_lots : He.DefD := ⟨("_law_lots", none), "_law_lots", "_law_lots", defArgs (top 53), defBody (top 53), defScope (top 53), [], []⟩
def dd__law_is_ring : He.DefD := ⟨("_law_is_ring", none), "_law_is_ring", "_law_is_ring", defArgs (top 54), defBody (top 54), defScope (top 54), [], []⟩
def dd__law_wanted : He.DefD := ⟨("_law_wanted", none), "_law_wanted", "_law_wanted", defArgs (top 55), defBody (top 55), defScope (top 55), [], []⟩
def dd__law_are_rings : He.DefD := ⟨("_law_are_rings", none), "_law_are_rings", "_law_are_rings", defArgs (top 56), defBody (top 56), defScope (top 56), [], []⟩
def dd__law_told : He.DefD := ⟨("_law_told", none), "_law_told", "_law_told", defArgs (top 57), defBody (top 57), defScope (top 57), [], []⟩
def dd__law_drawn : He.DefD := ⟨("_law_drawn", none), "_law_drawn", "_law_drawn", defArgs (top 58), defBody (top 58), defScope (top 58), [], []⟩
def dd__law_lists : He.DefD := ⟨("_law_lists", none), "_law_lists", "_law_lists", defArgs (top 59), defBody (top 59), defScope (top 59), [], []⟩
def dd_law : He.DefD := ⟨("law", none), "law", "law", defArgs (top 60), defBody (top 60), defScope (top 60), [], []⟩
def fn : List He.DefD := [dd_is_whole, dd_is_within, dd_is_kind, dd_are_apart, dd_is_house, dd_check_house, dd_is_room, dd_is_move, dd_check_moves, dd_room_lots, dd_is_ring, dd_fewest_in, dd_are_rings, dd__law_cell_at, dd__law_pot, dd__law_take, dd__law_whole, dd__law_odd, dd__law_bent, dd__law_house, dd__law_word, dd__law_moves, dd__law_lots, dd__law_is_ring, dd__law_wanted, dd__law_are_rings, dd__law_told, dd__law_drawn, dd__law_lists, dd_law]
def T : Tab := ⟨[("MOST_ROOMS", 5), ("MOST_COLD", 3), ("MOST_KINDS", 4), ("MOST_LIMIT", 999), ("MOST_RATE", 9), ("MOST_HOLD", 9), ("MOST_MOVES", 10), ("MOST_RINGS", 30), ("MOST_IN_RING", 5)], ["ValueError", "all", "any", "bool", "int", "isinstance", "len", "list", "max", "min", "range", "repr", "set", "sorted", "tuple", "zip"], ([((0 : Nat), ("is_whole" : Str), (1 : Nat)), ((1 : Nat), ("is_within" : Str), (3 : Nat)), ((2 : Nat), ("is_kind" : Str), (1 : Nat)), ((3 : Nat), ("are_apart" : Str), (2 : Nat)), ((4 : Nat), ("is_house" : Str), (1 : Nat)), ((19 : Nat), ("check_house" : Str), (1 : Nat)), ((25 : Nat), ("is_room" : Str), (2 : Nat)), ((247 : Nat), ("is_move" : Str), (2 : Nat)), ((248 : Nat), ("check_moves" : Str), (2 : Nat)), ((124 : Nat), ("room_lots" : Str), (1 : Nat)), ((263 : Nat), ("is_ring" : Str), (3 : Nat)), ((132 : Nat), ("fewest_in" : Str), (2 : Nat)), ((264 : Nat), ("are_rings" : Str), (4 : Nat)), ((5 : Nat), ("_law_cell_at" : Str), (2 : Nat)), ((6 : Nat), ("_law_pot" : Str), (1 : Nat)), ((7 : Nat), ("_law_take" : Str), (2 : Nat)), ((8 : Nat), ("_law_whole" : Str), (1 : Nat)), ((10 : Nat), ("_law_odd" : Str), (1 : Nat)), ((11 : Nat), ("_law_bent" : Str), (2 : Nat)), ((211 : Nat), ("_law_house" : Str), (1 : Nat)), ((250 : Nat), ("_law_moves" : Str), (2 : Nat)), ((252 : Nat), ("_law_lots" : Str), (1 : Nat)), ((255 : Nat), ("_law_is_ring" : Str), (2 : Nat)), ((256 : Nat), ("_law_wanted" : Str), (2 : Nat)), ((257 : Nat), ("_law_are_rings" : Str), (2 : Nat)), ((265 : Nat), ("_law_told" : Str), (4 : Nat)), ((266 : Nat), ("_law_drawn" : Str), (2 : Nat)), ((267 : Nat), ("_law_lists" : Str), (2 : Nat)), ((268 : Nat), ("law" : Str), (1 : Nat))] : List (Nat × Str × Nat)), ["Missing", "NoAsks", "NoDeed", "NoEach", "NoHour", "NoHouse", "NoLot", "NoMoves", "NoNumber", "NoOrder", "NoOut", "NoOuts", "NoPage", "NoPages", "NoRoom", "RimeError", "TooMany", "Twice"], ([((32 : Nat), ("_law_word" : Str))] : List (Nat × Str)), false, true, ([] : List (Nat × Str)), ([] : List (Nat × Nat × Str × Nat)), ([] : List (Nat × Nat × Nat))⟩
abbrev fa : List He.Fa := faOf T
abbrev R : PySem.W.OpenRow := PySem.W.OpenLaw.row PySem.Challenge.rw_rimehold_k53_rings_looked_at
abbrev hk : PySem.W.Hook := hookX 4 fa fn T.tries
def ob (s : PySem.W.SharedT) : He.AlD := obsXG 4 fa fn T.tries (HandSHeadRun.getT s)
theorem ob_eq (s : PySem.W.SharedT) : ob s = hk.obs s.abs := obsXG_eq (HandSHeadRun.getT_eq s)
def loose0 : List PySem.Str := ["RimeError", "NoHouse", "NoOuts", "NoRoom", "NoHour", "NoPages", "NoLot", "NoAsks", "NoNumber", "NoMoves", "NoEach", "NoOrder", "NoPage", "NoOut", "Twice", "Missing", "TooMany", "NoDeed", "MOST_ROOMS", "MOST_COLD", "MOST_KINDS", "MOST_LIMIT", "MOST_RATE", "MOST_HOLD", "is_whole", "is_within", "is_kind", "are_apart", "is_house", "check_house"]
def loose1 : List PySem.Str := ["MOST_MOVES", "MOST_RINGS", "MOST_IN_RING", "is_room", "is_move", "check_moves", "room_lots", "is_ring", "fewest_in", "are_rings", "_law_cell_at", "_law_pot", "_law_take", "_law_whole", "_law_odd", "_law_bent", "_law_house", "_law_word", "_law_moves", "_law_lots", "_law_is_ring", "_law_wanted", "_law_are_rings", "_law_told", "_law_drawn", "_law_lists"]
def loose : List PySem.Str := loose0 ++ loose1
theorem runA (w : World) (os : OsState) : (HandSHeadRun.EndR R 20000 w os).map (HandSHeadRun.LooksR R w) = some true := by kernel_rfl
theorem runB (w : World) (os : OsState) : (HandSHeadRun.EndR R 20000 w os).map (HandSHeadRun.seenR R (PySem.W.view R.prog [60]) loose) = some (PySem.W.openGood (PySem.W.view R.prog [60]) loose) := by kernel_rfl
def faN : Nat := fa.length / 2
theorem runC1 (w : World) (os : OsState) : (HandSHeadRun.EndR R 20000 w os).map (fun s => obsXG 4 (fa.take faN) (fn.take 15) false (HandSHeadRun.getT s)) = some (He.valD (fn.take 15)) := by kernel_rfl
theorem runC2 (w : World) (os : OsState) : (HandSHeadRun.EndR R 20000 w os).map (fun s => obsXG 4 (fa.drop faN) (fn.drop 15) T.tries (HandSHeadRun.getT s)) = some (He.valD (fn.drop 15)) := by kernel_rfl
theorem runC (w : World) (os : OsState) : (HandSHeadRun.EndR R 20000 w os).map ob = some (hk.val w) := by
  have h := obs_and (runC1 w) (runC2 w) os
  rw [List.take_append_drop, List.take_append_drop, Bool.false_or] at h
  exact h
theorem run (w : World) : HandSHeadRun.RunEq R (PySem.W.view R.prog [60]) hk ob 20000 loose w := HandSHeadRun.run_parts (runA w) (runB w) (runC w)
end MPL

namespace MP
open PySem L2

inductive D where
  | non | bl (b : Bool) | int (i : Int) | str (x : Str) | ty (n : String) | own (x : Str) | ref (n : Nat) | tup (xs : List D) | con (xs : List D) | scr (xs : List D) | cdic (ks : List Key) (vs : List D) | exn (c : Str)
  | cdit (ks : List (List Key)) (vs : List D) | cins (c : Nat) (ns : List Str) (vs : List D)
  deriving Inhabited

inductive O where
  | lst (xs : List D)
  | dic (kvs : List (Key × D))
  | ins (c : Nat) (fs : List (Str × D))
  | dit (kvs : List (List Key × D))
  | lck (kvs : List (Key × D))
  deriving Inhabited

abbrev Store := List O
abbrev Env := List (Option D)

inductive Res (α : Type) where
  | ok (a : α) (S : Store)
  | exc (c : Str) (S : Store)
  | bad

def Res.noX {α : Type} (r : Res α) : Res α :=
  match r with
  | .ok a S => .ok a S
  | .exc _ _ => .bad
  | .bad => .bad
def Res.bind {α β : Type} (r : Res α) (f : α → Store → Res β) : Res β :=
  match r with
  | .ok a S => f a S
  | .exc c S => .exc c S
  | .bad => .bad

inductive Tg where
  | one (i : Nat)
  | many (is : List Nat)
  | nest (i : Nat) (is : List Nat)

inductive Bf where
  | len | isi | all | any | sum | max2 | min2 | max1 | min1 | sorted | list | tuple | repr | int | isx | lens | sset | dict | mind | dictT
  deriving DecidableEq
inductive Bm where
  | append | extend | get | get2 | index | count | pop | insert | remove | clear | join | dpop
  deriving DecidableEq
inductive It where
  | seq | rng | enu | zip | zpn

inductive C where
  | var (i : Nat) | val (d : D) | glo (x : Str) (d : D) | bty (n : String)
  | bin (q : Bool) (op : Operator) (a b : C) | neg (a : C) | not (a : C) | and (a b : C) | or (a b : C)
  | cmp (op : CmpOp) (a b : C) | cmp2 (op op' : CmpOp) (a b c : C)
  | ite (t a b : C)
  | tup (as : C) | lst (q : Bool) (as : C) | dct (q : Bool) (ks : List Key) (as : C)
  | call (f : Nat) (as : C) | blt (q : Bool) (f : Bf) (as : C) | mth (m : Bm) (o as : C) | omth (c f : Nat) (m : Str) (o as : C) | make (c f : Nat) (as : C)
  | idx (a b : C) | slc (q : Bool) (a lo hi : C) | rev (q : Bool) (a : C)
  | fld (c : Nat) (o : C) (f : Str) | lrng (q : Bool) (a : C) | trng (a : C) | nin (b : C)
  | lc (q : Bool) (tg : Tg) (it : It) (x cond elt : C) | lcK (q : Bool) (i j : Nat) (cond elt : C) | dctT (q : Bool)
  | nil | cons (a as : C) | no

inductive K where
  | skip | seq (a b : K) | expr (c : C) | set (i : Nat) (c : C) | unp (is : List Nat) (c : C) | par (is : List Nat) (as : C)
  | put (o i v : C) | setf (c : Nat) (o : C) (f : Str) (v : C)
  | ret (c : C) | retN | ife (t : C) (a b : K) | whl (t : C) (b : K) | for_ (tg : Tg) (it : It) (x : C) (b : K)
  | forK (i j : Nat) (b : K)
  | rais (c : Str) (a : C) | tryW (b : K) (c : Str) (i f : Nat) | cont | dead

inductive Fl where
  | nx (r : Env) | rt (d : D) | ct (r : Env)

def lim : Nat := 16777216
def seqOf (S : Store) : D → Option (List D)
  | .tup xs => some xs
  | .con xs => some xs
  | .scr xs => some xs
  | .ref n => match S[n]? with
    | some (.lst xs) => some xs
    | _ => none
  | _ => none
def lstOf (S : Store) : D → Option (List D)
  | .con xs => some xs
  | .scr xs => some xs
  | .ref n => match S[n]? with
    | some (.lst xs) => some xs
    | _ => none
  | _ => none

def plOf (S : Store) : D → Option (List D)
  | .con xs => some xs
  | .ref n => match S[n]? with
    | some (.lst xs) => some xs
    | _ => none
  | _ => none

def cut (xs : List D) (lo hi : Option Int) : List D := (xs.drop (HT.sIx xs.length 0 lo)).take (HT.sIx xs.length xs.length hi - HT.sIx xs.length 0 lo)

inductive Src where
  | fix (xs : List D) | lst (n : Nat) | enu (n : Nat) | zip (n m : Nat) | rng (lo : Int) (n : Nat)
def conOf : Option O → Option (List D)
  | some (.lst xs) => some xs
  | _ => none
def Src.at (i : Nat) (S : Store) : Src → Option (Option D)
  | .fix xs => some xs[i]?
  | .lst n => (conOf S[n]?).map fun xs => xs[i]?
  | .enu n => (conOf S[n]?).map fun xs => xs[i]?.map fun x => .tup [.int i, x]
  | .zip n m => (conOf S[n]?).bind fun xs => (conOf S[m]?).map fun ys => xs[i]?.bind fun x => ys[i]?.map fun y => .tup [x, y]
  | .rng lo n => some (if i < n then some (.int (lo + i)) else none)
def Src.len (S : Store) : Src → Nat
  | .fix xs => xs.length
  | .lst n => ((conOf S[n]?).map List.length).getD 0
  | .enu n => ((conOf S[n]?).map List.length).getD 0
  | .zip n _ => ((conOf S[n]?).map List.length).getD 0
  | .rng _ n => n

def big : Int := 4611686018427387904
def srcSeq (d : D) (S : Store) : Option Src :=
  match d with
  | .tup xs => some (.fix xs)
  | .con xs => some (.fix xs)
  | .scr xs => some (.fix xs)
  | .ref n => (conOf S[n]?).map fun _ => .lst n
  | _ => none
def srcRng1 (d : D) : Option Src :=
  match d with
  | .int j => if -big ≤ j ∧ j < big then some (.rng 0 j.toNat) else none
  | _ => none
def srcRng2 (d e : D) : Option Src :=
  match d, e with
  | .int i, .int j => some (.rng i (j - i).toNat)
  | _, _ => none
def enumD (xs : List D) : List D := xs.mapIdx fun i x => .tup [.int (i : Nat), x]
def srcEnu (d : D) (S : Store) : Option Src :=
  match d with
  | .ref n => (conOf S[n]?).map fun _ => .enu n
  | .con xs => some (.fix (enumD xs))
  | .tup xs => some (.fix (enumD xs))
  | _ => none
def srcZip (d e : D) (S : Store) : Option Src :=
  match d, e with
  | .tup xs, .tup ys => some (.fix (List.zipWith (fun x y => D.tup [x, y]) xs ys))
  | .con xs, .con ys => some (.fix (List.zipWith (fun x y => D.tup [x, y]) xs ys))
  | .con xs, .tup ys => some (.fix (List.zipWith (fun x y => D.tup [x, y]) xs ys))
  | .ref n, .ref m => (conOf S[n]?).bind fun _ => (conOf S[m]?).map fun _ => .zip n m
  | _, _ => none
def srcOf (it : It) (ds : List D) (S : Store) : Option Src :=
  match it with
  | .seq => match ds with
    | [d] => srcSeq d S
    | _ => none
  | .rng => match ds with
    | [d] => srcRng1 d
    | [d, e] => srcRng2 d e
    | _ => none
  | .enu => match ds with
    | [d] => srcEnu d S
    | _ => none
  | .zip => match ds with
    | [d, e] => srcZip d e S
    | _ => none
  | .zpn => match ds with
    | [.tup xs, .tup ys] => some (.fix (List.zipWith (fun x y => D.tup [x, y]) xs ys))
    | _ => none

def setAll : List Nat → List D → Env → Option Env
  | [], [], r => some r
  | i :: is, d :: ds, r => setAll is ds (r.set i (some d))
  | _, _, _ => none
def Tg.set (x : D) (r : Env) : Tg → Option Env
  | .one i => some (r.set i (some x))
  | .many is => match x with
    | .tup ds => if ds.length = is.length then setAll is ds r else none
    | _ => none
  | .nest i is => match x with
    | .tup [a, .tup ds] => if ds.length = is.length then setAll is ds (r.set i (some a)) else none
    | _ => none
def Tg.slots : Tg → List Nat
  | .one i => [i]
  | .many is => is
  | .nest i is => i :: is
def wipeD (r : Env) : List Nat → Env
  | [] => r
  | v :: vs => (wipeD r vs).set v none

def forL (src : Src) (body : D → Env → Store → Res Fl) : Nat → Nat → Env → Store → Res Fl
  | 0, i, r, S => match src.at i S with
    | some none => .ok (.nx r) S
    | _ => .bad
  | m + 1, i, r, S => match src.at i S with
    | some none => .ok (.nx r) S
    | some (some x) => (body x r S).bind fun f S => match f with
      | .nx r => forL src body m (i + 1) r S
      | .ct r => forL src body m (i + 1) r S
      | .rt d => .ok (.rt d) S
    | none => .bad
def lcL (src : Src) (body : D → Store → Res (Option D)) : Nat → Nat → List D → Store → Res (List D)
  | 0, i, acc, S => match src.at i S with
    | some none => .ok acc S
    | _ => .bad
  | m + 1, i, acc, S => match src.at i S with
    | some none => .ok acc S
    | some (some x) => (body x S).bind fun y S => match y with
      | some y => lcL src body m (i + 1) (acc ++ [y]) S
      | none => lcL src body m (i + 1) acc S
    | none => .bad
def truD {α : Type} (x : D) (S : Store) (a b : Store → Res α) : Res α :=
  match x with
  | .bl true => a S
  | .bl false => b S
  | _ => .bad
def whlL (test : Env → Store → Res D) (body : Env → Store → Res Fl) : Nat → Env → Store → Res Fl
  | 0, _, _ => .bad
  | m + 1, r, S => (test r S).bind fun t S => truD t S (fun S => (body r S).bind fun f S => match f with
      | .nx r => whlL test body m r S
      | .ct r => whlL test body m r S
      | .rt d => .ok (.rt d) S) fun S => .ok (.nx r) S
end MP

namespace MP
open PySem L2

def kD : Key → D
  | .inl i => .int i
  | .inr x => .str x
def kP : Key → PyData
  | .inl i => .int i
  | .inr x => .str x
def toPy (S : Store) : Nat → D → Option PyData
  | 0, .non => some .none
  | 0, .bl b => some (.bool b)
  | 0, .int i => some (.int i)
  | 0, .str x => some (.str x)
  | 0, _ => none
  | f + 1, d => match d with
    | .non => some .none
    | .bl b => some (.bool b)
    | .int i => some (.int i)
    | .str x => some (.str x)
    | .tup xs => (xs.mapM (toPy S f)).map PyData.tuple
    | .con xs => (xs.mapM (toPy S f)).map PyData.list
    | .scr xs => (xs.mapM (toPy S f)).map PyData.list
    | .cdic ks vs => ((ks.zip vs).mapM fun kv => (toPy S f kv.2).map fun v => (kP kv.1, v)).map PyData.dict
    | .ref n => match S[n]? with
      | some (.lst xs) => (xs.mapM (toPy S f)).map PyData.list
      | some (.dic kvs) => (kvs.mapM fun kv => (toPy S f kv.2).map fun v => (kP kv.1, v)).map PyData.dict
      | _ => none
    | _ => none
def dep : Nat := 60

def isFlat : D → Bool
  | .non | .bl _ | .int _ | .str _ => true
  | _ => false
def b2i (b : Bool) : Int := if b then 1 else 0
def eqF : D → D → Bool
  | .non, .non => true
  | .bl a, .bl b => a == b
  | .bl a, .int b => b2i a == b
  | .int a, .bl b => a == b2i b
  | .int a, .int b => a == b
  | .str a, .str b => a == b
  | _, _ => false
def eqD (S : Store) (x y : D) : Option Bool :=
  if isFlat x && isFlat y then some (eqF x y)
  else match x, y with
  | .tup xs, .tup [] => some xs.isEmpty
  | .tup [], .tup ys => some ys.isEmpty
  | x, y =>
    match lstOf S x, lstOf S y with
    | some xs, some [] => some xs.isEmpty
    | some [], some ys => some ys.isEmpty
    | _, _ => match toPy S dep x, toPy S dep y with
      | some a, some b => if a.canLay0 && b.canLay0 then some (PyData.eqv a b) else none
      | _, _ => none
def intsOf : List D → Option (List Int)
  | [] => some []
  | .int i :: r => (intsOf r).map (i :: ·)
  | _ :: _ => none
def blsOf : List D → Option (List Bool)
  | [] => some []
  | .bl i :: r => (blsOf r).map (i :: ·)
  | _ :: _ => none
def ltD (x y : D) : Option Bool :=
  match x, y with
  | .int i, .int j => some (decide (i < j))
  | .tup xs, .tup ys => match intsOf xs, intsOf ys with
    | some ns, some ms => some (HT.lexLt ns ms)
    | _, _ => none
  | _, _ => none
def leD (x y : D) : Option Bool :=
  match x, y with
  | .int i, .int j => some (decide (i ≤ j))
  | .tup xs, .tup ys => match intsOf xs, intsOf ys with
    | some ns, some ms => some (!HT.lexLt ms ns)
    | _, _ => none
  | _, _ => none
def keyOf : D → Option Key
  | .int i => some (.inl i)
  | .str x => some (.inr x)
  | _ => none
def dictOf (S : Store) : D → Option (List (Key × D))
  | .ref n => match S[n]? with
    | some (.dic kvs) => some kvs
    | some (.lck kvs) => some kvs
    | _ => none
  | .cdic ks vs => some (ks.zip vs)
  | _ => none
def keysOf : List D → Option (List Key)
  | [] => some []
  | .int i :: r => (keysOf r).map (.inl i :: ·)
  | .str i :: r => (keysOf r).map (.inr i :: ·)
  | _ :: _ => none
def keyT : D → Option (List Key)
  | .tup xs => keysOf xs
  | _ => none
def dictTOf (S : Store) : D → Option (List (List Key × D))
  | .ref n => match S[n]? with
    | some (.dit kvs) => some kvs
    | _ => none
  | .cdit ks vs => some (ks.zip vs)
  | _ => none
def valT (kvs : List (List Key × D)) (k : List Key) : Option D := (kvs.find? fun kv => decide (kv.1 = k)).map (·.2)
def valD (kvs : List (Key × D)) (k : Key) : Option D := (kvs.find? fun kv => decide (kv.1 = k)).map (·.2)
def inD (S : Store) (x y : D) : Option Bool :=
  match seqOf S y with
  | some ys => if isFlat x && ys.all isFlat then some (ys.any fun y => eqF y x)
    else match lstOf S y, toPy S dep x, ys.mapM (toPy S dep) with
    | some _, some a, some ps => if a.canLay0 && PyData.canLayAll0 ps then some (ps.any fun z => PyData.eqv z a) else none
    | none, some a, some ps => if a.plain && PyData.plainAll ps then some (ps.any fun z => PyData.eqv z a) else none
    | _, _, _ => none
  | none => match dictOf S y, keyOf x with
    | some kvs, some k => some (valD kvs k).isSome
    | _, _ => match dictTOf S y, keyT x with
      | some kvs, some k => some (valT kvs k).isSome
      | _, _ => none
def isD (x y : D) : Option Bool :=
  match x, y with
  | .bl a, .bl b => some (decide (a = b))
  | .non, .non => some true
  | x, .non => match x with
    | .ty _ => none
    | .own _ => none
    | _ => some false
  | _, _ => none
def ofO {α : Type} (o : Option α) (f : α → D) (S : Store) : Res D :=
  match o with
  | some a => .ok (f a) S
  | none => .bad
def cmpD (op : CmpOp) (x y : D) (S : Store) : Res D :=
  match op with
  | .Eq => ofO (eqD S x y) D.bl S
  | .NotEq => ofO (eqD S x y) (fun b => .bl (!b)) S
  | .Lt => ofO (ltD x y) D.bl S
  | .LtE => ofO (leD x y) D.bl S
  | .Gt => match x, y with
    | .int i, .int j => .ok (.bl (decide (j < i))) S
    | _, _ => .bad
  | .GtE => match x, y with
    | .int i, .int j => .ok (.bl (decide (j ≤ i))) S
    | _, _ => .bad
  | .In => ofO (inD S x y) D.bl S
  | .NotIn => ofO (inD S x y) (fun b => .bl (!b)) S
  | .Is => ofO (isD x y) D.bl S
  | .IsNot => ofO (isD x y) (fun b => .bl (!b)) S

def p64 : Int := 18446744073709551616
def mulOk (i j : Int) : Bool := (decide (-p64 < i) && decide (i < p64)) || (decide (-p64 < j) && decide (j < p64))
def newL (q : Bool) (xs : List D) (S : Store) : Res D := if q then .ok (.con xs) S else .ok (.ref S.length) (S ++ [.lst xs])
def addD (q : Bool) (x y : D) (S : Store) : Res D :=
  match x with
  | .int i => (match y with
    | .int j => .ok (.int (i + j)) S
    | _ => .bad)
  | .tup xs => (match y with
    | .tup ys => if xs.length + ys.length ≤ lim then .ok (.tup (xs ++ ys)) S else .bad
    | _ => .bad)
  | .str a => (match y with
    | .str b => if a.length + b.length ≤ lim then .ok (.str (a ++ b)) S else .bad
    | _ => .bad)
  | x => (match plOf S x, plOf S y with
    | some xs, some ys => if xs.length + ys.length ≤ lim then newL q (xs ++ ys) S else .bad
    | _, _ => .bad)
def divTop : Int := 10 ^ 100
def mulD (q : Bool) (x y : D) (S : Store) : Res D :=
  match y with
  | .int k => (match x with
    | .int i => if mulOk i k then .ok (.int (i * k)) S else .bad
    | .tup xs => if xs ≠ [] ∧ 2 ≤ k ∧ k ≤ 1000 ∧ xs.length ≤ 1000 then .ok (.tup (List.replicate k.toNat xs).flatten) S else .bad
    | x => (match plOf S x with
      | some xs => if 0 ≤ k ∧ k ≤ 1000 ∧ xs.length ≤ 1000 then newL q (List.replicate k.toNat xs).flatten S else .bad
      | none => .bad))
  | _ => .bad
def binD (q : Bool) (op : Operator) (x y : D) (S : Store) : Res D :=
  match op with
  | .Add => addD q x y S
  | .Sub => (match x, y with
    | .int i, .int j => .ok (.int (i - j)) S
    | _, _ => .bad)
  | .Mult => mulD q x y S
  | .FloorDiv => (match x, y with
    | .int i, .int j => if 0 < j ∧ j < divTop then .ok (.int (i / j)) S else .bad
    | _, _ => .bad)
  | .Mod => (match x, y with
    | .int i, .int j => if 0 < j then .ok (.int (i % j)) S else .bad
    | _, _ => .bad)
  | .Pow => (match x, y with
    | .int i, .int j => if 0 ≤ j ∧ j ≤ 1000 ∧ i.natAbs < 1000 then .ok (.int (i ^ j.toNat)) S else .bad
    | _, _ => .bad)
  | _ => .bad
def newD (q : Bool) (ks : List Key) (ds : List D) (S : Store) : Res D := if q then .ok (.cdic ks ds) S else .ok (.ref S.length) (S ++ [.dic (ks.zip ds)])
def idxD (x y : D) (S : Store) : Res D :=
  match y with
  | .int i => match seqOf S x with
    | some xs => ofO (atI xs i) id S
    | none => match x with
      | .str z => if z.length ≤ lim then ofO (atI z.cps.toList i) (fun c => .str ⟨#[c]⟩) S else .bad
      | x => match dictOf S x with
        | some kvs => ofO (valD kvs (.inl i)) id S
        | none => .bad
  | .str z => match dictOf S x with
    | some kvs => ofO (valD kvs (.inr z)) id S
    | none => .bad
  | .tup ks => match keysOf ks, dictTOf S x with
    | some k, some kvs => ofO (valT kvs k) id S
    | _, _ => .bad
  | _ => .bad
def slcD (q : Bool) (x : D) (l h : Option Int) (S : Store) : Res D :=
  match x with
  | .tup xs => .ok (.tup (cut xs l h)) S
  | x => match lstOf S x with
    | some xs => newL q (cut xs l h) S
    | none => .bad
def revD (q : Bool) (x : D) (S : Store) : Res D :=
  match lstOf S x with
  | some xs => newL q xs.reverse S
  | none => match x with
    | .tup xs => .ok (.tup xs.reverse) S
    | _ => .bad
def rowsOf : List D → Option (List (List Int))
  | [] => some []
  | .tup xs :: r => (intsOf xs).bind fun ns => (rowsOf r).map (ns :: ·)
  | _ :: _ => none
def pyRow (ns : List Int) : PyData := .tuple (ns.map .int)
def minRow (n : List Int) (ns : List (List Int)) : List Int := ns.foldl (fun a y => if PySem.W.dataLt (pyRow y) (pyRow a) then y else a) n

def tyD (S : Store) : D → Option String
  | .non => some "NoneType"
  | .bl _ => some "bool"
  | .int _ => some "int"
  | .str _ => some "str"
  | .tup _ => some "tuple"
  | .con _ => some "list"
  | .scr _ => some "list"
  | .cdic _ _ => some "dict"
  | .ref n => match S[n]? with
    | some (.lst _) => some "list"
    | some (.dic _) => some "dict"
    | _ => none
  | _ => none
def isaT : String → String → Option Bool
  | t, "int" => some (t == "int" || t == "bool")
  | t, "bool" => some (t == "bool")
  | t, "str" => some (t == "str")
  | t, "tuple" => some (t == "tuple")
  | t, "list" => some (t == "list")
  | t, "dict" => some (t == "dict")
  | _, _ => none
def isiD (S : Store) (x c : D) : Option Bool :=
  match c with
  | .ty T => (tyD S x).bind fun t => isaT t T
  | .tup [.ty T, .ty T'] => (tyD S x).bind fun t => (isaT t T).bind fun a => (isaT t T').map fun b => a || b
  | _ => none
def lenD (S : Store) (x : D) : Option Nat :=
  match seqOf S x with
  | some xs => some xs.length
  | none => match x with
    | .str z => if z.length ≤ lim then some z.length else none
    | x => (dictOf S x).map List.length
def allAlike : List PyData → Bool
  | ds => ds.all fun a => ds.all fun b => PySem.W.alike a b
def sortable (ds : List PyData) : Bool :=
  (ds.all fun d => match d with
    | .tuple (_ :: _) => true
    | _ => false) || (ds.all fun d => match d with
    | .none => false
    | .tuple _ => false
    | .dict _ => false
    | _ => true)
def sortD (S : Store) (xs : List D) : Option (List D) :=
  (xs.mapM (toPy S dep)).bind fun ps =>
    if allAlike ps && sortable ps then some (((xs.zip ps).mergeSort (PySem.W.dataLe false Prod.snd)).map Prod.fst) else none
def maxL : List Int → Int
  | [] => 0
  | x :: r => r.foldl max x
def minL : List Int → Int
  | [] => 0
  | x :: r => r.foldl min x
def ins (x : Int) : List Int → List Int
  | [] => [x]
  | y :: r => if x < y then x :: y :: r else if x = y then y :: r else y :: ins x r
def rise (ns : List Int) : List Int := ns.foldr ins []
def keysTOf : List D → Option (List (List Key))
  | [] => some []
  | d :: r => (keyT d).bind fun k => (keysTOf r).map (k :: ·)
def onceT : List (List Key) → List (List Key)
  | [] => []
  | k :: r => if ((onceT r).any fun x => decide (x = k)) = true then onceT r else k :: onceT r
def lensD (x : D) (S : Store) : Res D :=
  match (seqOf S x).bind intsOf with
  | some ns => if ns.length < 60 then .ok (.int (rise ns).length) S else .bad
  | none => match (lstOf S x).bind keysTOf with
    | some ks => if ks.length < 60 then .ok (.int (onceT ks).length) S else .bad
    | none => .bad
def ssetD (q : Bool) (x : D) (S : Store) : Res D :=
  match (seqOf S x).bind intsOf with
  | some ns => if ns.length < 60 then newL q ((rise ns).map D.int) S else .bad
  | none => .bad
def putK' {κ : Type} [DecidableEq κ] (kvs : List (κ × D)) (k : κ) (v : D) : List (κ × D) :=
  if (kvs.any fun kv => decide (kv.1 = k)) = true then kvs.map (fun kv => if kv.1 = k then (kv.1, v) else kv) else kvs ++ [(k, v)]
def dropK' {κ : Type} [DecidableEq κ] (kvs : List (κ × D)) (k : κ) : List (κ × D) := kvs.filter fun kv => decide (kv.1 ≠ k)
def pairsOf : List D → Option (List (Key × D))
  | [] => some []
  | .tup [k, v] :: r => (keyOf k).bind fun k => (pairsOf r).map ((k, v) :: ·)
  | _ :: _ => none
def newDk (q : Bool) (kvs : List (Key × D)) (S : Store) : Res D := if q then .ok (.cdic (kvs.map (·.1)) (kvs.map (·.2))) S else .ok (.ref S.length) (S ++ [.dic kvs])
def dictD (q : Bool) (x : D) (S : Store) : Res D :=
  match dictOf S x with
  | some kvs => newDk q kvs S
  | none => match (lstOf S x).bind pairsOf with
    | some ps => newDk q (ps.foldl (fun acc kv => putK' acc kv.1 kv.2) []) S
    | none => .bad
def pairsT : List D → Option (List (List Key × D))
  | [] => some []
  | .tup [k, v] :: r => (keyT k).bind fun k => (pairsT r).map ((k, v) :: ·)
  | _ => none
def newDkT (q : Bool) (kvs : List (List Key × D)) (S : Store) : Res D := if q then .ok (.cdit (kvs.map (·.1)) (kvs.map (·.2))) S else .ok (.ref S.length) (S ++ [.dit kvs])
def dictTD (q : Bool) (x : D) (S : Store) : Res D :=
  match (lstOf S x).bind pairsT with
  | some ps => newDkT q (ps.foldl (fun acc kv => putK' acc kv.1 kv.2) []) S
  | none => .bad
def keyIntsOf (kvs : List (Key × D)) : Option (List Int) := intsOf (kvs.map fun kv => kD kv.1)
def mindD (x : D) (S : Store) : Res D :=
  match (lstOf S x).bind intsOf with
  | some [] => .ok .non S
  | some (n :: ns) => .ok (.int (minL (n :: ns))) S
  | none => .bad
def isxD (x c : D) (S : Store) : Res D :=
  match x with
  | .exn k => (match c with
    | .own d => if d ∈ excNames then .ok (.bl (decide (k = d))) S else .bad
    | .ty T => if T = "ValueError" then .ok (.bl true) S else .bad
    | _ => .bad)
  | _ => .bad
def bltD (q : Bool) (f : Bf) (ds : List D) (S : Store) : Res D :=
  match f, ds with
  | .len, [x] => ofO (lenD S x) (fun n => .int n) S
  | .isi, [x, c] => ofO (isiD S x c) D.bl S
  | .all, [x] => ofO ((lstOf S x).bind blsOf) (fun bs => .bl (bs.all id)) S
  | .any, [x] => ofO ((lstOf S x).bind blsOf) (fun bs => .bl (bs.any id)) S
  | .sum, [x] => ofO ((seqOf S x).bind intsOf) (fun ns => .int ns.sum) S
  | .max2, [.int i, .int j] => .ok (.int (if j > i then j else i)) S
  | .min2, [.int i, .int j] => .ok (.int (if j < i then j else i)) S
  | .max1, [x] => match (seqOf S x).bind intsOf with
    | some ns => if 0 < ns.length then .ok (.int (maxL ns)) S else .bad
    | none => .bad
  | .min1, [x] => match (seqOf S x).bind intsOf with
    | some ns => if 0 < ns.length then .ok (.int (minL ns)) S else .bad
    | none => match (lstOf S x).bind rowsOf with
      | some (n :: ns) => .ok (.tup ((minRow n ns).map .int)) S
      | _ => .bad
  | .sorted, [x] => match (seqOf S x).bind (sortD S) with
    | some ys => newL q ys S
    | none => match (dictOf S x).bind keyIntsOf with
      | some ns => if ns.length < 64 then newL q ((ns.mergeSort (fun a b => decide (a ≤ b))).map D.int) S else .bad
      | none => .bad
  | .list, [x] => match seqOf S x with
    | some xs => newL q xs S
    | none => match dictTOf S x with
      | some kvs => newL q (kvs.map fun kv => .tup (kv.1.map kD)) S
      | none => .bad
  | .tuple, [x] => ofO (seqOf S x) D.tup S
  | .repr, [x] => match toPy S dep x with
    | some p => if p.showable && decide (p.shown.length ≤ lim) then .ok (.str p.shown) S else .bad
    | none => .bad
  | .isx, [x, c] => isxD x c S
  | .lens, [x] => lensD x S
  | .sset, [x] => ssetD q x S
  | .dict, [x] => dictD q x S
  | .dictT, [x] => dictTD q x S
  | .mind, [x] => mindD x S
  | .int, [.int i] => .ok (.int i) S
  | .int, [.bl b] => .ok (.int (if b then 1 else 0)) S
  | _, _ => .bad
def putD (S : Store) (x i v : D) : Option Store :=
  match x with
  | .ref n => match S[n]? with
    | some (.lst xs) => match i with
      | .int k => (ixN xs.length k).map fun j => S.set n (.lst (xs.set j v))
      | _ => none
    | some (.dic kvs) => match keyOf i with
      | some k => if kvs.length < lim then some (S.set n (.dic (putK' kvs k v))) else none
      | none => none
    | some (.dit kvs) => match keyT i with
      | some k => if kvs.length < lim then some (S.set n (.dit (putK' kvs k v))) else none
      | none => none
    | _ => none
  | _ => none
def kindD (x : D) (S : Store) : Nat :=
  match x with
  | .ref n => match S[n]? with
    | some (.lst _) => 1
    | some (.dic _) => 2
    | some (.lck _) => 2
    | _ => 0
  | .con _ => 1
  | .cdic _ _ => 2
  | .str _ => 3
  | _ => 0
def Bm.ty : Bm → Nat
  | .get | .get2 | .dpop => 2
  | .join => 3
  | _ => 1
def cellD (S : Store) : D → Option (Nat × List D)
  | .ref n => match S[n]? with
    | some (.lst xs) => some (n, xs)
    | _ => none
  | _ => none
def appendD (o : D) (ds : List D) (S : Store) : Res D :=
  match cellD S o, ds with
  | some (n, xs), [v] => if xs.length < lim then .ok .non (S.set n (.lst (xs ++ [v]))) else .bad
  | _, _ => .bad
def extendD (o : D) (ds : List D) (S : Store) : Res D :=
  match cellD S o, ds with
  | some (n, xs), [k] => (match plOf S k with
    | some ys => if xs.length + ys.length ≤ lim then .ok .non (S.set n (.lst (xs ++ ys))) else .bad
    | none => .bad)
  | _, _ => .bad
def indexD (o : D) (ds : List D) (S : Store) : Res D :=
  match lstOf S o, ds with
  | some xs, [y] => if isFlat y && xs.all isFlat then ofO (xs.findIdx? fun z => eqF z y) (fun j => .int j) S else .bad
  | _, _ => .bad
def countD (o : D) (ds : List D) (S : Store) : Res D :=
  match lstOf S o, ds with
  | some xs, [y] => if isFlat y && xs.all isFlat then .ok (.int (xs.countP fun z => eqF z y : Nat)) S else .bad
  | _, _ => .bad
def popD (o : D) (ds : List D) (S : Store) : Res D :=
  match cellD S o, ds with
  | some (n, xs), [] => (match xs[xs.length - 1]? with
    | some y => .ok y (S.set n (.lst xs.dropLast))
    | none => .bad)
  | some (n, xs), [.int i] => if -big ≤ i ∧ i < big then (match seqIndex? i xs.length with
    | some k => (match xs[k]? with
      | some y => .ok y (S.set n (.lst (xs.eraseIdx k)))
      | none => .bad)
    | none => .bad) else .bad
  | _, _ => .bad
def insertD (o : D) (ds : List D) (S : Store) : Res D :=
  match cellD S o, ds with
  | some (n, xs), [.int i, y] => if xs.length < lim ∧ 0 ≤ i ∧ i < big then .ok .non (S.set n (.lst (xs.take i.toNat ++ [y] ++ xs.drop i.toNat))) else .bad
  | _, _ => .bad
def removeD (o : D) (ds : List D) (S : Store) : Res D :=
  match cellD S o, ds with
  | some (n, xs), [.int k] => (match intsOf xs with
    | some ns => (match ns.findIdx? (fun m => decide (m = k)) with
      | some j => .ok .non (S.set n (.lst ((ns.eraseIdx j).map D.int)))
      | none => .bad)
    | none => .bad)
  | _, _ => .bad
def clearD (o : D) (ds : List D) (S : Store) : Res D :=
  match cellD S o, ds with
  | some (n, _), [] => .ok .non (S.set n (.lst []))
  | _, _ => .bad
def getKD (o : D) (ds : List D) (S : Store) : Res D :=
  match dictOf S o, ds with
  | some kvs, [x] => (match keyOf x with
    | some k => .ok ((valD kvs k).getD .non) S
    | none => .bad)
  | some kvs, [x, z] => (match keyOf x with
    | some k => .ok ((valD kvs k).getD z) S
    | none => .bad)
  | _, _ => .bad
def dpopD (o : D) (ds : List D) (S : Store) : Res D :=
  match o, ds with
  | .ref n, [x] => (match S[n]?, keyOf x with
    | some (.dic kvs), some k => (match valD kvs k with
      | some v => .ok v (S.set n (.dic (dropK' kvs k)))
      | none => .bad)
    | _, _ => .bad)
  | _, _ => .bad
def strsOf : List D → Option (List Str)
  | [] => some []
  | .str i :: r => (strsOf r).map (i :: ·)
  | _ :: _ => none
def joinD (o : D) (ds : List D) (S : Store) : Res D :=
  match o, ds with
  | .str a, [k] => (match (plOf S k).bind strsOf with
    | some ys => if (ys.map (·.length)).sum + ys.length * a.length ≤ 16777216 then .ok (.str (Str.join a ys)) S else .bad
    | none => .bad)
  | _, _ => .bad
def mthD (m : Bm) (o : D) (ds : List D) (S : Store) : Res D :=
  match m with
  | .append => appendD o ds S
  | .extend => extendD o ds S
  | .index => indexD o ds S
  | .count => countD o ds S
  | .pop => popD o ds S
  | .insert => insertD o ds S
  | .remove => removeD o ds S
  | .clear => clearD o ds S
  | .get => getKD o ds S
  | .get2 => getKD o ds S
  | .join => joinD o ds S
  | .dpop => dpopD o ds S

def lrngD (q : Bool) (x : D) (S : Store) : Res D :=
  match x with
  | .int n => if 0 ≤ n ∧ n ≤ lim then newL q ((List.range n.toNat).map fun i => .int (i : Nat)) S else .bad
  | _ => .bad
def insOf (S : Store) (c : Nat) : D → Option (List (Str × D))
  | .ref n => match S[n]? with
    | some (.ins c' fs) => if c' = c then some fs else none
    | _ => none
  | .cins c' ns vs => if c' = c then some (ns.zip vs) else none
  | _ => none
def putF' (f : Str) (v : D) : List (Str × D) → List (Str × D)
  | [] => [(f, v)]
  | (g, x) :: r => if g = f then (g, v) :: r else (g, x) :: putF' f v r
def setfD (S : Store) (c : Nat) (x : D) (f : Str) (v : D) : Option Store :=
  match x with
  | .ref n => match S[n]? with
    | some (.ins c' fs) => if c' = c ∧ fs.length < 1000 then some (S.set n (.ins c (putF' f v fs))) else none
    | _ => none
  | _ => none
def trngD (x : D) (S : Store) : Res D :=
  match x with
  | .int n => if 0 ≤ n ∧ n ≤ lim then .ok (.tup ((List.range n.toNat).map fun i => .int (i : Nat))) S else .bad
  | _ => .bad
def ninD (x : D) (S : Store) : Res D :=
  match lstOf S x with
  | some ys => if (ys.all fun y => (insOf S 1 y).isSome) = true then .ok (.bl false) S else .bad
  | none => .bad
def newT (q : Bool) (S : Store) : Res D := if q then .ok (.cdit [] []) S else .ok (.ref S.length) (S ++ [.dit []])
def lockIn (d : D) (S : Store) : Option (List D × Store) :=
  match d with
  | .cdic ks _ => some (ks.map kD, S)
  | .ref n => match S[n]? with
    | some (.dic kvs) => some (kvs.map fun kv => kD kv.1, S.set n (.lck kvs))
    | _ => none
  | _ => none
def lockOut (d : D) (S : Store) : Option Store :=
  match d with
  | .cdic _ _ => some S
  | .ref n => match S[n]? with
    | some (.lck kvs) => some (S.set n (.dic kvs))
    | _ => none
  | _ => none
def lockE {α : Type} (d : D) (r : Res α) : Res α :=
  match r with
  | .ok a S' => match lockOut d S' with
    | some S'' => .ok a S''
    | none => .bad
  | _ => .bad
def lockR {α : Type} (d : D) (S : Store) (f : List D → Store → Res α) : Res α :=
  match lockIn d S with
  | some (ks, S1) => lockE d (f ks S1)
  | none => .bad
structure Cal where
  call : Nat → List D → Store → Res D

def C.isNo : C → Bool
  | .no => true
  | _ => false
def evB (b : Bool) (f : Store → Res D) (S : Store) : Res (Option Int) :=
  if b then .ok none S else (f S).bind fun d S => match d with
    | .int i => .ok (some i) S
    | _ => .bad
def condD (t : Res D) (e : Store → Res D) : Res (Option D) :=
  t.bind fun x S => truD x S (fun S => (e S).bind fun y S => .ok (some y) S) fun S => .ok none S
mutual
def evE (Γ : Cal) : C → Env → Store → Res D
  | .var i, r, S => match r[i]? with
    | some (some d) => .ok d S
    | _ => .bad
  | .val d, _, S => .ok d S
  | .glo _ d, _, S => .ok d S
  | .bty n, _, S => .ok (.ty n) S
  | .bin q op a b, r, S => (evE Γ a r S).bind fun x S => (evE Γ b r S).bind fun y S => binD q op x y S
  | .neg a, r, S => (evE Γ a r S).bind fun x S => match x with
    | .int i => .ok (.int (-i)) S
    | _ => .bad
  | .not a, r, S => (evE Γ a r S).bind fun x S => match x with
    | .bl b => .ok (.bl (!b)) S
    | _ => .bad
  | .and a b, r, S => (evE Γ a r S).bind fun x S => truD x S (evE Γ b r) fun S => .ok (.bl false) S
  | .or a b, r, S => (evE Γ a r S).bind fun x S => truD x S (fun S => .ok (.bl true) S) (evE Γ b r)
  | .cmp op a b, r, S => (evE Γ a r S).bind fun x S => (evE Γ b r S).bind fun y S => cmpD op x y S
  | .cmp2 op op' a b c, r, S => (evE Γ a r S).bind fun x S => (evE Γ b r S).bind fun y S => (cmpD op x y S).bind fun t S =>
      truD t S (fun S => (evE Γ c r S).bind fun z S => cmpD op' y z S) fun S => .ok (.bl false) S
  | .ite t a b, r, S => (evE Γ t r S).bind fun x S => truD x S (evE Γ a r) (evE Γ b r)
  | .tup as, r, S => (evA Γ as r S).bind fun ds S => .ok (.tup ds) S
  | .lst q as, r, S => (evA Γ as r S).bind fun ds S => newL q ds S
  | .dct q ks as, r, S => (evA Γ as r S).bind fun ds S => newD q ks ds S
  | .call f as, r, S => (evA Γ as r S).bind fun ds S => Γ.call f ds S
  | .blt q f as, r, S => (evA Γ as r S).bind fun ds S => bltD q f ds S
  | .mth m o as, r, S => (evE Γ o r S).bind fun x S => if m.ty == kindD x S then (evA Γ as r S).bind fun ds S => mthD m x ds S else .bad
  | .omth c f m o as, r, S => (evE Γ o r S).bind fun x S => match insOf S c x with
    | some fs => if fs.lookup m = none then (evA Γ as r S).bind fun ds S => Γ.call f (x :: ds) S else .bad
    | none => .bad
  | .make c f as, r, S => (evA Γ as r S).bind fun ds S => (Γ.call f (.ref S.length :: ds) (S ++ [.ins c []])).bind fun v S' => match v with
    | .non => .ok (.ref S.length) S'
    | _ => .bad
  | .idx a b, r, S => (evE Γ a r S).bind fun x S => (evE Γ b r S).bind fun y S => idxD x y S
  | .slc q a lo hi, r, S => (evE Γ a r S).bind fun x S => (evB lo.isNo (evE Γ lo r) S).bind fun l S => (evB hi.isNo (evE Γ hi r) S).bind fun h S => slcD q x l h S
  | .rev q a, r, S => (evE Γ a r S).bind fun x S => revD q x S
  | .fld c o f, r, S => (evE Γ o r S).bind fun x S => ofO ((insOf S c x).bind fun fs => fs.lookup f) id S
  | .dctT q, _, S => newT q S
  | .lcK q i j cond elt, r, S => match r[j]? with
    | some (some d) => lockR d S fun ks S => if ks.length ≤ lim then
        (lcL (.fix ks) (fun v S => (condD (evE Γ cond ((wipeD r [i]).set i (some v)) S) (evE Γ elt ((wipeD r [i]).set i (some v)))).noX) ks.length 0 [] S).bind fun ys S => newL q ys S
      else .bad
    | _ => .bad
  | .lrng q a, r, S => (evE Γ a r S).bind fun x S => lrngD q x S
  | .trng a, r, S => (evE Γ a r S).bind fun x S => trngD x S
  | .nin b, r, S => (evE Γ b r S).bind fun x S => ninD x S
  | .lc q tg it x cond elt, r, S => (evA Γ x r S).bind fun ds S => match srcOf it ds S with
    | some src => if src.len S ≤ lim then
        (lcL src (fun v S => match tg.set v (wipeD r tg.slots) with
          | some r' => (condD (evE Γ cond r' S) (evE Γ elt r')).noX
          | none => .bad) (src.len S) 0 [] S).bind fun ys S => newL q ys S
      else .bad
    | none => .bad
  | .nil, _, _ => .bad
  | .cons _ _, _, _ => .bad
  | .no, _, S => .ok (.bl true) S
def evA (Γ : Cal) : C → Env → Store → Res (List D)
  | .nil, _, S => .ok [] S
  | .cons a as, r, S => (evE Γ a r S).bind fun x S => (evA Γ as r S).bind fun xs S => .ok (x :: xs) S
  | _, _, _ => .bad
end

mutual
/-- data without a reference -/
def pureD : D → Bool
  | .non | .bl _ | .int _ | .str _ => true
  | .tup xs => pureL xs
  | .con xs => pureL xs
  | .cdic _ vs => pureL vs
  | .ty _ | .own _ | .ref _ | .exn _ | .scr _ | .cdit _ _ | .cins _ _ _ => false
def pureL : List D → Bool
  | [] => true
  | x :: xs => pureD x && pureL xs
end
open Classical in
noncomputable def hotR (S : Store) (r : Res D) : Res Fl :=
  match r with
  | .ok d S' => if S' = S ∧ pureD d = true then .ok (.rt d) S else .bad
  | _ => .bad
noncomputable def tryR (r : Res Fl) (c : Str) (h : Str → Store → Res D) : Res Fl :=
  match r with
  | .exc x S => if c = "RimeError" ∧ x ∈ excNames then hotR S (h x S) else .bad
  | .ok f S => .ok f S
  | .bad => .bad
noncomputable def evS (Γ : Cal) (W : Nat) : K → Env → Store → Res Fl
  | .skip, r, S => .ok (.nx r) S
  | .seq a b, r, S => (evS Γ W a r S).bind fun f S => match f with
    | .nx r => evS Γ W b r S
    | .rt d => .ok (.rt d) S
    | .ct r => .ok (.ct r) S
  | .expr c, r, S => (evE Γ c r S).bind fun _ S => .ok (.nx r) S
  | .set i c, r, S => (evE Γ c r S).bind fun x S => .ok (.nx (r.set i (some x))) S
  | .unp is c, r, S => (evE Γ c r S).bind fun x S => match (Tg.many is).set x r with
    | some r' => .ok (.nx r') S
    | none => .bad
  | .par is as, r, S => (evA Γ as r S).bind fun ds S => match setAll is ds r with
    | some r' => .ok (.nx r') S
    | none => .bad
  | .put o i v, r, S => (evE Γ v r S).bind fun v S => (evE Γ o r S).bind fun x S => (evE Γ i r S).bind fun i S => match putD S x i v with
    | some S' => .ok (.nx r) S'
    | none => .bad
  | .setf c o f v, r, S => (evE Γ v r S).bind fun y S => (evE Γ o r S).bind fun x S => match setfD S c x f y with
    | some S' => .ok (.nx r) S'
    | none => .bad
  | .ret c, r, S => (evE Γ c r S).bind fun x S => .ok (.rt x) S
  | .retN, _, S => .ok (.rt .non) S
  | .ife t a b, r, S => (evE Γ t r S).bind fun x S => truD x S (evS Γ W a r) (evS Γ W b r)
  | .whl t b, r, S => whlL (evE Γ t) (evS Γ W b) W r S
  | .for_ tg it x b, r, S => (evA Γ x r S).bind fun ds S => match srcOf it ds S with
    | some src => forL src (fun v r S => match tg.set v r with
        | some r' => evS Γ W b r' S
        | none => .bad) (src.len S) 0 r S
    | none => .bad
  | .forK i j b, r, S => match r[j]? with
    | some (some d) => lockR d S fun ks S => forL (.fix ks) (fun v r S => evS Γ W b (r.set i (some v)) S) ks.length 0 r S
    | _ => .bad
  | .rais c a, r, S => (evE Γ a r S).bind fun _ S => .exc c S
  | .tryW b c _ f, r, S => tryR (evS Γ W b r S) c fun x S => Γ.call f [.exn x] S
  | .cont, r, S => .ok (.ct r) S
  | .dead, _, _ => .bad

structure Def where
  nps : Nat
  nsl : Nat
  body : K
  fz : Bool := false
  fl : Bool := false
mutual
/-- all references are below n -/
def lowD (n : Nat) : D → Bool
  | .ref m => decide (m < n)
  | .tup xs => lowL n xs
  | .con xs => lowL n xs
  | .scr xs => lowL n xs
  | .cdic _ vs => lowL n vs
  | .cdit _ vs => lowL n vs
  | .cins _ _ vs => lowL n vs
  | .non | .bl _ | .int _ | .str _ | .ty _ | .own _ | .exn _ => true
def lowL (n : Nat) : List D → Bool
  | [] => true
  | x :: xs => lowD n x && lowL n xs
end
def lowO (n : Nat) : O → Bool
  | .lst xs => lowL n xs
  | .dic kvs => lowL n (kvs.map (·.2))
  | .ins _ fs => lowL n (fs.map (·.2))
  | .dit kvs => lowL n (kvs.map (·.2))
  | .lck kvs => lowL n (kvs.map (·.2))
def frz (S : Store) (n0 : Nat) : Nat → D → Option D
  | 0, d => if pureD d then some d else none
  | f + 1, d => if pureD d then some d else match d with
    | .ref n => if n < n0 then some (.ref n) else match S[n]? with
      | some (.lst xs) => (xs.mapM (frz S n0 f)).map D.con
      | some (.dic kvs) => ((kvs.map (·.2)).mapM (frz S n0 f)).map (D.cdic (kvs.map (·.1)))
      | some (.dit kvs) => ((kvs.map (·.2)).mapM (frz S n0 f)).map (D.cdit (kvs.map (·.1)))
      | some (.ins c fs) => ((fs.map (·.2)).mapM (frz S n0 f)).map (D.cins c (fs.map (·.1)))
      | _ => none
    | .tup xs => (xs.mapM (frz S n0 f)).map D.tup
    | .con xs => (xs.mapM (frz S n0 f)).map D.con
    | .cdic ks vs => (vs.mapM (frz S n0 f)).map (D.cdic ks)
    | .cdit ks vs => (vs.mapM (frz S n0 f)).map (D.cdit ks)
    | .cins c ns vs => (vs.mapM (frz S n0 f)).map (D.cins c ns)
    | .scr xs => if pureL xs then some (.scr xs) else none
    | d => some d
def frzT (S : Store) (n0 : Nat) (d : D) : Option D := frz S n0 20 d
def okT (S0 S' : Store) : Prop := S0.length ≤ S'.length ∧ ∀ (i : Nat) o, i < S0.length → S'[i]? = some o → S0[i]? = some o ∨ lowO S0.length o = true
open Classical in
noncomputable def cutR (S0 : Store) (r : Res D) : Res D :=
  match r with
  | .ok d S' => if okT S0 S' then (match frzT S' S0.length d with
    | some d' => .ok d' (S'.take S0.length)
    | none => .bad) else .bad
  | .exc c S' => if okT S0 S' then .exc c (S'.take S0.length) else .bad
  | .bad => .bad
open Classical in
noncomputable def cutL (S0 : Store) (r : Res D) : Res D :=
  match r with
  | .ok (.ref n) S' => if okT S0 S' ∧ S0.length ≤ n then (match S'[n]? with
    | some (.lst xs) => if pureL xs = true then .ok (.ref S0.length) (S'.take S0.length ++ [.lst xs]) else .bad
    | _ => .bad) else .bad
  | .exc c S' => if okT S0 S' then .exc c (S'.take S0.length) else .bad
  | _ => .bad
noncomputable def cutD (z l : Bool) (S0 : Store) (r : Res D) : Res D := if z then cutR S0 r else if l then cutL S0 r else r
def ends (r : Res Fl) : Res D :=
  r.bind fun f S => match f with
    | .nx _ => .ok .non S
    | .rt d => .ok d S
    | .ct _ => .bad
noncomputable def runD (Γ : Cal) (W : Nat) (d : Def) (ds : List D) (S : Store) : Res D :=
  if ds.length = d.nps then ends (evS Γ W d.body (ds.map some ++ List.replicate (d.nsl - d.nps) none) S) else .bad
noncomputable def callF (defs : Nat → Option Def) (W : Nat) : Nat → Nat → List D → Store → Res D
  | 0, _, _, _ => .bad
  | n + 1, f, ds, S => match defs f with
    | some d => cutD d.fz d.fl S (runD ⟨callF defs W n⟩ W d ds S)
    | none => .bad
end MP

namespace MP
open PySem L2

structure Gx where
  K : PySem.W.Frag
  mg : Str → Option Value
  cls : Nat → Addr
  blk : List Addr := []
  ex : Option (Addr × Str) := none
def Gx.wb (G : Gx) (b : List Addr) : Gx := ⟨G.K, G.mg, G.cls, b, G.ex⟩
def Gx.wx (G : Gx) (e : Addr × Str) : Gx := ⟨G.K, G.mg, G.cls, G.blk, some e⟩

def ConAt (K : PySem.W.Frag) (H : Hp) (a : Addr) (vs : List V) : Prop :=
  (∃ ob, H a = some (.frz ob (.lst vs))) ∨
    ∃ (o : Obj) (its : Array Value) (n : Nat), K.lookup a = some o ∧ o.cls = .type "list" ∧ o.dict = none ∧ o.data = .seq its n ∧ its.size ≤ sizeLine ∧ Vals vs its.toList
theorem ConAt.sq {K : PySem.W.Frag} {H : Hp} {a : Addr} {vs : List V} (h : ConAt K H a vs) : SqL K H a vs := by
  rcases h with ⟨ob, h⟩ | h
  · exact .inl (.inr ⟨ob, h⟩)
  · exact .inr h
mutual
inductive Rep (G : Gx) (A : List Addr) (H : Hp) : D → V → Prop where
  | non : Rep G A H .non .non
  | bl (b : Bool) : Rep G A H (.bl b) (.bl b)
  | int (i : Int) : Rep G A H (.int i) (.int i)
  | str (x : Str) : Rep G A H (.str x) (.str x)
  | ty (n : String) : Rep G A H (.ty n) (.ty n)
  | own {x : Str} {a : Addr} : G.mg x = some (.ref a) → Rep G A H (.own x) (.ref a)
  | exn {c : Str} {a : Addr} : G.ex = some (a, c) → Rep G A H (.exn c) (.ref a)
  | ref {n : Nat} {a : Addr} : A[n]? = some a → Rep G A H (.ref n) (.ref a)
  | tup {a : Addr} {xs : List D} {vs : List V} : H a = some (.tup vs) → RepL G A H xs vs → Rep G A H (.tup xs) (.ref a)
  | con {a : Addr} {xs : List D} {vs : List V} : H a = some (.lst vs) → a ∉ A → a ∉ G.blk → RepL G A H xs vs → Rep G A H (.con xs) (.ref a)
  | scr {a : Addr} {xs : List D} {vs : List V} : ConAt G.K H a vs → RepL G A H xs vs → Rep G A H (.scr xs) (.ref a)
  | cdic {a : Addr} {kvs : List (Key × V)} {ds : List D} : Rd H a (.dK kvs) → a ∉ A → a ∉ G.blk → RepL G A H ds (kvs.map (·.2)) → Rep G A H (.cdic (kvs.map (·.1)) ds) (.ref a)
  | cdit {a : Addr} {kvs : List (List Key × V)} {ds : List D} : Rd H a (.dT kvs) → a ∉ A → a ∉ G.blk → RepL G A H ds (kvs.map (·.2)) → Rep G A H (.cdit (kvs.map (·.1)) ds) (.ref a)
  | cins {c : Nat} {a C dx : Addr} {fs : List (Str × V)} {ds : List D} : G.mg (clsName c) = some (.ref C) → H a = some (.ins C dx fs) → a ∉ A → a ∉ G.blk → RepL G A H ds (fs.map (·.2)) → Rep G A H (.cins c (fs.map (·.1)) ds) (.ref a)
inductive RepL (G : Gx) (A : List Addr) (H : Hp) : List D → List V → Prop where
  | nil : RepL G A H [] []
  | cons {d : D} {v : V} {ds : List D} {vs : List V} : Rep G A H d v → RepL G A H ds vs → RepL G A H (d :: ds) (v :: vs)
end

def ORep (G : Gx) (A : List Addr) (H : Hp) (a : Addr) : O → Prop
  | .lst xs => ∃ vs, H a = some (.lst vs) ∧ RepL G A H xs vs
  | .dic kvs => ∃ vs : List (Key × V), H a = some (.dK vs) ∧ kvs.map (·.1) = vs.map (·.1) ∧ RepL G A H (kvs.map (·.2)) (vs.map (·.2))
  | .ins c fs => ∃ (C dx : Addr) (vs : List (Str × V)), G.mg (clsName c) = some (.ref C) ∧ H a = some (.ins C dx vs) ∧ fs.map (·.1) = vs.map (·.1) ∧ RepL G A H (fs.map (·.2)) (vs.map (·.2))
  | .dit kvs => ∃ vs : List (List Key × V), H a = some (.dT vs) ∧ kvs.map (·.1) = vs.map (·.1) ∧ RepL G A H (kvs.map (·.2)) (vs.map (·.2))
  | .lck kvs => ∃ (ob : Obj) (vs : List (Key × V)), H a = some (.frz ob (.dK vs)) ∧ kvs.map (·.1) = vs.map (·.1) ∧ RepL G A H (kvs.map (·.2)) (vs.map (·.2))
def isFz : HO → Bool
  | .frz _ _ => true
  | _ => false

structure SRel (G : Gx) (A : List Addr) (H : Hp) (S : Store) : Prop where
  len : A.length = S.length
  nd : A.Nodup
  shut : ∀ b ∈ G.blk, H b ≠ none ∧ b ∉ A
  obj : ∀ (n : Nat) o a, S[n]? = some o → A[n]? = some a → ORep G A H a o

structure Ext (A : List Addr) (H : Hp) (A' : List Addr) (H' : Hp) : Prop where
  pre : ∃ B, A' = A ++ B ∧ ∀ b ∈ B, H b = none
  keep' : ∀ p o, H p = some o → (p ∉ A ∨ isFz o = true) → H' p = some o
theorem Ext.keep {A A' : List Addr} {H H' : Hp} (E : Ext A H A' H') : ∀ p o, H p = some o → p ∉ A → H' p = some o := fun p o h n => E.keep' p o h (.inl n)
theorem Ext.rd {A A' : List Addr} {H H' : Hp} (E : Ext A H A' H') {p : Addr} {o : HO} (h : Rd H p o) (n : p ∉ A) : Rd H' p o := by
  rcases h with h | ⟨ob, h⟩
  · exact .inl (E.keep _ _ h n)
  · exact .inr ⟨ob, E.keep _ _ h n⟩

def ERel (G : Gx) (A : List Addr) (H : Hp) (r : Env) (s : St) : Prop :=
  r.length = s.length ∧ ∀ (i : Nat) d, r[i]? = some (some d) → ∃ v, s[i]? = some (some v) ∧ Rep G A H d v

section
variable {G : Gx} {A A' A1 A2 : List Addr} {H H' H1 H2 : Hp} {S S' : Store}

theorem RepL.length : ∀ {ds : List D} {vs : List V}, RepL G A H ds vs → ds.length = vs.length
  | _, _, .nil => rfl
  | _, _, .cons _ t => by simp [RepL.length t]
theorem RepL.get : ∀ {ds : List D} {vs : List V} {i : Nat} {d : D}, RepL G A H ds vs → ds[i]? = some d → ∃ v, vs[i]? = some v ∧ Rep G A H d v
  | _, _, _, _, .nil, e => by simp at e
  | _, _, 0, _, .cons r _, e => by simp at e; subst e; exact ⟨_, rfl, r⟩
  | _, _, i + 1, d, .cons _ t, e => by
    obtain ⟨v, h1, h2⟩ := RepL.get (i := i) (d := d) t (by simpa using e)
    exact ⟨v, by simpa using h1, h2⟩
theorem RepL.none_of {ds : List D} {vs : List V} {i : Nat} (r : RepL G A H ds vs) (e : ds[i]? = none) : vs[i]? = none := by
  have h1 := r.length
  have h2 : ds.length ≤ i := List.getElem?_eq_none_iff.mp e
  exact List.getElem?_eq_none_iff.mpr (by omega)
theorem RepL.append : ∀ {ds es : List D} {vs ws : List V}, RepL G A H ds vs → RepL G A H es ws → RepL G A H (ds ++ es) (vs ++ ws)
  | _, _, _, _, .nil, s => s
  | _, _, _, _, .cons r t, s => .cons r (RepL.append t s)
theorem RepL.take : ∀ {ds : List D} {vs : List V} (n : Nat), RepL G A H ds vs → RepL G A H (ds.take n) (vs.take n)
  | _, _, 0, _ => .nil
  | _, _, _ + 1, .nil => .nil
  | _, _, n + 1, .cons r t => .cons r (RepL.take n t)
theorem RepL.drop : ∀ {ds : List D} {vs : List V} (n : Nat), RepL G A H ds vs → RepL G A H (ds.drop n) (vs.drop n)
  | _, _, 0, r => r
  | _, _, _ + 1, .nil => .nil
  | _, _, n + 1, .cons _ t => RepL.drop n t
theorem RepL.reverse : ∀ {ds : List D} {vs : List V}, RepL G A H ds vs → RepL G A H ds.reverse vs.reverse
  | _, _, .nil => .nil
  | _, _, .cons r t => by simp only [List.reverse_cons]; exact (RepL.reverse t).append (.cons r .nil)
theorem RepL.set {d : D} {v : V} (q : Rep G A H d v) : ∀ {ds : List D} {vs : List V} (i : Nat), RepL G A H ds vs → RepL G A H (ds.set i d) (vs.set i v)
  | _, _, _, .nil => .nil
  | _, _, 0, .cons _ t => .cons q t
  | _, _, i + 1, .cons r t => .cons r (RepL.set q i t)
theorem RepL.flat : ∀ (n : Nat) {ds : List D} {vs : List V}, RepL G A H ds vs → RepL G A H (List.replicate n ds).flatten (List.replicate n vs).flatten
  | 0, _, _, _ => .nil
  | n + 1, _, _, r => by simp only [List.replicate_succ, List.flatten_cons]; exact r.append (RepL.flat n r)

theorem SRel.thereS (R : SRel G A H S) {n : Nat} {a : Addr} (e : A[n]? = some a) : ∃ o, S[n]? = some o ∧ ORep G A H a o := by
  have h1 : n < A.length := by
    rcases Nat.lt_or_ge n A.length with h | h
    · exact h
    · rw [List.getElem?_eq_none h] at e; cases e
  have h2 : n < S.length := by rw [← R.len]; exact h1
  exact ⟨S[n], by simp [h2], R.obj n _ a (by simp [h2]) e⟩
theorem ORep.there {a : Addr} {o : O} (h : ORep G A H a o) : ∃ u, H a = Option.some u ∧ (∀ vs, u ≠ .tup vs) ∧ ∀ ob vs, u ≠ .frz ob (.lst vs) := by
  cases o with
  | lst xs => obtain ⟨vs, e, _⟩ := h; exact ⟨_, e, by simp, by simp⟩
  | dic kvs => obtain ⟨vs, e, _⟩ := h; exact ⟨_, e, by simp, by simp⟩
  | ins c fs => obtain ⟨C, dx, vs, _, e, _⟩ := h; exact ⟨_, e, by simp, by simp⟩
  | dit kvs => obtain ⟨vs, e, _⟩ := h; exact ⟨_, e, by simp, by simp⟩
  | lck kvs => obtain ⟨ob, vs, e, _⟩ := h; exact ⟨_, e, by simp, by simp⟩
theorem SRel.mem (R : SRel G A H S) {a : Addr} (h : a ∈ A) : ∃ u, H a = Option.some u ∧ (∀ vs, u ≠ .tup vs) ∧ ∀ ob vs, u ≠ .frz ob (.lst vs) := by
  obtain ⟨n, e⟩ := List.mem_iff_getElem?.mp h
  obtain ⟨o, _, q⟩ := R.thereS e
  exact q.there
theorem SRel.not_tup (R : SRel G A H S) {a : Addr} {vs : List V} (h : H a = Option.some (.tup vs)) : a ∉ A := fun z => by
  obtain ⟨u, e, n, _⟩ := R.mem z
  rw [h] at e; cases e; exact n vs rfl
theorem SRel.not_frz (R : SRel G A H S) {a : Addr} {ob : Obj} {u : List V} (h : H a = Option.some (.frz ob (.lst u))) : a ∉ A := fun z => by
  obtain ⟨u', e, _, n⟩ := R.mem z
  rw [h] at e; cases e; exact n _ _ rfl
theorem SRel.notShut (R : SRel G A H S) {a : Addr} (h : H a = none) : a ∉ G.blk := fun z => (R.shut a z).1 h
theorem SRel.not_none (R : SRel G A H S) {a : Addr} (h : H a = none) : a ∉ A := fun z => by
  obtain ⟨u', e, _, n⟩ := R.mem z
  rw [h] at e; cases e

theorem Ext.refl : Ext A H A H := ⟨⟨[], by simp, by simp⟩, fun _ _ h _ => h⟩
theorem Ext.outR (E : Ext A H A' H') {a : Addr} {u : HO} (h : Rd H a u) (n : a ∉ A) : a ∉ A' := by
  obtain ⟨B, rfl, hB⟩ := E.pre
  intro z
  rcases List.mem_append.mp z with z | z
  · exact n z
  · rcases h with h | ⟨ob, h⟩ <;> (rw [hB a z] at h; cases h)
theorem Ext.out (E : Ext A H A' H') {a : Addr} {u : HO} (h : H a = Option.some u) (n : a ∉ A) : a ∉ A' := by
  obtain ⟨B, rfl, hB⟩ := E.pre
  intro z
  rcases List.mem_append.mp z with z | z
  · exact n z
  · rw [hB a z] at h; cases h
theorem Ext.ix (E : Ext A H A' H') {n : Nat} {a : Addr} (e : A[n]? = Option.some a) : A'[n]? = Option.some a := by
  obtain ⟨B, rfl, _⟩ := E.pre
  rw [List.getElem?_append_left]
  · exact e
  · rcases Nat.lt_or_ge n A.length with h | h
    · exact h
    · rw [List.getElem?_eq_none h] at e; cases e
mutual
theorem Rep.ext {G0 : Gx} (R : SRel G0 A H S) (E : Ext A H A' H') : ∀ {d : D} {v : V}, Rep G A H d v → Rep G A' H' d v
  | _, _, .non => .non
  | _, _, .bl b => .bl b
  | _, _, .int i => .int i
  | _, _, .str x => .str x
  | _, _, .ty n => .ty n
  | _, _, .own h => .own h
  | _, _, .exn h => .exn h
  | _, _, .ref h => .ref (E.ix h)
  | _, _, .tup h t => .tup (E.keep _ _ h (R.not_tup h)) (RepL.ext R E t)
  | _, _, .con h n m t => .con (E.keep _ _ h n) (E.out h n) m (RepL.ext R E t)
  | _, _, .cdic h n m t => .cdic (E.rd h n) (E.outR h n) m (RepL.ext R E t)
  | _, _, .cdit h n m t => .cdit (E.rd h n) (E.outR h n) m (RepL.ext R E t)
  | _, _, .cins g h n m t => .cins g (E.keep _ _ h n) (E.out h n) m (RepL.ext R E t)
  | _, _, .scr h t => .scr (by
      rcases h with ⟨ob, h⟩ | h
      · exact .inl ⟨ob, E.keep _ _ h (R.not_frz h)⟩
      · exact .inr h) (RepL.ext R E t)
theorem RepL.ext {G0 : Gx} (R : SRel G0 A H S) (E : Ext A H A' H') : ∀ {ds : List D} {vs : List V}, RepL G A H ds vs → RepL G A' H' ds vs
  | _, _, .nil => .nil
  | _, _, .cons r t => .cons (Rep.ext R E r) (RepL.ext R E t)
end
mutual
/-- more addresses are shut: none of those that stand -/
theorem Rep.wb {b : List Addr} (hb : ∀ a ∈ b, a ∈ G.blk ∨ H a = none) : ∀ {d : D} {v : V}, Rep G A H d v → Rep (G.wb b) A H d v
  | _, _, .non => .non
  | _, _, .bl b => .bl b
  | _, _, .int i => .int i
  | _, _, .str x => .str x
  | _, _, .ty n => .ty n
  | _, _, .own h => .own h
  | _, _, .exn h => .exn h
  | _, _, .ref h => .ref h
  | _, _, .tup h t => .tup h (RepL.wb hb t)
  | _, _, .con h n m t => .con h n (fun z => (hb _ z).elim m fun q => by rw [q] at h; cases h) (RepL.wb hb t)
  | _, _, .cdic h n m t => .cdic h n (fun z => (hb _ z).elim m fun q => by rcases h with h | ⟨ob, h⟩ <;> (rw [q] at h; cases h)) (RepL.wb hb t)
  | _, _, .cdit h n m t => .cdit h n (fun z => (hb _ z).elim m fun q => by rcases h with h | ⟨ob, h⟩ <;> (rw [q] at h; cases h)) (RepL.wb hb t)
  | _, _, .cins g h n m t => .cins g h n (fun z => (hb _ z).elim m fun q => by rw [q] at h; cases h) (RepL.wb hb t)
  | _, _, .scr h t => .scr h (RepL.wb hb t)
theorem RepL.wb {b : List Addr} (hb : ∀ a ∈ b, a ∈ G.blk ∨ H a = none) : ∀ {ds : List D} {vs : List V}, RepL G A H ds vs → RepL (G.wb b) A H ds vs
  | _, _, .nil => .nil
  | _, _, .cons r t => .cons (Rep.wb hb r) (RepL.wb hb t)
end
mutual
/-- fewer are shut -/
theorem Rep.bw {b : List Addr} (hb : ∀ a ∈ G.blk, a ∈ b) : ∀ {d : D} {v : V}, Rep (G.wb b) A H d v → Rep G A H d v
  | _, _, .non => .non
  | _, _, .bl b => .bl b
  | _, _, .int i => .int i
  | _, _, .str x => .str x
  | _, _, .ty n => .ty n
  | _, _, .own h => .own h
  | _, _, .exn h => .exn h
  | _, _, .ref h => .ref h
  | _, _, .tup h t => .tup h (RepL.bw hb t)
  | _, _, .con h n m t => .con h n (fun z => m (hb _ z)) (RepL.bw hb t)
  | _, _, .cdic h n m t => .cdic h n (fun z => m (hb _ z)) (RepL.bw hb t)
  | _, _, .cdit h n m t => .cdit h n (fun z => m (hb _ z)) (RepL.bw hb t)
  | _, _, .cins g h n m t => .cins g h n (fun z => m (hb _ z)) (RepL.bw hb t)
  | _, _, .scr h t => .scr h (RepL.bw hb t)
theorem RepL.bw {b : List Addr} (hb : ∀ a ∈ G.blk, a ∈ b) : ∀ {ds : List D} {vs : List V}, RepL (G.wb b) A H ds vs → RepL G A H ds vs
  | _, _, .nil => .nil
  | _, _, .cons r t => .cons (Rep.bw hb r) (RepL.bw hb t)
end
theorem ORep.wb {b : List Addr} (hb : ∀ a ∈ b, a ∈ G.blk ∨ H a = none) {a : Addr} {o : O} (h : ORep G A H a o) : ORep (G.wb b) A H a o := by
  cases o with
  | lst xs => obtain ⟨vs, e, q⟩ := h; exact ⟨vs, e, q.wb hb⟩
  | dic kvs => obtain ⟨vs, e, k, q⟩ := h; exact ⟨vs, e, k, q.wb hb⟩
  | ins c fs => obtain ⟨C, dx, vs, g, e, k, q⟩ := h; exact ⟨C, dx, vs, g, e, k, q.wb hb⟩
  | dit kvs => obtain ⟨vs, e, k, q⟩ := h; exact ⟨vs, e, k, q.wb hb⟩
  | lck kvs => obtain ⟨ob, vs, e, k, q⟩ := h; exact ⟨ob, vs, e, k, q.wb hb⟩
theorem ORep.bw {b : List Addr} (hb : ∀ a ∈ G.blk, a ∈ b) {a : Addr} {o : O} (h : ORep (G.wb b) A H a o) : ORep G A H a o := by
  cases o with
  | lst xs => obtain ⟨vs, e, q⟩ := h; exact ⟨vs, e, q.bw hb⟩
  | dic kvs => obtain ⟨vs, e, k, q⟩ := h; exact ⟨vs, e, k, q.bw hb⟩
  | ins c fs => obtain ⟨C, dx, vs, g, e, k, q⟩ := h; exact ⟨C, dx, vs, g, e, k, q.bw hb⟩
  | dit kvs => obtain ⟨vs, e, k, q⟩ := h; exact ⟨vs, e, k, q.bw hb⟩
  | lck kvs => obtain ⟨ob, vs, e, k, q⟩ := h; exact ⟨ob, vs, e, k, q.bw hb⟩
theorem SRel.bw {b : List Addr} (hb : ∀ a ∈ G.blk, a ∈ b) (R : SRel (G.wb b) A H S) : SRel G A H S :=
  ⟨R.len, R.nd, fun a h => R.shut a (hb a h), fun n o a h1 h2 => (R.obj n o a h1 h2).bw hb⟩
theorem ERel.wb {r : Env} {s : St} {b : List Addr} (hb : ∀ a ∈ b, a ∈ G.blk ∨ H a = none) (h : ERel G A H r s) : ERel (G.wb b) A H r s :=
  ⟨h.1, fun i d e => let ⟨v, e1, e2⟩ := h.2 i d e; ⟨v, e1, e2.wb hb⟩⟩
theorem ERel.ext {r : Env} {s : St} {G0 : Gx} (R : SRel G0 A H S) (E : Ext A H A' H') (h : ERel G A H r s) : ERel G A' H' r s :=
  ⟨h.1, fun i d e => let ⟨v, e1, e2⟩ := h.2 i d e; ⟨v, e1, e2.ext R E⟩⟩
theorem Ext.trans {G0 G1 : Gx} (R : SRel G0 A H S) (R1 : SRel G1 A1 H1 S') (E : Ext A H A1 H1) (E' : Ext A1 H1 A2 H2) : Ext A H A2 H2 := by
  obtain ⟨B, rfl, hB⟩ := E.pre
  obtain ⟨C, rfl, hC⟩ := E'.pre
  refine ⟨⟨B ++ C, by simp, fun b hb => ?_⟩, fun p o h n => E'.keep' p o (E.keep' p o h n) (n.imp (fun n z => ?_) id)⟩
  · rcases List.mem_append.mp hb with hb | hb
    · exact hB b hb
    · cases q : H b with
      | none => rfl
      | some u =>
        have z := hC b hb
        by_cases hA : b ∈ A
        · exact absurd z (by
            obtain ⟨w, e, _⟩ := R1.mem (List.mem_append_left _ hA)
            rw [e]; simp)
        · rw [E.keep b u q hA] at z; cases z
  · rcases List.mem_append.mp z with z | z
    · exact n z
    · rw [hB p z] at h; cases h

theorem ORep.mono {a : Addr} {o : O} {G0 : Gx} (R : SRel G0 A H S) (E : Ext A H A' H') (h : ORep G A H a o) (hk : H' a = H a) : ORep G A' H' a o := by
  cases o with
  | lst xs => obtain ⟨vs, e, q⟩ := h; exact ⟨vs, by rw [hk]; exact e, q.ext R E⟩
  | dic kvs => obtain ⟨vs, e, k, q⟩ := h; exact ⟨vs, by rw [hk]; exact e, k, q.ext R E⟩
  | ins c fs => obtain ⟨C, dx, vs, g, e, k, q⟩ := h; exact ⟨C, dx, vs, g, by rw [hk]; exact e, k, q.ext R E⟩
  | dit kvs => obtain ⟨vs, e, k, q⟩ := h; exact ⟨vs, by rw [hk]; exact e, k, q.ext R E⟩
  | lck kvs => obtain ⟨ob, vs, e, k, q⟩ := h; exact ⟨ob, vs, by rw [hk]; exact e, k, q.ext R E⟩

theorem ext_laid {p : Addr} {u : HO} (hp : H p = none) : Ext A H A (upd H p u) :=
  ⟨⟨[], by simp, by simp⟩, fun q o h _ => by rw [upd_ne (ne_of_none h hp)]; exact h⟩
theorem SRel.laid {p : Addr} {u : HO} (R : SRel G A H S) (hp : H p = none) : SRel G A (upd H p u) S :=
  ⟨R.len, R.nd, fun b hb => ⟨by rw [upd_ne fun z => (R.shut b hb).1 (by rw [z]; exact hp)]; exact (R.shut b hb).1, (R.shut b hb).2⟩, fun n o a h1 h2 => (R.obj n o a h1 h2).mono R (ext_laid hp) (by
    obtain ⟨w, e, _⟩ := (R.obj n o a h1 h2).there
    exact upd_ne (ne_of_none e hp))⟩
theorem SRel.laidShut {p : Addr} {u : HO} (R : SRel G A H S) (hp : H p = none) : SRel (G.wb (p :: G.blk)) A (upd H p u) S := by
  have hb : ∀ a ∈ p :: G.blk, a ∈ G.blk ∨ H a = none := fun a ha => (List.mem_cons.mp ha).elim (fun e => .inr (by rw [e]; exact hp)) .inl
  refine ⟨R.len, R.nd, fun b h => ?_, fun n o a h1 h2 => ((R.obj n o a h1 h2).wb hb).mono R (ext_laid hp) (by
    obtain ⟨w, e, _⟩ := (R.obj n o a h1 h2).there
    exact upd_ne (ne_of_none e hp))⟩
  rcases List.mem_cons.mp h with rfl | h
  · exact ⟨by rw [upd_same]; simp, R.not_none hp⟩
  · exact (R.laid (u := u) hp).shut b h
theorem ext_new {p : Addr} {u : HO} (hp : H p = none) : Ext A H (A ++ [p]) (upd H p u) :=
  ⟨⟨[p], rfl, fun b hb => by rw [List.mem_singleton.mp hb]; exact hp⟩, fun q o h _ => by rw [upd_ne (ne_of_none h hp)]; exact h⟩
theorem SRel.new {p : Addr} {u : HO} {o : O} (R : SRel G A H S) (hp : H p = none) (ho : ORep G (A ++ [p]) (upd H p u) p o) : SRel G (A ++ [p]) (upd H p u) (S ++ [o]) := by
  refine ⟨by simp [R.len], ?_, fun b hb => ?_, fun n o' a h1 h2 => ?_⟩
  rotate_left
  · have z : b ≠ p := fun z => (R.shut b hb).1 (by rw [z]; exact hp)
    exact ⟨by rw [upd_ne z]; exact (R.shut b hb).1, by simp [(R.shut b hb).2, z]⟩
  rotate_left
  · rw [List.nodup_append]
    refine ⟨R.nd, by simp, fun x hx y hy => ?_⟩
    rw [List.mem_singleton.mp hy]
    rintro rfl
    exact R.not_none hp hx
  · rcases Nat.lt_or_ge n S.length with hn | hn
    · rw [List.getElem?_append_left hn] at h1
      rw [List.getElem?_append_left (by rw [R.len]; exact hn)] at h2
      refine (R.obj n o' a h1 h2).mono R (ext_new hp) ?_
      obtain ⟨w, e, _⟩ := (R.obj n o' a h1 h2).there
      exact upd_ne (ne_of_none e hp)
    · rw [List.getElem?_append_right hn] at h1
      rw [List.getElem?_append_right (by rw [R.len]; exact hn), R.len] at h2
      have h3 : n - S.length = 0 := by
        rcases Nat.eq_zero_or_pos (n - S.length) with z | z
        · exact z
        · rw [List.getElem?_eq_none (show [o].length ≤ n - S.length from z)] at h1; cases h1
      rw [h3] at h1 h2
      simp at h1 h2
      subst h1 h2
      exact ho
theorem new_ix (R : SRel G A H S) (p : Addr) : (A ++ [p])[S.length]? = Option.some p := by
  rw [← R.len]; simp
theorem ext_put {n : Nat} {a : Addr} {u u0 : HO} (e : A[n]? = Option.some a) (h0 : H a = Option.some u0) (nf : isFz u0 = false) : Ext A H A (upd H a u) :=
  ⟨⟨[], by simp, by simp⟩, fun q o h hn => by
    rw [upd_ne fun z => hn.elim (fun hn => hn (by rw [z]; exact List.mem_iff_getElem?.mpr ⟨n, e⟩)) fun hf => by
      rw [z, h0] at h; cases h; rw [nf] at hf; cases hf]
    exact h⟩
theorem SRel.put {n : Nat} {a : Addr} {u u0 : HO} {o : O} (R : SRel G A H S) (e : A[n]? = Option.some a) (h0 : H a = Option.some u0) (nf : isFz u0 = false) (ho : ORep G A (upd H a u) a o) : SRel G A (upd H a u) (S.set n o) := by
  refine ⟨by simp [R.len], R.nd, fun b hb => ⟨by rw [upd_ne fun z => (R.shut b hb).2 (by rw [z]; exact List.mem_iff_getElem?.mpr ⟨n, e⟩)]; exact (R.shut b hb).1, (R.shut b hb).2⟩, fun m o' b h1 h2 => ?_⟩
  by_cases hm : n = m
  · subst hm
    have hl : n < S.length := by
      rcases Nat.lt_or_ge n S.length with h | h
      · exact h
      · rw [List.getElem?_eq_none (by rw [R.len]; exact h)] at e; cases e
    rw [List.getElem?_set_self hl] at h1
    cases h1
    rw [e] at h2; cases h2
    exact ho
  · rw [List.getElem?_set_ne hm] at h1
    refine (R.obj m o' b h1 h2).mono R (ext_put e h0 nf) ?_
    refine upd_ne fun z => hm ?_
    subst z
    have l1 : n < A.length := by
      rcases Nat.lt_or_ge n A.length with h | h
      · exact h
      · rw [List.getElem?_eq_none h] at e; cases e
    have l2 : m < A.length := by
      rcases Nat.lt_or_ge m A.length with h | h
      · exact h
      · rw [List.getElem?_eq_none h] at h2; cases h2
    exact (List.getElem?_inj l1 R.nd).mp (e.trans h2.symm)
structure Swp (a : Addr) (kvs : List (Key × V)) (H H' : Hp) : Prop where
  l : Rd H a (.dK kvs)
  r : Rd H' a (.dK kvs)
  e : ∀ p, p ≠ a → H' p = H p
theorem Swp.ne {a b : Addr} {kvs : List (Key × V)} {u : HO} (w : Swp a kvs H H') (h : H b = Option.some u) (h1 : ∀ k, u ≠ .dK k) (h2 : ∀ o k, u ≠ .frz o (.dK k)) : H' b = Option.some u := by
  rw [w.e b]
  · exact h
  · rintro rfl
    rcases w.l with z | ⟨o, z⟩ <;> (rw [h] at z; cases z)
    · exact h1 _ rfl
    · exact h2 _ _ rfl
theorem Swp.none {a b : Addr} {kvs : List (Key × V)} (w : Swp a kvs H H') (h : H b ≠ none) : H' b ≠ none := by
  by_cases e : b = a
  · subst e
    rcases w.r with z | ⟨o, z⟩ <;> (rw [z]; simp)
  · rw [w.e b e]; exact h
theorem Swp.rd {a b : Addr} {kvs : List (Key × V)} {u : HO} (w : Swp a kvs H H') (h : Rd H b u) (hu : isFz u = false) : Rd H' b u := by
  by_cases e : b = a
  · subst e
    have : u = .dK kvs := by
      rcases w.l with z | ⟨o, z⟩
      · rcases h with h | ⟨ob, h⟩
        · rw [z] at h; cases h; rfl
        · rw [z] at h; cases h
      · rcases h with h | ⟨ob, h⟩
        · rw [z] at h; cases h; cases hu
        · rw [z] at h; cases h; rfl
    subst this
    exact w.r
  · rcases h with h | ⟨ob, h⟩
    · exact .inl (by rw [w.e b e]; exact h)
    · exact .inr ⟨ob, by rw [w.e b e]; exact h⟩
mutual
theorem Rep.swap {a : Addr} {kvs : List (Key × V)} (w : Swp a kvs H H') : ∀ {d : D} {v : V}, Rep G A H d v → Rep G A H' d v
  | _, _, .non => .non
  | _, _, .bl b => .bl b
  | _, _, .int i => .int i
  | _, _, .str x => .str x
  | _, _, .ty n => .ty n
  | _, _, .own h => .own h
  | _, _, .exn h => .exn h
  | _, _, .ref h => .ref h
  | _, _, .tup h t => .tup (w.ne h (by simp) (by simp)) (RepL.swap w t)
  | _, _, .con h n m t => .con (w.ne h (by simp) (by simp)) n m (RepL.swap w t)
  | _, _, .cdic h n m t => .cdic (w.rd h rfl) n m (RepL.swap w t)
  | _, _, .cdit h n m t => .cdit (w.rd h rfl) n m (RepL.swap w t)
  | _, _, .cins g h n m t => .cins g (w.ne h (by simp) (by simp)) n m (RepL.swap w t)
  | _, _, .scr h t => .scr (by
      rcases h with ⟨ob, h⟩ | h
      · exact .inl ⟨ob, w.ne h (by simp) (by simp)⟩
      · exact .inr h) (RepL.swap w t)
theorem RepL.swap {a : Addr} {kvs : List (Key × V)} (w : Swp a kvs H H') : ∀ {ds : List D} {vs : List V}, RepL G A H ds vs → RepL G A H' ds vs
  | _, _, .nil => .nil
  | _, _, .cons r t => .cons (Rep.swap w r) (RepL.swap w t)
end
theorem ERel.swap {a : Addr} {kvs : List (Key × V)} (w : Swp a kvs H H') {r : Env} {s : St} (h : ERel G A H r s) : ERel G A H' r s :=
  ⟨h.1, fun i d e => let ⟨v, e1, e2⟩ := h.2 i d e; ⟨v, e1, e2.swap w⟩⟩
theorem ORep.swap {a b : Addr} {kvs : List (Key × V)} (w : Swp a kvs H H') (ne : b ≠ a) {o : O} (h : ORep G A H b o) : ORep G A H' b o := by
  have e' := w.e b ne
  cases o with
  | lst xs => obtain ⟨vs, e, q⟩ := h; exact ⟨vs, by rw [e']; exact e, q.swap w⟩
  | dic kvs => obtain ⟨vs, e, k, q⟩ := h; exact ⟨vs, by rw [e']; exact e, k, q.swap w⟩
  | ins c fs => obtain ⟨C, dx, vs, g, e, k, q⟩ := h; exact ⟨C, dx, vs, g, by rw [e']; exact e, k, q.swap w⟩
  | dit kvs => obtain ⟨vs, e, k, q⟩ := h; exact ⟨vs, by rw [e']; exact e, k, q.swap w⟩
  | lck kvs => obtain ⟨ob, vs, e, k, q⟩ := h; exact ⟨ob, vs, by rw [e']; exact e, k, q.swap w⟩
theorem SRel.swapOut {a : Addr} {kvs : List (Key × V)} (R : SRel G A H S) (w : Swp a kvs H H') (n : a ∉ A) : SRel G A H' S :=
  ⟨R.len, R.nd, fun b hb => ⟨w.none (R.shut b hb).1, (R.shut b hb).2⟩, fun m o b h1 h2 => (R.obj m o b h1 h2).swap w fun z => n (by rw [← z]; exact List.mem_iff_getElem?.mpr ⟨m, h2⟩)⟩
theorem SRel.swapIn {n : Nat} {a : Addr} {kvs : List (Key × V)} {o : O} (R : SRel G A H S) (w : Swp a kvs H H') (e : A[n]? = Option.some a) (ho : ORep G A H' a o) : SRel G A H' (S.set n o) := by
  refine ⟨by simp [R.len], R.nd, fun b hb => ⟨w.none (R.shut b hb).1, (R.shut b hb).2⟩, fun m o' b h1 h2 => ?_⟩
  by_cases hm : n = m
  · subst hm
    have hl : n < S.length := by
      rcases Nat.lt_or_ge n S.length with h | h
      · exact h
      · rw [List.getElem?_eq_none (by rw [R.len]; exact h)] at e; cases e
    rw [List.getElem?_set_self hl] at h1
    cases h1
    rw [e] at h2; cases h2
    exact ho
  · rw [List.getElem?_set_ne hm] at h1
    refine (R.obj m o' b h1 h2).swap w fun z => hm ?_
    subst z
    have l1 : n < A.length := by
      rcases Nat.lt_or_ge n A.length with h | h
      · exact h
      · rw [List.getElem?_eq_none h] at e; cases e
    exact (List.getElem?_inj l1 R.nd).mp (e.trans h2.symm)
end
end MP

namespace MP
open PySem L2

def Fin {α β : Type} (P : List Addr → Hp → α → β → Prop) (G : Gx) (A : List Addr) (H : Hp) (r : Res α) (Q : β → Hp → Prop) (E : XK) : Prop :=
  match r with
  | .ok d S' => ∀ A' H' v, Ext A H A' H' → SRel G A' H' S' → P A' H' d v → Q v H'
  | .exc c S' => ∀ A' H' C, Ext A H A' H' → SRel G A' H' S' → G.mg c = some (.ref C) → E (.ref C) none H'
  | .bad => False
abbrev FinE (G : Gx) := Fin (Rep G) G
abbrev FinA (G : Gx) := Fin (RepL G) G
section
variable {α β γ δ : Type} {P : List Addr → Hp → α → β → Prop} {P' : List Addr → Hp → γ → δ → Prop} {G : Gx} {A A1 : List Addr} {H H1 : Hp} {S S1 : Store} {E : XK}

theorem Fin.mono {r : Res α} {Q : β → Hp → Prop} (R : SRel G A H S) (R1 : SRel G A1 H1 S1) (X : Ext A H A1 H1) (h : Fin P G A H r Q E) : Fin P G A1 H1 r Q E := by
  cases r with
  | ok d S' => exact fun A' H' v e q p => h A' H' v (X.trans R R1 e) q p
  | exc c S' => exact fun A' H' C e q p => h A' H' C (X.trans R R1 e) q p
  | bad => exact h
theorem Fin.bind {r : Res α} {f : α → Store → Res γ} {Q : δ → Hp → Prop} {Q' : β → Hp → Prop} (R : SRel G A H S) (h : Fin P' G A H (r.bind f) Q E)
    (k : ∀ d S1 A1 H1 v, r = .ok d S1 → Ext A H A1 H1 → SRel G A1 H1 S1 → P A1 H1 d v → Fin P' G A1 H1 (f d S1) Q E → Q' v H1) : Fin P G A H r Q' E := by
  cases r with
  | ok d S' => exact fun A' H' v e q p => k d S' A' H' v rfl e q p (Fin.mono R q e h)
  | exc c S' => exact h
  | bad => exact h
theorem Fin.here {d : α} {v : β} {Q : β → Hp → Prop} (R : SRel G A H S) (h : Fin P G A H (.ok d S) Q E) (p : P A H d v) : Q v H := h A H v .refl R p
end

structure Xok (G : Gx) (X : Cx) (n : Nat) : Prop where
  K : X.K = G.K
  mg : X.mg = G.mg
  nd : X.N.Nodup
  dp : X.A.depth + 3 * (n + 1) + 5 < recursionLimit
  un : X.A.units + 16 * (n + 1) + 200 < cLine
  gd : X.A.guards = some []
theorem Xok.u64 {G : Gx} {X : Cx} {n : Nat} (h : Xok G X n) : X.A.units + 64 < cLine := by have := h.un; omega
theorem Xok.u0 {G : Gx} {X : Cx} {n : Nat} (h : Xok G X n) : X.A.units < cLine := by have := h.un; omega
theorem Xok.room {G : Gx} {X : Cx} {n : Nat} (h : Xok G X n) (hd : X.A.handled = none) : Room n X.A := ⟨hd, by have := h.dp; omega, by have := h.un; omega⟩
theorem Xok.room1 {G : Gx} {X : Cx} {n : Nat} (h : Xok G X n) (hd : X.A.handled = none) : Room (n + 1) X.A := ⟨hd, h.dp, h.un⟩

def SE (G : Gx) (X : Cx) (E : XK) (Γ : Cal) (c : C) (e : Expr) : Prop :=
  ∃ t, PE X e t ∧ ∀ r s A H S Q, ERel G A H r s → SRel G A H S → FinE G A H (evE Γ c r S) Q E → t s H Q
def SA (G : Gx) (X : Cx) (E : XK) (Γ : Cal) (c : C) (es : List Expr) : Prop :=
  ∃ t, PA X es t ∧ ∀ r s A H S Q, ERel G A H r s → SRel G A H S → FinA G A H (evA Γ c r S) Q E → t s H Q

section
variable {G : Gx} {X : Cx} {E : XK} {Γ : Cal} {n : Nat} {a b c : C} {ea eb ec : Expr} {pos : Pos}

theorem se_var {i : Nat} {x : Str} (hN : X.N[i]? = some x) (hv : Vis X.env.scope x) (hd : (x == ("__debug__" : Str)) = false) (hcd : (x == ("__classdict__" : Str)) = false) : SE G X E Γ (.var i) (.Name x pos) := by
  refine ⟨_, pe_var hN hv hd hcd, fun r s A H S Q er R h => ?_⟩
  simp only [evE] at h
  cases q : r[i]? with
  | none => rw [q] at h; exact h.elim
  | some o =>
    cases o with
    | none => rw [q] at h; exact h.elim
    | some d =>
      rw [q] at h
      obtain ⟨v, e1, e2⟩ := er.2 i d q
      exact ⟨v, e1, h.here R e2⟩
theorem se_int {i : Int} {j : Nat} : SE G X E Γ (.val (.int i)) (.Constant (.int i) j pos) := ⟨_, pe_int, fun r s A H S Q er R h => h.here R (.int i)⟩
theorem se_bl {i : Bool} {j : Nat} : SE G X E Γ (.val (.bl i)) (.Constant (.bool i) j pos) := ⟨_, pe_bl, fun r s A H S Q er R h => h.here R (.bl i)⟩
theorem se_non {j : Nat} : SE G X E Γ (.val .non) (.Constant .none j pos) := ⟨_, pe_non, fun r s A H S Q er R h => h.here R .non⟩
theorem se_str {i : Str} {j : Nat} : SE G X E Γ (.val (.str i)) (.Constant (.str i) j pos) := ⟨_, pe_str, fun r s A H S Q er R h => h.here R (.str i)⟩
theorem se_glo {x : Str} {i : Int} {t : Tok} (hg : Gl X x) (hm : X.mg x = some (.int i t)) (hd : (x == ("__debug__" : Str)) = false) : SE G X E Γ (.glo x (.int i)) (.Name x pos) :=
  ⟨_, pe_glob (v := .int i) hg hm ⟨t, rfl⟩ hd, fun r s A H S Q er R h => h.here R (.int i)⟩
theorem se_own {x : Str} {a : Addr} (hg : Gl X x) (hm : X.mg x = some (.ref a)) (hG : X.mg = G.mg) (hd : (x == ("__debug__" : Str)) = false) : SE G X E Γ (.glo x (.own x)) (.Name x pos) :=
  ⟨_, pe_glob (v := .ref a) hg hm rfl hd, fun r s A H S Q er R h => h.here R (.own (by rw [← hG]; exact hm))⟩
theorem se_bty {x : Str} {T : String} (hg : Gl X x) (hm : X.mg x = none) (hv : bootBuiltins x = some (.type T)) (hn : x ≠ "__name__") (hd : (x == ("__debug__" : Str)) = false) : SE G X E Γ (.bty T) (.Name x pos) :=
  ⟨_, pe_bltn (v := .ty T) hg hm hv rfl hn hd, fun r s A H S Q er R h => h.here R (.ty T)⟩

def OpOk (G : Gx) (r : R2) (g : D → D → Store → Res D) : Prop :=
  ∀ A H S x y v u Q E, SRel G A H S → Rep G A H x v → Rep G A H y u → FinE G A H (g x y S) Q E → r v u H Q
theorem se_bin2 {q : Bool} {op : Operator} {r : R2} (ho : OpR X (binaryOp op) r) (hk : OpOk G r (binD q op)) (ha : SE G X E Γ a ea) (hb : SE G X E Γ b eb) : SE G X E Γ (.bin q op a b) (.BinOp ea op eb pos) := by
  obtain ⟨ta, pa, qa⟩ := ha
  obtain ⟨tb, pb, qb⟩ := hb
  refine ⟨_, pe_op ho pa pb, fun r s A H S Q er R h => ?_⟩
  simp only [evE] at h
  refine qa r s A H S _ er R (h.bind R fun x S1 A1 H1 v _ e1 R1 p1 h1 => ?_)
  refine qb r s A1 H1 S1 _ (er.ext R e1) R1 (h1.bind R1 fun y S2 A2 H2 u _ e2 R2 p2 h2 => ?_)
  exact hk A2 H2 S2 x y v u Q E R2 (p1.ext R1 e2) p2 h2
theorem se_cmp2 {op : CmpOp} {r : R2} (ho : OpR X (compareOp op) r) (hk : OpOk G r (cmpD op)) (hm : behindInMarks op eb = false) (ha : SE G X E Γ a ea) (hb : SE G X E Γ b eb) : SE G X E Γ (.cmp op a b) (.Compare ea [op] [eb] pos) := by
  obtain ⟨ta, pa, qa⟩ := ha
  obtain ⟨tb, pb, qb⟩ := hb
  refine ⟨_, pe_cmpR ho pa pb hm, fun r s A H S Q er R h => ?_⟩
  simp only [evE] at h
  refine qa r s A H S _ er R (h.bind R fun x S1 A1 H1 v _ e1 R1 p1 h1 => ?_)
  refine qb r s A1 H1 S1 _ (er.ext R e1) R1 (h1.bind R1 fun y S2 A2 H2 u _ e2 R2 p2 h2 => ?_)
  exact hk A2 H2 S2 x y v u Q E R2 (p1.ext R1 e2) p2 h2
end
end MP

namespace MP
open PySem L2

section
variable {G : Gx} {A : List Addr} {H : Hp} {S : Store}
theorem rep_int {i : Int} {v : V} (h : Rep G A H (.int i) v) : v = .int i := by cases h; rfl
theorem rep_bl {i : Bool} {v : V} (h : Rep G A H (.bl i) v) : v = .bl i := by cases h; rfl
theorem rep_str {i : Str} {v : V} (h : Rep G A H (.str i) v) : v = .str i := by cases h; rfl
theorem rep_tup {xs : List D} {v : V} (h : Rep G A H (.tup xs) v) : ∃ a vs, v = .ref a ∧ H a = some (.tup vs) ∧ RepL G A H xs vs := by
  cases h with
  | tup h t => exact ⟨_, _, rfl, h, t⟩
theorem rep_ref {n : Nat} {v : V} (h : Rep G A H (.ref n) v) : ∃ a, v = .ref a ∧ A[n]? = some a := by
  cases h with
  | ref h => exact ⟨_, rfl, h⟩
theorem rep_lst {n : Nat} {v : V} {xs : List D} (R : SRel G A H S) (h : Rep G A H (.ref n) v) (e : S[n]? = some (.lst xs)) : ∃ a vs, v = .ref a ∧ A[n]? = some a ∧ H a = some (.lst vs) ∧ RepL G A H xs vs := by
  obtain ⟨a, rfl, h1⟩ := rep_ref h
  obtain ⟨vs, h2, h3⟩ := R.obj n _ a e h1
  exact ⟨a, vs, rfl, h1, h2, h3⟩
theorem rep_dic {n : Nat} {v : V} {kvs : List (Key × D)} (R : SRel G A H S) (h : Rep G A H (.ref n) v) (e : S[n]? = some (.dic kvs)) : ∃ (a : Addr) (vs : List (Key × V)), v = .ref a ∧ A[n]? = some a ∧ H a = some (.dK vs) ∧ kvs.map (·.1) = vs.map (·.1) ∧ RepL G A H (kvs.map (·.2)) (vs.map (·.2)) := by
  obtain ⟨a, rfl, h1⟩ := rep_ref h
  obtain ⟨vs, h2, h3, h4⟩ := R.obj n _ a e h1
  exact ⟨a, vs, rfl, h1, h2, h3, h4⟩
theorem lstOf_rep {d : D} {v : V} {xs : List D} (R : SRel G A H S) (h : Rep G A H d v) (e : lstOf S d = some xs) : ∃ a vs, v = .ref a ∧ SqL G.K H a vs ∧ RepL G A H xs vs := by
  cases d with
  | con ys =>
    simp only [lstOf] at e
    cases e
    cases h with
    | con h _ _ t => exact ⟨_, _, rfl, .of h, t⟩
  | scr ys =>
    simp only [lstOf] at e
    cases e
    cases h with
    | scr h t => exact ⟨_, _, rfl, h.sq, t⟩
  | ref n =>
    simp only [lstOf] at e
    split at e
    · rename_i ys q
      cases e
      obtain ⟨a, vs, rfl, _, h2, h3⟩ := rep_lst R h q
      exact ⟨a, vs, rfl, .of h2, h3⟩
    · cases e
  | _ => simp [lstOf] at e
theorem plOf_rep {d : D} {v : V} {xs : List D} (R : SRel G A H S) (h : Rep G A H d v) (e : plOf S d = some xs) : ∃ a vs, v = .ref a ∧ H a = some (.lst vs) ∧ RepL G A H xs vs := by
  cases d with
  | con ys =>
    simp only [plOf] at e
    cases e
    cases h with
    | con h _ _ t => exact ⟨_, _, rfl, h, t⟩
  | ref n =>
    simp only [plOf] at e
    split at e
    · rename_i ys q
      cases e
      obtain ⟨a, vs, rfl, _, h2, h3⟩ := rep_lst R h q
      exact ⟨a, vs, rfl, h2, h3⟩
    · cases e
  | _ => simp [plOf] at e
theorem seqOf_rep {d : D} {v : V} {xs : List D} (R : SRel G A H S) (h : Rep G A H d v) (e : seqOf S d = some xs) : ∃ a vs, v = .ref a ∧ (SqL G.K H a vs ∨ SqT G.K H a vs) ∧ RepL G A H xs vs := by
  cases d with
  | tup ys =>
    simp only [seqOf] at e
    cases e
    obtain ⟨a, vs, rfl, h1, h2⟩ := rep_tup h
    exact ⟨a, vs, rfl, .inr (.of h1), h2⟩
  | con ys =>
    obtain ⟨a, vs, h1, h2, h3⟩ := lstOf_rep (xs := xs) R h (by simpa [lstOf, seqOf] using e)
    exact ⟨a, vs, h1, .inl h2, h3⟩
  | scr ys =>
    obtain ⟨a, vs, h1, h2, h3⟩ := lstOf_rep (xs := xs) R h (by simpa [lstOf, seqOf] using e)
    exact ⟨a, vs, h1, .inl h2, h3⟩
  | ref n =>
    obtain ⟨a, vs, h1, h2, h3⟩ := lstOf_rep (xs := xs) R h (by simpa [lstOf, seqOf] using e)
    exact ⟨a, vs, h1, .inl h2, h3⟩
  | _ => simp [seqOf] at e
theorem dictOf_rep {d : D} {v : V} {kvs : List (Key × D)} (R : SRel G A H S) (h : Rep G A H d v) (e : dictOf S d = some kvs) : ∃ (a : Addr) (vs : List (Key × V)), v = .ref a ∧ Rd H a (.dK vs) ∧ kvs.map (·.1) = vs.map (·.1) ∧ RepL G A H (kvs.map (·.2)) (vs.map (·.2)) := by
  cases d with
  | ref n =>
    simp only [dictOf] at e
    split at e
    · rename_i ys q
      cases e
      obtain ⟨a, vs, h1, _, h3, h4⟩ := rep_dic R h q
      exact ⟨a, vs, h1, .inl h3, h4⟩
    · rename_i ys q
      cases e
      obtain ⟨a, rfl, h1⟩ := rep_ref h
      obtain ⟨ob, vs, h2, h3, h4⟩ := R.obj n _ a q h1
      exact ⟨a, vs, rfl, .inr ⟨ob, h2⟩, h3, h4⟩
    · cases e
  | cdic ks ds =>
    simp only [dictOf] at e
    cases e
    cases h with
    | @cdic a kvs _ h _ _ t =>
      have l := t.length
      have l' : (kvs.map (·.1)).length = ds.length := by rw [l]; simp
      refine ⟨_, kvs, rfl, h, ?_, ?_⟩
      · exact List.map_fst_zip (Nat.le_of_eq l')
      · rw [show ((kvs.map (·.1)).zip ds).map (·.2) = ds from List.map_snd_zip (Nat.le_of_eq l'.symm)]; exact t
  | _ => simp [dictOf] at e
theorem dictTOf_rep {d : D} {v : V} {kvs : List (List Key × D)} (R : SRel G A H S) (h : Rep G A H d v) (e : dictTOf S d = some kvs) : ∃ (a : Addr) (vs : List (List Key × V)), v = .ref a ∧ Rd H a (.dT vs) ∧ kvs.map (·.1) = vs.map (·.1) ∧ RepL G A H (kvs.map (·.2)) (vs.map (·.2)) := by
  cases d with
  | ref n =>
    simp only [dictTOf] at e
    split at e
    · rename_i ys q
      cases e
      obtain ⟨a, rfl, h1⟩ := rep_ref h
      obtain ⟨vs, h2, h3, h4⟩ := R.obj n _ a q h1
      exact ⟨a, vs, rfl, .inl h2, h3, h4⟩
    · cases e
  | cdit ks ds =>
    simp only [dictTOf] at e
    cases e
    cases h with
    | @cdit a kvs _ h _ _ t =>
      have l := t.length
      have l' : (kvs.map (·.1)).length = ds.length := by rw [l]; simp
      refine ⟨_, kvs, rfl, h, ?_, ?_⟩
      · exact List.map_fst_zip (Nat.le_of_eq l')
      · rw [show ((kvs.map (·.1)).zip ds).map (·.2) = ds from List.map_snd_zip (Nat.le_of_eq l'.symm)]; exact t
  | _ => simp [dictTOf] at e
theorem insOf_rep {c : Nat} {d : D} {v : V} {fs : List (Str × D)} (R : SRel G A H S) (h : Rep G A H d v) (e : insOf S c d = some fs) : ∃ (a C dx : Addr) (vs : List (Str × V)), v = .ref a ∧ G.mg (clsName c) = some (.ref C) ∧ H a = some (.ins C dx vs) ∧ fs.map (·.1) = vs.map (·.1) ∧ RepL G A H (fs.map (·.2)) (vs.map (·.2)) := by
  cases d with
  | ref n =>
    simp only [insOf] at e
    split at e
    · rename_i ys q
      split at e
      · rename_i hc
        cases e
        subst hc
        obtain ⟨a, rfl, h1⟩ := rep_ref h
        obtain ⟨C, dx, vs, h2, h3, h4, h5⟩ := R.obj n _ a q h1
        exact ⟨a, C, dx, vs, rfl, h2, h3, h4, h5⟩
      · cases e
    · cases e
  | cins c' ns ds =>
    simp only [insOf] at e
    split at e
    · rename_i hc
      cases e
      subst hc
      cases h with
      | @cins _ a C dx fs _ g h _ _ t =>
        have l := t.length
        have l' : (fs.map (·.1)).length = ds.length := by rw [l]; simp
        refine ⟨_, C, dx, fs, rfl, g, h, ?_, ?_⟩
        · exact List.map_fst_zip (Nat.le_of_eq l')
        · rw [show ((fs.map (·.1)).zip ds).map (·.2) = ds from List.map_snd_zip (Nat.le_of_eq l'.symm)]; exact t
    · cases e
  | _ => simp [insOf] at e
theorem keysOf_rep : ∀ {xs : List D} {vs : List V} {ks : List Key}, RepL G A H xs vs → keysOf xs = some ks → vs = ks.map kV
  | _, _, _, .nil, e => by simp [keysOf] at e; subst e; rfl
  | _, _, ks, .cons (d := d) r t, e => by
    cases d with
    | int i =>
      simp only [keysOf, Option.map_eq_some_iff] at e
      obtain ⟨ms, e1, rfl⟩ := e
      rw [rep_int r, keysOf_rep t e1]; rfl
    | str i =>
      simp only [keysOf, Option.map_eq_some_iff] at e
      obtain ⟨ms, e1, rfl⟩ := e
      rw [rep_str r, keysOf_rep t e1]; rfl
    | _ => simp [keysOf] at e
theorem keyT_rep {d : D} {v : V} {k : List Key} (h : Rep G A H d v) (e : keyT d = some k) : ∃ b, v = .ref b ∧ H b = some (.tup (k.map kV)) := by
  cases d with
  | tup xs =>
    obtain ⟨a, vs, rfl, h1, h2⟩ := rep_tup h
    simp only [keyT] at e
    rw [keysOf_rep h2 e] at h1
    exact ⟨a, rfl, h1⟩
  | _ => simp [keyT] at e
theorem kD_rep (k : Key) : Rep G A H (kD k) (kV k) := by
  cases k with
  | inl i => exact .int i
  | inr x => exact .str x
theorem kDs_rep : ∀ ks : List Key, RepL G A H (ks.map kD) (ks.map kV)
  | [] => .nil
  | k :: ks => .cons (kD_rep k) (kDs_rep ks)
theorem intsOf_rep : ∀ {xs : List D} {vs : List V} {ns : List Int}, RepL G A H xs vs → intsOf xs = some ns → vs = ns.map V.int
  | _, _, _, .nil, e => by simp [intsOf] at e; subst e; rfl
  | _, _, ns, .cons (d := d) r t, e => by
    cases d with
    | int i =>
      simp only [intsOf, Option.map_eq_some_iff] at e
      obtain ⟨ms, e1, rfl⟩ := e
      rw [rep_int r, intsOf_rep t e1]; rfl
    | _ => simp [intsOf] at e
theorem blsOf_rep : ∀ {xs : List D} {vs : List V} {ns : List Bool}, RepL G A H xs vs → blsOf xs = some ns → vs = ns.map V.bl
  | _, _, _, .nil, e => by simp [blsOf] at e; subst e; rfl
  | _, _, ns, .cons (d := d) r t, e => by
    cases d with
    | bl i =>
      simp only [blsOf, Option.map_eq_some_iff] at e
      obtain ⟨ms, e1, rfl⟩ := e
      rw [rep_bl r, blsOf_rep t e1]; rfl
    | _ => simp [blsOf] at e
theorem fin_tup {xs : List D} {vs : List V} {Q : VK} {E : XK} (R : SRel G A H S) (h : FinE G A H (.ok (.tup xs) S) Q E) (r : RepL G A H xs vs) (p : Addr) (hp : H p = none) : Q (.ref p) (upd H p (.tup vs)) :=
  h A _ _ (ext_laid hp) (R.laid hp) (.tup upd_same (r.ext R (ext_laid hp)))
theorem fin_lst {q : Bool} {xs : List D} {vs : List V} {Q : VK} {E : XK} (R : SRel G A H S) (h : FinE G A H (newL q xs S) Q E) (r : RepL G A H xs vs) (p : Addr) (hp : H p = none) : Q (.ref p) (upd H p (.lst vs)) := by
  cases q with
  | false => exact h (A ++ [p]) _ _ (ext_new hp) (R.new hp ⟨vs, upd_same, r.ext R (ext_new hp)⟩) (.ref (new_ix R p))
  | true => exact h A _ _ (ext_laid hp) (R.laid hp) (.con upd_same (R.not_none hp) (R.notShut hp) (r.ext R (ext_laid hp)))
theorem lim_eq : lim = sizeLine := by rw [sizeLine_eq]; rfl
end

theorem op_false {X : Cx} {f : Value → Value → Sem Value} : OpR X f (fun _ _ _ _ => False) := fun _ _ _ _ _ _ _ _ _ _ _ _ h => h.elim
section
variable {G : Gx} {X : Cx} {n : Nat} {q : Bool}
theorem bin_add (xo : Xok G X n) : ∃ r, OpR X (binaryOp .Add) r ∧ OpOk G r (binD q .Add) := by
  refine ⟨_, op_add.or (op_catA.or (op_add_str.or op_cat)), fun A H S x y v u Q E R hx hy h => ?_⟩
  simp only [binD] at h
  unfold addD at h
  split at h
  · split at h
    · rw [rep_int hx, rep_int hy]
      exact .inl ⟨_, _, rfl, rfl, h.here R (.int _)⟩
    · exact h.elim
  · rename_i xs
    split at h
    · rename_i ys
      split at h
      · rename_i hl
        obtain ⟨a, vs, rfl, h1, h2⟩ := rep_tup hx
        obtain ⟨b, ws, rfl, h3, h4⟩ := rep_tup hy
        have l1 := h2.length
        have l2 := h4.length
        refine .inr (.inl ⟨a, b, vs, ws, rfl, rfl, .of h1, .of h3, by rw [← lim_eq]; omega, fun e => ?_, fun e e' => ?_, fun e e' p hp => fin_tup R h (h2.append h4) p hp⟩)
        · subst e
          have : xs = [] := List.length_eq_zero_iff.mp (by simpa using l1)
          subst this
          exact h.here R hy
        · subst e'
          have : ys = [] := List.length_eq_zero_iff.mp (by simpa using l2)
          subst this
          rw [List.append_nil] at h
          exact h.here R hx
      · exact h.elim
    · exact h.elim
  · split at h
    · rw [rep_str hx, rep_str hy]
      split at h
      · rename_i hl
        exact .inr (.inr (.inl ⟨_, _, rfl, rfl, by rw [← lim_eq]; exact hl, h.here R (.str _)⟩))
      · exact h.elim
    · exact h.elim
  · split at h
    · rename_i xs ys e1 e2
      split at h
      · rename_i hl
        obtain ⟨a, vs, rfl, h1, h2⟩ := plOf_rep R hx e1
        obtain ⟨b, ws, rfl, h3, h4⟩ := plOf_rep R hy e2
        have l1 := h2.length
        have l2 := h4.length
        exact .inr (.inr (.inr ⟨a, b, vs, ws, rfl, rfl, h1, h3, by rw [← lim_eq]; omega, fun p hp => fin_lst R h (h2.append h4) p hp⟩))
      · exact h.elim
    · exact h.elim
theorem bin_sub (xo : Xok G X n) : ∃ r, OpR X (binaryOp .Sub) r ∧ OpOk G r (binD q .Sub) := by
  refine ⟨_, op_sub, fun A H S x y v u Q E R hx hy h => ?_⟩
  cases x <;> try exact h.elim
  case int i =>
    cases y <;> try exact h.elim
    case int j =>
      rw [rep_int hx, rep_int hy]
      exact ⟨i, j, rfl, rfl, h.here R (.int _)⟩
theorem mulOk_c {i j : Int} (h : mulOk i j = true) : CMul i j := by
  unfold mulOk p64 at h
  unfold CMul
  simp only [Bool.or_eq_true, Bool.and_eq_true, decide_eq_true_eq] at h
  have e : (2 : Int) ^ 64 = 18446744073709551616 := by decide
  rw [e]
  exact h
theorem bin_mul (xo : Xok G X n) : ∃ r, OpR X (binaryOp .Mult) r ∧ OpOk G r (binD q .Mult) := by
  refine ⟨_, op_mul.or (op_repT.or op_rep), fun A H S x y v u Q E R hx hy h => ?_⟩
  simp only [binD] at h
  unfold mulD at h
  split at h
  · rename_i k
    rw [rep_int hy]
    split at h
    · split at h
      · rename_i hc
        rw [rep_int hx]
        exact .inl ⟨_, _, rfl, rfl, mulOk_c hc, h.here R (.int _)⟩
      · exact h.elim
    · rename_i xs
      split at h
      · rename_i hc
        obtain ⟨c1, c2, c3, c4⟩ := hc
        obtain ⟨a, vs, rfl, h1, h2⟩ := rep_tup hx
        have l1 := h2.length
        refine .inr (.inl ⟨a, k, vs, rfl, rfl, by rw [xo.K]; exact .of h1, fun e => ?_, c2, c3, by omega, fun p hp => fin_tup R h (h2.flat _) p hp⟩)
        subst e
        exact c1 (List.length_eq_zero_iff.mp (by simpa using l1))
      · exact h.elim
    · split at h
      · rename_i xs e1
        split at h
        · rename_i hc
          obtain ⟨c2, c3, c4⟩ := hc
          obtain ⟨a, vs, rfl, h1, h2⟩ := plOf_rep R hx e1
          have l1 := h2.length
          refine .inr (.inr ⟨a, k, vs, rfl, rfl, h1, by omega, by omega, ?_, fun p hp => fin_lst R h (h2.flat _) p hp⟩)
          rw [sizeLine_eq]
          have : vs.length * k.toNat ≤ 1000 * 1000 := Nat.mul_le_mul (by omega) (by omega)
          omega
        · exact h.elim
      · exact h.elim
  · exact h.elim
theorem divTop_log {j : Int} (h1 : 0 < j) (h2 : j < divTop) : j.natAbs.log2 < 9000 := by
  have h3 : (10 : Int) ^ 100 ≤ 2 ^ 400 := by decide +kernel
  have h4 : j < 2 ^ 400 := Int.lt_of_lt_of_le h2 h3
  have h5 : j.natAbs < 2 ^ 400 := by
    have e : ((j.natAbs : Nat) : Int) = j := by omega
    have : ((j.natAbs : Nat) : Int) < ((2 ^ 400 : Nat) : Int) := by rw [e]; push_cast; exact h4
    exact Int.ofNat_lt.mp this
  have h6 : j.natAbs.log2 < 400 := (Nat.log2_lt (by omega)).mpr h5
  omega
theorem op_fdivW {X : Cx} : OpR X (binaryOp .FloorDiv) (rI (fun _ j => 0 < j ∧ j < divTop) fun i j => .int (i / j)) := opI fun i j _ _ _ _ _ hc q => by
  have h1 : (0 : Int) < j := hc.1
  exact PyProof.Rows.floordiv_int (by omega) (by rw [Int.fdiv_eq_ediv_of_nonneg i (by omega)]; exact q) (.inl (PyProof.noPylong_of_log2 (divTop_log hc.1 hc.2)))
theorem bin_div (xo : Xok G X n) : ∃ r, OpR X (binaryOp .FloorDiv) r ∧ OpOk G r (binD q .FloorDiv) := by
  refine ⟨_, op_fdivW, fun A H S x y v u Q E R hx hy h => ?_⟩
  cases x <;> try exact h.elim
  case int i =>
    cases y <;> try exact h.elim
    case int j =>
      simp only [binD] at h
      split at h
      · rename_i hc
        rw [rep_int hx, rep_int hy]
        exact ⟨i, j, rfl, rfl, hc, h.here R (.int _)⟩
      · exact h.elim
theorem bin_mod (xo : Xok G X n) : ∃ r, OpR X (binaryOp .Mod) r ∧ OpOk G r (binD q .Mod) := by
  refine ⟨_, op_mod, fun A H S x y v u Q E R hx hy h => ?_⟩
  cases x <;> try exact h.elim
  case int i =>
    cases y <;> try exact h.elim
    case int j =>
      simp only [binD] at h
      split at h
      · rename_i hc
        rw [rep_int hx, rep_int hy]
        exact ⟨i, j, rfl, rfl, hc, h.here R (.int _)⟩
      · exact h.elim
theorem bin_pow (xo : Xok G X n) : ∃ r, OpR X (binaryOp .Pow) r ∧ OpOk G r (binD q .Pow) := by
  refine ⟨_, op_pow, fun A H S x y v u Q E R hx hy h => ?_⟩
  cases x <;> try exact h.elim
  case int i =>
    cases y <;> try exact h.elim
    case int j =>
      simp only [binD] at h
      split at h
      · rename_i hc
        rw [rep_int hx, rep_int hy]
        exact ⟨i, j, rfl, rfl, ⟨hc.1, by omega, by omega⟩, h.here R (.int _)⟩
      · exact h.elim
theorem bin_ok (xo : Xok G X n) (op : Operator) : ∃ r, OpR X (binaryOp op) r ∧ OpOk G r (binD q op) := by
  cases op with
  | Add => exact bin_add xo
  | Sub => exact bin_sub xo
  | Mult => exact bin_mul xo
  | FloorDiv => exact bin_div xo
  | Mod => exact bin_mod xo
  | Pow => exact bin_pow xo
  | _ => exact ⟨_, op_false, fun A H S x y v u Q E R hx hy h => by cases x <;> cases y <;> exact h.elim⟩
end
end MP

namespace MP
open PySem L2

theorem mapM_some {α β : Type} {g : α → Option β} : ∀ {xs : List α} {ps : List β}, xs.mapM g = some ps → Paired (fun x p => g x = some p) xs ps
  | [], ps, h => by simp at h; subst h; exact .nil
  | x :: xs, ps, h => by
    rw [List.mapM_cons] at h
    cases e : g x with
    | none => rw [e] at h; cases h
    | some p =>
      rw [e] at h
      cases e2 : xs.mapM g with
      | none => rw [e2] at h; cases h
      | some qs =>
        rw [e2] at h
        cases h
        exact .cons e (mapM_some e2)

def SmOk (base : Heap) : Prop := ∃ o es n, base.get? sysModules = some o ∧ o.data = .dict es n
section
variable {G : Gx} {X : Cx} {A : List Addr} {H : Hp} {S : Store} {pins : List (Addr × Obj)} {σ : St} {s : Shared}

theorem not_sm {a : Addr} {u : HO} (sm : SmOk X.base) (I : Inv X pins σ H s) (h : H a = some u) : sysModules ≠ a := by
  obtain ⟨o, es, n, h1, _⟩ := sm
  intro z
  have := (I.bs _ _ h1).2
  rw [z, h] at this
  cases this
theorem readsAll_of {g : D → Option PyData} (hg : ∀ d p v u, g d = some p → Rep G A H d v → RelV v u → ∃ as, Reads s.heap u p as ∧ sysModules ∉ as) :
    ∀ {ds : List D} {ps : List PyData} {vs : List V} {us : List Value}, Paired (fun x p => g x = some p) ds ps → RepL G A H ds vs → Vals vs us → ∃ as, ReadsAll s.heap us ps as ∧ sysModules ∉ as
  | _, _, _, _, .nil, .nil, .nil => ⟨[], .nil, by simp⟩
  | _, _, _, _, .cons e t, .cons r rt, .cons v vt => by
    obtain ⟨as, h1, h2⟩ := hg _ _ _ _ e r v
    obtain ⟨bs, h3, h4⟩ := readsAll_of hg t rt vt
    exact ⟨as ++ bs, .cons h1 h3, by simp [h2, h4]⟩
theorem paired_map {α β γ δ : Type} {P : α → β → Prop} {Q : γ → δ → Prop} (f : α → γ) (g : β → δ) (h : ∀ a b, P a b → Q (f a) (g b)) : ∀ {xs : List α} {ys : List β}, Paired P xs ys → Paired Q (xs.map f) (ys.map g)
  | _, _, .nil => .nil
  | _, _, .cons r t => .cons (h _ _ r) (paired_map f g h t)
theorem keys_read {knd : List (Key × Value)} : ∀ {es : List DictEntry} {kvs : List (Key × Value)}, Pairs (mixKind X.prog X.w) es kvs → ReadsAll s.heap (es.map (·.key)) (kvs.map fun kv => kP kv.1) []
  | _, _, .nil => .nil
  | _, _, .cons (kv := kv) h1 h2 t => by
    have ih := keys_read (knd := knd) t
    have z : keyIs kv.1 _ = true := h1
    rcases keyIs_shape z with ⟨i, t', e1, e2⟩ | ⟨x, t', e1, e2⟩
    · rw [List.map_cons, List.map_cons, e1, e2]
      exact ReadsAll.cons (as := []) (.int i t') ih
    · rw [List.map_cons, List.map_cons, e1, e2]
      exact ReadsAll.cons (as := []) (.str x t') ih
theorem vals_pairs : ∀ {es : List DictEntry} {kvs : List (Key × Value)}, Pairs (mixKind X.prog X.w) es kvs → es.map (·.val) = kvs.map (·.2)
  | _, _, .nil => rfl
  | _, _, .cons h1 h2 t => by rw [List.map_cons, List.map_cons, h2, vals_pairs t]
theorem kv_keys : ∀ {vs : List (Key × V)} {ws : List (Key × Value)}, KV vs ws → vs.map (·.1) = ws.map (·.1) ∧ Vals (vs.map (·.2)) (ws.map (·.2))
  | _, _, .nil => ⟨rfl, .nil⟩
  | _, _, .cons r t => by
    obtain ⟨h1, h2⟩ := kv_keys t
    exact ⟨by rw [List.map_cons, List.map_cons, h1, r.1], .cons r.2 h2⟩

theorem toPy_reads (sm : SmOk X.base) (hK : X.K = G.K) (I : Inv X pins σ H s) (R : SRel G A H S) : ∀ (f : Nat) (d : D) (p : PyData) (v : V) (u : Value), toPy S f d = some p → Rep G A H d v → RelV v u → ∃ as, Reads s.heap u p as ∧ sysModules ∉ as := by
  have flat : ∀ (d : D) (p : PyData) (v : V) (u : Value), isFlat d = true → (∀ f, toPy S f d = some p) → Rep G A H d v → RelV v u → ∃ as, Reads s.heap u p as ∧ sysModules ∉ as := by
    intro d p v u hf e r rv
    have e := e 0
    cases r with
    | non => cases e; cases rv; exact ⟨[], .none, by simp⟩
    | bl b => cases e; cases rv; exact ⟨[], .bool b, by simp⟩
    | int i => cases e; obtain ⟨t, rfl⟩ := rv; exact ⟨[], .int i t, by simp⟩
    | str x => cases e; obtain ⟨t, rfl⟩ := rv; exact ⟨[], .str x t, by simp⟩
    | _ => cases hf
  intro f
  induction f with
  | zero =>
    intro d p v u e r rv
    cases d <;> first | exact flat _ _ _ _ rfl (fun f => by cases f <;> exact e) r rv | cases e
  | succ f ih =>
    intro d p v u e r rv
    have seq : ∀ {xs : List D} {ps : List PyData} {a : Addr} {vs : List V}, xs.mapM (toPy S f) = some ps → SqL G.K H a vs → (H a ≠ none ∨ ∃ o, G.K.lookup a = some o ∧ o.cls = .type "list") → RepL G A H xs vs → ∃ as, Reads s.heap (.ref a) (.list ps) as ∧ sysModules ∉ as := by
      intro xs ps a vs e1 hq hn hr
      obtain ⟨its, rvs, ⟨o, n, h1, h2, _, h3⟩, _⟩ := I.list (by rw [hK]; exact hq)
      obtain ⟨as, q1, q2⟩ := readsAll_of ih (mapM_some e1) hr rvs
      refine ⟨a :: as, .list h1 h2 h3 (by simpa using q1), ?_⟩
      simp only [List.mem_cons, not_or]
      refine ⟨?_, q2⟩
      rcases hn with hn | ⟨o', hk, hc⟩
      · cases q : H a with
        | none => exact absurd q hn
        | some w => exact not_sm sm I q
      · obtain ⟨ob, es, m, b1, b2⟩ := sm
        intro z
        have z1 := I.mod.kin a o' (by rw [hK]; exact hk)
        rw [← z, b1] at z1
        cases z1
        have y1 := I.bk _ _ b1
        rw [z, h1] at y1
        cases y1
        rw [h3] at b2
        cases b2
    have dic : ∀ {kvs : List (Key × D)} {ps : List (PyData × PyData)} {a : Addr} {vs : List (Key × V)}, (kvs.mapM fun kv => (toPy S f kv.2).map fun v => (kP kv.1, v)) = some ps → Rd H a (.dK vs) → kvs.map (·.1) = vs.map (·.1) → RepL G A H (kvs.map (·.2)) (vs.map (·.2)) → ∃ as, Reads s.heap (.ref a) (.dict ps) as ∧ sysModules ∉ as := by
      intro kvs ps a vs e1 h2 h3 h4
      obtain ⟨_, hs, ws, kv, o, es, ep, b1, ⟨b2, _⟩, b3, _, b5, _⟩ := (show ObjOk X.prog X.w H s.heap a (.dK vs) from h2.ok I.hok)
      obtain ⟨k1, k2⟩ := kv_keys kv
      have pm := mapM_some e1
      have p1 : ps.map (·.1) = kvs.map fun kv => kP kv.1 := by
        clear e1 h3 h4
        induction pm with
        | nil => rfl
        | cons hh t iht =>
          simp only [Option.map_eq_some_iff] at hh
          obtain ⟨w, _, rfl⟩ := hh
          rw [List.map_cons, List.map_cons, iht]
      have p2 : Paired (fun x p => toPy S f x = some p) (kvs.map (·.2)) (ps.map (·.2)) := by
        refine paired_map _ _ (fun kv p hh => ?_) pm
        simp only [Option.map_eq_some_iff] at hh
        obtain ⟨w, e3, rfl⟩ := hh
        exact e3
      obtain ⟨bs, z1, z2⟩ := readsAll_of ih p2 h4 k2
      refine ⟨a :: [] ++ bs, .dict (kvs := ps) b1 b2 b3 (as := []) (bs := bs) ?_ ?_, ?_⟩
      · rw [p1]
        have : (kvs.map fun kv => kP kv.1) = ws.map fun kv => kP kv.1 := by
          have : kvs.map (·.1) = ws.map (·.1) := h3.trans k1
          have := congrArg (List.map kP) this
          rw [List.map_map, List.map_map] at this
          exact this
        rw [this]
        exact keys_read (knd := ws) b5
      · rw [vals_pairs b5]; exact z1
      · simp only [List.cons_append, List.nil_append, List.mem_cons, not_or]
        exact ⟨by rcases h2 with h2 | ⟨ob, h2⟩ <;> exact not_sm sm I h2, z2⟩
    cases d with
    | non => exact flat _ _ _ _ rfl (fun f => by cases f <;> exact e) r rv
    | bl b => exact flat _ _ _ _ rfl (fun f => by cases f <;> exact e) r rv
    | int i => exact flat _ _ _ _ rfl (fun f => by cases f <;> exact e) r rv
    | str x => exact flat _ _ _ _ rfl (fun f => by cases f <;> exact e) r rv
    | ty n => cases e
    | own x => cases e
    | tup xs =>
      simp only [toPy, Option.map_eq_some_iff] at e
      obtain ⟨ps, e1, rfl⟩ := e
      obtain ⟨a, vs, rfl, h1, h2⟩ := rep_tup r
      cases rv
      obtain ⟨its, rvs, ⟨o, q1, q2, n, q3⟩, _⟩ := I.tuple (.of h1)
      obtain ⟨as, z1, z2⟩ := readsAll_of ih (mapM_some e1) h2 rvs
      exact ⟨as, .tuple q1 q2 q3 (by simpa using z1), z2⟩
    | con xs =>
      simp only [toPy, Option.map_eq_some_iff] at e
      obtain ⟨ps, e1, rfl⟩ := e
      cases r with
      | con h _ _ t =>
        cases rv
        exact seq e1 (.of h) (.inl (by rw [h]; simp)) t
    | scr xs =>
      simp only [toPy, Option.map_eq_some_iff] at e
      obtain ⟨ps, e1, rfl⟩ := e
      cases r with
      | scr h t =>
        cases rv
        refine seq e1 h.sq ?_ t
        rcases h with ⟨ob, h⟩ | ⟨o, _, _, h, h', _⟩
        · exact .inl (by rw [h]; simp)
        · exact .inr ⟨o, h, h'⟩
    | exn c => cases e
    | cdit ks ds => cases e
    | cins c ns ds => cases e
    | cdic ks ds =>
      simp only [toPy, Option.map_eq_some_iff] at e
      obtain ⟨ps, e1, rfl⟩ := e
      obtain ⟨a, vs, rfl, h2, h3, h4⟩ := dictOf_rep R r rfl
      cases rv
      exact dic e1 h2 h3 h4
    | ref n =>
      simp only [toPy] at e
      split at e
      · rename_i xs q
        simp only [Option.map_eq_some_iff] at e
        obtain ⟨ps, e1, rfl⟩ := e
        obtain ⟨a, vs, rfl, _, h2, h3⟩ := rep_lst R r q
        cases rv
        exact seq e1 (.of h2) (.inl (by rw [h2]; simp)) h3
      · rename_i kvs q
        simp only [Option.map_eq_some_iff] at e
        obtain ⟨ps, e1, rfl⟩ := e
        obtain ⟨a, vs, rfl, _, h2, h3, h4⟩ := rep_dic R r q
        cases rv
        exact dic e1 (.inl h2) h3 h4
      · cases e
theorem depth_mapM {f : Nat} {g : D → Option PyData} (hg : ∀ d p, g d = some p → p.depth ≤ f) : ∀ {ds : List D} {ps : List PyData}, Paired (fun x p => g x = some p) ds ps → PyData.depthAll ps ≤ f
  | _, _, .nil => by simp [PyData.depthAll]
  | _, _, .cons e t => by
    simp only [PyData.depthAll]
    exact Nat.max_le.mpr ⟨hg _ _ e, depth_mapM hg t⟩
theorem kP_depth (k : Key) : (kP k).depth = 0 := by cases k <;> simp [kP, PyData.depth]
theorem toPy_depth : ∀ (f : Nat) (d : D) (p : PyData), toPy S f d = some p → p.depth ≤ f := by
  intro f
  induction f with
  | zero => intro d p e; cases d <;> first | (cases e; simp [PyData.depth]) | cases e
  | succ f ih =>
    intro d p e
    cases d with
    | non => cases e; simp [PyData.depth]
    | bl b => cases e; simp [PyData.depth]
    | int i => cases e; simp [PyData.depth]
    | str x => cases e; simp [PyData.depth]
    | ty n => cases e
    | own x => cases e
    | tup xs =>
      simp only [toPy, Option.map_eq_some_iff] at e
      obtain ⟨ps, e1, rfl⟩ := e
      simp only [PyData.depth]
      have := depth_mapM ih (mapM_some e1)
      omega
    | con xs =>
      simp only [toPy, Option.map_eq_some_iff] at e
      obtain ⟨ps, e1, rfl⟩ := e
      simp only [PyData.depth]
      have := depth_mapM ih (mapM_some e1)
      omega
    | scr xs =>
      simp only [toPy, Option.map_eq_some_iff] at e
      obtain ⟨ps, e1, rfl⟩ := e
      simp only [PyData.depth]
      have := depth_mapM ih (mapM_some e1)
      omega
    | exn c => cases e
    | cdit ks ds => cases e
    | cins c ns ds => cases e
    | cdic ks ds =>
      simp only [toPy, Option.map_eq_some_iff] at e
      obtain ⟨ps, e1, rfl⟩ := e
      simp only [PyData.depth]
      have : PyData.depthKv ps ≤ f := by
        have pm := mapM_some e1
        clear e1
        generalize ks.zip ds = kvs at pm
        induction pm with
        | nil => simp [PyData.depthKv]
        | cons hh t iht =>
          simp only [Option.map_eq_some_iff] at hh
          obtain ⟨w, e3, rfl⟩ := hh
          simp only [PyData.depthKv, kP_depth]
          exact Nat.max_le.mpr ⟨Nat.max_le.mpr ⟨Nat.zero_le _, ih _ _ e3⟩, iht⟩
      omega
    | ref n =>
      simp only [toPy] at e
      split at e
      · simp only [Option.map_eq_some_iff] at e
        obtain ⟨ps, e1, rfl⟩ := e
        simp only [PyData.depth]
        have := depth_mapM ih (mapM_some e1)
        omega
      · rename_i kvs q
        simp only [Option.map_eq_some_iff] at e
        obtain ⟨ps, e1, rfl⟩ := e
        simp only [PyData.depth]
        have : PyData.depthKv ps ≤ f := by
          have pm := mapM_some e1
          clear e1 q
          induction pm with
          | nil => simp [PyData.depthKv]
          | cons hh t iht =>
            simp only [Option.map_eq_some_iff] at hh
            obtain ⟨w, e3, rfl⟩ := hh
            simp only [PyData.depthKv, kP_depth]
            exact Nat.max_le.mpr ⟨Nat.max_le.mpr ⟨Nat.zero_le _, ih _ _ e3⟩, iht⟩
        omega
      · cases e

def rRc (X : Cx) : R2 := fun x y H Q => ∃ b, (∀ pins s σ v u, Inv X pins σ H s → RelV x v → RelV y u → SeqAt.RcAt X.A s v u b) ∧ Q (.bl b) H
def rRn (X : Cx) : R2 := fun x y H Q => ∃ b, (∀ pins s σ v u, Inv X pins σ H s → RelV x v → RelV y u → SeqAt.RcNeAt X.A s v u b) ∧ Q (.bl b) H
theorem op_rc : OpR X (compareOp .Eq) (rRc X) := by
  intro pins s σ H x y v u Q I rx ry h
  obtain ⟨b, h1, q⟩ := h
  exact h1 pins s σ v u I rx ry _ _ _ _ ⟨.bl b, H, I, rfl, q⟩
theorem op_rn : OpR X (compareOp .NotEq) (rRn X) := by
  intro pins s σ H x y v u Q I rx ry h
  obtain ⟨b, h1, q⟩ := h
  exact h1 pins s σ v u I rx ry _ _ _ _ ⟨.bl b, H, I, rfl, q⟩
theorem flat_rc {A0 : Around} {s : Shared} {x y : D} {v u : V} {v' u' : Value} (fx : isFlat x = true) (fy : isFlat y = true) (rx : Rep G A H x v) (ry : Rep G A H y u) (r1 : RelV v v') (r2 : RelV u u') :
    SeqAt.RcAt A0 s v' u' (eqF x y) ∧ SeqAt.RcNeAt A0 s v' u' (!eqF x y) := by
  cases rx <;> first | (cases fx; done) | skip
  all_goals (cases ry <;> first | (cases fy; done) | skip)
  all_goals (first | (obtain ⟨t, rfl⟩ := r1) | cases r1)
  all_goals (first | (obtain ⟨t', rfl⟩ := r2) | cases r2)
  · exact ⟨.none_none, .none_none⟩
  · exact ⟨.none_bool _, .none_bool _⟩
  · exact ⟨.none_int _ _, .none_int _ _⟩
  · exact ⟨.none_str _ _, .none_str _ _⟩
  · exact ⟨.bool_none _, .bool_none _⟩
  · exact ⟨.bool_bool _ _, .bool_bool _ _⟩
  · exact ⟨.bool_int _ _ _, .bool_int _ _ _⟩
  · exact ⟨.bool_str _ _ _, .bool_str _ _ _⟩
  · exact ⟨.int_none _ _, .int_none _ _⟩
  · exact ⟨.int_bool _ _ _, .int_bool _ _ _⟩
  · exact ⟨.int_int _ _ _ _, .int_int _ _ _ _⟩
  · exact ⟨.int_str _ _ _ _, .int_str _ _ _ _⟩
  · exact ⟨.str_none _ _, .str_none _ _⟩
  · exact ⟨.str_bool _ _ _, .str_bool _ _ _⟩
  · exact ⟨.str_int _ _ _ _, .str_int _ _ _ _⟩
  · exact ⟨.str_str _ _ _ _, .str_str _ _ _ _⟩
theorem tup_rc {a b : Addr} {vs ws : List V} (hu : X.A.units < cLine) (I : Inv X pins σ H s) (ha : H a = some (.tup vs)) (hb : H b = some (.tup ws)) (he : vs = [] ∨ ws = []) :
    SeqAt.RcAt X.A s (.ref a) (.ref b) (vs.isEmpty && ws.isEmpty) ∧ SeqAt.RcNeAt X.A s (.ref a) (.ref b) (!(vs.isEmpty && ws.isEmpty)) := by
  obtain ⟨its, r1, p1, _⟩ := I.tuple (X := X) (.of ha)
  obtain ⟨its2, r2, p2, _⟩ := I.tuple (X := X) (.of hb)
  have l1 := r1.length
  have l2 := r2.length
  have no : ∀ j (h1 : j < its.toArray.size) (h2 : j < its2.toArray.size), SeqAt.EqAt X.A.in1 s its.toArray[j] its2.toArray[j] false := fun j h1 h2 => by
    simp at h1 h2
    rcases he with rfl | rfl
    · simp at l1; omega
    · simp at l2; omega
  have e : ((List.range (min its.toArray.size its2.toArray.size)).all (fun _ => false) && its.toArray.size == its2.toArray.size) = (vs.isEmpty && ws.isEmpty) := by
    simp only [List.size_toArray]
    rw [← l1, ← l2]
    rcases he with rfl | rfl
    · cases ws <;> simp
    · cases vs <;> simp
  rw [← e]
  exact ⟨SeqAt.RcAt.tuples (e := fun _ => false) (show s.heap.IsTuple a its.toArray from p1) (show s.heap.IsTuple b its2.toArray from p2) hu no, SeqAt.RcNeAt.tuples (e := fun _ => false) (show s.heap.IsTuple a its.toArray from p1) (show s.heap.IsTuple b its2.toArray from p2) hu no⟩
theorem lst_rc {a b : Addr} {vs ws : List V} (hu : X.A.units < cLine) (I : Inv X pins σ H s) (ha : SqL X.K H a vs) (hb : SqL X.K H b ws) (he : vs = [] ∨ ws = []) :
    SeqAt.RcAt X.A s (.ref a) (.ref b) (vs.isEmpty && ws.isEmpty) ∧ SeqAt.RcNeAt X.A s (.ref a) (.ref b) (!(vs.isEmpty && ws.isEmpty)) := by
  obtain ⟨its, r1, p1, _⟩ := I.list ha
  obtain ⟨its2, r2, p2, _⟩ := I.list hb
  have l1 := r1.length
  have l2 := r2.length
  have z1 : its.toArray.size = vs.length := by simp [l1]
  have z2 : its2.toArray.size = ws.length := by simp [l2]
  by_cases hz : vs.length = ws.length
  · have e0 : vs = [] ∧ ws = [] := by
      rcases he with rfl | rfl
      · exact ⟨rfl, List.length_eq_zero_iff.mp hz.symm⟩
      · exact ⟨List.length_eq_zero_iff.mp hz, rfl⟩
    obtain ⟨rfl, rfl⟩ := e0
    have no : ∀ j (h1 : j < its.toArray.size) (h2 : j < its2.toArray.size), SeqAt.EqAt X.A.in1 s its.toArray[j] its2.toArray[j] false := fun j h1 h2 => by rw [z1] at h1; exact absurd h1 (by simp)
    have e : (List.range its.toArray.size).all (fun _ => false) = true := by rw [z1]; rfl
    have q1 := SeqAt.RcAt.lists (e := fun _ => false) p1.isList p2.isList (by rw [z1, z2]) hu no
    have q2 := SeqAt.RcNeAt.lists (e := fun _ => false) p1.isList p2.isList (by rw [z1, z2]) hu no
    rw [e] at q1 q2
    exact ⟨q1, q2⟩
  · have e : (vs.isEmpty && ws.isEmpty) = false := by
      rcases he with rfl | rfl
      · cases ws with
        | nil => exact absurd rfl hz
        | cons => rfl
      · cases vs with
        | nil => exact absurd rfl hz
        | cons => rfl
    rw [e]
    have hb' : (its.toArray.size != its2.toArray.size) = true := by rw [z1, z2]; simpa using hz
    exact ⟨SeqAt.RcAt.lists_lengths p1.isList p2.isList hb' hu, SeqAt.RcNeAt.lists_lengths p1.isList p2.isList hb' hu⟩
theorem isEmpty_rep {ds : List D} {vs : List V} (h : RepL G A H ds vs) : vs.isEmpty = ds.isEmpty := by cases h <;> rfl
theorem eqD_rc {n : Nat} {x y : D} {v u : V} {b : Bool} (xo : Xok G X n) (sm : SmOk X.base) (R : SRel G A H S) (rx : Rep G A H x v) (ry : Rep G A H y u) (e : eqD S x y = some b) :
    ∀ pins s σ v' u', Inv X pins σ H s → RelV v v' → RelV u u' → SeqAt.RcAt X.A s v' u' b ∧ SeqAt.RcNeAt X.A s v' u' (!b) := by
  intro pins s σ v' u' I r1 r2
  unfold eqD at e
  split at e
  · rename_i hf
    rw [Bool.and_eq_true] at hf
    cases e
    exact flat_rc hf.1 hf.2 rx ry r1 r2
  · have tu : ∀ {xs ys : List D}, x = .tup xs → y = .tup ys → (xs = [] ∨ ys = []) → b = (xs.isEmpty && ys.isEmpty) → SeqAt.RcAt X.A s v' u' b ∧ SeqAt.RcNeAt X.A s v' u' (!b) := by
      rintro xs ys rfl rfl hz rfl
      obtain ⟨a, vs, rfl, h1, h2⟩ := rep_tup rx
      obtain ⟨c, ws, rfl, h3, h4⟩ := rep_tup ry
      cases r1
      cases r2
      rw [← isEmpty_rep h2, ← isEmpty_rep h4]
      refine tup_rc xo.u0 I h1 h3 ?_
      rcases hz with rfl | rfl
      · cases h2; exact .inl rfl
      · cases h4; exact .inr rfl
    split at e
    · rename_i xs
      cases e
      exact tu rfl rfl (.inr rfl) (by simp)
    · rename_i ys _
      cases e
      exact tu rfl rfl (.inl rfl) (by simp)
    · have ls : ∀ {xs ys : List D}, lstOf S x = some xs → lstOf S y = some ys → (xs = [] ∨ ys = []) → b = (xs.isEmpty && ys.isEmpty) → SeqAt.RcAt X.A s v' u' b ∧ SeqAt.RcNeAt X.A s v' u' (!b) := by
        intro xs ys e1 e2 hz hb
        subst hb
        obtain ⟨a, vs, rfl, h1, h2⟩ := lstOf_rep R rx e1
        obtain ⟨c, ws, rfl, h3, h4⟩ := lstOf_rep R ry e2
        cases r1
        cases r2
        rw [← isEmpty_rep h2, ← isEmpty_rep h4]
        refine lst_rc xo.u0 I (by rw [xo.K]; exact h1) (by rw [xo.K]; exact h3) ?_
        rcases hz with rfl | rfl
        · cases h2; exact .inl rfl
        · cases h4; exact .inr rfl
      split at e
      · rename_i xs e1 e2
        cases e
        exact ls e1 e2 (.inr rfl) (by simp)
      · rename_i ys _ e1 e2
        cases e
        exact ls e1 e2 (.inl rfl) (by simp)
      · split at e
        · rename_i p q e1 e2
          split at e
          · rename_i hc
            cases e
            rw [Bool.and_eq_true] at hc
            obtain ⟨as, q1, _⟩ := toPy_reads sm xo.K I R _ _ _ _ _ e1 rx r1
            obtain ⟨bs, q2, _⟩ := toPy_reads sm xo.K I R _ _ _ _ _ e2 ry r2
            have d1 : SeqAt.shaped p = true := by
              unfold SeqAt.shaped
              rw [hc.1, Bool.true_and, decide_eq_true_eq]
              exact Nat.le_trans (toPy_depth _ _ _ e1) (by decide)
            have d2 : SeqAt.shaped q = true := by
              unfold SeqAt.shaped
              rw [hc.2, Bool.true_and, decide_eq_true_eq]
              exact Nat.le_trans (toPy_depth _ _ _ e2) (by decide)
            exact ⟨fun prog w E Q h => SeqAt.compareEq_shaped q1 q2 d1 d2 xo.u64 h, fun prog w E Q h => SeqAt.compareNe_shaped q1 q2 d1 d2 xo.u64 h⟩
          · cases e
        · cases e
theorem cmp_eq {n : Nat} (xo : Xok G X n) (sm : SmOk X.base) : ∃ r, OpR X (compareOp .Eq) r ∧ OpOk G r (cmpD .Eq) := by
  refine ⟨_, op_rc, fun A H S x y v u Q E R hx hy h => ?_⟩
  simp only [cmpD, ofO] at h
  split at h
  · rename_i b e
    exact ⟨b, fun pins s σ v' u' I r1 r2 => (eqD_rc xo sm R hx hy e pins s σ v' u' I r1 r2).1, h.here R (.bl b)⟩
  · exact h.elim
theorem cmp_ne {n : Nat} (xo : Xok G X n) (sm : SmOk X.base) : ∃ r, OpR X (compareOp .NotEq) r ∧ OpOk G r (cmpD .NotEq) := by
  refine ⟨_, op_rn, fun A H S x y v u Q E R hx hy h => ?_⟩
  simp only [cmpD, ofO] at h
  split at h
  · rename_i b e
    exact ⟨!b, fun pins s σ v' u' I r1 r2 => (eqD_rc xo sm R hx hy e pins s σ v' u' I r1 r2).2, h.here R (.bl _)⟩
  · exact h.elim
end
end MP

namespace MP
open PySem L2
section
variable {G : Gx} {X : Cx} {n : Nat}

theorem lexAt_shift (e r : Nat → Bool) (z : Bool) : ∀ (k i : Nat), Ob.lexAt e r z (i + 1) k = Ob.lexAt (fun j => e (j + 1)) (fun j => r (j + 1)) z i k
  | 0, _ => rfl
  | k + 1, i => by rw [Ob.lexAt_succ, Ob.lexAt_succ, lexAt_shift e r z k (i + 1)]
theorem lexLe_eq : ∀ (ns ms : List Int), Ob.lexAt (fun j => decide (ns.getD j 0 = ms.getD j 0)) (fun j => decide (ns.getD j 0 ≤ ms.getD j 0)) (decide (ns.length ≤ ms.length)) 0 (min ns.length ms.length) = !HT.lexLt ms ns
  | [], [] => rfl
  | [], m :: ms => by simp [Ob.lexAt_zero, HT.lexLt]
  | a :: ns, [] => by simp [Ob.lexAt_zero, HT.lexLt]
  | a :: ns, m :: ms => by
    have ih := lexLe_eq ns ms
    rw [show min (a :: ns).length (m :: ms).length = min ns.length ms.length + 1 by simp, Ob.lexAt_succ, HT.lexLt_cons]
    simp only [List.getD_cons_zero, List.length_cons, Nat.add_le_add_iff_right, decide_eq_true_eq]
    by_cases h : a = m
    · rw [if_pos h, if_pos h.symm, lexAt_shift]
      simp only [List.getD_cons_succ]
      exact ih
    · rw [if_neg h, if_neg (Ne.symm h)]
      by_cases h2 : a ≤ m
      · rw [decide_eq_true h2, decide_eq_false (by omega)]; rfl
      · rw [decide_eq_false h2, decide_eq_true (by omega)]; rfl

theorem cmp_lt (xo : Xok G X n) : ∃ r, OpR X (compareOp .Lt) r ∧ OpOk G r (cmpD .Lt) := by
  refine ⟨_, op_lt.or (op_ltT xo.u0), fun A H S x y v u Q E R hx hy h => ?_⟩
  simp only [cmpD, ofO] at h
  split at h
  · rename_i b e
    unfold ltD at e
    split at e
    · cases e
      rw [rep_int hx, rep_int hy]
      exact .inl ⟨_, _, rfl, rfl, h.here R (.bl _)⟩
    · rename_i xs ys
      split at e
      · rename_i ns ms e1 e2
        cases e
        obtain ⟨a, vs, rfl, h1, h2⟩ := rep_tup hx
        obtain ⟨c, ws, rfl, h3, h4⟩ := rep_tup hy
        rw [intsOf_rep h2 e1] at h1
        rw [intsOf_rep h4 e2] at h3
        exact .inr ⟨a, c, ns, ms, rfl, rfl, .of h1, .of h3, h.here R (.bl _)⟩
      · cases e
    · cases e
  · exact h.elim
theorem cmp_le (xo : Xok G X n) : ∃ r, OpR X (compareOp .LtE) r ∧ OpOk G r (cmpD .LtE) := by
  refine ⟨_, op_le.or (op_leT xo.u0), fun A H S x y v u Q E R hx hy h => ?_⟩
  simp only [cmpD, ofO] at h
  split at h
  · rename_i b e
    unfold leD at e
    split at e
    · cases e
      rw [rep_int hx, rep_int hy]
      exact .inl ⟨_, _, rfl, rfl, h.here R (.bl _)⟩
    · rename_i xs ys
      split at e
      · rename_i ns ms e1 e2
        cases e
        obtain ⟨a, vs, rfl, h1, h2⟩ := rep_tup hx
        obtain ⟨c, ws, rfl, h3, h4⟩ := rep_tup hy
        rw [intsOf_rep h2 e1] at h1
        rw [intsOf_rep h4 e2] at h3
        refine .inr ⟨a, c, ns, ms, rfl, rfl, .of h1, .of h3, ?_⟩
        rw [lexLe_eq]
        exact h.here R (.bl _)
      · cases e
    · cases e
  · exact h.elim
theorem cmp_gt (xo : Xok G X n) : ∃ r, OpR X (compareOp .Gt) r ∧ OpOk G r (cmpD .Gt) := by
  refine ⟨_, op_gt, fun A H S x y v u Q E R hx hy h => ?_⟩
  simp only [cmpD] at h
  split at h
  · rw [rep_int hx, rep_int hy]
    exact ⟨_, _, rfl, rfl, h.here R (.bl _)⟩
  · exact h.elim
theorem cmp_ge (xo : Xok G X n) : ∃ r, OpR X (compareOp .GtE) r ∧ OpOk G r (cmpD .GtE) := by
  refine ⟨_, op_ge, fun A H S x y v u Q E R hx hy h => ?_⟩
  simp only [cmpD] at h
  split at h
  · rw [rep_int hx, rep_int hy]
    exact ⟨_, _, rfl, rfl, h.here R (.bl _)⟩
  · exact h.elim
theorem isD_cases {A : List Addr} {H : Hp} {x y : D} {v u : V} {b : Bool} (e : isD x y = some b) (hx : Rep G A H x v) (hy : Rep G A H y u) :
    (∃ p q : Bool, v = .bl p ∧ u = .bl q ∧ b = decide (p = q)) ∨ (u = .non ∧ b = decide (v = .non)) := by
  unfold isD at e
  split at e
  · cases e
    exact .inl ⟨_, _, rep_bl hx, rep_bl hy, rfl⟩
  · cases e
    cases hx
    cases hy
    exact .inr ⟨rfl, rfl⟩
  · rename_i hn
    cases hy
    split at e
    · cases e
    · cases e
    · cases e
      refine .inr ⟨rfl, ?_⟩
      cases hx <;> first | rfl | (exact absurd rfl hn)
  · cases e
theorem cmp_is (xo : Xok G X n) : ∃ r, OpR X (compareOp .Is) r ∧ OpOk G r (cmpD .Is) := by
  refine ⟨_, op_isBl.or op_isN, fun A H S x y v u Q E R hx hy h => ?_⟩
  simp only [cmpD, ofO] at h
  split at h
  · rename_i b e
    rcases isD_cases e hx hy with ⟨p, q, rfl, rfl, rfl⟩ | ⟨rfl, rfl⟩
    · exact .inl ⟨p, q, rfl, rfl, h.here R (.bl _)⟩
    · exact .inr ⟨rfl, h.here R (.bl _)⟩
  · exact h.elim
theorem cmp_isnot (xo : Xok G X n) : ∃ r, OpR X (compareOp .IsNot) r ∧ OpOk G r (cmpD .IsNot) := by
  refine ⟨_, op_notBl.or op_notN, fun A H S x y v u Q E R hx hy h => ?_⟩
  simp only [cmpD, ofO] at h
  split at h
  · rename_i b e
    rcases isD_cases e hx hy with ⟨p, q, rfl, rfl, rfl⟩ | ⟨rfl, rfl⟩
    · exact .inl ⟨p, q, rfl, rfl, h.here R (.bl _)⟩
    · exact .inr ⟨rfl, h.here R (.bl _)⟩
  · exact h.elim

theorem op_din (hu : X.A.units + 1 < cLine) : OpR X (compareOp .In) (fun x y H Q => ∃ a ov, y = .ref a ∧ DGet H a x ov ∧ Q (.bl ov.isSome) H) := by
  intro pins s σ H x y v u Q I rx ry h
  obtain ⟨a, ov, rfl, g, q⟩ := h
  cases ry
  exact d_in hu I g rx fun s3 I3 => ⟨.bl _, H, I3, rfl, q⟩
theorem op_dnotin (hu : X.A.units + 1 < cLine) : OpR X (compareOp .NotIn) (fun x y H Q => ∃ a ov, y = .ref a ∧ DGet H a x ov ∧ Q (.bl (!ov.isSome)) H) := by
  intro pins s σ H x y v u Q I rx ry h
  obtain ⟨a, ov, rfl, g, q⟩ := h
  cases ry
  exact d_notIn hu I g rx fun s3 I3 => ⟨.bl _, H, I3, rfl, q⟩
section
variable {A : List Addr} {H : Hp} {S : Store}
theorem flatV_rep {d : D} {v : V} (r : Rep G A H d v) (h : isFlat d = true) : flatV v = true := by cases r <;> first | rfl | cases h
theorem flatV_all : ∀ {ds : List D} {vs : List V}, RepL G A H ds vs → ds.all isFlat = true → vs.all flatV = true
  | _, _, .nil, _ => rfl
  | _, _, .cons r t, h => by
    rw [List.all_cons, Bool.and_eq_true] at h ⊢
    exact ⟨flatV_rep r h.1, flatV_all t h.2⟩
theorem eqV_rep {x y : D} {v u : V} (rx : Rep G A H x v) (ry : Rep G A H y u) (hx : isFlat x = true) (hy : isFlat y = true) : eqV v u = eqF x y := by
  cases rx <;> first | (cases hx; done) | skip
  all_goals (cases ry <;> first | (cases hy; done) | skip)
  all_goals rfl
theorem inV_rep {x : D} {v : V} (rx : Rep G A H x v) (hx : isFlat x = true) : ∀ {ds : List D} {vs : List V}, RepL G A H ds vs → ds.all isFlat = true → inV v vs = ds.any fun y => eqF y x
  | _, _, .nil, _ => rfl
  | _, _, .cons r t, h => by
    rw [List.all_cons, Bool.and_eq_true] at h
    have ih := inV_rep rx hx t h.2
    unfold inV at ih ⊢
    rw [List.any_cons, List.any_cons, ih, eqV_rep r rx h.1 hx]
theorem kV_rep {d : D} {k : Key} {v : V} (r : Rep G A H d v) (h : keyOf d = some k) : v = kV k := by
  cases r <;> first | (cases h; rfl) | cases h
theorem valV_rep : ∀ {kvs : List (Key × D)} {vs : List (Key × V)} (k : Key), kvs.map (·.1) = vs.map (·.1) → RepL G A H (kvs.map (·.2)) (vs.map (·.2)) → (valV vs k).isSome = (valD kvs k).isSome ∧ ∀ d, valD kvs k = some d → ∃ v, valV vs k = some v ∧ Rep G A H d v
  | [], [], k, _, _ => ⟨rfl, fun d h => by cases h⟩
  | [], _ :: _, _, h, _ => by simp at h
  | _ :: _, [], _, h, _ => by simp at h
  | (k', d') :: kvs, (k'', v') :: vs, k, h, r => by
    simp only [List.map_cons, List.cons.injEq] at h
    obtain ⟨h1, h2⟩ := h
    subst h1
    simp only [List.map_cons] at r
    cases r with
    | cons r t =>
      have ih := valV_rep k h2 t
      unfold valV valD at ih ⊢
      simp only [List.find?_cons]
      by_cases hk : k' = k
      · rw [decide_eq_true hk]
        exact ⟨rfl, fun d e => by cases e; exact ⟨v', rfl, r⟩⟩
      · rw [decide_eq_false hk]
        exact ih
mutual
/-- as HandS reads data -/
theorem toPy_dp (R : SRel G A H S) : ∀ (f : Nat) (d : D) (p : PyData) (v : V), toPy S f d = some p → p.canLay0 = true → Rep G A H d v → Dp G.K H v p
  | 0, d, p, v, e, hc, r => by
    cases r <;> first | (cases e; constructor) | (cases e)
  | f + 1, d, p, v, e, hc, r => by
    cases d with
    | non => cases e; cases r; constructor
    | bl b => cases e; cases r; constructor
    | int i => cases e; cases r; constructor
    | str x => cases e; cases r; constructor
    | ty n => cases e
    | own x => cases e
    | tup xs =>
      simp only [toPy, Option.map_eq_some_iff] at e
      obtain ⟨ps, e1, rfl⟩ := e
      obtain ⟨a, vs, rfl, h1, h2⟩ := rep_tup r
      exact .tup (.of h1) (toPy_dpL R f xs ps vs (mapM_some e1) (by simpa [PyData.canLay0] using hc) h2)
    | con xs =>
      simp only [toPy, Option.map_eq_some_iff] at e
      obtain ⟨ps, e1, rfl⟩ := e
      cases r with
      | con h _ _ t => exact .lst (.of h) (toPy_dpL R f xs ps _ (mapM_some e1) (by simpa [PyData.canLay0] using hc) t)
    | scr xs =>
      simp only [toPy, Option.map_eq_some_iff] at e
      obtain ⟨ps, e1, rfl⟩ := e
      cases r with
      | scr h t => exact .lst h.sq (toPy_dpL R f xs ps _ (mapM_some e1) (by simpa [PyData.canLay0] using hc) t)
    | exn c => cases e
    | cdit ks ds => cases e
    | cins c ns ds => cases e
    | cdic ks ds =>
      simp only [toPy, Option.map_eq_some_iff] at e
      obtain ⟨ps, e1, rfl⟩ := e
      simp [PyData.canLay0] at hc
    | ref n =>
      simp only [toPy] at e
      split at e
      · rename_i xs q
        simp only [Option.map_eq_some_iff] at e
        obtain ⟨ps, e1, rfl⟩ := e
        obtain ⟨a, vs, rfl, _, h2, h3⟩ := rep_lst R r q
        exact .lst (.of h2) (toPy_dpL R f xs ps vs (mapM_some e1) (by simpa [PyData.canLay0] using hc) h3)
      · simp only [Option.map_eq_some_iff] at e
        obtain ⟨ps, e1, rfl⟩ := e
        simp [PyData.canLay0] at hc
      · cases e
theorem toPy_dpL (R : SRel G A H S) : ∀ (f : Nat) (ds : List D) (ps : List PyData) (vs : List V), Paired (fun x p => toPy S f x = some p) ds ps → PyData.canLayAll0 ps = true → RepL G A H ds vs → DpAll G.K H vs ps
  | _, [], [], _, .nil, _, .nil => .nil
  | f, d :: ds, p :: ps, _, .cons e t, hc, .cons r rt => by
    rw [PyData.canLayAll0, Bool.and_eq_true] at hc
    exact .cons (toPy_dp R f d p _ e hc.1 r) (toPy_dpL R f ds ps _ t hc.2 rt)
end
end
theorem shaped_of {d : PyData} (hc : d.canLay0 = true) (hd : d.depth ≤ 64) : SeqAt.shaped d = true := by
  unfold SeqAt.shaped
  rw [hc, Bool.true_and, decide_eq_true_eq]
  exact hd
def rInT (X : Cx) (neg : Bool) : R2 := fun x y H Q => ∃ b, (∀ pins s σ v u, Inv X pins σ H s → RelV x v → RelV y u → ∃ d xs as bs, Reads s.heap u (.tuple xs) as ∧ Reads s.heap v d bs ∧ PyData.plainAll xs = true ∧ d.plain = true ∧ d.depth ≤ 60 ∧ b = xs.any fun z => PyData.eqv z d) ∧ Q (.bl (if neg then !b else b)) H
theorem op_inT (hu : X.A.units + 65 < cLine) : OpR X (compareOp .In) (rInT X false) := by
  intro pins s σ H x y v u Q I rx ry h
  obtain ⟨b, h, q⟩ := h
  obtain ⟨d, xs, as, bs, r1, r2, h1, h2, h3, rfl⟩ := h pins s σ v u I rx ry
  exact SeqAt.in_tuple_data r1 r2 h1 h2 (by omega) ⟨.bl _, H, I, rfl, q⟩
theorem op_notInT (hu : X.A.units + 65 < cLine) : OpR X (compareOp .NotIn) (rInT X true) := by
  intro pins s σ H x y v u Q I rx ry h
  obtain ⟨b, h, q⟩ := h
  obtain ⟨d, xs, as, bs, r1, r2, h1, h2, h3, rfl⟩ := h pins s σ v u I rx ry
  exact SeqAt.notIn_tuple_data r1 r2 h1 h2 (by omega) ⟨.bl _, H, I, rfl, q⟩
theorem valT_rep {A : List Addr} {H : Hp} : ∀ {kvs : List (List Key × D)} {vs : List (List Key × V)} (k : List Key), kvs.map (·.1) = vs.map (·.1) → RepL G A H (kvs.map (·.2)) (vs.map (·.2)) → (valV vs k).isSome = (valT kvs k).isSome ∧ ∀ d, valT kvs k = some d → ∃ v, valV vs k = some v ∧ Rep G A H d v
  | [], [], k, _, _ => ⟨rfl, fun d h => by cases h⟩
  | [], _ :: _, _, h, _ => by simp at h
  | _ :: _, [], _, h, _ => by simp at h
  | (k', d') :: kvs, (k'', v') :: vs, k, h, r => by
    simp only [List.map_cons, List.cons.injEq] at h
    obtain ⟨h1, h2⟩ := h
    subst h1
    simp only [List.map_cons] at r
    cases r with
    | cons r t =>
      have ih := valT_rep k h2 t
      unfold valV valT at ih ⊢
      simp only [List.find?_cons]
      by_cases hk : k' = k
      · rw [decide_eq_true hk]
        exact ⟨rfl, fun d e => by cases e; exact ⟨v', rfl, r⟩⟩
      · rw [decide_eq_false hk]
        exact ih
theorem inD_cases {A : List Addr} {H : Hp} {S : Store} {x y : D} {v u : V} {b : Bool} (xo : Xok G X n) (sm : SmOk X.base) (R : SRel G A H S) (e : inD S x y = some b) (hx : Rep G A H x v) (hy : Rep G A H y u) :
    (∃ p xs, u = .ref p ∧ (SqL G.K H p xs ∨ SqT G.K H p xs) ∧ flatV v = true ∧ xs.all flatV = true ∧ b = inV v xs) ∨
    (∃ d ds, Dp G.K H v d ∧ Dp G.K H u (.list ds) ∧ SeqAt.shaped d = true ∧ SeqAt.shaped (.list ds) = true ∧ b = ds.any fun z => PyData.eqv z d) ∨
    (∃ a ov, u = .ref a ∧ DGet H a v ov ∧ b = ov.isSome) ∨
    (∀ pins s σ v' u', Inv X pins σ H s → RelV v v' → RelV u u' → ∃ d xs as bs, Reads s.heap u' (.tuple xs) as ∧ Reads s.heap v' d bs ∧ PyData.plainAll xs = true ∧ d.plain = true ∧ d.depth ≤ 60 ∧ b = xs.any fun z => PyData.eqv z d) := by
  unfold inD at e
  split at e
  · rename_i ys es
    split at e
    · rename_i hf
      rw [Bool.and_eq_true] at hf
      cases e
      obtain ⟨a, vs, rfl, h1, h2⟩ := seqOf_rep R hy es
      exact .inl ⟨a, vs, rfl, h1, flatV_rep hx hf.1, flatV_all h2 hf.2, (inV_rep hx hf.1 h2 hf.2).symm⟩
    · split at e
      · rename_i zs p ps e1 e2 e3
        split at e
        · rename_i hc
          rw [Bool.and_eq_true] at hc
          cases e
          have hys : zs = ys := by
            cases y with
            | con l => simp only [lstOf, seqOf] at e1 es; rw [e1] at es; exact Option.some.inj es
            | scr l => simp only [lstOf, seqOf] at e1 es; rw [e1] at es; exact Option.some.inj es
            | ref m => simp only [lstOf, seqOf] at e1 es; rw [e1] at es; exact Option.some.inj es
            | _ => simp [lstOf] at e1
          subst hys
          obtain ⟨a, vs, rfl, h1, h2⟩ := lstOf_rep R hy e1
          have dd := depth_mapM (fun d p q => toPy_depth (S := S) dep d p q) (mapM_some e3)
          refine .inr (.inl ⟨p, ps, toPy_dp R _ _ _ _ e2 hc.1 hx, .lst h1 (toPy_dpL R _ _ _ _ (mapM_some e3) hc.2 h2), shaped_of hc.1 (Nat.le_trans (toPy_depth _ _ _ e2) (by decide)), shaped_of (by simpa [PyData.canLay0] using hc.2) ?_, rfl⟩)
          simp only [PyData.depth]
          unfold dep at dd
          omega
        · cases e
      · rename_i p ps e1 e2 e3
        split at e
        · rename_i hc
          rw [Bool.and_eq_true] at hc
          cases e
          refine .inr (.inr (.inr fun pins s σ v' u' I r1 r2 => ?_))
          cases y with
          | tup l =>
            simp only [seqOf] at es
            cases es
            obtain ⟨as, q1, _⟩ := toPy_reads sm xo.K I R (dep + 1) (.tup ys) (.tuple ps) u u' (by simp only [toPy]; rw [e3]; rfl) hy r2
            obtain ⟨bs, q2, _⟩ := toPy_reads sm xo.K I R _ _ _ _ _ e2 hx r1
            exact ⟨p, ps, as, bs, q1, q2, hc.2, hc.1, toPy_depth _ _ _ e2, rfl⟩
          | con l => simp [lstOf] at e1
          | scr l => simp [lstOf] at e1
          | ref m =>
            simp only [seqOf, lstOf] at es e1
            rw [e1] at es
            cases es
          | _ => simp [seqOf] at es
        · cases e
      · cases e
  · split at e
    · rename_i kvs k e1 e2
      cases e
      obtain ⟨a, vs, rfl, h1, h2, h3⟩ := dictOf_rep R hy e1
      have z := valV_rep k h2 h3
      exact .inr (.inr (.inl ⟨a, valV vs k, rfl, by rw [kV_rep hx e2]; exact .inl ⟨_, _, h1, rfl, rfl⟩, z.1.symm⟩))
    · split at e
      · rename_i kvs k e1 e2
        cases e
        obtain ⟨a, vs, rfl, h1, h2, h3⟩ := dictTOf_rep R hy e1
        obtain ⟨b, rfl, h4⟩ := keyT_rep hx e2
        have z := valT_rep k h2 h3
        exact .inr (.inr (.inl ⟨a, valV vs k, rfl, .inr ⟨_, _, _, h1, rfl, h4, rfl⟩, z.1.symm⟩))
      · cases e
theorem Xok.u1 (h : Xok G X n) : X.A.units + 1 < cLine := by have := h.un; omega
theorem Xok.u65 (h : Xok G X n) : X.A.units + 65 < cLine := by have := h.un; omega
theorem cmp_in (xo : Xok G X n) (sm : SmOk X.base) : ∃ r, OpR X (compareOp .In) r ∧ OpOk G r (cmpD .In) := by
  refine ⟨_, op_in_seq.or ((op_inD xo.u65).or ((op_din xo.u1).or (op_inT xo.u65))), fun A H S x y v u Q E R hx hy h => ?_⟩
  simp only [cmpD, ofO] at h
  split at h
  · rename_i b e
    rw [xo.K]
    rcases inD_cases xo sm R e hx hy with ⟨p, xs, h1, h2, h3, h4, rfl⟩ | ⟨d, ds, h1, h2, h3, h4, rfl⟩ | ⟨a, ov, h1, h2, rfl⟩ | h1
    · exact .inl ⟨p, xs, h1, h2, h3, h4, h.here R (.bl _)⟩
    · exact .inr (.inl ⟨d, ds, h1, h2, h3, h4, h.here R (.bl _)⟩)
    · exact .inr (.inr (.inl ⟨a, ov, h1, h2, h.here R (.bl _)⟩))
    · exact .inr (.inr (.inr ⟨b, h1, h.here R (.bl _)⟩))
  · exact h.elim
theorem cmp_notin (xo : Xok G X n) (sm : SmOk X.base) : ∃ r, OpR X (compareOp .NotIn) r ∧ OpOk G r (cmpD .NotIn) := by
  refine ⟨_, op_notIn_seq.or ((op_notInD xo.u65).or ((op_dnotin xo.u1).or (op_notInT xo.u65))), fun A H S x y v u Q E R hx hy h => ?_⟩
  simp only [cmpD, ofO] at h
  split at h
  · rename_i b e
    rw [xo.K]
    rcases inD_cases xo sm R e hx hy with ⟨p, xs, h1, h2, h3, h4, rfl⟩ | ⟨d, ds, h1, h2, h3, h4, rfl⟩ | ⟨a, ov, h1, h2, rfl⟩ | h1
    · exact .inl ⟨p, xs, h1, h2, h3, h4, h.here R (.bl _)⟩
    · exact .inr (.inl ⟨d, ds, h1, h2, h3, h4, h.here R (.bl _)⟩)
    · exact .inr (.inr (.inl ⟨a, ov, h1, h2, h.here R (.bl _)⟩))
    · exact .inr (.inr (.inr ⟨b, h1, h.here R (.bl _)⟩))
  · exact h.elim
theorem cmp_ok (xo : Xok G X n) (sm : SmOk X.base) (op : CmpOp) : ∃ r, OpR X (compareOp op) r ∧ OpOk G r (cmpD op) := by
  cases op with
  | Eq => exact cmp_eq xo sm
  | NotEq => exact cmp_ne xo sm
  | Lt => exact cmp_lt xo
  | LtE => exact cmp_le xo
  | Gt => exact cmp_gt xo
  | GtE => exact cmp_ge xo
  | Is => exact cmp_is xo
  | IsNot => exact cmp_isnot xo
  | In => exact cmp_in xo sm
  | NotIn => exact cmp_notin xo sm
end
end MP

namespace MP
open PySem L2
section
variable {G : Gx} {X : Cx} {n : Nat} {qq : Bool}

theorem ix_dic (hu : X.A.units + 1 < cLine) : IxR X (fun x y H Q => ∃ a v, x = .ref a ∧ DGet H a y (some v) ∧ Q v H) := by
  intro value slice pins s σ H x y v u Q I rx ry h hs
  obtain ⟨a, w, rfl, g, q⟩ := h
  cases rx
  exact PyProof.Rows.tail_any (dict_typeIs I g) PySem.F.slot_dict_getitem.lookup (d_getItem hu I g ry fun w' s3 I3 rw' => ⟨w, H, I3, rw', q⟩) hs
theorem atI_rep {A : List Addr} {H : Hp} {ds : List D} {vs : List V} {i : Int} {d : D} (r : RepL G A H ds vs) (e : atI ds i = some d) : ∃ v, atI vs i = some v ∧ Rep G A H d v := by
  unfold atI at e ⊢
  rw [← r.length]
  cases q : ixN ds.length i with
  | none => rw [q] at e; cases e
  | some j =>
    rw [q] at e
    obtain ⟨v, h1, h2⟩ := r.get (show ds[j]? = some d from e)
    exact ⟨v, h1, h2⟩
theorem idx_ok (xo : Xok G X n) : ∃ r, IxR X r ∧ OpOk G r idxD := by
  refine ⟨_, ix_seq.or (ix_dic xo.u1), fun A H S x y v u Q E R hx hy h => ?_⟩
  have dic : ∀ {k : Key} {kvs : List (Key × D)}, keyOf y = some k → dictOf S x = some kvs → FinE G A H (ofO (valD kvs k) id S) Q E → ∃ a w, v = .ref a ∧ DGet H a u (some w) ∧ Q w H := by
    intro k kvs hk hd h
    obtain ⟨a, vs, rfl, h1, h2, h3⟩ := dictOf_rep R hx hd
    have z := (valV_rep (G := G) (A := A) (H := H) k h2 h3).2
    cases q : valD kvs k with
    | none => rw [q] at h; exact h.elim
    | some d =>
      rw [q] at h
      obtain ⟨w, e1, e2⟩ := z d q
      exact ⟨a, w, rfl, by rw [kV_rep hy hk, ← e1]; exact .inl ⟨_, _, h1, rfl, rfl⟩, h.here R e2⟩
  unfold idxD at h
  split at h
  · rename_i i
    split at h
    · rename_i xs e
      rw [rep_int hy]
      obtain ⟨a, vs, rfl, h1, h2⟩ := seqOf_rep R hx e
      cases q : atI xs i with
      | none => rw [q] at h; exact h.elim
      | some d =>
        rw [q] at h
        obtain ⟨w, e1, e2⟩ := atI_rep h2 q
        rcases h1 with h1 | h1
        · exact .inl (.inl ⟨a, vs, i, w, rfl, rfl, by rw [xo.K]; exact h1, e1, h.here R e2⟩)
        · exact .inl (.inr (.inl ⟨a, vs, i, w, rfl, rfl, by rw [xo.K]; exact h1, e1, h.here R e2⟩))
    · split at h
      · rename_i z _
        split at h
        · rename_i hz
          cases q : atI z.cps.toList i with
          | none => rw [q] at h; exact h.elim
          | some c =>
            rw [q] at h
            rw [rep_int hy, rep_str hx]
            exact .inl (.inr (.inr ⟨z, i, c, rfl, rfl, by rw [← lim_eq]; exact hz, q, h.here R (.str _)⟩))
        · exact h.elim
      · split at h
        · rename_i kvs e
          exact .inr (dic (k := .inl i) rfl e h)
        · exact h.elim
  · split at h
    · rename_i kvs e
      exact .inr (dic rfl e h)
    · exact h.elim
  · rename_i ks
    split at h
    · rename_i k kvs e0 e
      obtain ⟨a, vs, rfl, h1, h2, h3⟩ := dictTOf_rep R hx e
      obtain ⟨b, rfl, h4⟩ := keyT_rep (k := k) hy e0
      have z := (valT_rep (G := G) (A := A) (H := H) k h2 h3).2
      cases q : valT kvs k with
      | none => rw [q] at h; exact h.elim
      | some d =>
        rw [q] at h
        obtain ⟨w, e1, e2⟩ := z d q
        exact .inr ⟨a, w, rfl, by rw [← e1]; exact .inr ⟨_, _, _, h1, rfl, h4, rfl⟩, h.here R e2⟩
    · exact h.elim
  · exact h.elim

theorem cut_rep {A : List Addr} {H : Hp} {ds : List D} {vs : List V} (r : RepL G A H ds vs) (lo hi : Option Int) : RepL G A H (cut ds lo hi) (cutV vs lo hi) := by
  unfold cut cutV
  rw [r.length]
  exact (r.drop _).take _
def SlOk (qq : Bool) (G : Gx) (r : V → Option Int → Option Int → Hp → VK → Prop) : Prop :=
  ∀ A H S x v lo hi Q E, SRel G A H S → Rep G A H x v → FinE G A H (slcD qq x lo hi S) Q E → r v lo hi H Q
theorem slc_ok (xo : Xok G X n) : ∃ r, SlR X r ∧ SlOk qq G r := by
  refine ⟨_, sl_tupA.or sl_list, fun A H S x v lo hi Q E R hx f => ?_⟩
  unfold slcD at f
  rw [xo.K]
  split at f
  · rename_i xs
    obtain ⟨a, vs, rfl, h1, h2⟩ := rep_tup hx
    refine .inl ⟨a, vs, rfl, .of h1, fun e => ?_, fun _ p hp => fin_tup R f (cut_rep h2 lo hi) p hp⟩
    have : cut xs lo hi = xs := by
      unfold cut
      rw [h2.length, e.1, e.2, ← h2.length]
      simp
    rw [this] at f
    exact f.here R hx
  · split at f
    · rename_i xs e
      obtain ⟨a, vs, rfl, h1, h2⟩ := lstOf_rep R hx e
      exact .inr ⟨a, vs, rfl, h1, fun p hp => fin_lst R f (cut_rep h2 lo hi) p hp⟩
    · exact f.elim

def CallOk (G : Gx) (r : List V → Hp → VK → Prop) (g : List D → Store → Res D) : Prop :=
  ∀ A H S ds vs Q E, SRel G A H S → RepL G A H ds vs → FinE G A H (g ds S) Q E → r vs H Q
theorem repL1 {A : List Addr} {H : Hp} {d : D} {vs : List V} (r : RepL G A H [d] vs) : ∃ v, vs = [v] ∧ Rep G A H d v := by
  cases r with
  | cons r t => cases t; exact ⟨_, rfl, r⟩
theorem repL2 {A : List Addr} {H : Hp} {d e : D} {vs : List V} (r : RepL G A H [d, e] vs) : ∃ v w, vs = [v, w] ∧ Rep G A H d v ∧ Rep G A H e w := by
  cases r with
  | cons r t =>
    obtain ⟨w, rfl, h⟩ := repL1 t
    exact ⟨_, w, rfl, r, h⟩
theorem call_lenR : CallR X (.builtin "len") (fun xs H Q => ∃ a kvs, xs = [V.ref a] ∧ Rd H a (.dK kvs) ∧ Q (.int kvs.length) H) := by
  intro pins s σ H xs us Q I r h
  obtain ⟨a, kvs, rfl, ha, q⟩ := h
  obtain ⟨u, rfl, ru⟩ := vals1 r
  cases ru
  exact d_len I ha fun t s' I' => ⟨.int kvs.length, H, I', ⟨t, rfl⟩, q⟩
theorem blt_len (xo : Xok G X n) : ∃ r, CallR X (.builtin "len") r ∧ CallOk G r (bltD qq .len) := by
  refine ⟨_, call_len_seq.or (call_len_str.or call_lenR), fun A H S ds vs Q E R hx h => ?_⟩
  unfold bltD at h
  split at h <;> try exact h.elim
  all_goals (rename_i hf; try cases hf)
  rename_i x
  obtain ⟨v, rfl, hv⟩ := repL1 hx
  unfold lenD at h
  split at h
  · rename_i xs e
    obtain ⟨a, ws, rfl, h1, h2⟩ := seqOf_rep R hv e
    refine .inl ⟨a, ws, rfl, by rw [xo.K]; exact h1, ?_⟩
    rw [← h2.length]
    exact h.here R (.int _)
  · split at h
    · rename_i z _
      rw [rep_str hv]
      split at h
      · rename_i hz
        exact .inr (.inl ⟨z, rfl, by rw [← lim_eq]; exact hz, h.here R (.int _)⟩)
      · exact h.elim
    · cases q : dictOf S x with
      | none => rw [q] at h; exact h.elim
      | some kvs =>
        rw [q] at h
        obtain ⟨a, ws, rfl, h1, h2, h3⟩ := dictOf_rep R hv q
        refine .inr (.inr ⟨a, ws, rfl, h1, ?_⟩)
        have := h3.length
        rw [List.length_map, List.length_map] at this
        rw [← this]
        exact h.here R (.int _)
theorem ty_rep {A : List Addr} {H : Hp} {S : Store} {d : D} {v : V} {t : String} (K : PySem.W.Frag) (hK : K = G.K) (R : SRel G A H S) (r : Rep G A H d v) (e : tyD S d = some t) : TyX K H v (.type t) := by
  cases d with
  | non => cases e; cases r; exact .base .non
  | bl b => cases e; cases r; exact .base (.bl b)
  | int i => cases e; cases r; exact .base (.int i)
  | str x => cases e; cases r; exact .base (.str x)
  | ty n => cases e
  | own x => cases e
  | tup xs => cases e; obtain ⟨a, vs, rfl, h1, h2⟩ := rep_tup r; exact .base (.tup h1)
  | con xs =>
    cases e
    cases r with
    | con h _ _ t => exact .base (.lst h)
  | scr xs =>
    cases e
    cases r with
    | scr h t =>
      rcases h with ⟨ob, h⟩ | ⟨o, its, m, h1, h2, _⟩
      · exact .base (.frz h)
      · exact .kList (by rw [hK]; exact h1) h2
  | exn c => cases e
  | cdic ks ds =>
    cases e
    cases r with
    | cdic h _ _ t =>
      rcases h with h | ⟨ob, h⟩
      · exact .base (.dK h)
      · exact .fDict h
  | cdit ks ds => cases e
  | cins c ns ds => cases e
  | ref n =>
    simp only [tyD] at e
    split at e
    · rename_i xs q
      cases e
      obtain ⟨a, vs, rfl, _, h2, h3⟩ := rep_lst R r q
      exact .base (.lst h2)
    · rename_i kvs q
      cases e
      obtain ⟨a, vs, rfl, _, h2, h3, h4⟩ := rep_dic R r q
      exact .base (.dK h2)
    · cases e
theorem tyD_mem {S : Store} {d : D} {t : String} (e : tyD S d = some t) : t = "NoneType" ∨ t = "bool" ∨ t = "int" ∨ t = "str" ∨ t = "tuple" ∨ t = "list" ∨ t = "dict" := by
  cases d with
  | ref n =>
    simp only [tyD] at e
    split at e <;> first | (cases e; simp) | cases e
  | _ => first | (cases e; simp) | cases e
theorem isa_kit {t T : String} {b : Bool} (ht : t = "NoneType" ∨ t = "bool" ∨ t = "int" ∨ t = "str" ∨ t = "tuple" ∨ t = "list" ∨ t = "dict") (e : isaT t T = some b) : kitB t T = some b := by
  unfold isaT at e
  rcases ht with rfl | rfl | rfl | rfl | rfl | rfl | rfl <;> (split at e <;> first | (cases e; decide +kernel) | cases e)
theorem blt_isi (xo : Xok G X n) : ∃ r, CallR X (.builtin "isinstance") r ∧ CallOk G r (bltD qq .isi) := by
  refine ⟨_, call_isi.or call_isiT, fun A H S ds vs Q E R hx h => ?_⟩
  unfold bltD at h
  split at h <;> try exact h.elim
  all_goals (rename_i hf; try cases hf)
  rename_i x c
  obtain ⟨v, w, rfl, hv, hw⟩ := repL2 hx
  unfold isiD at h
  split at h
  · rename_i T
    cases q : tyD S x with
    | none => rw [q] at h; exact h.elim
    | some t =>
      rw [q] at h
      dsimp only [Option.bind_some] at h
      cases q2 : isaT t T with
      | none => rw [q2] at h; exact h.elim
      | some b =>
        rw [q2] at h
        cases hw
        exact .inl ⟨v, .ty T, .type t, .type T, b, rfl, .ty T, ty_rep X.K xo.K R hv q, kit_ty (isa_kit (tyD_mem q) q2), h.here R (.bl b)⟩
  · rename_i T T'
    cases q : tyD S x with
    | none => rw [q] at h; exact h.elim
    | some t =>
      rw [q] at h
      dsimp only [Option.bind_some] at h
      cases q2 : isaT t T with
      | none => rw [q2] at h; exact h.elim
      | some b =>
        rw [q2] at h
        dsimp only [Option.bind_some] at h
        cases q3 : isaT t T' with
        | none => rw [q3] at h; exact h.elim
        | some b' =>
          rw [q3] at h
          obtain ⟨a, vs, rfl, h1, h2⟩ := rep_tup hw
          obtain ⟨u1, u2, rfl, k1, k2⟩ := repL2 h2
          cases k1
          cases k2
          refine .inr ⟨v, a, _, .type t, [.type T, .type T'], b || b', rfl, h1, .cons (.ty T) (.cons (.ty T') .nil), ty_rep X.K xo.K R hv q, ?_, h.here R (.bl _)⟩
          refine kitAny_cons (kit_ty (isa_kit (tyD_mem q) q2)) (fun hb => ?_) fun hb => by rw [hb]; rfl
          subst hb
          refine kitAny_cons (kit_ty (isa_kit (tyD_mem q) q3)) (fun hb => ?_) fun hb => by rw [hb]; rfl
          subst hb
          exact kitAny_nil
  · exact h.elim
theorem blt_all (xo : Xok G X n) (hc : X.calm = true) : ∃ r, CallR X (.builtin "all") r ∧ CallOk G r (bltD qq .all) := by
  refine ⟨_, cr_all hc, fun A H S ds vs Q E R hx h => ?_⟩
  unfold bltD at h
  split at h <;> try exact h.elim
  all_goals (rename_i hf; try cases hf)
  rename_i x
  obtain ⟨v, rfl, hv⟩ := repL1 hx
  cases q : lstOf S x with
  | none => rw [q] at h; exact h.elim
  | some xs =>
    rw [q] at h
    dsimp only [Option.bind_some] at h
    cases q2 : blsOf xs with
    | none => rw [q2] at h; exact h.elim
    | some bs =>
      rw [q2] at h
      obtain ⟨a, ws, rfl, h1, h2⟩ := lstOf_rep R hv q
      rw [blsOf_rep h2 q2] at h1
      exact ⟨a, bs, rfl, by rw [xo.K]; exact h1, h.here R (.bl _)⟩
theorem blt_any (xo : Xok G X n) (hc : X.calm = true) : ∃ r, CallR X (.builtin "any") r ∧ CallOk G r (bltD qq .any) := by
  refine ⟨_, cr_any hc, fun A H S ds vs Q E R hx h => ?_⟩
  unfold bltD at h
  split at h <;> try exact h.elim
  all_goals (rename_i hf; try cases hf)
  rename_i x
  obtain ⟨v, rfl, hv⟩ := repL1 hx
  cases q : lstOf S x with
  | none => rw [q] at h; exact h.elim
  | some xs =>
    rw [q] at h
    dsimp only [Option.bind_some] at h
    cases q2 : blsOf xs with
    | none => rw [q2] at h; exact h.elim
    | some bs =>
      rw [q2] at h
      obtain ⟨a, ws, rfl, h1, h2⟩ := lstOf_rep R hv q
      rw [blsOf_rep h2 q2] at h1
      exact ⟨a, bs, rfl, by rw [xo.K]; exact h1, h.here R (.bl _)⟩
theorem lst_ints {A : List Addr} {H : Hp} {S : Store} {x : D} {v : V} {ns : List Int} (R : SRel G A H S) (hv : Rep G A H x v) (e : (lstOf S x).bind intsOf = some ns) : ∃ a, v = .ref a ∧ SqL G.K H a (ns.map V.int) := by
  cases q : lstOf S x with
  | none => rw [q] at e; cases e
  | some xs =>
    rw [q] at e
    obtain ⟨a, ws, rfl, h1, h2⟩ := lstOf_rep R hv q
    rw [intsOf_rep h2 e] at h1
    exact ⟨a, rfl, h1⟩
theorem foldl_max : ∀ (l : List Int) (x : Int), (l.foldl max x = x ∨ l.foldl max x ∈ l) ∧ x ≤ l.foldl max x ∧ ∀ y ∈ l, y ≤ l.foldl max x
  | [], x => by simp
  | a :: l, x => by
    obtain ⟨h1, h2, h3⟩ := foldl_max l (max x a)
    rw [List.foldl_cons]
    refine ⟨?_, by omega, fun y hy => ?_⟩
    · rcases h1 with h | h
      · rw [h]
        by_cases hx : x ≤ a
        · right; simp [Int.max_eq_right hx]
        · left; omega
      · right; exact List.mem_cons_of_mem _ h
    · rcases List.mem_cons.mp hy with rfl | hy
      · omega
      · exact h3 y hy
theorem foldl_min : ∀ (l : List Int) (x : Int), (l.foldl min x = x ∨ l.foldl min x ∈ l) ∧ l.foldl min x ≤ x ∧ ∀ y ∈ l, l.foldl min x ≤ y
  | [], x => by simp
  | a :: l, x => by
    obtain ⟨h1, h2, h3⟩ := foldl_min l (min x a)
    rw [List.foldl_cons]
    refine ⟨?_, by omega, fun y hy => ?_⟩
    · rcases h1 with h | h
      · rw [h]
        by_cases hx : a ≤ x
        · right; simp [Int.min_eq_right hx]
        · left; omega
      · right; exact List.mem_cons_of_mem _ h
    · rcases List.mem_cons.mp hy with rfl | hy
      · omega
      · exact h3 y hy
theorem maxL_uniq {ns : List Int} {m : Int} (hm : m ∈ ns) (hy : ∀ y, y ∈ ns → y ≤ m) : maxL ns = m := by
  cases ns with
  | nil => cases hm
  | cons a l =>
    obtain ⟨h1, h2, h3⟩ := foldl_max l a
    show l.foldl max a = m
    have u1 : l.foldl max a ≤ m := by
      rcases h1 with h | h
      · rw [h]; exact hy _ List.mem_cons_self
      · exact hy _ (List.mem_cons_of_mem _ h)
    have u2 : m ≤ l.foldl max a := by
      rcases List.mem_cons.mp hm with rfl | hm
      · exact h2
      · exact h3 m hm
    omega
theorem minL_uniq {ns : List Int} {m : Int} (hm : m ∈ ns) (hy : ∀ y, y ∈ ns → m ≤ y) : minL ns = m := by
  cases ns with
  | nil => cases hm
  | cons a l =>
    obtain ⟨h1, h2, h3⟩ := foldl_min l a
    show l.foldl min a = m
    have u1 : m ≤ l.foldl min a := by
      rcases h1 with h | h
      · rw [h]; exact hy _ List.mem_cons_self
      · exact hy _ (List.mem_cons_of_mem _ h)
    have u2 : l.foldl min a ≤ m := by
      rcases List.mem_cons.mp hm with rfl | hm
      · exact h2
      · exact h3 m hm
    omega
theorem blt_max2 (xo : Xok G X n) (hc : X.calm = true) : ∃ r, CallR X (.builtin "max") r ∧ CallOk G r (bltD qq .max2) := by
  refine ⟨_, call_max2 hc, fun A H S ds vs Q E R hx h => ?_⟩
  unfold bltD at h
  split at h <;> try exact h.elim
  all_goals (rename_i hf; try cases hf)
  rename_i i j
  obtain ⟨v, w, rfl, hv, hw⟩ := repL2 hx
  rw [rep_int hv, rep_int hw]
  exact ⟨i, j, rfl, h.here R (.int _)⟩
theorem blt_min2 (xo : Xok G X n) (hc : X.calm = true) : ∃ r, CallR X (.builtin "min") r ∧ CallOk G r (bltD qq .min2) := by
  refine ⟨_, call_min2 hc, fun A H S ds vs Q E R hx h => ?_⟩
  unfold bltD at h
  split at h <;> try exact h.elim
  all_goals (rename_i hf; try cases hf)
  rename_i i j
  obtain ⟨v, w, rfl, hv, hw⟩ := repL2 hx
  rw [rep_int hv, rep_int hw]
  exact ⟨i, j, rfl, h.here R (.int _)⟩
theorem ints_reads {A : List Addr} {H : Hp} {pins : List (Addr × Obj)} {σ : St} {s : Shared} : ∀ {ns : List Int} {us : List Value}, Vals (ns.map V.int) us → ReadsAll s.heap us (ns.map PyData.int) []
  | [], _, .nil => .nil
  | n :: ns, _, .cons r t => by
    obtain ⟨t', rfl⟩ := r
    exact ReadsAll.cons (as := []) (.int n t') (ints_reads (A := A) (H := H) (pins := pins) (σ := σ) t)
theorem ints_alike : ∀ (ns : List Int), PySem.W.AlikeAll (ns.map PyData.int) := by
  intro ns
  refine ⟨fun x hx y hy => ?_, fun x hx => ?_⟩
  · obtain ⟨a, _, rfl⟩ := List.mem_map.mp hx
    obtain ⟨b, _, rfl⟩ := List.mem_map.mp hy
    rfl
  · obtain ⟨a, _, rfl⟩ := List.mem_map.mp hx
    exact fun z => nomatch z
theorem ints_depth : ∀ ns : List Int, PyData.depthAll (ns.map PyData.int) = 0
  | [] => rfl
  | n :: ns => by rw [List.map_cons, PyData.depthAll, ints_depth ns]; rfl
theorem call_maxT (hc : X.calm = true) (hu : X.A.units + 1 < cLine) : CallR X (.builtin "max") (fun xs H Q => ∃ a n ns, xs = [V.ref a] ∧ SqT X.K H a ((n :: ns).map V.int) ∧ Q (.int (maxL (n :: ns))) H) := by
  intro pins s σ H vs us Q I r h
  obtain ⟨a, n, ns, rfl, hs, q⟩ := h
  obtain ⟨its, rv, ht, _⟩ := I.tuple hs
  rw [Vals.ref1 r]
  refine PySem.W.max_tuple_data (x := .int n) (xs := ns.map .int) (as := []) (I.ok.hd hc) ht (by simpa using ints_reads (A := []) (H := H) (pins := pins) (σ := σ) rv) (ints_alike (n :: ns)) (by rw [show (PyData.int n :: ns.map PyData.int) = (n :: ns).map PyData.int from rfl, ints_depth]; exact hu) fun i v h' tk bs hv hr hk => ?_
  rw [PySem.W.maxD_ints] at hr
  cases hr
  exact ⟨.int _, H, I.kept hk, ⟨_, rfl⟩, q⟩
theorem call_minT (hc : X.calm = true) (hu : X.A.units + 1 < cLine) : CallR X (.builtin "min") (fun xs H Q => ∃ a n ns, xs = [V.ref a] ∧ SqT X.K H a ((n :: ns).map V.int) ∧ Q (.int (minL (n :: ns))) H) := by
  intro pins s σ H vs us Q I r h
  obtain ⟨a, n, ns, rfl, hs, q⟩ := h
  obtain ⟨its, rv, ht, _⟩ := I.tuple hs
  rw [Vals.ref1 r]
  refine PySem.W.min_tuple_data (x := .int n) (xs := ns.map .int) (as := []) (I.ok.hd hc) ht (by simpa using ints_reads (A := []) (H := H) (pins := pins) (σ := σ) rv) (ints_alike (n :: ns)) (by rw [show (PyData.int n :: ns.map PyData.int) = (n :: ns).map PyData.int from rfl, ints_depth]; exact hu) fun i v h' tk bs hv hr hk => ?_
  rw [PySem.W.minD_ints] at hr
  cases hr
  exact ⟨.int _, H, I.kept hk, ⟨_, rfl⟩, q⟩
theorem call_mind (hc : X.calm = true) (hu : X.A.units + 1 < cLine) : CallRK X (.builtin "min") [Str.ofString "default"] (fun xs zs H Q => ∃ a ns, xs = [V.ref a] ∧ zs = [V.non] ∧ SqL X.K H a (ns.map V.int) ∧ (ns = [] → Q .non H) ∧ ∀ n l, ns = n :: l → Q (.int (minL (n :: l))) H) := by
  intro pins s σ H vs zs us ws Q I r rz h
  obtain ⟨a, ns, rfl, rfl, hs, q0, q⟩ := h
  obtain ⟨its, rv, ht, _⟩ := I.list hs
  rw [Vals.ref1 r]
  obtain ⟨w, rfl, rw'⟩ := vals1 rz
  cases rw'
  refine PySem.W.min_list_default (xs := ns.map .int) (as := []) (I.ok.hd hc) ht.isList (by simpa using ints_reads (A := []) (H := H) (pins := pins) (σ := σ) rv) (ints_alike ns) (by rw [ints_depth]; exact hu) (fun e h' tk hk => ?_) fun y ys i v h' tk bs e hv hr hk => ?_
  · exact ⟨.non, H, I.kept hk, rfl, q0 (by simpa using e)⟩
  · cases ns with
    | nil => cases e
    | cons n l =>
      cases e
      rw [PySem.W.minD_ints] at hr
      cases hr
      exact ⟨.int _, H, I.kept hk, ⟨_, rfl⟩, q n l rfl⟩
theorem seq_ints {A : List Addr} {H : Hp} {S : Store} {x : D} {v : V} {ns : List Int} (R : SRel G A H S) (hv : Rep G A H x v) (e : (seqOf S x).bind intsOf = some ns) : ∃ a, v = .ref a ∧ (SqL G.K H a (ns.map V.int) ∨ SqT G.K H a (ns.map V.int)) := by
  cases q : seqOf S x with
  | none => rw [q] at e; cases e
  | some xs =>
    rw [q] at e
    obtain ⟨a, ws, rfl, h1, h2⟩ := seqOf_rep R hv q
    rw [intsOf_rep h2 e] at h1
    exact ⟨a, rfl, h1⟩
theorem call_sumT (hc : X.calm = true) : CallR X (.builtin "sum") (fun xs H Q => ∃ (a : Addr) (ns : List Int), xs = [V.ref a] ∧ SqT X.K H a (ns.map V.int) ∧ Q (.int ns.sum) H) := by
  intro pins s σ H vs us Q I r h
  obtain ⟨a, ns, rfl, hs, q⟩ := h
  obtain ⟨its, rv, ht, _⟩ := I.tuple hs
  rw [Vals.ref1 r]
  obtain ⟨xs, hx⟩ := rv.ints.allInts.items
  have hn : numsOf its.toArray.toList = ns := by rw [show its.toArray.toList = its from rfl, rv.ints.numsOf]
  have hl : s.heap.IsTuple a its.toArray := ht
  rw [hx] at hl hn
  rw [nums_intItems] at hn
  refine PySem.W.ktm_sumG (I.ok.hd hc) hl fun h' tk t' hk => ⟨.int _, H, I.kept hk, ⟨t', by rw [preSum_eq, List.take_of_length_le (by simp), hn]⟩, q⟩
theorem blt_sum (xo : Xok G X n) (hc : X.calm = true) : ∃ r, CallR X (.builtin "sum") r ∧ CallOk G r (bltD qq .sum) := by
  refine ⟨_, (cr_sum hc).or (call_sumT hc), fun A H S ds vs Q E R hx h => ?_⟩
  unfold bltD at h
  split at h <;> try exact h.elim
  all_goals (rename_i hf; try cases hf)
  rename_i x
  obtain ⟨v, rfl, hv⟩ := repL1 hx
  cases q : (seqOf S x).bind intsOf with
  | none => rw [q] at h; exact h.elim
  | some ns =>
    rw [q] at h
    obtain ⟨a, rfl, h1⟩ := seq_ints R hv q
    rcases h1 with h1 | h1
    · exact .inl ⟨a, ns, rfl, by rw [xo.K]; exact h1, h.here R (.int _)⟩
    · exact .inr ⟨a, ns, rfl, by rw [xo.K]; exact h1, h.here R (.int _)⟩
theorem blt_max1 (xo : Xok G X n) (hc : X.calm = true) : ∃ r, CallR X (.builtin "max") r ∧ CallOk G r (bltD qq .max1) := by
  refine ⟨_, (cr_max hc).or (call_maxT hc xo.u1), fun A H S ds vs Q E R hx h => ?_⟩
  unfold bltD at h
  split at h <;> try exact h.elim
  all_goals (rename_i hf; try cases hf)
  rename_i x
  obtain ⟨v, rfl, hv⟩ := repL1 hx
  split at h
  · rename_i ns q
    split at h
    · rename_i hl
      obtain ⟨a, rfl, h1⟩ := seq_ints R hv q
      rcases h1 with h1 | h1
      · refine .inl ⟨a, ns, rfl, by rw [xo.K]; exact h1, hl, fun m hm hy => ?_⟩
        rw [← maxL_uniq hm hy]
        exact h.here R (.int _)
      · cases ns with
        | nil => simp at hl
        | cons n l => exact .inr ⟨a, n, l, rfl, by rw [xo.K]; exact h1, h.here R (.int _)⟩
    · exact h.elim
  · exact h.elim
theorem pairBack {α β : Type} {F : α → β → Prop} : ∀ {l : List α} {m : List β} {i : Nat} {b : β}, Paired F l m → m[i]? = some b → ∃ a, l[i]? = some a ∧ F a b
  | _, _, _, _, .nil, e => by simp at e
  | _, _, 0, _, .cons r _, e => by simp at e; subst e; exact ⟨_, rfl, r⟩
  | _, _, i + 1, b, .cons _ t, e => by
    obtain ⟨a, h1, h2⟩ := pairBack (i := i) (b := b) t (by simpa using e)
    exact ⟨a, by simpa using h1, h2⟩
theorem pairAt {α β : Type} {F : α → β → Prop} : ∀ {l : List α} {m : List β} {i : Nat} {a : α}, Paired F l m → l[i]? = some a → ∃ b, m[i]? = some b ∧ F a b
  | _, _, _, _, .nil, e => by simp at e
  | _, _, 0, _, .cons r _, e => by simp at e; subst e; exact ⟨_, rfl, r⟩
  | _, _, i + 1, a, .cons _ t, e => by
    obtain ⟨b, h1, h2⟩ := pairAt (i := i) (a := a) t (by simpa using e)
    exact ⟨b, by simpa using h1, h2⟩
theorem pyRow_inj {a b : List Int} (h : pyRow a = pyRow b) : a = b := by
  unfold pyRow at h
  have h := PyData.tuple.inj h
  exact (List.map_inj_right fun x y z => PyData.int.inj z).mp h
theorem minD_rows (n : List Int) : ∀ ns : List (List Int), PySem.W.minD (pyRow n) (ns.map pyRow) = pyRow (minRow n ns) := by
  intro ns
  unfold PySem.W.minD minRow
  induction ns generalizing n with
  | nil => rfl
  | cons m ns ih =>
    rw [List.map_cons, List.foldl_cons, List.foldl_cons, ← ih]
    congr 1
    split <;> rfl
theorem alike_rows (a b : List Int) : PySem.W.alike (pyRow a) (pyRow b) = true := by
  unfold pyRow
  rw [PySem.W.alike]
  induction a generalizing b with
  | nil => rw [List.map_nil, PySem.W.alikeAll]
  | cons x a ih =>
    cases b with
    | nil => rw [List.map_nil, List.map_cons, PySem.W.alikeAll]
    | cons y b => rw [List.map_cons, List.map_cons, PySem.W.alikeAll, ih, PySem.W.alike]; rfl
theorem rows_alike (ns : List (List Int)) : PySem.W.AlikeAll (ns.map pyRow) := by
  refine ⟨fun x hx y hy => ?_, fun x hx => ?_⟩
  · obtain ⟨a, _, rfl⟩ := List.mem_map.mp hx
    obtain ⟨b, _, rfl⟩ := List.mem_map.mp hy
    exact alike_rows a b
  · obtain ⟨a, _, rfl⟩ := List.mem_map.mp hx
    exact fun z => nomatch z
theorem rows_depth : ∀ ns : List (List Int), PyData.depthAll (ns.map pyRow) ≤ 1
  | [] => by simp [PyData.depthAll]
  | n :: ns => by
    have := rows_depth ns
    have e : (pyRow n).depth ≤ 1 := by unfold pyRow; simp only [PyData.depth, ints_depth]; omega
    rw [List.map_cons, PyData.depthAll]
    omega
def RowsAt (H : Hp) (us : List V) (ns : List (List Int)) : Prop := Paired (fun u n => ∃ p, u = .ref p ∧ H p = some (.tup (n.map V.int))) us ns
theorem rows_reads {X : Cx} {pins : List (Addr × Obj)} {σ : St} {H : Hp} {s : Shared} (I : Inv X pins σ H s) : ∀ {us : List V} {ns : List (List Int)} {its : List Value}, RowsAt H us ns → Vals us its → ReadsAll s.heap its (ns.map pyRow) []
  | _, _, _, .nil, .nil => .nil
  | _, _, _, .cons (b := n) ⟨p, e, hp⟩ t, .cons r rt => by
    subst e
    cases r
    obtain ⟨its', rv, ht, _⟩ := I.tuple (SqT.of hp)
    obtain ⟨o, ho, hc, m, hd⟩ := ht
    have := ints_reads (A := []) (H := H) (pins := pins) (σ := σ) (s := s) rv
    exact ReadsAll.cons (as := []) (.tuple ho hc hd (by simpa using this)) (rows_reads I t rt)
theorem call_minRows (hc : X.calm = true) (hu : X.A.units + 2 < cLine) : CallR X (.builtin "min") (fun xs H Q => ∃ a us n ns, xs = [V.ref a] ∧ SqL X.K H a us ∧ RowsAt H us (n :: ns) ∧ ∀ (i : Nat) u, us[i]? = some u → (n :: ns)[i]? = some (minRow n ns) → Q u H) := by
  intro pins s σ H vs its0 Q I r h
  obtain ⟨a, us, n, ns, rfl, hs, hr, q⟩ := h
  obtain ⟨its, rv, hl, _⟩ := I.list hs
  rw [Vals.ref1 r]
  have rd := rows_reads I hr rv
  have hd := rows_depth (n :: ns)
  rw [List.map_cons] at rd hd
  refine PySem.W.min_list_data (x := pyRow n) (xs := ns.map pyRow) (as := []) (I.ok.hd hc) hl.isList (by simpa using rd) (rows_alike (n :: ns)) (by omega) fun i v h' tk bs hv hrd hk => ?_
  rw [minD_rows] at hrd
  have hv : its[i]? = some v := by simpa using hv
  obtain ⟨u, hu', ru⟩ := pairBack rv hv
  obtain ⟨m, hm, p, rfl, hp⟩ := pairAt hr hu'
  cases ru
  obtain ⟨its', rv', ht, _⟩ := I.tuple (SqT.of hp)
  obtain ⟨o, ho, hcl, k, hdt⟩ := ht
  have r1 : Reads s.heap (.ref p) (pyRow m) [] := .tuple ho hcl hdt (by simpa using ints_reads (A := []) (H := H) (pins := pins) (σ := σ) rv')
  obtain ⟨e, _⟩ := PyProof.Rows.reads_det (fun b o e _ => hk b o e) r1 hrd
  have := pyRow_inj e
  subst this
  exact ⟨.ref p, H, I.kept hk, rfl, q i _ hu' hm⟩
theorem rowsOf_rep {A : List Addr} {H : Hp} : ∀ {xs : List D} {vs : List V} {ns : List (List Int)}, RepL G A H xs vs → rowsOf xs = some ns → RowsAt H vs ns ∧ xs = ns.map fun n => .tup (n.map .int)
  | [], _, _, .nil, e => by
    cases e
    exact ⟨.nil, rfl⟩
  | d :: xs, v :: vs, ns, .cons r t, e => by
    unfold rowsOf at e
    split at e
    · rename_i z; cases z
    · rename_i ys r' z
      cases z
      simp only [Option.bind_eq_some_iff, Option.map_eq_some_iff] at e
      obtain ⟨n, e1, ms, e2, rfl⟩ := e
      obtain ⟨h1, h2⟩ := rowsOf_rep t e2
      obtain ⟨a, ws, rfl, h3, h4⟩ := rep_tup r
      have e3 := intsOf_rep h4 e1
      have e4 : ys = n.map .int := by
        clear h3 h4 e3 r t
        induction ys generalizing n with
        | nil => cases e1; rfl
        | cons y ys ih =>
          unfold intsOf at e1
          split at e1
          · rename_i z; cases z
          · rename_i i r2 z
            cases z
            rw [Option.map_eq_some_iff] at e1
            obtain ⟨m, e5, rfl⟩ := e1
            rw [ih _ e5]
            rfl
          · cases e1
      refine ⟨.cons ⟨a, rfl, by rw [h3, e3]⟩ h1, by rw [h2, e4]; rfl⟩
    · cases e
theorem blt_min1 (xo : Xok G X n) (hc : X.calm = true) : ∃ r, CallR X (.builtin "min") r ∧ CallOk G r (bltD qq .min1) := by
  refine ⟨_, (cr_min hc).or ((call_minT hc xo.u1).or (call_minRows hc (by have := xo.u65; omega))), fun A H S ds vs Q E R hx h => ?_⟩
  unfold bltD at h
  split at h <;> try exact h.elim
  all_goals (rename_i hf; try cases hf)
  rename_i x
  obtain ⟨v, rfl, hv⟩ := repL1 hx
  split at h
  · rename_i ns q
    split at h
    · rename_i hl
      obtain ⟨a, rfl, h1⟩ := seq_ints R hv q
      rcases h1 with h1 | h1
      · refine .inl ⟨a, ns, rfl, by rw [xo.K]; exact h1, hl, fun m hm hy => ?_⟩
        rw [← minL_uniq hm hy]
        exact h.here R (.int _)
      · cases ns with
        | nil => simp at hl
        | cons n l => exact .inr (.inl ⟨a, n, l, rfl, by rw [xo.K]; exact h1, h.here R (.int _)⟩)
    · exact h.elim
  · split at h
    · rename_i m ms q
      cases q1 : lstOf S x with
      | none => rw [q1] at q; cases q
      | some xs =>
        rw [q1] at q
        dsimp only [Option.bind_some] at q
        obtain ⟨a, ws, rfl, h1, h2⟩ := lstOf_rep R hv q1
        obtain ⟨h3, h4⟩ := rowsOf_rep h2 q
        refine .inr (.inr ⟨a, ws, m, ms, rfl, by rw [xo.K]; exact h1, h3, fun i u hu hm => ?_⟩)
        have e5 : xs[i]? = some (.tup ((minRow m ms).map .int)) := by rw [h4, List.getElem?_map, hm]; rfl
        obtain ⟨w, e6, e7⟩ := h2.get e5
        rw [hu] at e6
        cases e6
        exact h.here R e7
    · exact h.elim
theorem keysT_rep {A : List Addr} {H : Hp} : ∀ {kvs : List (List Key × D)} {ws : List (List Key × V)} {bs : List Addr}, kvs.map (·.1) = ws.map (·.1) → IsKeys H ws bs → RepL G A H (kvs.map fun kv => D.tup (kv.1.map kD)) (bs.map V.ref)
  | [], [], _, _, .nil => .nil
  | [], _ :: _, _, h, _ => by simp at h
  | _ :: _, [], _, h, _ => by simp at h
  | kv :: kvs, w :: ws, _, h, .cons h1 t => by
    simp only [List.map_cons, List.cons.injEq] at h
    refine .cons (.tup h1 ?_) (keysT_rep h.2 t)
    rw [h.1]
    exact kDs_rep _
theorem blt_list (xo : Xok G X n) (hc : X.calm = true) : ∃ r, CallR X (.type "list") r ∧ CallOk G r (bltD qq .list) := by
  refine ⟨_, call_list_of.or (call_list_dT hc), fun A H S ds vs Q E R hx h => ?_⟩
  unfold bltD at h
  split at h <;> try exact h.elim
  all_goals (rename_i hf; try cases hf)
  rename_i x
  obtain ⟨v, rfl, hv⟩ := repL1 hx
  split at h
  · rename_i xs q
    obtain ⟨a, ws, rfl, h1, h2⟩ := seqOf_rep R hv q
    exact .inl ⟨a, ws, rfl, by rw [xo.K]; exact h1, fun p hp => fin_lst R h h2 p hp⟩
  · split at h
    · rename_i kvs q
      obtain ⟨a, ws, rfl, h1, h2, h3⟩ := dictTOf_rep R hv q
      exact .inr ⟨a, ws, rfl, h1, fun p bs hp hb => fin_lst R h (keysT_rep h2 hb) p hp⟩
    · exact h.elim
theorem fin_dic {A : List Addr} {H : Hp} {S : Store} {q : Bool} {kvs : List (Key × D)} {ws : List (Key × V)} {Q : VK} {E : XK} (R : SRel G A H S) (h : FinE G A H (newDk q kvs S) Q E) (hk : kvs.map (·.1) = ws.map (·.1)) (r : RepL G A H (kvs.map (·.2)) (ws.map (·.2))) (p : Addr) (hp : H p = none) : Q (.ref p) (upd H p (.dK ws)) := by
  cases q with
  | false => exact h (A ++ [p]) _ _ (ext_new hp) (R.new hp ⟨ws, upd_same, hk, r.ext R (ext_new hp)⟩) (.ref (new_ix R p))
  | true =>
    refine h A _ _ (ext_laid hp) (R.laid hp) ?_
    rw [hk]
    exact .cdic (.inl upd_same) (R.not_none hp) (R.notShut hp) (r.ext R (ext_laid hp))
theorem putK_rep {κ : Type} [DecidableEq κ] {A : List Addr} {H : Hp} {k : κ} {d : D} {v : V} (p : Rep G A H d v) : ∀ {kvs : List (κ × D)} {vs : List (κ × V)}, kvs.map (·.1) = vs.map (·.1) → RepL G A H (kvs.map (·.2)) (vs.map (·.2)) →
    (putK' kvs k d).map (·.1) = (putK vs k v).map (·.1) ∧ RepL G A H ((putK' kvs k d).map (·.2)) ((putK vs k v).map (·.2)) := by
  intro kvs vs h r
  have hany : (kvs.any fun kv => decide (kv.1 = k)) = (vs.any fun kv => decide (kv.1 = k)) := by
    have e1 : (kvs.any fun kv => decide (kv.1 = k)) = (kvs.map (·.1)).any fun x => decide (x = k) := by rw [List.any_map]; rfl
    have e2 : (vs.any fun kv => decide (kv.1 = k)) = (vs.map (·.1)).any fun x => decide (x = k) := by rw [List.any_map]; rfl
    rw [e1, e2, h]
  unfold putK' putK
  rw [hany]
  split
  · rename_i hh
    clear hany hh
    induction kvs generalizing vs with
    | nil =>
      cases vs with
      | nil => exact ⟨rfl, .nil⟩
      | cons => simp at h
    | cons kv kvs ih =>
      cases vs with
      | nil => simp at h
      | cons w vs =>
        simp only [List.map_cons, List.cons.injEq] at h
        simp only [List.map_cons] at r
        cases r with
        | cons r1 r2 =>
          obtain ⟨i1, i2⟩ := ih h.2 r2
          simp only [List.map_cons]
          rw [← h.1]
          by_cases hk : kv.1 = k
          · rw [if_pos hk, if_pos hk]
            exact ⟨by rw [i1], .cons p i2⟩
          · rw [if_neg hk, if_neg hk]
            exact ⟨by rw [i1, h.1], .cons r1 i2⟩
  · simp only [List.map_append]
    exact ⟨by rw [h]; rfl, r.append (.cons p .nil)⟩
theorem dropK_rep {κ : Type} [DecidableEq κ] {A : List Addr} {H : Hp} (k : κ) : ∀ {kvs : List (κ × D)} {vs : List (κ × V)}, kvs.map (·.1) = vs.map (·.1) → RepL G A H (kvs.map (·.2)) (vs.map (·.2)) →
    (dropK' kvs k).map (·.1) = (dropK vs k).map (·.1) ∧ RepL G A H ((dropK' kvs k).map (·.2)) ((dropK vs k).map (·.2))
  | [], [], _, _ => ⟨rfl, .nil⟩
  | [], _ :: _, h, _ => by simp at h
  | _ :: _, [], h, _ => by simp at h
  | kv :: kvs, w :: vs, h, r => by
    simp only [List.map_cons, List.cons.injEq] at h
    simp only [List.map_cons] at r
    cases r with
    | cons r1 r2 =>
      have ih := dropK_rep k h.2 r2
      unfold dropK' dropK at ih ⊢
      rw [List.filter_cons, List.filter_cons, h.1]
      split
      · exact ⟨by rw [List.map_cons, List.map_cons, ih.1, h.1], .cons r1 ih.2⟩
      · exact ih
theorem merge_rep {A : List Addr} {H : Hp} : ∀ {ps : List (Key × D)} {qs : List (Key × V)} {kvs : List (Key × D)} {vs : List (Key × V)}, ps.map (·.1) = qs.map (·.1) → RepL G A H (ps.map (·.2)) (qs.map (·.2)) → kvs.map (·.1) = vs.map (·.1) → RepL G A H (kvs.map (·.2)) (vs.map (·.2)) →
    (ps.foldl (fun acc kv => putK' acc kv.1 kv.2) kvs).map (·.1) = (mergeK vs qs).map (·.1) ∧ RepL G A H ((ps.foldl (fun acc kv => putK' acc kv.1 kv.2) kvs).map (·.2)) ((mergeK vs qs).map (·.2))
  | [], [], _, _, _, _, h, r => ⟨h, r⟩
  | [], _ :: _, _, _, h, _, _, _ => by simp at h
  | _ :: _, [], _, _, h, _, _, _ => by simp at h
  | p :: ps, q :: qs, kvs, vs, h, r, h2, r2 => by
    simp only [List.map_cons, List.cons.injEq] at h
    simp only [List.map_cons] at r
    cases r with
    | cons r1 r3 =>
      obtain ⟨k1, k2⟩ := putK_rep (k := p.1) r1 h2 r2
      have := merge_rep (kvs := putK' kvs p.1 p.2) (vs := putK vs p.1 q.2) h.2 r3 k1 k2
      rw [List.foldl_cons, show mergeK vs (q :: qs) = mergeK (putK vs q.1 q.2) qs from rfl, ← h.1]
      exact this
theorem pairsOf_rep {A : List Addr} {H : Hp} {K : PySem.W.Frag} : ∀ {xs : List D} {vs : List V} {ps : List (Key × D)}, RepL G A H xs vs → pairsOf xs = some ps → ∃ (as : List Addr) (qs : List (Key × V)), vs = as.map V.ref ∧ Paired (fun p kv => SqT K H p [kV kv.1, kv.2]) as qs ∧ ps.map (·.1) = qs.map (·.1) ∧ RepL G A H (ps.map (·.2)) (qs.map (·.2))
  | [], _, _, .nil, e => by
    simp [pairsOf] at e
    subst e
    exact ⟨[], [], rfl, .nil, rfl, .nil⟩
  | d :: xs, _, ps, .cons r t, e => by
    unfold pairsOf at e
    split at e
    · rename_i z; cases z
    · rename_i k v r' z
      cases z
      cases q : keyOf k with
      | none => rw [q] at e; cases e
      | some k' =>
        rw [q] at e
        simp only [Option.bind_some, Option.map_eq_some_iff] at e
        obtain ⟨ps', e1, rfl⟩ := e
        obtain ⟨as, qs, h1, h2, h3, h4⟩ := pairsOf_rep (K := K) t e1
        obtain ⟨a, ws, rfl, h5, h6⟩ := rep_tup r
        obtain ⟨w1, w2, rfl, h7, h8⟩ := repL2 h6
        rw [kV_rep h7 q] at h5
        exact ⟨a :: as, (k', w2) :: qs, by rw [h1]; rfl, .cons (.of h5) h2, by simp [h3], .cons h8 h4⟩
    · cases e
theorem blt_dict (xo : Xok G X n) (hc : X.calm = true) : ∃ r, CallR X (.type "dict") r ∧ CallOk G r (bltD qq .dict) := by
  refine ⟨_, call_dictD.or (call_dictP hc), fun A H S ds vs Q E R hx h => ?_⟩
  unfold bltD at h
  split at h <;> try exact h.elim
  all_goals (rename_i hf; try cases hf)
  rename_i x
  obtain ⟨v, rfl, hv⟩ := repL1 hx
  unfold dictD at h
  split at h
  · rename_i kvs q
    obtain ⟨a, ws, rfl, h1, h2, h3⟩ := dictOf_rep R hv q
    exact .inl ⟨a, ws, rfl, h1, fun p hp => fin_dic R h h2 h3 p hp⟩
  · cases q : lstOf S x with
    | none => rw [q] at h; exact h.elim
    | some xs =>
      rw [q] at h
      dsimp only [Option.bind_some] at h
      cases q2 : pairsOf xs with
      | none => rw [q2] at h; exact h.elim
      | some ps =>
        rw [q2] at h
        obtain ⟨a, ws, rfl, h1, h2⟩ := lstOf_rep R hv q
        obtain ⟨as, qs, rfl, h3, h4, h5⟩ := pairsOf_rep (K := X.K) h2 q2
        obtain ⟨k1, k2⟩ := merge_rep (kvs := []) (vs := []) h4 h5 rfl .nil
        exact .inr ⟨a, as, qs, rfl, by rw [xo.K]; exact h1, h3, fun p hp => fin_dic R h k1 k2 p hp⟩
theorem blt_tuple (xo : Xok G X n) : ∃ r, CallR X (.type "tuple") r ∧ CallOk G r (bltD qq .tuple) := by
  refine ⟨_, call_tuple_of, fun A H S ds vs Q E R hx h => ?_⟩
  unfold bltD at h
  split at h <;> try exact h.elim
  all_goals (rename_i hf; try cases hf)
  rename_i x
  obtain ⟨v, rfl, hv⟩ := repL1 hx
  cases q : seqOf S x with
  | none => rw [q] at h; exact h.elim
  | some xs =>
    rw [q] at h
    cases x with
    | tup ys =>
      cases q
      obtain ⟨a, ws, rfl, h1, h2⟩ := rep_tup hv
      exact ⟨a, ws, rfl, .inr ⟨.of h1, h.here R hv⟩⟩
    | con ys =>
      obtain ⟨a, ws, rfl, h1, h2⟩ := lstOf_rep (xs := xs) R hv (by simpa [lstOf, seqOf] using q)
      exact ⟨a, ws, rfl, .inl ⟨by rw [xo.K]; exact h1, fun p hp => fin_tup R h h2 p hp⟩⟩
    | scr ys =>
      obtain ⟨a, ws, rfl, h1, h2⟩ := lstOf_rep (xs := xs) R hv (by simpa [lstOf, seqOf] using q)
      exact ⟨a, ws, rfl, .inl ⟨by rw [xo.K]; exact h1, fun p hp => fin_tup R h h2 p hp⟩⟩
    | ref m =>
      obtain ⟨a, ws, rfl, h1, h2⟩ := lstOf_rep (xs := xs) R hv (by simpa [lstOf, seqOf] using q)
      exact ⟨a, ws, rfl, .inl ⟨by rw [xo.K]; exact h1, fun p hp => fin_tup R h h2 p hp⟩⟩
    | _ => simp [seqOf] at q
theorem blt_int (xo : Xok G X n) : ∃ r, CallR X (.type "int") r ∧ CallOk G r (bltD qq .int) := by
  refine ⟨_, call_int1, fun A H S ds vs Q E R hx h => ?_⟩
  unfold bltD at h
  split at h <;> try exact h.elim
  all_goals (rename_i hf; try cases hf)
  · rename_i i
    obtain ⟨v, rfl, hv⟩ := repL1 hx
    rw [rep_int hv]
    exact .inl ⟨i, rfl, h.here R (.int _)⟩
  · rename_i i
    obtain ⟨v, rfl, hv⟩ := repL1 hx
    rw [rep_bl hv]
    exact .inr ⟨i, rfl, h.here R (.int _)⟩
theorem call_repr_data (sm : SmOk X.base) (hu : X.A.units + 200 < cLine) (hg : X.A.guards = some []) : CallR X (.builtin "repr") (fun xs H Q => ∃ x p, xs = [x] ∧ (∀ pins s σ u, Inv X pins σ H s → RelV x u → ∃ as, Reads s.heap u p as ∧ sysModules ∉ as) ∧ p.showable = true ∧ p.depth ≤ 64 ∧ p.shown.length ≤ sizeLine ∧ Q (.str p.shown) H) := by
  intro pins s σ H xs us Q I r h
  obtain ⟨x, p, rfl, hr, hs, hd, hz, q⟩ := h
  obtain ⟨u, rfl, rx⟩ := vals1 r
  obtain ⟨as, r1, r2⟩ := hr pins s σ u I rx
  have fin : ∀ (h' : Heap) (t : Tok) (tk : Nat), (∀ b o, s.heap.get? b = some o → h'.get? b = some o) → EP X pins σ Q (.str p.shown t) { s with heap := h', toks := tk } :=
    fun h' t tk k => ⟨.str p.shown, H, I.kept (t' := tk) k, ⟨t, rfl⟩, q⟩
  cases r1 with
  | none => exact PySem.P.repr_of_none (fin _ _ _ fun _ _ e => e)
  | bool b => exact PySem.P.repr_of_bool (fin _ _ _ fun _ _ e => e)
  | int i t => exact PySem.P.repr_of_int (by simpa [PyData.showable] using hs) (fin _ _ _ fun _ _ e => e)
  | str z t => exact PySem.P.repr_of_str (fin _ _ _ fun _ _ e => e) hz
  | list a b c d => exact repr_of_reads' (.list a b c d) hs (fun _ => r2) hg (by omega) (fun _ _ e => e) (fun h' t tk k => fin h' t tk k) hz
  | tuple a b c d => exact repr_of_reads' (.tuple a b c d) hs (fun _ => r2) hg (by omega) (fun _ _ e => e) (fun h' t tk k => fin h' t tk k) hz
  | dict a b c d e => exact repr_of_reads' (.dict a b c d e) hs (fun _ => r2) hg (by omega) (fun _ _ e => e) (fun h' t tk k => fin h' t tk k) hz
theorem Xok.u200 (h : Xok G X n) : X.A.units + 200 < cLine := by have := h.un; omega
theorem blt_repr (xo : Xok G X n) (sm : SmOk X.base) : ∃ r, CallR X (.builtin "repr") r ∧ CallOk G r (bltD qq .repr) := by
  refine ⟨_, call_repr_data sm xo.u200 xo.gd, fun A H S ds vs Q E R hx h => ?_⟩
  unfold bltD at h
  split at h <;> try exact h.elim
  all_goals (rename_i hf; try cases hf)
  rename_i x
  obtain ⟨v, rfl, hv⟩ := repL1 hx
  split at h
  · rename_i p q
    split at h
    · rename_i hc
      rw [Bool.and_eq_true, decide_eq_true_eq] at hc
      exact ⟨v, p, rfl, fun pins s σ u I rx => toPy_reads sm xo.K I R _ _ _ _ _ q hv rx, hc.1, Nat.le_trans (toPy_depth _ _ _ q) (by decide), by rw [← lim_eq]; exact hc.2, h.here R (.str _)⟩
    · exact h.elim
  · exact h.elim
end
end MP

namespace MP
open PySem L2
section
variable {X : Cx}
def PKT (K : PySem.W.Frag) (H : Hp) (p : Addr) (kv : (List Key × Addr) × V) : Prop := SqT K H p [.ref kv.1.2, kv.2] ∧ H kv.1.2 = some (.tup (kv.1.1.map kV))
def PKR (kv : (List Key × Addr) × V) (r : List Key × Addr × Value) : Prop := r.1 = kv.1.1 ∧ r.2.1 = kv.1.2 ∧ RelV kv.2 r.2.2
theorem pairs_ofT {pins : List (Addr × Obj)} {σ : St} {H : Hp} {s : Shared} (I : Inv X pins σ H s) : ∀ {ps : List Addr} {kvs : List ((List Key × Addr) × V)}, Paired (PKT X.K H) ps kvs →
    ∃ prs : List (List Key × Addr × Value), Paired PKR kvs prs ∧ prs.length = ps.length ∧ (∀ q ∈ prs, H q.2.1 = some (.tup (q.1.map kV))) ∧ ∀ (j : Nat) (q : List Key × Addr × Value), prs[j]? = some q → ∃ b : Addr, ps[j]? = some b ∧ s.heap.IsTuple b #[.ref q.2.1, q.2.2]
  | _, _, .nil => ⟨[], .nil, rfl, fun q e => (by cases e), fun j q e => (by simp at e)⟩
  | _, _, .cons (a := p) (b := kv) h t => by
    obtain ⟨prs, r, hl, hk, hp⟩ := pairs_ofT I t
    obtain ⟨its, rv, ht, _⟩ := I.tuple h.1
    obtain ⟨u, y, ei, ru, ry⟩ := vals2 rv
    subst ei
    cases (show u = Value.ref kv.1.2 from ru)
    refine ⟨(kv.1.1, kv.1.2, y) :: prs, .cons ⟨rfl, rfl, ry⟩ r, by rw [List.length_cons, List.length_cons, hl], fun q hq => ?_, fun j q e => ?_⟩
    · rcases List.mem_cons.mp hq with rfl | hq
      · exact h.2
      · exact hk q hq
    · cases j with
      | zero =>
        have e' : (kv.1.1, kv.1.2, y) = q := Option.some.inj e
        subst e'
        obtain ⟨o, ho, hc, n, hd⟩ := ht
        exact ⟨p, rfl, o, ho, hc, n, hd⟩
      | succ j =>
        obtain ⟨b, e1, e2⟩ := hp j q (by simpa using e)
        exact ⟨b, by simpa using e1, e2⟩
def mergeT (kvs : List (List Key × V)) (more : List ((List Key × Addr) × V)) : List (List Key × V) := more.foldl (fun acc kv => putK acc kv.1.1 kv.2) kvs
theorem kt_merge {H : Hp} : ∀ {more : List ((List Key × Addr) × V)} {prs : List (List Key × Addr × Value)} {kvs : List (List Key × V)} {xs : List (List Key × Addr × Value)}, Paired PKR more prs → (∀ q ∈ prs, H q.2.1 = some (.tup (q.1.map kV))) → KT H kvs xs → KT H (mergeT kvs more) (storedAllH xs prs)
  | _, _, _, _, .nil, _, r => r
  | _, _, kvs, xs, .cons (a := kv) (b := q) h t, hk, r => by
    have h0 := hk q List.mem_cons_self
    have := KT.put r q.1 (b := q.2.1) (y := kv.2) (u := q.2.2) h0 h.2.2
    rw [h.1] at this
    show KT H (mergeT (putK kvs kv.1.1 kv.2) _) (storedAllH (storedH xs q.1 q.2.1 q.2.2) _)
    refine kt_merge t (fun z hz => hk z (List.mem_cons_of_mem _ hz)) ?_
    rw [h.1]
    exact this
theorem putKV_len {κ : Type} [DecidableEq κ] (kvs : List (κ × V)) (k : κ) (v : V) : (putK kvs k v).length ≤ kvs.length + 1 := by
  unfold putK
  split <;> simp
theorem mergeT_len : ∀ (more : List ((List Key × Addr) × V)) (kvs : List (List Key × V)), (mergeT kvs more).length ≤ kvs.length + more.length
  | [], _ => Nat.le_refl _
  | kv :: more, kvs => by
    have h1 := mergeT_len more (putK kvs kv.1.1 kv.2)
    have h2 := putKV_len kvs kv.1.1 kv.2
    show (mergeT (putK kvs kv.1.1 kv.2) more).length ≤ _
    simp only [List.length_cons]
    omega
theorem paired_len {α β : Type} {R : α → β → Prop} : ∀ {l : List α} {m : List β}, Paired R l m → l.length = m.length
  | _, _, .nil => rfl
  | _, _, .cons _ t => by rw [List.length_cons, List.length_cons, paired_len t]
theorem call_dictPT (hcalm : X.calm = true) (hu : X.A.units + 65 < cLine) : CallR X (.type "dict") (fun xs H Q => ∃ (a : Addr) (ps : List Addr) (kvs : List ((List Key × Addr) × V)), xs = [.ref a] ∧ SqL X.K H a (ps.map V.ref) ∧ Paired (PKT X.K H) ps kvs ∧
    ∀ p, H p = none → Q (.ref p) (upd H p (.dT (mergeT [] kvs)))) := by
  intro pins s σ H xs us Q I r q
  obtain ⟨a, ps, kvs, ex, hq, hp, q⟩ := q
  subst ex
  obtain ⟨u, eu, rx⟩ := vals1 r
  subst eu
  cases rx
  obtain ⟨its, rv, pl, hz⟩ := I.list hq
  have ei := refs_at rv
  subst ei
  rw [List.length_map] at hz
  obtain ⟨prs, rel, hl, hk, hpr⟩ := pairs_ofT I hp
  obtain ⟨o, n, ho, hc, hd, hdat⟩ := pl
  let Ts : Nat → Addr := fun j => ps.getD j 0
  let pv : List (Value × Value) := prs.map fun q => (.ref q.2.1, q.2.2)
  have hpv : pv.length = prs.length := by simp [pv]
  have hT : ∀ j b, ps[j]? = some b → Ts j = b := fun j b e => by simp [Ts, List.getD, e]
  have ok : PlainSeq "list" s.heap a (ps.map Value.ref).toArray ∧ PairItems s.heap (ps.map Value.ref).toArray Ts pv := by
    refine ⟨⟨o, n, ho, hc, hd, hdat⟩, by simp [pv, hl], fun j k v e => ?_⟩
    rw [List.getElem?_map] at e
    obtain ⟨q0, e0, e1⟩ := Option.map_eq_some_iff.mp e
    cases e1
    obtain ⟨b, h1, h2⟩ := hpr j q0 e0
    refine ⟨by simp [h1, hT j b h1], ?_⟩
    rw [hT j b h1]
    exact .inl h2
  have keys : ∀ (h' : Heap), (∀ b o, b ≠ s.heap.objs.size → b ∉ ([] : List Addr) → s.heap.get? b = some o → h'.get? b = some o) → ∀ x ∈ prs, (tupleKind (mixKind X.prog X.w)).is h' x.1 x.2.1 := by
    intro h' hk' x hx
    obtain ⟨o, its, n, h1, h2, h3, h4⟩ := key_of I.hok (hk x hx)
    exact ⟨o, its, n, hk' _ _ (Nat.ne_of_lt (Heap.lt_size h1)) (by simp) h1, h2, h3, h4⟩
  refine PySem.call_dict_pairsH (knd := tupleKind (mixKind X.prog X.w)) (ps := prs) (PairArg.list a (ps.map Value.ref).toArray Ts pv) (I.ok.hd hcalm) (tupleKind_room_in1 (by show X.A.units + 1 + 1 < cLine; omega)) ok ⟨hpv.symm, fun i key v e => ?_⟩ keys (by rw [hpv, hl]; exact hz) fun h' tk hd' k => ?_
  · rw [PairRel, List.getElem?_map] at e
    obtain ⟨q0, e0, e1⟩ := Option.map_eq_some_iff.mp e
    cases e1
    exact ⟨q0.1, q0.2.1, e0, rfl⟩
  · have hm : (s.heap.objs.size == sysModules) = false := beq_eq_false_iff_ne.mpr (Nat.ne_of_gt I.big)
    have hlen : (mergeT [] kvs).length ≤ sizeLine := by
      refine Nat.le_trans (mergeT_len kvs []) ?_
      rw [List.length_nil, Nat.zero_add, paired_len rel, hl]
      exact hz
    have kt : KT H (mergeT [] kvs) (storedAllH [] prs) := kt_merge rel hk .nil
    obtain ⟨od, es, ep, d1, d2, d3, d4, d5, d6⟩ := hd'
    have hn : H s.heap.objs.size = none := I.hok.fresh (Nat.le_refl _)
    have kt' : KT (upd H s.heap.objs.size (.dT (mergeT [] kvs))) (mergeT [] kvs) (storedAllH [] prs) := kt.keeps fun b ys e => by
      rw [upd_ne (fun z => by rw [z, hn] at e; cases e)]
      exact e
    exact ⟨.ref s.heap.objs.size, upd H s.heap.objs.size (.dT (mergeT [] kvs)), I.laid (t' := tk) (fun b o e => k b o (by simp) e) (Nat.le_refl _) (show ObjOk X.prog X.w _ _ _ (.dT (mergeT [] kvs)) from ⟨hlen, hm, storedAllH [] prs, kt', od, es, ep, d1, d2, d3, d4, d6⟩), rfl, q _ hn⟩
end
section
variable {G : Gx} {X : Cx} {n : Nat} {qq : Bool}
theorem fin_dit {A : List Addr} {H : Hp} {S : Store} {q : Bool} {kvs : List (List Key × D)} {ws : List (List Key × V)} {Q : VK} {E : XK} (R : SRel G A H S) (h : FinE G A H (newDkT q kvs S) Q E) (hk : kvs.map (·.1) = ws.map (·.1)) (r : RepL G A H (kvs.map (·.2)) (ws.map (·.2))) (p : Addr) (hp : H p = none) : Q (.ref p) (upd H p (.dT ws)) := by
  cases q with
  | false => exact h (A ++ [p]) _ _ (ext_new hp) (R.new hp ⟨ws, upd_same, hk, r.ext R (ext_new hp)⟩) (.ref (new_ix R p))
  | true =>
    refine h A _ _ (ext_laid hp) (R.laid hp) ?_
    rw [hk]
    exact .cdit (.inl upd_same) (R.not_none hp) (R.notShut hp) (r.ext R (ext_laid hp))
theorem mergeT_rep {A : List Addr} {H : Hp} : ∀ {ps : List (List Key × D)} {qs : List ((List Key × Addr) × V)} {kvs : List (List Key × D)} {vs : List (List Key × V)}, ps.map (·.1) = qs.map (·.1.1) → RepL G A H (ps.map (·.2)) (qs.map (·.2)) → kvs.map (·.1) = vs.map (·.1) → RepL G A H (kvs.map (·.2)) (vs.map (·.2)) →
    (ps.foldl (fun acc kv => putK' acc kv.1 kv.2) kvs).map (·.1) = (mergeT vs qs).map (·.1) ∧ RepL G A H ((ps.foldl (fun acc kv => putK' acc kv.1 kv.2) kvs).map (·.2)) ((mergeT vs qs).map (·.2))
  | [], [], _, _, _, _, h, r => ⟨h, r⟩
  | [], _ :: _, _, _, h, _, _, _ => by simp at h
  | _ :: _, [], _, _, h, _, _, _ => by simp at h
  | p :: ps, q :: qs, kvs, vs, h, r, h2, r2 => by
    simp only [List.map_cons, List.cons.injEq] at h
    simp only [List.map_cons] at r
    cases r with
    | cons r1 r3 =>
      obtain ⟨k1, k2⟩ := putK_rep (k := p.1) r1 h2 r2
      have := mergeT_rep (kvs := putK' kvs p.1 p.2) (vs := putK vs p.1 q.2) h.2 r3 k1 k2
      rw [List.foldl_cons, show mergeT vs (q :: qs) = mergeT (putK vs q.1.1 q.2) qs from rfl, ← h.1]
      exact this
theorem pairsT_rep {A : List Addr} {H : Hp} {K : PySem.W.Frag} : ∀ {xs : List D} {vs : List V} {ps : List (List Key × D)}, RepL G A H xs vs → pairsT xs = some ps → ∃ (as : List Addr) (qs : List ((List Key × Addr) × V)), vs = as.map V.ref ∧ Paired (PKT K H) as qs ∧ ps.map (·.1) = qs.map (·.1.1) ∧ RepL G A H (ps.map (·.2)) (qs.map (·.2))
  | [], _, _, .nil, e => by
    simp [pairsT] at e
    subst e
    exact ⟨[], [], rfl, .nil, rfl, .nil⟩
  | d :: xs, _, ps, .cons r t, e => by
    unfold pairsT at e
    split at e
    · rename_i z; cases z
    · rename_i k v r' z
      cases z
      cases q : keyT k with
      | none => rw [q] at e; cases e
      | some k' =>
        rw [q] at e
        simp only [Option.bind_some, Option.map_eq_some_iff] at e
        obtain ⟨ps', e1, rfl⟩ := e
        obtain ⟨as, qs, h1, h2, h3, h4⟩ := pairsT_rep (K := K) t e1
        obtain ⟨a, ws, rfl, h5, h6⟩ := rep_tup r
        obtain ⟨w1, w2, rfl, h7, h8⟩ := repL2 h6
        obtain ⟨b, rfl, h9⟩ := keyT_rep h7 q
        exact ⟨a :: as, ((k', b), w2) :: qs, by rw [h1]; rfl, .cons ⟨.of h5, h9⟩ h2, by simp [h3], .cons h8 h4⟩
    · cases e
theorem blt_dictT (xo : Xok G X n) (hc : X.calm = true) : ∃ r, CallR X (.type "dict") r ∧ CallOk G r (bltD qq .dictT) := by
  refine ⟨_, call_dictPT hc xo.u65, fun A H S ds vs Q E R hx h => ?_⟩
  unfold bltD at h
  split at h <;> try exact h.elim
  all_goals (rename_i hf; try cases hf)
  rename_i x
  obtain ⟨v, rfl, hv⟩ := repL1 hx
  unfold dictTD at h
  cases q : lstOf S x with
  | none => rw [q] at h; exact h.elim
  | some xs =>
    rw [q] at h
    dsimp only [Option.bind_some] at h
    cases q2 : pairsT xs with
    | none => rw [q2] at h; exact h.elim
    | some ps =>
      rw [q2] at h
      obtain ⟨a, ws, rfl, h1, h2⟩ := lstOf_rep R hv q
      obtain ⟨as, qs, rfl, h3, h4, h5⟩ := pairsT_rep (K := X.K) h2 q2
      obtain ⟨k1, k2⟩ := mergeT_rep (kvs := []) (vs := []) h4 h5 rfl .nil
      exact ⟨a, as, qs, rfl, by rw [xo.K]; exact h1, h3, fun p hp => fin_dit R h k1 k2 p hp⟩
end
end MP

namespace MP
open PySem L2
section
variable {prog : Program} {w : World} {A : Around} {E : Value → Shared → Prop} {s : Shared}
theorem gather_tup {l : Addr} {vs : List Value} {Q : List Value → Shared → Prop} (hl : s.heap.IsTuple l vs.toArray) (hz : vs.length ≤ sizeLine)
    (h : Q vs { s with heap := (s.heap.push (PyProof.Rows.seqObj "list" #[] 0)).update s.heap.objs.size (Obj.mapSeq (· ++ vs.toArray)) }) :
    wpAny (model prog w) A (collect (.ref l)) Q E s := by
  obtain ⟨o, ho, hc, n, hd⟩ := id hl
  have ho1 : (s.heap.push (PyProof.Rows.seqObj "list" #[] 0)).get? l = some o := Heap.get?_push_of_some _ ho
  have new1 : (s.heap.push (PyProof.Rows.seqObj "list" #[] 0)).get? s.heap.objs.size = some (PyProof.Rows.seqObj "list" #[] 0) := Heap.get?_push_size _ rfl
  unfold collect
  refine wpAny_bind (wpAny_runValue (codeAny_builtin PyProof.Rows.entry_proto_collect' ?_))
  show wpAny _ _ (do again (.builtin "list.__iadd__" ⟨[← newList [], .ref l], []⟩)) _ _ s
  refine wpAny_bind (wpAny_newList (wpAny_pure ⟨Code.quiet_builtin _ (by decide +kernel), codeAny_builtin PyProof.Rows.entry_list_iadd' ?_⟩))
  show wpAny _ _ (Builtin.List.listExtendWith (.ref s.heap.objs.size) (.ref l) (.ref s.heap.objs.size)) _ _ { s with heap := s.heap.push (PyProof.Rows.seqObj "list" #[] 0) }
  unfold Builtin.List.listExtendWith
  refine wpAny_bind (wpAny_typeOf (T := "tuple") ⟨o, ho1, hc⟩ ?_)
  rw [if_pos (show (Builtin.List.listSameRef (.ref s.heap.objs.size) (.ref l) || Value.type "tuple" == .type "list" || Value.type "tuple" == .type "tuple") = true by
    rw [show (Value.type "tuple" == Value.type "tuple") = true from rfl]; simp)]
  refine wpAny_bind (PyProof.Rows.listItems_at ho1 hd (wpAny_bind (PyProof.Rows.listItems_at (xs := #[]) (n := 0) new1 rfl ?_)))
  rw [if_neg (by simp)]
  have hz2 : ((#[] : Array Value) ++ vs.toArray).size ≤ sizeLine + 1 := by
    simp only [Array.size_append, List.size_toArray, List.length_nil]
    omega
  refine wpAny_bind (PyProof.Rows.listUpdate_at (xs := #[]) (n := 0) new1 rfl ?_ (Nat.zero_le _) hz2)
  refine wpAny_pure ?_
  show wpAny (model prog w) A (load s.heap.objs.size >>= fun ob => match ob.data with
      | .seq xs _ => pure xs.toList
      | _ => unsupported "internal:collect") Q E { s with heap := (s.heap.push (PyProof.Rows.seqObj "list" #[] 0)).update s.heap.objs.size (Obj.mapSeq (· ++ vs.toArray)) }
  refine wpAny_bind (wpAny_load (PyProof.Rows.get?_update_seq new1 _) ?_)
  show wpAny _ _ (pure ((#[] : Array Value) ++ vs.toArray).toList) Q E _
  have e : ((#[] : Array Value) ++ vs.toArray).toList = vs := by simp
  rw [e]
  exact wpAny_pure h
theorem sorted_tupv {κ : PyProof.Rows.KeyKind} {l : Addr} {vs : List Value} {Q : Value → Shared → Prop} (hl : s.heap.IsTuple l vs.toArray) (hL : vs.length ≤ sizeLine)
    (Z : PySem.W.SortsAt prog w A.in1.in1 { s with heap := PySem.W.sortingHeap (PySem.W.copyHeap s.heap vs) (s.heap.objs.size + 1) vs } κ vs)
    (h : Q (.ref (s.heap.objs.size + 1)) { s with heap := PyProof.Rows.sortedAll s.heap vs (PySem.W.sortVals κ false vs vs).toArray }) : wpAny (model prog w) A (call (.builtin "sorted") [.ref l]) Q E s := by
  refine Calls.call_function_entry PyProof.Rows.kind_sorted PyProof.Rows.plain_sorted PyProof.Rows.entry_sorted (PyProof.Rows.args_sorted1 _) ?_
  unfold Builtin.«sorted»
  refine wpAny_bind (m := checkCount "sorted" 1 1 _) (wpAny_pure ?_)
  refine wpAny_bind (gather_tup hl hL ?_)
  refine wpAny_bind (wpAny_newList ?_ hL)
  have hz : ((s.heap.push (PyProof.Rows.seqObj "list" #[] 0)).update s.heap.objs.size (Obj.mapSeq (· ++ vs.toArray))).objs.size = s.heap.objs.size + 1 := by
    rw [Heap.size_update, PyProof.Rows.size_push']
  show wpAny _ _ _ _ _ { s with heap := PySem.W.copyHeap s.heap vs }
  rw [hz]
  refine wpAny_bind (wpAny_holding (wpAny_call_entry PyProof.Rows.slot_list_sort ⟨_, PySem.W.copyHeap_at s.heap vs, rfl⟩ PyProof.Rows.entry_list_sort ?bd (PyProof.Rows.args_list_sort _)))
  case bd =>
    refine PySem.W.list_sort_vals (s := { s with heap := PySem.W.copyHeap s.heap vs }) (PySem.W.copyHeap_at s.heap vs) Z hL ?_
    exact ⟨_, rfl, wpAny_pure ⟨_, rfl, h⟩⟩
end
section
variable {G : Gx} {X : Cx} {n : Nat} {qq : Bool}
def rSor (X : Cx) : List V → Hp → VK → Prop := fun vs H Q => ∃ (a : Addr) (bs : List (V × PyData)), vs = [.ref a] ∧ (SqL X.K H a (bs.map Prod.fst) ∨ SqT X.K H a (bs.map Prod.fst)) ∧
  (∀ pins s σ, Inv X pins σ H s → ∀ its, Vals (bs.map Prod.fst) its → PySem.W.EachIs (fun v b => ∃ as, Reads s.heap v b.2 as) its bs) ∧
  PySem.W.AllAlike (bs.map Prod.snd) ∧ PySem.W.Sortable (bs.map Prod.snd) ∧ (∀ b ∈ bs, b.2.depth ≤ 64) ∧
  ∀ p, H p = none → Q (.ref p) (upd H p (.lst ((bs.mergeSort (PySem.W.dataLe false Prod.snd)).map Prod.fst)))
theorem each_vals : ∀ {bs : List (V × PyData)} {its : List Value}, Vals (bs.map Prod.fst) its → PySem.W.EachIs (fun v (b : V × PyData) => RelV b.1 v) its bs
  | [], _, .nil => .nil
  | _ :: _, _, .cons r t => .cons r (each_vals t)
theorem vals_each : ∀ {bs : List (V × PyData)} {its : List Value}, PySem.W.EachIs (fun v (b : V × PyData) => RelV b.1 v) its bs → Vals (bs.map Prod.fst) its
  | _, _, .nil => .nil
  | _, _, .cons r t => .cons r (vals_each t)
theorem cr_sor (hu : X.A.units + 200 < cLine) : CallR X (.builtin "sorted") (rSor X) := by
  intro pins s σ H vs us Q I r h
  obtain ⟨a, bs, rfl, hq, hr, hal, hk, hd, q⟩ := h
  rw [Vals.ref1 r]
  have fin : ∀ (its out : List Value), its.length = bs.length → bs.length ≤ sizeLine → out.length = bs.length → PySem.W.EachIs (fun v (b : V × PyData) => RelV b.1 v) out (bs.mergeSort (PySem.W.dataLe false Prod.snd)) →
      EP X pins σ Q (.ref (s.heap.objs.size + 1)) { s with heap := PyProof.Rows.sortedAll s.heap its out.toArray } := by
    intro its out hn hz ho he
    obtain ⟨ep, he'⟩ := PyProof.Rows.sortedAll_at s.heap its out.toArray
    refine ⟨.ref _, _, I.laid (t' := s.toks) (fun _ _ => PyProof.Rows.sortedAll_old) (Nat.le_succ _) (o := .lst _) ⟨?_, out, ep, vals_each he, he'⟩, rfl, q _ (I.hok.fresh (Nat.le_succ _))⟩
    rw [List.length_map, List.length_mergeSort]
    exact hz
  rcases hq with hq | hq
  · obtain ⟨its, rv, hl, hz⟩ := I.list hq
    have er := hr pins s σ I its rv
    have hn := rv.length
    rw [List.length_map] at hn hz
    exact PySem.W.sorted_data (enc := Prod.snd) hl.isList (each_vals rv) er hal hk hz (fun b hb => by have := hd b hb; omega) fun out ho he => fin its out hn.symm hz ho he
  · obtain ⟨its, rv, hl, hz⟩ := I.tuple hq
    have er := hr pins s σ I its rv
    have hn := rv.length
    rw [List.length_map] at hn hz
    have er' : PySem.W.EachIs (fun v (b : V × PyData) => ∃ as, Reads (PySem.W.sortingHeap (PySem.W.copyHeap s.heap its) (s.heap.objs.size + 1) its) v b.2 as) its bs :=
      er.mono fun _ _ ⟨as, r⟩ => ⟨as, PyProof.Rows.Reads.keeps (fun _ _ => PySem.W.sorting_copy_old) r⟩
    refine sorted_tupv (κ := PySem.W.dataKind (PySem.W.sortingHeap (PySem.W.copyHeap s.heap its) (s.heap.objs.size + 1) its) (bs.map Prod.snd)) (show s.heap.IsTuple a its.toArray from hl) (by rw [← hn]; exact hz)
      (PySem.W.SortsAt.data (s := { s with heap := PySem.W.sortingHeap (PySem.W.copyHeap s.heap its) (s.heap.objs.size + 1) its }) (PySem.W.each_map (R := fun v d => ∃ as, Reads (PySem.W.sortingHeap (PySem.W.copyHeap s.heap its) (s.heap.objs.size + 1) its) v d as) Prod.snd er') hal hk ?_) ?_
    · intro d hd'
      obtain ⟨b, hb, rfl⟩ := List.mem_map.mp hd'
      have := hd b hb
      show X.A.units + 1 + 1 + b.2.depth < cLine
      omega
    · exact fin its _ hn.symm hz (by rw [PySem.W.sortVals_length false rfl]; exact hn.symm) (PySem.W.sortVals_data false (each_vals rv) er' hal)
theorem repL_of {A : List Addr} {H : Hp} : ∀ {ts : List (D × V × PyData)}, (∀ t ∈ ts, Rep G A H t.1 t.2.1) → RepL G A H (ts.map (·.1)) (ts.map (·.2.1))
  | [], _ => .nil
  | t :: ts, h => .cons (h t List.mem_cons_self) (repL_of fun t' ht => h t' (List.mem_cons_of_mem _ ht))
theorem triples {A : List Addr} {H : Hp} {g : D → Option PyData} : ∀ {xs : List D} {ps : List PyData} {vs : List V}, Paired (fun x p => g x = some p) xs ps → RepL G A H xs vs →
    ∃ ts : List (D × V × PyData), ts.map (·.1) = xs ∧ ts.map (·.2.1) = vs ∧ ts.map (·.2.2) = ps ∧ ∀ t ∈ ts, Rep G A H t.1 t.2.1 ∧ g t.1 = some t.2.2
  | _, _, _, .nil, .nil => ⟨[], rfl, rfl, rfl, by simp⟩
  | _, _, _, .cons (a := x) (b := p) e t, .cons (v := v) r rt => by
    obtain ⟨ts, h1, h2, h3, h4⟩ := triples t rt
    refine ⟨(x, v, p) :: ts, by simp [h1], by simp [h2], by simp [h3], fun t' ht => ?_⟩
    rcases List.mem_cons.mp ht with rfl | ht
    · exact ⟨r, e⟩
    · exact h4 t' ht
theorem each_of_triples {g : D → Option PyData} {A : List Addr} {H : Hp} {s : Shared} (hg : ∀ d p v u, g d = some p → Rep G A H d v → RelV v u → ∃ as, Reads s.heap u p as ∧ sysModules ∉ as) :
    ∀ {ts : List (D × V × PyData)} {its : List Value}, (∀ t ∈ ts, Rep G A H t.1 t.2.1 ∧ g t.1 = some t.2.2) → Vals (ts.map (·.2.1)) its → PySem.W.EachIs (fun v (b : V × PyData) => ∃ as, Reads s.heap v b.2 as) its (ts.map (·.2))
  | [], _, _, .nil => .nil
  | t :: ts, _, h, .cons r rt => by
    obtain ⟨h1, h2⟩ := h t List.mem_cons_self
    obtain ⟨as, q, _⟩ := hg _ _ _ _ h2 h1 r
    exact .cons ⟨as, q⟩ (each_of_triples hg (fun t' ht => h t' (List.mem_cons_of_mem _ ht)) rt)
theorem alike_of {ps : List PyData} (h : allAlike ps = true) : PySem.W.AllAlike ps := by
  unfold allAlike at h
  intro d hd d' hd'
  exact List.all_eq_true.mp (List.all_eq_true.mp h d hd) d' hd'
theorem sortable_of {ps : List PyData} (h : sortable ps = true) : PySem.W.Sortable ps := by
  unfold sortable at h
  rw [Bool.or_eq_true] at h
  rcases h with h | h
  · refine .inl fun d hd => ?_
    have := List.all_eq_true.mp h d hd
    split at this
    · exact ⟨_, _, rfl⟩
    · cases this
  · refine .inr fun d hd => ?_
    have := List.all_eq_true.mp h d hd
    refine ⟨?_, ?_⟩
    · rintro rfl; cases this
    · rintro xs rfl; cases this
theorem keyInts_rep {A : List Addr} {H : Hp} : ∀ {kvs : List (Key × D)} {ns : List Int}, keyIntsOf kvs = some ns → kvs.map (·.1) = ns.map Sum.inl
  | [], ns, e => by simp [keyIntsOf, intsOf] at e; subst e; rfl
  | (k, d) :: kvs, ns, e => by
    unfold keyIntsOf at e
    cases k with
    | inl i =>
      simp only [List.map_cons, kD, intsOf, Option.map_eq_some_iff] at e
      obtain ⟨ms, e1, rfl⟩ := e
      have := keyInts_rep (A := A) (H := H) (kvs := kvs) (ns := ms) e1
      simp [this]
    | inr x => simp [kD, intsOf] at e
theorem blt_sorted (xo : Xok G X n) (sm : SmOk X.base) (hcm : X.calm = true) : ∃ r, CallR X (.builtin "sorted") r ∧ CallOk G r (bltD qq .sorted) := by
  refine ⟨_, (cr_sor xo.u200).or (call_sortedDI hcm), fun A H S ds vs Q E R hx h => ?_⟩
  unfold bltD at h
  split at h <;> try exact h.elim
  all_goals (rename_i hf; try cases hf)
  rename_i x
  obtain ⟨v, rfl, hv⟩ := repL1 hx
  split at h
  · rename_i ys q
    cases q1 : seqOf S x with
    | none => rw [q1] at q; cases q
    | some xs =>
      rw [q1] at q
      dsimp only [Option.bind_some] at q
      unfold sortD at q
      cases q2 : xs.mapM (toPy S dep) with
      | none => rw [q2] at q; cases q
      | some ps =>
        rw [q2] at q
        dsimp only [Option.bind_some] at q
        split at q
        · rename_i hc
          rw [Bool.and_eq_true] at hc
          have q' := Option.some.inj q
          obtain ⟨a, ws, rfl, h1, h2⟩ := seqOf_rep R hv q1
          obtain ⟨ts, t1, t2, t3, t4⟩ := triples (mapM_some q2) h2
          have e2 : (ts.map (·.2)).map Prod.fst = ws := by rw [List.map_map]; exact t2
          have e3 : (ts.map (·.2)).map Prod.snd = ps := by rw [List.map_map]; exact t3
          refine .inl ⟨a, ts.map (·.2), rfl, ?_, fun pins s σ I its rv => ?_, ?_, ?_, fun b hb => ?_, fun p hp => ?_⟩
          · rw [e2, xo.K]; exact h1
          · rw [e2, ← t2] at rv
            exact each_of_triples (fun d p v u e r rv => toPy_reads sm xo.K I R dep d p v u e r rv) t4 rv
          · rw [e3]; exact alike_of hc.1
          · rw [e3]; exact sortable_of hc.2
          · obtain ⟨t, ht, rfl⟩ := List.mem_map.mp hb
            exact Nat.le_trans (toPy_depth _ _ _ (t4 t ht).2) (by decide)
          · have z : xs.zip ps = ts.map fun t => (t.1, t.2.2) := by
              rw [← t1, ← t3, List.zip_map', ]
            have m1 : ((ts.mergeSort (PySem.W.dataLe false (fun t : D × V × PyData => t.2.2))).map fun t => (t.1, t.2.2)) = (xs.zip ps).mergeSort (PySem.W.dataLe false Prod.snd) := by
              rw [z]
              exact List.map_mergeSort fun a _ b _ => rfl
            have m2 : ((ts.mergeSort (PySem.W.dataLe false (fun t : D × V × PyData => t.2.2))).map fun t => t.2) = (ts.map (·.2)).mergeSort (PySem.W.dataLe false Prod.snd) :=
              List.map_mergeSort fun a _ b _ => rfl
            rw [← m2, List.map_map]
            rw [← m1, List.map_map] at q'
            refine fin_lst (xs := ys) R h ?_ p hp
            rw [← q']
            exact repL_of fun t ht => (t4 t (List.mem_mergeSort.mp ht)).1
        · cases q
  · cases q1 : dictOf S x with
    | none => rw [q1] at h; exact h.elim
    | some kvs =>
      rw [q1] at h
      dsimp only [Option.bind_some] at h
      split at h
      · rename_i ns q2
        split at h
        · rename_i hl
          obtain ⟨a, ws, rfl, h1, h2, h3⟩ := dictOf_rep R hv q1
          refine .inr ⟨a, ws, ns, rfl, h1, h2.symm.trans (keyInts_rep (A := A) (H := H) q2), hl, fun ys p hp hs hn => ?_⟩
          have e : ns.mergeSort (fun a b => decide (a ≤ b)) = ys := by
            refine List.Perm.eq_of_pairwise (le := fun a b : Int => a ≤ b) (fun a b _ _ h1 h2 => Int.le_antisymm h1 h2) ?_ hs ((List.mergeSort_perm _ _).trans hp.symm)
            have := List.pairwise_mergeSort (le := fun a b : Int => decide (a ≤ b)) (fun a b c h1 h2 => by simp at *; omega) (fun a b => by simp; omega) ns
            simpa using this
          rw [e] at h
          refine fin_lst R h ?_ p hn
          clear hp hs e h
          induction ys with
          | nil => exact .nil
          | cons y ys ih => exact .cons (.int y) ih
        · exact h.elim
      · exact h.elim
end
end MP

namespace MP
open PySem L2

structure FnG (P : Program) (w : World) (K : PySem.W.Frag) (mg : Str → Option Value) (base : Heap) (k : Nat) (f : Addr) (fd : FuncData) (ps : List Str) (sp : Sp) : Prop where
  len : ∀ vs H Q E, sp vs H Q E → vs.length = ps.length
  run : ∀ (A : Around) (outer : List PySem.Env) (s : Shared) (H : Hp) (args : Args) (us : List Value) (vs : List V) (Q : VK) (E : XK), Room k A → A.guards = some [] →
    Env0 P w K mg base A outer s H → BindsTo s fd args (ps.zip us) → Vals vs us → sp vs H Q E → codeAny (model P w) A (.call (.ref f) args) (CR (L2.CX P w) outer P w H s Q E) s
theorem FnG.mono {P : Program} {w : World} {K : PySem.W.Frag} {mg : Str → Option Value} {base : Heap} {j k : Nat} {f : Addr} {fd : FuncData} {ps : List Str} {sp : Sp} (F : FnG P w K mg base j f fd ps sp) (h : j ≤ k) : FnG P w K mg base k f fd ps sp :=
  ⟨F.len, fun A outer s H args us vs Q E hr => F.run A outer s H args us vs Q E (hr.mono h)⟩

theorem fnG_of {P : Program} {w : World} {K : PySem.W.Frag} {mg : Str → Option Value} {base : Heap} {k : Nat} {f : Addr} {name qual : Str} {params : Arguments} {body : List Stmt} {scope : Scope} {dV kV doc pm cdv ct oc : Value} {an od : Option Addr}
    {osl : Array (Option Value)} {N ps : List Str} {sp : Sp} (lk : K.lookup f = some ⟨oc, od, .func (PySem.W.fnOf name qual params body scope dV kV doc pm an cdv ct), osl⟩) (hcd : PySem.W.codeIn K cdv qual = true)
    (F : FnScope N ps scope) (len : ∀ vs H Q E, sp vs H Q E → vs.length = ps.length)
    (bd : ∀ (A : Around) (outer : List PySem.Env) (s : Shared) (H : Hp) (vs : List V) (Q : VK) (E : XK), Room k (A.deeper (PyProof.Rows.envOfC qual scope s.heap.objs.size f cdv)) → A.guards = some [] → sp vs H Q E →
      ∃ t, PSs (cxOf (L2.CX P w) P w K mg base N qual scope f cdv A outer s H E) body t ∧ t { nx := fun _ H' => Q .non H', rt := Q } (start N vs) H) :
    FnG P w K mg base (k + 1) f (PySem.W.fnOf name qual params body scope dV kV doc pm an cdv ct) ps sp where
  len := len
  run := by
    intro A outer s H args us vs Q E hr hg e0 hb r hsp
    have stays : ∀ b o, base.get? b = some o → s.heap.get? b = some o := fun b o e => (e0.bs b o e).1
    have KX : K.In s.heap := e0.mod.kin.keeps stays
    have nolim : s.heap.NoLimit := e0.mod.nolimit.keeps stays
    refine codeAny_call_function hr.depth (KX _ _ lk) rfl F.co F.gen rfl (PySem.W.codeRec_of KX hcd) (hb _ _ _ _ (wpAny_newFunctionEnv_cells F.kind ?_ fun env he s1 x => ?_))
    · rintro ⟨y, v⟩ hy
      rcases F.par y (List.of_mem_zip hy).1 with q | q
      · exact .inl q
      · exact .inr ⟨q, PySem.W.cellsFrom_some _ _ _ (.inl q)⟩
    · subst he
      refine ⟨nolim.keeps x.toInCall.keep, codeAny_func ?_⟩
      obtain ⟨t, ht, hq⟩ := bd A outer s H vs Q E (hr.deeper _) hg hsp
      have I := inv_start (CX := L2.CX P w) (E := E) F hr.hd e0 (len _ _ _ _ hsp) r x
      refine wpAny_mono (ht.run [] s1 (start N vs) H _ I hq) (fun fl s' hs => ?_) fun _ _ z => z
      match fl, hs with
      | .ret u, ⟨v, σ', H', J, rv, q⟩ => exact ⟨v, H', J.os, J.bare, J.base, J.hok, rv, q⟩
      | .next, ⟨σ', H', J, q⟩ => exact ⟨V.non, H', J.os, J.bare, J.base, J.hok, rfl, q⟩
      | .brk, ⟨_, _, _, q⟩ => exact False.elim q
      | .cont, ⟨_, _, _, q⟩ => exact False.elim q

section
variable {X : Cx} {k : Nat} {f : Addr} {fd : FuncData} {ps : List Str} {sp : Sp} {E : XK}
theorem runG {pins : List (Addr × Obj)} {σ : St} {H : Hp} {s : Shared} {Q : VK} {us : List Value} {vs : List V} (F : FnG X.prog X.w X.K X.mg X.base k f fd ps sp) (hr : Room k X.A) (hg : X.A.guards = some []) (hb : Binds X.K fd ps [])
    (hx : Passes (L2.CX X.prog X.w) X E) (I : Inv X pins σ H s) (r : Vals vs us) (h : sp vs H Q E) : wpAny (model X.prog X.w) X.A (call (.ref f) us) (EP X pins σ Q) X.xe s := by
  have hl : us.length = ps.length := by rw [← r.length]; exact F.len _ _ _ _ h
  have hb' : BindsTo s fd ⟨us, []⟩ (ps.zip us) := by
    have z := hb s us I.kIn (by rw [List.append_nil]; exact hl)
    rw [List.append_nil] at z
    exact z
  refine wpAny_call (codeAny_mono (F.run X.A X.stack s H ⟨us, []⟩ us vs Q E hr hg I.env0 hb' r h) fun res s' hq => ?_)
  match res, hq with
  | .error e, hq => exact hx pins σ H s e s' I hq
  | .ok (.ret u), hq => exact I.after hq
  | .ok .next, hq => exact False.elim hq
  | .ok .brk, hq => exact False.elim hq
  | .ok .cont, hq => exact False.elim hq
def tCl (sp : Sp) (E : XK) (t : TA) : TE := fun σ H Q => t σ H fun vs H1 => sp vs H1 Q E
theorem pe_clG {x : Str} {p pos : Pos} {e : Expr} {es : List Expr} {t : TA} (F : FnG X.prog X.w X.K X.mg X.base k f fd ps sp) (hr : Room k X.A) (hgd : X.A.guards = some []) (hg : Gl X x) (hm : X.mg x = some (.ref f)) (hk : PySem.W.keepIn X.K (.ref f) = true)
    (hb : Binds X.K fd ps []) (hx : Passes (L2.CX X.prog X.w) X E) (ha : PA X (e :: es) t) (hdb : (x == ("__debug__" : Str)) = false)
    (he : starEach (e :: es) X.env = (false, eval e X.env) :: starEach es X.env) (hpl : (backTo pos (starEach es X.env)).any (·.1) = false) : PE X (.Call (.Name x p) (e :: es) [] pos) (tCl sp E t) := by
  refine ⟨fun pins s σ H Q I h => wpAny_Call_Name_kw (ld_glob I hg hm ?_ hdb)⟩
  refine PySem.W.callWith_K (h₀ := X.base) I.ok.mod.kin hk (thn (ha.run pos pins s σ H _ I h) fun us s1 hh => ?_) he hpl
  obtain ⟨vs, H1, I1, r, q⟩ := hh
  exact ⟨I1.kIn, runG F hr hgd hb hx I1 r q⟩
theorem pe_cl0G {x : Str} {p pos : Pos} (F : FnG X.prog X.w X.K X.mg X.base k f fd ps sp) (hr : Room k X.A) (hgd : X.A.guards = some []) (hg : Gl X x) (hm : X.mg x = some (.ref f)) (hk : PySem.W.keepIn X.K (.ref f) = true)
    (hb : Binds X.K fd ps []) (hx : Passes (L2.CX X.prog X.w) X E) (hdb : (x == ("__debug__" : Str)) = false) : PE X (.Call (.Name x p) [] [] pos) (tCl sp E tNil) := by
  refine ⟨fun pins s σ H Q I h => wpAny_Call_Name_kw (ld_glob I hg hm ?_ hdb)⟩
  exact PySem.W.callWith_K0 I.kIn hk (runG (us := []) F hr hgd hb hx I .nil h)
theorem call_methG {env : PySem.Env} {A : Around} {E : Value → Shared → Prop} {s : Shared} {o : Expr} {name : Str} {apos pos : Pos} {args : List Expr} {Q : Value → Shared → Prop} (hbase : attributeBase o name env (eval o env) = eval o env)
    (hfew : methodCallForm (args.length + ([] : List Keyword).length) (backTo pos (starEach args env)) (backToKw pos (keywordEach [] env)) = true) (hline : (apos.endLine == pos.line) = true)
    (h : wpAny (model X.prog X.w) A (eval o env) (fun ov s1 => ∀ pl, wpAny (model X.prog X.w) A (getMethod ov name pl) (fun fx s2 => wpAny (model X.prog X.w) A (callWith pos fx.1 fx.2 (backTo pos (starEach args env)) (backToKw pos (keywordEach [] env))) Q E s2) E s1) E s) :
    wpAny (model X.prog X.w) A (eval (.Call (.Attribute o name apos) args [] pos) env) Q E s := by
  rw [arm_eval_Call, hbase]
  refine wpAny_bind (wpAny_mono h (fun ov s1 h1 => wpAny_bind (wpAny_standAt ?_)) fun _ _ e => e)
  have hpos : methodCallPos true o env apos pos = pure pos := by unfold methodCallPos; simp [hline]
  unfold methodCall
  rw [hfew]
  refine wpAny_bind (wpAny_holding (wpAny_mono (h1 _) (fun fx s2 h2 => ?_) fun _ _ e => e))
  exact wpAny_bind (wpAny_of_eq hpos h2)
def tMt (C : Addr) (m : Str) (sp : Sp) (E : XK) (ta : TE) (t : TA) : TE := fun σ H Q => ta σ H fun x H1 => ∃ a dx fs, x = .ref a ∧ H1 a = some (.ins C dx fs) ∧ fs.lookup m = none ∧ t σ H1 fun vs H2 => sp (x :: vs) H2 Q E
theorem pe_mtG {C : Addr} {m : Str} {o e : Expr} {es : List Expr} {ta : TE} {t : TA} {apos pos : Pos} (he : PE X o ta) (c : Cls X.K C) (hm : Meth X.K C m f) (F : FnG X.prog X.w X.K X.mg X.base k f fd ps sp) (hr : Room k X.A) (hgd : X.A.guards = some []) (hb : Binds X.K fd ps []) (hx : Passes (L2.CX X.prog X.w) X E) (ha : PA X (e :: es) t)
    (hbase : attributeBase o m X.env (eval o X.env) = eval o X.env) (hfew : methodCallForm ((e :: es).length + ([] : List Keyword).length) (backTo pos (starEach (e :: es) X.env)) (backToKw pos (keywordEach [] X.env)) = true) (hline : (apos.endLine == pos.line) = true)
    (hst : starEach (e :: es) X.env = (false, eval e X.env) :: starEach es X.env) (hpl : (backTo pos (starEach es X.env)).any (·.1) = false) : PE X (.Call (.Attribute o m apos) (e :: es) [] pos) (tMt C m sp E ta t) := by
  refine ⟨fun pins s σ H Q I h => call_methG hbase hfew hline (thn (he.run pins s σ H _ I h) fun u s1 hh pl => ?_)⟩
  obtain ⟨x, H1, I1, rx, a, dx, fs, ex, ea, l, q⟩ := hh
  subst ex
  obtain rfl : u = Value.ref a := rx
  refine getmeth_ok I1 ea c hm l ?_
  refine PySem.W.callWith_K (first := [.ref a]) (h₀ := X.base) I.ok.mod.kin hm.kp (thn (ha.run pos pins s1 σ H1 _ I1 q) fun us s2 hh => ?_) hst hpl
  obtain ⟨vs, H2, I2, r, q2⟩ := hh
  exact ⟨I2.kIn, runG (us := .ref a :: us) (vs := .ref a :: vs) F hr hgd hb hx I2 (.cons rfl r) q2⟩
theorem pe_mt0G {C : Addr} {m : Str} {o : Expr} {ta : TE} {apos pos : Pos} (he : PE X o ta) (c : Cls X.K C) (hm : Meth X.K C m f) (F : FnG X.prog X.w X.K X.mg X.base k f fd ps sp) (hr : Room k X.A) (hgd : X.A.guards = some []) (hb : Binds X.K fd ps []) (hx : Passes (L2.CX X.prog X.w) X E)
    (hbase : attributeBase o m X.env (eval o X.env) = eval o X.env) (hline : (apos.endLine == pos.line) = true) : PE X (.Call (.Attribute o m apos) [] [] pos) (tMt C m sp E ta tNil) := by
  refine ⟨fun pins s σ H Q I h => call_methG hbase rfl hline (thn (he.run pins s σ H _ I h) fun u s1 hh pl => ?_)⟩
  obtain ⟨x, H1, I1, rx, a, dx, fs, ex, ea, l, q⟩ := hh
  subst ex
  obtain rfl : u = Value.ref a := rx
  refine getmeth_ok I1 ea c hm l ?_
  exact PySem.W.callWith_K0 (first := [.ref a]) I1.kIn hm.kp (runG (us := [.ref a]) (vs := [.ref a]) F hr hgd hb hx I1 (.cons rfl .nil) q)
def tMkG (C : Addr) (sp : Sp) (E : XK) (t : TA) : TE := fun σ H Q => t σ H fun vs H1 => ∀ x dx, H1 x = none → H1 dx = none → dx ≠ x →
  sp (.ref x :: vs) (upd (upd H1 dx (.own x)) x (.ins C dx [])) (fun v H2 => v = .non ∧ Q (.ref x) H2) E
theorem run_mkG {C : Addr} {pins : List (Addr × Obj)} {σ : St} {H : Hp} {s : Shared} {Q : VK} {us : List Value} {vs : List V} (M : Mk X.K C f) (F : FnG X.prog X.w X.K X.mg X.base k f fd ps sp) (hr : Room (k + 1) X.A) (hgd : X.A.guards = some []) (hb : Binds X.K fd ps [])
    (hx : Passes (L2.CX X.prog X.w) X E) (I : Inv X pins σ H s) (r : Vals vs us)
    (h : ∀ x dx, H x = none → H dx = none → dx ≠ x → sp (.ref x :: vs) (upd (upd H dx (.own x)) x (.ins C dx [])) (fun v H2 => v = .non ∧ Q (.ref x) H2) E) :
    wpAny (model X.prog X.w) X.A (call (.ref C) us) (EP X pins σ Q) X.xe s := by
  have n1 : H (s.heap.objs.size + 1) = none := I.hok.fresh (Nat.le_succ _)
  have n2 : H s.heap.objs.size = none := I.hok.fresh (Nat.le_refl _)
  have hq := h _ _ n1 n2 (Nat.ne_of_lt (Nat.lt_succ_self _))
  have J := Inv.made (C := C) I
  have rr : Vals (V.ref (s.heap.objs.size + 1) :: vs) (Value.ref (s.heap.objs.size + 1) :: us) := .cons rfl r
  have hl : (Value.ref (s.heap.objs.size + 1) :: us).length = ps.length := by rw [← rr.length]; exact F.len _ _ _ _ hq
  have hbt := hb _ (Value.ref (s.heap.objs.size + 1) :: us) J.kIn (by rw [List.append_nil]; exact hl)
  rw [List.append_nil] at hbt
  have hgu : (X.A.under (.builtin "type.__call__" ⟨.ref C :: us, []⟩)).guards = some [] := by
    first | exact hgd | (simpa [Around.under] using hgd)
  refine wpAny_call (make_map (f := f) I.kIn M.makes M.init (beq_iff_eq.mp M.fn) (codeAny_mono (F.run _ X.stack _ _ ⟨Value.ref (s.heap.objs.size + 1) :: us, []⟩ _ _ _ E (hr.make C us []) hgu (J.env0.make C us []) hbt rr hq) fun res s' hq' => ?_))
  match res, hq' with
  | .error e, hq' => exact hx pins σ _ _ e s' J hq'
  | .ok (.ret u), hq' =>
    obtain ⟨v, H', I3, rv, ev, q3⟩ := J.after hq'
    subst ev
    exact ⟨rv, ⟨V.ref (s.heap.objs.size + 1), H', I3, rfl, q3⟩⟩
  | .ok .next, hq' => exact False.elim hq'
  | .ok .brk, hq' => exact False.elim hq'
  | .ok .cont, hq' => exact False.elim hq'
theorem pe_mkG {C : Addr} {x : Str} {p pos : Pos} {e : Expr} {es : List Expr} {t : TA} (M : Mk X.K C f) (F : FnG X.prog X.w X.K X.mg X.base k f fd ps sp) (hr : Room (k + 1) X.A) (hgd : X.A.guards = some []) (hg : Gl X x) (hm : X.mg x = some (.ref C)) (hb : Binds X.K fd ps [])
    (hx : Passes (L2.CX X.prog X.w) X E) (ha : PA X (e :: es) t) (hdb : (x == ("__debug__" : Str)) = false) (he : starEach (e :: es) X.env = (false, eval e X.env) :: starEach es X.env) (hpl : (backTo pos (starEach es X.env)).any (·.1) = false) :
    PE X (.Call (.Name x p) (e :: es) [] pos) (tMkG C sp E t) := by
  refine ⟨fun pins s σ H Q I h => wpAny_Call_Name_kw (ld_glob I hg hm ?_ hdb)⟩
  refine PySem.W.callWith_K (h₀ := X.base) I.ok.mod.kin M.kp (thn (ha.run pos pins s σ H _ I h) fun us s1 hh => ?_) he hpl
  obtain ⟨vs, H1, I1, r, q⟩ := hh
  exact ⟨I1.kIn, run_mkG M F hr hgd hb hx I1 r q⟩
end
end MP

namespace MP
open PySem PySem.Spec PyProof.Rows L2 HT
section
variable {prog : Program} {w : World} {A : Around} {E : Value → Shared → Prop} {s : Shared}
theorem adjust_rev (n : Nat) : Builtin.Slice.sliceAdjust none none (-1) (n : Int) = ((n : Int) - 1, -1) := by
  unfold Builtin.Slice.sliceAdjust
  rfl
theorem places_rev (n : Nat) : Builtin.Slice.slicePlaces ((n : Int) - 1) (-1) (-1) = n := by
  unfold Builtin.Slice.slicePlaces
  have h1 : ¬ (-1 : Int) > 0 := by omega
  simp only [h1, if_false]
  split <;> simp <;> omega
theorem sliceApplied_rev {sl : Addr} {vk : Value} {n : Nat} {Q : Int × Int × Nat → Shared → Prop} (hs : s.heap.IsSliceOf sl .none .none vk) (pk : IsPart vk (some (-1)))
    (h : Q ((n : Int) - 1, -1, n) s) : wpAny (model prog w) A (Builtin.Slice.sliceApplied (.ref sl) (pure (n : Int))) Q E s := by
  obtain ⟨os, hos, hcs, hds⟩ := id hs
  unfold Builtin.Slice.sliceApplied Builtin.Slice.sliceFields
  refine wpAny_bind (wpAny_bind (wpAny_field hos hds (x := .none) rfl (wpAny_bind (wpAny_field hos hds (x := .none) rfl (wpAny_bind (wpAny_field hos hds (x := vk) rfl (wpAny_pure ?_)))))))
  refine wpAny_bind (slicePart_ pk ?_)
  show wpAny _ _ (if ((-1 : Int) == 0) = true then _ else _) _ _ s
  rw [if_neg (by decide)]
  refine wpAny_bind (slicePart_ .none (wpAny_bind (slicePart_ .none (wpAny_bind (wpAny_pure ?_)))))
  show wpAny _ _ (match Builtin.Slice.sliceAdjust none none (-1) (n : Int) with | (lo, hi) => pure (lo, (-1 : Int), Builtin.Slice.slicePlaces lo hi (-1))) _ _ s
  rw [adjust_rev n]
  show wpAny _ _ (pure ((n : Int) - 1, (-1 : Int), Builtin.Slice.slicePlaces ((n : Int) - 1) (-1) (-1))) _ _ s
  rw [places_rev]
  exact wpAny_pure h
theorem revFm {α β : Type} {f g : α → Option β} : ∀ {l : List α}, (∀ a ∈ l, f a = g a) → l.filterMap f = l.filterMap g
  | [], _ => rfl
  | a :: l, h => by rw [List.filterMap_cons, List.filterMap_cons, h a (by simp), revFm fun b hb => h b (by simp [hb])]
theorem pick_rev (xs : Array Value) : ((List.range xs.size).filterMap fun (m : Nat) => xs[(((xs.size : Int) - 1) + (m : Int) * (-1)).toNat]?).toArray = xs.toList.reverse.toArray := by
  congr 1
  apply List.ext_getElem?
  intro i
  have e : ((List.range xs.size).filterMap fun (m : Nat) => xs[(((xs.size : Int) - 1) + (m : Int) * (-1)).toNat]?) = (List.range xs.size).map fun m => xs.getD (xs.size - 1 - m) .none := by
    rw [← List.filterMap_eq_map]
    refine revFm fun m hm => ?_
    have hm := List.mem_range.mp hm
    have e1 : (((xs.size : Int) - 1) + (m : Int) * (-1)).toNat = xs.size - 1 - m := by omega
    have hl : xs.size - 1 - m < xs.size := by omega
    rw [e1]
    simp [Array.getD, hl]
  rw [e, List.getElem?_map]
  by_cases hi : i < xs.size
  · have h2 : xs.size - 1 - i < xs.size := by omega
    rw [List.getElem?_range hi, List.getElem?_reverse (by simpa using hi)]
    simp [Array.getD, h2]
  · rw [List.getElem?_eq_none (by simp; omega), List.getElem?_eq_none (by simp; omega)]
    rfl
theorem getItem_tuple_rev {t sl : Addr} {items : Array Value} {vk : Value} {Q : Value → Shared → Prop} (ht : IsTup s.heap t items) (hs : s.heap.IsSliceOf sl .none .none vk) (pk : IsPart vk (some (-1)))
    (h : Q (.ref s.heap.objs.size) { s with heap := s.heap.push { cls := .type "tuple", data := .seq items.toList.reverse.toArray } })
    (hsz : items.size ≤ sizeLine) : wpAny (model prog w) A (getItem (.ref t) (.ref sl)) Q E s := by
  have htake : sizeOk (.seq items.toList.reverse.toArray) := by
    show items.toList.reverse.toArray.size ≤ sizeLine
    simpa using hsz
  obtain ⟨os, hos, hcs, hds⟩ := id hs
  have hTs : s.TypeIs (.ref sl) "slice" := ⟨os, hos, hcs⟩
  unfold getItem
  try with_reducible refine wpAny_holding ?_
  first | refine wpAny_bind (wpAny_pure ?_) | skip
  refine wpAny_bind (wpAny_sequenceKey ht.typeIs (by decide) ?_)
  refine wpAny_bind (wpAny_callSpecial?_slot (name := Str.ofString "__getitem__") ht.typeIs PyProof.Rows.slot_tuple_getitem
    (wpAny_call_entry PyProof.Rows.slot_tuple_getitem ht.typeIs entry_tuple_getitem ?_ (args_tuple_getitem _ _)))
  show wpAny _ _ (Builtin.Tuple.tupleItemsOf (.ref t) >>= _) _ _ s
  refine wpAny_bind (tupleItemsOf_ ht ?_)
  refine wpAny_bind (wpAny_typeOf hTs ?_)
  rw [if_pos (by decide)]
  refine wpAny_bind (sliceApplied_rev hs pk ?_)
  have hno : ¬ ((((items.size : Int) - 1) == 0 && (-1 : Int) == 1 && items.size == items.size) = true) := by
    intro q
    rw [Bool.and_eq_true, Bool.and_eq_true] at q
    exact absurd q.1.2 (by decide)
  show wpAny _ _ (if (((items.size : Int) - 1) == 0 && (-1 : Int) == 1 && items.size == items.size) = true then _ else _) _ _ s
  rw [if_neg hno, pick_rev]
  first
    | exact wpAny_bind (m := Builtin.Tuple.tupleExact _) (wpAny_newObj_type (wpAny_pure ⟨_, rfl, wpAny_pure h⟩) htake)
    | exact wpAny_bind (m := Builtin.Tuple.tupleExact _) (wpAny_newObj_type (wpAny_bind (wpAny_pure (wpAny_pure ⟨_, rfl, wpAny_pure h⟩))) htake)
    | exact wpAny_bind (wpAny_bind (m := Builtin.Tuple.tupleExact _) (wpAny_newObj_type (wpAny_pure (wpAny_pure ⟨_, rfl, wpAny_pure h⟩)) htake))
    | exact wpAny_bind (wpAny_bind (m := Builtin.Tuple.tupleExact _) (wpAny_newObj_type (wpAny_pure ⟨_, rfl, wpAny_pure h⟩) htake))
end
def tRevA (K : PySem.W.Frag) (te : TE) : TE := fun σ H Q => te σ H fun x H1 => ∃ a xs, x = .ref a ∧ ((SqL K H1 a xs ∧ ∀ p, H1 p = none → Q (.ref p) (upd H1 p (.lst xs.reverse))) ∨ (SqT K H1 a xs ∧ ∀ p, H1 p = none → Q (.ref p) (upd H1 p (.tup xs.reverse))))
theorem pe_revA {X : Cx} {e : Expr} {te : TE} {k : Nat} {p1 p2 p3 pos : Pos} (he : PE X e te) : PE X (.Subscript e (.Slice none none (some (.UnaryOp .USub (.Constant (.int 1) k p1) p2)) p3) pos) (tRevA X.K te) := by
  refine ⟨fun pins s σ H Q I h => ?_⟩
  refine Subscript_ (thn (he.run pins s σ H _ I h) fun v s1 ⟨x, H1, I1, r1, q1⟩ => ?_)
  obtain ⟨a, xs, ex, q⟩ := q1
  subst ex
  cases r1
  have hst : PO X (some (.UnaryOp .USub (.Constant (.int 1) k p1) p2)) (tPart (tUn (rU fun i => .int (-i)) (tC (.int 1)))) := po_some (pe_un un_neg pe_int)
  refine wpAny_Slice (thn (po_none.run pins s1 σ H1 (fun o H2 => o = none ∧ H2 = H1) I1 ⟨rfl, rfl⟩) fun vl s2 ⟨l, H2, I2, pl, el, e2⟩ => ?_)
  subst el e2
  refine thn (po_none.run pins s2 σ H2 (fun o H3 => o = none ∧ H3 = H2) I2 ⟨rfl, rfl⟩) fun vu s3 ⟨u, H3, I3, pu, eu, e3⟩ => ?_
  subst eu e3
  refine thn (hst.run pins s3 σ H3 (fun o H4 => o = some (-1) ∧ H4 = H3) I3 ⟨1, rfl, -1, rfl, rfl, rfl⟩) fun vs s4 ⟨o, H4, I4, ps, eo, e4⟩ => ?_
  subst eo e4
  have I5 : Inv X pins σ H4 { s4 with heap := s4.heap.push { cls := .type "slice", data := .fields #[vl, vu, vs] } } := I4.kept (t' := s4.toks) fun b ob q => Heap.get?_push_of_some _ q
  rcases q with ⟨hx, q⟩ | ⟨hx, q⟩
  · obtain ⟨its, r, ht, hz⟩ := I5.list hx
    have hlen := r.length
    show wpAny (model X.prog X.w) X.A (subscriptTail e (.Slice none none (some (.UnaryOp .USub (.Constant (.int 1) k p1) p2)) p3) (.ref a) (.ref s4.heap.objs.size)) (EP X pins σ Q) X.xe { s4 with heap := s4.heap.push { cls := .type "slice", data := .fields #[vl, vu, vs] } }
    refine tail_any (ops := [.ref a, .ref s4.heap.objs.size]) ht.isList.typeIs (PySem.slot_list_getitem.lookup) ?_ (by with_unfolding_all rfl)
    refine wpAny_getItem_list_slice ht.isList (Heap.IsSliceOf.new _ vl vu vs) pl pu ps (by decide) ?_ (by rw [List.size_toArray]; omega)
    rw [PySem.W.krv_pick]
    refine ⟨.ref _, _, I5.laid (t' := s4.toks) (o := .lst xs.reverse) (fun b ob q => Heap.get?_push_of_some _ q) (Nat.le_refl _) ?_, rfl, q _ (I5.hok.fresh (Nat.le_refl _))⟩
    exact ⟨by rw [List.length_reverse]; exact hz, _, 0, r.reverse, Heap.get?_push_size _ rfl⟩
  · obtain ⟨its, r, ht, hz⟩ := I5.tuple hx
    have hlen := r.length
    cases pl
    cases pu
    show wpAny (model X.prog X.w) X.A (subscriptTail e (.Slice none none (some (.UnaryOp .USub (.Constant (.int 1) k p1) p2)) p3) (.ref a) (.ref s4.heap.objs.size)) (EP X pins σ Q) X.xe { s4 with heap := s4.heap.push { cls := .type "slice", data := .fields #[.none, .none, vs] } }
    refine tail_any (ops := [.ref a, .ref s4.heap.objs.size]) ht.typeIs (PyProof.Rows.slot_tuple_getitem.lookup) ?_ (by with_unfolding_all rfl)
    refine getItem_tuple_rev ht (Heap.IsSliceOf.new _ .none .none vs) ps ?_ (by rw [List.size_toArray]; omega)
    refine ⟨.ref _, _, I5.laid (t' := s4.toks) (o := .tup xs.reverse) (fun b ob q => Heap.get?_push_of_some _ q) (Nat.le_refl _) ?_, rfl, q _ (I5.hok.fresh (Nat.le_refl _))⟩
    exact ⟨by rw [List.length_reverse]; exact hz, _, r.reverse, IsTup.new _ _⟩
end MP

namespace MP
open PySem L2

def asB (r : Res D) : Res Bool := r.bind fun x S => match x with
  | .bl b => .ok b S
  | _ => .bad
def FinB (G : Gx) (A : List Addr) (H : Hp) (r : Res D) (Q : Bool → Hp → Prop) (E : XK) : Prop := Fin (fun _ _ (b b' : Bool) => b = b') G A H (asB r) Q E
def STb (G : Gx) (X : Cx) (E : XK) (Γ : Cal) (c : C) (e : Expr) : Prop :=
  ∃ t, PT X e t ∧ ∀ r s A H S Q, ERel G A H r s → SRel G A H S → FinB G A H (evE Γ c r S) Q E → t s H Q
def SWb (G : Gx) (X : Cx) (E : XK) (Γ : Cal) (c : C) (e : Expr) : Prop :=
  ∃ t, PW X e t ∧ ∀ r s A H S Q, ERel G A H r s → SRel G A H S → FinB G A H (evE Γ c r S) Q E → t s H Q
theorem SWb.st {G : Gx} {X : Cx} {E : XK} {Γ : Cal} {c : C} {e : Expr} (h : SWb G X E Γ c e) : STb G X E Γ c e := let ⟨t, p, q⟩ := h; ⟨t, p.pt, q⟩
section
variable {G : Gx} {X : Cx} {E : XK} {Γ : Cal} {n : Nat} {a b c : C} {ea eb ec : Expr} {pos : Pos} {A A1 : List Addr} {H H1 : Hp} {S S1 : Store}

theorem FinB.toE {r : Res D} {Q : Bool → Hp → Prop} (h : FinB G A H r Q E) : FinE G A H r (fun v H' => ∃ k, v = .bl k ∧ Q k H') E := by
  unfold FinB at h
  cases r with
  | ok d S' =>
    cases d with
    | bl k => exact fun A' H' v e R p => by cases p; exact ⟨k, rfl, h A' H' k e R rfl⟩
    | _ => exact h.elim
  | exc c S' => exact h
  | bad => exact h
theorem FinB.here {k : Bool} {Q : Bool → Hp → Prop} (R : SRel G A H S) (h : FinB G A H (.ok (.bl k) S) Q E) : Q k H := h A H k .refl R rfl
theorem FinB.mono {r : Res D} {Q : Bool → Hp → Prop} (R : SRel G A H S) (R1 : SRel G A1 H1 S1) (x : Ext A H A1 H1) (h : FinB G A H r Q E) : FinB G A1 H1 r Q E := Fin.mono R R1 x h
theorem fin_tru {γ δ : Type} {P' : List Addr → Hp → γ → δ → Prop} {r : Res D} {f g : Store → Res γ} {Q : δ → Hp → Prop} {Q' : Bool → Hp → Prop} (R : SRel G A H S) (h : Fin P' G A H (r.bind fun x S => truD x S f g) Q E)
    (k : ∀ b S1 A1 H1, Ext A H A1 H1 → SRel G A1 H1 S1 → Fin P' G A1 H1 (if b = true then f S1 else g S1) Q E → Q' b H1) : FinB G A H r Q' E := by
  unfold FinB
  cases r with
  | ok d S' =>
    cases d with
    | bl t =>
      intro A' H' b e R' p
      cases p
      cases t with
      | true => exact k true S' A' H' e R' (Fin.mono R R' e h)
      | false => exact k false S' A' H' e R' (Fin.mono R R' e h)
    | _ => exact h.elim
  | exc c S' => exact h
  | bad => exact h
theorem finB_tru {r : Res D} {f g : Store → Res D} {Q Q' : Bool → Hp → Prop} (R : SRel G A H S) (h : FinB G A H (r.bind fun x S => truD x S f g) Q E)
    (k : ∀ b S1 A1 H1, Ext A H A1 H1 → SRel G A1 H1 S1 → FinB G A1 H1 (if b = true then f S1 else g S1) Q E → Q' b H1) : FinB G A H r Q' E := by
  refine fin_tru (P' := fun _ _ (b b' : Bool) => b = b') (f := fun S => asB (f S)) (g := fun S => asB (g S)) (Q := Q) R ?_ fun b S1 A1 H1 e R1 h1 => k b S1 A1 H1 e R1 ?_
  · unfold FinB at h
    cases r with
    | ok d S' =>
      cases d with
      | bl t => cases t <;> exact h
      | _ => exact h
    | exc c S' => exact h
    | bad => exact h
  · unfold FinB
    cases b <;> exact h1

theorem stb_val (h : SE G X E Γ c ec) (he : ∀ whole, isTrue ec X.env whole = (do let v ← whole; standAt ec.pos; holding [v] (truthy v))) : STb G X E Γ c ec := by
  obtain ⟨t, p, q⟩ := h
  exact ⟨_, pt_val p he, fun r s A H S Q er R h => q r s A H S _ er R h.toE⟩
theorem stb_cmp {op : CmpOp} {r : R2} (ho : OpR X (compareOp op) r) (hk : OpOk G r (cmpD op)) (hm : behindInMarks op eb = false) (ha : SE G X E Γ a ea) (hb : SE G X E Γ b eb) : STb G X E Γ (.cmp op a b) (.Compare ea [op] [eb] pos) := by
  obtain ⟨ta, pa, qa⟩ := ha
  obtain ⟨tb, pb, qb⟩ := hb
  refine ⟨_, pt_cmpR ho pa pb hm, fun r s A H S Q er R h => ?_⟩
  have h := h.toE
  simp only [evE] at h
  refine qa r s A H S _ er R (h.bind R fun x S1 A1 H1 v _ e1 R1 p1 h1 => ?_)
  refine qb r s A1 H1 S1 _ (er.ext R e1) R1 (h1.bind R1 fun y S2 A2 H2 u _ e2 R2 p2 h2 => ?_)
  exact hk A2 H2 S2 x y v u _ E R2 (p1.ext R1 e2) p2 h2
theorem lastMarks2 {op op' : CmpOp} {x y : Expr} (h : behindInMarks op' y = false) : lastMarks [op, op'] [x, y] = false := h
theorem chain_ok {op op' : CmpOp} {r r' : R2} {ta tb tc : TE} (hk : OpOk G r (cmpD op)) (hk' : OpOk G r' (cmpD op'))
    (qa : ∀ r s A H S Q, ERel G A H r s → SRel G A H S → FinE G A H (evE Γ a r S) Q E → ta s H Q) (qb : ∀ r s A H S Q, ERel G A H r s → SRel G A H S → FinE G A H (evE Γ b r S) Q E → tb s H Q)
    (qc : ∀ r s A H S Q, ERel G A H r s → SRel G A H S → FinE G A H (evE Γ c r S) Q E → tc s H Q) :
    ∀ ρ s A H S Q, ERel G A H ρ s → SRel G A H S → FinE G A H (evE Γ (.cmp2 op op' a b c) ρ S) Q E → tChain r r' ta tb tc s H Q := by
  intro ρ s A H S Q er R h
  simp only [evE] at h
  refine qa ρ s A H S _ er R (h.bind R fun x S1 A1 H1 v _ e1 R1 p1 h1 => ?_)
  have er1 := er.ext R e1
  refine qb ρ s A1 H1 S1 _ er1 R1 (h1.bind R1 fun y S2 A2 H2 u _ e2 R2 p2 h2 => ?_)
  have er2 := er1.ext R1 e2
  have h3 := (fin_tru R2 h2 (Q' := fun k H3 => if k = true then tc s H3 fun w' H4 => r' u w' H4 Q else Q (.bl false) H3) fun k S3 A3 H3 e3 R3 h3 => ?_).toE
  · exact hk A2 H2 S2 x y v u _ E R2 (p1.ext R1 e2) p2 h3
  · cases k with
    | true =>
      rw [if_pos rfl] at h3 ⊢
      refine qc ρ s A3 H3 S3 _ (er2.ext R2 e3) R3 (h3.bind R3 fun z S4 A4 H4 w _ e4 R4 p4 h4 => ?_)
      exact hk' A4 H4 S4 y z u w Q E R4 ((p2.ext R2 e3).ext R3 e4) p4 h4
    | false =>
      rw [if_neg Bool.false_ne_true] at h3 ⊢
      exact h3.here R3 (.bl false)
theorem se_chain {op op' : CmpOp} {r r' : R2} (ho : OpR X (compareOp op) r) (hk : OpOk G r (cmpD op)) (ho' : OpR X (compareOp op') r') (hk' : OpOk G r' (cmpD op')) (hm : behindInMarks op' ec = false)
    (ha : SE G X E Γ a ea) (hb : SE G X E Γ b eb) (hc : SE G X E Γ c ec) : SE G X E Γ (.cmp2 op op' a b c) (.Compare ea [op, op'] [eb, ec] pos) := by
  obtain ⟨ta, pa, qa⟩ := ha
  obtain ⟨tb, pb, qb⟩ := hb
  obtain ⟨tc, pc, qc⟩ := hc
  exact ⟨_, pe_chain ho ho' pa pb pc (lastMarks2 hm), chain_ok hk hk' qa qb qc⟩
theorem stb_chain {op op' : CmpOp} {r r' : R2} (ho : OpR X (compareOp op) r) (hk : OpOk G r (cmpD op)) (ho' : OpR X (compareOp op') r') (hk' : OpOk G r' (cmpD op')) (hm : behindInMarks op' ec = false)
    (ha : SE G X E Γ a ea) (hb : SE G X E Γ b eb) (hc : SE G X E Γ c ec) : STb G X E Γ (.cmp2 op op' a b c) (.Compare ea [op, op'] [eb, ec] pos) := by
  obtain ⟨ta, pa, qa⟩ := ha
  obtain ⟨tb, pb, qb⟩ := hb
  obtain ⟨tc, pc, qc⟩ := hc
  exact ⟨_, pt_chain ho ho' pa pb pc (lastMarks2 hm), fun ρ s A H S Q er R h => chain_ok hk hk' qa qb qc ρ s A H S _ er R h.toE⟩

theorem se_one {op : BoolOp} (h : SE G X E Γ a ea) : SE G X E Γ a (.BoolOp op [ea] pos) := let ⟨t, p, q⟩ := h; ⟨t, pe_one p, q⟩
theorem swb_and1 (h : STb G X E Γ a ea) : SWb G X E Γ a (.BoolOp .And [ea] pos) := let ⟨t, p, q⟩ := h; ⟨t, pw_and1 p, q⟩
theorem swb_or1 (h : STb G X E Γ a ea) : SWb G X E Γ a (.BoolOp .Or [ea] pos) := let ⟨t, p, q⟩ := h; ⟨t, pw_or1 p, q⟩
theorem se_and {rest : List Expr} (ha : SE G X E Γ a ea) (hb : SE G X E Γ b (.BoolOp .And (eb :: rest) pos)) : SE G X E Γ (.and a b) (.BoolOp .And (ea :: eb :: rest) pos) := by
  obtain ⟨ta, pa, qa⟩ := ha
  obtain ⟨tb, pb, qb⟩ := hb
  refine ⟨_, pe_and pa pb, fun r s A H S Q er R h => ?_⟩
  simp only [evE] at h
  refine qa r s A H S _ er R (fin_tru R h fun k S1 A1 H1 e1 R1 h1 => ?_).toE
  cases k with
  | true => rw [if_pos rfl] at h1 ⊢; exact qb r s A1 H1 S1 _ (er.ext R e1) R1 h1
  | false => rw [if_neg Bool.false_ne_true] at h1 ⊢; exact h1.here R1 (.bl false)
theorem se_or {rest : List Expr} (ha : SE G X E Γ a ea) (hb : SE G X E Γ b (.BoolOp .Or (eb :: rest) pos)) : SE G X E Γ (.or a b) (.BoolOp .Or (ea :: eb :: rest) pos) := by
  obtain ⟨ta, pa, qa⟩ := ha
  obtain ⟨tb, pb, qb⟩ := hb
  refine ⟨_, pe_or pa pb, fun r s A H S Q er R h => ?_⟩
  simp only [evE] at h
  refine qa r s A H S _ er R (fin_tru R h fun k S1 A1 H1 e1 R1 h1 => ?_).toE
  cases k with
  | true => rw [if_pos rfl] at h1 ⊢; exact h1.here R1 (.bl true)
  | false => rw [if_neg Bool.false_ne_true] at h1 ⊢; exact qb r s A1 H1 S1 _ (er.ext R e1) R1 h1
theorem swb_and {rest : List Expr} (ha : STb G X E Γ a ea) (hb : SWb G X E Γ b (.BoolOp .And (eb :: rest) pos)) : SWb G X E Γ (.and a b) (.BoolOp .And (ea :: eb :: rest) pos) := by
  obtain ⟨ta, pa, qa⟩ := ha
  obtain ⟨tb, pb, qb⟩ := hb
  refine ⟨_, pw_and pa pb, fun r s A H S Q er R h => ?_⟩
  simp only [evE] at h
  refine qa r s A H S _ er R (finB_tru R h fun k S1 A1 H1 e1 R1 h1 => ?_)
  cases k with
  | true => rw [if_pos rfl] at h1 ⊢; exact qb r s A1 H1 S1 _ (er.ext R e1) R1 h1
  | false => rw [if_neg Bool.false_ne_true] at h1 ⊢; exact h1.here R1
theorem swb_or {rest : List Expr} (ha : STb G X E Γ a ea) (hb : SWb G X E Γ b (.BoolOp .Or (eb :: rest) pos)) : SWb G X E Γ (.or a b) (.BoolOp .Or (ea :: eb :: rest) pos) := by
  obtain ⟨ta, pa, qa⟩ := ha
  obtain ⟨tb, pb, qb⟩ := hb
  refine ⟨_, pw_or pa pb, fun r s A H S Q er R h => ?_⟩
  simp only [evE] at h
  refine qa r s A H S _ er R (finB_tru R h fun k S1 A1 H1 e1 R1 h1 => ?_)
  cases k with
  | true => rw [if_pos rfl] at h1 ⊢; exact h1.here R1
  | false => rw [if_neg Bool.false_ne_true] at h1 ⊢; exact qb r s A1 H1 S1 _ (er.ext R e1) R1 h1
theorem not_fin {r : Res D} {Q : VK} (R : SRel G A H S) (h : FinE G A H (r.bind fun x S => match x with | .bl b => .ok (.bl (!b)) S | _ => .bad) Q E) : FinB G A H r (fun k H1 => Q (.bl (!k)) H1) E := by
  unfold FinB
  cases r with
  | ok d S' =>
    cases d with
    | bl t => exact fun A' H' b e R' p => by cases p; exact h A' H' _ e R' (.bl _)
    | _ => exact h.elim
  | exc c S' => exact h
  | bad => exact h
theorem se_not (ha : SE G X E Γ a ea) : SE G X E Γ (.not a) (.UnaryOp .Not ea pos) := by
  obtain ⟨ta, pa, qa⟩ := ha
  refine ⟨_, pe_not pa, fun r s A H S Q er R h => ?_⟩
  simp only [evE] at h
  exact qa r s A H S _ er R (not_fin R h).toE
theorem stb_not (ha : STb G X E Γ a ea) : STb G X E Γ (.not a) (.UnaryOp .Not ea pos) := by
  obtain ⟨ta, pa, qa⟩ := ha
  refine ⟨_, pt_not pa, fun r s A H S Q er R h => ?_⟩
  have h := h.toE
  simp only [evE] at h
  have h2 := not_fin R h
  refine qa r s A H S _ er R ?_
  unfold FinB at h2 ⊢
  cases q : asB (evE Γ a r S) with
  | ok d S' =>
    rw [q] at h2
    intro A' H' b e R' p
    obtain ⟨k, e1, e2⟩ := h2 A' H' b e R' p
    cases e1
    exact e2
  | exc c S' => rw [q] at h2; exact h2
  | bad => rw [q] at h2; exact h2
theorem se_neg (ha : SE G X E Γ a ea) : SE G X E Γ (.neg a) (.UnaryOp .USub ea pos) := by
  obtain ⟨ta, pa, qa⟩ := ha
  refine ⟨_, pe_un un_neg pa, fun r s A H S Q er R h => ?_⟩
  simp only [evE] at h
  refine qa r s A H S _ er R (h.bind R fun x S1 A1 H1 v _ e1 R1 p1 h1 => ?_)
  cases x with
  | int i => rw [rep_int p1]; exact ⟨i, rfl, h1.here R1 (.int _)⟩
  | _ => exact h1.elim
theorem se_ite {t : C} {et : Expr} (ht : STb G X E Γ t et) (ha : SE G X E Γ a ea) (hb : SE G X E Γ b eb) : SE G X E Γ (.ite t a b) (.IfExp et ea eb pos) := by
  obtain ⟨tt, pt, qt⟩ := ht
  obtain ⟨ta, pa, qa⟩ := ha
  obtain ⟨tb, pb, qb⟩ := hb
  refine ⟨_, pe_ifExp pt pa pb, fun r s A H S Q er R h => ?_⟩
  simp only [evE] at h
  refine qt r s A H S _ er R (fin_tru R h fun k S1 A1 H1 e1 R1 h1 => ?_)
  cases k with
  | true => rw [if_pos rfl] at h1 ⊢; exact qa r s A1 H1 S1 _ (er.ext R e1) R1 h1
  | false => rw [if_neg Bool.false_ne_true] at h1 ⊢; exact qb r s A1 H1 S1 _ (er.ext R e1) R1 h1

theorem sa_nil : SA G X E Γ .nil [] := ⟨_, pa_nil, fun r s A H S Q er R h => by simp only [evA] at h; exact h.here R .nil⟩
theorem sa_cons {as : C} {es : List Expr} (ha : SE G X E Γ a ea) (hs : SA G X E Γ as es) (hp : starEach (ea :: es) X.env = (false, eval ea X.env) :: starEach es X.env) : SA G X E Γ (.cons a as) (ea :: es) := by
  obtain ⟨ta, pa, qa⟩ := ha
  obtain ⟨ts, ps, qs⟩ := hs
  refine ⟨_, pa_cons pa ps hp, fun r s A H S Q er R h => ?_⟩
  simp only [evA] at h
  refine qa r s A H S _ er R (h.bind R fun x S1 A1 H1 v _ e1 R1 p1 h1 => ?_)
  refine qs r s A1 H1 S1 _ (er.ext R e1) R1 (h1.bind R1 fun y S2 A2 H2 u _ e2 R2 p2 h2 => ?_)
  exact h2.here R2 (.cons (p1.ext R1 e2) p2)
def C.len : C → Nat
  | .cons _ as => as.len + 1
  | _ => 0
theorem evA_len : ∀ (as : C) (r : Env) (S : Store) (ds : List D) (S' : Store), evA Γ as r S = .ok ds S' → ds.length = as.len := by
  intro as
  induction as with
  | nil => intro r S ds S' h; simp only [evA] at h; cases h; rfl
  | cons a as iha ih =>
    intro r S ds S' h
    simp only [evA] at h
    cases q : evE Γ a r S with
    | ok x S1 =>
      rw [q] at h
      dsimp only [Res.bind] at h
      cases q2 : evA Γ as r S1 with
      | ok xs S2 =>
        rw [q2] at h
        cases h
        simp [C.len, ih r S1 xs _ q2]
      | exc c S2 => rw [q2] at h; cases h
      | bad => rw [q2] at h; cases h
    | exc c S1 => rw [q] at h; cases h
    | bad => rw [q] at h; cases h
  | _ => intro r S ds S' h; simp only [evA] at h; cases h
theorem se_tup {as : C} {es : List Expr} {k : Nat} (hs : SA G X E Γ as es) (hl : as.len ≤ 1000) : SE G X E Γ (.tup as) (.Tuple es k pos) := by
  obtain ⟨ts, ps, qs⟩ := hs
  refine ⟨_, pe_tup ps, fun r s A H S Q er R h => ?_⟩
  simp only [evE] at h
  refine qs r s A H S _ er R (h.bind R fun ds S1 A1 H1 vs e0 e1 R1 p1 h1 => ⟨?_, fun p hp => fin_tup R1 h1 p1 p hp⟩)
  rw [← p1.length, evA_len _ _ _ _ _ e0, sizeLine_eq]
  omega
theorem se_lst {qq : Bool} {as : C} {es : List Expr} (hs : SA G X E Γ as es) (hl : as.len ≤ 1000) : SE G X E Γ (.lst qq as) (.List es pos) := by
  obtain ⟨ts, ps, qs⟩ := hs
  refine ⟨_, pe_lst ps, fun r s A H S Q er R h => ?_⟩
  simp only [evE] at h
  refine qs r s A H S _ er R (h.bind R fun ds S1 A1 H1 vs e0 e1 R1 p1 h1 => ⟨?_, fun p hp => fin_lst R1 h1 p1 p hp⟩)
  rw [← p1.length, evA_len _ _ _ _ _ e0, sizeLine_eq]
  omega

theorem se_idx {r : R2} (hi : IxR X r) (hk : OpOk G r idxD) (hs : PlainIx eb) (ha : SE G X E Γ a ea) (hb : SE G X E Γ b eb) : SE G X E Γ (.idx a b) (.Subscript ea eb pos) := by
  obtain ⟨ta, pa, qa⟩ := ha
  obtain ⟨tb, pb, qb⟩ := hb
  refine ⟨_, pe_ix hi pa pb hs, fun r s A H S Q er R h => ?_⟩
  simp only [evE] at h
  refine qa r s A H S _ er R (h.bind R fun x S1 A1 H1 v _ e1 R1 p1 h1 => ?_)
  refine qb r s A1 H1 S1 _ (er.ext R e1) R1 (h1.bind R1 fun y S2 A2 H2 u _ e2 R2 p2 h2 => ?_)
  exact hk A2 H2 S2 x y v u Q E R2 (p1.ext R1 e2) p2 h2
def SB (G : Gx) (X : Cx) (E : XK) (Γ : Cal) (c : C) (o : Option Expr) : Prop :=
  ∃ t, PO X o t ∧ ∀ r s A H S Q, ERel G A H r s → SRel G A H S → Fin (fun _ _ (b b' : Option Int) => b = b') G A H (evB c.isNo (evE Γ c r) S) Q E → t s H Q
theorem sb_none : SB G X E Γ .no none := ⟨_, po_none, fun r s A H S Q er R h => h A H none .refl R rfl⟩
theorem sb_some (hn : a.isNo = false) (ha : SE G X E Γ a ea) : SB G X E Γ a (some ea) := by
  obtain ⟨ta, pa, qa⟩ := ha
  refine ⟨_, po_some pa, fun r s A H S Q er R h => ?_⟩
  unfold evB at h
  rw [hn, if_neg Bool.false_ne_true] at h
  refine qa r s A H S _ er R (h.bind R fun x S1 A1 H1 v _ e1 R1 p1 h1 => ?_)
  cases x with
  | int i => rw [rep_int p1]; exact ⟨i, rfl, h1 A1 H1 _ .refl R1 rfl⟩
  | _ => exact h1.elim
theorem se_slc {qq : Bool} {r : V → Option Int → Option Int → Hp → VK → Prop} {lo hi : C} {el eh : Option Expr} {p2 : Pos} (hr : SlR X r) (hk : SlOk qq G r) (ha : SE G X E Γ a ea) (hl : SB G X E Γ lo el) (hh : SB G X E Γ hi eh) :
    SE G X E Γ (.slc qq a lo hi) (.Subscript ea (.Slice el eh none p2) pos) := by
  obtain ⟨ta, pa, qa⟩ := ha
  obtain ⟨tl, pl, ql⟩ := hl
  obtain ⟨th, ph, qh⟩ := hh
  refine ⟨_, pe_slice hr pa pl ph, fun r s A H S Q er R h => ?_⟩
  simp only [evE] at h
  refine qa r s A H S _ er R (h.bind R fun x S1 A1 H1 v _ e1 R1 p1 h1 => ?_)
  have er1 := er.ext R e1
  refine ql r s A1 H1 S1 _ er1 R1 (h1.bind R1 fun l S2 A2 H2 l' _ e2 R2 p2 h2 => ?_)
  subst p2
  refine qh r s A2 H2 S2 _ (er1.ext R1 e2) R2 (h2.bind R2 fun u S3 A3 H3 u' _ e3 R3 p3 h3 => ?_)
  subst p3
  exact hk A3 H3 S3 x v l u Q E R3 ((p1.ext R1 e2).ext R2 e3) h3
theorem se_rev {qq : Bool} {k : Nat} {p1 p2 p3 : Pos} (xo : Xok G X n) (ha : SE G X E Γ a ea) : SE G X E Γ (.rev qq a) (.Subscript ea (.Slice none none (some (.UnaryOp .USub (.Constant (.int 1) k p1) p2)) p3) pos) := by
  obtain ⟨ta, pa, qa⟩ := ha
  refine ⟨_, pe_revA pa, fun r s A H S Q er R h => ?_⟩
  simp only [evE] at h
  refine qa r s A H S _ er R (h.bind R fun x S1 A1 H1 v _ e1 R1 p1 h1 => ?_)
  unfold revD at h1
  split at h1
  · rename_i xs q
    obtain ⟨a, vs, rfl, h2, h3⟩ := lstOf_rep R1 p1 q
    exact ⟨a, vs, rfl, .inl ⟨by rw [xo.K]; exact h2, fun p hp => fin_lst R1 h1 h3.reverse p hp⟩⟩
  · split at h1
    · rename_i xs _
      obtain ⟨a, vs, rfl, h2, h3⟩ := rep_tup p1
      exact ⟨a, vs, rfl, .inr ⟨.of h2, fun p hp => fin_tup R1 h1 h3.reverse p hp⟩⟩
    · exact h1.elim

theorem rg_rep {A : List Addr} {H : Hp} (m : Nat) : RepL G A H ((List.range m).map fun i => D.int (i : Nat)) ((List.range m).map fun i => V.int (0 + (i : Nat))) := by
  induction m with
  | zero => exact .nil
  | succ m ih =>
    rw [List.range_succ, List.map_append, List.map_append]
    refine ih.append (.cons ?_ .nil)
    show Rep G A H (.int m) (.int (0 + (m : Nat)))
    rw [Int.zero_add]
    exact .int _
theorem se_lrng {qq : Bool} {p p2 pos pos2 : Pos} (xo : Xok G X n) (hc : X.calm = true) (hg : Gl X "list") (hm : X.mg "list" = none) (hg2 : Gl X "range") (hm2 : X.mg "range" = none) (ha : SE G X E Γ a ea) (hs : starEach [ea] X.env = [(false, eval ea X.env)]) :
    SE G X E Γ (.lrng qq a) (.Call (.Name "list" p) [.Call (.Name "range" p2) [ea] [] pos2] [] pos) := by
  obtain ⟨ta, pa, qa⟩ := ha
  refine ⟨_, pe_listRg hc hg hm (prg_1 hg2 hm2 pa hs) rfl, fun r s A H S Q er R h => ?_⟩
  simp only [evE] at h
  refine qa r s A H S _ er R (h.bind R fun x S1 A1 H1 v _ e1 R1 p1 h1 => ?_)
  unfold lrngD at h1
  split at h1
  · rename_i k _
    split at h1
    · rename_i hk
      rw [rep_int p1]
      refine ⟨_, rfl, ⟨by decide, by decide, ?_, ?_, ?_⟩, fun q hq => ?_⟩
      · have : (lim : Int) = 16777216 := rfl
        omega
      · have : (lim : Int) = 16777216 := rfl
        omega
      · have : (lim : Int) = 16777216 := rfl
        omega
      · unfold rgV
        rw [Int.sub_zero]
        exact fin_lst R1 h1 (rg_rep _) q hq
    · exact h1.elim
  · exact h1.elim

theorem se_trng {p p2 pos pos2 : Pos} (xo : Xok G X n) (hc : X.calm = true) (hg : Gl X "tuple") (hm : X.mg "tuple" = none) (hg2 : Gl X "range") (hm2 : X.mg "range" = none) (ha : SE G X E Γ a ea) (hs : starEach [ea] X.env = [(false, eval ea X.env)]) :
    SE G X E Γ (.trng a) (.Call (.Name "tuple" p) [.Call (.Name "range" p2) [ea] [] pos2] [] pos) := by
  obtain ⟨ta, pa, qa⟩ := ha
  refine ⟨_, pe_tupRg hc hg hm (prg_1 hg2 hm2 pa hs) rfl, fun r s A H S Q er R h => ?_⟩
  simp only [evE] at h
  refine qa r s A H S _ er R (h.bind R fun x S1 A1 H1 v _ e1 R1 p1 h1 => ?_)
  unfold trngD at h1
  split at h1
  · rename_i k _
    split at h1
    · rename_i hk
      rw [rep_int p1]
      refine ⟨_, rfl, ⟨by decide, by decide, ?_, ?_, ?_⟩, fun q hq => ?_⟩
      · have : (lim : Int) = 16777216 := rfl
        omega
      · have : (lim : Int) = 16777216 := rfl
        omega
      · have : (lim : Int) = 16777216 := rfl
        omega
      · unfold rgV
        rw [Int.sub_zero]
        exact fin_tup R1 h1 (rg_rep _) q hq
    · exact h1.elim
  · exact h1.elim

def NEq (K : PySem.W.Frag) (C : Addr) : Prop := PySem.W.mroIn K C (.type "object") = some true ∧ PySem.W.findIn K (.ref C) "__eq__" = some (some (.builtin "object.__eq__"))
theorem noneOr_rep {A : List Addr} {H : Hp} {S : Store} (R : SRel G A H S) (hn : ∀ C, G.mg "Ledger" = some (.ref C) → NEq G.K C) : ∀ {ys : List D} {vs : List V}, RepL G A H ys vs → (ys.all fun y => (insOf S 1 y).isSome) = true → (∀ z ∈ vs, NoneOr G.K H z) ∧ vs.any isNon = false
  | _, _, .nil, _ => ⟨(fun z hz => nomatch hz), rfl⟩
  | y :: ys, v :: vs, .cons r t, h => by
    rw [List.all_cons, Bool.and_eq_true] at h
    obtain ⟨h1, h2⟩ := noneOr_rep R hn t h.2
    cases q : insOf S 1 y with
    | none => rw [q] at h; exact absurd h.1 (by simp)
    | some fs =>
      obtain ⟨a, C, dx, ws, rfl, h3, h4, h5, h6⟩ := insOf_rep R r q
      have := hn C h3
      refine ⟨fun z hz => ?_, ?_⟩
      · rcases List.mem_cons.mp hz with rfl | hz
        · exact .inr ⟨a, C, dx, ws, rfl, h4, this.1, this.2⟩
        · exact h1 z hz
      · rw [List.any_cons, h2]
        rfl
theorem nin_ok (xo : Xok G X n) (hn : ∀ C, G.mg "Ledger" = some (.ref C) → NEq G.K C) {A : List Addr} {H : Hp} {S : Store} {y : D} {u : V} {Q : VK} (R : SRel G A H S) (hy : Rep G A H y u) (h : FinE G A H (ninD y S) Q E) : rNoneIn X.K false .non u H Q := by
  unfold ninD at h
  split at h
  · rename_i ys q
    split at h
    · rename_i ha
      obtain ⟨p, vs, rfl, h1, h2⟩ := lstOf_rep R hy q
      obtain ⟨h3, h4⟩ := noneOr_rep R hn h2 ha
      rw [xo.K]
      refine ⟨p, vs, rfl, rfl, h1, h3, ?_⟩
      rw [h4]
      exact h.here R (.bl _)
    · exact h.elim
  · exact h.elim
theorem se_nin {kk : Nat} {p : Pos} (xo : Xok G X n) (hn : ∀ C, G.mg "Ledger" = some (.ref C) → NEq G.K C) (hm : behindInMarks .In eb = false) (hb : SE G X E Γ b eb) : SE G X E Γ (.nin b) (.Compare (.Constant .none kk p) [.In] [eb] pos) := by
  obtain ⟨ta, pa, qa⟩ := (se_non : SE G X E Γ (.val .non) (.Constant .none kk p))
  obtain ⟨tb, pb, qb⟩ := hb
  refine ⟨_, pe_cmpR (op_noneIn (by have := xo.u65; omega)) pa pb hm, fun r s A H S Q er R h => ?_⟩
  have h : FinE G A H ((evE Γ (.val .non) r S).bind fun _ S => (evE Γ b r S).bind fun y S => ninD y S) Q E := by
    simp only [evE] at h ⊢
    exact h
  refine qa r s A H S _ er R (h.bind R fun x S1 A1 H1 v e0 e1 R1 p1 h1 => ?_)
  simp only [evE] at e0
  cases e0
  refine qb r s A1 H1 S _ (er.ext R e1) R1 (h1.bind R1 fun y S2 A2 H2 u _ e2 R2 p2 h2 => ?_)
  cases p1
  exact nin_ok xo hn R2 p2 h2
theorem stb_nin {kk : Nat} {p : Pos} (xo : Xok G X n) (hn : ∀ C, G.mg "Ledger" = some (.ref C) → NEq G.K C) (hm : behindInMarks .In eb = false) (hb : SE G X E Γ b eb) : STb G X E Γ (.nin b) (.Compare (.Constant .none kk p) [.In] [eb] pos) := by
  obtain ⟨ta, pa, qa⟩ := (se_non : SE G X E Γ (.val .non) (.Constant .none kk p))
  obtain ⟨tb, pb, qb⟩ := hb
  refine ⟨_, pt_cmpR (op_noneIn (by have := xo.u65; omega)) pa pb hm, fun r s A H S Q er R h => ?_⟩
  have h := h.toE
  have h : FinE G A H ((evE Γ (.val .non) r S).bind fun _ S => (evE Γ b r S).bind fun y S => ninD y S) (fun v H' => ∃ k, v = V.bl k ∧ Q k H') E := by
    simp only [evE] at h ⊢
    exact h
  refine qa r s A H S _ er R (h.bind R fun x S1 A1 H1 v e0 e1 R1 p1 h1 => ?_)
  simp only [evE] at e0
  cases e0
  refine qb r s A1 H1 S _ (er.ext R e1) R1 (h1.bind R1 fun y S2 A2 H2 u _ e2 R2 p2 h2 => ?_)
  cases p1
  exact nin_ok xo hn R2 p2 h2

theorem star_plain {es : List Expr} {env : PySem.Env} {pos : Pos} (h : ∀ e ∈ es, ∀ (r : List Expr), starEach (e :: r) env = (false, eval e env) :: starEach r env) : (backTo pos (starEach es env)).any (·.1) = false := by
  induction es with
  | nil => rfl
  | cons e es ih =>
    rw [h e List.mem_cons_self es]
    show (false || (backTo pos (starEach es env)).any (·.1)) = false
    rw [ih fun e' he => h e' (List.mem_cons_of_mem _ he)]
    rfl
theorem se_bltB {qq : Bool} {f : Bf} {id : String} {x : Str} {p : Pos} {as : C} {e : Expr} {es : List Expr} {r : List V → Hp → VK → Prop} (hc : CallR X (.builtin id) r) (hk : CallOk G r (bltD qq f)) (hg : Gl X x) (hm : X.mg x = none) (hv : bootBuiltins x = some (.builtin id))
    (hn : x ≠ "__name__") (hd : (x == ("__debug__" : Str)) = false) (hs : SA G X E Γ as (e :: es)) (he : starEach (e :: es) X.env = (false, eval e X.env) :: starEach es X.env) (hpl : (backTo pos (starEach es X.env)).any (·.1) = false) :
    SE G X E Γ (.blt qq f as) (.Call (.Name x p) (e :: es) [] pos) := by
  obtain ⟨ts, ps, qs⟩ := hs
  refine ⟨_, pe_callB hc hg hm hv ps hn hd he hpl, fun r s A H S Q er R h => ?_⟩
  simp only [evE] at h
  exact qs r s A H S _ er R (h.bind R fun ds S1 A1 H1 vs _ e1 R1 p1 h1 => hk A1 H1 S1 ds vs Q E R1 p1 h1)
theorem se_bltT {qq : Bool} {f : Bf} {T : String} {x : Str} {p : Pos} {as : C} {e : Expr} {es : List Expr} {r : List V → Hp → VK → Prop} (hc : CallR X (.type T) r) (hk : CallOk G r (bltD qq f)) (hg : Gl X x) (hm : X.mg x = none) (hv : bootBuiltins x = some (.type T))
    (hn : x ≠ "__name__") (hd : (x == ("__debug__" : Str)) = false) (hs : SA G X E Γ as (e :: es)) (he : starEach (e :: es) X.env = (false, eval e X.env) :: starEach es X.env) (hpl : (backTo pos (starEach es X.env)).any (·.1) = false) :
    SE G X E Γ (.blt qq f as) (.Call (.Name x p) (e :: es) [] pos) := by
  obtain ⟨ts, ps, qs⟩ := hs
  refine ⟨_, pe_callTy hc hg hm hv ps hn hd he hpl, fun r s A H S Q er R h => ?_⟩
  simp only [evE] at h
  exact qs r s A H S _ er R (h.bind R fun ds S1 A1 H1 vs _ e1 R1 p1 h1 => hk A1 H1 S1 ds vs Q E R1 p1 h1)
def spF (G : Gx) (Γ : Cal) (f : Nat) (m : Nat) : Sp := fun vs H Q E => vs.length = m ∧ ∃ A S ds, SRel G A H S ∧ RepL G A H ds vs ∧ FinE G A H (Γ.call f ds S) Q E
end
end MP

namespace MP
open PySem PySem.Spec PyProof.Rows L2
section
variable {X : Cx} {tg : Expr}
theorem turn_far {P : Program} {w : World} {K : PySem.W.Frag} (u : Addr) (lo : Int) (n : Nat) :
    Turn P w K tg (Itr lo n) [u] u (fun i h => IsLongIter h u (lo + (i : Nat) * 1) ((n : Int) - (i : Nat)) 1) := by
  refine ⟨by simp, fun i h t b m => ?_, fun i h h' t g => g u (by simp) _ t, ?_, ?_, fun A i s Q E t q => wpAny_pyIter_longiter t q⟩
  · cases List.mem_singleton.mp m
    exact ⟨_, t, fun v z => by cases (show Data.fields _ = Data.cell v from z)⟩
  · rintro X rfl rfl rfl calm i pins s σ H E inv own t go
    have o := own u (by simp)
    refine (Walks.longrange (prog := X.prog) (w := X.w) (inv.ok.hd calm) u lo 1 n).item i s _ _ go t fun y h' tk hy t' same => ?_
    obtain ⟨k, rfl⟩ := hy
    have inv' : Inv X pins σ H { s with heap := h', toks := tk } := inv.turned (fun b c m e => same b c (by simpa using m) e) o.1 o.2.1 o.2.2.2.1 o.2.2.2.2.1 o.2.2.2.2.2
    refine ⟨_, rfl, go_of (s := { s with heap := h', toks := tk }) (n := "longrange_iterator") t' rfl rfl (by decide) ⟨.int (lo + i), H, inv', ⟨k, by rw [Int.mul_one]⟩, ⟨rfl, rfl⟩, t', fun b m => (own b m).1⟩⟩
  · rintro X rfl rfl rfl calm i pins s σ H E inv own t stop
    have o := own u (by simp)
    have : n ≤ i := stop
    exact wpAny_pyNext_long_end (inv.ok.hd calm) t (by omega) fun h' e => ⟨rfl, inv.turned (t' := s.toks) (fun b c m z => e b c m z) o.1 o.2.1 o.2.2.2.1 o.2.2.2.2.1 o.2.2.2.2.2⟩
theorem any_range {pins : List (Addr × Obj)} {σ : L2.St} {H : Hp} {s : Shared} {R : L2.It → Hp → Prop} {E : Value → Shared → Prop} {lo hi : Int} {t u v : Tok} {tk : Nat} (inv : Inv X pins σ H s) (q : R (Itr lo (hi - lo).toNat) H) :
    wpAny (model X.prog X.w) X.A (pyIter (.ref s.heap.objs.size)) (PIE X pins σ tg R) E { s with heap := s.heap.push { cls := .type "range", data := .fields #[.int lo t, .int hi u, .int 1 v] }, toks := tk } := by
  have inv1 : Inv X pins σ H { s with heap := s.heap.push { cls := .type "range", data := .fields #[.int lo t, .int hi u, .int 1 v] }, toks := tk } := inv.kept fun b o e => Heap.get?_push_of_some _ e
  have e1 : lo + ((0 : Nat) : Int) * 1 = lo := by simp
  have e2 : (((hi - lo).toNat : Nat) : Int) - ((0 : Nat) : Int) = Builtin.Range.rangeSize lo hi 1 := by rw [rangeSize_one]; split <;> omega
  cases sm : Builtin.Range.small lo hi 1 with
  | true =>
    refine wpAny_pyIter_range (IsRange.new ..) sm ⟨_, [_], _, _, H, rfl, inv1.kept (t' := tk) fun b o e => Heap.get?_push_of_some _ e, turn_range _ lo (hi - lo).toNat, ?_, fun b m => ?_, q⟩
    · show IsRangeIter _ _ (lo + ((0 : Nat) : Int) * 1) _ 1
      rw [e1, e2]; exact Heap.get?_push_size _ rfl
    · rw [List.mem_singleton.mp m]
      exact inv1.fpOk (Nat.le_refl _) (inv1.hok.fresh (Nat.le_refl _))
  | false =>
    refine wpAny_pyIter_longrange (IsRange.new ..) sm ⟨_, [_], _, _, H, rfl, inv1.kept (t' := tk) fun b o e => Heap.get?_push_of_some _ e, turn_far _ lo (hi - lo).toNat, ?_, fun b m => ?_, q⟩
    · show IsLongIter _ _ (lo + ((0 : Nat) : Int) * 1) _ 1
      rw [e1, e2]; exact Heap.get?_push_size _ rfl
    · rw [List.mem_singleton.mp m]
      exact inv1.fpOk (Nat.le_refl _) (inv1.hok.fresh (Nat.le_refl _))
def iRngA (ta : TA) : TI := fun σ H R => ta σ H fun vs H1 => ∃ i j : Int, vs = [.int i, .int j] ∧ R (Itr i (j - i).toNat) H1
theorem pi_rangeA {a b : Expr} {ta : TA} {p pos : Pos} (hg : Gl X "range") (hm : X.mg "range" = none) (ha : PA X [a, b] ta) (hs : starEach [a, b] X.env = [(false, eval a X.env), (false, eval b X.env)]) (hs2 : starEach [b] X.env = [(false, eval b X.env)]) : PI X tg (.Call (.Name "range" p) [a, b] [] pos) (iRngA ta) := by
  refine ⟨fun pins s σ H R inv h => Call_ (ld_blt inv hg hm boot_range (PyProof.Rows.callWith_type1 (thn (ha.run pos pins s σ H _ inv h) fun us s1 z => ?_) (by rw [hs, hs2]) (by rw [hs2]; rfl)))⟩
  obtain ⟨vs, H1, inv1, r1, i, j, rfl, q⟩ := z
  match us, r1 with
  | [_, _], .cons ⟨t, e⟩ (.cons ⟨t', e'⟩ .nil) =>
    subst e e'
    exact call_range_2 (any_range inv1 q)
end
end MP

namespace PySem
open Sem (wp)
theorem meets_enumB1 {v : Value} {o : Obj} {H : Heap → Prop} (B : Begins v o H) :
    Meets (Builtin.«enumerate.__new__» ⟨[.type "enumerate", v], []⟩) (fun _ R s => H s.heap ∧
      R (.ok (.ret (.ref (s.heap.push o).objs.size))) { s with heap := (s.heap.push o).push { cls := .type "enumerate", data := .fields #[.none, .bool false, .ref s.heap.objs.size, rawInt 0, .none, .none] } }) :=
  .of_wp fun prog w A R s h => by
    obtain ⟨hp, g, d, tk, os⟩ := s; obtain ⟨h1, h⟩ := h
    have hsub := sub_enumerate
    have q1 : ∀ {A' : Around} {E : Value → Shared → Prop} {Q : Value → Shared → Prop}, Q (.ref hp.objs.size) ⟨hp.push o, g, d, tk, os⟩ → wpAny (model prog w) A' (pyIter v) Q E ⟨hp, g, d, tk, os⟩ :=
      fun q => B.iter prog w _ _ ⟨hp, g, d, tk, os⟩ _ h1 q
    wp_walk using q1
    refine wpAny_stack_any fun st => wpAny_pure ?_
    split
    · rename_i c _ _ _ _ _
      cases (c == Value.type "enumerate")
      · wp_walk using q1
        exact ⟨_, rfl, h⟩
      · wp_walk using q1
        exact ⟨_, rfl, h⟩
    · wp_walk using q1
      exact ⟨_, rfl, h⟩
section
variable {prog : Program} {w : World} {A : Around} {E : Value → Shared → Prop} {s : Shared}
theorem call_enumT {t : Addr} {items : Array Value} {Q : Value → Shared → Prop} (hL : s.heap.IsTuple t items)
    (h : ∀ h', IsEnum h' (s.heap.objs.size + 1) s.heap.objs.size 0 .none → h'.IsTupleIter s.heap.objs.size t 0 → h'.objs.size = s.heap.objs.size + 2 →
      (∀ b o, s.heap.get? b = some o → h'.get? b = some o) → Q (.ref (s.heap.objs.size + 1)) { s with heap := h' }) :
    wpAny (model prog w) A (call (.type "enumerate") [.ref t]) Q E s := by
  refine callType_new F.called_enumerate (by decide) (F.typeCall_enumerate_1 _) (F.newCall_enumerate_1 _) (fun obj => F.args_object_init_2 obj _) F.entry_enumerate_new
    (meets_enumB1 (begins_tuple t items)) ⟨hL, ?_⟩
  have hz : (s.heap.push { cls := .type "tuple_iterator", data := .fields #[.ref t, .int 0 0] }).objs.size = s.heap.objs.size + 1 := Heap.size_push ..
  show _ ∧ _
  rw [hz]
  have he : IsEnum ((s.heap.push { cls := .type "tuple_iterator", data := .fields #[.ref t, .int 0 0] }).push
      { cls := .type "enumerate", data := .fields #[.none, .bool false, .ref s.heap.objs.size, rawInt 0, .none, .none] }) (s.heap.objs.size + 1) s.heap.objs.size 0 .none := by
    have := Heap.get?_push_size (s.heap.push { cls := .type "tuple_iterator", data := .fields #[.ref t, .int 0 0] })
      (o := { cls := .type "enumerate", data := .fields #[.none, .bool false, .ref s.heap.objs.size, rawInt 0, .none, .none] }) rfl
    rw [hz] at this; exact this
  refine ⟨⟨_, he, rfl⟩, h _ he ⟨_, Heap.get?_push_of_some _ (Heap.get?_push_size _ rfl), rfl, rfl⟩ (by rw [Heap.size_push, hz]) fun b o x => Heap.get?_push_of_some _ (Heap.get?_push_of_some _ x)⟩
theorem enum_endT {e it t : Addr} {items : Array Value} {i : Nat} {k : Int} {old : Value} {Q : Option Value → Shared → Prop} (hh : A.in1.handled = none)
    (he : IsEnum s.heap e it k old) (hit : s.heap.IsTupleIter it t i) (ht : s.heap.IsTuple t items) (hx : items[i]? = none)
    (hQ : ∀ h', Heap.ExtBut it s.heap h' → Q none { s with heap := h' }) : wpAny (model prog w) A (pyNext (.ref e)) Q E s := by
  have hT : s.TypeIs (.ref e) "enumerate" := ⟨_, he, rfl⟩
  unfold pyNext
  refine wpAny_bind (wpAny_attempt (wpAny_callSpecial?_slot (name := Str.ofString "__next__") hT F.slot_enumerate_next
    (wpAny_call_entry F.slot_enumerate_next hT F.entry_enumerate_next ?_ (F.args_enumerate_next_1 _))))
  show wpAny _ _ (field (.ref e) 2 >>= _) _ _ _
  refine wpAny_bind (wpAny_field he rfl (x := .ref it) rfl ?_)
  refine wpAny_bind (wpAny_nextOf_tuple_end hh hit ht hx fun h' x he' hx' => ?_)
  obtain ⟨o, ho, hc⟩ := hx'
  refine wpAny_bind (wpAny_isInstance (T := "StopIteration") (b := true) ⟨o, ho, hc⟩ isSubtype_stop ?_)
  exact wpAny_pure (hQ _ he')
end
end PySem
namespace MP
open PySem PySem.Spec PyProof.Rows L2
def IteT (K : PySem.W.Frag) (a : Addr) : L2.It :=
  ⟨fun i H => ∃ (xs : List V) (x : V), SqT K H a xs ∧ xs[i]? = some x, fun i H v H' => ∃ T x, v = .ref T ∧ H T = none ∧ H' = upd H T (.tup [.int (i : Nat), x]) ∧ ∀ xs, SqT K H a xs → xs[i]? = some x, fun i H => ∃ xs : List V, SqT K H a xs ∧ xs.length ≤ i⟩
theorem turn_enumT {P : Program} {w : World} {K : PySem.W.Frag} {elts : List Expr} {kk : Nat} {tpos : Pos} (a e it : Addr) (hai : a ≠ it) (hea : e ≠ a) :
    Turn P w K (.Tuple elts kk tpos) (IteT K a) [e, it] e (fun i h => (∃ old, IsEnum h e it ((i : Nat) : Int) old) ∧ h.IsTupleIter it a i ∧ e ≠ it) where
  mem := by simp
  obj := fun i h st b hb => by
    obtain ⟨⟨old, he⟩, ⟨o, ho, hc, hd⟩, _⟩ := st
    have e' : b = e ∨ b = it := by simpa using hb
    rcases e' with z | z
    · rw [z]; exact ⟨_, he, fun v q => nomatch q⟩
    · rw [z]; exact ⟨o, ho, fun v q => by rw [hd] at q; cases q⟩
  keep := fun i h h' st k => let ⟨⟨old, he⟩, hi, hne⟩ := st; ⟨⟨old, k e (by simp) _ he⟩, hi.at fun o q => k it (by simp) o q, hne⟩
  item := by
    intro X hP hw hK hc i pins s σ H E I hf st hg
    subst hP hw hK
    obtain ⟨⟨old, he⟩, hit, hne⟩ := st
    obtain ⟨xs, x, hq, hx⟩ := hg
    obtain ⟨its, rv, p, hz⟩ := I.tuple hq
    obtain ⟨u, hu, ru⟩ := rv.get hx
    have hel : e < s.heap.objs.size := Heap.lt_size he
    have hil : it < s.heap.objs.size := by obtain ⟨_, q, _⟩ := hit; exact Heap.lt_size q
    have hlt : i < its.toArray.size := by
      have := (List.getElem?_eq_some_iff.mp hu).1
      simpa using this
    refine wpAny_pyNext_enum_itemD (Draws.tuple (A := X.A.in1) (show X.A.in1.handled = none from I.ok.hd hc) it a hai its.toArray) he ⟨hit, p⟩ hlt hne (by simp [hne, hea]) fun u' h' tk hu' ho hit' hT hsz hk => ?_
    have huu : u' = u := by
      have : its.toArray[i]? = some u' := hu'
      simp only [List.getElem?_toArray] at this
      rw [hu] at this
      exact (Option.some.inj this).symm
    subst huu
    refine ⟨_, rfl, wpAny_letOwnedTupleGo_enum (s := { s with heap := h', toks := tk + 1 }) ho fun h'' he' sb => ?_⟩
    have hT2 : h''.get? s.heap.objs.size = some { cls := .type "tuple", data := .seq #[.int i tk, u'] } := (sb.2 _ (Nat.ne_of_gt hel)).trans hT
    have new : ObjOk X.prog X.w (upd H s.heap.objs.size (.tup [.int (i : Nat), x])) h'' s.heap.objs.size (.tup [.int (i : Nat), x]) :=
      ⟨by show 2 ≤ sizeLine; decide, [.int i tk, u'], .cons ⟨_, rfl⟩ (.cons ru .nil), ⟨_, hT2, rfl, _, rfl⟩⟩
    have I1 : Inv X pins σ (upd H s.heap.objs.size (.tup [.int (i : Nat), x])) { s with heap := h'', toks := tk + 1 } :=
      I.turnedNew (ch := [e, it]) (fun b ob hb q => (sb.2 b (fun z => hb (by simp [z]))).trans (hk b ob (fun z => hb (by simp [z])) (fun z => hb (by simp [z])) q)) hf (Nat.le_refl _) new
    refine ⟨.ref s.heap.objs.size, _, I1, rfl, ⟨_, x, rfl, I.hok.fresh (Nat.le_refl _), rfl, fun ys hy => by rw [I.tuple_inj hy hq]; exact hx⟩, ⟨⟨u', ?_⟩, hit'.1.at fun o q => (sb.2 it (Ne.symm hne)).trans q, hne⟩, fun b hb => ?_⟩
    · have e1 : ((i + 1 : Nat) : Int) = (i : Int) + 1 := by omega
      rw [e1]; exact he'
    · have hb' : b < s.heap.objs.size := by
        have e' : b = e ∨ b = it := by simpa using hb
        rcases e' with z | z
        · rw [z]; exact hel
        · rw [z]; exact hil
      rw [upd_ne (Nat.ne_of_lt hb')]
      exact (hf b hb).1
  done := by
    intro X hP hw hK hc i pins s σ H E I hf st hg
    subst hP hw hK
    obtain ⟨⟨old, he⟩, hit, hne⟩ := st
    obtain ⟨xs, hq, hx⟩ := hg
    obtain ⟨its, rv, p, hz⟩ := I.tuple hq
    obtain ⟨f0, f1, f2, f3, f4, f5⟩ := hf it (by simp)
    have hl := rv.length
    exact enum_endT (show X.A.in1.handled = none from I.ok.hd hc) he hit p (by simp; omega) fun h' eb => ⟨rfl, I.turned (t' := s.toks) (fun b o hb q => eb b o hb q) f0 f1 f3 f4 f5⟩
  self := fun A i s Q E st h => let ⟨⟨_, he⟩, _⟩ := st; wpAny_pyIter_enum he h
def iEnumA (K : PySem.W.Frag) (ta : TA) : TI := fun σ H R => ta σ H fun vs H1 => ∃ a xs, vs = [.ref a] ∧ ((SqL K H1 a xs ∧ R (Ite K a) H1) ∨ (SqT K H1 a xs ∧ R (IteT K a) H1))
theorem pi_enumA {X : Cx} {e : Expr} {ta : TA} {p pos tpos : Pos} {elts : List Expr} {kk : Nat} (hg : Gl X "enumerate") (hm : X.mg "enumerate" = none) (ha : PA X [e] ta) (hs : starEach [e] X.env = [(false, eval e X.env)] := by rfl) :
    PI X (.Tuple elts kk tpos) (.Call (.Name "enumerate" p) [e] [] pos) (iEnumA X.K ta) := by
  refine ⟨fun pins s σ H R I h => ?_⟩
  refine Call_ (ld_blt I hg hm boot_enumerate (PyProof.Rows.callWith_type1 (thn (ha.run pos pins s σ H _ I h) fun us s1 ⟨vs, H1, I1, r1, q1⟩ => ?_) hs rfl))
  obtain ⟨a, xs, ex, q1⟩ := q1
  subst ex
  cases r1 with
  | cons r rr =>
    cases rr
    cases r
    have fp2 : ∀ b, b ∈ [s1.heap.objs.size + 1, s1.heap.objs.size] → FpOk X pins H1 b := fun b hb => by
      have e' : b = s1.heap.objs.size + 1 ∨ b = s1.heap.objs.size := by simpa using hb
      have hle : s1.heap.objs.size ≤ b := by
        rcases e' with z | z
        · rw [z]; exact Nat.le_add_right _ _
        · rw [z]; exact Nat.le_refl _
      exact I1.fpOk hle (I1.hok.fresh hle)
    rcases q1 with ⟨hq, q⟩ | ⟨hq, q⟩
    · obtain ⟨its, rv, p', hz⟩ := I1.list hq
      refine call_enumerate_list p'.isList fun h' he hit hsz hk => wpAny_pyIter_enum he ?_
      have I2 : Inv X pins σ H1 { s1 with heap := h' } := I1.kept (t' := s1.toks) hk
      exact ⟨s1.heap.objs.size + 1, [s1.heap.objs.size + 1, s1.heap.objs.size], _, _, H1, rfl, I2, turn_enum a (s1.heap.objs.size + 1) s1.heap.objs.size, ⟨⟨.none, he⟩, hit, Nat.succ_ne_self _⟩, fp2, q⟩
    · obtain ⟨its, rv, p', hz⟩ := I1.tuple hq
      obtain ⟨o1, ho1, _⟩ := id p'
      have hal : a < s1.heap.objs.size := Heap.lt_size ho1
      refine call_enumT (show s1.heap.IsTuple a its.toArray from p') fun h' he hit hsz hk => wpAny_pyIter_enum he ?_
      have I2 : Inv X pins σ H1 { s1 with heap := h' } := I1.kept (t' := s1.toks) hk
      exact ⟨s1.heap.objs.size + 1, [s1.heap.objs.size + 1, s1.heap.objs.size], _, _, H1, rfl, I2, turn_enumT a (s1.heap.objs.size + 1) s1.heap.objs.size (Nat.ne_of_lt hal) (Nat.ne_of_gt (Nat.lt_succ_of_lt hal)), ⟨⟨.none, he⟩, hit, Nat.succ_ne_self _⟩, fp2, q⟩
end MP

namespace MP
open PySem PySem.Spec PyProof.Rows L2
def ItzM (K : PySem.W.Frag) (a b : Addr) (n m : Nat) : L2.It :=
  ⟨fun i H => ∃ (xs ys : List V) (x y : V), (SqL K H a xs ∧ xs.length = n) ∧ (SqT K H b ys ∧ ys.length = m) ∧ xs[i]? = some x ∧ ys[i]? = some y,
    fun i H v H' => ∃ T x y, v = .ref T ∧ H T = none ∧ H' = upd H T (.tup [x, y]) ∧ (∀ xs, SqL K H a xs → xs[i]? = some x) ∧ ∀ ys, SqT K H b ys → ys[i]? = some y,
    fun i H => ∃ xs ys : List V, (SqL K H a xs ∧ xs.length = n) ∧ (SqT K H b ys ∧ ys.length = m) ∧ (n ≤ i ∨ m ≤ i)⟩
abbrev SepM (z TI TO i1 i2 a b : Addr) : Prop := ZipSep2 z TI TO i1 i2 [i1, a] [i2, b]
theorem notin2 {x y z : Addr} (h1 : x ≠ y) (h2 : x ≠ z) : x ∉ [y, z] := by
  intro h
  rcases List.mem_cons.mp h with h | h
  · exact h1 h
  · exact h2 (List.mem_singleton.mp h)
theorem sepM_of {z a b : Nat} (la : a < z) (lb : b < z) : SepM (z + 4) (z + 2) (z + 3) z (z + 1) a b where
  TIz := Nat.ne_of_lt (by omega)
  TOz := Nat.ne_of_lt (by omega)
  TITO := Nat.ne_of_lt (by omega)
  TIi1 := Nat.ne_of_gt (by omega)
  mem1 := List.mem_cons_self
  zf1 := notin2 (Nat.ne_of_gt (by omega)) (Nat.ne_of_gt (by omega))
  Tf1 := notin2 (Nat.ne_of_gt (by omega)) (Nat.ne_of_gt (by omega))
  TIi2 := Nat.ne_of_gt (by omega)
  mem2 := List.mem_cons_self
  zf2 := notin2 (Nat.ne_of_gt (by omega)) (Nat.ne_of_gt (by omega))
  Tf2 := notin2 (Nat.ne_of_gt (by omega)) (Nat.ne_of_gt (by omega))
  sep1_2 := notin2 (Nat.ne_of_lt (by omega)) (Nat.ne_of_gt (by omega))
  sep2_1 := notin2 (Nat.ne_of_gt (by omega)) (Nat.ne_of_gt (by omega))
theorem turn_zipM {P : Program} {w : World} {K : PySem.W.Frag} {elts : List Expr} {kk : Nat} {tpos : Pos} {a b z TI TO i1 i2 : Addr} {n m : Nat} (D : SepM z TI TO i1 i2 a b) (ha : a ≠ i1) (hb : b ≠ i2) :
    Turn P w K (.Tuple elts kk tpos) (ItzM K a b n m) [z, TI, TO, i1, i2] z (fun i h => IsZip h z TI TO .none ∧ IsTupOf2 h TI (.ref i1) (.ref i2) ∧ (∃ x y, IsTupOf2 h TO x y) ∧ (h.IsListIter i1 a i ∧ h.IsTupleIter i2 b i) ∧ i ≤ n ∧ i ≤ m) where
  mem := by simp
  obj := fun i h st c hc => by
    obtain ⟨hz, hTI, ⟨x, y, hTO⟩, ⟨⟨o1, e1, _, d1⟩, ⟨o2, e2, _, d2⟩⟩, _⟩ := st
    have e' : c = z ∨ c = TI ∨ c = TO ∨ c = i1 ∨ c = i2 := by simpa using hc
    rcases e' with q | q | q | q | q
    · rw [q]; exact ⟨_, hz, fun v q => nomatch q⟩
    · rw [q]; exact ⟨_, hTI, fun v q => nomatch q⟩
    · rw [q]; exact ⟨_, hTO, fun v q => nomatch q⟩
    · rw [q]; exact ⟨o1, e1, fun v q => by rw [d1] at q; cases q⟩
    · rw [q]; exact ⟨o2, e2, fun v q => by rw [d2] at q; cases q⟩
  keep := fun i h h' st k => by
    obtain ⟨hz, hTI, ⟨x, y, hTO⟩, ⟨h1, h2⟩, l1, l2⟩ := st
    exact ⟨k z (by simp) _ hz, k TI (by simp) _ hTI, ⟨x, y, k TO (by simp) _ hTO⟩, ⟨h1.at fun o q => k i1 (by simp) o q, h2.at fun o q => k i2 (by simp) o q⟩, l1, l2⟩
  item := by
    intro X hP hw hK hc i pins s σ H E I hf st hg
    subst hP hw hK
    obtain ⟨hz, hTI, ⟨x0, y0, hTO⟩, ⟨h1, h2⟩, l1, l2⟩ := st
    obtain ⟨xs, ys, x, y, ⟨hqx, hn⟩, ⟨hqy, hm⟩, hx, hy⟩ := hg
    obtain ⟨its, rv, p, _⟩ := I.list hqx
    obtain ⟨its2, rv2, p2, _⟩ := I.tuple hqy
    obtain ⟨u, hu, ru⟩ := rv.get hx
    obtain ⟨u2, hu2, ru2⟩ := rv2.get hy
    have hzl : z < s.heap.objs.size := Heap.lt_size hz
    have hlt1 : i < its.toArray.size := by simpa using (List.getElem?_eq_some_iff.mp hu).1
    have hlt2 : i < its2.toArray.size := by simpa using (List.getElem?_eq_some_iff.mp hu2).1
    have hh : X.A.in1.handled = none := I.ok.hd hc
    refine wpAny_pyNext_zipD2_item D (Draws.list (A := X.A.in1) hh i1 a ha its.toArray) (Draws.tuple (A := X.A.in1) hh i2 b hb its2.toArray) hz hTI hTO ⟨h1, p.isList⟩ ⟨h2, p2⟩ hlt1 hlt2 fun u' u2' h' tk hx1 hx2 z' TO' st1 st2 hT hsz hk => ?_
    have eu : u' = u := by
      have : its.toArray[i]? = some u' := hx1
      simp only [List.getElem?_toArray] at this
      rw [hu] at this
      exact (Option.some.inj this).symm
    have eu2 : u2' = u2 := by
      have : its2.toArray[i]? = some u2' := hx2
      simp only [List.getElem?_toArray] at this
      rw [hu2] at this
      exact (Option.some.inj this).symm
    subst eu eu2
    refine ⟨_, rfl, wpAny_letOwnedTupleGo_zip (s := { s with heap := h', toks := tk }) z' fun h'' z'' sb => ?_⟩
    have hT2 : h''.get? s.heap.objs.size = some { cls := .type "tuple", data := .seq #[u', u2'] } := (sb.2 _ (Nat.ne_of_gt hzl)).trans hT
    have new : ObjOk X.prog X.w (upd H s.heap.objs.size (.tup [x, y])) h'' s.heap.objs.size (.tup [x, y]) :=
      ⟨by show 2 ≤ sizeLine; decide, [u', u2'], .cons ru (.cons ru2 .nil), ⟨_, hT2, rfl, _, rfl⟩⟩
    have I1 : Inv X pins σ (upd H s.heap.objs.size (.tup [x, y])) { s with heap := h'', toks := tk } :=
      I.turnedNew (ch := [z, TI, TO, i1, i2]) (fun c o hb q => (sb.2 c (fun q' => hb (by simp [q']))).trans (hk c o (fun q' => hb (by simp [q'])) (fun q' => hb (by simp [q'])) (fun q' => hb (by simp [q'])) (fun q' => hb (by simp [q'])) q)) hf (Nat.le_refl _) new
    have hin : i < n := by rw [← hn]; exact (List.getElem?_eq_some_iff.mp hx).1
    have him : i < m := by rw [← hm]; exact (List.getElem?_eq_some_iff.mp hy).1
    refine ⟨.ref s.heap.objs.size, _, I1, rfl, ⟨_, x, y, rfl, I.hok.fresh (Nat.le_refl _), rfl, fun l hl => by rw [I.list_inj hl hqx]; exact hx, fun l hl => by rw [I.tuple_inj hl hqy]; exact hy⟩, ⟨z'', ?_, ⟨u', u2', ?_⟩, ⟨?_, ?_⟩, hin, him⟩, fun c hcm => ?_⟩
    · exact (sb.2 _ D.TIz).trans (hk _ _ D.TIz D.TITO D.TIi1 D.TIi2 hTI)
    · exact (sb.2 _ D.TOz).trans TO'
    · exact st1.1.at fun o q => (sb.2 _ D.zi1.symm).trans q
    · exact st2.1.at fun o q => (sb.2 _ D.zi2.symm).trans q
    · have hlt : c < s.heap.objs.size := by
        have e' : c = z ∨ c = TI ∨ c = TO ∨ c = i1 ∨ c = i2 := by simpa using hcm
        rcases e' with q | q | q | q | q
        · rw [q]; exact hzl
        · rw [q]; exact Heap.lt_size hTI
        · rw [q]; exact Heap.lt_size hTO
        · rw [q]; obtain ⟨_, e1, _⟩ := h1; exact Heap.lt_size e1
        · rw [q]; obtain ⟨_, e2, _⟩ := h2; exact Heap.lt_size e2
      rw [upd_ne (Nat.ne_of_lt hlt)]
      exact (hf c hcm).1
  done := by
    intro X hP hw hK hc i pins s σ H E I hf st hg
    subst hP hw hK
    obtain ⟨hz, hTI, ⟨x0, y0, hTO⟩, ⟨h1, h2⟩, l1, l2⟩ := st
    obtain ⟨xs, ys, ⟨hqx, hn⟩, ⟨hqy, hm⟩, hend⟩ := hg
    obtain ⟨its, rv, p, _⟩ := I.list hqx
    obtain ⟨its2, rv2, p2, _⟩ := I.tuple hqy
    have e1 : its.toArray.size = n := by rw [List.size_toArray, ← rv.length, hn]
    have e2 : its2.toArray.size = m := by rw [List.size_toArray, ← rv2.length, hm]
    have hh : X.A.in1.handled = none := I.ok.hd hc
    exact wpAny_pyNext_zipD2_end D (Draws.list (A := X.A.in1) hh i1 a ha its.toArray) (Draws.tuple (A := X.A.in1) hh i2 b hb its2.toArray) hz hTI hTO ⟨h1, p.isList⟩ ⟨h2, p2⟩ (by omega) (by omega) (by omega) fun h' tk hk => ⟨rfl, I.turnedL (t' := tk) (ch := [z, TI, TO, i1, i2]) (fun c o hb q =>
      hk c o (fun q' => hb (by simp [q'])) (fun q' => hb (by simp [q'])) (fun q' => hb (by simp [q'])) (fun q' => hb (by simp [q'])) q) hf⟩
  self := fun A i s Q E st h => wpAny_pyIter_zip st.1 h
def iZipM (K : PySem.W.Frag) (ta : TA) : TI := fun σ H R => ta σ H fun vs H1 => ∃ a b xs ys, vs = [.ref a, .ref b] ∧ SqL K H1 a xs ∧ SqT K H1 b ys ∧ R (ItzM K a b xs.length ys.length) H1
theorem pi_zipM {X : Cx} {e e2 : Expr} {ta : TA} {p pos tpos : Pos} {elts : List Expr} {kk : Nat} (hg : Gl X "zip") (hm : X.mg "zip" = none) (ha : PA X [e, e2] ta)
    (hs : starEach [e, e2] X.env = (false, eval e X.env) :: starEach [e2] X.env := by rfl) (hpl : (backTo pos (starEach [e2] X.env)).any (·.1) = false := by rfl) :
    PI X (.Tuple elts kk tpos) (.Call (.Name "zip" p) [e, e2] [] pos) (iZipM X.K ta) := by
  refine ⟨fun pins s σ H R I h => ?_⟩
  refine Call_ (ld_blt I hg hm PyProof.Rows.boot_zip (PyProof.Rows.callWith_type1 (thn (ha.run pos pins s σ H _ I h) fun us s1 ⟨vs, H1, I1, r1, q1⟩ => ?_) hs hpl))
  obtain ⟨a, b, xs, ys, ex, hqx, hqy, q⟩ := q1
  subst ex
  cases r1 with
  | cons r rr =>
    cases rr with
    | cons r' rr =>
      cases rr
      cases r
      cases r'
      obtain ⟨its, rv, p1, _⟩ := I1.list hqx
      obtain ⟨its2, rv2, p2, _⟩ := I1.tuple hqy
      have la : a < s1.heap.objs.size := p1.lt
      have lb : b < s1.heap.objs.size := by obtain ⟨o2, ho2, _⟩ := id p2; exact Heap.lt_size ho2
      refine zip_begins2 (begins_list a its.toArray) (begins_tuple b its2.toArray) p1.isList p2 fun h' hz hTI hTO h1 h2 hsz hk => wpAny_pyIter_zip hz ?_
      have I2 : Inv X pins σ H1 { s1 with heap := h' } := I1.kept (t' := s1.toks) hk
      refine ⟨s1.heap.objs.size + 4, [s1.heap.objs.size + 4, s1.heap.objs.size + 2, s1.heap.objs.size + 3, s1.heap.objs.size, s1.heap.objs.size + 1], _, _, H1, rfl, I2, turn_zipM ?_ (Nat.ne_of_lt la) (Nat.ne_of_lt (Nat.lt_succ_of_lt lb)), ⟨hz, hTI, ⟨_, _, hTO⟩, ⟨⟨_, h1, rfl, rfl⟩, ⟨_, h2, rfl, rfl⟩⟩, Nat.zero_le _, Nat.zero_le _⟩, fun c hcm => ?_, q⟩
      · exact sepM_of la lb
      · have e' : c = s1.heap.objs.size + 4 ∨ c = s1.heap.objs.size + 2 ∨ c = s1.heap.objs.size + 3 ∨ c = s1.heap.objs.size ∨ c = s1.heap.objs.size + 1 := by simpa using hcm
        have hle : s1.heap.objs.size ≤ c := by
          rcases e' with z | z | z | z | z
          · rw [z]; exact Nat.le_add_right _ _
          · rw [z]; exact Nat.le_add_right _ _
          · rw [z]; exact Nat.le_add_right _ _
          · rw [z]; exact Nat.le_refl _
          · rw [z]; exact Nat.le_add_right _ _
        exact I1.fpOk hle (I1.hok.fresh hle)
end MP

namespace MP
open PySem PySem.Spec PyProof.Rows L2
open PySem.Sem (wp)
abbrev ZipN (h : Heap) (z TI TO : Addr) (Ft : Value) (g : Bool) : Prop := h.get? z = some { cls := .type "zip", dict := none, data := .fields #[Ft, .bool g, .bool false, .ref TI, .ref TO], slots := #[] }
def OutN (Ft : Value) : Prop := Ft = .none ∨ ∃ T : Addr, Ft = rawInt (T : Int)
section
variable {prog : Program} {w : World} {A : Around} {E : Value → Shared → Prop} {s : Shared}
theorem aliveN {a : Addr} {Q : Option Obj → Shared → Prop} (h : Q (s.heap.get? a) s) : wpAny (model prog w) A (loadIfAlive a) Q E s := fun _ _ _ => h
theorem ownedN {z TI TO : Addr} {Ft : Value} {g : Bool} {Q : Bool → Shared → Prop} (hF : OutN Ft) (hz : ZipN s.heap z TI TO Ft g) (free : Q true s) (held : ∀ hp, ZipN hp z TI TO Ft true → Heap.SameBut z s.heap hp → Q false { s with heap := hp }) :
    wpAny (model prog w) A (Builtin.SmallTypes.ownedTupleIsFree (.ref z)) Q E s := by
  unfold Builtin.SmallTypes.ownedTupleIsFree
  rcases hF with rfl | ⟨T, rfl⟩
  · exact wpAny_bind (wpAny_field hz rfl (x := .none) rfl (wpAny_pure free))
  refine wpAny_bind (wpAny_field hz rfl (x := rawInt T) rfl ?_)
  show wpAny _ _ (loadIfAlive ((T : Int).toNat) >>= _) _ _ _
  rw [Int.toNat_natCast]
  refine wpAny_bind (aliveN ?_)
  cases s.heap.get? T with
  | none =>
    simp only [Option.isNone_none, if_true]
    exact wpAny_pure free
  | some oT =>
    simp only [Option.isNone_some, Bool.false_eq_true, if_false]
    refine wpAny_bind (wpAny_field hz rfl (x := .bool g) rfl ?_)
    cases g with
    | true =>
      rw [if_neg (show ¬ ((Value.bool true != Value.bool true) = true) from Bool.false_ne_true)]
      exact wpAny_pure (held s.heap hz (Heap.SameBut.refl _ _))
    | false =>
      rw [if_pos (show (Value.bool false != Value.bool true) = true from rfl)]
      exact wpAny_bind (wpAny_setField_rec hz (by simp) fun hp hzp sb => wpAny_pure (held hp hzp sb))
theorem zipn_item {z TI TO i1 i2 l1 l2 : Addr} {Ft : Value} {g : Bool} {k : Nat} {xs ys : Array Value} {x y a b : Value} {Q : Value → Shared → Prop} (D : ZipApart z TI TO i1 i2 l1 l2) (hF : OutN Ft) (hz : ZipN s.heap z TI TO Ft g) (hTI : IsPair s.heap TI (.ref i1) (.ref i2)) (hTO : IsPair s.heap TO a b)
    (j1 : s.heap.IsTupleIter i1 l1 k) (j2 : s.heap.IsTupleIter i2 l2 k) (t1 : s.heap.IsTuple l1 xs) (t2 : s.heap.IsTuple l2 ys) (hx : xs[k]? = some x) (hy : ys[k]? = some y)
    (hQ : ∀ hp Ft' g' a' b', OutN Ft' → ZipN hp z TI TO Ft' g' → IsPair hp TO a' b' → hp.IsTupleIter i1 l1 (k + 1) → hp.IsTupleIter i2 l2 (k + 1) → IsPair hp s.heap.objs.size x y → (∀ c o, c ≠ z → c ≠ TO → c ≠ i1 → c ≠ i2 → s.heap.get? c = some o → hp.get? c = some o) → Q (.ref s.heap.objs.size) { s with heap := hp }) :
    wpAny (model prog w) A (Builtin.«zip.__next__» ⟨[.ref z], []⟩) (fun fin s' => ∃ v, fin = .done (.ret v) ∧ Q v s') E s := by
  show wpAny _ _ (field (.ref z) 2 >>= _) _ _ _
  refine wpAny_bind (wpAny_field hz rfl (x := .bool false) rfl ?_)
  show wpAny _ _ (field (.ref z) 3 >>= _) _ _ _
  refine wpAny_bind (wpAny_field hz rfl (x := .ref TI) rfl ?_)
  refine wpAny_bind (wpAny_seqItems hTI rfl ?_)
  show wpAny _ _ (Builtin.SmallTypes.ownedTupleIsFree (.ref z) >>= _) _ _ _
  refine wpAny_bind (ownedN hF hz ?_ fun p zp sp => ?_)
  · -- the pair given out is gone, or there was none
    simp only [if_true]
    refine wpAny_bind (wpAny_rule ?_)
    refine wpAny_bind (wpAny_field hz rfl (x := .ref TO) rfl ?_)
    refine wpAny_bind (wpAny_setField_rec hz (by simp) fun p1 zp1 sp1 => ?_)
    replace zp1 : ZipN p1 z TI TO .ellipsis g := zp1
    refine wpAny_bind ?_
    simp only [List.zipIdx_cons, List.zipIdx_nil, List.forIn_cons, List.forIn_nil]
    refine wpAny_bind (wpAny_bind (wpAny_onRaise ?_))
    show wpAny _ _ (Builtin.SmallTypes.nextOf (.ref i1) >>= _) _ _ _
    refine wpAny_bind (RZ.nextOf_tuple_item (j1.extBut sp1.extBut D.i1z) (t1.extBut sp1.extBut D.l1z) hx fun p2 jp2 sp2 => wpAny_pure ?_)
    have o2 : IsPair p2 TO a b := sp2.extBut _ _ D.TOi1 (sp1.extBut _ _ D.TOz hTO)
    refine wpAny_bind (wpAny_seqItems o2 rfl ?_)
    refine wpAny_bind (wpAny_updateSeq_pair o2 fun p3 o3 sp3 => ?_)
    replace o3 : IsPair p3 TO x b := o3
    refine wpAny_bind (wpAny_letGo (wpAny_pure ?_))
    refine wpAny_bind (wpAny_bind (wpAny_onRaise ?_))
    show wpAny _ _ (Builtin.SmallTypes.nextOf (.ref i2) >>= _) _ _ _
    have j23 : p3.IsTupleIter i2 l2 k := ((j2.extBut sp1.extBut D.i2z).extBut sp2.extBut D.i12.symm).extBut sp3.extBut D.TOi2.symm
    have t23 : p3.IsTuple l2 ys := ((t2.extBut sp1.extBut D.l2z).extBut sp2.extBut D.l2i1).extBut sp3.extBut D.l2TO
    refine wpAny_bind (RZ.nextOf_tuple_item (s := { s with heap := p3 }) j23 t23 hy fun p4 jp4 sp4 => wpAny_pure ?_)
    have o4 : IsPair p4 TO x b := sp4.extBut _ _ D.TOi2 o3
    refine wpAny_bind (wpAny_seqItems (s := { s with heap := p4 }) o4 rfl ?_)
    refine wpAny_bind (wpAny_updateSeq_pair (s := { s with heap := p4 }) o4 fun p5 o5 sp5 => ?_)
    replace o5 : IsPair p5 TO x y := o5
    refine wpAny_bind (wpAny_letGo (wpAny_pure (wpAny_pure ?_)))
    refine wpAny_bind (wpAny_seqItems (s := { s with heap := p5 }) o5 rfl ?_)
    refine wpAny_bind (wpAny_newTuple ?_)
    have same : p5.objs.size = s.heap.objs.size := by rw [sp5.1, sp4.1, sp3.1, sp2.1, sp1.1]
    have zp5 : ZipN p5 z TI TO .ellipsis g := sp5.extBut _ _ D.TOz.symm (sp4.extBut _ _ D.i2z.symm (sp3.extBut _ _ D.TOz.symm (sp2.extBut _ _ D.i1z.symm zp1)))
    have keep5 : ∀ c o, c ≠ z → c ≠ TO → c ≠ i1 → c ≠ i2 → s.heap.get? c = some o → p5.get? c = some o := fun c o q1 q2 q3 q4 e => sp5.extBut _ _ q2 (sp4.extBut _ _ q4 (sp3.extBut _ _ q2 (sp2.extBut _ _ q3 (sp1.extBut _ _ q1 e))))
    have ja : p5.IsTupleIter i1 l1 (k + 1) := ((jp2.extBut sp3.extBut D.TOi1.symm).extBut sp4.extBut D.i12).extBut sp5.extBut D.TOi1.symm
    have jb : p5.IsTupleIter i2 l2 (k + 1) := jp4.extBut sp5.extBut D.TOi2.symm
    have zlt : z < p5.objs.size := Heap.lt_size zp5
    show wpAny _ _ (Builtin.SmallTypes.ownedTupleHandOut (.ref z) (.ref p5.objs.size) >>= _) _ _ _
    refine wpAny_bind ?_
    unfold Builtin.SmallTypes.ownedTupleHandOut
    have zp6 : ZipN (p5.push { cls := .type "tuple", data := .seq #[x, y] }) z TI TO .ellipsis g := Heap.get?_push_of_some _ zp5
    refine wpAny_bind (wpAny_setField_rec zp6 (by simp) fun p7 zp7 sp7 => ?_)
    replace zp7 : ZipN p7 z TI TO (rawInt p5.objs.size) g := zp7
    refine wpAny_setField_rec zp7 (by simp) fun p8 zp8 sp8 => ?_
    replace zp8 : ZipN p8 z TI TO (rawInt p5.objs.size) false := zp8
    have rise : ∀ c o, c ≠ z → p5.get? c = some o → p8.get? c = some o := fun c o q1 e => sp8.extBut _ _ q1 (sp7.extBut _ _ q1 (Heap.get?_push_of_some _ e))
    have pr8 : IsPair p8 p5.objs.size x y := sp8.extBut _ _ (Nat.ne_of_gt zlt) (sp7.extBut _ _ (Nat.ne_of_gt zlt) (Heap.get?_push_size _ rfl))
    rw [same] at zp8 pr8
    refine wpAny_pure ⟨_, rfl, ?_⟩
    show Q (.ref p5.objs.size) _
    rw [same]
    exact hQ p8 _ _ _ _ (.inr ⟨_, rfl⟩) zp8 (rise _ _ D.TOz o5) (ja.at fun o e => rise _ o D.i1z e) (jb.at fun o e => rise _ o D.i2z e) pr8 fun c o q1 q2 q3 q4 e => rise c o q1 (keep5 c o q1 q2 q3 q4 e)
  · -- it is still there
    simp only [Bool.false_eq_true, if_false]
    refine wpAny_bind ?_
    rw [← Array.forIn_toList]
    simp only [List.forIn_cons, List.forIn_nil]
    refine wpAny_bind (wpAny_bind (wpAny_holding ?_))
    show wpAny _ _ (Builtin.SmallTypes.nextOf (.ref i1) >>= _) _ _ _
    refine wpAny_bind (RZ.nextOf_tuple_item (s := { s with heap := p }) (j1.extBut sp.extBut D.i1z) (t1.extBut sp.extBut D.l1z) hx fun p2 jp2 sp2 => wpAny_pure ?_)
    refine wpAny_pure ?_
    refine wpAny_bind (wpAny_bind (wpAny_holding ?_))
    show wpAny _ _ (Builtin.SmallTypes.nextOf (.ref i2) >>= _) _ _ _
    refine wpAny_bind (RZ.nextOf_tuple_item (s := { s with heap := p2 }) ((j2.extBut sp.extBut D.i2z).extBut sp2.extBut D.i12.symm) ((t2.extBut sp.extBut D.l2z).extBut sp2.extBut D.l2i1) hy fun p3 jp3 sp3 => wpAny_pure ?_)
    refine wpAny_pure (wpAny_pure ?_)
    show wpAny _ _ (newTuple [x, y] >>= _) _ _ _
    refine wpAny_bind (wpAny_newTuple ?_)
    have same : p3.objs.size = s.heap.objs.size := by rw [sp3.1, sp2.1, sp.1]
    have zp3 : ZipN p3 z TI TO Ft true := sp3.extBut _ _ D.i2z.symm (sp2.extBut _ _ D.i1z.symm zp)
    have keep3 : ∀ c o, c ≠ z → c ≠ i1 → c ≠ i2 → s.heap.get? c = some o → p3.get? c = some o := fun c o q1 q2 q3 e => sp3.extBut _ _ q3 (sp2.extBut _ _ q2 (sp.extBut _ _ q1 e))
    have ja : p3.IsTupleIter i1 l1 (k + 1) := jp2.extBut sp3.extBut D.i12
    refine wpAny_pure ⟨_, rfl, ?_⟩
    show Q (.ref p3.objs.size) _
    have pr : IsPair (p3.push { cls := .type "tuple", data := .seq #[x, y] }) p3.objs.size x y := Heap.get?_push_size _ rfl
    rw [same] at pr ⊢
    exact hQ _ _ _ _ _ hF (Heap.get?_push_of_some _ zp3) (Heap.get?_push_of_some _ (keep3 _ _ D.TOz D.TOi1 D.TOi2 hTO)) (ja.at fun o e => Heap.get?_push_of_some _ e) (jp3.at fun o e => Heap.get?_push_of_some _ e) pr fun c o q1 _ q3 q4 e => Heap.get?_push_of_some _ (keep3 c o q1 q3 q4 e)
theorem zipn_end {z TI TO i1 i2 l1 l2 : Addr} {Ft : Value} {g : Bool} {k : Nat} {xs ys : Array Value} {a b : Value} {Q : PySem.Fin → Shared → Prop} (hh : A.handled = none) (D : ZipApart z TI TO i1 i2 l1 l2) (hF : OutN Ft) (hz : ZipN s.heap z TI TO Ft g) (hTI : IsPair s.heap TI (.ref i1) (.ref i2)) (hTO : IsPair s.heap TO a b)
    (j1 : s.heap.IsTupleIter i1 l1 k) (j2 : s.heap.IsTupleIter i2 l2 k) (t1 : s.heap.IsTuple l1 xs) (t2 : s.heap.IsTuple l2 ys) (hend : xs[k]? = none ∨ ys[k]? = none)
    (hE : ∀ hp e, (∀ c o, c ≠ z → c ≠ TO → c ≠ i1 → c ≠ i2 → s.heap.get? c = some o → hp.get? c = some o) → (∃ o, hp.get? e = some o ∧ o.cls = .type "StopIteration") → E (.ref e) { s with heap := hp }) :
    wpAny (model prog w) A (Builtin.«zip.__next__» ⟨[.ref z], []⟩) Q E s := by
  show wpAny _ _ (field (.ref z) 2 >>= _) _ _ _
  refine wpAny_bind (wpAny_field hz rfl (x := .bool false) rfl ?_)
  show wpAny _ _ (field (.ref z) 3 >>= _) _ _ _
  refine wpAny_bind (wpAny_field hz rfl (x := .ref TI) rfl ?_)
  refine wpAny_bind (wpAny_seqItems hTI rfl ?_)
  show wpAny _ _ (Builtin.SmallTypes.ownedTupleIsFree (.ref z) >>= _) _ _ _
  refine wpAny_bind (ownedN hF hz ?_ fun p zp sp => ?_)
  · simp only [if_true]
    refine wpAny_bind (wpAny_rule ?_)
    refine wpAny_bind (wpAny_field hz rfl (x := .ref TO) rfl ?_)
    refine wpAny_bind (wpAny_setField_rec hz (by simp) fun p1 zp1 sp1 => ?_)
    replace zp1 : ZipN p1 z TI TO .ellipsis g := zp1
    refine wpAny_bind ?_
    simp only [List.zipIdx_cons, List.zipIdx_nil, List.forIn_cons, List.forIn_nil]
    refine wpAny_bind (wpAny_bind (wpAny_onRaise ?_))
    show wpAny _ _ (Builtin.SmallTypes.nextOf (.ref i1) >>= _) _ _ _
    cases hx : xs[k]? with
    | none =>
      refine wpAny_bind (RZ.nextOf_tuple_end hh (j1.extBut sp1.extBut D.i1z) (t1.extBut sp1.extBut D.l1z) hx fun p2 e sp2 ee => ?_)
      obtain ⟨oe, e1, e2⟩ := ee
      have zp2 : ZipN p2 z TI TO .ellipsis g := sp2 _ _ D.i1z.symm zp1
      have nez : e ≠ z := fun q => by subst q; rw [zp2] at e1; cases e1; simp at e2
      exact wpAny_setField_rec zp2 (by simp) fun p3 _ sp3 => hE p3 e (fun c o q1 _ q3 _ q => sp3.extBut _ _ q1 (sp2 _ _ q3 (sp1.extBut _ _ q1 q))) ⟨oe, sp3.extBut _ _ nez e1, e2⟩
    | some x =>
      have hy : ys[k]? = none := by
        rcases hend with q | q
        · rw [hx] at q; cases q
        · exact q
      refine wpAny_bind (RZ.nextOf_tuple_item (j1.extBut sp1.extBut D.i1z) (t1.extBut sp1.extBut D.l1z) hx fun p2 jp2 sp2 => wpAny_pure ?_)
      have o2 : IsPair p2 TO a b := sp2.extBut _ _ D.TOi1 (sp1.extBut _ _ D.TOz hTO)
      refine wpAny_bind (wpAny_seqItems o2 rfl ?_)
      refine wpAny_bind (wpAny_updateSeq_pair o2 fun p3 o3 sp3 => ?_)
      refine wpAny_bind (wpAny_letGo (wpAny_pure ?_))
      refine wpAny_bind (wpAny_bind (wpAny_onRaise ?_))
      show wpAny _ _ (Builtin.SmallTypes.nextOf (.ref i2) >>= _) _ _ _
      have j23 : p3.IsTupleIter i2 l2 k := ((j2.extBut sp1.extBut D.i2z).extBut sp2.extBut D.i12.symm).extBut sp3.extBut D.TOi2.symm
      have t23 : p3.IsTuple l2 ys := ((t2.extBut sp1.extBut D.l2z).extBut sp2.extBut D.l2i1).extBut sp3.extBut D.l2TO
      refine wpAny_bind (RZ.nextOf_tuple_end (s := { s with heap := p3 }) hh j23 t23 hy fun p4 e sp4 ee => ?_)
      obtain ⟨oe, e1, e2⟩ := ee
      have zp4 : ZipN p4 z TI TO .ellipsis g := sp4 _ _ D.i2z.symm (sp3.extBut _ _ D.TOz.symm (sp2.extBut _ _ D.i1z.symm zp1))
      have nez : e ≠ z := fun q => by subst q; rw [zp4] at e1; cases e1; simp at e2
      exact wpAny_setField_rec (s := { s with heap := p4 }) zp4 (by simp) fun p5 _ sp5 => hE p5 e (fun c o q1 q2 q3 q4 q => sp5.extBut _ _ q1 (sp4 _ _ q4 (sp3.extBut _ _ q2 (sp2.extBut _ _ q3 (sp1.extBut _ _ q1 q))))) ⟨oe, sp5.extBut _ _ nez e1, e2⟩
  · simp only [Bool.false_eq_true, if_false]
    refine wpAny_bind ?_
    rw [← Array.forIn_toList]
    simp only [List.forIn_cons, List.forIn_nil]
    refine wpAny_bind (wpAny_bind (wpAny_holding ?_))
    show wpAny _ _ (Builtin.SmallTypes.nextOf (.ref i1) >>= _) _ _ _
    cases hx : xs[k]? with
    | none => exact wpAny_bind (RZ.nextOf_tuple_end (s := { s with heap := p }) hh (j1.extBut sp.extBut D.i1z) (t1.extBut sp.extBut D.l1z) hx fun p2 e sp2 ee => hE p2 e (fun c o q1 _ q3 _ q => sp2 _ _ q3 (sp.extBut _ _ q1 q)) ee)
    | some x =>
      have hy : ys[k]? = none := by
        rcases hend with q | q
        · rw [hx] at q; cases q
        · exact q
      refine wpAny_bind (RZ.nextOf_tuple_item (s := { s with heap := p }) (j1.extBut sp.extBut D.i1z) (t1.extBut sp.extBut D.l1z) hx fun p2 jp2 sp2 => wpAny_pure ?_)
      refine wpAny_pure ?_
      refine wpAny_bind (wpAny_bind (wpAny_holding ?_))
      show wpAny _ _ (Builtin.SmallTypes.nextOf (.ref i2) >>= _) _ _ _
      exact wpAny_bind (RZ.nextOf_tuple_end (s := { s with heap := p2 }) hh ((j2.extBut sp.extBut D.i2z).extBut sp2.extBut D.i12.symm) ((t2.extBut sp.extBut D.l2z).extBut sp2.extBut D.l2i1) hy fun p3 e sp3 ee => hE p3 e (fun c o q1 _ q3 q4 q => sp3 _ _ q4 (sp2.extBut _ _ q3 (sp.extBut _ _ q1 q))) ee)
end
theorem zipn_self {prog : Program} {w : World} {A : Around} {E : Value → Shared → Prop} {s : Shared} {z TI TO : Addr} {Ft : Value} {g : Bool} {Q : Value → Shared → Prop} (hz : ZipN s.heap z TI TO Ft g) (h : Q (.ref z) s) : wpAny (model prog w) A (pyIter (.ref z)) Q E s := by
  have ty : s.TypeIs (.ref z) "zip" := ⟨_, hz, rfl⟩
  refine wpAny_pyIter_slot ty F.slot_zip_iter (wpAny_call_entry F.slot_zip_iter ty F.entry_zip_iter ?_ (F.args_zip_iter_1 _))
  exact wpAny_pure ⟨_, rfl, "zip", _, ty, F.slot_zip_next.lookup, h⟩
theorem turn_zipN {P : Program} {w : World} {K : PySem.W.Frag} {nm : Str} {tpos : Pos} {a b z TI TO i1 i2 : Addr} (D : ZipApart z TI TO i1 i2 a b) :
    Turn P w K (.Name nm tpos) (RZ.ItzT K a b) [z, TI, TO, i1, i2] z (fun i h => (∃ Ft g, OutN Ft ∧ ZipN h z TI TO Ft g) ∧ IsPair h TI (.ref i1) (.ref i2) ∧ (∃ x y, IsPair h TO x y) ∧ h.IsTupleIter i1 a i ∧ h.IsTupleIter i2 b i) where
  mem := by simp
  obj := fun i h st c hc => by
    obtain ⟨⟨Ft, g, _, hz⟩, hTI, ⟨x, y, hTO⟩, ⟨o1, e1, _, d1⟩, ⟨o2, e2, _, d2⟩⟩ := st
    have e' : c = z ∨ c = TI ∨ c = TO ∨ c = i1 ∨ c = i2 := by simpa using hc
    rcases e' with rfl | rfl | rfl | rfl | rfl
    · exact ⟨_, hz, fun v q => nomatch q⟩
    · exact ⟨_, hTI, fun v q => nomatch q⟩
    · exact ⟨_, hTO, fun v q => nomatch q⟩
    · exact ⟨o1, e1, fun v q => by rw [d1] at q; cases q⟩
    · exact ⟨o2, e2, fun v q => by rw [d2] at q; cases q⟩
  keep := fun i h h' st k => by
    obtain ⟨⟨Ft, g, hF, hz⟩, hTI, ⟨x, y, hTO⟩, h1, h2⟩ := st
    exact ⟨⟨Ft, g, hF, k z (by simp) _ hz⟩, k TI (by simp) _ hTI, ⟨x, y, k TO (by simp) _ hTO⟩, h1.at fun o q => k i1 (by simp) o q, h2.at fun o q => k i2 (by simp) o q⟩
  item := by
    intro X hP hw hK hc i pins s σ H E I hf st hg
    subst hP hw hK
    obtain ⟨⟨Ft, g, hF, hz⟩, hTI, ⟨x0, y0, hTO⟩, h1, h2⟩ := st
    obtain ⟨xs, ys, x, y, hqx, hqy, hx, hy⟩ := hg
    obtain ⟨its, rv, p, _⟩ := I.tuple hqx
    obtain ⟨its2, rv2, p2, _⟩ := I.tuple hqy
    obtain ⟨u, hu, ru⟩ := rv.get hx
    obtain ⟨u2, hu2, ru2⟩ := rv2.get hy
    have hTz : s.TypeIs (.ref z) "zip" := ⟨_, hz, rfl⟩
    unfold pyNext
    refine wpAny_bind (wpAny_attempt (wpAny_callSpecial?_slot (name := Str.ofString "__next__") hTz F.slot_zip_next (wpAny_call_entry F.slot_zip_next hTz F.entry_zip_next (zipn_item D hF hz hTI hTO h1 h2 p p2 (x := u) (y := u2) (by simpa using hu) (by simpa using hu2) fun hp Ft' g' a' b' hF' z' TO' h1' h2' hT hk => wpAny_pure ?_) (F.args_zip_next_1 _))))
    refine ⟨_, rfl, wpAny_pure ?_⟩
    have new : ObjOk X.prog X.w (upd H s.heap.objs.size (.tup [x, y])) hp s.heap.objs.size (.tup [x, y]) :=
      ⟨by show 2 ≤ sizeLine; decide, [u, u2], .cons ru (.cons ru2 .nil), ⟨_, hT, rfl, _, rfl⟩⟩
    have I1 : Inv X pins σ (upd H s.heap.objs.size (.tup [x, y])) { s with heap := hp } :=
      I.turnedNew (t' := s.toks) (ch := [z, TI, TO, i1, i2]) (fun c o hb q => hk c o (fun q' => hb (by simp [q'])) (fun q' => hb (by simp [q'])) (fun q' => hb (by simp [q'])) (fun q' => hb (by simp [q'])) q) hf (Nat.le_refl _) new
    refine ⟨.ref s.heap.objs.size, _, I1, rfl, ⟨_, x, y, rfl, I.hok.fresh (Nat.le_refl _), rfl, fun l hl => by rw [I.tuple_inj hl hqx]; exact hx, fun l hl => by rw [I.tuple_inj hl hqy]; exact hy⟩, ⟨⟨Ft', g', hF', z'⟩, hk _ _ D.TIz D.TITO D.TIi1 D.TIi2 hTI, ⟨_, _, TO'⟩, h1', h2'⟩, fun c hcm => ?_⟩
    have hlt : c < s.heap.objs.size := by
      have e' : c = z ∨ c = TI ∨ c = TO ∨ c = i1 ∨ c = i2 := by simpa using hcm
      rcases e' with rfl | rfl | rfl | rfl | rfl
      · exact Heap.lt_size hz
      · exact Heap.lt_size hTI
      · exact Heap.lt_size hTO
      · obtain ⟨_, e1, _⟩ := h1; exact Heap.lt_size e1
      · obtain ⟨_, e2, _⟩ := h2; exact Heap.lt_size e2
    rw [upd_ne (Nat.ne_of_lt hlt)]
    exact (hf c hcm).1
  done := by
    intro X hP hw hK hc i pins s σ H E I hf st hg
    subst hP hw hK
    obtain ⟨⟨Ft, g, hF, hz⟩, hTI, ⟨x0, y0, hTO⟩, h1, h2⟩ := st
    obtain ⟨xs, ys, hqx, hqy, hend⟩ := hg
    obtain ⟨its, rv, p, _⟩ := I.tuple hqx
    obtain ⟨its2, rv2, p2, _⟩ := I.tuple hqy
    have l1 := rv.length
    have l2 := rv2.length
    have he : its.toArray[i]? = none ∨ its2.toArray[i]? = none := by
      rcases hend with q | q
      · exact .inl (by simp; omega)
      · exact .inr (by simp; omega)
    have hTz : s.TypeIs (.ref z) "zip" := ⟨_, hz, rfl⟩
    unfold pyNext
    refine wpAny_bind (wpAny_attempt (wpAny_callSpecial?_slot (name := Str.ofString "__next__") hTz F.slot_zip_next (wpAny_call_entry F.slot_zip_next hTz F.entry_zip_next (zipn_end (I.ok.hd hc) D hF hz hTI hTO h1 h2 p p2 he fun hp e hk he => ?_) (F.args_zip_next_1 _))))
    obtain ⟨o, ho, hcl⟩ := he
    refine wpAny_bind (wpAny_isInstance (T := "StopIteration") (b := true) ⟨o, ho, hcl⟩ isSubtype_stop ?_)
    exact wpAny_pure ⟨rfl, I.turnedL (t' := s.toks) (ch := [z, TI, TO, i1, i2]) (fun c o hb q => hk c o (fun q' => hb (by simp [q'])) (fun q' => hb (by simp [q'])) (fun q' => hb (by simp [q'])) (fun q' => hb (by simp [q'])) q) hf⟩
  self := fun A i s Q E st h => by
    obtain ⟨⟨Ft, g, _, hz⟩, _⟩ := st
    exact zipn_self hz h
def iZipN (K : PySem.W.Frag) (ta : TA) : TI := fun σ H R => ta σ H fun vs H1 => ∃ a b xs ys, vs = [.ref a, .ref b] ∧ SqT K H1 a xs ∧ SqT K H1 b ys ∧ R (RZ.ItzT K a b) H1
theorem pi_zipN {X : Cx} {e e2 : Expr} {ta : TA} {p pos tpos : Pos} {nm : Str} (hg : Gl X "zip") (hm : X.mg "zip" = none) (ha : PA X [e, e2] ta)
    (hs : starEach [e, e2] X.env = (false, eval e X.env) :: starEach [e2] X.env := by rfl) (hpl : (backTo pos (starEach [e2] X.env)).any (·.1) = false := by rfl) :
    PI X (.Name nm tpos) (.Call (.Name "zip" p) [e, e2] [] pos) (iZipN X.K ta) := by
  refine ⟨fun pins s σ H R I h => ?_⟩
  refine Call_ (ld_blt I hg hm PyProof.Rows.boot_zip (PyProof.Rows.callWith_type1 (thn (ha.run pos pins s σ H _ I h) fun us s1 ⟨vs, H1, I1, r1, q1⟩ => ?_) hs hpl))
  obtain ⟨a, b, xs, ys, ex, hqx, hqy, q⟩ := q1
  subst ex
  cases r1 with
  | cons r rr =>
    cases rr with
    | cons r' rr =>
      cases rr
      cases r
      cases r'
      obtain ⟨its, rv, p1, _⟩ := I1.tuple hqx
      obtain ⟨its2, rv2, p2, _⟩ := I1.tuple hqy
      obtain ⟨o1, ho1, _⟩ := id p1
      obtain ⟨o2, ho2, _⟩ := id p2
      refine RZ.call_zipT (show s1.heap.IsTuple a its.toArray from p1) (show s1.heap.IsTuple b its2.toArray from p2) fun h' hz hTI hTO h1 h2 hsz hk => zipn_self hz ?_
      have I2 : Inv X pins σ H1 { s1 with heap := h' } := I1.kept (t' := s1.toks) hk
      refine ⟨s1.heap.objs.size + 4, [s1.heap.objs.size + 4, s1.heap.objs.size + 2, s1.heap.objs.size + 3, s1.heap.objs.size, s1.heap.objs.size + 1], _, _, H1, rfl, I2, turn_zipN (PySem.W.ktu_apart s1.heap.objs.size a b (Heap.lt_size ho1) (Heap.lt_size ho2)), ⟨⟨.none, false, .inl rfl, hz⟩, hTI, ⟨_, _, hTO⟩, h1, h2⟩, fun c hcm => ?_, q⟩
      have hle : s1.heap.objs.size ≤ c := by
        have e' : c = s1.heap.objs.size + 4 ∨ c = s1.heap.objs.size + 2 ∨ c = s1.heap.objs.size + 3 ∨ c = s1.heap.objs.size ∨ c = s1.heap.objs.size + 1 := by simpa using hcm
        show (s1.heap.objs.size : Nat) ≤ c
        rcases e' with z | z | z | z | z <;> rw [z]
        · exact Nat.le_add_right _ _
        · exact Nat.le_add_right _ _
        · exact Nat.le_add_right _ _
        · exact Nat.le_refl _
        · exact Nat.le_add_right _ _
      exact I1.fpOk hle (I1.hok.fresh hle)
end MP

namespace MP
open PySem L2
section
variable {G : Gx} {X : Cx} {E : XK} {Γ : Cal} {n : Nat} {A A1 A' : List Addr} {H H1 H' : Hp} {S S1 S' : Store}

def JRep (G : Gx) (A : List Addr) (H : Hp) (src : Src) (J : L2.It) : Prop :=
  ∀ b : List Addr, (∀ a ∈ b, a ∈ G.blk ∨ H a = none) → ∀ (i : Nat) (A' : List Addr) (H' : Hp) (S' : Store), Ext A H A' H' → SRel (G.wb b) A' H' S' →
    (src.at i S' = some none → J.stop i H') ∧
    ∀ x, src.at i S' = some (some x) → J.go i H' ∧ ∀ v H'', J.yld i H' v H'' → Ext A' H' A' H'' ∧ SRel (G.wb b) A' H'' S' ∧ Rep (G.wb b) A' H'' x v
theorem JRep.now {src : Src} {J : L2.It} (h : JRep G A H src J) (i : Nat) (A' : List Addr) (H' : Hp) (S' : Store) (e : Ext A H A' H') (R : SRel G A' H' S') : (src.at i S' = some none → J.stop i H') ∧
    ∀ x, src.at i S' = some (some x) → J.go i H' ∧ ∀ v H'', J.yld i H' v H'' → Ext A' H' A' H'' ∧ SRel G A' H'' S' ∧ Rep G A' H'' x v := h G.blk (fun _ z => .inl z) i A' H' S' e R

theorem conOf_some {o : Option O} {xs : List D} (h : conOf o = some xs) : o = some (.lst xs) := by
  unfold conOf at h
  split at h
  · cases h; rfl
  · cases h
theorem none_le {α : Type} {xs : List α} {i : Nat} (h : xs[i]? = none) : xs.length ≤ i := List.getElem?_eq_none_iff.mp h
theorem jrep_lst {m : Nat} {a : Addr} (h : A[m]? = some a) : JRep G A H (.lst m) (Itl G.K a) := by
  intro b0 hb0 i A' H' S' e R
  have ha := e.ix h
  constructor
  · intro q
    simp only [Src.at, Option.map_eq_some_iff] at q
    obtain ⟨xs, q1, q2⟩ := q
    obtain ⟨vs, h2, h3⟩ := R.obj m _ a (conOf_some q1) ha
    exact ⟨vs, .of h2, none_le (h3.none_of q2)⟩
  · intro x q
    simp only [Src.at, Option.map_eq_some_iff] at q
    obtain ⟨xs, q1, q2⟩ := q
    obtain ⟨vs, h2, h3⟩ := R.obj m _ a (conOf_some q1) ha
    obtain ⟨v, e1, e2⟩ := h3.get q2
    refine ⟨⟨vs, v, .of h2, e1⟩, fun u H'' y => ?_⟩
    obtain ⟨rfl, y⟩ := y
    have := y vs (.of h2)
    rw [e1] at this
    cases this
    exact ⟨.refl, R, e2⟩
theorem ConAt.ext {a : Addr} {vs : List V} (R : SRel G A H S) (e : Ext A H A' H') (h : ConAt G.K H a vs) : ConAt G.K H' a vs := by
  rcases h with ⟨ob, h⟩ | h
  · exact .inl ⟨ob, e.keep _ _ h (R.not_frz h)⟩
  · exact .inr h
theorem jrep_con {a : Addr} {xs : List D} {vs : List V} (R0 : SRel G A H S) (hc : ConAt G.K H a vs) (hr : RepL G A H xs vs) : JRep G A H (.fix xs) (Itl G.K a) := by
  intro b0 hb0 i A' H' S' e R
  have h2 := (hc.ext R0 e).sq
  have h3 := (hr.wb hb0).ext R0 e
  constructor
  · intro q
    simp only [Src.at, Option.some.injEq] at q
    exact ⟨vs, h2, none_le (h3.none_of q)⟩
  · intro x q
    simp only [Src.at, Option.some.injEq] at q
    obtain ⟨v, e1, e2⟩ := h3.get q
    refine ⟨⟨vs, v, h2, e1⟩, fun u H'' y => ?_⟩
    obtain ⟨rfl, y⟩ := y
    have := y vs h2
    rw [e1] at this
    cases this
    exact ⟨.refl, R, e2⟩
theorem jrep_fl {a : Addr} {xs : List D} {vs : List V} (R0 : SRel G A H S) (hc : H a = some (.lst vs)) (hn : a ∉ A) (hr : RepL G A H xs vs) : JRep G A H (.fix xs) (Itl G.K a) := by
  intro b0 hb0 i A' H' S' e R
  have h2 : SqL G.K H' a vs := .of (e.keep _ _ hc hn)
  have h3 := (hr.wb hb0).ext R0 e
  constructor
  · intro q
    simp only [Src.at, Option.some.injEq] at q
    exact ⟨vs, h2, none_le (h3.none_of q)⟩
  · intro x q
    simp only [Src.at, Option.some.injEq] at q
    obtain ⟨v, e1, e2⟩ := h3.get q
    refine ⟨⟨vs, v, h2, e1⟩, fun u H'' y => ?_⟩
    obtain ⟨rfl, y⟩ := y
    have := y vs h2
    rw [e1] at this
    cases this
    exact ⟨.refl, R, e2⟩
theorem jrep_tup {a : Addr} {xs : List D} {vs : List V} (R0 : SRel G A H S) (hc : H a = some (.tup vs)) (hr : RepL G A H xs vs) : JRep G A H (.fix xs) (Itt G.K a) := by
  intro b0 hb0 i A' H' S' e R
  have h2 : SqT G.K H' a vs := .of (e.keep _ _ hc (R0.not_tup hc))
  have h3 := (hr.wb hb0).ext R0 e
  constructor
  · intro q
    simp only [Src.at, Option.some.injEq] at q
    exact ⟨vs, h2, none_le (h3.none_of q)⟩
  · intro x q
    simp only [Src.at, Option.some.injEq] at q
    obtain ⟨v, e1, e2⟩ := h3.get q
    refine ⟨⟨vs, v, h2, e1⟩, fun u H'' y => ?_⟩
    obtain ⟨rfl, y⟩ := y
    have := y vs h2
    rw [e1] at this
    cases this
    exact ⟨.refl, R, e2⟩
theorem jrep_rng (lo : Int) (m : Nat) : JRep G A H (.rng lo m) (Itr lo m) := by
  intro b0 hb0 i A' H' S' e R
  constructor
  · intro q
    simp only [Src.at, Option.some.injEq] at q
    split at q
    · cases q
    · show m ≤ i
      omega
  · intro x q
    simp only [Src.at, Option.some.injEq] at q
    split at q
    · rename_i hi
      cases q
      refine ⟨hi, fun u H'' y => ?_⟩
      obtain ⟨rfl, rfl⟩ := y
      exact ⟨.refl, R, .int _⟩
    · cases q
theorem jrep_enu {m : Nat} {a : Addr} (h : A[m]? = some a) : JRep G A H (.enu m) (Ite G.K a) := by
  intro b0 hb0 i A' H' S' e R
  have ha := e.ix h
  constructor
  · intro q
    simp only [Src.at, Option.map_eq_some_iff] at q
    obtain ⟨xs, q1, q2⟩ := q
    obtain ⟨vs, h2, h3⟩ := R.obj m _ a (conOf_some q1) ha
    simp only [Option.map_eq_none_iff] at q2
    exact ⟨vs, .of h2, none_le (h3.none_of q2)⟩
  · intro x q
    simp only [Src.at, Option.map_eq_some_iff] at q
    obtain ⟨xs, q1, q2⟩ := q
    obtain ⟨vs, h2, h3⟩ := R.obj m _ a (conOf_some q1) ha
    obtain ⟨y, q3, rfl⟩ := q2
    obtain ⟨v, e1, e2⟩ := h3.get q3
    refine ⟨⟨vs, v, .of h2, e1⟩, fun u H'' z => ?_⟩
    obtain ⟨T, w, rfl, hT, rfl, z⟩ := z
    have := z vs (.of h2)
    rw [e1] at this
    cases this
    exact ⟨ext_laid hT, R.laid hT, .tup upd_same (.cons (.int _) (.cons (e2.ext R (ext_laid hT)) .nil))⟩
theorem jrep_zip {m k : Nat} {a b : Addr} (h : A[m]? = some a) (h' : A[k]? = some b) : JRep G A H (.zip m k) (Itz G.K a b) := by
  intro b0 hb0 i A' H' S' e R
  have ha := e.ix h
  have hb := e.ix h'
  constructor
  · intro q
    simp only [Src.at, Option.bind_eq_some_iff, Option.map_eq_some_iff] at q
    obtain ⟨xs, q1, ys, q2, q3⟩ := q
    obtain ⟨vs, h2, h3⟩ := R.obj m _ a (conOf_some q1) ha
    obtain ⟨ws, h4, h5⟩ := R.obj k _ b (conOf_some q2) hb
    refine ⟨vs, ws, .of h2, .of h4, ?_⟩
    cases q4 : xs[i]? with
    | none => exact .inl (none_le (h3.none_of q4))
    | some x =>
      rw [q4] at q3
      simp only [Option.bind_some, Option.map_eq_none_iff] at q3
      exact .inr (none_le (h5.none_of q3))
  · intro x q
    simp only [Src.at, Option.bind_eq_some_iff, Option.map_eq_some_iff] at q
    obtain ⟨xs, q1, ys, q2, q3⟩ := q
    obtain ⟨vs, h2, h3⟩ := R.obj m _ a (conOf_some q1) ha
    obtain ⟨ws, h4, h5⟩ := R.obj k _ b (conOf_some q2) hb
    obtain ⟨y, q4, z, q5, rfl⟩ := q3
    obtain ⟨v, e1, e2⟩ := h3.get q4
    obtain ⟨w, e3, e4⟩ := h5.get q5
    refine ⟨⟨vs, ws, v, w, .of h2, .of h4, e1, e3⟩, fun u H'' z => ?_⟩
    obtain ⟨T, v', w', rfl, hT, rfl, z1, z2⟩ := z
    have z1 := z1 vs (.of h2)
    have z2 := z2 ws (.of h4)
    rw [e1] at z1
    rw [e3] at z2
    cases z1
    cases z2
    exact ⟨ext_laid hT, R.laid hT, .tup upd_same (.cons (e2.ext R (ext_laid hT)) (.cons (e4.ext R (ext_laid hT)) .nil))⟩
theorem zipW_get {xs ys : List D} {i : Nat} : (List.zipWith (fun x y => D.tup [x, y]) xs ys)[i]? = xs[i]?.bind fun x => ys[i]?.map fun y => D.tup [x, y] := by
  rw [List.getElem?_zipWith]
  cases xs[i]? <;> cases ys[i]? <;> rfl
theorem jrep_zipT {a b : Addr} {xs ys : List D} {vs ws : List V} (R0 : SRel G A H S) (hc : H a = some (.tup vs)) (hr : RepL G A H xs vs) (hc' : H b = some (.tup ws)) (hr' : RepL G A H ys ws) :
    JRep G A H (.fix (List.zipWith (fun x y => D.tup [x, y]) xs ys)) (RZ.ItzT G.K a b) := by
  intro b0 hb0 i A' H' S' e R
  have h2 : SqT G.K H' a vs := .of (e.keep _ _ hc (R0.not_tup hc))
  have h3 := (hr.wb hb0).ext R0 e
  have h4 : SqT G.K H' b ws := .of (e.keep _ _ hc' (R0.not_tup hc'))
  have h5 := (hr'.wb hb0).ext R0 e
  constructor
  · intro q
    simp only [Src.at, Option.some.injEq, zipW_get] at q
    refine ⟨vs, ws, h2, h4, ?_⟩
    cases q4 : xs[i]? with
    | none => exact .inl (none_le (h3.none_of q4))
    | some x =>
      rw [q4] at q
      simp only [Option.bind_some, Option.map_eq_none_iff] at q
      exact .inr (none_le (h5.none_of q))
  · intro x q
    simp only [Src.at, Option.some.injEq, zipW_get, Option.bind_eq_some_iff, Option.map_eq_some_iff] at q
    obtain ⟨y, q4, z, q5, rfl⟩ := q
    obtain ⟨v, e1, e2⟩ := h3.get q4
    obtain ⟨w, e3, e4⟩ := h5.get q5
    refine ⟨⟨vs, ws, v, w, h2, h4, e1, e3⟩, fun u H'' z => ?_⟩
    obtain ⟨T, v', w', rfl, hT, rfl, z1, z2⟩ := z
    have z1 := z1 vs h2
    have z2 := z2 ws h4
    rw [e1] at z1
    rw [e3] at z2
    cases z1
    cases z2
    exact ⟨ext_laid hT, R.laid hT, .tup upd_same (.cons (e2.ext R (ext_laid hT)) (.cons (e4.ext R (ext_laid hT)) .nil))⟩

theorem enumD_get {xs : List D} {i : Nat} : (enumD xs)[i]? = xs[i]?.map fun x => D.tup [.int (i : Nat), x] := by
  unfold enumD
  rw [List.getElem?_mapIdx]
theorem jrep_enuF {a : Addr} {xs : List D} {vs : List V} (R0 : SRel G A H S) (hc : H a = some (.lst vs)) (hn : a ∉ A) (hr : RepL G A H xs vs) : JRep G A H (.fix (enumD xs)) (Ite G.K a) := by
  intro b0 hb0 i A' H' S' e R
  have h2 : SqL G.K H' a vs := .of (e.keep _ _ hc hn)
  have h3 := (hr.wb hb0).ext R0 e
  constructor
  · intro q
    simp only [Src.at, Option.some.injEq, enumD_get, Option.map_eq_none_iff] at q
    exact ⟨vs, h2, none_le (h3.none_of q)⟩
  · intro x q
    simp only [Src.at, Option.some.injEq, enumD_get, Option.map_eq_some_iff] at q
    obtain ⟨y, q3, rfl⟩ := q
    obtain ⟨v, e1, e2⟩ := h3.get q3
    refine ⟨⟨vs, v, h2, e1⟩, fun u H'' z => ?_⟩
    obtain ⟨T, w, rfl, hT, rfl, z⟩ := z
    have := z vs h2
    rw [e1] at this
    cases this
    exact ⟨ext_laid hT, R.laid hT, .tup upd_same (.cons (.int _) (.cons (e2.ext R (ext_laid hT)) .nil))⟩
theorem jrep_enuT {a : Addr} {xs : List D} {vs : List V} (R0 : SRel G A H S) (hc : H a = some (.tup vs)) (hr : RepL G A H xs vs) : JRep G A H (.fix (enumD xs)) (IteT G.K a) := by
  intro b0 hb0 i A' H' S' e R
  have h2 : SqT G.K H' a vs := .of (e.keep _ _ hc (R0.not_tup hc))
  have h3 := (hr.wb hb0).ext R0 e
  constructor
  · intro q
    simp only [Src.at, Option.some.injEq, enumD_get, Option.map_eq_none_iff] at q
    exact ⟨vs, h2, none_le (h3.none_of q)⟩
  · intro x q
    simp only [Src.at, Option.some.injEq, enumD_get, Option.map_eq_some_iff] at q
    obtain ⟨y, q3, rfl⟩ := q
    obtain ⟨v, e1, e2⟩ := h3.get q3
    refine ⟨⟨vs, v, h2, e1⟩, fun u H'' z => ?_⟩
    obtain ⟨T, w, rfl, hT, rfl, z⟩ := z
    have := z vs h2
    rw [e1] at this
    cases this
    exact ⟨ext_laid hT, R.laid hT, .tup upd_same (.cons (.int _) (.cons (e2.ext R (ext_laid hT)) .nil))⟩
theorem jrep_zipF {a b : Addr} {xs ys : List D} {vs ws : List V} (R0 : SRel G A H S) (hc : H a = some (.lst vs)) (hn : a ∉ A) (hr : RepL G A H xs vs) (hc' : H b = some (.lst ws)) (hn' : b ∉ A) (hr' : RepL G A H ys ws) :
    JRep G A H (.fix (List.zipWith (fun x y => D.tup [x, y]) xs ys)) (Itz G.K a b) := by
  intro b0 hb0 i A' H' S' e R
  have h2 : SqL G.K H' a vs := .of (e.keep _ _ hc hn)
  have h3 := (hr.wb hb0).ext R0 e
  have h4 : SqL G.K H' b ws := .of (e.keep _ _ hc' hn')
  have h5 := (hr'.wb hb0).ext R0 e
  constructor
  · intro q
    simp only [Src.at, Option.some.injEq, zipW_get] at q
    refine ⟨vs, ws, h2, h4, ?_⟩
    cases q4 : xs[i]? with
    | none => exact .inl (none_le (h3.none_of q4))
    | some x =>
      rw [q4] at q
      simp only [Option.bind_some, Option.map_eq_none_iff] at q
      exact .inr (none_le (h5.none_of q))
  · intro x q
    simp only [Src.at, Option.some.injEq, zipW_get, Option.bind_eq_some_iff, Option.map_eq_some_iff] at q
    obtain ⟨y, q4, z, q5, rfl⟩ := q
    obtain ⟨v, e1, e2⟩ := h3.get q4
    obtain ⟨w, e3, e4⟩ := h5.get q5
    refine ⟨⟨vs, ws, v, w, h2, h4, e1, e3⟩, fun u H'' z => ?_⟩
    obtain ⟨T, v', w', rfl, hT, rfl, z1, z2⟩ := z
    have z1 := z1 vs h2
    have z2 := z2 ws h4
    rw [e1] at z1
    rw [e3] at z2
    cases z1
    cases z2
    exact ⟨ext_laid hT, R.laid hT, .tup upd_same (.cons (e2.ext R (ext_laid hT)) (.cons (e4.ext R (ext_laid hT)) .nil))⟩
theorem jrep_zipM {a b : Addr} {xs ys : List D} {vs ws : List V} (R0 : SRel G A H S) (hc : H a = some (.lst vs)) (hn : a ∉ A) (hr : RepL G A H xs vs) (hc' : H b = some (.tup ws)) (hr' : RepL G A H ys ws) :
    JRep G A H (.fix (List.zipWith (fun x y => D.tup [x, y]) xs ys)) (ItzM G.K a b vs.length ws.length) := by
  intro b0 hb0 i A' H' S' e R
  have h2 : SqL G.K H' a vs := .of (e.keep _ _ hc hn)
  have h3 := (hr.wb hb0).ext R0 e
  have h4 : SqT G.K H' b ws := .of (e.keep _ _ hc' (R0.not_tup hc'))
  have h5 := (hr'.wb hb0).ext R0 e
  constructor
  · intro q
    simp only [Src.at, Option.some.injEq, zipW_get] at q
    refine ⟨vs, ws, ⟨h2, rfl⟩, ⟨h4, rfl⟩, ?_⟩
    cases q4 : xs[i]? with
    | none => exact .inl (none_le (h3.none_of q4))
    | some x =>
      rw [q4] at q
      simp only [Option.bind_some, Option.map_eq_none_iff] at q
      exact .inr (none_le (h5.none_of q))
  · intro x q
    simp only [Src.at, Option.some.injEq, zipW_get, Option.bind_eq_some_iff, Option.map_eq_some_iff] at q
    obtain ⟨y, q4, z, q5, rfl⟩ := q
    obtain ⟨v, e1, e2⟩ := h3.get q4
    obtain ⟨w, e3, e4⟩ := h5.get q5
    refine ⟨⟨vs, ws, v, w, ⟨h2, rfl⟩, ⟨h4, rfl⟩, e1, e3⟩, fun u H'' z => ?_⟩
    obtain ⟨T, v', w', rfl, hT, rfl, z1, z2⟩ := z
    have z1 := z1 vs h2
    have z2 := z2 ws h4
    rw [e1] at z1
    rw [e3] at z2
    cases z1
    cases z2
    exact ⟨ext_laid hT, R.laid hT, .tup upd_same (.cons (e2.ext R (ext_laid hT)) (.cons (e4.ext R (ext_laid hT)) .nil))⟩
def evI (Γ : Cal) (it : It) (x : C) (r : Env) (S : Store) : Res Src :=
  (evA Γ x r S).bind fun ds S => match srcOf it ds S with
    | some src => .ok src S
    | none => .bad
def SI (G : Gx) (X : Cx) (E : XK) (Γ : Cal) (it : It) (x : C) (tg iter : Expr) : Prop :=
  ∃ wi, PI X tg iter wi ∧ ∀ r s A H S (Q : L2.It → Hp → Prop), ERel G A H r s → SRel G A H S → Fin (fun A H src J => JRep G A H src J) G A H (evI Γ it x r S) Q E → wi s H Q
theorem pi_or {tg iter : Expr} {w1 w2 : TI} (h1 : PI X tg iter w1) (h2 : PI X tg iter w2) : PI X tg iter (fun σ H R => w1 σ H R ∨ w2 σ H R) :=
  ⟨fun pins s σ H R I h => h.elim (fun h => h1.run pins s σ H R I h) fun h => h2.run pins s σ H R I h⟩
theorem si_seq {a : C} {ea tg : Expr} (xo : Xok G X n) (ha : SE G X E Γ a ea) : SI G X E Γ .seq (.cons a .nil) tg ea := by
  obtain ⟨ta, pa, qa⟩ := ha
  refine ⟨_, pi_or (pi_list pa) (pi_tup pa), fun r s A H S Q er R h => ?_⟩
  simp only [evI, evA] at h
  rw [xo.K]
  cases q : evE Γ a r S with
  | exc c S1 => rw [q] at h; exact .inl (qa r s A H S _ er R (by rw [q]; exact h))
  | bad => rw [q] at h; exact h.elim
  | ok d S1 =>
    rw [q] at h
    dsimp only [Res.bind] at h
    cases d with
    | tup xs =>
      refine .inr (qa r s A H S _ er R ?_)
      rw [q]
      intro A1 H1 v e1 R1 p1
      obtain ⟨b, vs, rfl, h1, h2⟩ := rep_tup p1
      exact ⟨b, rfl, ⟨vs, .of h1⟩, h A1 H1 _ e1 R1 (jrep_tup R1 h1 h2)⟩
    | scr xs =>
      refine .inl (qa r s A H S _ er R ?_)
      rw [q]
      intro A1 H1 v e1 R1 p1
      cases p1 with
      | scr h1 h2 => exact ⟨_, rfl, ⟨_, h1.sq⟩, h A1 H1 _ e1 R1 (jrep_con R1 h1 h2)⟩
    | con xs =>
      refine .inl (qa r s A H S _ er R ?_)
      rw [q]
      intro A1 H1 v e1 R1 p1
      cases p1 with
      | con h1 h2 _ h3 => exact ⟨_, rfl, ⟨_, .of h1⟩, h A1 H1 _ e1 R1 (jrep_fl R1 h1 h2 h3)⟩
    | ref m =>
      simp only [srcOf, srcSeq] at h
      cases q2 : conOf S1[m]? with
      | none => rw [q2] at h; exact h.elim
      | some xs =>
        rw [q2] at h
        refine .inl (qa r s A H S _ er R ?_)
        rw [q]
        intro A1 H1 v e1 R1 p1
        obtain ⟨b, vs, rfl, h0, h1, h2⟩ := rep_lst R1 p1 (conOf_some q2)
        exact ⟨b, rfl, ⟨vs, .of h1⟩, h A1 H1 _ e1 R1 (jrep_lst h0)⟩
    | _ => exact h.elim
theorem big_eq : big = 2 ^ 62 := by decide
theorem len1 {a : C} {r : Env} {S S1 : Store} {ds : List D} (h : evA Γ (.cons a .nil) r S = .ok ds S1) : ∃ d, ds = [d] := by
  have := evA_len _ _ _ _ _ h
  match ds, this with
  | [d], _ => exact ⟨d, rfl⟩
theorem len2 {a b : C} {r : Env} {S S1 : Store} {ds : List D} (h : evA Γ (.cons a (.cons b .nil)) r S = .ok ds S1) : ∃ d e, ds = [d, e] := by
  have := evA_len _ _ _ _ _ h
  match ds, this with
  | [d, e], _ => exact ⟨d, e, rfl⟩
theorem si_rng1 {a : C} {ea tg : Expr} {p pos : Pos} (hg : Gl X "range") (hm : X.mg "range" = none) (hs : starEach [ea] X.env = [(false, eval ea X.env)]) (ha : SA G X E Γ (.cons a .nil) [ea]) : SI G X E Γ .rng (.cons a .nil) tg (.Call (.Name "range" p) [ea] [] pos) := by
  obtain ⟨ta, pa, qa⟩ := ha
  refine ⟨_, pi_range1 hg hm pa hs, fun r s A H S Q er R h => ?_⟩
  unfold evI at h
  refine qa r s A H S _ er R (h.bind R fun ds S1 A1 H1 vs e0 e1 R1 p1 h1 => ?_)
  obtain ⟨d, rfl⟩ := len1 e0
  obtain ⟨v, rfl, hv⟩ := repL1 p1
  simp only [srcOf, srcRng1] at h1
  cases d <;> try exact h1.elim
  rename_i j
  dsimp only at h1
  by_cases hj : -big ≤ j ∧ j < big
  · rw [if_pos hj] at h1
    rw [rep_int hv]
    rw [big_eq] at hj
    exact ⟨j, rfl, hj.1, hj.2, h1 A1 H1 _ .refl R1 (jrep_rng 0 _)⟩
  · rw [if_neg hj] at h1
    exact h1.elim
theorem si_rng2 {a b : C} {ea eb tg : Expr} {p pos : Pos} (hg : Gl X "range") (hm : X.mg "range" = none) (hs : starEach [ea, eb] X.env = [(false, eval ea X.env), (false, eval eb X.env)]) (hs2 : starEach [eb] X.env = [(false, eval eb X.env)])
    (ha : SA G X E Γ (.cons a (.cons b .nil)) [ea, eb]) : SI G X E Γ .rng (.cons a (.cons b .nil)) tg (.Call (.Name "range" p) [ea, eb] [] pos) := by
  obtain ⟨ta, pa, qa⟩ := ha
  refine ⟨_, pi_rangeA hg hm pa hs hs2, fun r s A H S Q er R h => ?_⟩
  unfold evI at h
  refine qa r s A H S _ er R (h.bind R fun ds S1 A1 H1 vs e0 e1 R1 p1 h1 => ?_)
  obtain ⟨d, d', rfl⟩ := len2 e0
  obtain ⟨v, w, rfl, hv, hw⟩ := repL2 p1
  simp only [srcOf, srcRng2] at h1
  cases d <;> try exact h1.elim
  cases d' <;> try exact h1.elim
  rename_i i j
  dsimp only at h1
  rw [rep_int hv, rep_int hw]
  exact ⟨i, j, rfl, h1 A1 H1 _ .refl R1 (jrep_rng i _)⟩
theorem si_enu {a : C} {ea : Expr} {elts : List Expr} {kk : Nat} {tpos p pos : Pos} (xo : Xok G X n) (hg : Gl X "enumerate") (hm : X.mg "enumerate" = none) (hs : starEach [ea] X.env = [(false, eval ea X.env)]) (ha : SA G X E Γ (.cons a .nil) [ea]) :
    SI G X E Γ .enu (.cons a .nil) (.Tuple elts kk tpos) (.Call (.Name "enumerate" p) [ea] [] pos) := by
  obtain ⟨ta, pa, qa⟩ := ha
  refine ⟨_, pi_enumA hg hm pa hs, fun r s A H S Q er R h => ?_⟩
  unfold evI at h
  refine qa r s A H S _ er R (h.bind R fun ds S1 A1 H1 vs e0 e1 R1 p1 h1 => ?_)
  obtain ⟨d, rfl⟩ := len1 e0
  obtain ⟨v, rfl, hv⟩ := repL1 p1
  simp only [srcOf, srcEnu] at h1
  cases d <;> try exact h1.elim
  · rename_i m
    dsimp only at h1
    cases q2 : conOf S1[m]? with
    | none => rw [q2] at h1; exact h1.elim
    | some xs =>
      rw [q2] at h1
      obtain ⟨b, vs, rfl, h0, h2, h3⟩ := rep_lst R1 hv (conOf_some q2)
      rw [xo.K]
      exact ⟨b, vs, rfl, .inl ⟨.of h2, h1 A1 H1 _ .refl R1 (jrep_enu h0)⟩⟩
  · rename_i xs
    obtain ⟨b, vs, rfl, h2, h3⟩ := rep_tup hv
    rw [xo.K]
    exact ⟨b, vs, rfl, .inr ⟨.of h2, h1 A1 H1 _ .refl R1 (jrep_enuT R1 h2 h3)⟩⟩
  · rename_i xs
    cases hv with
    | con h2 hn _ h3 =>
      rw [xo.K]
      exact ⟨_, _, rfl, .inl ⟨.of h2, h1 A1 H1 _ .refl R1 (jrep_enuF R1 h2 hn h3)⟩⟩
theorem si_zip {a b : C} {ea eb : Expr} {elts : List Expr} {kk : Nat} {tpos p pos : Pos} (xo : Xok G X n) (hg : Gl X "zip") (hm : X.mg "zip" = none) (hs : starEach [ea, eb] X.env = [(false, eval ea X.env), (false, eval eb X.env)]) (hs2 : starEach [eb] X.env = [(false, eval eb X.env)])
    (ha : SA G X E Γ (.cons a (.cons b .nil)) [ea, eb]) : SI G X E Γ .zip (.cons a (.cons b .nil)) (.Tuple elts kk tpos) (.Call (.Name "zip" p) [ea, eb] [] pos) := by
  obtain ⟨ta, pa, qa⟩ := ha
  refine ⟨_, pi_or (RZ.pi_zipA hg hm pa (by rw [hs, hs2]) (by rw [hs2]; rfl)) (pi_zipM hg hm pa (by rw [hs, hs2]) (by rw [hs2]; rfl)), fun r s A H S Q er R h => ?_⟩
  unfold evI at h
  by_cases hmix : ∃ xs ys S1, evA Γ (.cons a (.cons b .nil)) r S = .ok [.con xs, .tup ys] S1
  · obtain ⟨xs, ys, S2, q⟩ := hmix
    refine .inr (qa r s A H S _ er R (h.bind R fun ds S1 A1 H1 vs e0 e1 R1 p1 h1 => ?_))
    rw [q] at e0
    cases e0
    obtain ⟨v, w, rfl, hv, hw⟩ := repL2 p1
    simp only [srcOf, srcZip] at h1
    rw [xo.K]
    cases hv with
    | con h2 hn _ h3 =>
      obtain ⟨b', vs', rfl, h2', h3'⟩ := rep_tup hw
      exact ⟨_, _, _, _, rfl, .of h2, .of h2', h1 A1 H1 _ .refl R1 (jrep_zipM R1 h2 hn h3 h2' h3')⟩
  refine .inl (qa r s A H S _ er R (h.bind R fun ds S1 A1 H1 vs e0 e1 R1 p1 h1 => ?_))
  obtain ⟨d, d', rfl⟩ := len2 e0
  obtain ⟨v, w, rfl, hv, hw⟩ := repL2 p1
  simp only [srcOf, srcZip] at h1
  rw [xo.K]
  cases d <;> try exact h1.elim
  · cases d' <;> try exact h1.elim
    rename_i m k
    dsimp only at h1
    cases q2 : conOf S1[m]? with
    | none => rw [q2] at h1; exact h1.elim
    | some xs =>
      rw [q2] at h1
      dsimp only [Option.bind_some] at h1
      cases q3 : conOf S1[k]? with
      | none => rw [q3] at h1; exact h1.elim
      | some ys =>
        rw [q3] at h1
        obtain ⟨b, vs, rfl, h0, h2, h3⟩ := rep_lst R1 hv (conOf_some q2)
        obtain ⟨b', vs', rfl, h0', h2', h3'⟩ := rep_lst R1 hw (conOf_some q3)
        exact ⟨b, b', vs, vs', rfl, .inl ⟨.of h2, .of h2', h1 A1 H1 _ .refl R1 (jrep_zip h0 h0')⟩⟩
  · cases d' <;> try exact h1.elim
    rename_i xs ys
    obtain ⟨b, vs, rfl, h2, h3⟩ := rep_tup hv
    obtain ⟨b', vs', rfl, h2', h3'⟩ := rep_tup hw
    exact ⟨b, b', vs, vs', rfl, .inr ⟨.of h2, .of h2', h1 A1 H1 _ .refl R1 (jrep_zipT R1 h2 h3 h2' h3')⟩⟩
  · cases d' <;> try exact h1.elim
    · rename_i xs ys
      exact absurd ⟨xs, ys, S1, e0⟩ hmix
    rename_i xs ys
    cases hv with
    | con h2 hn _ h3 =>
      cases hw with
      | con h2' hn' _ h3' => exact ⟨_, _, _, _, rfl, .inl ⟨.of h2, .of h2', h1 A1 H1 _ .refl R1 (jrep_zipF R1 h2 hn h3 h2' hn' h3')⟩⟩
theorem si_zpn {a b : C} {ea eb : Expr} {nm : Str} {tpos p pos : Pos} (xo : Xok G X n) (hg : Gl X "zip") (hm : X.mg "zip" = none) (hs : starEach [ea, eb] X.env = [(false, eval ea X.env), (false, eval eb X.env)]) (hs2 : starEach [eb] X.env = [(false, eval eb X.env)])
    (ha : SA G X E Γ (.cons a (.cons b .nil)) [ea, eb]) : SI G X E Γ .zpn (.cons a (.cons b .nil)) (.Name nm tpos) (.Call (.Name "zip" p) [ea, eb] [] pos) := by
  obtain ⟨ta, pa, qa⟩ := ha
  refine ⟨_, pi_zipN hg hm pa (by rw [hs, hs2]) (by rw [hs2]; rfl), fun r s A H S Q er R h => ?_⟩
  unfold evI at h
  refine qa r s A H S _ er R (h.bind R fun ds S1 A1 H1 vs e0 e1 R1 p1 h1 => ?_)
  obtain ⟨d, d', rfl⟩ := len2 e0
  obtain ⟨v, w, rfl, hv, hw⟩ := repL2 p1
  simp only [srcOf] at h1
  rw [xo.K]
  cases d <;> try exact h1.elim
  cases d' <;> try exact h1.elim
  rename_i xs ys
  obtain ⟨b, vs, rfl, h2, h3⟩ := rep_tup hv
  obtain ⟨b', vs', rfl, h2', h3'⟩ := rep_tup hw
  exact ⟨b, b', vs, vs', rfl, .of h2, .of h2', h1 A1 H1 _ .refl R1 (jrep_zipT R1 h2 h3 h2' h3')⟩
end
end MP

namespace MP
open PySem L2
section
variable {G : Gx} {X : Cx} {E : XK} {Γ : Cal} {n : Nat} {A A1 A' : List Addr} {H H1 H' : Hp} {S S1 S' : Store}

theorem wipe_get {s : St} {j : Nat} : ∀ (ws : List Nat), (wipe s ws)[j]? = if j ∈ ws then (s[j]?).map (fun _ => none) else s[j]?
  | [] => by simp [wipe]
  | w :: ws => by
    unfold wipe
    rw [List.getElem?_set, wipe_get ws, wipe_length]
    by_cases hw : w = j
    · subst hw
      rw [if_pos rfl, if_pos List.mem_cons_self]
      by_cases hl : w < s.length
      · rw [if_pos hl]; simp [hl]
      · rw [if_neg hl, List.getElem?_eq_none (by omega)]; rfl
    · rw [if_neg hw]
      by_cases hj : j ∈ ws
      · rw [if_pos hj, if_pos (List.mem_cons_of_mem _ hj)]
      · rw [if_neg hj, if_neg (by simp [hj, Ne.symm hw])]
theorem wipe_set {s : St} {i : Nat} {v : Option V} {ws : List Nat} (h : i ∈ ws) : wipe (s.set i v) ws = wipe s ws := by
  refine List.ext_getElem? fun j => ?_
  rw [wipe_get, wipe_get]
  by_cases hj : j ∈ ws
  · rw [if_pos hj, if_pos hj, List.getElem?_set]
    by_cases he : i = j
    · subst he
      rw [if_pos rfl]
      by_cases hl : i < s.length
      · rw [if_pos hl]; simp [hl]
      · rw [if_neg hl, List.getElem?_eq_none (by omega)]
    · rw [if_neg he]
  · rw [if_neg hj, if_neg hj, List.getElem?_set_ne (show i ≠ j from fun e => hj (by rw [← e]; exact h))]
theorem wipe_wipe {s : St} {ws : List Nat} : wipe (wipe s ws) ws = wipe s ws := by
  refine List.ext_getElem? fun j => ?_
  rw [wipe_get, wipe_get]
  by_cases hj : j ∈ ws
  · rw [if_pos hj, if_pos hj, Option.map_map]; rfl
  · rw [if_neg hj, if_neg hj]
theorem wipeD_get {r : Env} {j : Nat} {d : D} : ∀ (ws : List Nat), (wipeD r ws)[j]? = some (some d) → r[j]? = some (some d) ∧ j ∉ ws
  | [], h => ⟨h, by simp⟩
  | w :: ws, h => by
    unfold wipeD at h
    rw [List.getElem?_set] at h
    by_cases hw : w = j
    · rw [if_pos hw] at h
      split at h <;> cases h
    · rw [if_neg hw] at h
      obtain ⟨h1, h2⟩ := wipeD_get ws h
      exact ⟨h1, by simp [h2, Ne.symm hw]⟩
theorem wipeD_len {r : Env} : ∀ (ws : List Nat), (wipeD r ws).length = r.length
  | [] => rfl
  | w :: ws => by unfold wipeD; rw [List.length_set, wipeD_len ws]
theorem ERel.wipe {r : Env} {s : St} (h : ERel G A H r s) (ws : List Nat) : ERel G A H (wipeD r ws) (L2.wipe s ws) := by
  refine ⟨by rw [wipeD_len, wipe_length]; exact h.1, fun i d e => ?_⟩
  obtain ⟨e1, e2⟩ := wipeD_get ws e
  obtain ⟨v, e3, e4⟩ := h.2 i d e1
  exact ⟨v, by rw [wipe_get, if_neg e2]; exact e3, e4⟩
theorem ERel.set {r : Env} {s : St} {i : Nat} {d : D} {v : V} (h : ERel G A H r s) (p : Rep G A H d v) : ERel G A H (r.set i (some d)) (s.set i (some v)) := by
  refine ⟨by simp [h.1], fun j d' e => ?_⟩
  rw [List.getElem?_set] at e
  rw [List.getElem?_set]
  by_cases hj : i = j
  · rw [if_pos hj] at e ⊢
    split at e
    · rename_i hl
      cases e
      rw [if_pos (by rw [← h.1]; exact hl)]
      exact ⟨v, rfl, p⟩
    · cases e
  · rw [if_neg hj] at e ⊢
    exact h.2 j d' e

def namesOk (N : List Str) (sc : Scope) : List Nat → List Expr → Bool
  | [], [] => true
  | i :: is, .Name x _ :: es => decide (N[i]? = some x) && decide (sc.names.lookup x = some .local ∨ sc.names.lookup x = some .cell) && namesOk N sc is es
  | _, _ => false
def gNames : List Nat → TGs
  | [] => gNil
  | i :: is => gCons (gName i) (gNames is)
theorem names_star {N : List Str} {sc : Scope} {env : PySem.Env} : ∀ {is : List Nat} {es : List Expr}, namesOk N sc is es = true → (assignEach es env).length = is.length ∧ (assignEach es env).findIdx? (·.1) = none
  | [], [], _ => ⟨rfl, rfl⟩
  | i :: is, e :: es, h => by
    cases e <;> simp only [namesOk, Bool.false_eq_true] at h
    rename_i x p
    simp only [Bool.and_eq_true, decide_eq_true_eq] at h
    obtain ⟨h1, h2⟩ := names_star (env := env) h.2
    have e1 : assignEach (.Name x p :: es) env = (false, assign (.Name x p) env) :: assignEach es env := rfl
    rw [e1]
    refine ⟨by simp [h1], ?_⟩
    rw [List.findIdx?_cons]
    simp [h2]
  | [], _ :: _, h => by simp [namesOk] at h
  | _ :: _, [], h => by simp [namesOk] at h
def CanSet (X : Cx) (sc : Scope) : Prop := ∀ x, (sc.names.lookup x = some .local ∨ sc.names.lookup x = some .cell) → Loc X.env.scope x ∧ (X.fn x = true ∨ X.env.scope.names.lookup x = some .local)
theorem pgs_names {sc : Scope} (hN : X.N.Nodup) (cs : CanSet X sc) : ∀ {is : List Nat} {es : List Expr}, namesOk X.N sc is es = true → PGs X es (gNames is)
  | [], [], _ => pgs_nil
  | i :: is, e :: es, h => by
    cases e <;> simp only [namesOk, Bool.false_eq_true] at h
    rename_i x p
    simp only [Bool.and_eq_true, decide_eq_true_eq] at h
    exact pgs_cons (pg_name hN h.1.1 (cs x h.1.2).1 (cs x h.1.2).2) (pgs_names hN cs h.2) rfl
  | [], _ :: _, h => by simp [namesOk] at h
  | _ :: _, [], h => by simp [namesOk] at h
def Tg.ok (N : List Str) (sc : Scope) (tg : Tg) (e : Expr) : Bool :=
  match tg with
  | .one i => namesOk N sc [i] [e]
  | .many is => match e with
    | .Tuple es _ _ => namesOk N sc is es
    | _ => false
  | .nest i is => match e with
    | .Tuple [.Name x p, .Tuple es _ _] _ _ => namesOk N sc [i] [.Name x p] && namesOk N sc is es
    | _ => false
def Tg.rd (K : PySem.W.Frag) : Tg → TG
  | .one i => gName i
  | .many is => gTup K is.length (gNames is)
  | .nest i is => gTup K 2 (gCons (gName i) (gCons (gTup K is.length (gNames is)) gNil))
theorem pg_tg {sc : Scope} {tg : Tg} {e : Expr} (hc : X.calm = true) (hN : X.N.Nodup) (cs : CanSet X sc) (h : tg.ok X.N sc e = true) : PG X e (tg.rd X.K) := by
  cases tg with
  | one i =>
    cases e <;> simp only [Tg.ok, namesOk, Bool.false_eq_true] at h
    rename_i x p
    simp only [Bool.and_eq_true, decide_eq_true_eq] at h
    exact pg_name hN h.1.1 (cs x h.1.2).1 (cs x h.1.2).2
  | many is =>
    cases e <;> simp only [Tg.ok, Bool.false_eq_true] at h
    rename_i es k p
    obtain ⟨h1, h2⟩ := names_star (env := X.env) h
    exact pg_tup hc (pgs_names hN cs h) h1 h2
  | nest i is =>
    simp only [Tg.ok] at h
    split at h
    · rename_i x p es _ _ _ _
      simp only [namesOk, Bool.and_eq_true, decide_eq_true_eq] at h
      obtain ⟨h1, h2⟩ := names_star (env := X.env) h.2
      exact pg_tup hc (pgs_cons (pg_name hN h.1.1.1 (cs x h.1.1.2).1 (cs x h.1.1.2).2) (pgs_cons (pg_tup hc (pgs_names hN cs h.2) h1 h2) pgs_nil rfl) rfl) rfl rfl
    · cases h
theorem gNames_ok {Q : St → Hp → Prop} : ∀ {is : List Nat} {ds : List D} {vs : List V} {r r' : Env} {s : St}, RepL G A H ds vs → ERel G A H r s → setAll is ds r = some r' →
    (∀ s', ERel G A H r' s' → (∀ ws, (∀ i ∈ is, i ∈ ws) → wipe s' ws = wipe s ws) → Q s' H) → gNames is vs s H Q
  | [], _, _, r, r', s, .nil, er, e, h => by
    simp only [setAll, Option.some.injEq] at e
    subst e
    exact ⟨rfl, h s er fun _ _ => rfl⟩
  | i :: is, _, _, r, r', s, .cons (v := v) (vs := vs) p t, er, e, h => by
    simp only [setAll] at e
    refine ⟨v, vs, rfl, ?_⟩
    refine gNames_ok t (er.set p) e fun s' er' hw => h s' er' fun ws hm => ?_
    rw [hw ws fun j hj => hm j (List.mem_cons_of_mem _ hj), wipe_set (hm i List.mem_cons_self)]
  | [], _, _, _, _, _, .cons _ _, _, e, _ => by simp [setAll] at e
  | _ :: _, _, _, _, _, _, .nil, _, e, _ => by simp [setAll] at e
theorem tg_ok {tg : Tg} {x : D} {v : V} {r r' : Env} {s : St} {Q : St → Hp → Prop} (p : Rep G A H x v) (er : ERel G A H r s) (e : tg.set x r = some r')
    (h : ∀ s', ERel G A H r' s' → (∀ ws, (∀ i ∈ tg.slots, i ∈ ws) → wipe s' ws = wipe s ws) → Q s' H) : tg.rd G.K v s H Q := by
  cases tg with
  | one i =>
    simp only [Tg.set, Option.some.injEq] at e
    subst e
    exact h _ (er.set p) fun ws hm => wipe_set (hm i (by simp [Tg.slots]))
  | many is =>
    simp only [Tg.set] at e
    split at e
    · rename_i ds
      split at e
      · rename_i hl
        obtain ⟨a, vs, rfl, h1, h2⟩ := rep_tup p
        exact ⟨a, vs, rfl, .of h1, by rw [← h2.length]; exact hl, gNames_ok h2 er e h⟩
      · cases e
    · cases e
  | nest i is =>
    simp only [Tg.set] at e
    split at e
    · rename_i d1 ds
      split at e
      · rename_i hl
        obtain ⟨a, vs, rfl, h1, h2⟩ := rep_tup p
        obtain ⟨w1, w2, rfl, p1, p2⟩ := repL2 h2
        obtain ⟨b, us, rfl, h3, h4⟩ := rep_tup p2
        refine ⟨a, _, rfl, .of h1, rfl, w1, _, rfl, _, _, rfl, b, us, rfl, .of h3, by rw [← h4.length]; exact hl, ?_⟩
        refine gNames_ok h4 (er.set p1) e fun s' er' hw => ⟨rfl, h s' er' fun ws hm => ?_⟩
        rw [hw ws fun j hj => hm j (List.mem_cons_of_mem _ hj), wipe_set (hm i List.mem_cons_self)]
      · cases e
    · cases e

theorem anyE {ι β : Type} {Y : ι → Cx} {e : Expr} {Z : β → TE → Prop} (hZ : ∀ b (ts : ι → TE), (∀ p, Z b (ts p)) → Z b fun σ H Q => ∀ p, ts p σ H Q) (hM : ∀ b t (t' : TE), Z b t → (∀ σ H Q, t σ H Q → t' σ H Q) → Z b t')
    (h : ∀ b p, ∃ t, PE (Y p) e t ∧ Z b t) : ∃ t, (∀ p, PE (Y p) e t) ∧ ∀ b, Z b t := by
  refine ⟨fun σ H Q => ∃ b, ∀ p, (h b p).choose σ H Q, fun p => ⟨fun pins s σ H Q I q => ?_⟩, fun b => hM b _ _ (hZ b _ fun p => (h b p).choose_spec.2) fun σ H Q q => ⟨b, q⟩⟩
  obtain ⟨b, q⟩ := q
  exact (h b p).choose_spec.1.run pins s σ H Q I (q p)
theorem anyT {ι β : Type} {Y : ι → Cx} {es : List Expr} {Z : β → TT → Prop} (hZ : ∀ b (ts : ι → TT), (∀ p, Z b (ts p)) → Z b fun σ H Q => ∀ p, ts p σ H Q) (hM : ∀ b t (t' : TT), Z b t → (∀ σ H Q, t σ H Q → t' σ H Q) → Z b t')
    (h : ∀ b p, ∃ t, PTs (Y p) es t ∧ Z b t) : ∃ t, (∀ p, PTs (Y p) es t) ∧ ∀ b, Z b t := by
  refine ⟨fun σ H Q => ∃ b, ∀ p, (h b p).choose σ H Q, fun p => ⟨fun pins s σ H Q I q => ?_⟩, fun b => hM b _ _ (hZ b _ fun p => (h b p).choose_spec.2) fun σ H Q q => ⟨b, q⟩⟩
  obtain ⟨b, q⟩ := q
  exact (h b p).choose_spec.1.run pins s σ H Q I (q p)
theorem mut_tup {u : HO} (mu : Mut (some u)) (vs : List V) : HO.tup vs ≠ u := by rintro rfl; exact mu
theorem mut_frz {u : HO} (mu : Mut (some u)) (ob : Obj) (w : HO) : HO.frz ob w ≠ u := by rintro rfl; exact mu
theorem Rep.side {D0 : Addr} {u u' : HO} (mu : Mut (some u)) (hd : H D0 = some u) (hb : D0 ∈ G.blk) : ∀ {d : D} {v : V}, Rep G A H d v → Rep G A (upd H D0 u') d v := by
  have tp : ∀ {a : Addr} {vs : List V}, H a = some (.tup vs) → upd H D0 u' a = some (.tup vs) := fun {a vs} h => by rw [upd_ne (ne_of h hd (mut_tup mu vs))]; exact h
  have fz : ∀ {a : Addr} {ob : Obj} {w : HO}, H a = some (.frz ob w) → upd H D0 u' a = some (.frz ob w) := fun {a ob w} h => by rw [upd_ne (ne_of h hd (mut_frz mu ob w))]; exact h
  have rd : ∀ {a : Addr} {w : HO}, Rd H a w → a ∉ G.blk → Rd (upd H D0 u') a w := fun {a w} h m => by
    unfold Rd
    rw [upd_ne fun z => m (by rw [z]; exact hb)]
    exact h
  intro d v r
  refine Rep.rec (motive_1 := fun d v _ => Rep G A (upd H D0 u') d v) (motive_2 := fun ds vs _ => RepL G A (upd H D0 u') ds vs) .non .bl .int .str .ty (fun h => .own h) (fun h => .exn h) (fun h => .ref h) (fun h _ ih => .tup (tp h) ih)
    (fun h n m _ ih => .con (by rw [upd_ne fun z => m (by rw [z]; exact hb)]; exact h) n m ih)
    (fun h _ ih => .scr (by
      rcases h with ⟨ob, h⟩ | h
      · exact .inl ⟨ob, fz h⟩
      · exact .inr h) ih) (fun h n m _ ih => .cdic (rd h m) n m ih) (fun h n m _ ih => .cdit (rd h m) n m ih) (fun g h n m _ ih => .cins g (by rw [upd_ne fun z => m (by rw [z]; exact hb)]; exact h) n m ih) .nil (fun _ _ i1 i2 => .cons i1 i2) r
theorem RepL.side {D0 : Addr} {u u' : HO} (mu : Mut (some u)) (hd : H D0 = some u) (hb : D0 ∈ G.blk) : ∀ {ds : List D} {vs : List V}, RepL G A H ds vs → RepL G A (upd H D0 u') ds vs
  | _, _, .nil => .nil
  | _, _, .cons r t => .cons (r.side mu hd hb) (RepL.side mu hd hb t)
theorem SRel.side {D0 : Addr} {u u' : HO} (R : SRel G A H S) (mu : Mut (some u)) (hd : H D0 = some u) (hb : D0 ∈ G.blk) : SRel G A (upd H D0 u') S := by
  have hn : D0 ∉ A := (R.shut D0 hb).2
  refine ⟨R.len, R.nd, fun b h => ⟨?_, (R.shut b h).2⟩, fun m o a h1 h2 => ?_⟩
  · by_cases e : b = D0
    · rw [e, upd_same]; simp
    · rw [upd_ne e]; exact (R.shut b h).1
  have ne : a ≠ D0 := fun z => hn (z ▸ List.mem_iff_getElem?.mpr ⟨m, h2⟩)
  have q := R.obj m o a h1 h2
  cases o with
  | lst xs => obtain ⟨vs, e, p⟩ := q; exact ⟨vs, by rw [upd_ne ne]; exact e, p.side mu hd hb⟩
  | dic kvs => obtain ⟨vs, e, k, p⟩ := q; exact ⟨vs, by rw [upd_ne ne]; exact e, k, p.side mu hd hb⟩
  | ins c fs => obtain ⟨C, dx, vs, g, e, k, p⟩ := q; exact ⟨C, dx, vs, g, by rw [upd_ne ne]; exact e, k, p.side mu hd hb⟩
  | dit kvs => obtain ⟨vs, e, k, p⟩ := q; exact ⟨vs, by rw [upd_ne ne]; exact e, k, p.side mu hd hb⟩
  | lck kvs => obtain ⟨ob, vs, e, k, p⟩ := q; exact ⟨ob, vs, by rw [upd_ne ne]; exact e, k, p.side mu hd hb⟩
theorem Ext.side {D0 : Addr} {u : HO} (e : Ext A1 H1 A H) (h0 : H1 D0 = none) : Ext A1 H1 A (upd H D0 u) :=
  ⟨e.pre, fun p o h n => by rw [upd_ne (ne_of_none h h0)]; exact e.keep' p o h n⟩
theorem Ext.notIn {D0 : Addr} {u : HO} (e : Ext A H A' H') (hd : H D0 = some u) (hn : D0 ∉ A) : H' D0 = some u ∧ D0 ∉ A' := by
  refine ⟨e.keep _ _ hd hn, fun z => ?_⟩
  obtain ⟨B, rfl, hB⟩ := e.pre
  rcases List.mem_append.mp z with z | z
  · exact hn z
  · rw [hB _ z] at hd; cases hd
theorem SRel.join {D0 : Addr} {o0 : O} (R : SRel (G.wb (D0 :: G.blk)) A H S) (h0 : D0 ∉ G.blk) (ho : ORep (G.wb (D0 :: G.blk)) A H D0 o0) : SRel G (A ++ [D0]) H (S ++ [o0]) := by
  have hn : D0 ∉ A := (R.shut D0 List.mem_cons_self).2
  have ix : ∀ {m : Nat} {a : Addr}, A[m]? = some a → (A ++ [D0])[m]? = some a := fun {m a} h => by
    rw [List.getElem?_append_left]
    · exact h
    · rcases Nat.lt_or_ge m A.length with q | q
      · exact q
      · rw [List.getElem?_eq_none q] at h; cases h
  have out : ∀ {a : Addr}, a ∉ A → a ∉ D0 :: G.blk → a ∉ A ++ [D0] := fun {a} h1 h2 => by
    simp only [List.mem_append, List.mem_singleton, not_or]
    exact ⟨h1, fun e => h2 (by rw [e]; exact List.mem_cons_self)⟩
  have mor : ∀ {a : Addr}, a ∉ D0 :: G.blk → a ∉ G.blk := fun {a} m z => m (List.mem_cons_of_mem _ z)
  have rp : ∀ {d : D} {v : V}, Rep (G.wb (D0 :: G.blk)) A H d v → Rep G (A ++ [D0]) H d v := fun {d v} r =>
    Rep.rec (G := G.wb (D0 :: G.blk)) (motive_1 := fun d v _ => Rep G (A ++ [D0]) H d v) (motive_2 := fun ds vs _ => RepL G (A ++ [D0]) H ds vs) .non .bl .int .str .ty (fun h => .own h) (fun h => .exn h) (fun h => .ref (ix h)) (fun h _ ih => .tup h ih) (fun h n m _ ih => .con h (out n m) (mor m) ih) (fun h _ ih => .scr h ih) (fun h n m _ ih => .cdic h (out n m) (mor m) ih) (fun h n m _ ih => .cdit h (out n m) (mor m) ih) (fun g h n m _ ih => .cins g h (out n m) (mor m) ih) .nil (fun _ _ i1 i2 => .cons i1 i2) r
  have rpl : ∀ {ds : List D} {vs : List V}, RepL (G.wb (D0 :: G.blk)) A H ds vs → RepL G (A ++ [D0]) H ds vs := by
    intro ds
    induction ds with
    | nil => intro vs h; cases h; exact .nil
    | cons d ds ih => intro vs h; cases h with | cons a b => exact .cons (rp a) (ih b)
  have rpo : ∀ {a : Addr} {o : O}, ORep (G.wb (D0 :: G.blk)) A H a o → ORep G (A ++ [D0]) H a o := by
    intro a o q
    cases o with
    | lst xs => obtain ⟨vs, e, p⟩ := q; exact ⟨vs, e, rpl p⟩
    | dic kvs => obtain ⟨vs, e, k, p⟩ := q; exact ⟨vs, e, k, rpl p⟩
    | ins c fs => obtain ⟨C, dx, vs, g, e, k, p⟩ := q; exact ⟨C, dx, vs, g, e, k, rpl p⟩
    | dit kvs => obtain ⟨vs, e, k, p⟩ := q; exact ⟨vs, e, k, rpl p⟩
    | lck kvs => obtain ⟨ob, vs, e, k, p⟩ := q; exact ⟨ob, vs, e, k, rpl p⟩
  refine ⟨by simp [R.len], ?_, fun b hb => ⟨(R.shut b (List.mem_cons_of_mem _ hb)).1, ?_⟩, fun m o a h1 h2 => ?_⟩
  · rw [List.nodup_append]
    refine ⟨R.nd, by simp, fun x hx y hy => ?_⟩
    rw [List.mem_singleton.mp hy]
    rintro rfl
    exact hn hx
  · simp only [List.mem_append, List.mem_singleton, not_or]
    exact ⟨(R.shut b (List.mem_cons_of_mem _ hb)).2, fun e => h0 (by rw [← e]; exact hb)⟩
  · rcases Nat.lt_or_ge m S.length with hm | hm
    · rw [List.getElem?_append_left hm] at h1
      rw [List.getElem?_append_left (by rw [R.len]; exact hm)] at h2
      exact rpo (R.obj m o a h1 h2)
    · rw [List.getElem?_append_right hm] at h1
      rw [List.getElem?_append_right (by rw [R.len]; exact hm), R.len] at h2
      have h3 : m - S.length = 0 := by
        rcases Nat.eq_zero_or_pos (m - S.length) with z | z
        · exact z
        · rw [List.getElem?_eq_none (show [o0].length ≤ m - S.length from z)] at h1; cases h1
      rw [h3] at h1 h2
      simp at h1 h2
      subst h1 h2
      exact rpo ho
theorem Ext.join {D0 : Addr} (e : Ext A1 H1 A H) (h0 : H1 D0 = none) : Ext A1 H1 (A ++ [D0]) H := by
  obtain ⟨B, rfl, hB⟩ := e.pre
  refine ⟨⟨B ++ [D0], by simp, fun b hb => ?_⟩, e.keep'⟩
  rcases List.mem_append.mp hb with hb | hb
  · exact hB b hb
  · rw [List.mem_singleton.mp hb]; exact h0
end
end MP

namespace MP
open PySem L2
abbrev E0' : XK := fun _ _ _ => False
section
variable {G : Gx} {X : Cx} {E : XK} {Γ : Cal} {n : Nat}

abbrev BlkIx := Shared × Hp × Addr × List (Str × Addr) × List Addr
abbrev blkOf (X : Cx) (scope : Scope) (p : BlkIx) : Cx := X.blk p.1 p.2.1 scope (compEnvC scope p.2.2.2.1 p.2.2.1 X.env) p.2.2.2.2
theorem canSet_blk {scope : Scope} {p : BlkIx} : CanSet (blkOf X scope p) scope := by
  intro x h
  have sc : (blkOf X scope p).env.scope = relS scope X.env.scope := rfl
  have fn : (blkOf X scope p).fn x = (scope.names.lookup x == some .cell) := rfl
  rcases h with h | h
  · have z := lookup_relS_keep (sc := X.env.scope) (by simp) h
    exact ⟨.inl (by rw [sc]; exact z), .inr (by rw [sc]; exact z)⟩
  · have z := lookup_relS_keep (sc := X.env.scope) (by simp) h
    exact ⟨.inr (by rw [sc]; exact z), .inl (by rw [fn, h]; rfl)⟩

def SndE (G : Gx) (E : XK) (Γ : Cal) (c : C) (t : TE) : Prop := ∀ r s A H S Q, ERel G A H r s → SRel G A H S → FinE G A H (evE Γ c r S) Q E → t s H Q
def SndB (G : Gx) (E : XK) (Γ : Cal) (c : C) (t : TT) : Prop := ∀ r s A H S Q, ERel G A H r s → SRel G A H S → FinB G A H (evE Γ c r S) Q E → t s H Q
def turnD (Γ : Cal) (tg : Tg) (cond elt : C) (r : Env) (v : D) (S : Store) : Res (Option D) :=
  match tg.set v (wipeD r tg.slots) with
  | some r' => (condD (evE Γ cond r' S) (evE Γ elt r')).noX
  | none => .bad
theorem evE_lc {qq : Bool} {tg : Tg} {it : It} {x cond elt : C} {r : Env} {S : Store} : evE Γ (.lc qq tg it x cond elt) r S = (evI Γ it x r S).bind fun src S =>
    if src.len S ≤ lim then (lcL src (turnD Γ tg cond elt r) (src.len S) 0 [] S).bind fun ys S => newL qq ys S else .bad := by
  simp only [evE, evI]
  cases evA Γ x r S with
  | ok ds S1 =>
    dsimp only [Res.bind]
    cases srcOf it ds S1 with
    | none => rfl
    | some src => rfl
  | exc c S1 => rfl
  | bad => rfl
theorem turnD_ok {tg : Tg} {cond elt : C} {r : Env} {v : D} {S S2 : Store} {y : Option D} (h : turnD Γ tg cond elt r v S = .ok y S2) :
    ∃ r', tg.set v (wipeD r tg.slots) = some r' ∧ ((∃ S1 z, evE Γ cond r' S = .ok (.bl true) S1 ∧ evE Γ elt r' S1 = .ok z S2 ∧ y = some z) ∨ (evE Γ cond r' S = .ok (.bl false) S2 ∧ y = none)) := by
  unfold turnD at h
  split at h
  · rename_i r' e
    refine ⟨r', e, ?_⟩
    unfold condD at h
    cases q : evE Γ cond r' S with
    | ok d S1 =>
      rw [q] at h
      dsimp only [Res.bind] at h
      cases d with
      | bl b =>
        cases b with
        | true =>
          dsimp only [truD] at h
          cases q2 : evE Γ elt r' S1 with
          | ok z S3 =>
            rw [q2] at h
            simp only [Res.bind, Res.noX, Res.ok.injEq] at h
            obtain ⟨rfl, rfl⟩ := h
            exact .inl ⟨S1, z, rfl, q2, rfl⟩
          | exc c S3 => rw [q2] at h; cases h
          | bad => rw [q2] at h; cases h
        | false =>
          simp only [truD, Res.noX, Res.ok.injEq] at h
          obtain ⟨rfl, rfl⟩ := h
          exact .inr ⟨rfl, rfl⟩
      | _ => cases h
    | exc c S1 => rw [q] at h; cases h
    | bad => rw [q] at h; cases h
  · cases h
theorem turnD_noexc {tg : Tg} {cond elt : C} {r : Env} {v : D} {S : Store} {c : Str} {S2 : Store} : turnD Γ tg cond elt r v S ≠ .exc c S2 := by
  unfold turnD
  split
  · unfold Res.noX
    split <;> simp
  · simp
theorem lc_core' {qq : Bool} {tg : Tg} {cond elt : C} {tt : TT} {te : TE} {r : Env} {s : St} {A1 : List Addr} {H1 : Hp} {S0 : Store} {J : L2.It} {src : Src} {Q : VK} {D0 : Addr} (hT : ∀ b, SndB (G.wb b) E0' Γ cond tt) (hE : ∀ b, SndE (G.wb b) E0' Γ elt te)
    (R0 : SRel G A1 H1 S0) (er : ERel G A1 H1 r s) (hJ : JRep G A1 H1 src J) (hD : H1 D0 = none) (N : Nat) (hN : N ≤ lim)
    (h : FinE G A1 H1 ((lcL src (turnD Γ tg cond elt r) N 0 [] S0).bind fun ys S => newL qq ys S) Q E) :
    ∃ W : Nat → Nat → Hp → Prop, (∃ m, W 0 m (upd H1 D0 (.lst []))) ∧ ∀ i m H, W i m H →
      (J.stop i H ∧ Q (.ref D0) H) ∨ (J.go i H ∧ ∃ Nx : Hp → Prop, (∀ H', Nx H' → ∃ m', m' < m ∧ W (i + 1) m' H') ∧ ∀ x H', J.yld i H x H' → tg.rd G.K x (wipe s tg.slots) H' fun σ2 H2 => wipe σ2 tg.slots = wipe s tg.slots ∧ tt σ2 H2 fun b H3 =>
        if b = true then te σ2 H3 fun y H4 => ∃ acc, H4 D0 = some (.lst acc) ∧ acc.length < sizeLine ∧ Nx (upd H4 D0 (.lst (acc ++ [y]))) else Nx H3) := by
  have hb : ∀ a ∈ D0 :: G.blk, a ∈ G.blk ∨ H1 a = none := fun a ha => (List.mem_cons.mp ha).elim (fun e => .inr (by rw [e]; exact hD)) .inl
  have hin : D0 ∈ (G.wb (D0 :: G.blk)).blk := List.mem_cons_self
  have up : ∀ a ∈ G.blk, a ∈ D0 :: G.blk := fun a h => List.mem_cons_of_mem _ h
  have n0 : D0 ∉ G.blk := R0.notShut hD
  refine ⟨fun i m H => i + m = N ∧ ∃ A' acc vs S', Ext A1 H1 A' H ∧ SRel (G.wb (D0 :: G.blk)) A' H S' ∧ H D0 = some (.lst vs) ∧ RepL (G.wb (D0 :: G.blk)) A' H acc vs ∧ acc.length ≤ i ∧ FinE G A1 H1 ((lcL src (turnD Γ tg cond elt r) m i acc S').bind fun ys S => newL qq ys S) Q E,
    ⟨N, by omega, A1, [], [], S0, (Ext.refl).side hD, R0.laidShut hD, upd_same, .nil, Nat.zero_le _, h⟩, ?_⟩
  rintro i m H ⟨hm, A', acc, vs, S', ex, R', hd, ra, hl, fin⟩
  have nD := (R'.shut D0 hin).2
  obtain ⟨jstop, jgo⟩ := hJ (D0 :: G.blk) hb i A' H S' ex R'
  have stop : src.at i S' = some none → lcL src (turnD Γ tg cond elt r) m i acc S' = .ok acc S' → J.stop i H ∧ Q (.ref D0) H := by
    intro q e
    rw [e] at fin
    refine ⟨jstop q, ?_⟩
    cases qq with
    | false => exact fin (A' ++ [D0]) H (.ref D0) (ex.join hD) (R'.join n0 ⟨vs, hd, ra⟩) (.ref (by rw [← R'.len]; simp))
    | true => exact fin A' H (.ref D0) ex (R'.bw up) (.con hd nD n0 (ra.bw up))
  cases q : src.at i S' with
  | none => cases m <;> (simp only [lcL, q] at fin; exact fin.elim)
  | some o =>
    cases o with
    | none => exact .inl (stop q (by cases m <;> simp only [lcL, q]))
    | some x =>
      cases m with
      | zero => simp only [lcL, q] at fin; exact fin.elim
      | succ m =>
        simp only [lcL, q] at fin
        obtain ⟨go, yld⟩ := jgo x q
        cases q2 : turnD Γ tg cond elt r x S' with
        | bad => rw [q2] at fin; exact fin.elim
        | exc c S2 => exact absurd q2 turnD_noexc
        | ok yo S2 =>
          rw [q2] at fin
          dsimp only [Res.bind] at fin
          obtain ⟨r', e1, e2⟩ := turnD_ok q2
          refine .inr ⟨go, fun H' => ∃ A'' acc' vs', Ext A1 H1 A'' H' ∧ SRel (G.wb (D0 :: G.blk)) A'' H' S2 ∧ H' D0 = some (.lst vs') ∧ RepL (G.wb (D0 :: G.blk)) A'' H' acc' vs' ∧ acc'.length ≤ i + 1 ∧ FinE G A1 H1 ((lcL src (turnD Γ tg cond elt r) m (i + 1) acc' S2).bind fun ys S => newL qq ys S) Q E, ?_, ?_⟩
          · rintro H' ⟨A'', acc', vs', z1, z2, z4, z5, z6, z7⟩
            exact ⟨m, by omega, by omega, A'', acc', vs', S2, z1, z2, z4, z5, z6, z7⟩
          · intro v H' y
            obtain ⟨x1, R1, p1⟩ := yld v H' y
            have ex1 : Ext A1 H1 A' H' := ex.trans R0 R' x1
            have er1 : ERel (G.wb (D0 :: G.blk)) A' H' (wipeD r tg.slots) (wipe s tg.slots) := ((er.wb hb).ext R0 ex1).wipe _
            obtain ⟨hd1, nD1⟩ := x1.notIn hd nD
            refine tg_ok (G := G.wb (D0 :: G.blk)) p1 er1 e1 fun s2 er2 hw => ⟨?_, ?_⟩
            · rw [hw tg.slots fun _ z => z]; exact wipe_wipe
            · refine hT _ r' s2 A' H' S' _ er2 R1 ?_
              unfold FinB
              rcases e2 with ⟨S3, z, q3, q4, rfl⟩ | ⟨q3, rfl⟩
              · rw [q3]
                intro A3 H3 b x3 R3 hb
                cases hb
                rw [if_pos rfl]
                refine hE _ r' s2 A3 H3 S3 _ (er2.ext R1 x3) R3 ?_
                rw [q4]
                intro A4 H4 u x4 R4 p4
                have x14 : Ext A' H' A4 H4 := x3.trans R1 R3 x4
                obtain ⟨hd4, nD4⟩ := x14.notIn hd1 nD1
                have ra4 := (ra.ext R' x1).ext R1 x14
                refine ⟨vs, hd4, ?_, A4, acc ++ [z], vs ++ [u], (ex1.trans R0 R1 x14).side hD, R4.side (u := .lst vs) trivial hd4 hin, upd_same, (ra4.append (.cons p4 .nil)).side (u := .lst vs) trivial hd4 hin, by simp; omega, fin⟩
                rw [← lim_eq, ← ra.length]
                omega
              · rw [q3]
                intro A3 H3 b x3 R3 hb
                cases hb
                rw [if_neg Bool.false_ne_true]
                obtain ⟨hd3, nD3⟩ := x3.notIn hd1 nD1
                exact ⟨A3, acc, vs, ex1.trans R0 R1 x3, R3, hd3, (ra.ext R' x1).ext R1 x3, by omega, fin⟩
theorem sndE_all {ι : Type} {c : C} {ts : ι → TE} {G : Gx} {E : XK} {Γ : Cal} (h : ∀ p, SndE G E Γ c (ts p)) : SndE G E Γ c fun σ H Q => ∀ p, ts p σ H Q := fun r s A H S Q er R f p => h p r s A H S Q er R f
theorem sndB_all {ι : Type} {c : C} {ts : ι → TT} {G : Gx} {E : XK} {Γ : Cal} (h : ∀ p, SndB G E Γ c (ts p)) : SndB G E Γ c fun σ H Q => ∀ p, ts p σ H Q := fun r s A H S Q er R f p => h p r s A H S Q er R f
theorem se_lc {qq : Bool} {tg : Tg} {it : It} {x cond elt : C} {etg eiter eelt : Expr} {ifs : List Expr} {scope : Scope} {own : List (Str × Nat)} {pos : Pos} (xo : Xok G X n) (hc : X.calm = true) (hi : SI G X E Γ it x etg eiter) (ok : BlkOk X.N X.env.scope scope own)
    (hown : own.map (·.2) = tg.slots) (htg : tg.ok X.N scope etg = true) (hT : ∀ (b : List Addr) (p : BlkIx), ∃ t, PTs (blkOf X scope p) ifs t ∧ SndB (G.wb b) E0' Γ cond t) (hE : ∀ (b : List Addr) (p : BlkIx), SE (G.wb b) (blkOf X scope p) E0' Γ elt eelt)
    (hs : ∀ x, foldedSetIterable eiter X.env x = pure x) : SE G X E Γ (.lc qq tg it x cond elt) (.ListComp eelt [⟨etg, eiter, ifs, 0⟩] scope pos) := by
  obtain ⟨wi, pi, qi⟩ := hi
  obtain ⟨tt, pt, qt⟩ := anyT (Z := fun b => SndB (G.wb b) E0' Γ cond) (fun b ts h => sndB_all h) (fun b t t' h k r s A H S Q er R f => k _ _ _ (h r s A H S Q er R f)) hT
  obtain ⟨te, pe, qe⟩ := anyE (Z := fun b => SndE (G.wb b) E0' Γ elt) (fun b ts h => sndE_all h) (fun b t t' h k r s A H S Q er R f => k _ _ _ (h r s A H S Q er R f)) hE
  have hg : ∀ p : BlkIx, PG (blkOf X scope p) etg (tg.rd X.K) := fun p => pg_tg (X := blkOf X scope p) hc xo.nd canSet_blk htg
  refine ⟨_, pe_lc (g := tg.rd X.K) hc xo.nd pi ok (fun s H C cl fp => hg (s, H, C, cl, fp)) (fun s H C cl fp => pt (s, H, C, cl, fp)) (fun s H C cl fp => pe (s, H, C, cl, fp)) hs, fun r s A H S Q er R h => ?_⟩
  rw [evE_lc] at h
  refine qi r s A H S _ er R (h.bind R fun src S1 A1 H1 J _ e1 R1 hJ h1 => ?_)
  intro D0 hD
  rw [hown, xo.K]
  by_cases hN : src.len S1 ≤ lim
  · rw [if_pos hN] at h1
    exact lc_core' qt qe R1 (er.ext R e1) hJ hD _ hN h1
  · rw [if_neg hN] at h1
    exact h1.elim
end
end MP

namespace MP
open PySem L2
section
variable {G : Gx} {X : Cx} {E : XK} {Γ : Cal} {n : Nat} {A A1 A' : List Addr} {H H1 H' : Hp} {S S1 S' : Store}
def MthOk (G : Gx) (r : V → List V → Hp → VK → Prop) (g : D → List D → Store → Res D) : Prop :=
  ∀ A H S d ds v vs Q E, SRel G A H S → Rep G A H d v → RepL G A H ds vs → FinE G A H (g d ds S) Q E → r v vs H Q
theorem cell_rep {d : D} {v : V} {m : Nat} {xs : List D} (R : SRel G A H S) (h : Rep G A H d v) (e : cellD S d = some (m, xs)) : d = .ref m ∧ S[m]? = some (.lst xs) ∧ ∃ a vs, v = .ref a ∧ A[m]? = some a ∧ H a = some (.lst vs) ∧ RepL G A H xs vs := by
  unfold cellD at e
  split at e
  · split at e
    · rename_i q
      cases e
      exact ⟨rfl, q, rep_lst R h q⟩
    · cases e
  · cases e
theorem mth_append : ∃ r, MtR X "list.append" r ∧ MthOk G r (mthD .append) := by
  refine ⟨_, mt_append, fun A H S d ds v vs Q E R hd hs h => ?_⟩
  replace h : FinE G A H (appendD d ds S) Q E := h
  unfold appendD at h
  split at h
  · rename_i m xs x q
    obtain ⟨w, rfl, hw⟩ := repL1 hs
    split at h
    · rename_i hl
      obtain ⟨_, _, a, us, rfl, h0, h1, h2⟩ := cell_rep R hd q
      refine ⟨a, us, w, rfl, rfl, h1, by rw [← h2.length, ← lim_eq]; exact hl, ?_⟩
      exact h A _ .non (ext_put h0 h1 rfl) (R.put h0 h1 rfl ⟨us ++ [w], upd_same, (h2.append (.cons hw .nil)).ext R (ext_put h0 h1 rfl)⟩) .non
    · exact h.elim
  · exact h.elim
theorem mth_extend : ∃ r, MtR X "list.extend" r ∧ MthOk G r (mthD .extend) := by
  refine ⟨_, mt_extend, fun A H S d ds v vs Q E R hd hs h => ?_⟩
  replace h : FinE G A H (extendD d ds S) Q E := h
  unfold extendD at h
  split at h
  · rename_i m xs k q
    obtain ⟨w, rfl, hw⟩ := repL1 hs
    split at h
    · rename_i ys q2
      split at h
      · rename_i hl
        obtain ⟨_, _, a, us, rfl, h0, h1, h2⟩ := cell_rep R hd q
        obtain ⟨b, ws, rfl, h4, h5⟩ := plOf_rep R hw q2
        refine ⟨a, b, us, ws, rfl, rfl, h1, h4, by rw [← h2.length, ← h5.length, ← lim_eq]; exact hl, ?_⟩
        exact h A _ .non (ext_put h0 h1 rfl) (R.put h0 h1 rfl ⟨us ++ ws, upd_same, (h2.append h5).ext R (ext_put h0 h1 rfl)⟩) .non
      · exact h.elim
    · exact h.elim
  · exact h.elim
theorem mth_index (xo : Xok G X n) : ∃ r, MtR X "list.index" r ∧ MthOk G r (mthD .index) := by
  refine ⟨_, mt_index, fun A H S d ds v vs Q E R hd hs h => ?_⟩
  replace h : FinE G A H (indexD d ds S) Q E := h
  unfold indexD at h
  split at h
  · rename_i xs y q
    obtain ⟨w, rfl, hw⟩ := repL1 hs
    split at h
    · rename_i hf
      rw [Bool.and_eq_true] at hf
      obtain ⟨a, us, rfl, h1, h2⟩ := lstOf_rep R hd q
      cases q2 : xs.findIdx? fun z => eqF z y with
      | none => rw [q2] at h; exact h.elim
      | some j =>
        rw [q2] at h
        rw [List.findIdx?_eq_some_iff_getElem] at q2
        obtain ⟨hj, e1, e2⟩ := q2
        obtain ⟨z, z1, z2⟩ := h2.get (show xs[j]? = some xs[j] from List.getElem?_eq_getElem hj)
        have fl : ∀ (i : Nat) (hi : i < xs.length), isFlat xs[i] = true := fun i hi => List.all_eq_true.mp hf.2 _ (List.getElem_mem hi)
        refine ⟨a, us, w, j, z, rfl, rfl, by rw [xo.K]; exact h1, flatV_rep hw hf.1, flatV_all h2 hf.2, z1, by rw [eqV_rep z2 hw (fl j hj) hf.1]; exact e1, fun m z' hm hz => ?_, h.here R (.int _)⟩
        have hml : m < xs.length := by omega
        obtain ⟨u, u1, u2⟩ := h2.get (show xs[m]? = some xs[m] from List.getElem?_eq_getElem hml)
        rw [hz] at u1
        cases u1
        rw [eqV_rep u2 hw (fl m hml) hf.1]
        simpa using e2 m hm
    · exact h.elim
  · exact h.elim
def rCntF (K : PySem.W.Frag) : V → List V → Hp → VK → Prop := fun x xs H Q => ∃ (p : Addr) (ys : List V) (y : V), x = .ref p ∧ xs = [y] ∧ SqL K H p ys ∧ flatV y = true ∧ ys.all flatV = true ∧ Q (.int (ys.countP fun z => eqV z y : Nat)) H
theorem countU {y : V} : ∀ {ys : List V} {us : List Value}, Vals ys us → ys.all flatV = true → us.countP (eqU y) = ys.countP fun z => eqV z y
  | _, _, .nil, _ => rfl
  | _, _, .cons r t, f => by
    rw [List.all_cons, Bool.and_eq_true] at f
    rw [List.countP_cons, List.countP_cons, countU t f.2, eqU_of r f.1]
theorem mt_cntF : MtR X "list.count" (rCntF X.K) := by
  intro pins s σ H x xs v us Q I rx rxs h
  obtain ⟨p, ys, y, rfl, rfl, hs, fy, fys, q⟩ := h
  cases rx
  cases rxs with
  | cons ry rt =>
    rename_i uy ut
    cases rt
    obtain ⟨its, rv, ⟨⟨cls, dd, data, sl⟩, n, ho, hc, hdn, hd⟩, hlen⟩ := I.list hs
    simp only at hc hd
    subst hc hd
    refine call_meets PySem.F.slot_list_count ⟨_, ho, rfl⟩ PySem.F.entry_list_count (PySem.F.args_list_count_2 _ _)
      (SeqAt.list_countAt p its.toArray n dd sl uy (eqU y)) ⟨ho, fun u' hu' => mem_eqAt ry fy rv fys u' (by simpa using hu'), ?_⟩
    refine ⟨.int (ys.countP fun z => eqV z y : Nat), H, I.tok _, ⟨s.toks, ?_⟩, q⟩
    show Value.int ((its.toArray.toList.countP (eqU y) : Nat) : Int) s.toks = _
    rw [show its.toArray.toList.countP (eqU y) = ys.countP fun z => eqV z y from countU rv fys]
theorem cnt_rep {y : D} {w : V} (hw : Rep G A H y w) (hy : isFlat y = true) : ∀ {ds : List D} {vs : List V}, RepL G A H ds vs → ds.all isFlat = true → vs.countP (fun z => eqV z w) = ds.countP fun z => eqF z y
  | _, _, .nil, _ => rfl
  | _, _, .cons r t, h => by
    rw [List.all_cons, Bool.and_eq_true] at h
    rw [List.countP_cons, List.countP_cons, cnt_rep hw hy t h.2, eqV_rep r hw h.1 hy]
theorem mth_count (xo : Xok G X n) : ∃ r, MtR X "list.count" r ∧ MthOk G r (mthD .count) := by
  refine ⟨_, mt_cntF, fun A H S d ds v vs Q E R hd hs h => ?_⟩
  replace h : FinE G A H (countD d ds S) Q E := h
  unfold countD at h
  split at h
  · rename_i xs y q
    obtain ⟨w, rfl, hw⟩ := repL1 hs
    split at h
    · rename_i hf
      rw [Bool.and_eq_true] at hf
      obtain ⟨a, us, rfl, h1, h2⟩ := lstOf_rep R hd q
      refine ⟨a, us, w, rfl, rfl, by rw [xo.K]; exact h1, flatV_rep hw hf.1, flatV_all h2 hf.2, ?_⟩
      rw [cnt_rep hw hf.1 h2 hf.2]
      exact h.here R (.int _)
    · exact h.elim
  · exact h.elim
theorem RepL.erase : ∀ {ds : List D} {vs : List V} (k : Nat), RepL G A H ds vs → RepL G A H (ds.eraseIdx k) (vs.eraseIdx k)
  | _, _, _, .nil => .nil
  | _, _, 0, .cons _ t => t
  | _, _, k + 1, .cons r t => .cons r (RepL.erase k t)
theorem mt_or {id : String} {r r' : V → List V → Hp → VK → Prop} (h : MtR X id r) (h' : MtR X id r') : MtR X id (fun x xs H Q => r x xs H Q ∨ r' x xs H Q) := fun pins s σ H x xs v us Q I rx rxs q => q.elim (h pins s σ H x xs v us Q I rx rxs) (h' pins s σ H x xs v us Q I rx rxs)
theorem mth_pop : ∃ r, MtR X "list.pop" r ∧ MthOk G r (mthD .pop) := by
  refine ⟨_, mt_or mt_pop mt_popAt, fun A H S d ds v vs Q E R hd hs h => ?_⟩
  replace h : FinE G A H (popD d ds S) Q E := h
  unfold popD at h
  split at h
  · rename_i m xs q
    cases hs
    split at h
    · rename_i y q2
      obtain ⟨_, _, a, us, rfl, h0, h1, h2⟩ := cell_rep R hd q
      obtain ⟨w, w1, w2⟩ := h2.get q2
      refine .inl ⟨a, us, w, rfl, rfl, h1, by rw [← h2.length]; exact w1, ?_⟩
      have dl : RepL G A H xs.dropLast us.dropLast := by
        rw [List.dropLast_eq_take, List.dropLast_eq_take, h2.length]; exact h2.take _
      exact h A _ w (ext_put h0 h1 rfl) (R.put h0 h1 rfl ⟨us.dropLast, upd_same, dl.ext R (ext_put h0 h1 rfl)⟩) (w2.ext R (ext_put h0 h1 rfl))
    · exact h.elim
  · rename_i m xs i q
    obtain ⟨w, rfl, hw⟩ := repL1 hs
    split at h
    · rename_i hb
      split at h
      · rename_i k q1
        split at h
        · rename_i y q2
          obtain ⟨_, _, a, us, rfl, h0, h1, h2⟩ := cell_rep R hd q
          obtain ⟨z, w1, w2⟩ := h2.get q2
          unfold big at hb
          refine .inr ⟨a, us, i, k, z, rfl, by rw [rep_int hw], h1, by omega, by omega, by rw [← h2.length]; exact q1, w1, ?_⟩
          exact h A _ z (ext_put h0 h1 rfl) (R.put h0 h1 rfl ⟨us.eraseIdx k, upd_same, (h2.erase k).ext R (ext_put h0 h1 rfl)⟩) (w2.ext R (ext_put h0 h1 rfl))
        · exact h.elim
      · exact h.elim
    · exact h.elim
  · exact h.elim
theorem mth_insert : ∃ r, MtR X "list.insert" r ∧ MthOk G r (mthD .insert) := by
  refine ⟨_, mt_insert, fun A H S d ds v vs Q E R hd hs h => ?_⟩
  replace h : FinE G A H (insertD d ds S) Q E := h
  unfold insertD at h
  split at h
  · rename_i m xs i y q
    obtain ⟨w, u, rfl, hw, hu⟩ := repL2 hs
    split at h
    · rename_i hb
      obtain ⟨_, _, a, us, rfl, h0, h1, h2⟩ := cell_rep R hd q
      unfold big at hb
      refine ⟨a, us, i, u, rfl, by rw [rep_int hw], h1, by rw [← h2.length, ← lim_eq]; exact hb.1, hb.2.1, by omega, ?_⟩
      exact h A _ .non (ext_put h0 h1 rfl) (R.put h0 h1 rfl ⟨_, upd_same, (((h2.take _).append (.cons hu .nil)).append (h2.drop _)).ext R (ext_put h0 h1 rfl)⟩) .non
    · exact h.elim
  · exact h.elim
theorem rep_intsL : ∀ (ns : List Int), RepL G A H (ns.map D.int) (ns.map V.int)
  | [] => .nil
  | n :: ns => .cons (.int n) (rep_intsL ns)
theorem mth_remove : ∃ r, MtR X "list.remove" r ∧ MthOk G r (mthD .remove) := by
  refine ⟨_, mt_remove, fun A H S d ds v vs Q E R hd hs h => ?_⟩
  replace h : FinE G A H (removeD d ds S) Q E := h
  unfold removeD at h
  split at h
  · rename_i m xs k q
    obtain ⟨w, rfl, hw⟩ := repL1 hs
    split at h
    · rename_i ns q1
      split at h
      · rename_i j q2
        obtain ⟨_, _, a, us, rfl, h0, h1, h2⟩ := cell_rep R hd q
        rw [intsOf_rep h2 q1] at h1
        rw [List.findIdx?_eq_some_iff_getElem] at q2
        obtain ⟨hj, e1, e2⟩ := q2
        refine ⟨a, ns, k, j, rfl, by rw [rep_int hw], h1, ?_, fun i hi z => ?_, ?_⟩
        · rw [List.getElem?_eq_getElem hj, of_decide_eq_true e1]
        · have hil : i < ns.length := by omega
          rw [List.getElem?_eq_getElem hil] at z
          have := e2 i hi
          simp only [decide_eq_true_eq] at this
          exact this (Option.some.inj z)
        · exact h A _ .non (ext_put h0 h1 rfl) (R.put h0 h1 rfl ⟨_, upd_same, rep_intsL _⟩) .non
      · exact h.elim
    · exact h.elim
  · exact h.elim
theorem mth_clear : ∃ r, MtR X "list.clear" r ∧ MthOk G r (mthD .clear) := by
  refine ⟨_, mt_clear, fun A H S d ds v vs Q E R hd hs h => ?_⟩
  replace h : FinE G A H (clearD d ds S) Q E := h
  unfold clearD at h
  split at h
  · rename_i m xs q
    cases hs
    obtain ⟨_, _, a, us, rfl, h0, h1, h2⟩ := cell_rep R hd q
    exact ⟨a, us, rfl, rfl, h1, h A _ .non (ext_put h0 h1 rfl) (R.put h0 h1 rfl ⟨[], upd_same, .nil⟩) .non⟩
  · exact h.elim
theorem strsOf_rep : ∀ {xs : List D} {vs : List V} {ns : List Str}, RepL G A H xs vs → strsOf xs = some ns → vs = ns.map V.str
  | _, _, _, .nil, e => by simp [strsOf] at e; subst e; rfl
  | _, _, ns, .cons (d := d) r t, e => by
    cases d with
    | str i =>
      simp only [strsOf, Option.map_eq_some_iff] at e
      obtain ⟨ms, e1, rfl⟩ := e
      rw [rep_str r, strsOf_rep t e1]; rfl
    | _ => simp [strsOf] at e
theorem mth_join : ∃ r, MtR X "str.join" r ∧ MthOk G r (mthD .join) := by
  refine ⟨_, mt_join, fun A H S d ds v vs Q E R hd hs h => ?_⟩
  replace h : FinE G A H (joinD d ds S) Q E := h
  unfold joinD at h
  split at h
  · rename_i a k
    obtain ⟨w, rfl, hw⟩ := repL1 hs
    split at h
    · rename_i ys q
      split at h
      · rename_i hl
        obtain ⟨xs, q1, q2⟩ := Option.bind_eq_some_iff.mp q
        obtain ⟨b, us, rfl, h1, h2⟩ := plOf_rep R hw q1
        rw [strsOf_rep h2 q2] at h1
        refine ⟨a, b, ys, rep_str hd, rfl, .inl (.of h1), hl, ?_⟩
        rw [TL.join_eq]
        exact h.here R (.str _)
      · exact h.elim
    · exact h.elim
  · exact h.elim
def tyNm : Nat → String
  | 1 => "list"
  | 3 => "str"
  | _ => "dict"
theorem kind_tyV {x : D} {v : V} {k : Nat} (xo : Xok G X n) (R : SRel G A H S) (p : Rep G A H x v) (h : kindD x S = k) (h0 : k ≠ 0) (h2' : k ≠ 2) : tyV X.K (tyNm k) v H := by
  unfold kindD at h
  split at h
  · split at h
    · rename_i q
      subst h
      obtain ⟨a, vs, rfl, _, h1, h2⟩ := rep_lst R p q
      exact .inl ⟨rfl, vs, .of h1⟩
    · exact absurd h.symm h2'
    · exact absurd h.symm h2'
    · exact absurd h.symm h0
  · subst h
    cases p with
    | con h _ _ t => exact .inl ⟨rfl, _, .of h⟩
  · exact absurd h.symm h2'
  · subst h
    cases p with
    | str _ => exact rfl
  · exact absurd h.symm h0
theorem bm_ty (m : Bm) : m.ty ≠ 0 := by cases m <;> decide
theorem se_mth {m : Bm} {T : String} {name : Str} {id : String} {a as : C} {ea e : Expr} {es : List Expr} {apos cpos : Pos} {r : V → List V → Hp → VK → Prop} (xo : Xok G X n) (hk2 : m.ty ≠ 2) (hT : tyNm m.ty = T) (pa : PlainAttrs T) (slot : Slot T name id)
    (hty : typeOf (.builtin id) = pure (.type "method_descriptor")) (hm : MtR X id r) (hk : MthOk G r (mthD m)) (ha : SE G X E Γ a ea) (hs : SA G X E Γ as (e :: es)) (hbase : attributeBase ea name X.env (eval ea X.env) = eval ea X.env)
    (hfew : ((backTo cpos (starEach (e :: es) X.env)).all (fun x => !x.1) && (backToKw cpos (keywordEach [] X.env)).all (fun x => x.1.isSome)
      && decide ((e :: es).length + ([] : List Keyword).length + (if ([] : List Keyword).isEmpty then 0 else 1) < 30)) = true)
    (hline : (apos.endLine == cpos.line) = true) (hst : starEach (e :: es) X.env = (false, eval e X.env) :: starEach es X.env) (hpl : (backTo cpos (starEach es X.env)).any (·.1) = false) :
    SE G X E Γ (.mth m a as) (.Call (.Attribute ea name apos) (e :: es) [] cpos) := by
  obtain ⟨ta, pta, qa⟩ := ha
  obtain ⟨ts, ps, qs⟩ := hs
  refine ⟨_, pe_bm pa slot hty hm pta ps hbase hfew hline hst hpl, fun r s A H S Q er R h => ?_⟩
  simp only [evE] at h
  refine qa r s A H S _ er R (h.bind R fun x S1 A1 H1 v _ e1 R1 p1 h1 => ?_)
  split at h1
  · rename_i hq
    have hq' : kindD x S1 = m.ty := (eq_of_beq hq).symm
    refine ⟨by rw [← hT]; exact kind_tyV xo R1 p1 hq' (bm_ty m) hk2, ?_⟩
    refine qs r s A1 H1 S1 _ (er.ext R e1) R1 (h1.bind R1 fun ds S2 A2 H2 vs _ e2 R2 p2 h2 => ?_)
    exact hk A2 H2 S2 x ds v vs Q E R2 (p1.ext R1 e2) p2 h2
  · exact h1.elim

theorem se_mth0 {m : Bm} {T : String} {name : Str} {id : String} {a : C} {ea : Expr} {apos cpos : Pos} {r : V → List V → Hp → VK → Prop} (xo : Xok G X n) (hk2 : m.ty ≠ 2) (hT : tyNm m.ty = T) (pa : PlainAttrs T) (slot : Slot T name id)
    (hty : typeOf (.builtin id) = pure (.type "method_descriptor")) (hm : MtR X id r) (hk : MthOk G r (mthD m)) (ha : SE G X E Γ a ea) (hbase : attributeBase ea name X.env (eval ea X.env) = eval ea X.env) (hline : (apos.endLine == cpos.line) = true) :
    SE G X E Γ (.mth m a .nil) (.Call (.Attribute ea name apos) [] [] cpos) := by
  obtain ⟨ta, pta, qa⟩ := ha
  refine ⟨_, pe_bm0 pa slot hty hm pta hbase hline, fun r s A H S Q er R h => ?_⟩
  simp only [evE, evA] at h
  refine qa r s A H S _ er R (h.bind R fun x S1 A1 H1 v _ e1 R1 p1 h1 => ?_)
  split at h1
  · rename_i hq
    have hq' : kindD x S1 = m.ty := (eq_of_beq hq).symm
    exact ⟨by rw [← hT]; exact kind_tyV xo R1 p1 hq' (bm_ty m) hk2, hk A1 H1 S1 x [] v [] Q E R1 p1 .nil h1⟩
  · exact h1.elim
theorem kind_isD {x : D} {v : V} (R : SRel G A H S) (p : Rep G A H x v) (h : kindD x S = 2) : ∃ a, v = .ref a ∧ L2.IsD H a := by
  unfold kindD at h
  split at h
  · split at h
    · cases h
    · rename_i q
      obtain ⟨a, vs, rfl, _, h1, h2, h3⟩ := rep_dic R p q
      exact ⟨a, rfl, .inl ⟨vs, .inl h1⟩⟩
    · rename_i n kvs q
      obtain ⟨a, rfl, h1⟩ := rep_ref p
      obtain ⟨ob, vs, h2, h3, h4⟩ := R.obj _ _ a q h1
      exact ⟨a, rfl, .inl ⟨vs, .inr ⟨ob, h2⟩⟩⟩
    · cases h
  · cases h
  · cases p with
    | cdic h _ _ t => exact ⟨_, rfl, .inl ⟨_, h⟩⟩
  · cases h
  · cases h
theorem get_rep {x y : D} {v w : V} {kvs : List (Key × D)} {k : Key} (R : SRel G A H S) (p : Rep G A H x v) (py : Rep G A H y w) (e : dictOf S x = some kvs) (ek : keyOf y = some k) : ∃ a o, v = .ref a ∧ DGet H a w o ∧ ∀ d z, Rep G A H d z → Rep G A H ((valD kvs k).getD d) (o.getD z) := by
  obtain ⟨a, vs, rfl, h1, h2, h3⟩ := dictOf_rep R p e
  have z := valV_rep (G := G) (A := A) (H := H) k h2 h3
  refine ⟨a, valV vs k, rfl, by rw [kV_rep py ek]; exact .inl ⟨_, _, h1, rfl, rfl⟩, fun d u hd => ?_⟩
  cases q : valD kvs k with
  | none =>
    rw [q] at z
    have : valV vs k = none := by simpa using z.1
    rw [this]
    exact hd
  | some d' =>
    obtain ⟨u', e1, e2⟩ := z.2 d' q
    rw [e1]
    exact e2
theorem se_get1 {a b : C} {ea eb : Expr} {apos cpos : Pos} (xo : Xok G X n) (ha : SE G X E Γ a ea) (hb : SE G X E Γ b eb) (m : M1 X ea "get" apos eb cpos) : SE G X E Γ (.mth .get a (.cons b .nil)) (.Call (.Attribute ea "get" apos) [eb] [] cpos) := by
  obtain ⟨ta, pta, qa⟩ := ha
  obtain ⟨tb, ptb, qb⟩ := hb
  refine ⟨_, pe_dget1 xo.u1 pta ptb m, fun r s A H S Q er R h => ?_⟩
  simp only [evE, evA] at h
  refine qa r s A H S _ er R (h.bind R fun x S1 A1 H1 v _ e1 R1 p1 h1 => ?_)
  split at h1
  · rename_i hq
    have hq' : kindD x S1 = 2 := (eq_of_beq hq).symm
    obtain ⟨c, rfl, hc⟩ := kind_isD R1 p1 hq'
    refine ⟨c, rfl, hc, ?_⟩
    have h2 : FinE G A1 H1 ((evE Γ b r S1).bind fun y S => mthD .get x [y] S) Q E := by
      cases q : evE Γ b r S1 with
      | ok y S2 => rw [q] at h1; exact h1
      | exc c S2 => rw [q] at h1; exact h1
      | bad => rw [q] at h1; exact h1
    refine qb r s A1 H1 S1 _ (er.ext R e1) R1 (h2.bind R1 fun y S2 A2 H2 w _ e2 R2 p2 h3 => ?_)
    replace h3 : FinE G A2 H2 (getKD x [y] S2) Q E := h3
    unfold getKD at h3
    split at h3
    · rename_i kvs x' q1 q2
      cases q2
      split at h3
      · rename_i k q3
        obtain ⟨a', o, e3, g1, g2⟩ := get_rep R2 (p1.ext R1 e2) p2 q1 q3
        cases e3
        exact ⟨o, g1, h3.here R2 (g2 _ _ .non)⟩
      · exact h3.elim
    · rename_i q2; cases q2
    · exact h3.elim
  · exact h1.elim
theorem se_get2 {a b c : C} {ea eb ec : Expr} {apos cpos : Pos} (xo : Xok G X n) (ha : SE G X E Γ a ea) (hb : SE G X E Γ b eb) (hc : SE G X E Γ c ec) (m : M2 X ea "get" apos eb ec cpos) : SE G X E Γ (.mth .get2 a (.cons b (.cons c .nil))) (.Call (.Attribute ea "get" apos) [eb, ec] [] cpos) := by
  obtain ⟨ta, pta, qa⟩ := ha
  obtain ⟨tb, ptb, qb⟩ := hb
  obtain ⟨tc, ptc, qc⟩ := hc
  refine ⟨_, pe_dget2 xo.u1 pta ptb ptc m, fun r s A H S Q er R h => ?_⟩
  simp only [evE, evA] at h
  refine qa r s A H S _ er R (h.bind R fun x S1 A1 H1 v _ e1 R1 p1 h1 => ?_)
  split at h1
  · rename_i hq
    have hq' : kindD x S1 = 2 := (eq_of_beq hq).symm
    obtain ⟨c', rfl, hc'⟩ := kind_isD R1 p1 hq'
    refine ⟨c', rfl, hc', ?_⟩
    have h2 : FinE G A1 H1 ((evE Γ b r S1).bind fun y S => (evE Γ c r S).bind fun z S => mthD .get2 x [y, z] S) Q E := by
      cases q : evE Γ b r S1 with
      | ok y S2 =>
        rw [q] at h1
        dsimp only [Res.bind] at h1 ⊢
        cases q' : evE Γ c r S2 with
        | ok z S3 => rw [q'] at h1; exact h1
        | exc c S3 => rw [q'] at h1; exact h1
        | bad => rw [q'] at h1; exact h1
      | exc c S2 => rw [q] at h1; exact h1
      | bad => rw [q] at h1; exact h1
    have er1 := er.ext R e1
    refine qb r s A1 H1 S1 _ er1 R1 (h2.bind R1 fun y S2 A2 H2 w _ e2 R2 p2 h3 => ?_)
    refine qc r s A2 H2 S2 _ (er1.ext R1 e2) R2 (h3.bind R2 fun z S3 A3 H3 u _ e3 R3 p3 h4 => ?_)
    replace h4 : FinE G A3 H3 (getKD x [y, z] S3) Q E := h4
    unfold getKD at h4
    split at h4
    · rename_i q2; cases q2
    · rename_i kvs x' z' q1 q2
      cases q2
      split at h4
      · rename_i k q3
        obtain ⟨a', o, e4, g1, g2⟩ := get_rep R3 ((p1.ext R1 e2).ext R2 e3) (p2.ext R2 e3) q1 q3
        cases e4
        exact ⟨o, g1, h4.here R3 (g2 _ _ p3)⟩
      · exact h4.elim
    · exact h4.elim
  · exact h1.elim

theorem se_dpop {a b : C} {ea eb : Expr} {apos cpos : Pos} (xo : Xok G X n) (ha : SE G X E Γ a ea) (hb : SE G X E Γ b eb) (m : M1 X ea "pop" apos eb cpos) : SE G X E Γ (.mth .dpop a (.cons b .nil)) (.Call (.Attribute ea "pop" apos) [eb] [] cpos) := by
  obtain ⟨ta, pta, qa⟩ := ha
  obtain ⟨tb, ptb, qb⟩ := hb
  refine ⟨_, pe_dpop1 pta ptb m, fun r s A H S Q er R h => ?_⟩
  simp only [evE, evA] at h
  refine qa r s A H S _ er R (h.bind R fun x S1 A1 H1 v _ e1 R1 p1 h1 => ?_)
  split at h1
  · rename_i hq
    have hq' : kindD x S1 = 2 := (eq_of_beq hq).symm
    obtain ⟨c, rfl, hc⟩ := kind_isD R1 p1 hq'
    refine ⟨c, rfl, hc, ?_⟩
    have h2 : FinE G A1 H1 ((evE Γ b r S1).bind fun y S => mthD .dpop x [y] S) Q E := by
      cases q : evE Γ b r S1 with
      | ok y S2 => rw [q] at h1; exact h1
      | exc c S2 => rw [q] at h1; exact h1
      | bad => rw [q] at h1; exact h1
    refine qb r s A1 H1 S1 _ (er.ext R e1) R1 (h2.bind R1 fun y S2 A2 H2 w _ e2 R2 p2 h3 => ?_)
    replace h3 : FinE G A2 H2 (dpopD x [y] S2) Q E := h3
    cases x with
    | ref m' =>
      simp only [dpopD] at h3
      split at h3
      · rename_i kvs k q3 q4
        split at h3
        · rename_i d q5
          obtain ⟨a', us, e3, h0, g1, g2, g3⟩ := rep_dic R2 (p1.ext R1 e2) q3
          cases e3
          obtain ⟨v', k1, k2⟩ := (valV_rep (G := G) (A := A2) (H := H2) k g2 g3).2 d q5
          obtain ⟨d1, d2⟩ := dropK_rep (G := G) (A := A2) (H := H2) k g2 g3
          refine ⟨us, k, v', g1, kV_rep p2 q4, k1, ?_⟩
          have x3 : Ext A2 H2 A2 (upd H2 c (.dK (dropK us k))) := ext_put h0 g1 rfl
          exact h3 A2 _ v' x3 (R2.put h0 g1 rfl ⟨dropK us k, upd_same, d1, d2.ext R2 x3⟩) (k2.ext R2 x3)
        · exact h3.elim
      · exact h3.elim
    | _ => exact h3.elim
  · exact h1.elim
theorem dctT0 {qq : Bool} {pos : Pos} : SE G X E Γ (.dctT qq) (.Dict [] [] pos) := by
  refine ⟨_, pe_dnewT, fun r s A H S Q er R h p hp => ?_⟩
  simp only [evE, newT] at h
  cases qq with
  | false => exact h (A ++ [p]) _ _ (ext_new hp) (R.new hp ⟨[], upd_same, rfl, .nil⟩) (.ref (new_ix R p))
  | true => exact h A _ _ (ext_laid hp) (R.laid hp) (Rep.cdit (kvs := []) (.inl upd_same) (R.not_none hp) (R.notShut hp) .nil)
theorem dct0 {qq : Bool} {pos : Pos} : SE G X E Γ (.dct qq [] .nil) (.Dict [] [] pos) := by
  refine ⟨_, pe_dnewK, fun r s A H S Q er R h p hp => ?_⟩
  simp only [evE, evA] at h
  cases qq with
  | false => exact h (A ++ [p]) _ _ (ext_new hp) (R.new hp ⟨[], upd_same, rfl, .nil⟩) (.ref (new_ix R p))
  | true => exact h A _ _ (ext_laid hp) (R.laid hp) (Rep.cdic (kvs := []) (.inl upd_same) (R.not_none hp) (R.notShut hp) .nil)
theorem putK_new {kvs : List (Key × V)} {k : Key} {v : V} (h : k ∉ kvs.map (·.1)) : putK kvs k v = kvs ++ [(k, v)] := by
  unfold putK
  rw [if_neg]
  simp only [List.any_eq_true, decide_eq_true_eq, not_exists, not_and]
  intro kv hkv e
  exact h (List.mem_map.mpr ⟨kv, hkv, e⟩)
theorem mergeK_nd : ∀ (kvs acc : List (Key × V)), ((acc ++ kvs).map (·.1)).Nodup → mergeK acc kvs = acc ++ kvs
  | [], acc, _ => by simp [mergeK]
  | kv :: kvs, acc, h => by
    show mergeK (putK acc kv.1 kv.2) kvs = _
    have h1 : kv.1 ∉ acc.map (·.1) := by
      simp only [List.map_append, List.map_cons] at h
      rw [List.nodup_append] at h
      intro z
      exact h.2.2 _ z _ List.mem_cons_self rfl
    rw [putK_new h1, mergeK_nd kvs]
    · simp
    · simpa using h
def pairsOk : List Key → List (Option Expr) → Bool
  | [], [] => true
  | .inl i :: ks, some (.Constant (.int j) _ _) :: es => decide (i = j) && pairsOk ks es
  | .inr i :: ks, some (.Constant (.str j) _ _) :: es => decide (i = j) && pairsOk ks es
  | _, _ => false
def SPs (G : Gx) (X : Cx) (E : XK) (Γ : Cal) (ks : List Key) (as : C) (pos : Pos) (keys : List (Option Expr)) (values : List Expr) : Prop :=
  ∃ trs, PPs X pos keys values trs ∧ ∀ b r s A H S (Q : List (V × V) → Hp → Prop), ERel (G.wb b) A H r s → SRel (G.wb b) A H S →
    FinA (G.wb b) A H (evA Γ as r S) (fun vs H' => Q ((ks.zip vs).map fun kv => (kV kv.1, kv.2)) H') E → tPairs trs s H Q
theorem sps_nil {pos : Pos} : SPs G X E Γ [] .nil pos [] [] := ⟨[], pps_nil, fun b r s A H S Q er R h => by simp only [evA] at h; exact h A H [] .refl R RepL.nil⟩
theorem sps_cons {ks : List Key} {k : Key} {a as : C} {pos : Pos} {ek ev : Expr} {keys : List (Option Expr)} {values : List Expr} (hk : PE X ek (tC (kV k))) (ha : ∀ b, SE (G.wb b) X E Γ a ev) (hr : SPs G X E Γ ks as pos keys values) :
    SPs G X E Γ (k :: ks) (.cons a as) pos (some ek :: keys) (ev :: values) := by
  obtain ⟨ta, pa, qa⟩ := anyE (ι := Unit) (Y := fun _ => X) (Z := fun b => SndE (G.wb b) E Γ a) (fun b ts h => sndE_all h) (fun b t t' h k r s A H S Q er R f => k _ _ _ (h r s A H S Q er R f)) fun b _ => ha b
  obtain ⟨trs, pr, qr⟩ := hr
  refine ⟨_, pps_cons hk (pa ()) pr, fun b r s A H S Q er R h => ?_⟩
  simp only [evA] at h
  show ta s H _
  refine qa b r s A H S _ er R (h.bind R fun x S1 A1 H1 v _ e1 R1 p1 h1 => ?_)
  refine qr b r s A1 H1 S1 _ (er.ext R e1) R1 (h1.bind R1 fun xs S2 A2 H2 vs _ e2 R2 p2 h2 => ?_)
  exact h2 A2 H2 (v :: vs) .refl R2 (RepL.cons (p1.ext R1 e2) p2)
theorem zip_fst : ∀ {ks : List Key} {ds : List D} {vs : List V}, RepL G A H ds vs → (ks.zip ds).map (fun x => x.1) = (ks.zip vs).map (fun x => x.1)
  | [], _, _, _ => rfl
  | _ :: _, _, _, .nil => rfl
  | k :: ks, _, _, .cons r t => by
    simp only [List.zip_cons_cons, List.map_cons]
    rw [zip_fst t]
theorem zip_snd : ∀ {ks : List Key} {ds : List D} {vs : List V}, RepL G A H ds vs → RepL G A H ((ks.zip ds).map (fun x => x.2)) ((ks.zip vs).map (fun x => x.2))
  | [], _, _, _ => .nil
  | _ :: _, _, _, .nil => .nil
  | k :: ks, _, _, .cons r t => .cons r (zip_snd t)
theorem zip_mem {k : Key} : ∀ {ks : List Key} {vs : List V}, k ∈ (ks.zip vs).map (fun x => x.1) → k ∈ ks
  | [], _, h => by simp at h
  | _ :: _, [], h => by simp at h
  | k' :: ks, v :: vs, h => by
    simp only [List.zip_cons_cons, List.map_cons, List.mem_cons] at h
    rcases h with h | h
    · rw [h]; exact List.mem_cons_self
    · exact List.mem_cons_of_mem _ (zip_mem h)
theorem zip_nd : ∀ {ks : List Key} {vs : List V}, ks.Nodup → ((ks.zip vs).map (fun x => x.1)).Nodup
  | [], _, _ => by simp
  | _ :: _, [], _ => by simp
  | k :: ks, v :: vs, h => by
    simp only [List.zip_cons_cons, List.map_cons]
    rw [List.nodup_cons] at h ⊢
    exact ⟨fun z => h.1 (zip_mem z), zip_nd h.2⟩
theorem se_dct {qq : Bool} {ks : List Key} {as : C} {pos : Pos} {keys : List (Option Expr)} {values : List Expr} (hp : SPs G X E Γ ks as pos keys values) (hall : keys.all (·.isSome) = true) (hl : keys.length = values.length) (h0 : keys ≠ []) (h15 : keys.length ≤ 15)
    (hk : ks.length = keys.length) (nd : ks.Nodup) (hlen : as.len = values.length) : SE G X E Γ (.dct qq ks as) (.Dict keys values pos) := by
  obtain ⟨trs, pr, qr⟩ := hp
  refine ⟨_, pe_disp pr hall hl h0 h15, fun r s A H S Q er R h p hp => ?_⟩
  simp only [evE] at h
  have R1 := R.laidShut (u := .dK []) hp
  have e1 : Ext A H A (upd H p (.dK [])) := ext_laid hp
  have nA : p ∉ A := R.not_none hp
  have n0 : p ∉ G.blk := R.notShut hp
  have hin : p ∈ (G.wb (p :: G.blk)).blk := List.mem_cons_self
  have up : ∀ a ∈ G.blk, a ∈ p :: G.blk := fun a h => List.mem_cons_of_mem _ h
  have hb : ∀ a ∈ p :: G.blk, a ∈ G.blk ∨ H a = none := fun a ha => (List.mem_cons.mp ha).elim (fun e => .inr (by rw [e]; exact hp)) .inl
  refine qr _ r s A (upd H p (.dK [])) S _ ((er.wb hb).ext R e1) R1 ?_
  cases q : evA Γ as r S with
  | bad => rw [q] at h; exact h
  | exc c S1 => rw [q] at h; exact fun A' H' C x R' => h A' H' C (e1.trans R R1 x) (R'.bw up)
  | ok ds S2 =>
    rw [q] at h
    dsimp only [Res.bind] at h
    intro A2 H2 vs x2 R2 p2
    obtain ⟨hd, nD⟩ := x2.notIn upd_same nA
    refine ⟨hd, ks.zip vs, rfl, by rw [List.length_zip]; omega, ?_⟩
    have z : ((([] : List (Key × V)) ++ ks.zip vs).map (·.1)).Nodup := by
      simp only [List.nil_append]
      exact zip_nd nd
    rw [mergeK_nd _ _ z]
    have x02 : Ext A H A2 H2 := e1.trans R R1 x2
    have le := zip_fst (ks := ks) p2
    have re := zip_snd (ks := ks) p2
    cases qq with
    | false => exact h (A2 ++ [p]) _ (.ref p) ((x02.side hp).join hp) ((R2.side (u := .dK []) trivial hd hin).join n0 ⟨ks.zip vs, by simpa using upd_same, le, re.side (u := .dK []) trivial hd hin⟩) (.ref (by rw [← R2.len]; simp))
    | true =>
      have l1 : vs.length = ks.length := by have := evA_len _ _ _ _ _ q; rw [← p2.length, this, hlen, hk, hl]
      have z1 : (ks.zip vs).map (·.1) = ks := List.map_fst_zip (by omega)
      have z2 : (ks.zip vs).map (·.2) = vs := List.map_snd_zip (by omega)
      have rr : Rep G A2 (upd H2 p (.dK (ks.zip vs))) (.cdic ((ks.zip vs).map (·.1)) ds) (.ref p) := .cdic (.inl upd_same) nD n0 (by rw [z2]; exact ((p2.side (u := .dK []) trivial hd hin).bw up))
      rw [z1] at rr
      exact h A2 _ (.ref p) (x02.side hp) ((R2.side (u := .dK []) trivial hd hin).bw up) (by simpa using rr)
end
end MP

namespace MP
open PySem PySem.Spec PyProof.Rows L2
section
variable {P : Program} {w : World} {A : Around} {E : Value → Shared → Prop} {s : Shared}
abbrev KAt (P : Program) (w : World) (h : Heap) (k : List Key) (b : Addr) : Prop := IsTupleKey (mixKind P w) h k b
abbrev kHash (P : Program) (w : World) (k : List Key) : Int := tupleKeyHash (mixKind P w) k
def Atom (v : Value) : Prop := (∃ i t, v = Value.int i t) ∨ ∃ x t, v = Value.str x t
theorem atoms_of {k : List Key} {vs : List Value} (h : ItemsAre (mixKind P w) k vs) : ∀ v ∈ vs, Atom v := by
  induction h with
  | nil => exact fun v hv => nomatch hv
  | cons h1 _ ih =>
    intro v hv
    rcases List.mem_cons.mp hv with rfl | hv
    · rcases keyIs_shape h1 with ⟨i, t, _, e⟩ | ⟨x, t, _, e⟩
      · exact .inl ⟨i, t, e⟩
      · exact .inr ⟨x, t, e⟩
    · exact ih v hv
theorem atom_cls (n : Nat) {v : Value} (h : Atom v) : ofAClassStatement n v = pure false := by
  rcases h with ⟨i, t, rfl⟩ | ⟨x, t, rfl⟩ <;> cases n <;> rfl
theorem atom_hash (n : Nat) {v : Value} (h : Atom v) : ∃ b, hashByValue n v = pure b := by
  rcases h with ⟨i, t, rfl⟩ | ⟨x, t, rfl⟩
  · exact ⟨true, by cases n <;> rfl⟩
  · exact ⟨false, by cases n <;> rfl⟩
theorem key_cls {k : List Key} {b : Addr} {Q : Bool → Shared → Prop} (hk : KAt P w s.heap k b) (h : Q false s) : wpAny (model P w) A (ofAClassStatement 8 (.ref b)) Q E s := by
  have ht := hk.typeIs
  obtain ⟨o, its, n, g1, _, g2, g3⟩ := hk
  unfold ofAClassStatement
  refine wpAny_bind (wpAny_typeOf ht ?_)
  dsimp only
  have e : (("tuple" : String) == "tuple") = true := by decide
  simp only [e, if_true, Bool.not_true, Bool.false_eq_true, if_false]
  try refine wpAny_bind (wpAny_pure ?_)
  try simp only [Bool.not_true, Bool.false_eq_true, if_false]
  show wpAny _ _ (seqItems? (.ref b) >>= _) _ _ s
  refine wpAny_bind (wpAny_seqItems g1 g2 ?_)
  dsimp only
  refine wpAny_bind ?_
  show wpAny _ _ (forIn its _ _) _ _ s
  rw [← Array.forIn_toList]
  refine wpAny_forIn_list _ (fun rest r s1 => r.1 = none ∧ s1 = s ∧ ∀ v ∈ rest, Atom v) _ ?_ ?_ _ _ ⟨rfl, rfl, atoms_of g3⟩
  · rintro v rest r s1 ⟨hr, rfl, ha⟩
    rw [atom_cls _ (ha v List.mem_cons_self)]
    refine wpAny_bind (wpAny_pure ?_)
    simp only [Bool.false_eq_true, if_false]
    exact wpAny_pure ⟨rfl, rfl, fun u hu => ha u (List.mem_cons_of_mem _ hu)⟩
  · rintro ⟨r1, r2⟩ s1 ⟨hr, rfl, _⟩
    simp only at hr
    subst hr
    exact wpAny_pure h
theorem key_hash {k : List Key} {b : Addr} {Q : Bool → Shared → Prop} (hk : KAt P w s.heap k b) (h : ∀ c, Q c s) : wpAny (model P w) A (hashByValue 8 (.ref b)) Q E s := by
  have ht := hk.typeIs
  obtain ⟨o, its, n, g1, _, g2, g3⟩ := hk
  unfold hashByValue
  refine wpAny_bind (wpAny_specialOf ht F.slot_tuple_hash.lookup ?_)
  show wpAny _ _ (seqItems? (.ref b) >>= _) _ _ s
  refine wpAny_bind (wpAny_seqItems g1 g2 ?_)
  refine wpAny_bind ?_
  show wpAny _ _ (forIn its _ _) _ _ s
  rw [← Array.forIn_toList]
  refine wpAny_forIn_list _ (fun rest r s1 => r.1 = none ∧ s1 = s ∧ ∀ v ∈ rest, Atom v) _ ?_ ?_ _ _ ⟨rfl, rfl, atoms_of g3⟩
  · rintro v rest r s1 ⟨hr, rfl, ha⟩
    obtain ⟨c, e⟩ := atom_hash 7 (ha v List.mem_cons_self)
    rw [e]
    refine wpAny_bind (wpAny_pure ?_)
    cases c with
    | true =>
      simp only [Bool.not_true, Bool.false_eq_true, if_false]
      exact wpAny_pure ⟨rfl, rfl, fun u hu => ha u (List.mem_cons_of_mem _ hu)⟩
    | false =>
      simp only [Bool.not_false, if_true]
      exact wpAny_pure (wpAny_pure (h false))
  · rintro ⟨r1, r2⟩ s1 ⟨hr, rfl, _⟩
    simp only at hr
    subst hr
    exact wpAny_pure (h true)
theorem key_seen {k : List Key} {b : Addr} {Q : Bool → Shared → Prop} (hk : KAt P w s.heap k b) {ys : List Value} (hy : ∀ y ∈ ys, ∃ k' c, y = Value.ref c ∧ KAt P w s.heap k' c) (h : Q false s) :
    wpAny (model P w) A (searchCouldBeSeen (.ref b) ys) Q E s := by
  unfold searchCouldBeSeen
  refine wpAny_bind ?_
  refine wpAny_forIn_list _ (fun rest r s1 => r.1 = none ∧ s1 = s ∧ ∀ y ∈ rest, ∃ k' c, y = Value.ref c ∧ KAt P w s.heap k' c) _ ?_ ?_ _ _ ⟨rfl, rfl, hy⟩
  · rintro v rest r s1 ⟨hr, rfl, ha⟩
    obtain ⟨k', c, rfl, hc⟩ := ha v List.mem_cons_self
    have more : ∀ y ∈ rest, ∃ k' c, y = Value.ref c ∧ KAt P w s1.heap k' c := fun u hu => ha u (List.mem_cons_of_mem _ hu)
    dsimp only
    by_cases hv : (b == c || (carriedByValue (.ref b) && carriedByValue (.ref c))) = true
    · exact wp_if_pos hv (wpAny_pure ⟨rfl, rfl, more⟩)
    · refine wp_if_neg hv (wpAny_bind (wpAny_eqIsQuiet_tuple hk ?_))
      simp only [Bool.not_true, Bool.false_eq_true, if_false]
      refine wpAny_bind (wpAny_eqIsQuiet_tuple hc ?_)
      simp only [Bool.not_true, Bool.false_eq_true, if_false]
      refine wpAny_bind (key_cls hk ?_)
      simp only [Bool.false_eq_true, if_false]
      refine wpAny_bind (key_cls hc ?_)
      simp only [Bool.false_eq_true, if_false]
      exact wpAny_pure ⟨rfl, rfl, more⟩
  · rintro ⟨r1, r2⟩ s1 ⟨hr, rfl, _⟩
    simp only at hr
    subst hr
    exact wpAny_pure h
def kRow (P : Program) (w : World) (p : Addr × List Key) : Int × Value := (kHash P w p.2, Value.ref p.1)
structure KSet (P : Program) (w : World) (h : Heap) (a : Addr) (L : List (Addr × List Key)) (es : Array (Int × Value)) (ep : Nat) (t : SetTable) : Prop where
  obj : ∃ o, h.get? a = some o ∧ o.ExactSet ∧ o.data = .set es ep t
  row : es.toList = L.map (kRow P w)
  tab : TabOk t (L.map fun p => kHash P w p.2)
  one : (L.map (·.2)).Nodup
  key : ∀ p ∈ L, KAt P w h p.2 p.1
  ldd : w.params.followText "set-order" = true ∨ t.led = true
  rom : L.length * 5 < t.mask * 3
  few : L.length < 64
section
variable {a : Addr} {L : List (Addr × List Key)} {es : Array (Int × Value)} {ep : Nat} {t : SetTable} {h : Heap}
theorem KSet.len (R : KSet P w h a L es ep t) : es.size = L.length := by
  have z := congrArg List.length R.row
  simpa using z
theorem KSet.plc (R : KSet P w h a L es ep t) : t.place.toList.length = L.length := by
  have z := R.tab.sz
  simpa using z
theorem fits_of (hd : t.dummies = #[]) (h1 : t.place.size = es.size) (h2 : es.size ≤ t.mask) : t.fits es.size = true := by
  unfold SetTable.fits SetTable.fill
  rw [hd, Bool.and_eq_true, beq_iff_eq, decide_eq_true_eq]
  exact ⟨h1, by rw [h1]; simpa using h2⟩
theorem KSet.fits (R : KSet P w h a L es ep t) : t.fits es.size = true := by
  have z1 := R.plc
  have z2 := R.len
  have z3 := R.rom
  rw [Array.length_toList] at z1
  exact fits_of R.tab.dm (by omega) (by omega)
theorem KSet.ent (R : KSet P w h a L es ep t) {i : Nat} {p : Addr × List Key} (hi : L[i]? = some p) : es[i]? = some (kRow P w p) := by
  rw [← Array.getElem?_toList, R.row, List.getElem?_map, hi]
  rfl
theorem KSet.way0 (R : KSet P w h a L es ep t) : t.gaveWay ≠ true := by
  unfold SetTable.gaveWay
  rw [mask_odd R.tab.mok]
  decide
theorem kAt_same {h' : Heap} {k : List Key} {b : Addr} {o : Obj} (hb : KAt P w h k b) (ho : h.get? a = some o) (hd : o.data = .set es ep t) (hs : Heap.SameBut a h h') : KAt P w h' k b := by
  obtain ⟨o', its, n, g1, g2, g3, g4⟩ := hb
  refine ⟨o', its, n, (hs.2 b fun z => ?_).trans g1, g2, g3, g4⟩
  subst z
  rw [ho] at g1
  cases g1
  rw [hd] at g3
  cases g3
end
abbrev prb (t : SetTable) (c : Int) (k : Nat) : SetTable.Probe := nth t.mask (runAt t.mask (SetTable.bits c % (t.mask + 1)) (SetTable.bits c)) k
theorem prb_dm (t : SetTable) (c : Int) : ∀ k, (prb t c k).dummy = none := by
  have key : ∀ (n : Nat) (p : SetTable.Probe), p.dummy = none → (nth t.mask p n).dummy = none := by
    intro n
    induction n with
    | zero => exact fun p h => h
    | succ n ih =>
      intro p h
      refine ih (adv t.mask p) ?_
      unfold adv
      split <;> exact h
  exact fun k => key k _ rfl
section
variable {a : Addr} {L : List (Addr × List Key)} {es : Array (Int × Value)} {ep : Nat} {t : SetTable}
theorem seek (R : KSet P w s.heap a L es ep t) {x : Addr} {k : List Key} (hx : KAt P w s.heap k x) (hu : A.units < cLine) {m : Nat} (hm : m < 10 * SetTable.turns t.mask)
    (e0 : way t.mask (kHash P w k) m ∉ t.place.toList) (e1 : ∀ c, c < m → way t.mask (kHash P w k) c ∈ t.place.toList) {Q : SetFound → Shared → Prop}
    (yes : k ∈ L.map (·.2) → Q (.there none) s) (no : k ∉ L.map (·.2) → Q (.free (way t.mask (kHash P w k) m) false) s) :
    ∀ (f c : Nat) (st : Option SetTable.Probe), st.getD (t.probeStart (kHash P w k)) = prb t (kHash P w k) c → c ≤ m → m - c < f →
      (∀ (i : Nat) p, L[i]? = some p → p.2 = k → ∃ c', c ≤ c' ∧ c' < m ∧ t.place.toList[i]? = some (way t.mask (kHash P w k) c')) →
      wpAny (model P w) A (setSearchFrom a (.ref x) (kHash P w k) true f st) Q E s := by
  intro f
  induction f with
  | zero => exact fun c st _ _ z => absurd z (Nat.not_lt_zero _)
  | succ f ih =>
    intro c st hst hc hf rest
    obtain ⟨o, ho, hex, hd⟩ := R.obj
    have shift : ∀ q, nth t.mask (prb t (kHash P w k) c) q = prb t (kHash P w k) (c + q) := fun q => (nth_add t.mask c _ q).symm
    have shj : ∀ q, (nth t.mask (prb t (kHash P w k) c) q).j = way t.mask (kHash P w k) (c + q) := fun q => congrArg SetTable.Probe.j (shift q)
    have hl : ∀ (i : Nat) p, L[i]? = some p → (es[i]?.map (·.1)).getD 0 = kHash P w p.2 := fun i p hp => by rw [R.ent hp]; rfl
    rw [setSearchFrom_succ]
    refine wpAny_bind (wpAny_setState_of ho hd R.fits ?_)
    dsimp only
    refine wp_if_neg R.way0 ?_
    try refine wpAny_bind (wpAny_pure ?_)
    rcases go_spec t R.tab.ris R.tab.dm (fun i => (es[i]?.map (·.1)).getD 0) (kHash P w k) (10 * SetTable.turns t.mask) (m - c) (prb t (kHash P w k) c) (prb_dm t _ c) (by omega)
      (fun q hq => by rw [shj]; exact e1 (c + q) (by omega)) (by rw [shj, show c + (m - c) = m by omega]; exact e0) with ⟨q, i, hq, hi, hh, hno, hpr⟩ | ⟨hno, hpr⟩
    · rw [shj] at hi
      have pr : t.probe (fun i => (es[i]?.map (·.1)).getD 0) (kHash P w k) (st.getD (t.probeStart (kHash P w k))) = some (.candidate (way t.mask (kHash P w k) (c + q)) i (prb t (kHash P w k) (c + (q + 1)))) := by
        rw [hst, ← shj, ← shift]; exact hpr
      rw [pr]
      dsimp only
      have il : i < L.length := by rw [← R.plc]; exact (List.getElem?_eq_some_iff.mp hi).1
      obtain ⟨p, hp⟩ : ∃ p, L[i]? = some p := ⟨_, List.getElem?_eq_getElem il⟩
      have hpm : p ∈ L := List.mem_of_getElem? hp
      have sl := slot_live R.tab.ris hi
      have go : wpAny (model P w) A (searchRest a (.ref x) (kHash P w k) true f es t (way t.mask (kHash P w k) (c + q)) i (prb t (kHash P w k) (c + (q + 1)))) Q E s := by
        unfold searchRest
        rw [R.ent hp]
        dsimp only [kRow]
        refine wpAny_bind (wpAny_holding (wpAny_eqBool_tuple hu (R.key p hpm) hx ?_))
        refine wpAny_bind (wpAny_setState_of ho hd R.fits ?_)
        dsimp only
        by_cases hk : p.2 = k
        · exact wp_if_pos (by simp [hk]) (wpAny_pure (yes (List.mem_map.mpr ⟨p, hpm, hk⟩)))
        · refine wp_if_neg (by simp [hk]) ?_
          try refine wpAny_bind (wpAny_pure ?_)
          rw [sameMem]
          dsimp only
          simp only [if_true, sl, R.ent hp, kRow]
          refine wpAny_bind (wpAny_isSame_ref_self (wpAny_bind (wpAny_pure ?_)))
          simp only [if_true]
          refine wp_if_neg (by simp [hk]) ?_
          refine ih (c + (q + 1)) _ rfl (by omega) (by omega) fun i0 p0 h0 k0 => ?_
          obtain ⟨c', a1, a2, a3⟩ := rest i0 p0 h0 k0
          refine ⟨c', ?_, a2, a3⟩
          have z1 : ¬ c' < c + q := fun z => hno (c' - c) i0 (by omega) (by rw [shj, show c + (c' - c) = c' by omega]; exact a3) ((hl i0 p0 h0).trans (by rw [k0]))
          have z2 : c' ≠ c + q := fun z => by
            rw [z] at a3
            have sl' := slot_live R.tab.ris a3
            rw [sl] at sl'
            cases sl'
            rw [hp] at h0
            cases h0
            exact hk k0
          omega
      by_cases hled : t.led = true
      · refine wp_if_neg (by simp [hled]) ?_
        try refine wpAny_bind (wpAny_pure ?_)
        exact go
      · refine wp_if_pos (by simp [hled]) ?_
        refine wpAny_bind (key_seen hx (fun y hy => ?_) ?_)
        · obtain ⟨e, he, rfl⟩ := List.mem_map.mp hy
          have he2 : e ∈ es.toList := by
            have z : e ∈ es ∧ e.1 = kHash P w k := by simpa using he
            simpa using z.1
          rw [R.row] at he2
          obtain ⟨p2, hp2, rfl⟩ := List.mem_map.mp he2
          exact ⟨p2.2, p2.1, rfl, R.key p2 hp2⟩
        · refine wp_if_neg (by decide) ?_
          try refine wpAny_bind (wpAny_pure ?_)
          exact go
    · have pr : t.probe (fun i => (es[i]?.map (·.1)).getD 0) (kHash P w k) (st.getD (t.probeStart (kHash P w k))) = some (.empty (way t.mask (kHash P w k) m) none) := by
        rw [hst, show way t.mask (kHash P w k) m = (nth t.mask (prb t (kHash P w k) c) (m - c)).j by rw [shj, show c + (m - c) = m by omega]]
        exact hpr
      rw [pr]
      dsimp only
      refine wpAny_pure (no fun hin => ?_)
      obtain ⟨p0, h0, k0⟩ := List.mem_map.mp hin
      obtain ⟨i0, h00⟩ := List.mem_iff_getElem?.mp h0
      obtain ⟨c', a1, a2, a3⟩ := rest i0 p0 h00 k0
      exact hno (c' - c) i0 (by omega) (by rw [shj, show c + (c' - c) = c' by omega]; exact a3) ((hl i0 p0 h00).trans (by rw [k0]))
theorem seek0 (R : KSet P w s.heap a L es ep t) {x : Addr} {k : List Key} (hx : KAt P w s.heap k x) (hu : A.units < cLine) {Q : SetFound → Shared → Prop} (yes : k ∈ L.map (·.2) → Q (.there none) s)
    (no : ∀ m, k ∉ L.map (·.2) → way t.mask (kHash P w k) m ∉ t.place.toList → (∀ c, c < m → way t.mask (kHash P w k) c ∈ t.place.toList) → Q (.free (way t.mask (kHash P w k) m) false) s) :
    wpAny (model P w) A (setSearch a (.ref x) (kHash P w k) true) Q E s := by
  have hr := R.rom
  obtain ⟨m, hm, e0, e1⟩ := R.tab.first (by rw [List.length_map]; omega) (kHash P w k)
  have hbig : 10 * SetTable.turns t.mask ≤ 1420 := by
    unfold SetTable.turns
    rcases R.tab.mok with e | e | e <;> omega
  unfold setSearch
  refine seek R hx hu hm e0 e1 yes (fun hn => no m hn e0 e1) 100000 0 none rfl (Nat.zero_le _) (by omega) fun i p hp hk => ?_
  have il : i < t.place.toList.length := by rw [R.plc]; exact (List.getElem?_eq_some_iff.mp hp).1
  have hj := List.getElem?_eq_getElem il
  obtain ⟨c, hc, e⟩ := R.tab.before e0 (i := i) (by rw [List.getElem?_map, hp, ← hk]; rfl) hj
  exact ⟨c, Nat.zero_le _, hc, by rw [hj, e]⟩
theorem rows_order {order : Array Nat} (hr : es.toList = L.map (kRow P w)) (hp : order.toList.Perm (List.range L.length)) :
    ∃ L' : List (Addr × List Key), (order.filterMap (es[·]?)).toList = L'.map (kRow P w) ∧ L'.Perm L ∧ (L'.map fun p => kHash P w p.2) = order.toList.map fun i => (es.map (·.1)).getD i 0 := by
  have ent : ∀ i (h : i < L.length), es[i]? = some (kRow P w L[i]) := fun i h => by
    rw [← Array.getElem?_toList, hr, List.getElem?_map, List.getElem?_eq_getElem h]; rfl
  have all : ∀ l : List Nat, (∀ i ∈ l, i < L.length) → l.filterMap (fun i => es[i]?) = (l.filterMap fun i => L[i]?).map (kRow P w) ∧ ((l.filterMap fun i => L[i]?).map fun p => kHash P w p.2) = l.map fun i => (es.map (·.1)).getD i 0 := by
    intro l
    induction l with
    | nil => exact fun _ => ⟨rfl, rfl⟩
    | cons i l ih =>
      intro h
      have hi := h i List.mem_cons_self
      obtain ⟨i1, i2⟩ := ih fun j hj => h j (List.mem_cons_of_mem _ hj)
      have e1 := ent i hi
      have e2 : L[i]? = some L[i] := List.getElem?_eq_getElem hi
      have e3 : (es.map (·.1)).getD i 0 = kHash P w (L[i]).2 := by
        have : (es.map (·.1))[i]? = some (kHash P w (L[i]).2) := by rw [Array.getElem?_map, e1]; rfl
        simp [Array.getD_eq_getD_getElem?, this]
      rw [List.filterMap_cons_some e1, List.filterMap_cons_some e2, List.map_cons, List.map_cons, List.map_cons, i1, i2, e3]
      exact ⟨rfl, rfl⟩
  obtain ⟨a1, a2⟩ := all order.toList fun i hi => List.mem_range.mp (hp.mem_iff.mp hi)
  refine ⟨order.toList.filterMap fun i => L[i]?, by simpa using a1, ?_, a2⟩
  have z : (List.range L.length).filterMap (fun i => L[i]?) = L := by
    have key : ∀ n, n ≤ L.length → (List.range n).filterMap (fun i => L[i]?) = L.take n := by
      intro n
      induction n with
      | zero => exact fun _ => rfl
      | succ n ih =>
        intro hn
        rw [List.range_succ, List.filterMap_append, ih (by omega), take_next (List.getElem?_eq_getElem (show n < L.length from hn)), List.filterMap_cons_some (List.getElem?_eq_getElem (show n < L.length from hn))]
        rfl
    rw [key _ (Nat.le_refl _), List.take_length]
  have := hp.filterMap fun i => L[i]?
  rwa [z] at this
theorem relay {o : Obj} (ho : s.heap.get? a = some o) (hex : o.ExactSet) (hd : o.data = .set es ep t) (hrow : es.toList = L.map (kRow P w)) (hsz : t.place.size = es.size) (hdm : t.dummies = #[]) (hle : es.size ≤ t.mask) (one : (L.map (·.2)).Nodup)
    (key : ∀ p ∈ L, KAt P w s.heap p.2 p.1) (ld : w.params.followText "set-order" = true ∨ t.led = true) (few : L.length < 64) {wanted m : Nat} (hw : SetTable.sizeAbove wanted - 1 = m) (hm : MaskOk m) (hw2 : SetTable.sizeAbove wanted ≤ 128) (hn : L.length * 5 < m * 3) {Q : Unit → Shared → Prop}
    (q : ∀ h' L' es' ep' t', Heap.SameBut a s.heap h' → KSet P w h' a L' es' ep' t' → L'.Perm L → Q () { s with heap := h' }) : wpAny (model P w) A (setRelay a wanted) Q E s := by
  have hl : es.size = L.length := by simpa using congrArg List.length hrow
  obtain ⟨t', order, e, hp, T, em, el, _, ed⟩ := relaid_ok t (hs := es.map (·.1)) (wanted := wanted) hw hm (by rw [Array.size_map, hl]; omega)
  rw [Array.size_map, hl] at hp
  obtain ⟨L', r1, r2, r3⟩ := rows_order hrow hp
  rw [← r3] at T
  have hs2 : (order.filterMap (es[·]?)).size = es.size := by
    have z := congrArg List.length r1
    rw [Array.length_toList, List.length_map, r2.length_eq] at z
    rw [z, hl]
  rw [setRelay_eq]
  refine wpAny_bind (wpAny_setState_of ho hd (fits_of hdm hsz hle) ?_)
  dsimp only
  refine wp_if_neg (by rw [sizeLine_eq]; omega) ?_
  try refine wpAny_bind (wpAny_pure ?_)
  rw [e]
  dsimp only
  refine wpAny_bind ?_
  refine wp_if_neg (by rw [hs2]; simp) ?_
  try refine wpAny_bind (wpAny_pure ?_)
  refine wpAny_pure ?_
  dsimp only
  refine wpAny_storeSet_of ho hd ?_ (by rw [hs2, hl, sizeLine_eq]; omega)
  have sb : Heap.SameBut a s.heap (s.heap.update a (Obj.putSet (order.filterMap (es[·]?)) t')) := Heap.SameBut.update ..
  exact q _ L' _ _ t' sb ⟨⟨_, store_at ho hd, ⟨hex.1, hex.2.1, hex.2.2⟩, rfl⟩, r1, T, (r2.map (·.2)).nodup_iff.mpr one, fun p hp => kAt_same (key p (r2.mem_iff.mp hp)) ho hd sb, by rw [el]; exact ld, by rw [r2.length_eq, em]; exact hn, by rw [r2.length_eq]; exact few⟩ r2
theorem addK (R : KSet P w s.heap a L es ep t) {x : Addr} {k : List Key} (hx : KAt P w s.heap k x) (hu : A.units < cLine) (few : L.length + 1 < 64) {Q : Bool → Shared → Prop}
    (q : ∀ b h' L' es' ep' t', Heap.SameBut a s.heap h' → KSet P w h' a L' es' ep' t' → (k ∈ L.map (·.2) → L' = L) → (k ∉ L.map (·.2) → L'.Perm ((x, k) :: L)) → Q b { s with heap := h' }) :
    wpAny (model P w) A (setAddHashed a (.ref x) (kHash P w k)) Q E s := by
  obtain ⟨o, ho, hex, hd⟩ := R.obj
  have hl := R.len
  have hr := R.rom
  unfold setAddHashed
  refine wpAny_holding ?_
  rw [show (100000 : Nat) = 99999 + 1 from rfl, setAddHashedIn_succ]
  refine wpAny_bind (wpAny_setState_of ho hd R.fits ?_)
  dsimp only
  refine wp_if_neg (by simp [byScan, Value.scannable]) ?_
  try refine wpAny_bind (wpAny_pure ?_)
  refine wpAny_bind (seek0 R hx hu (fun hin => ?_) fun m hin e0 e1 => ?_)
  · dsimp only
    exact wpAny_pure (q false s.heap L es ep t (Heap.SameBut.refl a s.heap) R (fun _ => rfl) fun z => absurd hin z)
  · dsimp only
    refine wpAny_bind (wpAny_setState_of ho hd R.fits ?_)
    dsimp only
    obtain ⟨u1, u2, u3, u4, u5, u6, u7, u8, u9⟩ := R.tab.put e0 e1
    generalize hpt : t.put (way t.mask (kHash P w k) m) = pt at u1 u3 u4 u5 u6 u7 u8 u9 ⊢
    obtain ⟨t1, i⟩ := pt
    dsimp only at u1 u3 u4 u5 u6 u7 u8 u9 ⊢
    subst u1
    generalize hpp : SetTable.below t.place (way t.mask (kHash P w k) m) = i at u2 u3 ⊢
    have pm := put_perm L i (x, k)
    have hrow : (SetTable.insertAt es i (kHash P w k, Value.ref x)).toList = (L.take i ++ (x, k) :: L.drop i).map (kRow P w) := by
      rw [SetTable.toList_insertAt, R.row, List.map_append, List.map_cons, List.map_take, List.map_drop]; rfl
    have hhs : (L.take i ++ (x, k) :: L.drop i).map (fun p => kHash P w p.2) = (L.map fun p => kHash P w p.2).take i ++ kHash P w k :: (L.map fun p => kHash P w p.2).drop i := by
      rw [List.map_append, List.map_cons, List.map_take, List.map_drop]
    rw [← hhs] at u3
    have one : ((L.take i ++ (x, k) :: L.drop i).map (·.2)).Nodup := by
      refine (pm.map (·.2)).nodup_iff.mpr ?_
      rw [List.map_cons]
      exact List.nodup_cons.mpr ⟨hin, R.one⟩
    have hlen : (L.take i ++ (x, k) :: L.drop i).length = L.length + 1 := pm.length_eq
    have hes : (SetTable.insertAt es i (kHash P w k, Value.ref x)).size = L.length + 1 := by
      have z := congrArg List.length hrow
      rw [Array.length_toList, List.length_map, hlen] at z
      exact z
    generalize SetTable.insertAt es i (kHash P w k, Value.ref x) = es1 at hrow hes ⊢
    generalize L.take i ++ (x, k) :: L.drop i = L1 at pm hlen u3 one hrow
    -- the table's flag may go
    have rest : ∀ t2 : SetTable, t2.place = t1.place → t2.dummies = t1.dummies → t2.mask = t1.mask → t2.led = t1.led → t2.fill = t1.fill →
        wpAny (model P w) A (do
          storeSet a es1 t2
          if !false && t2.tooFull then setRelay a (SetTable.grown (es.size + 1))
          return true) Q E s := by
      intro t2 v1 v2 v3 v4 v5
      have T2 : TabOk t2 (L1.map fun p => kHash P w p.2) := ⟨by rw [v1]; exact u3.ris, by rw [v2]; exact u3.dm, by rw [v1]; exact u3.sz, by rw [v3]; exact u3.mok, by rw [v1, v3]; exact u3.bd, by rw [v1, v3]; exact u3.reach⟩
      refine wpAny_bind (wpAny_storeSet_of ho hd ?_ (by rw [hes, sizeLine_eq]; omega))
      have sb : Heap.SameBut a s.heap (s.heap.update a (Obj.putSet es1 t2)) := Heap.SameBut.update ..
      have ho1 := store_at (es' := es1) (t' := t2) ho hd
      generalize s.heap.update a (Obj.putSet es1 t2) = h1 at sb ho1 ⊢
      have key1 : ∀ p ∈ L1, KAt P w h1 p.2 p.1 := fun p hp => by
        rcases List.mem_cons.mp (pm.mem_iff.mp hp) with e | hp
        · rw [e]; exact kAt_same hx ho hd sb
        · exact kAt_same (R.key p hp) ho hd sb
      have ld1 : w.params.followText "set-order" = true ∨ t2.led = true := by rw [v4, u5]; exact R.ldd
      have szz : t2.place.size = es1.size := by
        have z := T2.sz
        rw [List.length_map, hlen] at z
        rw [z, hes]
      by_cases hf : t2.tooFull = true
      · first
          | (refine wpAny_bind ?_; refine wp_if_pos (by simp [hf]) ?_)
          | (refine wp_if_pos (by simp [hf]) ?_; refine wpAny_bind ?_)
        have full : (L.length + 1) * 5 ≥ t2.mask * 3 := by
          have z := hf
          unfold SetTable.tooFull at z
          rw [decide_eq_true_eq, v5, u9, List.length_map] at z
          exact z
        rw [hl]
        have two : (t.mask = 7 ∧ L.length = 4) ∨ (t.mask = 31 ∧ L.length = 18) := by
          rw [v3, u4] at full
          rcases R.tab.mok with e | e | e
          · rw [e] at hr full; left; omega
          · rw [e] at hr full; right; omega
          · rw [e] at full; omega
        have go : ∀ n, SetTable.sizeAbove (SetTable.grown (L.length + 1)) - 1 = n → MaskOk n → SetTable.sizeAbove (SetTable.grown (L.length + 1)) ≤ 128 → (L.length + 1) * 5 < n * 3 →
            wpAny (model P w) A (setRelay a (SetTable.grown (L.length + 1))) (fun _ s' => wpAny (model P w) A (pure true) Q E s') E { s with heap := h1 } := fun n n1 n2 n3 n4 => by
          refine relay (s := { s with heap := h1 }) ho1 ⟨hex.1, hex.2.1, hex.2.2⟩ rfl hrow szz T2.dm (by rw [hes, v3, u4]; rcases two with ⟨e, e2⟩ | ⟨e, e2⟩ <;> omega) one key1 ld1 (by rw [hlen]; exact few) n1 n2 n3 (by rw [hlen]; exact n4) ?_
          intro h2 L2 es2 ep2 t3 sb2 R2 pm2
          exact wpAny_pure (q true h2 L2 es2 ep2 t3 (sb.trans sb2) R2 (fun z => absurd z hin) fun _ => pm2.trans pm)
        rcases two with ⟨_, e2⟩ | ⟨_, e2⟩
        · exact go 31 (by rw [e2, size_20]) (.inr (.inl rfl)) (by rw [e2, size_20]; decide) (by omega)
        · exact go 127 (by rw [e2, size_76]) (.inr (.inr rfl)) (by rw [e2, size_76]; decide) (by omega)
      · first
          | refine wp_if_neg (by simp [hf]) ?_
          | (refine wpAny_bind ?_; refine wp_if_neg (by simp [hf]) ?_; refine wpAny_pure ?_)
        refine wpAny_pure (q true h1 L1 es1 (ep + 1) t2 sb ⟨⟨_, ho1, ⟨hex.1, hex.2.1, hex.2.2⟩, rfl⟩, hrow, T2, one, key1, ld1, ?_, by rw [hlen]; exact few⟩ (fun z => absurd z hin) fun _ => pm)
        have z := hf
        unfold SetTable.tooFull at z
        rw [decide_eq_true_eq, v5, u9, List.length_map] at z
        rw [hlen]
        omega
    by_cases hpl : t1.plain = true
    · refine wp_if_pos hpl (wpAny_bind (key_hash hx fun c => ?_))
      cases c with
      | true =>
        simp only [if_true]
        exact rest t1 rfl rfl rfl rfl rfl
      | false =>
        simp only [Bool.false_eq_true, if_false]
        exact rest { t1 with plain := false } rfl rfl rfl rfl rfl
    · refine wp_if_neg hpl (wpAny_bind (wpAny_pure ?_))
      simp only [if_true]
      exact rest t1 rfl rfl rfl rfl rfl
end
structure HasK (ks : List (Addr × List Key)) (i : Nat) (L : List (Addr × List Key)) : Prop where
  sub : ∀ p ∈ L, p ∈ ks.take i
  all : ∀ p ∈ ks.take i, p.2 ∈ L.map (·.2)
  len : L.length ≤ i
theorem HasK.step {ks L L' : List (Addr × List Key)} {i : Nat} {x : Addr × List Key} (g : HasK ks i L) (hx : ks[i]? = some x) (c1 : x.2 ∈ L.map (·.2) → L' = L) (c2 : x.2 ∉ L.map (·.2) → L'.Perm (x :: L)) : HasK ks (i + 1) L' := by
  have e := take_next hx
  by_cases c : x.2 ∈ L.map (·.2)
  · rw [c1 c]
    refine ⟨fun p hp => ?_, fun p hp => ?_, Nat.le_succ_of_le g.len⟩
    · rw [e]; exact List.mem_append_left _ (g.sub p hp)
    · rw [e] at hp
      rcases List.mem_append.mp hp with z | z
      · exact g.all p z
      · rw [List.mem_singleton.mp z]; exact c
  · have pm := c2 c
    refine ⟨fun p hp => ?_, fun p hp => ?_, by rw [pm.length_eq]; exact Nat.succ_le_succ g.len⟩
    · rw [e]
      rcases List.mem_cons.mp (pm.mem_iff.mp hp) with z | z
      · rw [z]; simp
      · exact List.mem_append_left _ (g.sub p z)
    · rw [e] at hp
      refine (pm.map (·.2)).mem_iff.mpr ?_
      rw [List.map_cons]
      rcases List.mem_append.mp hp with z | z
      · exact List.mem_cons_of_mem _ (g.all p z)
      · rw [List.mem_singleton.mp z]; exact List.mem_cons_self
theorem KSet.mv {h h' : Heap} {a : Addr} {L : List (Addr × List Key)} {es : Array (Int × Value)} {ep : Nat} {t : SetTable} (R : KSet P w h a L es ep t) (ha : ∀ o, h.get? a = some o → h'.get? a = some o) (hk : ∀ p ∈ L, KAt P w h' p.2 p.1) : KSet P w h' a L es ep t := by
  obtain ⟨o, ho, r⟩ := R.obj
  exact ⟨⟨o, ha o ho, r⟩, R.row, R.tab, R.one, hk, R.ldd, R.rom, R.few⟩
theorem kAt_mv {h h' : Heap} {k : List Key} {b : Addr} (x : KAt P w h k b) (hk : ∀ c o, h.get? c = some o → h'.get? c = some o) : KAt P w h' k b := by
  obtain ⟨o, its, n, ho, r⟩ := x
  exact ⟨o, its, n, hk b o ho, r⟩
abbrev newSet (w : World) : Obj := { cls := .type "set", dict := none, data := .set #[] 0 (.fresh 0 0 (!w.params.followText "set-order")) }
theorem kset_new {h : Heap} {a : Addr} (ho : h.get? a = some (newSet w)) : KSet P w h a [] #[] 0 (.fresh 0 0 (!w.params.followText "set-order")) := by
  refine ⟨⟨_, ho, ⟨rfl, rfl, rfl⟩, rfl⟩, rfl, ⟨List.Pairwise.nil, rfl, rfl, .inl rfl, (fun x hx => nomatch hx), fun i h j hi => by simp at hi⟩, List.nodup_nil, (fun p hp => nomatch hp), ?_, (by show 0 * 5 < 7 * 3; decide), (by show 0 < 64; decide)⟩
  show _ ∨ (!w.params.followText "set-order") = true
  cases w.params.followText "set-order"
  · exact .inr rfl
  · exact .inl rfl
theorem loopK {I : Addr} {fp wr : List Addr} {G : Array GenState → Array GenState → Prop} {n : Nat} {Pv : Nat → Value → Prop} {St : Nat → Shared → Prop} {R : Result → Shared → Prop} (W : WalksS P w A.in1 I fp wr G n Pv St) (S : Addr) (hS : S ∉ fp) (ks : List (Addr × List Key)) (hn : n = ks.length) (few : ks.length < 64)
    (hv : ∀ i v, Pv i v → ∃ p, ks[i]? = some p ∧ v = .ref p.1) (h0 : Heap) (hk : ∀ p ∈ ks, KAt P w h0 p.2 p.1) (n0 : h0.get? S = none) (n1 : ∀ b ∈ wr, h0.get? b = none) (hu : A.in1.units < cLine) :
    ∀ (m i : Nat) (s : Shared), n - i = m → i ≤ n → St i s → (∀ b o, h0.get? b = some o → s.heap.get? b = some o) → (∃ L es ep t, KSet P w s.heap S L es ep t ∧ HasK ks i L) →
      (∀ s' L es ep t, Moved (S :: wr) G s s' → KSet P w s'.heap S L es ep t → HasK ks n L → (∀ b o, h0.get? b = some o → s'.heap.get? b = some o) → R (.ok (.ret .none)) s') →
      codeAny (model P w) A (.builtin "set.update.loop" ⟨[.ref S, .ref I], []⟩) R s := by
  have hw : S ∉ wr := fun z => hS (W.sub _ z)
  have up : ∀ b ∈ wr, b ∈ S :: wr := fun b hb => List.mem_cons_of_mem _ hb
  have old : ∀ {s s' : Shared}, Moved wr G s s' → (∀ b o, h0.get? b = some o → s.heap.get? b = some o) → ∀ b o, h0.get? b = some o → s'.heap.get? b = some o := fun hm q b o e => hm.heap b o (fun hb => by rw [n1 b hb] at e; cases e) (q b o e)
  have sub : ∀ {i : Nat} {L : List (Addr × List Key)}, HasK ks i L → ∀ p ∈ L, p ∈ ks := fun g p hp => List.mem_of_mem_take (g.sub p hp)
  intro m
  induction m with
  | zero =>
    intro i s h1 h2 st keep K fin
    obtain ⟨L, es, ep, t, R0, g⟩ := K
    obtain rfl : i = n := by omega
    refine codeAny_builtin F.entry_set_update_loop ?_
    rw [Around.under_plainId F.plain_set_update_loop _]
    refine wpAny_bind (m := pyNext (.ref I)) (W.done s _ _ st fun s' hm => ?_)
    have k' := old hm keep
    exact wpAny_pure (fin s' L es ep t (hm.mono up) (R0.mv (fun o e => hm.heap S o hw e) fun p hp => kAt_mv (hk p (sub g p hp)) k') g k')
  | succ m ih =>
    intro i s h1 h2 st keep K fin
    obtain ⟨L, es, ep, t, R0, g⟩ := K
    have lt : i < n := by omega
    refine codeAny_builtin F.entry_set_update_loop ?_
    rw [Around.under_plainId F.plain_set_update_loop _]
    refine wpAny_bind (m := pyNext (.ref I)) (W.item i s _ _ lt st fun v s' pv st' hm => ?_)
    obtain ⟨p, hp, rfl⟩ := hv i v pv
    have k' := old hm keep
    have R1 : KSet P w s'.heap S L es ep t := R0.mv (fun o e => hm.heap S o hw e) fun q hq => kAt_mv (hk q (sub g q hq)) k'
    have hx : KAt P w s'.heap p.2 p.1 := kAt_mv (hk p (List.mem_of_getElem? hp)) k'
    refine wpAny_bind (m := holding [Value.ref p.1] (setAdd S (.ref p.1))) (wpAny_holding ?_)
    unfold setAdd
    refine wpAny_holding (wpAny_bind (wpAny_pyHash_tuple hu hx ?_))
    refine addK (s := { s' with toks := s'.toks + (p.2.length + 1) }) R1 hx hu (by have := g.len; omega) fun b h' L' es' ep' t' sb R2 c1 c2 => ?_
    have k2 : ∀ b o, h0.get? b = some o → h'.get? b = some o := fun b o e => (sb.2 b fun z => by rw [z, n0] at e; cases e).trans (k' b o e)
    refine wpAny_pure ⟨plainId_quiet F.plain_set_update_loop _, ih (i + 1) _ (by omega) lt (W.frame _ s' _ _ st' (Nat.le_add_right _ _) fun b hb o e => ?_) k2 ⟨L', es', ep', t', R2, g.step hp c1 c2⟩ fun s2 L2 es2 ep2 t2 m2 R3 g3 k3 => ?_⟩
    · rw [sb.2 b fun z : b = S => hS (by rw [← z]; exact hb)]; exact e
    · refine fin s2 L2 es2 ep2 t2 (Moved.trans W.gtrans ((hm.mono up).then_heap (Nat.le_add_right _ _) fun b o hb e => ?_) m2) R3 g3 k3
      rw [sb.2 b fun z : b = S => hb (by rw [z]; exact List.mem_cons_self)]; exact e
abbrev newIt (l : Addr) : Obj := { cls := .type "list_iterator", data := .fields #[.ref l, .int 0 0] }
theorem call_set_by {l : Addr} {items : Array Value} {Z : Heap → Prop} {Q : Value → Shared → Prop} (hl : s.heap.IsList l items)
    (loop : codeAny (model P w) A.in1.in1 (.builtin "set.update.loop" ⟨[.ref s.heap.objs.size, .ref (s.heap.push (newSet w)).objs.size], []⟩)
        (fun r s' => r = .ok (.ret .none) ∧ ∃ h' tk, s' = { s with heap := h', toks := tk } ∧ Z h') { s with heap := (s.heap.push (newSet w)).push (newIt l) })
    (q : ∀ h' tk, Z h' → Q (.ref s.heap.objs.size) { s with heap := h', toks := tk }) : wpAny (model P w) A (call (.type "set") [.ref l]) Q E s := by
  have C := F.called_set
  obtain ⟨_, _, c1⟩ := C.mro
  have c2 := C.made
  have c3 := C.sub
  have c4 := C.notType
  have c5 := C.canCreate
  have c6 := F.typeCall_set_1 (.ref l)
  refine wpAny_call (codeAny_of_tree ?_)
  show wpAny _ _ (callAny (.type "set") _) _ _ _
  refine wpAny_pure ⟨Code.quiet_builtin _ (by decide +kernel), codeAny_builtin F.entry_type_call ?_⟩
  rw [Around.under_plain (weight_type_call_type "set" [.ref l] []) rfl]
  repeat (any_goals (first | assumption | wp_step))
  refine codeAny_mono (code_set_led1 (.ref l) (E := E) (Q₁ := fun v s1 => v = .ref s.heap.objs.size ∧ s1 = { s with heap := s.heap.push (newSet w) }) ⟨rfl, rfl⟩) fun r s1 hr => ?_
  match r, hr with
  | .error e, hr => exact hr
  | .ok .next, hr => exact hr.elim
  | .ok .brk, hr => exact hr.elim
  | .ok .cont, hr => exact hr.elim
  | .ok (.ret v), hr =>
    obtain ⟨rfl, rfl⟩ := hr
    have at0 : (s.heap.push (newSet w)).get? s.heap.objs.size = some (newSet w) := Heap.get?_push_size _ rfl
    have ty0 : Shared.TypeIs { s with heap := s.heap.push (newSet w) } (.ref s.heap.objs.size) "set" := ⟨_, at0, rfl⟩
    have c7 := C.init.lookup
    have c8 := C.init.bind (.ref s.heap.objs.size)
    repeat (any_goals (first | assumption | wp_step))
    refine codeAny_mono (codeAny_call_builtin (R := wants (fun r s2 => r = .none ∧ ∃ h' tk, s2 = { s with heap := h', toks := tk } ∧ Z h') E) C.init.plain F.entry_set_init (check_set_init_1 ty0 ?_)) fun r2 s2 hr2 => ?_
    · obtain ⟨ol, b1, b2, nl, b3⟩ := hl
      obtain ⟨oc, od, odt, osl⟩ := ol
      simp only at b2 b3
      subst b2 b3
      have b4 : (s.heap.push (newSet w)).get? l = some { cls := .type "list", dict := od, data := .seq items nl, slots := osl } := Heap.get?_push_of_some _ b1
      have b5 := F.sub_list_set
      have b6 := F.sub_list_frozenset
      have b7 : (Value.type "list" == Value.type "dict") = false := by decide
      have b8 : (s.heap.push (newSet w)).IsList l items := ⟨_, b4, rfl, nl, rfl⟩
      unfold Builtin.«set.__init__» noKeywords Builtin.Frozenset.updateFrom
      generalize hPI : pyIter = PI
      wp_walk
      subst hPI
      refine wpAny_pyIter_list b8 (wpAny_bind (wpAny_runValue (codeAny_mono loop fun r3 s3 hr3 => ?_)))
      obtain ⟨rfl, h', tk, rfl, z⟩ := hr3
      show wpAny _ _ _ _ _ _
      refine wpAny_pure ?_
      show wpAny _ _ (ret Value.none) _ _ _
      exact wpAny_pure ⟨rfl, h', tk, rfl, z⟩
    · match r2, hr2 with
      | .error e, hr2 => exact hr2
      | .ok .next, hr2 => exact hr2.elim
      | .ok .brk, hr2 => exact hr2.elim
      | .ok .cont, hr2 => exact hr2.elim
      | .ok (.ret u), hr2 =>
        obtain ⟨rfl, h', tk, rfl, z⟩ := hr2
        repeat (any_goals (first | assumption | wp_step))
        exact q _ _ z
section
variable {l : Addr} {items : Array Value} {Q : Value → Shared → Prop}
theorem fresh_none {h : Heap} {b : Addr} (hb : h.objs.size ≤ b) : h.get? b = none := by
  cases q : h.get? b with
  | none => rfl
  | some o => exact absurd (Nat.lt_of_lt_of_le (Heap.lt_size q) hb) (Nat.lt_irrefl _)
theorem call_set_keys (ks : List (Addr × List Key)) (hh : A.handled = none) (hl : s.heap.IsList l items) (hit : items.toList = ks.map fun p => Value.ref p.1) (hk : ∀ p ∈ ks, KAt P w s.heap p.2 p.1) (few : ks.length < 64) (hu : A.units + 3 < cLine)
    (h : ∀ (h' : Heap) (tk : Nat) L es ep t, KSet P w h' s.heap.objs.size L es ep t → HasK ks ks.length L → (∀ b o, s.heap.get? b = some o → h'.get? b = some o) → Q (.ref s.heap.objs.size) { s with heap := h', toks := tk }) :
    wpAny (model P w) A (call (.type "set") [.ref l]) Q E s := by
  have isz : items.size = ks.length := by simpa using congrArg List.length hit
  have lt : l < s.heap.objs.size := Heap.lt_size hl.choose_spec.1
  have z1 : (s.heap.push (newSet w)).objs.size = s.heap.objs.size + 1 := Heap.size_push ..
  have hne : l ≠ (s.heap.push (newSet w)).objs.size := by rw [z1]; exact Nat.ne_of_lt (Nat.lt_succ_of_lt lt)
  have hSf : s.heap.objs.size ∉ [(s.heap.push (newSet w)).objs.size, l] := by
    rw [z1]
    simp only [List.mem_cons, List.not_mem_nil, or_false, not_or]
    exact ⟨Nat.ne_of_lt (Nat.lt_succ_self _), Nat.ne_of_gt lt⟩
  have hl1 : (s.heap.push (newSet w)).IsList l items := hl.push _
  refine call_set_by (Z := fun h' => ∃ L es ep t, KSet P w h' s.heap.objs.size L es ep t ∧ HasK ks ks.length L ∧ ∀ b o, s.heap.get? b = some o → h'.get? b = some o) hl ?_ fun h' tk ⟨L, es, ep, t, R, g, k⟩ => h h' tk L es ep t R g k
  refine loopK ((Walks.list (by simp [hh]) _ l hne items).toS) s.heap.objs.size hSf ks isz few (fun i v hv => ?_) s.heap hk (fresh_none (Nat.le_refl _)) (fun b hb => fresh_none (by rw [List.mem_singleton.mp hb, z1]; exact Nat.le_succ _)) hu (items.size - 0) 0 _ (by omega) (Nat.zero_le _)
    ⟨⟨_, Heap.get?_push_size _ rfl, rfl, rfl⟩, hl1.push _⟩ (fun b o e => Heap.get?_push_of_some _ (Heap.get?_push_of_some _ e)) ⟨[], #[], 0, _, kset_new (Heap.get?_push_of_some _ (Heap.get?_push_size _ rfl)), ⟨(fun p hp => nomatch hp), (fun p hp => by simp at hp), Nat.le_refl _⟩⟩ ?_
  · have e : items.toList[i]? = some v := by rw [Array.getElem?_toList]; exact hv
    rw [hit, List.getElem?_map, Option.map_eq_some_iff] at e
    obtain ⟨p, e1, e2⟩ := e
    exact ⟨p, e1, e2.symm⟩
  · intro s' L es ep t hm R g k
    obtain ⟨h', g', d', tk', os'⟩ := s'
    have e1 : g' = s.gens := hm.gens
    have e2 : d' = s.drawn := hm.drawn
    have e3 : os' = s.os := hm.os
    subst e1 e2 e3
    rw [isz] at g
    exact ⟨rfl, h', tk', rfl, L, es, ep, t, R, g, k⟩
theorem call_set_ints (ns : List Int) (hh : A.handled = none) (hl : s.heap.IsList l items) (hit : IntsAre items.toList ns) (hb : ns.length + 1 < scanBound)
    (h : ∀ (h' : Heap) (tk c : Nat), SetR w h' s.heap.objs.size (fun j => decide (j ∈ ns)) c → c ≤ ns.length → (∀ b o, s.heap.get? b = some o → h'.get? b = some o) → Q (.ref s.heap.objs.size) { s with heap := h', toks := tk }) :
    wpAny (model P w) A (call (.type "set") [.ref l]) Q E s := by
  have isz : items.size = ns.length := by simpa using IntsAre.length hit
  have lt : l < s.heap.objs.size := Heap.lt_size hl.choose_spec.1
  have z1 : (s.heap.push (newSet w)).objs.size = s.heap.objs.size + 1 := Heap.size_push ..
  have hne : l ≠ (s.heap.push (newSet w)).objs.size := by rw [z1]; exact Nat.ne_of_lt (Nat.lt_succ_of_lt lt)
  have hSf : s.heap.objs.size ∉ [(s.heap.push (newSet w)).objs.size, l] := by
    rw [z1]
    simp only [List.mem_cons, List.not_mem_nil, or_false, not_or]
    exact ⟨Nat.ne_of_lt (Nat.lt_succ_self _), Nat.ne_of_gt lt⟩
  have hl1 : (s.heap.push (newSet w)).IsList l items := hl.push _
  refine call_set_by (Z := fun h' => ∃ c, SetR w h' s.heap.objs.size (fun j => decide (j ∈ ns)) c ∧ c ≤ ns.length ∧ ∀ b o, s.heap.get? b = some o → h'.get? b = some o) hl ?_ fun h' tk ⟨c, R, g, k⟩ => h h' tk c R g k
  refine set_update_ints ((Walks.list (by simp [hh]) _ l hne items).toS) s.heap.objs.size hSf ns isz hb (fun i v hv => ?_) (items.size - 0) 0 _ (by omega) (Nat.zero_le _)
    ⟨⟨_, Heap.get?_push_size _ rfl, rfl, rfl⟩, hl1.push _⟩ ⟨0, Nat.le_refl 0, setR_new_at (Heap.get?_push_of_some _ (Heap.get?_push_size _ rfl))⟩ ?_
  · have hi : i < ns.length := by rw [← isz]; exact (Array.getElem?_eq_some_iff.mp hv).1
    obtain ⟨t, e⟩ := PyProof.Rows.IntsAre.int_at hit i v (by rw [Array.getElem?_toList]; exact hv)
    refine ⟨ns[i], t, List.getElem?_eq_getElem hi, ?_⟩
    rw [e, List.getD_eq_getElem?_getD, List.getElem?_eq_getElem hi]
    rfl
  · intro s' c hm hc R
    obtain ⟨h', g', d', tk', os'⟩ := s'
    have e1 : g' = s.gens := hm.gens
    have e2 : d' = s.drawn := hm.drawn
    have e3 : os' = s.os := hm.os
    subst e1 e2 e3
    rw [isz] at hc
    refine ⟨rfl, h', tk', rfl, c, R, hc, fun b o e => hm.heap b o ?_ (Heap.get?_push_of_some _ (Heap.get?_push_of_some _ e))⟩
    have lb := Heap.lt_size e
    simp only [List.mem_cons, List.not_mem_nil, or_false, not_or]
    exact ⟨Nat.ne_of_lt lb, by rw [z1]; exact Nat.ne_of_lt (Nat.lt_succ_of_lt lb)⟩
end
end
end MP

namespace MP
open PySem PySem.Spec PyProof.Rows L2
theorem ins_mem (k x : Int) : ∀ l : List Int, k ∈ ins x l ↔ k = x ∨ k ∈ l
  | [] => by simp [ins]
  | y :: r => by
    unfold ins
    split
    · simp
    · split
      · rename_i h; subst h; simp
      · rw [List.mem_cons, ins_mem k x r, List.mem_cons]
        exact ⟨fun z => z.elim (fun e => .inr (.inl e)) fun z => z.elim .inl fun e => .inr (.inr e), fun z => z.elim (fun e => .inr (.inl e)) fun z => z.elim .inl fun e => .inr (.inr e)⟩
theorem ins_lt (x : Int) : ∀ l : List Int, l.Pairwise (· < ·) → (ins x l).Pairwise (· < ·)
  | [], _ => by simp [ins]
  | y :: r, h => by
    obtain ⟨h1, h2⟩ := List.pairwise_cons.mp h
    unfold ins
    split
    · rename_i hx
      refine List.pairwise_cons.mpr ⟨fun z hz => ?_, h⟩
      rcases List.mem_cons.mp hz with e | e
      · rw [e]; exact hx
      · have := h1 z e; omega
    · split
      · exact h
      · rename_i a b
        refine List.pairwise_cons.mpr ⟨fun z hz => ?_, ins_lt x r h2⟩
        rcases (ins_mem z x r).mp hz with e | e
        · rw [e]; omega
        · exact h1 z e
theorem rise_mem (k : Int) : ∀ ns : List Int, k ∈ rise ns ↔ k ∈ ns
  | [] => Iff.rfl
  | x :: r => by
    show k ∈ ins x (rise r) ↔ _
    rw [ins_mem, rise_mem k r, List.mem_cons]
theorem rise_lt : ∀ ns : List Int, (rise ns).Pairwise (· < ·)
  | [] => List.Pairwise.nil
  | x :: r => ins_lt x _ (rise_lt r)
theorem ins_len (x : Int) : ∀ l : List Int, (ins x l).length ≤ l.length + 1
  | [] => Nat.le_refl _
  | y :: r => by
    unfold ins
    split
    · simp
    · split
      · simp
      · have := ins_len x r; simp; omega
theorem rise_le : ∀ ns : List Int, (rise ns).length ≤ ns.length
  | [] => Nat.le_refl _
  | x :: r => by
    have h1 := ins_len x (rise r)
    have h2 := rise_le r
    show (ins x (rise r)).length ≤ r.length + 1
    omega
theorem lt_nodup {l : List Int} (h : l.Pairwise (· < ·)) : l.Nodup := h.imp fun h e => by omega
theorem rise_uniq : ∀ (l m : List Int), l.Pairwise (· < ·) → m.Pairwise (· < ·) → (∀ k, k ∈ l ↔ k ∈ m) → l = m
  | [], [], _, _, _ => rfl
  | [], b :: m, _, _, h => absurd ((h b).mpr List.mem_cons_self) (by simp)
  | a :: l, [], _, _, h => absurd ((h a).mp List.mem_cons_self) (by simp)
  | a :: l, b :: m, p, q, h => by
    obtain ⟨p1, p2⟩ := List.pairwise_cons.mp p
    obtain ⟨q1, q2⟩ := List.pairwise_cons.mp q
    have e : a = b := by
      rcases List.mem_cons.mp ((h a).mp List.mem_cons_self) with e | e
      · exact e
      · rcases List.mem_cons.mp ((h b).mpr List.mem_cons_self) with e' | e'
        · exact e'.symm
        · have := q1 a e; have := p1 b e'; omega
    subst e
    rw [rise_uniq l m p2 q2 fun k => ⟨fun hk => ?_, fun hk => ?_⟩]
    · rcases List.mem_cons.mp ((h k).mp (List.mem_cons_of_mem _ hk)) with e | e
      · have := p1 k hk; omega
      · exact e
    · rcases List.mem_cons.mp ((h k).mpr (List.mem_cons_of_mem _ hk)) with e | e
      · have := q1 k hk; omega
      · exact e
theorem rise_len {w : World} {h : Heap} {a : Addr} {ns : List Int} {n : Nat} (R : SetR w h a (fun j => decide (j ∈ ns)) n) : n = (rise ns).length := by
  obtain ⟨o, es, ep, t, ho, hx, hd, g, nd, hm, hb, hf, hn, _⟩ := R
  have hp : (es.toList.map L2.keyOf).Perm (rise ns) := (List.perm_ext_iff_of_nodup nd (lt_nodup (rise_lt ns))).mpr fun k => by
    rw [← hm k, rise_mem]
    simp
  have := hp.length_eq
  rw [List.length_map, Array.length_toList] at this
  omega
section
variable {X : Cx}
def rSetI (K : PySem.W.Frag) (w : World) : List V → Hp → VK → Prop := fun vs H Q => ∃ (a : Addr) (ns : List Int), vs = [V.ref a] ∧ (SqL K H a (ns.map V.int) ∨ SqT K H a (ns.map V.int)) ∧ ns.length < 60 ∧
  ∀ p, H p = none → Q (.ref p) (upd H p (SetO w p (fun j => decide (j ∈ ns)) (rise ns).length))
theorem cr_setI (hc : X.calm = true) : CallR X (.type "set") (rSetI X.K X.w) := by
  intro pins s σ H vs us Q I r h
  obtain ⟨a, ns, rfl, hq, hl, q⟩ := h
  rw [Vals.ref1 r]
  rcases hq with hq | hq
  · obtain ⟨its, rr, pl, hz⟩ := I.list hq
    refine call_set_ints ns (I.ok.hd hc) pl.isList (by simpa using ints_of_vals rr) (by unfold scanBound; omega) fun h' tk c hS hcl hk => ?_
    rw [rise_len hS] at hS
    exact ⟨.ref _, upd H s.heap.objs.size (SetO X.w s.heap.objs.size (fun j => decide (j ∈ ns)) (rise ns).length), I.laid (t' := tk) hk (Nat.le_refl _) (setO_new hS), rfl, q _ (I.hok.fresh (Nat.le_refl _))⟩
  · obtain ⟨its, rr, pl, hz⟩ := I.tuple hq
    refine call_set_tupI ns (I.ok.hd hc) pl (by simpa using ints_of_vals rr) (by unfold scanBound; omega) fun h' tk c hS hcl hk => ?_
    rw [rise_len hS] at hS
    exact ⟨.ref _, upd H s.heap.objs.size (SetO X.w s.heap.objs.size (fun j => decide (j ∈ ns)) (rise ns).length), I.laid (t' := tk) hk (Nat.le_refl _) (setO_new hS), rfl, q _ (I.hok.fresh (Nat.le_refl _))⟩
def rLenO (w : World) : List V → Hp → VK → Prop := fun vs H Q => ∃ (a : Addr) (S : Int → Bool) (n : Nat), vs = [V.ref a] ∧ H a = some (SetO w a S n) ∧ n < 64 ∧ Q (.int n) H
theorem cr_lenO : CallR X (.builtin "len") (rLenO X.w) := by
  intro pins s σ H vs us Q I r h
  obtain ⟨a, S, n, rfl, ha, h64, q⟩ := h
  have R := setO_get I ha
  rw [Vals.ref1 r]
  obtain ⟨o, es, ep, t, ho, hx, hd, g, nd, hm, hb, hf, hn, _⟩ := R
  exact call_len_set ho hx hd hf (by omega) ⟨.int n, H, I.tok _, ⟨_, by rw [hn]⟩, q⟩
def SetN (a : Addr) (n : Nat) : HO := .ext fun h => ∃ (o : Obj) (es : Array (Int × Value)) (ep : Nat) (t : SetTable), h.get? a = some o ∧ o.ExactSet ∧ o.data = .set es ep t ∧ t.fits es.size = true ∧ es.size = n
theorem setN_ok {P : Program} {w : World} {H : Hp} {h : Heap} {a : Addr} {L : List (Addr × List Key)} {es : Array (Int × Value)} {ep : Nat} {t : SetTable} (R : KSet P w h a L es ep t) : ObjOk P w H h a (SetN a L.length) := by
  obtain ⟨o, ho, hx, hd⟩ := R.obj
  refine ⟨⟨o, es, ep, t, ho, hx, hd, R.fits, R.len⟩, ⟨o, ho⟩, fun h1 h2 p k => ?_⟩
  obtain ⟨o, es, ep, t, g1, g2⟩ := p
  exact ⟨o, es, ep, t, k o g1, g2⟩
theorem onceT_mem (k : List Key) : ∀ ks : List (List Key), k ∈ onceT ks ↔ k ∈ ks
  | [] => by simp [onceT]
  | x :: r => by
    have ih := onceT_mem k r
    unfold onceT
    split
    · rename_i hx
      simp only [List.any_eq_true, decide_eq_true_eq] at hx
      obtain ⟨y, hy, rfl⟩ := hx
      rw [List.mem_cons, ih]
      constructor
      · exact .inr
      · rintro (rfl | h)
        · exact (onceT_mem k r).mp hy
        · exact h
    · rw [List.mem_cons, List.mem_cons, ih]
theorem onceT_nd : ∀ ks : List (List Key), (onceT ks).Nodup
  | [] => List.nodup_nil
  | x :: r => by
    unfold onceT
    split
    · exact onceT_nd r
    · rename_i hx
      refine List.nodup_cons.mpr ⟨fun z => hx ?_, onceT_nd r⟩
      simp only [List.any_eq_true, decide_eq_true_eq]
      exact ⟨x, z, rfl⟩
theorem hasK_len {ks L : List (Addr × List Key)} (g : HasK ks ks.length L) (nd : (L.map (·.2)).Nodup) : L.length = (onceT (ks.map (·.2))).length := by
  have hp : (L.map (·.2)).Perm (onceT (ks.map (·.2))) := (List.perm_ext_iff_of_nodup nd (onceT_nd _)).mpr fun k => by
    rw [onceT_mem]
    constructor
    · intro h
      obtain ⟨p, hp, rfl⟩ := List.mem_map.mp h
      exact List.mem_map.mpr ⟨p, List.mem_of_mem_take (g.sub p hp), rfl⟩
    · intro h
      obtain ⟨p, hp, rfl⟩ := List.mem_map.mp h
      exact g.all p (by rw [List.take_length]; exact hp)
  have := hp.length_eq
  rw [List.length_map] at this
  exact this
def rSetKy (K : PySem.W.Frag) : List V → Hp → VK → Prop := fun xs H Q => ∃ (l : Addr) (ks : List (Addr × List Key)), xs = [V.ref l] ∧ SqL K H l (ks.map fun p => V.ref p.1) ∧ (∀ p ∈ ks, H p.1 = some (.tup (p.2.map kV))) ∧ ks.length < 60 ∧
  ∀ a, H a = none → Q (.ref a) (upd H a (SetN a (onceT (ks.map (·.2))).length))
theorem vals_refs : ∀ {ks : List (Addr × List Key)} {us : List Value}, Vals (ks.map fun p => V.ref p.1) us → us = ks.map fun p => Value.ref p.1
  | [], _, .nil => rfl
  | p :: ks, _, .cons r t => by
    cases r
    rw [vals_refs t]; rfl
theorem cr_setKy (hc : X.calm = true) (hu : X.A.units + 64 < cLine) : CallR X (.type "set") (rSetKy X.K) := by
  intro pins s σ H xs us Q I r h
  obtain ⟨l, ks, rfl, hl, hk, hf, q⟩ := h
  rw [Vals.ref1 r]
  obtain ⟨its, rv, pl, hz⟩ := I.list hl
  have hn : H s.heap.objs.size = none := I.hok.fresh (Nat.le_refl _)
  refine call_set_keys (P := X.prog) (w := X.w) ks (I.ok.hd hc) pl.isList (by simpa using vals_refs rv) (fun p hp => key_of I.hok (hk p hp)) (by omega) (by omega) fun h' tk L es ep t R g k => ?_
  have e := hasK_len g R.one
  refine ⟨.ref s.heap.objs.size, upd H s.heap.objs.size (SetN s.heap.objs.size (onceT (ks.map (·.2))).length), I.laid (t' := tk) k (Nat.le_refl _) ?_, rfl, q _ hn⟩
  rw [← e]
  exact setN_ok R
def rLenN : List V → Hp → VK → Prop := fun vs H Q => ∃ (a : Addr) (n : Nat), vs = [V.ref a] ∧ H a = some (SetN a n) ∧ n < 64 ∧ Q (.int n) H
theorem cr_lenN : CallR X (.builtin "len") rLenN := by
  intro pins s σ H vs us Q I r h
  obtain ⟨a, n, rfl, ha, h64, q⟩ := h
  obtain ⟨⟨o, es, ep, t, g1, g2, g3, g4, g5⟩, _⟩ := I.hok a _ ha
  rw [Vals.ref1 r]
  exact call_len_set g1 g2 g3 g4 (by omega) ⟨.int n, H, I.tok _, ⟨_, by rw [g5]⟩, q⟩
variable {G : Gx} {n : Nat} {qq : Bool} {A : List Addr} {H : Hp} {S : Store} {ds : List D} {vs : List V} {Q : VK} {E : XK}
theorem keysTOf_rep {K : PySem.W.Frag} : ∀ {xs : List D} {vs : List V} {ks : List (List Key)}, RepL G A H xs vs → keysTOf xs = some ks → ∃ ps : List (Addr × List Key), vs = ps.map (fun p => V.ref p.1) ∧ ps.map (·.2) = ks ∧ ∀ p ∈ ps, H p.1 = some (.tup (p.2.map kV))
  | _, _, _, .nil, e => by
    simp [keysTOf] at e
    subst e
    exact ⟨[], rfl, rfl, fun p hp => nomatch hp⟩
  | _, _, _, .cons (d := d) r t, e => by
    simp only [keysTOf, Option.bind_eq_some_iff, Option.map_eq_some_iff] at e
    obtain ⟨k, e1, ks', e2, rfl⟩ := e
    obtain ⟨b, rfl, hb⟩ := keyT_rep r e1
    obtain ⟨ps, h1, h2, h3⟩ := keysTOf_rep (K := K) t e2
    refine ⟨(b, k) :: ps, by rw [h1]; rfl, by rw [← h2]; rfl, fun p hp => ?_⟩
    rcases List.mem_cons.mp hp with rfl | hp
    · exact hb
    · exact h3 p hp
theorem onceT_le : ∀ ks : List (List Key), (onceT ks).length ≤ ks.length
  | [] => Nat.le_refl _
  | x :: r => by
    have := onceT_le r
    unfold onceT
    split <;> simp <;> omega
theorem lens_ok (xo : Xok G X n) (R : SRel G A H S) (hx : RepL G A H ds vs) (h : FinE G A H (bltD qq .lens ds S) Q E) : rSetI X.K X.w vs H (fun v H1 => rLenO X.w [v] H1 Q) ∨ rSetKy X.K vs H (fun v H1 => rLenN [v] H1 Q) := by
  unfold bltD at h
  split at h <;> try exact h.elim
  all_goals (rename_i hf; try cases hf)
  rename_i x
  obtain ⟨v, rfl, hv⟩ := repL1 hx
  unfold lensD at h
  split at h
  · rename_i ns q
    split at h
    · rename_i hl
      obtain ⟨xs, q1, q2⟩ := Option.bind_eq_some_iff.mp q
      obtain ⟨a, ws, rfl, h1, h2⟩ := seqOf_rep R hv q1
      rw [intsOf_rep h2 q2] at h1
      have := rise_le ns
      exact .inl ⟨a, ns, rfl, by rw [xo.K]; exact h1, hl, fun p hp => ⟨p, _, _, rfl, upd_same, by omega, h A _ (.int _) (ext_laid hp) (R.laid hp) (.int _)⟩⟩
    · exact h.elim
  · split at h
    · rename_i ks q
      split at h
      · rename_i hl
        obtain ⟨xs, q1, q2⟩ := Option.bind_eq_some_iff.mp q
        obtain ⟨a, ws, rfl, h1, h2⟩ := lstOf_rep R hv q1
        obtain ⟨ps, rfl, rfl, h3⟩ := keysTOf_rep (K := X.K) h2 q2
        have := onceT_le (ps.map (·.2))
        exact .inr ⟨a, ps, rfl, by rw [xo.K]; exact h1, h3, by simpa using hl, fun p hp => ⟨p, _, rfl, upd_same, by omega, h A _ (.int _) (ext_laid hp) (R.laid hp) (.int _)⟩⟩
      · exact h.elim
    · exact h.elim
theorem sset_ok (xo : Xok G X n) (R : SRel G A H S) (hx : RepL G A H ds vs) (h : FinE G A H (bltD qq .sset ds S) Q E) : rSetI X.K X.w vs H (fun v H1 => rSortedSet X.w [v] H1 Q) := by
  unfold bltD at h
  split at h <;> try exact h.elim
  all_goals (rename_i hf; try cases hf)
  rename_i x
  obtain ⟨v, rfl, hv⟩ := repL1 hx
  unfold ssetD at h
  split at h
  · rename_i ns q
    split at h
    · rename_i hl
      obtain ⟨xs, q1, q2⟩ := Option.bind_eq_some_iff.mp q
      obtain ⟨a, ws, rfl, h1, h2⟩ := seqOf_rep R hv q1
      rw [intsOf_rep h2 q2] at h1
      have := rise_le ns
      refine ⟨a, ns, rfl, by rw [xo.K]; exact h1, hl, fun p hp => ⟨p, _, _, rfl, upd_same, by omega, fun ns' p' hs hm hl' hp' => ?_⟩⟩
      have e : ns' = rise ns := rise_uniq _ _ hs (rise_lt ns) fun k => by rw [hm k, rise_mem]; simp
      subst e
      refine fin_lst (R.laid hp) (q := qq) (xs := (rise ns).map D.int) (S := S) (E := E) ?_ (rep_intsL _) p' hp'
      cases qq <;> exact fun A' H' v x => h A' H' v ((ext_laid hp).trans R (R.laid hp) x)
    · exact h.elim
  · exact h.elim
variable {Γ : Cal} {f : Bf} {id : String} {x : Str} {p p2 pos pos2 : Pos} {as : C} {e : Expr} {es : List Expr} {r : List V → Hp → VK → Prop}
theorem se_set2 (hc : CallR X (.builtin id) r) (hcalm : X.calm = true) (hok : ∀ A H S ds vs Q E, SRel G A H S → RepL G A H ds vs → FinE G A H (bltD qq f ds S) Q E → rSetI X.K X.w vs H (fun v H1 => r [v] H1 Q))
    (hg : Gl X x) (hm : X.mg x = none) (hv : bootBuiltins x = some (.builtin id)) (hn : x ≠ "__name__") (hd : (x == ("__debug__" : Str)) = false) (hg2 : Gl X "set") (hm2 : X.mg "set" = none) (hs : SA G X E Γ as (e :: es))
    (he : starEach (e :: es) X.env = (false, eval e X.env) :: starEach es X.env) (hpl : (backTo pos2 (starEach es X.env)).any (·.1) = false) :
    SE G X E Γ (.blt qq f as) (.Call (.Name x p) [.Call (.Name "set" p2) (e :: es) [] pos2] [] pos) := by
  obtain ⟨ts, ps, qs⟩ := hs
  refine ⟨_, pe_callB hc hg hm hv (pa_cons (pe_callTy (cr_setI hcalm) hg2 hm2 PyProof.Rows.boot_set ps (by decide) (by decide) he hpl) pa_nil rfl) hn hd rfl rfl, fun r s A H S Q er R h => ?_⟩
  simp only [evE] at h
  exact qs r s A H S _ er R (h.bind R fun ds S1 A1 H1 vs _ e1 R1 p1 h1 => hok A1 H1 S1 ds vs Q E R1 p1 h1)
theorem se_lens (xo : Xok G X n) (hcalm : X.calm = true) (hg : Gl X "len") (hm : X.mg "len" = none) (hg2 : Gl X "set") (hm2 : X.mg "set" = none) (hs : SA G X E Γ as (e :: es))
    (he : starEach (e :: es) X.env = (false, eval e X.env) :: starEach es X.env) (hpl : (backTo pos2 (starEach es X.env)).any (·.1) = false) :
    SE G X E Γ (.blt qq .lens as) (.Call (.Name "len" p) [.Call (.Name "set" p2) (e :: es) [] pos2] [] pos) := by
  obtain ⟨ts, ps, qs⟩ := hs
  refine ⟨_, pe_callB (cr_lenO.or cr_lenN) hg hm (by decide +kernel) (pa_cons (pe_callTy ((cr_setI hcalm).or (cr_setKy hcalm xo.u64)) hg2 hm2 PyProof.Rows.boot_set ps (by decide) (by decide) he hpl) pa_nil rfl) (by decide) (by decide) rfl rfl, fun r s A H S Q er R h => ?_⟩
  simp only [evE] at h
  refine qs r s A H S _ er R (h.bind R fun ds S1 A1 H1 vs _ e1 R1 p1 h1 => ?_)
  rcases lens_ok xo R1 p1 h1 with ⟨a, ns, h2, h3, h4, h5⟩ | ⟨l, ks, h2, h3, h4, h5, h6⟩
  · exact .inl ⟨a, ns, h2, h3, h4, fun p hp => .inl (h5 p hp)⟩
  · exact .inr ⟨l, ks, h2, h3, h4, h5, fun p hp => .inr (h6 p hp)⟩
theorem se_sset (xo : Xok G X n) (hcalm : X.calm = true) (hg : Gl X "sorted") (hm : X.mg "sorted" = none) (hg2 : Gl X "set") (hm2 : X.mg "set" = none) (hs : SA G X E Γ as (e :: es))
    (he : starEach (e :: es) X.env = (false, eval e X.env) :: starEach es X.env) (hpl : (backTo pos2 (starEach es X.env)).any (·.1) = false) :
    SE G X E Γ (.blt qq .sset as) (.Call (.Name "sorted" p) [.Call (.Name "set" p2) (e :: es) [] pos2] [] pos) :=
  se_set2 (cr_sortedSet hcalm) hcalm (fun _ _ _ _ _ _ _ R hx h => sset_ok xo R hx h) hg hm (by decide +kernel) (by decide) (by decide) hg2 hm2 hs he hpl
end
end MP

namespace MP
open PySem L2
def FS (G : Gx) (A : List Addr) (H : Hp) (r : Res Fl) (D : Ends) (E : XK) : Prop :=
  match r with
  | .ok (.nx ρ) S' => ∀ A' H' σ', Ext A H A' H' → SRel G A' H' S' → ERel G A' H' ρ σ' → D.nx σ' H'
  | .ok (.rt d) S' => ∀ A' H' v, Ext A H A' H' → SRel G A' H' S' → Rep G A' H' d v → D.rt v H'
  | .ok (.ct ρ) S' => ∀ A' H' σ', Ext A H A' H' → SRel G A' H' S' → ERel G A' H' ρ σ' → D.ct σ' H'
  | .exc c S' => ∀ A' H' C, Ext A H A' H' → SRel G A' H' S' → G.mg c = some (.ref C) → E (.ref C) none H'
  | .bad => False
def SS (G : Gx) (X : Cx) (E : XK) (Γ : Cal) (W : Nat) (k : K) (sts : List Stmt) : Prop :=
  ∃ t, PSs X sts t ∧ ∀ r s A H S D, ERel G A H r s → SRel G A H S → FS G A H (evS Γ W k r S) D E → t D s H
def S1 (G : Gx) (X : Cx) (E : XK) (Γ : Cal) (W : Nat) (k : K) (st : Stmt) : Prop :=
  ∃ t, PS X st t ∧ ∀ r s A H S D, ERel G A H r s → SRel G A H S → FS G A H (evS Γ W k r S) D E → t D s H
section
variable {G : Gx} {X : Cx} {E : XK} {Γ : Cal} {n W : Nat} {A A1 A' : List Addr} {H H1 H' : Hp} {S S1' S' : Store} {pos : Pos}

theorem FS.mono {r : Res Fl} {D : Ends} (R : SRel G A H S) (R1 : SRel G A1 H1 S1') (x : Ext A H A1 H1) (h : FS G A H r D E) : FS G A1 H1 r D E := by
  match r, h with
  | .ok (.nx ρ) S', h => exact fun A' H' σ' e => h A' H' σ' (x.trans R R1 e)
  | .ok (.rt d) S', h => exact fun A' H' v e => h A' H' v (x.trans R R1 e)
  | .ok (.ct ρ) S', h => exact fun A' H' σ' e => h A' H' σ' (x.trans R R1 e)
  | .exc c S', h => exact fun A' H' C e => h A' H' C (x.trans R R1 e)
  | .bad, h => exact h
theorem FS.bindE {α β : Type} {P : List Addr → Hp → α → β → Prop} {r : Res α} {f : α → Store → Res Fl} {D : Ends} {Q' : β → Hp → Prop} (R : SRel G A H S) (h : FS G A H (r.bind f) D E)
    (k : ∀ d S1 A1 H1 v, r = .ok d S1 → Ext A H A1 H1 → SRel G A1 H1 S1 → P A1 H1 d v → FS G A1 H1 (f d S1) D E → Q' v H1) : Fin P G A H r Q' E := by
  cases r with
  | ok d S' => exact fun A' H' v e q p => k d S' A' H' v rfl e q p (FS.mono R q e h)
  | exc c S' => exact h
  | bad => exact h
theorem FS.tru {r : Res D} {f g : Store → Res Fl} {D : Ends} {Q' : Bool → Hp → Prop} (R : SRel G A H S) (h : FS G A H (r.bind fun x S => truD x S f g) D E)
    (k : ∀ b S1 A1 H1, Ext A H A1 H1 → SRel G A1 H1 S1 → FS G A1 H1 (if b = true then f S1 else g S1) D E → Q' b H1) : FinB G A H r Q' E := by
  unfold FinB
  cases r with
  | ok d S' =>
    cases d with
    | bl t =>
      intro A' H' b e R' p
      cases p
      cases t with
      | true => exact k true S' A' H' e R' (FS.mono R R' e h)
      | false => exact k false S' A' H' e R' (FS.mono R R' e h)
    | _ => exact h.elim
  | exc c S' => exact h
  | bad => exact h
theorem ss_skip : SS G X E Γ W .skip [] := ⟨_, pss_nil, fun r s A H S D er R h => by simp only [evS] at h; exact h A H s .refl R er⟩
def thenK (r : Res Fl) (f : Env → Store → Res Fl) : Res Fl := r.bind fun g S => match g with
  | .nx ρ => f ρ S
  | .rt d => .ok (.rt d) S
  | .ct ρ => .ok (.ct ρ) S
theorem FS.seq {r : Res Fl} {f : Env → Store → Res Fl} {D : Ends} {nx : St → Hp → Prop} (R : SRel G A H S) (h : FS G A H (thenK r f) D E) (k : ∀ ρ S1 A1 H1 σ1, Ext A H A1 H1 → SRel G A1 H1 S1 → ERel G A1 H1 ρ σ1 → FS G A1 H1 (f ρ S1) D E → nx σ1 H1) :
    FS G A H r { D with nx := nx } E := by
  match r, h with
  | .ok (.nx ρ) S', h => exact fun A' H' σ' e R' er => k ρ S' A' H' σ' e R' er (FS.mono R R' e h)
  | .ok (.rt d) S', h => exact h
  | .ok (.ct ρ) S', h => exact h
  | .exc c S', h => exact h
  | .bad, h => exact h
theorem ss_seq {a b : K} {st : Stmt} {rest : List Stmt} (ha : S1 G X E Γ W a st) (hb : SS G X E Γ W b rest) : SS G X E Γ W (.seq a b) (st :: rest) := by
  obtain ⟨ta, pa, qa⟩ := ha
  obtain ⟨tb, pb, qb⟩ := hb
  refine ⟨_, pss_cons pa pb, fun r s A H S D er R h => ?_⟩
  simp only [evS] at h
  exact qa r s A H S _ er R (FS.seq (f := fun ρ S => evS Γ W b ρ S) R h fun ρ S1 A1 H1 σ1 e1 R1 er1 h1 => qb ρ σ1 A1 H1 S1 D er1 R1 h1)
theorem s1_pass : S1 G X E Γ W .skip (.Pass pos) := ⟨_, ps_pass, fun r s A H S D er R h => by simp only [evS] at h; exact h A H s .refl R er⟩
theorem s1_cont : S1 G X E Γ W .cont (.Continue pos) := ⟨_, ps_continue, fun r s A H S D er R h => by simp only [evS] at h; exact h A H s .refl R er⟩
theorem s1_expr {c : C} {e : Expr} (hc : SE G X E Γ c e) (hs : swapsWith e none pos.line X.env = pure false) : S1 G X E Γ W (.expr c) (.Expr e pos) := by
  obtain ⟨t, p, q⟩ := hc
  refine ⟨_, ps_expr p hs, fun r s A H S D er R h => ?_⟩
  simp only [evS] at h
  exact q r s A H S _ er R (h.bindE R fun d S1 A1 H1 v _ e1 R1 p1 h1 => h1 A1 H1 s .refl R1 (er.ext R e1))
theorem s1_ret {c : C} {e : Expr} (hc : SE G X E Γ c e) : S1 G X E Γ W (.ret c) (.Return (some e) pos) := by
  obtain ⟨t, p, q⟩ := hc
  refine ⟨_, ps_ret p, fun r s A H S D er R h => ?_⟩
  simp only [evS] at h
  exact q r s A H S _ er R (h.bindE R fun d S1 A1 H1 v _ e1 R1 p1 h1 => h1 A1 H1 v .refl R1 p1)
theorem s1_retN : S1 G X E Γ W .retN (.Return none pos) := ⟨_, ps_retN, fun r s A H S D er R h => by simp only [evS] at h; exact h A H .non .refl R .non⟩
theorem s1_if {c : C} {ec : Expr} {a b : K} {as bs : List Stmt} (hc : STb G X E Γ c ec) (ha : SS G X E Γ W a as) (hb : SS G X E Γ W b bs) : S1 G X E Γ W (.ife c a b) (.If ec as bs pos) := by
  obtain ⟨tc, pc, qc⟩ := hc
  obtain ⟨ta, pa, qa⟩ := ha
  obtain ⟨tb, pb, qb⟩ := hb
  refine ⟨_, ps_if pc pa pb, fun r s A H S D er R h => ?_⟩
  simp only [evS] at h
  refine qc r s A H S _ er R (FS.tru R h fun k S1 A1 H1 e1 R1 h1 => ?_)
  cases k with
  | true => rw [if_pos rfl] at h1 ⊢; exact qa r s A1 H1 S1 D (er.ext R e1) R1 h1
  | false => rw [if_neg Bool.false_ne_true] at h1 ⊢; exact qb r s A1 H1 S1 D (er.ext R e1) R1 h1
theorem s1_set {i : Nat} {c : C} {x : Str} {e : Expr} {p' : Pos} (hN : X.N.Nodup) (hi : X.N[i]? = some x) (hx : Loc X.env.scope x) (hf : X.fn x = true ∨ X.env.scope.names.lookup x = some .local) (hc : SE G X E Γ c e)
    (hs : swapsWith e (some (.Name x p')) pos.line X.env = pure false) : S1 G X E Γ W (.set i c) (.Assign [.Name x p'] e pos) := by
  obtain ⟨t, p, q⟩ := hc
  refine ⟨_, ps_set hN hi hx p hs hf, fun r s A H S D er R h => ?_⟩
  simp only [evS] at h
  exact q r s A H S _ er R (h.bindE R fun d S1 A1 H1 v _ e1 R1 p1 h1 => h1 A1 H1 _ .refl R1 ((er.ext R e1).set p1))
theorem s1_setLc {qq : Bool} {i : Nat} {y : Str} {py : Pos} {tg : Tg} {it : It} {x cond elt : C} {etg eiter eelt : Expr} {ifs : List Expr} {scope : Scope} {own : List (Str × Nat)} {lpos : Pos} (xo : Xok G X n) (hcm : X.calm = true) (hy : X.N[i]? = some y) (hyl : X.env.scope.names.lookup y = some .local)
    (hsw : swapsWith (.ListComp eelt [⟨etg, eiter, ifs, 0⟩] scope lpos) (some (.Name y py)) pos.line X.env = pure true) (hi : SI G X E Γ it x etg eiter) (ok : BlkOk X.N X.env.scope scope own) (hown : own.map (·.2) = tg.slots) (htg : tg.ok X.N scope etg = true)
    (hT : ∀ (b : List Addr) (p : BlkIx), ∃ t, PTs (blkOf X scope p) ifs t ∧ SndB (G.wb b) E0' Γ cond t) (hE : ∀ (b : List Addr) (p : BlkIx), SE (G.wb b) (blkOf X scope p) E0' Γ elt eelt) (hs : ∀ x, foldedSetIterable eiter X.env x = pure x) :
    S1 G X E Γ W (.set i (.lc qq tg it x cond elt)) (.Assign [.Name y py] (.ListComp eelt [⟨etg, eiter, ifs, 0⟩] scope lpos) pos) := by
  obtain ⟨wi, pi, qi⟩ := hi
  obtain ⟨tt, pt, qt⟩ := anyT (Z := fun b => SndB (G.wb b) E0' Γ cond) (fun b ts h => sndB_all h) (fun b t t' h k r s A H S Q er R f => k _ _ _ (h r s A H S Q er R f)) hT
  obtain ⟨te, pe, qe⟩ := anyE (Z := fun b => SndE (G.wb b) E0' Γ elt) (fun b ts h => sndE_all h) (fun b t t' h k r s A H S Q er R f => k _ _ _ (h r s A H S Q er R f)) hE
  have hg : ∀ p : BlkIx, PG (blkOf X scope p) etg (tg.rd X.K) := fun p => pg_tg (X := blkOf X scope p) hcm xo.nd canSet_blk htg
  refine ⟨_, ps_setLc (g := tg.rd X.K) hcm xo.nd hy hyl hsw pi ok (fun s H C cl fp => hg (s, H, C, cl, fp)) (fun s H C cl fp => pt (s, H, C, cl, fp)) (fun s H C cl fp => pe (s, H, C, cl, fp)) hs, fun r s A H S D er R h => ?_⟩
  simp only [evS] at h
  have h2 : FinE G A H (evE Γ (.lc qq tg it x cond elt) r S) (fun x H1 => gName i x s H1 D.nx) E := h.bindE R fun d S1 A1 H1 v _ e1 R1 p1 h1 => h1 A1 H1 _ .refl R1 ((er.ext R e1).set p1)
  rw [evE_lc] at h2
  refine qi r s A H S _ er R (h2.bind R fun src S1 A1 H1 J _ e1 R1 hJ h1 => ?_)
  intro D0 hD
  rw [hown, xo.K]
  by_cases hN : src.len S1 ≤ lim
  · rw [if_pos hN] at h1
    exact lc_core' qt qe R1 (er.ext R e1) hJ hD _ hN h1
  · rw [if_neg hN] at h1
    exact h1.elim
theorem s1_unp {is : List Nat} {c : C} {es : List Expr} {e : Expr} {k : Nat} {tp : Pos} {sc : Scope} (xo : Xok G X n) (hcm : X.calm = true) (cs : CanSet X sc) (htg : (Tg.many is).ok X.N sc (.Tuple es k tp) = true) (hc : SE G X E Γ c e)
    (hs : swapsWithSole [.Tuple es k tp] e pos.line X.env = pure false) (hw : swappedStores [.Tuple es k tp] e X.env = pure none) : S1 G X E Γ W (.unp is c) (.Assign [.Tuple es k tp] e pos) := by
  obtain ⟨t, p, q⟩ := hc
  refine ⟨_, ps_asg p (pg_tg hcm xo.nd cs htg) hs hw rfl, fun r s A H S D er R h => ?_⟩
  simp only [evS] at h
  refine q r s A H S _ er R (h.bindE R fun d S1 A1 H1 v _ e1 R1 p1 h1 => ?_)
  cases q2 : (Tg.many is).set d r with
  | none => rw [q2] at h1; exact h1.elim
  | some r' =>
    rw [q2] at h1
    rw [xo.K]
    exact tg_ok p1 (er.ext R e1) q2 fun s' er' _ => h1 A1 H1 s' .refl R1 er'
theorem s1_par2 {i j : Nat} {as : C} {x y : Str} {a b : Expr} {px py pt pt2 : Pos} {kt k2 : Nat} (xo : Xok G X n) (hcm : X.calm = true) (hi : X.N[i]? = some x) (hj : X.N[j]? = some y) (hij : i ≠ j) (hx : X.env.scope.names.lookup x = some .local) (hy : X.env.scope.names.lookup y = some .local)
    (ha : SA G X E Γ as [a, b]) (hw : swappedStores [.Tuple [.Name x px, .Name y py] kt pt] (.Tuple [a, b] k2 pt2) X.env = pure (some [x, y])) : S1 G X E Γ W (.par [i, j] as) (.Assign [.Tuple [.Name x px, .Name y py] kt pt] (.Tuple [a, b] k2 pt2) pos) := by
  obtain ⟨ts, ps, qs⟩ := ha
  refine ⟨_, ps_par hcm xo.nd hi hj hij hx hy ps hw rfl, fun r s A H S D er R h => ?_⟩
  simp only [evS] at h
  refine qs r s A H S _ er R (h.bindE R fun ds S1 A1 H1 vs _ e1 R1 p1 h1 => ?_)
  cases p1 with
  | nil => exact h1.elim
  | cons r1 t1 => cases t1 with
    | nil => exact h1.elim
    | cons r2 t2 => cases t2 with
      | cons r3 t3 => exact h1.elim
      | nil => exact ⟨_, _, rfl, h1 A1 H1 _ .refl R1 (((er.ext R e1).set r1).set r2)⟩
theorem s1_par3 {i j l : Nat} {as : C} {x y z : Str} {a b c : Expr} {px py pz pt pt2 : Pos} {kt k2 : Nat} (xo : Xok G X n) (hcm : X.calm = true) (hi : X.N[i]? = some x) (hj : X.N[j]? = some y) (hl : X.N[l]? = some z) (hij : i ≠ j) (hil : i ≠ l) (hjl : j ≠ l)
    (hx : X.env.scope.names.lookup x = some .local) (hy : X.env.scope.names.lookup y = some .local) (hz : X.env.scope.names.lookup z = some .local)
    (ha : SA G X E Γ as [a, b, c]) (hw : swappedStores [.Tuple [.Name x px, .Name y py, .Name z pz] kt pt] (.Tuple [a, b, c] k2 pt2) X.env = pure (some [x, y, z])) :
    S1 G X E Γ W (.par [i, j, l] as) (.Assign [.Tuple [.Name x px, .Name y py, .Name z pz] kt pt] (.Tuple [a, b, c] k2 pt2) pos) := by
  obtain ⟨ts, ps, qs⟩ := ha
  refine ⟨_, ps_par3 hcm xo.nd hi hj hl hij hil hjl hx hy hz ps hw rfl, fun r s A H S D er R h => ?_⟩
  simp only [evS] at h
  refine qs r s A H S _ er R (h.bindE R fun ds S1 A1 H1 vs _ e1 R1 p1 h1 => ?_)
  cases p1 with
  | nil => exact h1.elim
  | cons r1 t1 => cases t1 with
    | nil => exact h1.elim
    | cons r2 t2 => cases t2 with
      | nil => exact h1.elim
      | cons r3 t3 => cases t3 with
        | cons r4 t4 => exact h1.elim
        | nil => exact ⟨_, _, _, rfl, h1 A1 H1 _ .refl R1 ((((er.ext R e1).set r1).set r2).set r3)⟩
theorem set_or {t u : TSet} (h : PSet X t) (h' : PSet X u) : PSet X (fun o i v H Q => t o i v H Q ∨ u o i v H Q) := fun pins s σ H o i v ov iv w Q I ro ri rv q => q.elim (h pins s σ H o i v ov iv w Q I ro ri rv) (h' pins s σ H o i v ov iv w Q I ro ri rv)
theorem s1_put {o i v : C} {eo ei ev : Expr} {p' : Pos} (xo : Xok G X n) (ho : SE G X E Γ o eo) (hi : SE G X E Γ i ei) (hv : SE G X E Γ v ev)
    (ha : ∀ v, assign (.Subscript eo ei p') X.env v = (do
      let ov ← holding [v] (eval eo X.env)
      let iv ← holding [v, ov] (eval ei X.env)
      standAt p'
      holding [v, ov, iv] (setItem ov iv v)
      release [v, ov, iv] []))
    (hs : swapsWithSole [.Subscript eo ei p'] ev pos.line X.env = pure false) (hw : swappedStores [.Subscript eo ei p'] ev X.env = pure none) :
    S1 G X E Γ W (.put o i v) (.Assign [.Subscript eo ei p'] ev pos) := by
  obtain ⟨to, po, qo⟩ := ho
  obtain ⟨ti, pi, qi⟩ := hi
  obtain ⟨tv, pv, qv⟩ := hv
  refine ⟨_, ps_asg pv (pg_sub po pi (set_or set_list (set_dict xo.u1)) ha) hs hw rfl, fun r s A H S D er R h => ?_⟩
  simp only [evS] at h
  refine qv r s A H S _ er R (h.bindE R fun d S1 A1 H1 u _ e1 R1 p1 h1 => ?_)
  have er1 := er.ext R e1
  refine qo r s A1 H1 S1 _ er1 R1 (h1.bindE R1 fun x S2 A2 H2 y _ e2 R2 p2 h2 => ?_)
  have er2 := er1.ext R1 e2
  refine qi r s A2 H2 S2 _ er2 R2 (h2.bindE R2 fun z S3 A3 H3 w _ e3 R3 p3 h3 => ?_)
  have p1' := (p1.ext R1 e2).ext R2 e3
  have p2' := p2.ext R2 e3
  have er3 := er2.ext R2 e3
  cases x with
  | ref m =>
    simp only [putD] at h3
    cases q : S3[m]? with
    | none => rw [q] at h3; exact h3.elim
    | some ob =>
      cases ob with
      | lst xs =>
        rw [q] at h3
        dsimp only at h3
        obtain ⟨b, us, rfl, h0, h4, h5⟩ := rep_lst R3 p2' q
        cases z with
        | int k =>
          dsimp only at h3
          cases q2 : ixN xs.length k with
          | none => rw [q2] at h3; exact h3.elim
          | some j =>
            rw [q2] at h3
            rw [rep_int p3]
            refine .inl ⟨b, us, k, j, rfl, rfl, h4, by rw [← h5.length]; exact q2, ?_⟩
            have x4 : Ext A3 H3 A3 (upd H3 b (.lst (us.set j u))) := ext_put h0 h4 rfl
            exact h3 A3 _ s x4 (R3.put h0 h4 rfl ⟨us.set j u, upd_same, (h5.set p1' j).ext R3 x4⟩) (er3.ext R3 x4)
        | _ => exact h3.elim
      | dic kvs =>
        rw [q] at h3
        dsimp only at h3
        obtain ⟨b, us, rfl, h0, h4, h5, h6⟩ := rep_dic R3 p2' q
        cases q2 : keyOf z with
        | none => rw [q2] at h3; exact h3.elim
        | some k =>
          rw [q2] at h3
          dsimp only at h3
          by_cases hl : kvs.length < lim
          · rw [if_pos hl] at h3
            have hlen : kvs.length = us.length := by have := h6.length; simpa using this
            refine .inr ⟨b, _, rfl, by rw [kV_rep p3 q2]; exact DPut.k h4 (by rw [← hlen, ← lim_eq]; exact hl), ?_⟩
            obtain ⟨k1, k2⟩ := putK_rep (k := k) p1' h5 h6
            have x4 : Ext A3 H3 A3 (upd H3 b (.dK (putK us k u))) := ext_put h0 h4 rfl
            exact h3 A3 _ s x4 (R3.put h0 h4 rfl ⟨putK us k u, upd_same, k1, k2.ext R3 x4⟩) (er3.ext R3 x4)
          · rw [if_neg hl] at h3; exact h3.elim
      | dit kvs =>
        rw [q] at h3
        dsimp only at h3
        obtain ⟨b, rfl, h0⟩ := rep_ref p2'
        obtain ⟨us, h4, h5, h6⟩ := R3.obj m _ b q h0
        cases q2 : keyT z with
        | none => rw [q2] at h3; exact h3.elim
        | some k =>
          rw [q2] at h3
          dsimp only at h3
          by_cases hl : kvs.length < lim
          · rw [if_pos hl] at h3
            have hlen : kvs.length = us.length := by have := h6.length; simpa using this
            obtain ⟨c, rfl, hc⟩ := keyT_rep p3 q2
            refine .inr ⟨b, _, rfl, DPut.t h4 hc (by rw [← hlen, ← lim_eq]; exact hl), ?_⟩
            obtain ⟨k1, k2⟩ := putK_rep (k := k) p1' h5 h6
            have x4 : Ext A3 H3 A3 (upd H3 b (.dT (putK us k u))) := ext_put h0 h4 rfl
            exact h3 A3 _ s x4 (R3.put h0 h4 rfl ⟨putK us k u, upd_same, k1, k2.ext R3 x4⟩) (er3.ext R3 x4)
          · rw [if_neg hl] at h3; exact h3.elim
      | ins c fs => rw [q] at h3; exact h3.elim
      | lck kvs => rw [q] at h3; exact h3.elim
  | _ => exact h3.elim
theorem putF_rep {f : Str} {d : D} {v : V} (p : Rep G A H d v) : ∀ {fs : List (Str × D)} {vs : List (Str × V)}, fs.map (·.1) = vs.map (·.1) → RepL G A H (fs.map (·.2)) (vs.map (·.2)) →
    (putF' f d fs).map (·.1) = (putF f v vs).map (·.1) ∧ RepL G A H ((putF' f d fs).map (·.2)) ((putF f v vs).map (·.2))
  | [], [], _, _ => ⟨rfl, .cons p .nil⟩
  | [], _ :: _, h, _ => by simp at h
  | _ :: _, [], h, _ => by simp at h
  | (g, x) :: fs, (g', y) :: vs, h, r => by
    simp only [List.map_cons, List.cons.injEq] at h
    obtain ⟨rfl, h⟩ := h
    simp only [List.map_cons] at r
    cases r with
    | cons r1 r2 =>
      obtain ⟨i1, i2⟩ := putF_rep p h r2
      unfold putF' putF
      by_cases hg : g = f
      · rw [if_pos hg, if_pos hg]
        exact ⟨by simp [h], .cons p r2⟩
      · rw [if_neg hg, if_neg hg]
        exact ⟨by simp [i1], .cons r1 i2⟩
theorem s1_setf {c : Nat} {o v : C} {f : Str} {eo ev : Expr} {p' : Pos} (xo : Xok G X n) (ho : SE G X E Γ o eo) (hv : SE G X E Γ v ev) (hc : ∀ C, G.mg (clsName c) = some (.ref C) → Cls X.K C ∧ NoAttr X.K C f)
    (hs : swapsWith ev (some (.Attribute eo f p')) pos.line X.env = pure false) : S1 G X E Γ W (.setf c o f v) (.Assign [.Attribute eo f p'] ev pos) := by
  obtain ⟨to, po, qo⟩ := ho
  obtain ⟨tv, pv, qv⟩ := hv
  refine ⟨_, ps_fld po pv hs, fun r s A H S D er R h => ?_⟩
  simp only [evS] at h
  refine qv r s A H S _ er R (h.bindE R fun d S1 A1 H1 u _ e1 R1 p1 h1 => ?_)
  have er1 := er.ext R e1
  refine qo r s A1 H1 S1 _ er1 R1 (h1.bindE R1 fun x S2 A2 H2 y _ e2 R2 p2 h2 => ?_)
  have er2 := er1.ext R1 e2
  have p1' := p1.ext R1 e2
  cases x with
  | ref m =>
    simp only [setfD] at h2
    cases q : S2[m]? with
    | none => rw [q] at h2; exact h2.elim
    | some ob =>
      rw [q] at h2
      cases ob with
      | ins c' fs =>
        dsimp only at h2
        by_cases hl : c' = c ∧ fs.length < 1000
        · rw [if_pos hl] at h2
          obtain ⟨rfl, hl⟩ := hl
          obtain ⟨b, rfl, h0⟩ := rep_ref p2
          obtain ⟨C, dx, us, h3, h4, h5, h6⟩ := R2.obj m _ b q h0
          obtain ⟨c1, c2⟩ := hc C h3
          have hlen : fs.length = us.length := by have := h6.length; simpa using this
          refine ⟨b, C, dx, us, rfl, h4, c1, c2, by omega, ?_⟩
          obtain ⟨k1, k2⟩ := putF_rep (f := f) p1' h5 h6
          have x4 : Ext A2 H2 A2 (upd H2 b (.ins C dx (putF f u us))) := ext_put h0 h4 rfl
          exact h2 A2 _ s x4 (R2.put h0 h4 rfl ⟨C, dx, putF f u us, h3, upd_same, k1, k2.ext R2 x4⟩) (er2.ext R2 x4)
        · rw [if_neg hl] at h2; exact h2.elim
      | _ => exact h2.elim
  | _ => exact h2.elim
theorem s1_while {c : C} {ec : Expr} {b : K} {bs : List Stmt} (hp : PassesOwn (model X.prog X.w) X.A X.env X.xe) (hc : STb G X E Γ c ec) (hb : SS G X E Γ W b bs) : S1 G X E Γ W (.whl c b) (.While ec bs [] pos) := by
  obtain ⟨tc, pc, qc⟩ := hc
  obtain ⟨tb, pb, qb⟩ := hb
  refine ⟨_, ps_while hp pc pb, fun r s A H S D er R h => ?_⟩
  simp only [evS] at h
  refine ⟨fun m σ H' => ∃ A' ρ S', SRel G A' H' S' ∧ ERel G A' H' ρ σ ∧ FS G A' H' (whlL (evE Γ c) (evS Γ W b) m ρ S') D E, ⟨W, A, r, S, R, er, h⟩, ?_⟩
  rintro m σ H' ⟨A', ρ, S', R1, er1, f1⟩
  cases m with
  | zero => exact f1.elim
  | succ m =>
    simp only [whlL] at f1
    refine qc ρ σ A' H' S' _ er1 R1 (FS.tru R1 f1 fun k S2 A2 H2 e2 R2 h2 => ?_)
    have er2 := er1.ext R1 e2
    cases k with
    | true =>
      rw [if_pos rfl] at h2 ⊢
      refine ⟨fun σ' H'' => ∃ A'' ρ' S'', SRel G A'' H'' S'' ∧ ERel G A'' H'' ρ' σ' ∧ FS G A'' H'' (whlL (evE Γ c) (evS Γ W b) m ρ' S'') D E, fun σ' H'' ⟨A'', ρ', S'', z⟩ => ⟨m, by omega, A'', ρ', S'', z⟩, ?_⟩
      refine qb ρ σ A2 H2 S2 _ er2 R2 ?_
      cases qe : evS Γ W b ρ S2 with
      | bad => rw [qe] at h2; exact h2
      | exc c' S3 => rw [qe] at h2; exact h2
      | ok fl S3 =>
        rw [qe] at h2
        dsimp only [Res.bind] at h2
        cases fl with
        | nx ρ' => exact fun A3 H3 σ3 e3 R3 er3 => ⟨A3, ρ', S3, R3, er3, FS.mono R2 R3 e3 h2⟩
        | ct ρ' => exact fun A3 H3 σ3 e3 R3 er3 => ⟨A3, ρ', S3, R3, er3, FS.mono R2 R3 e3 h2⟩
        | rt d => exact h2
    | false =>
      rw [if_neg Bool.false_ne_true] at h2 ⊢
      exact h2 A2 H2 σ .refl R2 er2
noncomputable def turnS (Γ : Cal) (W : Nat) (tg : Tg) (b : K) (v : D) (r : Env) (S : Store) : Res Fl :=
  match tg.set v r with
  | some r' => evS Γ W b r' S
  | none => .bad
theorem s1_for {tg : Tg} {it : It} {x : C} {b : K} {etg eiter : Expr} {bs : List Stmt} {sc : Scope} (xo : Xok G X n) (hcm : X.calm = true) (hp : PassesOwn (model X.prog X.w) X.A X.env X.xe) (cs : CanSet X sc) (htg : tg.ok X.N sc etg = true) (hi : SI G X E Γ it x etg eiter)
    (hb : SS G X E Γ W b bs) (hs : ∀ x, foldedSetIterable eiter X.env x = pure x) : S1 G X E Γ W (.for_ tg it x b) (.For etg eiter bs [] pos) := by
  obtain ⟨wi, pi, qi⟩ := hi
  obtain ⟨tb, pb, qb⟩ := hb
  refine ⟨_, ps_for hp hcm pi (pg_tg hcm xo.nd cs htg) pb hs, fun r s A H S D er R h => ?_⟩
  have h' : FS G A H ((evI Γ it x r S).bind fun src S => forL src (turnS Γ W tg b) (src.len S) 0 r S) D E := by
    simp only [evS] at h
    unfold evI
    cases q : evA Γ x r S with
    | bad => rw [q] at h; exact h
    | exc c S1 => rw [q] at h; exact h
    | ok ds S1 =>
      rw [q] at h
      dsimp only [Res.bind] at h ⊢
      cases q2 : srcOf it ds S1 with
      | none => rw [q2] at h; exact h
      | some src => rw [q2] at h; exact h
  refine qi r s A H S _ er R (h'.bindE R fun src S1 A1 H1 J _ e1 R1 hJ h1 => ?_)
  refine ⟨fun i m σ H' => ∃ A' ρ S', Ext A1 H1 A' H' ∧ SRel G A' H' S' ∧ ERel G A' H' ρ σ ∧ FS G A' H' (forL src (turnS Γ W tg b) m i ρ S') D E, ⟨_, A1, r, S1, .refl, R1, er.ext R e1, h1⟩, ?_⟩
  rintro i m σ H' ⟨A', ρ, S', x1, R', er', f1⟩
  obtain ⟨jstop, jgo⟩ := hJ.now i A' H' S' x1 R'
  cases q : src.at i S' with
  | none => cases m <;> (simp only [forL, q] at f1; exact f1.elim)
  | some o =>
    cases o with
    | none =>
      refine .inl ⟨jstop q, ?_⟩
      cases m <;> (simp only [forL, q] at f1; exact f1 A' H' σ .refl R' er')
    | some y =>
      cases m with
      | zero => simp only [forL, q] at f1; exact f1.elim
      | succ m =>
        simp only [forL, q] at f1
        obtain ⟨go, yld⟩ := jgo y q
        refine .inr ⟨go, fun σ' H'' => ∃ A'' ρ' S'', Ext A1 H1 A'' H'' ∧ SRel G A'' H'' S'' ∧ ERel G A'' H'' ρ' σ' ∧ FS G A'' H'' (forL src (turnS Γ W tg b) m (i + 1) ρ' S'') D E, fun σ' H'' ⟨A'', ρ', S'', z⟩ => ⟨m, by omega, A'', ρ', S'', z⟩, ?_⟩
        intro v H2 hy
        obtain ⟨x2, R2, p2⟩ := yld v H2 hy
        have er2 := er'.ext R' x2
        have x12 : Ext A1 H1 A' H2 := x1.trans R1 R' x2
        have f2 := FS.mono R' R2 x2 f1
        unfold turnS at f2
        rw [xo.K]
        cases q3 : tg.set y ρ with
        | none => rw [q3] at f2; exact f2.elim
        | some ρ2 =>
          rw [q3] at f2
          refine tg_ok p2 er2 q3 fun σ2 er3 _ => ?_
          refine qb ρ2 σ2 A' H2 S' _ er3 R2 ?_
          dsimp only at f2
          cases qe : evS Γ W b ρ2 S' with
          | bad => rw [qe] at f2; exact f2
          | exc c' S3 => rw [qe] at f2; exact f2
          | ok fl S3 =>
            rw [qe] at f2
            dsimp only [Res.bind] at f2
            cases fl with
            | nx ρ' => exact fun A3 H3 σ3 e3 R3 er4 => ⟨A3, ρ', S3, x12.trans R1 R2 e3, R3, er4, FS.mono R2 R3 e3 f2⟩
            | ct ρ' => exact fun A3 H3 σ3 e3 R3 er4 => ⟨A3, ρ', S3, x12.trans R1 R2 e3, R3, er4, FS.mono R2 R3 e3 f2⟩
            | rt d => exact f2
end
end MP

namespace MP
open PySem L2
structure ExF (K : PySem.W.Frag) (C : Addr) : Prop where
  ex : PySem.W.excIn K C [.type "ValueError", .type "Exception", .type "BaseException", .type "object"] "ValueError.__new__" = true
  kp : PySem.W.keepIn K (.ref C) = true
  sb : PySem.W.subIn K (.ref C) (.type "BaseException") = some true
  ty : PySem.W.typeIn K (.ref C) = some (.type "type")
structure Exs (K : PySem.W.Frag) (mg : Str → Option Value) (ns : List Str) (tries : Bool) : Prop where
  has : ∀ x, x ∈ ns → ∃ C, mg x = some (.ref C) ∧ ExF K C
  exm : tries = true → ∀ x C R, x ∈ excNames → mg x = some (.ref C) → mg "RimeError" = some (.ref R) → PySem.W.exmOne K (.ref C) (.ref R) = some true
  kit : tries = true → ∀ x C d D', x ∈ excNames → mg x = some (.ref C) → d ∈ excNames → mg d = some (.ref D') → PySem.W.kitOne K (.ref C) (.ref D') = some (decide (x = d))
  kitV : tries = true → ∀ x C, x ∈ excNames → mg x = some (.ref C) → PySem.W.kitOne K (.ref C) (.type "ValueError") = some true
  exc : tries = true → ∀ x C, x ∈ excNames → mg x = some (.ref C) → ExcC K C
  neq : tries = true → ∀ C, mg "Ledger" = some (.ref C) → NEq K C
section
variable {G : Gx} {X : Cx} {E : XK} {Γ : Cal} {n W : Nat} {A A1 A' : List Addr} {H H1 H' : Hp} {S S1' S' : Store} {pos : Pos}
theorem s1_raise {c : Str} {C : Addr} {a : MP.C} {ea : Expr} {p pc : Pos} (hc : X.calm = true) (tk : Takes X (fun cls d _ H => E cls d H)) (hK : X.K = G.K) (hmg : X.mg = G.mg) (hg : Gl X c) (hm : X.mg c = some (.ref C)) (ef : ExF X.K C) (ha : SE G X E Γ a ea)
    (hs : starEach [ea] X.env = [(false, eval ea X.env)]) (hd : (c == ("__debug__" : Str)) = false) : S1 G X E Γ W (.rais c a) (.Raise (some (.Call (.Name c p) [ea] [] pc)) none pos) := by
  obtain ⟨ta, pa, qa⟩ := ha
  refine ⟨_, ps_raise hc tk (SkE.pmk_own1 PySem.F.excBase_ValueError ef.ex hm ef.kp (raises_own ef.sb ef.ty) hg pa hs hd), fun r s A H S D er R h => ?_⟩
  simp only [evS] at h
  exact qa r s A H S _ er R (h.bindE R fun d S1 A1 H1 v _ e1 R1 p1 h1 => h1 A1 H1 C .refl R1 (by rw [← hmg]; exact hm))
theorem call_isX {a D0 : Addr} {oe : Obj} (hp : (a, oe) ∈ X.pn) (C : ExcC X.K D0) (hz : Zc (.ref D0) none oe) (hf : ∃ vs, oe.data = .fields vs) : CallR X (.builtin "isinstance") (rIsE X.K D0 a) := by
  intro pins s σ H xs us Q I r h
  obtain ⟨c, cv, b, rfl, hcv, e, q⟩ := h
  cases r with
  | cons rx rr =>
    cases rr with
    | cons rt rr =>
      cases rr
      cases rx
      have ec := hcv _ rt
      subst ec
      obtain ⟨hget, _⟩ := I.pin (a, oe) (List.mem_append.mpr (.inl hp))
      obtain ⟨vs, hv⟩ := hf
      have J : PySem.W.InstAt s.heap a oe D0 none := by
        obtain ⟨oc, od, oda, osl⟩ := oe
        obtain ⟨h1, h2⟩ := hz
        dsimp only at h1 h2 hv
        subst h1 h2 hv
        exact ⟨hget, rfl, rfl, trivial⟩
      exact PySem.W.kia_one (PySem.W.handS_kitx_exc C.hg C.hk C.hs C.hd C.ha C.hn C.ht C.hm) I.kIn J e (fun z => nomatch z) fun tk => ⟨.bl b, H, I.kept (t' := tk) fun _ _ z => z, rfl, q⟩
end
structure FnW (P : Program) (w : World) (K : PySem.W.Frag) (mg : Str → Option Value) (base : Heap) (k : Nat) (f : Addr) (fd : FuncData) (ps : List Str) (sp : Addr → Str → Hp → VK → Prop) : Prop where
  one : ps.length = 1
  run : ∀ (A : Around) (outer : List PySem.Env) (s : Shared) (H : Hp) (args : Args) (Q : VK) (a : Addr) (oe : Obj) (C : Addr) (c : Str), L2H.RoomH k A → A.guards = some [] → Zc (.ref C) none oe → (∃ vs, oe.data = .fields vs) → mg c = some (.ref C) → c ∈ excNames →
    L2H.PinOk outer H s (a, oe) → Env0 P w K mg base A outer s H → BindsTo s fd args (ps.zip [.ref a]) → sp a c H Q → codeAny (model P w) A (.call (.ref f) args) (CR (L2.CX P w) outer P w H s Q (fun _ _ _ => False)) s
theorem fnW_of {P : Program} {w : World} {K : PySem.W.Frag} {mg : Str → Option Value} {base : Heap} {k : Nat} {f : Addr} {name qual : Str} {params : Arguments} {body : List Stmt} {scope : Scope} {dV kV doc pm cdv ct oc : Value} {an od : Option Addr}
    {osl : Array (Option Value)} {N ps : List Str} {sp : Addr → Str → Hp → VK → Prop} (lk : K.lookup f = some ⟨oc, od, .func (PySem.W.fnOf name qual params body scope dV kV doc pm an cdv ct), osl⟩) (hcd : PySem.W.codeIn K cdv qual = true)
    (F : FnScope N ps scope) (one : ps.length = 1)
    (bd : ∀ (A : Around) (outer : List PySem.Env) (s : Shared) (H : Hp) (Q : VK) (a : Addr) (oe : Obj) (C : Addr) (c : Str), L2H.RoomH k (A.deeper (PyProof.Rows.envOfC qual scope s.heap.objs.size f cdv)) → A.guards = some [] → Zc (.ref C) none oe → (∃ vs, oe.data = .fields vs) → mg c = some (.ref C) → c ∈ excNames → sp a c H Q →
      ∃ t, PSs (L2H.cxH (L2.CX P w) P w K mg base N qual scope f cdv A outer s H (fun _ _ _ => False) (a, oe)) body t ∧ t { nx := fun _ H' => Q .non H', rt := Q } (start N [.ref a]) H) :
    FnW P w K mg base (k + 1) f (PySem.W.fnOf name qual params body scope dV kV doc pm an cdv ct) ps sp where
  one := one
  run := by
    intro A outer s H args Q a oe C c hr hg hz hf hmg hcn hpin e0 hb hsp
    have stays : ∀ b o, base.get? b = some o → s.heap.get? b = some o := fun b o e => (e0.bs b o e).1
    have KX : K.In s.heap := e0.mod.kin.keeps stays
    have nolim : s.heap.NoLimit := e0.mod.nolimit.keeps stays
    refine codeAny_call_function hr.depth (KX _ _ lk) rfl F.co F.gen rfl (PySem.W.codeRec_of KX hcd) (hb _ _ _ _ (wpAny_newFunctionEnv_cells F.kind ?_ fun env he s1 x => ?_))
    · rintro ⟨y, v⟩ hy
      rcases F.par y (List.of_mem_zip hy).1 with q | q
      · exact .inl q
      · exact .inr ⟨q, PySem.W.cellsFrom_some _ _ _ (.inl q)⟩
    · subst he
      refine ⟨nolim.keeps x.toInCall.keep, codeAny_func ?_⟩
      obtain ⟨t, ht, hq⟩ := bd A outer s H Q a oe C c (hr.deeper _) hg hz hf hmg hcn hsp
      have I := L2H.inv_startH (CX := L2.CX P w) (E := fun _ _ _ => False) (vs := [.ref a]) F hpin e0 one.symm (.cons rfl .nil) x
      refine wpAny_mono (ht.run [] s1 (start N [.ref a]) H _ I hq) (fun fl s' hs => ?_) fun _ _ z => z
      match fl, hs with
      | .ret u, ⟨v, σ', H', J, rv, q⟩ => exact ⟨v, H', J.os, J.bare, J.base, J.hok, rv, q⟩
      | .next, ⟨σ', H', J, q⟩ => exact ⟨V.non, H', J.os, J.bare, J.base, J.hok, rfl, q⟩
      | .brk, ⟨_, _, _, q⟩ => exact False.elim q
      | .cont, ⟨_, _, _, q⟩ => exact False.elim q
section
variable {G : Gx} {A A1 A' : List Addr} {H H1 H' : Hp} {S S' : Store}
mutual
theorem Rep.wx (hG : G.ex = none) (e : Addr × Str) : ∀ {d : D} {v : V}, Rep G A H d v → Rep (G.wx e) A H d v
  | _, _, .non => .non
  | _, _, .bl b => .bl b
  | _, _, .int i => .int i
  | _, _, .str x => .str x
  | _, _, .ty n => .ty n
  | _, _, .own h => .own h
  | _, _, .exn h => by rw [hG] at h; cases h
  | _, _, .ref h => .ref h
  | _, _, .tup h t => .tup h (RepL.wx hG e t)
  | _, _, .con h n m t => .con h n m (RepL.wx hG e t)
  | _, _, .cdic h n m t => .cdic h n m (RepL.wx hG e t)
  | _, _, .cdit h n m t => .cdit h n m (RepL.wx hG e t)
  | _, _, .cins g h n m t => .cins g h n m (RepL.wx hG e t)
  | _, _, .scr h t => .scr h (RepL.wx hG e t)
theorem RepL.wx (hG : G.ex = none) (e : Addr × Str) : ∀ {ds : List D} {vs : List V}, RepL G A H ds vs → RepL (G.wx e) A H ds vs
  | _, _, .nil => .nil
  | _, _, .cons r t => .cons (Rep.wx hG e r) (RepL.wx hG e t)
end
theorem rep_cdic {ks : List Key} {ds : List D} {v : V} (h : Rep G A H (.cdic ks ds) v) : ∃ ws, RepL G A H ds ws := by
  cases h with
  | cdic _ _ _ t => exact ⟨_, t⟩
theorem rep_cdit {ks : List (List Key)} {ds : List D} {v : V} (h : Rep G A H (.cdit ks ds) v) : ∃ ws, RepL G A H ds ws := by
  cases h with
  | cdit _ _ _ t => exact ⟨_, t⟩
theorem rep_cins {c : Nat} {ns : List Str} {ds : List D} {v : V} (h : Rep G A H (.cins c ns ds) v) : ∃ ws, RepL G A H ds ws := by
  cases h with
  | cins _ _ _ _ t => exact ⟨_, t⟩
mutual
/-- what held no error before holds none -/
theorem Rep.xw (hG : G.ex = none) {e : Addr × Str} : ∀ {d : D} {v w : V}, Rep (G.wx e) A H d v → Rep G A1 H1 d w → Rep G A H d v
  | _, _, _, .non, _ => .non
  | _, _, _, .bl b, _ => .bl b
  | _, _, _, .int i, _ => .int i
  | _, _, _, .str x, _ => .str x
  | _, _, _, .ty n, _ => .ty n
  | _, _, _, .own h, _ => .own h
  | _, _, _, .exn h, z => by
    cases z with
    | exn h' => rw [hG] at h'; cases h'
  | _, _, _, .ref h, _ => .ref h
  | _, _, _, .tup h t, z => by
    cases z with
    | tup _ t' => exact .tup h (RepL.xw hG t t')
  | _, _, _, .con h n m t, z => by
    cases z with
    | con _ _ _ t' => exact .con h n m (RepL.xw hG t t')
  | _, _, _, .cdic h n m t, z => by
    obtain ⟨ws, t'⟩ := rep_cdic z
    exact .cdic h n m (RepL.xw hG t t')
  | _, _, _, .cdit h n m t, z => by
    obtain ⟨ws, t'⟩ := rep_cdit z
    exact .cdit h n m (RepL.xw hG t t')
  | _, _, _, .cins g h n m t, z => by
    obtain ⟨ws, t'⟩ := rep_cins z
    exact .cins g h n m (RepL.xw hG t t')
  | _, _, _, .scr h t, z => by
    cases z with
    | scr _ t' => exact .scr h (RepL.xw hG t t')
theorem RepL.xw (hG : G.ex = none) {e : Addr × Str} : ∀ {ds : List D} {vs ws : List V}, RepL (G.wx e) A H ds vs → RepL G A1 H1 ds ws → RepL G A H ds vs
  | _, _, _, .nil, _ => .nil
  | _, _, _, .cons r t, z => by
    cases z with
    | cons r' t' => exact .cons (Rep.xw hG r r') (RepL.xw hG t t')
end
mutual
theorem Rep.xp {e : Addr × Str} : ∀ {d : D} {v : V}, Rep (G.wx e) A H d v → pureD d = true → Rep G A H d v
  | _, _, .non, _ => .non
  | _, _, .bl b, _ => .bl b
  | _, _, .int i, _ => .int i
  | _, _, .str x, _ => .str x
  | _, _, .ty n, h => by simp [pureD] at h
  | _, _, .own h, h' => by simp [pureD] at h'
  | _, _, .exn h, h' => by simp [pureD] at h'
  | _, _, .ref h, h' => by simp [pureD] at h'
  | _, _, .tup h t, p => .tup h (RepL.xp t (by simpa only [pureD] using p))
  | _, _, .con h n m t, p => .con h n m (RepL.xp t (by simpa only [pureD] using p))
  | _, _, .cdic h n m t, p => .cdic h n m (RepL.xp t (by simpa only [pureD] using p))
  | _, _, .scr h t, p => by simp [pureD] at p
  | _, _, .cdit h n m t, p => by simp [pureD] at p
  | _, _, .cins g h n m t, p => by simp [pureD] at p
theorem RepL.xp {e : Addr × Str} : ∀ {ds : List D} {vs : List V}, RepL (G.wx e) A H ds vs → pureL ds = true → RepL G A H ds vs
  | _, _, .nil, _ => .nil
  | _, _, .cons r t, p => by
    simp only [pureL, Bool.and_eq_true] at p
    exact .cons (Rep.xp r p.1) (RepL.xp t p.2)
end
theorem SRel.wx (hG : G.ex = none) (e : Addr × Str) (R : SRel G A H S) : SRel (G.wx e) A H S := by
  refine ⟨R.len, R.nd, R.shut, fun n o a h1 h2 => ?_⟩
  have q := R.obj n o a h1 h2
  cases o with
  | lst xs => obtain ⟨vs, e1, q⟩ := q; exact ⟨vs, e1, q.wx hG e⟩
  | dic kvs => obtain ⟨vs, e1, k, q⟩ := q; exact ⟨vs, e1, k, q.wx hG e⟩
  | ins c fs => obtain ⟨C, dx, vs, g, e1, k, q⟩ := q; exact ⟨C, dx, vs, g, e1, k, q.wx hG e⟩
  | dit kvs => obtain ⟨vs, e1, k, q⟩ := q; exact ⟨vs, e1, k, q.wx hG e⟩
  | lck kvs => obtain ⟨ob, vs, e1, k, q⟩ := q; exact ⟨ob, vs, e1, k, q.wx hG e⟩
theorem SRel.xw (hG : G.ex = none) {e : Addr × Str} (R : SRel (G.wx e) A H' S) (R0 : SRel G A H S) : SRel G A H' S := by
  refine ⟨R.len, R.nd, R.shut, fun n o a h1 h2 => ?_⟩
  have q := R.obj n o a h1 h2
  have q0 := R0.obj n o a h1 h2
  cases o with
  | lst xs => obtain ⟨vs, e1, q⟩ := q; obtain ⟨_, _, q0⟩ := q0; exact ⟨vs, e1, q.xw hG q0⟩
  | dic kvs => obtain ⟨vs, e1, k, q⟩ := q; obtain ⟨_, _, _, q0⟩ := q0; exact ⟨vs, e1, k, q.xw hG q0⟩
  | ins c fs => obtain ⟨C, dx, vs, g, e1, k, q⟩ := q; obtain ⟨_, _, _, _, _, _, q0⟩ := q0; exact ⟨C, dx, vs, g, e1, k, q.xw hG q0⟩
  | dit kvs => obtain ⟨vs, e1, k, q⟩ := q; obtain ⟨_, _, _, q0⟩ := q0; exact ⟨vs, e1, k, q.xw hG q0⟩
  | lck kvs => obtain ⟨ob, vs, e1, k, q⟩ := q; obtain ⟨_, _, _, _, q0⟩ := q0; exact ⟨ob, vs, e1, k, q.xw hG q0⟩
end
def spW (G : Gx) (Γ : Cal) (f : Nat) : Addr → Str → Hp → VK → Prop := fun a c H Q => ∃ A S, SRel (G.wx (a, c)) A H S ∧ FinE (G.wx (a, c)) A H (Γ.call f [.exn c] S) Q (fun _ _ _ => False)
section
variable {G : Gx} {X : Cx} {E : XK} {Γ : Cal} {n W : Nat} {pos : Pos}
theorem roomH_mark {k : Nat} {A : Around} {v : Option Value} (h : L2H.RoomH k A) : L2H.RoomH k (A.mark v) := ⟨h.dp, h.un⟩
theorem ps_word {k : Nat} {f : Addr} {fd : FuncData} {ps : List Str} {sp : Addr → Str → Hp → VK → Prop} {i : Nat} {nm g : Str} {pg pn pc pr : Pos} {a C : Addr} {oe : Obj} {c : Str} {pns : List (Addr × Obj)} (F : FnW X.prog X.w X.K X.mg X.base k f fd ps sp) (hr : L2H.RoomH k X.A) (hgd : X.A.guards = some [])
    (hz : Zc (.ref C) none oe) (hf : ∃ vs, oe.data = .fields vs) (hc : X.mg c = some (.ref C)) (hcn : c ∈ excNames) (hg : Gl X g) (hm : X.mg g = some (.ref f)) (hk : PySem.W.keepIn X.K (.ref f) = true) (hb : Binds X.K fd ps [])
    (hN : X.N[i]? = some nm) (hv : Vis X.env.scope nm) (hd : (nm == ("__debug__" : Str)) = false) (hcd : (nm == ("__classdict__" : Str)) = false) (hdg : (g == ("__debug__" : Str)) = false) :
    PSs (X.suite a ((a, oe) :: pns)) [.Return (some (.Call (.Name g pg) [.Name nm pn] [] pc)) pr] (fun D σ H => σ[i]? = some (some (.ref a)) ∧ sp a c H D.rt) := by
  have pe : PE (X.suite a ((a, oe) :: pns)) (.Call (.Name g pg) [.Name nm pn] [] pc) (fun σ H Q => σ[i]? = some (some (.ref a)) ∧ sp a c H Q) := by
    refine ⟨fun pins s σ H Q I h => wpAny_Call_Name_kw (ld_glob I hg hm ?_ hdg)⟩
    have ha : PA (X.suite a ((a, oe) :: pns)) [.Name nm pn] (tCons (tVar i) tNil) := pa_cons (pe_var hN hv hd hcd) pa_nil rfl
    refine PySem.W.callWith_K (h₀ := X.base) I.ok.mod.kin hk (thn (ha.run pc pins s σ H (fun vs H1 => vs = [.ref a] ∧ H1 = H) I ⟨_, h.1, rfl, rfl⟩) fun us s1 hh => ?_) rfl rfl
    obtain ⟨vs, H1, I1, r, rfl, rfl⟩ := hh
    refine ⟨I1.kIn, ?_⟩
    have eu : us = [.ref a] := by
      cases r with
      | cons r1 r2 => cases r2; cases r1; rfl
    subst eu
    have P1 := I1.pin (a, oe) (List.mem_append_left _ List.mem_cons_self)
    have hpin : L2H.PinOk X.stack H1 s1 (a, oe) := ⟨P1.1, P1.2.1, fun hm => (List.mem_cons.mp (I1.stkSub a hm)).elim P1.2.2.1 P1.2.2.2.1, P1.2.2.2.2⟩
    have b := hb s1 [.ref a] I1.kIn (by rw [List.append_nil, F.one]; rfl)
    rw [List.append_nil] at b
    refine wpAny_call (codeAny_mono (F.run (X.A.mark (some (.ref a))) X.stack s1 H1 ⟨[.ref a], []⟩ Q a oe C c (roomH_mark hr) hgd hz hf hc hcn hpin I1.env0 b h.2) fun r s' hq => ?_)
    match r, hq with
    | .error e, hq =>
      obtain ⟨_, _, _, _, _, _, _, _, _, _, _, _, z⟩ := hq
      exact z.elim
    | .ok (.ret u), hq => exact I1.after hq
    | .ok .next, hq => exact False.elim hq
    | .ok .brk, hq => exact False.elim hq
    | .ok .cont, hq => exact False.elim hq
  exact pss_one (ps_ret pe)
theorem s1_try {b : K} {c nm g : Str} {i f : Nat} {body : List Stmt} {np pg pn pc pr pos' : Pos} {R0 ga : Addr} {fd : FuncData} {ps : List Str} {ns : List Str} (xo : Xok G X n) (hG : G.ex = none) (hs : X.stack = X.env :: X.outer) (hf : X.env.frame = some X.env.locals) (hi : X.N[i]? = some nm)
    (hln : X.env.scope.names.lookup nm = some .local) (hd : (nm == ("__debug__" : Str)) = false) (hcd : (nm == ("__classdict__" : Str)) = false) (hgc : Gl X c) (hdc : (c == ("__debug__" : Str)) = false) (hmc : X.mg c = some (.ref R0)) (tk : Takes X (fun cls d _ H => E cls d H))
    (hgg : Gl X g) (hdg : (g == ("__debug__" : Str)) = false) (hmg : X.mg g = some (.ref ga)) (hk : PySem.W.keepIn X.K (.ref ga) = true) (hb : Binds X.K fd ps []) (F : FnW X.prog X.w X.K X.mg X.base n ga fd ps (spW G Γ f)) (hex : Exs X.K X.mg ns true)
    (hbody : ∀ (Wx : WX) (pns : List (Addr × Obj)) (xe : Value → Shared → Prop), Takes (X.tr pns xe) Wx → PassesOwn (model X.prog X.w) X.A X.env xe → SS G (X.tr pns xe) (fun cls d H => ∀ σ, Wx cls d σ H) Γ W b body) :
    S1 G X E Γ W (.tryW b c i f) (.Try body [.ExceptHandler (some (.Name c np)) (some nm) [.Return (some (.Call (.Name g pg) [.Name nm pn] [] pc)) pr] pos'] [] [] pos) := by
  have rH : L2H.RoomH n X.A := ⟨by have := xo.dp; omega, by have := xo.un; omega⟩
  let tb : WX → TS := fun Wx D σ H => ∀ (pns : List (Addr × Obj)) (xe : Value → Shared → Prop) (t : Takes (X.tr pns xe) Wx) (po : PassesOwn (model X.prog X.w) X.A X.env xe), (hbody Wx pns xe t po).choose D σ H
  let ts : Addr → Value → Option Addr → TS := fun a cls d D σ H => (i < σ.length → σ[i]? = some (some (.ref a))) ∧ ∃ (C : Addr) (x : Str), cls = .ref C ∧ d = none ∧ X.mg x = some (.ref C) ∧ x ∈ excNames ∧ spW G Γ f a x H D.rt
  refine ⟨_, ps_try_as (tb := tb) (ts := ts) (c := .ref R0) hs hf xo.nd hi hln ⟨hgc, hdc, .inl hmc⟩ tk (fun Wx pns xe t po => ?_) (fun a oe cls d pns hz hff => ?_), fun r s A H S D er R h => ?_⟩
  · exact ⟨fun pins s σ H D I h => (hbody Wx pns xe t po).choose_spec.1.run pins s σ H D I (h pns xe t po)⟩
  · refine ⟨fun pins s σ H D I h => ?_⟩
    obtain ⟨h1, C, x, rfl, rfl, hx, hxn, h2⟩ := h
    exact (ps_word (X := X) (i := i) (nm := nm) (g := g) (pns := pns) F rH xo.gd hz hff hx hxn hgg hmg hk hb hi (.inl hln) hd hcd hdg).run pins s σ H D I ⟨h1 (by
      have l := I.len
      have l2 : i < X.N.length := (List.getElem?_eq_some_iff.mp hi).1
      rw [l]; exact l2), h2⟩
  · simp only [evS] at h
    show tb _ D s H
    intro pns xe t po
    refine (hbody _ pns xe t po).choose_spec.2 r s A H S D er R ?_
    match q : evS Γ W b r S with
    | .ok (.nx ρ) S1 => rw [q] at h; exact h
    | .ok (.rt ρ) S1 => rw [q] at h; exact h
    | .ok (.ct ρ) S1 => rw [q] at h; exact h
    | .bad => rw [q] at h; exact h
    | .exc x S1 =>
      rw [q] at h
      simp only [tryR] at h
      split at h
      · rename_i hx
        intro A' H' C e1 R1 hm σ
        have hm : X.mg x = some (.ref C) := by rw [xo.mg]; exact hm
        refine ⟨true, hex.exm rfl x C R0 hx.2 hm (by rw [← hx.1]; exact hmc), fun _ a ha => ⟨?_, C, x, rfl, rfl, hm, hx.2, A', S1, R1.wx hG _, ?_⟩, fun z => by cases z⟩
        · intro hl
          exact List.getElem?_set_self (by simpa using hl)
        · unfold hotR at h
          split at h
          · rename_i d S2 e2
            split at h
            · rename_i hp
              obtain ⟨rfl, hp⟩ := hp
              rw [e2]
              intro A2 H2 v e3 R3 p3
              obtain ⟨B, rfl, hB⟩ := e3.pre
              have hB0 : B = [] := by
                have l1 := R3.len
                have l2 := R1.len
                rw [List.length_append] at l1
                exact List.length_eq_zero_iff.mp (by omega)
              subst hB0
              rw [List.append_nil] at R3 p3 e3
              exact h A' H2 v (e1.trans R R1 e3) (R3.xw hG R1) (p3.xp hp)
            · exact h.elim
          · exact h.elim
      · exact h.elim
end
end MP

namespace MP
open PySem L2
section
variable {G : Gx} {X : Cx} {E : XK} {Γ : Cal} {n W : Nat} {A A1 A' : List Addr} {H H1 H' : Hp} {S S1' S' : Store} {pos : Pos}
theorem lookup_rep {f : Str} : ∀ {fs : List (Str × D)} {vs : List (Str × V)}, fs.map (·.1) = vs.map (·.1) → RepL G A H (fs.map (·.2)) (vs.map (·.2)) → (fs.lookup f = none → vs.lookup f = none) ∧ ∀ d, fs.lookup f = some d → ∃ v, vs.lookup f = some v ∧ Rep G A H d v
  | [], [], _, _ => ⟨fun _ => rfl, fun d h => by cases h⟩
  | [], _ :: _, h, _ => by simp at h
  | _ :: _, [], h, _ => by simp at h
  | (g, x) :: fs, (g', y) :: vs, h, r => by
    simp only [List.map_cons, List.cons.injEq] at h
    obtain ⟨rfl, h⟩ := h
    simp only [List.map_cons] at r
    cases r with
    | cons r1 r2 =>
      obtain ⟨i1, i2⟩ := lookup_rep (f := f) h r2
      simp only [List.lookup_cons]
      cases e : f == g with
      | true => exact ⟨fun z => by simp at z, fun d z => by simp at z; subst z; exact ⟨y, rfl, r1⟩⟩
      | false => exact ⟨i1, i2⟩
theorem se_fld {c : Nat} {o : C} {f : Str} {eo : Expr} (xo : Xok G X n) (ho : SE G X E Γ o eo) (hc : ∀ C, G.mg (clsName c) = some (.ref C) → Cls X.K C ∧ NoAttr X.K C f) (hb : attributeBase eo f X.env (eval eo X.env) = eval eo X.env) : SE G X E Γ (.fld c o f) (.Attribute eo f pos) := by
  obtain ⟨to, po, qo⟩ := ho
  refine ⟨_, pe_fld po hb, fun r s A H S Q er R h => ?_⟩
  simp only [evE] at h
  refine qo r s A H S _ er R (h.bind R fun x S1 A1 H1 v _ e1 R1 p1 h1 => ?_)
  cases q : insOf S1 c x with
  | none => rw [q] at h1; exact h1.elim
  | some fs =>
    rw [q] at h1
    dsimp only [Option.bind_some] at h1
    cases q2 : fs.lookup f with
    | none => rw [q2] at h1; exact h1.elim
    | some d =>
      rw [q2] at h1
      obtain ⟨a, C, dx, vs, rfl, h2, h3, h4, h5⟩ := insOf_rep R1 p1 q
      obtain ⟨c1, c2⟩ := hc C h2
      obtain ⟨w, k1, k2⟩ := (lookup_rep (f := f) h4 h5).2 d q2
      exact ⟨a, C, dx, vs, w, rfl, h3, c1, c2, k1, h1.here R1 k2⟩
theorem se_om {c f' m' : Nat} {m : Str} {o as : C} {eo e : Expr} {es : List Expr} {k : Nat} {f C : Addr} {fd : FuncData} {ps : List Str} {apos : Pos} (ho : SE G X E Γ o eo) (hs : SA G X E Γ as (e :: es)) (hC : G.mg (clsName c) = some (.ref C)) (cl : Cls X.K C) (hm : Meth X.K C m f)
    (F : FnG X.prog X.w X.K X.mg X.base k f fd ps (spF G Γ f' m')) (hl : m' = (e :: es).length + 1) (has : as.len = (e :: es).length) (hr : Room k X.A) (hgd : X.A.guards = some []) (hb : Binds X.K fd ps []) (hx : Passes (L2.CX X.prog X.w) X E) (hbase : attributeBase eo m X.env (eval eo X.env) = eval eo X.env)
    (hfew : methodCallForm ((e :: es).length + ([] : List Keyword).length) (backTo pos (starEach (e :: es) X.env)) (backToKw pos (keywordEach [] X.env)) = true) (hline : (apos.endLine == pos.line) = true)
    (hst : starEach (e :: es) X.env = (false, eval e X.env) :: starEach es X.env) (hpl : (backTo pos (starEach es X.env)).any (·.1) = false) : SE G X E Γ (.omth c f' m o as) (.Call (.Attribute eo m apos) (e :: es) [] pos) := by
  obtain ⟨to, po, qo⟩ := ho
  obtain ⟨ts, pss, qs⟩ := hs
  refine ⟨_, pe_mtG po cl hm F hr hgd hb hx pss hbase hfew hline hst hpl, fun r s A H S Q er R h => ?_⟩
  simp only [evE] at h
  refine qo r s A H S _ er R (h.bind R fun x S1 A1 H1 v _ e1 R1 p1 h1 => ?_)
  cases q : insOf S1 c x with
  | none => rw [q] at h1; exact h1.elim
  | some fs =>
    rw [q] at h1
    dsimp only at h1
    by_cases hlk : fs.lookup m = none
    · rw [if_pos hlk] at h1
      obtain ⟨a, C', dx, vs, rfl, h2, h3, h4, h5⟩ := insOf_rep R1 p1 q
      obtain rfl : C' = C := by rw [hC] at h2; cases h2; rfl
      refine ⟨a, dx, vs, rfl, h3, (lookup_rep (f := m) h4 h5).1 hlk, ?_⟩
      refine qs r s A1 H1 S1 _ (er.ext R e1) R1 (h1.bind R1 fun ds S2 A2 H2 ws e0 e2 R2 p2 h6 => ?_)
      refine ⟨?_, A2, S2, x :: ds, R2, .cons (p1.ext R1 e2) p2, h6⟩
      have := evA_len _ _ _ _ _ e0
      rw [List.length_cons, ← p2.length, this, has, hl]
    · rw [if_neg hlk] at h1; exact h1.elim
theorem se_om0 {c f' m' : Nat} {m : Str} {o : C} {eo : Expr} {k : Nat} {f C : Addr} {fd : FuncData} {ps : List Str} {apos : Pos} (ho : SE G X E Γ o eo) (hC : G.mg (clsName c) = some (.ref C)) (cl : Cls X.K C) (hm : Meth X.K C m f)
    (F : FnG X.prog X.w X.K X.mg X.base k f fd ps (spF G Γ f' m')) (hl : m' = 1) (hr : Room k X.A) (hgd : X.A.guards = some []) (hb : Binds X.K fd ps []) (hx : Passes (L2.CX X.prog X.w) X E) (hbase : attributeBase eo m X.env (eval eo X.env) = eval eo X.env) (hline : (apos.endLine == pos.line) = true) : SE G X E Γ (.omth c f' m o .nil) (.Call (.Attribute eo m apos) [] [] pos) := by
  obtain ⟨to, po, qo⟩ := ho
  refine ⟨_, pe_mt0G po cl hm F hr hgd hb hx hbase hline, fun r s A H S Q er R h => ?_⟩
  simp only [evE, evA] at h
  refine qo r s A H S _ er R (h.bind R fun x S1 A1 H1 v _ e1 R1 p1 h1 => ?_)
  cases q : insOf S1 c x with
  | none => rw [q] at h1; exact h1.elim
  | some fs =>
    rw [q] at h1
    dsimp only at h1
    by_cases hlk : fs.lookup m = none
    · rw [if_pos hlk] at h1
      obtain ⟨a, C', dx, vs, rfl, h2, h3, h4, h5⟩ := insOf_rep R1 p1 q
      obtain rfl : C' = C := by rw [hC] at h2; cases h2; rfl
      exact ⟨a, dx, vs, rfl, h3, (lookup_rep (f := m) h4 h5).1 hlk, hl.symm, A1, S1, [x], R1, .cons p1 .nil, h1⟩
    · rw [if_neg hlk] at h1; exact h1.elim
theorem se_make {c f' m' : Nat} {x : Str} {as : C} {e : Expr} {es : List Expr} {k : Nat} {f C : Addr} {fd : FuncData} {ps : List Str} {p : Pos} (hs : SA G X E Γ as (e :: es)) (hx0 : x = clsName c) (hC : G.mg (clsName c) = some (.ref C)) (hmg : X.mg = G.mg) (M : Mk X.K C f)
    (F : FnG X.prog X.w X.K X.mg X.base k f fd ps (spF G Γ f' m')) (hl : m' = (e :: es).length + 1) (has : as.len = (e :: es).length) (hr : Room (k + 1) X.A) (hgd : X.A.guards = some []) (hb : Binds X.K fd ps []) (hx : Passes (L2.CX X.prog X.w) X E) (hg : Gl X x) (hdb : (x == ("__debug__" : Str)) = false)
    (he : starEach (e :: es) X.env = (false, eval e X.env) :: starEach es X.env) (hpl : (backTo pos (starEach es X.env)).any (·.1) = false) : SE G X E Γ (.make c f' as) (.Call (.Name x p) (e :: es) [] pos) := by
  obtain ⟨ts, pss, qs⟩ := hs
  subst hx0
  refine ⟨_, pe_mkG M F hr hgd hg (by rw [hmg]; exact hC) hb hx pss hdb he hpl, fun r s A H S Q er R h => ?_⟩
  simp only [evE] at h
  refine qs r s A H S _ er R (h.bind R fun ds S1 A1 H1 ws e0 e1 R1 p1 h1 => ?_)
  intro a dx ha hdx hne
  have R2 : SRel G A1 (upd H1 dx (.own a)) S1 := R1.laid hdx
  have x2 : Ext A1 H1 A1 (upd H1 dx (.own a)) := ext_laid hdx
  have ha2 : upd H1 dx (.own a) a = none := by rw [upd_ne (Ne.symm hne)]; exact ha
  have R3 : SRel G (A1 ++ [a]) (upd (upd H1 dx (.own a)) a (.ins C dx [])) (S1 ++ [.ins c []]) := R2.new ha2 ⟨C, dx, [], hC, upd_same, rfl, .nil⟩
  have x3 : Ext A1 (upd H1 dx (.own a)) (A1 ++ [a]) (upd (upd H1 dx (.own a)) a (.ins C dx [])) := ext_new ha2
  have x13 := x2.trans R1 R2 x3
  refine ⟨?_, A1 ++ [a], S1 ++ [.ins c []], .ref S1.length :: ds, R3, .cons (.ref (new_ix R2 a)) (p1.ext R1 x13), ?_⟩
  · have := evA_len _ _ _ _ _ e0
    rw [List.length_cons, ← p1.length, this, has, hl]
  · have h2 := Fin.mono R1 R3 x13 h1
    refine h2.bind R3 fun d S4 A4 H4 v _ e4 R4 p4 h4 => ?_
    cases d <;> try exact h4.elim
    cases p4
    exact ⟨rfl, h4.here R4 (.ref (e4.ix (new_ix R2 a)))⟩

theorem lock_in {d : D} {v : V} {ks : List D} {S1 : Store} (R : SRel G A H S) (p : Rep G A H d v) (e : lockIn d S = some (ks, S1)) :
    ∃ (a : Addr) (vs : List (Key × V)), v = .ref a ∧ ks = vs.map (fun kv => kD kv.1) ∧
      ((∃ ob, H a = some (.frz ob (.dK vs)) ∧ a ∉ A ∧ S1 = S ∧ ∀ S', lockOut d S' = some S') ∨
       (H a = some (.dK vs) ∧ ∀ od, SRel G A (upd H a (.frz od (.dK vs))) S1 ∧ ∀ A' H' S', Ext A (upd H a (.frz od (.dK vs))) A' H' → SRel G A' H' S' → ∀ S'', lockOut d S' = some S'' → H' a = some (.frz od (.dK vs)) ∧ Ext A H A' (upd H' a (.dK vs)) ∧ SRel G A' (upd H' a (.dK vs)) S'')) := by
  have sw : ∀ {a : Addr} {vs : List (Key × V)} {od : Obj} {H : Hp}, H a = some (.dK vs) → Swp a vs H (upd H a (.frz od (.dK vs))) := fun {a vs od H} h => ⟨.inl h, .inr ⟨od, upd_same⟩, fun p hp => upd_ne hp⟩
  have sw' : ∀ {a : Addr} {vs : List (Key × V)} {od : Obj} {H : Hp}, H a = some (.frz od (.dK vs)) → Swp a vs H (upd H a (.dK vs)) := fun {a vs od H} h => ⟨.inr ⟨od, h⟩, .inl upd_same, fun p hp => upd_ne hp⟩
  have ext : ∀ {a : Addr} {vs : List (Key × V)} {od : Obj} {A' : List Addr} {H' : Hp}, H a = some (.dK vs) → Ext A (upd H a (.frz od (.dK vs))) A' H' → Ext A H A' (upd H' a (.dK vs)) := fun {a vs od A' H'} h x => by
    obtain ⟨B, rfl, hB⟩ := x.pre
    refine ⟨⟨B, rfl, fun b hb => ?_⟩, fun q o hq hn => ?_⟩
    · have z := hB b hb
      rw [upd_ne fun e => by rw [e, upd_same] at z; cases z] at z
      exact z
    · by_cases e : q = a
      · subst e
        rw [h] at hq
        cases hq
        exact upd_same
      · rw [upd_ne e]
        exact x.keep' q o (by rw [upd_ne e]; exact hq) hn
  cases d with
  | cdic ks' ds =>
    simp only [lockIn, Option.some.injEq, Prod.mk.injEq] at e
    obtain ⟨rfl, rfl⟩ := e
    cases p with
    | @cdic a vs _ h n m t =>
      refine ⟨a, vs, rfl, by rw [List.map_map]; rfl, ?_⟩
      rcases h with h | ⟨ob, h⟩
      · refine .inr ⟨h, fun od => ⟨R.swapOut (sw h) n, fun A' H' S' x R' S'' e' => ?_⟩⟩
        simp only [lockOut, Option.some.injEq] at e'
        subst e'
        have hk := x.keep' a _ upd_same (.inr rfl)
        exact ⟨hk, ext h x, R'.swapOut (sw' hk) (x.outR (.inl upd_same) n)⟩
      · exact .inl ⟨ob, h, n, rfl, fun S' => rfl⟩
  | ref n =>
    simp only [lockIn] at e
    split at e
    · rename_i kvs q
      simp only [Option.some.injEq, Prod.mk.injEq] at e
      obtain ⟨rfl, rfl⟩ := e
      obtain ⟨a, vs, rfl, h0, h1, h2, h3⟩ := rep_dic R p q
      refine ⟨a, vs, rfl, ?_, .inr ⟨h1, fun od => ⟨R.swapIn (sw h1) h0 ⟨od, vs, upd_same, h2, h3.swap (sw h1)⟩, fun A' H' S' x R' S'' e' => ?_⟩⟩⟩
      · rw [show (kvs.map fun kv => kD kv.1) = (kvs.map (·.1)).map kD by rw [List.map_map]; rfl, h2, List.map_map]; rfl
      · have hk := x.keep' a _ upd_same (.inr rfl)
        simp only [lockOut] at e'
        split at e'
        · rename_i kvs' q'
          cases e'
          have h0' := x.ix h0
          obtain ⟨ob, vs', g1, g2, g3⟩ := R'.obj n _ a q' h0'
          rw [hk] at g1
          cases g1
          exact ⟨hk, ext h1 x, R'.swapIn (sw' hk) h0' ⟨vs, upd_same, g2, g3.swap (sw' hk)⟩⟩
        · cases e'
    · cases e
  | _ => simp [lockIn] at e
theorem jrep_keys {a : Addr} {od : Obj} {vs : List (Key × V)} (hd : H a = some (.frz od (.dK vs))) : JRep G A H (.fix (vs.map fun kv => kD kv.1)) (Itk a od vs) := by
  intro b0 hb0 i A' H' S' e R
  have hk := e.keep' a _ hd (.inr rfl)
  constructor
  · intro q
    simp only [Src.at, Option.some.injEq, List.getElem?_map, Option.map_eq_none_iff] at q
    exact ⟨hk, List.getElem?_eq_none_iff.mp q⟩
  · intro x q
    simp only [Src.at, Option.some.injEq, List.getElem?_map, Option.map_eq_some_iff] at q
    obtain ⟨kv, q1, rfl⟩ := q
    refine ⟨⟨hk, (List.getElem?_eq_some_iff.mp q1).1⟩, fun u H'' y => ?_⟩
    obtain ⟨rfl, k, v, y1, rfl⟩ := y
    rw [q1] at y1
    cases y1
    exact ⟨.refl, R, kD_rep _⟩
theorem ps_or {st : Stmt} {t u : TS} (h : PS X st t) (h' : PS X st u) : PS X st (fun D σ H => t D σ H ∨ u D σ H) :=
  ⟨fun pins s σ H D I q => q.elim (h.run pins s σ H D I) (h'.run pins s σ H D I)⟩
theorem pe_or' {e : Expr} {t u : TE} (h : PE X e t) (h' : PE X e u) : PE X e (fun σ H Q => t σ H Q ∨ u σ H Q) :=
  ⟨fun pins s σ H Q I q => q.elim (h.run pins s σ H Q I) (h'.run pins s σ H Q I)⟩
def lkE (D : Ends) (a : Addr) (od : Obj) (u : HO) : Ends := ⟨fun σ' H' => H' a = some (.frz od u) ∧ D.nx σ' (upd H' a u), fun v H' => H' a = some (.frz od u) ∧ D.rt v (upd H' a u), fun σ' H' => H' a = some (.frz od u) ∧ D.bk σ' (upd H' a u), fun σ' H' => H' a = some (.frz od u) ∧ D.ct σ' (upd H' a u)⟩
theorem fs_unlock {d : D} {a : Addr} {vs : List (Key × V)} {od : Obj} {r : Res Fl} {D : Ends} (hd : H a = some (.dK vs))
    (out : ∀ A' H' S', Ext A (upd H a (.frz od (.dK vs))) A' H' → SRel G A' H' S' → ∀ S'', lockOut d S' = some S'' → H' a = some (.frz od (.dK vs)) ∧ Ext A H A' (upd H' a (.dK vs)) ∧ SRel G A' (upd H' a (.dK vs)) S'')
    (h : FS G A H (lockE d r) D E) : FS G A (upd H a (.frz od (.dK vs))) r (lkE D a od (.dK vs)) E := by
  have sw' : ∀ {H : Hp}, H a = some (.frz od (.dK vs)) → Swp a vs H (upd H a (.dK vs)) := fun {H} h => ⟨.inr ⟨od, h⟩, .inl upd_same, fun p hp => upd_ne hp⟩
  unfold lockE at h
  cases r with
  | bad => exact h
  | exc c S' => exact h.elim
  | ok f S' =>
    dsimp only at h
    cases q : lockOut d S' with
    | none => rw [q] at h; exact h.elim
    | some S'' =>
      rw [q] at h
      cases f with
      | nx ρ => exact fun A' H' σ' x R' er => let ⟨k, x', R2⟩ := out A' H' S' x R' S'' q; ⟨k, h A' _ σ' x' R2 (er.swap (sw' k))⟩
      | rt v => exact fun A' H' w x R' p => let ⟨k, x', R2⟩ := out A' H' S' x R' S'' q; ⟨k, h A' _ w x' R2 (p.swap (sw' k))⟩
      | ct ρ => exact fun A' H' σ' x R' er => let ⟨k, x', R2⟩ := out A' H' S' x R' S'' q; ⟨k, h A' _ σ' x' R2 (er.swap (sw' k))⟩
theorem fs_noLock {d : D} {r : Res Fl} {D : Ends} (out : ∀ S', lockOut d S' = some S') (h : FS G A H (lockE d r) D E) : FS G A H r D E := by
  unfold lockE at h
  cases r with
  | bad => exact h
  | exc c S' => exact h.elim
  | ok f S' =>
    dsimp only at h
    rw [out S'] at h
    exact h
theorem for_core {tg : Tg} {b : K} {tb : TS} {src : Src} {J : L2.It} {r : Env} {s : St} {D : Ends} (hK : X.K = G.K) (qb : ∀ r s A H S D, ERel G A H r s → SRel G A H S → FS G A H (evS Γ W b r S) D E → tb D s H) (R1 : SRel G A1 H1 S) (er1 : ERel G A1 H1 r s) (hJ : JRep G A1 H1 src J) (m : Nat)
    (h1 : FS G A1 H1 (forL src (turnS Γ W tg b) m 0 r S) D E) : ∃ Iv : Nat → Nat → St → Hp → Prop, (∃ m, Iv 0 m s H1) ∧ ∀ i m σ H, Iv i m σ H → (J.stop i H ∧ D.nx σ H) ∨ (J.go i H ∧ ∃ Nx : St → Hp → Prop, (∀ σ' H', Nx σ' H' → ∃ m', m' < m ∧ Iv (i + 1) m' σ' H') ∧
      ∀ x H', J.yld i H x H' → tg.rd X.K x σ H' fun σ2 H2 => tb ⟨Nx, D.rt, D.nx, Nx⟩ σ2 H2) := by
  refine ⟨fun i m σ H' => ∃ A' ρ S', Ext A1 H1 A' H' ∧ SRel G A' H' S' ∧ ERel G A' H' ρ σ ∧ FS G A' H' (forL src (turnS Γ W tg b) m i ρ S') D E, ⟨m, A1, r, S, .refl, R1, er1, h1⟩, ?_⟩
  rintro i m σ H' ⟨A', ρ, S', x1, R', er', f1⟩
  obtain ⟨jstop, jgo⟩ := hJ.now i A' H' S' x1 R'
  cases q : src.at i S' with
  | none => cases m <;> (simp only [forL, q] at f1; exact f1.elim)
  | some o =>
    cases o with
    | none =>
      refine .inl ⟨jstop q, ?_⟩
      cases m <;> (simp only [forL, q] at f1; exact f1 A' H' σ .refl R' er')
    | some y =>
      cases m with
      | zero => simp only [forL, q] at f1; exact f1.elim
      | succ m =>
        simp only [forL, q] at f1
        obtain ⟨go, yld⟩ := jgo y q
        refine .inr ⟨go, fun σ' H'' => ∃ A'' ρ' S'', Ext A1 H1 A'' H'' ∧ SRel G A'' H'' S'' ∧ ERel G A'' H'' ρ' σ' ∧ FS G A'' H'' (forL src (turnS Γ W tg b) m (i + 1) ρ' S'') D E, fun σ' H'' ⟨A'', ρ', S'', z⟩ => ⟨m, by omega, A'', ρ', S'', z⟩, ?_⟩
        intro v H2 hy
        obtain ⟨x2, R2, p2⟩ := yld v H2 hy
        have er2 := er'.ext R' x2
        have x12 : Ext A1 H1 A' H2 := x1.trans R1 R' x2
        have f2 := FS.mono R' R2 x2 f1
        unfold turnS at f2
        rw [hK]
        cases q3 : tg.set y ρ with
        | none => rw [q3] at f2; exact f2.elim
        | some ρ2 =>
          rw [q3] at f2
          refine tg_ok p2 er2 q3 fun σ2 er3 _ => ?_
          refine qb ρ2 σ2 A' H2 S' _ er3 R2 ?_
          dsimp only at f2
          cases qe : evS Γ W b ρ2 S' with
          | bad => rw [qe] at f2; exact f2
          | exc c' S3 => rw [qe] at f2; exact f2
          | ok fl S3 =>
            rw [qe] at f2
            dsimp only [Res.bind] at f2
            cases fl with
            | nx ρ' => exact fun A3 H3 σ3 e3 R3 er4 => ⟨A3, ρ', S3, x12.trans R1 R2 e3, R3, er4, FS.mono R2 R3 e3 f2⟩
            | ct ρ' => exact fun A3 H3 σ3 e3 R3 er4 => ⟨A3, ρ', S3, x12.trans R1 R2 e3, R3, er4, FS.mono R2 R3 e3 f2⟩
            | rt d => exact f2
theorem s1_forK {i j : Nat} {x : Str} {px : Pos} {b : K} {etg : Expr} {bs : List Stmt} {sc : Scope} (xo : Xok G X n) (hcm : X.calm = true) (hp : PassesOwn (model X.prog X.w) X.A X.env X.xe) (cs : CanSet X sc) (htg : (Tg.one i).ok X.N sc etg = true)
    (hN : X.N[j]? = some x) (hv : Vis X.env.scope x) (hd : (x == ("__debug__" : Str)) = false) (hcd : (x == ("__classdict__" : Str)) = false)
    (hb : SS G X E Γ W b bs) : S1 G X E Γ W (.forK i j b) (.For etg (.Name x px) bs [] pos) := by
  obtain ⟨tb, pb, qb⟩ := hb
  have pf := ps_for (pos := pos) hp hcm (pi_keys (tg := etg) (pe_var (pos := px) hN hv hd hcd)) (pg_tg hcm xo.nd cs htg) pb (fun _ => rfl)
  refine ⟨_, ps_or pf (ps_lock pf), fun r s A H S D er R h => ?_⟩
  simp only [evS] at h
  cases q : r[j]? with
  | none => rw [q] at h; exact h.elim
  | some o =>
    cases o with
    | none => rw [q] at h; exact h.elim
    | some d =>
      rw [q] at h
      obtain ⟨v, e1, p1⟩ := er.2 j d q
      dsimp only at h
      unfold lockR at h
      cases q2 : lockIn d S with
      | none => rw [q2] at h; exact h.elim
      | some kS =>
        obtain ⟨ks, S1⟩ := kS
        rw [q2] at h
        dsimp only at h
        obtain ⟨a, vs, rfl, rfl, hh⟩ := lock_in R p1 q2
        have tw : (fun v r S => evS Γ W b (r.set i (some v)) S) = turnS Γ W (.one i) b := by
          funext v r S
          simp [turnS, Tg.set]
        rw [tw] at h
        rcases hh with ⟨ob, hk, hn, rfl, out⟩ | ⟨hk, hh⟩
        · exact .inl ⟨_, e1, a, ob, rfl, .inl ⟨vs, hk, for_core xo.K qb R er (jrep_keys hk) _ (fs_noLock out h)⟩⟩
        · refine .inr ⟨a, _, hk, trivial, fun od => ?_⟩
          obtain ⟨R1, out⟩ := hh od
          have w : Swp a vs H (upd H a (.frz od (.dK vs))) := ⟨.inl hk, .inr ⟨od, upd_same⟩, fun p hp => upd_ne hp⟩
          exact ⟨_, e1, a, od, rfl, .inl ⟨vs, upd_same, for_core xo.K qb R1 (er.swap w) (jrep_keys upd_same) _ (fs_unlock hk out h)⟩⟩
theorem fin_unlock {d : D} {a : Addr} {vs : List (Key × V)} {od : Obj} {r : Res D} {Q : VK} (hd : H a = some (.dK vs))
    (out : ∀ A' H' S', Ext A (upd H a (.frz od (.dK vs))) A' H' → SRel G A' H' S' → ∀ S'', lockOut d S' = some S'' → H' a = some (.frz od (.dK vs)) ∧ Ext A H A' (upd H' a (.dK vs)) ∧ SRel G A' (upd H' a (.dK vs)) S'')
    (h : FinE G A H (lockE d r) Q E) : FinE G A (upd H a (.frz od (.dK vs))) r (fun v H' => H' a = some (.frz od (.dK vs)) ∧ Q v (upd H' a (.dK vs))) E := by
  have sw' : ∀ {H : Hp}, H a = some (.frz od (.dK vs)) → Swp a vs H (upd H a (.dK vs)) := fun {H} h => ⟨.inr ⟨od, h⟩, .inl upd_same, fun p hp => upd_ne hp⟩
  unfold lockE at h
  cases r with
  | bad => exact h
  | exc c S' => exact h.elim
  | ok f S' =>
    dsimp only at h
    cases q : lockOut d S' with
    | none => rw [q] at h; exact h.elim
    | some S'' =>
      rw [q] at h
      exact fun A' H' w x R' p => let ⟨k, x', R2⟩ := out A' H' S' x R' S'' q; ⟨k, h A' _ w x' R2 (p.swap (sw' k))⟩
theorem fin_noLock {d : D} {r : Res D} {Q : VK} (out : ∀ S', lockOut d S' = some S') (h : FinE G A H (lockE d r) Q E) : FinE G A H r Q E := by
  unfold lockE at h
  cases r with
  | bad => exact h
  | exc c S' => exact h.elim
  | ok f S' =>
    dsimp only at h
    rw [out S'] at h
    exact h
theorem se_lcK {qq : Bool} {i j : Nat} {cond elt : C} {etg eelt : Expr} {x : Str} {px : Pos} {ifs : List Expr} {scope : Scope} {own : List (Str × Nat)} (xo : Xok G X n) (hc : X.calm = true) (hN : X.N[j]? = some x) (hv : Vis X.env.scope x) (hd : (x == ("__debug__" : Str)) = false) (hcd : (x == ("__classdict__" : Str)) = false)
    (ok : BlkOk X.N X.env.scope scope own) (hown : own.map (·.2) = (Tg.one i).slots) (htg : (Tg.one i).ok X.N scope etg = true) (hT : ∀ (b : List Addr) (p : BlkIx), ∃ t, PTs (blkOf X scope p) ifs t ∧ SndB (G.wb b) E0' Γ cond t) (hE : ∀ (b : List Addr) (p : BlkIx), SE (G.wb b) (blkOf X scope p) E0' Γ elt eelt) :
    SE G X E Γ (.lcK qq i j cond elt) (.ListComp eelt [⟨etg, .Name x px, ifs, 0⟩] scope pos) := by
  obtain ⟨tt, pt, qt⟩ := anyT (Z := fun b => SndB (G.wb b) E0' Γ cond) (fun b ts h => sndB_all h) (fun b t t' h k r s A H S Q er R f => k _ _ _ (h r s A H S Q er R f)) hT
  obtain ⟨te, pe, qe⟩ := anyE (Z := fun b => SndE (G.wb b) E0' Γ elt) (fun b ts h => sndE_all h) (fun b t t' h k r s A H S Q er R f => k _ _ _ (h r s A H S Q er R f)) hE
  have hg : ∀ p : BlkIx, PG (blkOf X scope p) etg ((Tg.one i).rd X.K) := fun p => pg_tg (X := blkOf X scope p) hc xo.nd canSet_blk htg
  have pl := pe_lc (pos := pos) (g := (Tg.one i).rd X.K) hc xo.nd (pi_keys (tg := etg) (pe_var (pos := px) hN hv hd hcd)) ok (fun s H C cl fp => hg (s, H, C, cl, fp)) (fun s H C cl fp => pt (s, H, C, cl, fp)) (fun s H C cl fp => pe (s, H, C, cl, fp)) (fun _ => rfl)
  refine ⟨_, pe_or' pl (pe_lock pl), fun r s A H S Q er R h => ?_⟩
  simp only [evE] at h
  cases q : r[j]? with
  | none => rw [q] at h; exact h.elim
  | some o =>
    cases o with
    | none => rw [q] at h; exact h.elim
    | some d =>
      rw [q] at h
      obtain ⟨v, e1, p1⟩ := er.2 j d q
      dsimp only at h
      unfold lockR at h
      cases q2 : lockIn d S with
      | none => rw [q2] at h; exact h.elim
      | some kS =>
        obtain ⟨ks, S1⟩ := kS
        rw [q2] at h
        dsimp only at h
        obtain ⟨a, vs, rfl, rfl, hh⟩ := lock_in R p1 q2
        have tw : (fun v S => (condD (evE Γ cond ((wipeD r [i]).set i (some v)) S) (evE Γ elt ((wipeD r [i]).set i (some v)))).noX) = turnD Γ (.one i) cond elt r := by
          funext v S
          simp [turnD, Tg.set, Tg.slots]
        rw [tw] at h
        by_cases hl : (vs.map fun kv => kD kv.1).length ≤ lim
        · rw [if_pos hl] at h
          rcases hh with ⟨ob, hk, hn, rfl, out⟩ | ⟨hk, hh⟩
          · refine .inl ⟨_, e1, a, ob, rfl, .inl ⟨vs, hk, fun D0 hD => ?_⟩⟩
            rw [hown, xo.K]
            exact lc_core' qt qe R er (jrep_keys hk) hD _ hl (fin_noLock out h)
          · refine .inr ⟨a, _, hk, trivial, fun od => ?_⟩
            obtain ⟨R1, out⟩ := hh od
            have w : Swp a vs H (upd H a (.frz od (.dK vs))) := ⟨.inl hk, .inr ⟨od, upd_same⟩, fun p hp => upd_ne hp⟩
            refine ⟨_, e1, a, od, rfl, .inl ⟨vs, upd_same, fun D0 hD => ?_⟩⟩
            rw [hown, xo.K]
            exact lc_core' qt qe R1 (er.swap w) (jrep_keys upd_same) hD _ hl (fin_unlock hk out h)
        · rw [if_neg hl] at h; exact h.elim
theorem s1_setLcK {qq : Bool} {i0 i j : Nat} {y : Str} {py : Pos} {cond elt : C} {etg eelt : Expr} {x : Str} {px : Pos} {ifs : List Expr} {scope : Scope} {own : List (Str × Nat)} {lpos : Pos} (xo : Xok G X n) (hc : X.calm = true) (hy : X.N[i0]? = some y) (hyl : X.env.scope.names.lookup y = some .local)
    (hsw : swapsWith (.ListComp eelt [⟨etg, .Name x px, ifs, 0⟩] scope lpos) (some (.Name y py)) pos.line X.env = pure true)
    (hN : X.N[j]? = some x) (hv : Vis X.env.scope x) (hd : (x == ("__debug__" : Str)) = false) (hcd : (x == ("__classdict__" : Str)) = false)
    (ok : BlkOk X.N X.env.scope scope own) (hown : own.map (·.2) = (Tg.one i).slots) (htg : (Tg.one i).ok X.N scope etg = true) (hT : ∀ (b : List Addr) (p : BlkIx), ∃ t, PTs (blkOf X scope p) ifs t ∧ SndB (G.wb b) E0' Γ cond t) (hE : ∀ (b : List Addr) (p : BlkIx), SE (G.wb b) (blkOf X scope p) E0' Γ elt eelt) :
    S1 G X E Γ W (.set i0 (.lcK qq i j cond elt)) (.Assign [.Name y py] (.ListComp eelt [⟨etg, .Name x px, ifs, 0⟩] scope lpos) pos) := by
  obtain ⟨tt, pt, qt⟩ := anyT (Z := fun b => SndB (G.wb b) E0' Γ cond) (fun b ts h => sndB_all h) (fun b t t' h k r s A H S Q er R f => k _ _ _ (h r s A H S Q er R f)) hT
  obtain ⟨te, pe, qe⟩ := anyE (Z := fun b => SndE (G.wb b) E0' Γ elt) (fun b ts h => sndE_all h) (fun b t t' h k r s A H S Q er R f => k _ _ _ (h r s A H S Q er R f)) hE
  have hg : ∀ p : BlkIx, PG (blkOf X scope p) etg ((Tg.one i).rd X.K) := fun p => pg_tg (X := blkOf X scope p) hc xo.nd canSet_blk htg
  have pl := ps_setLc (pos := lpos) (g := (Tg.one i).rd X.K) hc xo.nd hy hyl hsw (pi_keys (tg := etg) (pe_var (pos := px) hN hv hd hcd)) ok (fun s H C cl fp => hg (s, H, C, cl, fp)) (fun s H C cl fp => pt (s, H, C, cl, fp)) (fun s H C cl fp => pe (s, H, C, cl, fp)) (fun _ => rfl)
  refine ⟨_, ps_or pl (ps_lock pl), fun r s A H S D er R h => ?_⟩
  simp only [evS] at h
  have h2 : FinE G A H (evE Γ (.lcK qq i j cond elt) r S) (fun x H1 => gName i0 x s H1 D.nx) E := h.bindE R fun d S1 A1 H1 v _ e1 R1 p1 h1 => h1 A1 H1 _ .refl R1 ((er.ext R e1).set p1)
  clear h
  simp only [evE] at h2
  cases q : r[j]? with
  | none => rw [q] at h2; exact h2.elim
  | some o =>
    cases o with
    | none => rw [q] at h2; exact h2.elim
    | some d =>
      rw [q] at h2
      obtain ⟨v, e1, p1⟩ := er.2 j d q
      dsimp only at h2
      unfold lockR at h2
      cases q2 : lockIn d S with
      | none => rw [q2] at h2; exact h2.elim
      | some kS =>
        obtain ⟨ks, S1⟩ := kS
        rw [q2] at h2
        dsimp only at h2
        obtain ⟨a, vs, rfl, rfl, hh⟩ := lock_in R p1 q2
        have tw : (fun v S => (condD (evE Γ cond ((wipeD r [i]).set i (some v)) S) (evE Γ elt ((wipeD r [i]).set i (some v)))).noX) = turnD Γ (.one i) cond elt r := by
          funext v S
          simp [turnD, Tg.set, Tg.slots]
        rw [tw] at h2
        by_cases hl : (vs.map fun kv => kD kv.1).length ≤ lim
        · rw [if_pos hl] at h2
          rcases hh with ⟨ob, hk, hn, rfl, out⟩ | ⟨hk, hh⟩
          · refine .inl ⟨_, e1, a, ob, rfl, .inl ⟨vs, hk, fun D0 hD => ?_⟩⟩
            rw [hown, xo.K]
            exact lc_core' qt qe R er (jrep_keys hk) hD _ hl (fin_noLock out h2)
          · refine .inr ⟨a, _, hk, trivial, fun od => ?_⟩
            obtain ⟨R1, out⟩ := hh od
            have w : Swp a vs H (upd H a (.frz od (.dK vs))) := ⟨.inl hk, .inr ⟨od, upd_same⟩, fun p hp => upd_ne hp⟩
            refine ⟨_, e1, a, od, rfl, .inl ⟨vs, upd_same, fun D0 hD => ?_⟩⟩
            rw [hown, xo.K]
            exact lc_core' qt qe R1 (er.swap w) (jrep_keys upd_same) hD _ hl (fin_unlock hk out h2)
        · rw [if_neg hl] at h2; exact h2.elim
end
end MP

namespace MP
open PySem L2
def visB (sc : Scope) (x : Str) : Bool := match sc.names.lookup x with
  | some .local => true
  | some .cell => true
  | some .free => true
  | _ => false
def glB (sc : Scope) (x : Str) : Bool := decide (sc.names.lookup x = some .globalImplicit)
def okN (x : Str) : Bool := !(x == ("__debug__" : Str)) && !(x == ("__classdict__" : Str)) && !decide (x = ("__name__" : Str))
def freeB (T : Tab) (sc : Scope) (x : Str) : Bool := glB sc x && T.free.contains x && okN x
def plainE : Expr → Bool
  | .Starred _ _ => false
  | _ => true
def notSet : Expr → Bool
  | .Set _ _ _ => false
  | _ => true
def notSlice : Expr → Bool
  | .Slice _ _ _ _ => false
  | _ => true
def notComp : Expr → Bool
  | .ListComp _ _ _ _ => false
  | .SetComp _ _ _ _ => false
  | .DictComp _ _ _ _ _ => false
  | _ => true
def tstOk : Expr → Bool
  | .Compare _ _ _ _ => true
  | .BoolOp _ _ _ => true
  | .UnaryOp .Not _ _ => true
  | .Call _ _ _ _ => true
  | .Name _ _ => true
  | _ => false
def baseOk : Expr → Bool
  | .Name _ _ => true
  | .Attribute _ _ _ => true
  | .Subscript _ _ _ => true
  | .Constant _ _ _ => true
  | _ => false
def isTuple : Expr → Bool
  | .Tuple _ _ _ => true
  | _ => false
def isName : Expr → Bool
  | .Name _ _ => true
  | _ => false
def tyName : String → Option Str
  | "int" => some "int"
  | "bool" => some "bool"
  | "str" => some "str"
  | "tuple" => some "tuple"
  | "list" => some "list"
  | "dict" => some "dict"
  | "ValueError" => some "ValueError"
  | _ => none
def Bf.name : Bf → Str
  | .len => "len" | .isi => "isinstance" | .all => "all" | .any => "any" | .sum => "sum" | .max2 => "max" | .min2 => "min" | .max1 => "max" | .min1 => "min"
  | .sorted => "sorted" | .list => "list" | .tuple => "tuple" | .repr => "repr" | .int => "int" | .isx => "isinstance" | .lens => "len" | .sset => "sorted" | .dict => "dict" | .mind => "min" | .dictT => "dict"
def Bf.isKw : Bf → Bool
  | .mind => true
  | _ => false
def Bf.isSet : Bf → Bool
  | .lens | .sset => true
  | _ => false
def Bf.cool : Bf → Bool
  | .len | .isi | .isx | .tuple | .int => true
  | _ => false
def Bm.name : Bm → Str
  | .append => "append" | .extend => "extend" | .get => "get" | .get2 => "get" | .index => "index" | .count => "count" | .pop => "pop" | .insert => "insert" | .remove => "remove" | .clear => "clear" | .join => "join" | .dpop => "pop"
def Bm.has : Bm → Bool
  | .get => false
  | .get2 => false
  | .dpop => false
  | _ => true
def ownOf (N : List Str) (tg : Tg) : List (Str × Nat) := tg.slots.map fun i => ((N[i]?).getD "", i)
mutual
def chkE (T : Tab) (N : List Str) : C → Scope → Expr → Bool
  | .var i, sc, e => match e with
    | .Name x _ => decide (N[i]? = some x) && visB sc x && okN x
    | _ => false
  | .val d, _, e => match d, e with
    | .int i, .Constant (.int j) _ _ => decide (i = j)
    | .bl i, .Constant (.bool j) _ _ => decide (i = j)
    | .str i, .Constant (.str j) _ _ => decide (i = j)
    | .non, .Constant .none _ _ => true
    | _, _ => false
  | .glo x d, sc, e => match d, e with
    | .int i, .Name y _ => decide (x = y) && glB sc x && decide (T.consts.lookup x = some i) && okN x
    | .own z, .Name y _ => decide (x = y) && decide (z = x) && glB sc x && T.excs.contains x && okN x
    | _, _ => false
  | .bty t, sc, e => match e with
    | .Name x _ => freeB T sc x && decide (tyName t = some x)
    | _ => false
  | .bin _ op a b, sc, e => match e with
    | .BinOp ea op' eb _ => decide (op = op') && chkE T N a sc ea && chkE T N b sc eb
    | _ => false
  | .neg a, sc, e => match e with
    | .UnaryOp .USub ea _ => chkE T N a sc ea
    | _ => false
  | .not a, sc, e => match e with
    | .UnaryOp .Not ea _ => chkE T N a sc ea && tstOk ea
    | _ => false
  | .and a b, sc, e => match e with
    | .BoolOp .And (x :: y :: rest) pos => chkE T N a sc x && tstOk x && (match rest with
      | [] => chkE T N b sc y && tstOk y
      | z :: rest => chkE T N b sc (.BoolOp .And (y :: z :: rest) pos))
    | _ => false
  | .or a b, sc, e => match e with
    | .BoolOp .Or (x :: y :: rest) pos => chkE T N a sc x && tstOk x && (match rest with
      | [] => chkE T N b sc y && tstOk y
      | z :: rest => chkE T N b sc (.BoolOp .Or (y :: z :: rest) pos))
    | _ => false
  | .cmp op a b, sc, e => match e with
    | .Compare ea [op'] [eb] _ => decide (op = op') && chkE T N a sc ea && chkE T N b sc eb && notSet eb
    | _ => false
  | .cmp2 op op2 a b c, sc, e => match e with
    | .Compare ea [op', op2'] [eb, ec] _ => decide (op = op') && decide (op2 = op2') && chkE T N a sc ea && chkE T N b sc eb && chkE T N c sc ec && notSet ec
    | _ => false
  | .ite t a b, sc, e => match e with
    | .IfExp et ea eb _ => chkE T N t sc et && tstOk et && chkE T N a sc ea && chkE T N b sc eb
    | _ => false
  | .tup as, sc, e => match e with
    | .Tuple es _ _ => chkA T N as sc es && decide (as.len ≤ 1000)
    | _ => false
  | .lst _ as, sc, e => match e with
    | .List es _ => chkA T N as sc es && decide (as.len ≤ 1000)
    | _ => false
  | .dct _ ks as, sc, e => match e with
    | .Dict keys values _ => pairsOk ks keys && chkA T N as sc values && decide (keys.length = values.length) && decide (keys.length ≤ 15) && decide ks.Nodup
    | _ => false
  | .call f as, sc, e => match e with
    | .Call (.Name x _) es [] _ => decide (T.funs.lookup f = some (x, es.length)) && glB sc x && okN x && chkA T N as sc es && !T.hot
    | _ => false
  | .blt _ f as, sc, e => bif f.isKw then (match e with
    | .Call (.Name x _) [ea] [⟨some d, .Constant .none _ _, _⟩] _ => decide (x = "min") && decide (d = Str.ofString "default") && freeB T sc x && chkA T N as sc [ea] && !T.hot
    | _ => false) else match e with
    | .Call (.Name x _) es [] _ => bif f.isSet then (match es with
        | [.Call (.Name y _) es' [] _] => decide (x = f.name) && decide (y = "set") && freeB T sc x && freeB T sc y && chkA T N as sc es' && decide (es' ≠ []) && !T.hot
        | _ => false) else decide (x = f.name) && freeB T sc x && chkA T N as sc es && decide (es ≠ []) && (!T.hot || f.cool)
    | _ => false
  | .mth m o as, sc, e => match e with
    | .Call (.Attribute eo name apos) es [] cpos => decide (name = m.name) && chkE T N o sc eo && baseOk eo && chkA T N as sc es && decide (es.length < 20) && (apos.endLine == cpos.line) && (m.has || (match m, es with
      | .get, [_] => true
      | .get2, [_, _] => true
      | .dpop, [_] => true
      | _, _ => false))
    | _ => false
  | .omth c f m o as, sc, e => match e with
    | .Call (.Attribute eo name apos) es [] cpos => decide (name = m) && decide (T.mths.lookup f = some (c, m, es.length + 1)) && chkE T N o sc eo && baseOk eo && chkA T N as sc es && decide (es.length < 20) && (apos.endLine == cpos.line) && !T.hot
    | _ => false
  | .make c f as, sc, e => match e with
    | .Call (.Name x _) es [] _ => decide (x = clsName c) && decide (T.mks.lookup c = some (f, es.length + 1)) && glB sc x && okN x && chkA T N as sc es && decide (es ≠ []) && !T.hot
    | _ => false
  | .idx a b, sc, e => match e with
    | .Subscript ea eb _ => chkE T N a sc ea && chkE T N b sc eb && notSlice eb
    | _ => false
  | .slc _ a lo hi, sc, e => match e with
    | .Subscript ea (.Slice el eh none _) _ => chkE T N a sc ea && (match el with
        | none => lo.isNo
        | some e => !lo.isNo && chkE T N lo sc e) && (match eh with
        | none => hi.isNo
        | some e => !hi.isNo && chkE T N hi sc e)
    | _ => false
  | .rev _ a, sc, e => match e with
    | .Subscript ea (.Slice none none (some (.UnaryOp .USub (.Constant (.int 1) _ _) _)) _) _ => chkE T N a sc ea
    | _ => false
  | .fld c o f, sc, e => match e with
    | .Attribute eo g _ => decide (g = f) && decide ((c, f) ∈ T.flds) && chkE T N o sc eo && baseOk eo
    | _ => false
  | .dctT _, _, e => match e with
    | .Dict [] [] _ => true
    | _ => false
  | .lcK _ i j cond elt, sc, e => match e with
    | .ListComp eelt [⟨etg, .Name x _, ifs, as⟩] scope _ => decide (as = 0) && !T.hot && (decide (N[j]? = some x) && visB sc x && okN x) && blkC N sc scope (ownOf N (.one i)) && (Tg.one i).ok N scope etg && (match ifs with
        | [] => cond.isNo
        | [c] => !cond.isNo && chkE T N cond (relS scope sc) c && tstOk c
        | _ => false) && chkE T N elt (relS scope sc) eelt
    | _ => false
  | .trng a, sc, e => match e with
    | .Call (.Name x _) [.Call (.Name y _) [ea] [] _] [] _ => decide (x = "tuple") && decide (y = "range") && freeB T sc x && freeB T sc y && plainE ea && chkE T N a sc ea && !T.hot
    | _ => false
  | .nin b, sc, e => match e with
    | .Compare (.Constant .none _ _) [.In] [eb] _ => chkE T N b sc eb && notSet eb && T.tries
    | _ => false
  | .lrng _ a, sc, e => match e with
    | .Call (.Name x _) [.Call (.Name y _) [ea] [] _] [] _ => decide (x = "list") && decide (y = "range") && freeB T sc x && freeB T sc y && plainE ea && chkE T N a sc ea && !T.hot
    | _ => false
  | .lc _ tg it x cond elt, sc, e => match e with
    | .ListComp eelt [⟨etg, eiter, ifs, as⟩] scope _ => decide (as = 0) && !T.hot && (match it with
        | .seq => chkA T N x sc [eiter]
        | .rng => (match eiter with
          | .Call (.Name y _) es [] _ => decide (y = "range") && freeB T sc y && chkA T N x sc es && (decide (es.length = 1) || decide (es.length = 2))
          | _ => false)
        | .enu => (match eiter with
          | .Call (.Name y _) es [] _ => decide (y = "enumerate") && freeB T sc y && chkA T N x sc es && decide (es.length = 1) && isTuple etg
          | _ => false)
        | .zip => (match eiter with
          | .Call (.Name y _) es [] _ => decide (y = "zip") && freeB T sc y && chkA T N x sc es && decide (es.length = 2) && isTuple etg
          | _ => false)
        | .zpn => (match eiter with
          | .Call (.Name y _) es [] _ => decide (y = "zip") && freeB T sc y && chkA T N x sc es && decide (es.length = 2) && isName etg
          | _ => false)) && blkC N sc scope (ownOf N tg) && tg.ok N scope etg && notSet eiter && (match ifs with
        | [] => cond.isNo
        | [c] => !cond.isNo && chkE T N cond (relS scope sc) c && tstOk c
        | _ => false) && chkE T N elt (relS scope sc) eelt
    | _ => false
  | .nil, _, _ => false
  | .cons _ _, _, _ => false
  | .no, _, _ => false
def chkA (T : Tab) (N : List Str) : C → Scope → List Expr → Bool
  | .nil, _, es => match es with
    | [] => true
    | _ => false
  | .cons a as, sc, es => match es with
    | e :: es => plainE e && chkE T N a sc e && chkA T N as sc es
    | _ => false
  | _, _, _ => false
end
structure Wok (G : Gx) (T : Tab) (X : Cx) (E : XK) (Γ : Cal) (n : Nat) : Prop where
  xo : Xok G X n
  sm : SmOk X.base
  pass : T.hot = false → Passes (L2.CX X.prog X.w) X E
  cold : T.hot = false → X.calm = true ∧ X.A.handled = none
  noex : T.hot = false → G.ex = none
  exs : Exs X.K X.mg T.excs T.tries
  hots : T.hot = false → ∀ b f x, T.hots.lookup f = some x → ∃ a fd ps, X.mg x = some (.ref a) ∧ PySem.W.keepIn X.K (.ref a) = true ∧ Binds X.K fd ps [] ∧ FnW X.prog X.w X.K X.mg X.base n a fd ps (spW (G.wb b) Γ f)
  isx : ∀ a c, G.ex = some (a, c) → c ∈ excNames ∧ T.tries = true ∧ ∃ D0, X.mg c = some (.ref D0) ∧ CallR X (.builtin "isinstance") (rIsE X.K D0 a)
  consts : ∀ x i, T.consts.lookup x = some i → ∃ t, X.mg x = some (.int i t)
  free : ∀ x, T.free.contains x = true → X.mg x = none
  flds : ∀ c f, (c, f) ∈ T.flds → ∀ C, X.mg (clsName c) = some (.ref C) → Cls X.K C ∧ NoAttr X.K C f
  mths : T.hot = false → ∀ b f c m k, T.mths.lookup f = some (c, m, k) → ∃ C a fd ps, X.mg (clsName c) = some (.ref C) ∧ Cls X.K C ∧ Meth X.K C m a ∧ Binds X.K fd ps [] ∧ FnG X.prog X.w X.K X.mg X.base n a fd ps (spF (G.wb b) Γ f k)
  mks : T.hot = false → ∀ b c f k, T.mks.lookup c = some (f, k) → ∃ C a fd ps, X.mg (clsName c) = some (.ref C) ∧ Mk X.K C a ∧ Binds X.K fd ps [] ∧ FnG X.prog X.w X.K X.mg X.base n a fd ps (spF (G.wb b) Γ f k)
  funs : T.hot = false → ∀ b f x m, T.funs.lookup f = some (x, m) → ∃ a fd ps, X.mg x = some (.ref a) ∧ PySem.W.keepIn X.K (.ref a) = true ∧ Binds X.K fd ps [] ∧ FnG X.prog X.w X.K X.mg X.base n a fd ps (spF (G.wb b) Γ f m)
section
variable {G : Gx} {T : Tab} {X : Cx} {E : XK} {Γ : Cal} {n : Nat}
theorem Wok.wb (w : Wok G T X E Γ n) (b : List Addr) : Wok (G.wb b) T X E Γ n :=
  ⟨⟨w.xo.K, w.xo.mg, w.xo.nd, w.xo.dp, w.xo.un, w.xo.gd⟩, w.sm, w.pass, w.cold, w.noex, w.exs, fun h b' => w.hots h b', w.isx, w.consts, w.free, w.flds, fun h b' => w.mths h b', fun h b' => w.mks h b', fun h b' => w.funs h b'⟩
theorem Wok.blk (w : Wok G T X E Γ n) (hh : T.hot = false) (scope : Scope) (p : BlkIx) : Wok G T (blkOf X scope p) E0' Γ n :=
  ⟨⟨w.xo.K, w.xo.mg, w.xo.nd, w.xo.dp, w.xo.un, w.xo.gd⟩, w.sm, fun _ => passL, w.cold, w.noex, w.exs, w.hots, fun a c h => by (rw [w.noex hh] at h; cases h), w.consts, w.free, w.flds, w.mths, w.mks, w.funs⟩
theorem vis_of {sc : Scope} {x : Str} (h : visB sc x = true) : Vis sc x := by
  unfold visB at h
  split at h
  · exact .inl (by assumption)
  · exact .inr (.inl (by assumption))
  · exact .inr (.inr (by assumption))
  · cases h
theorem okN_of {x : Str} (h : okN x = true) : (x == ("__debug__" : Str)) = false ∧ (x == ("__classdict__" : Str)) = false ∧ x ≠ ("__name__" : Str) := by
  unfold okN at h
  simp only [Bool.and_eq_true, Bool.not_eq_true', decide_eq_false_iff_not] at h
  exact ⟨h.1.1, h.1.2, h.2⟩
theorem free_of {sc : Scope} {x : Str} (w : Wok G T X E Γ n) (hs : X.env.scope = sc) (h : freeB T sc x = true) : Gl X x ∧ X.mg x = none ∧ (x == ("__debug__" : Str)) = false ∧ x ≠ ("__name__" : Str) := by
  unfold freeB glB at h
  simp only [Bool.and_eq_true, decide_eq_true_eq] at h
  obtain ⟨o1, o2, o3⟩ := okN_of h.2
  exact ⟨by show X.env.scope.names.lookup x = _; rw [hs]; exact h.1.1, w.free x h.1.2, o1, o3⟩
theorem plain_star {e : Expr} (h : plainE e = true) (r : List Expr) (env : PySem.Env) : starEach (e :: r) env = (false, eval e env) :: starEach r env := by
  cases e <;> first | rfl | (simp [plainE] at h)
theorem chkA_plain : ∀ {c : C} {N : List Str} {sc : Scope} {es : List Expr}, chkA T N c sc es = true → ∀ e ∈ es, plainE e = true := by
  intro c
  induction c with
  | nil =>
    intro N sc es h e he
    cases es with
    | nil => cases he
    | cons => simp [chkA] at h
  | cons a as _ ih =>
    intro N sc es h e he
    cases es with
    | nil => cases he
    | cons e' es =>
      simp only [chkA, Bool.and_eq_true] at h
      rcases List.mem_cons.mp he with rfl | he
      · exact h.1.1
      · exact ih h.2 e he
  | _ => intro N sc es h; simp [chkA] at h
theorem chkA_len : ∀ {c : C} {N : List Str} {sc : Scope} {es : List Expr}, chkA T N c sc es = true → c.len = es.length := by
  intro c
  induction c with
  | nil =>
    intro N sc es h
    cases es with
    | nil => rfl
    | cons => simp [chkA] at h
  | cons a as _ ih =>
    intro N sc es h
    cases es with
    | nil => simp [chkA] at h
    | cons e' es =>
      simp only [chkA, Bool.and_eq_true] at h
      simp [C.len, ih h.2]
  | _ => intro N sc es h; simp [chkA] at h
theorem plain_any {es : List Expr} {env : PySem.Env} {pos : Pos} (h : ∀ e ∈ es, plainE e = true) : (backTo pos (starEach es env)).any (·.1) = false := star_plain fun e he r => plain_star (h e he) r env
theorem boot_ty {t : String} {x : Str} (h : tyName t = some x) : bootBuiltins x = some (.type t) := by
  unfold tyName at h
  split at h <;> first | (cases h; decide +kernel) | cases h
theorem notSet_marks {op : CmpOp} {e : Expr} (h : notSet e = true) : behindInMarks op e = false := by
  cases e <;> first | rfl | (simp [notSet] at h)
theorem notSlice_ix {e : Expr} (h : notSlice e = true) : PlainIx e := by
  intro o i
  cases e <;> first | rfl | (simp [notSlice] at h)
theorem notSet_fold {e : Expr} (h : notSet e = true) (env : PySem.Env) : ∀ x, foldedSetIterable e env x = pure x := by
  intro x
  cases e <;> first | rfl | (simp [notSet] at h)
theorem tst_plain {e : Expr} (env : PySem.Env) (h : (∃ x p, e = .Name x p) ∨ ∃ f a k p, e = .Call f a k p) : ∀ whole, isTrue e env whole = (do let v ← whole; standAt e.pos; holding [v] (truthy v)) := by
  intro whole
  rcases h with ⟨x, p, rfl⟩ | ⟨f, a, k, p, rfl⟩ <;> rfl
theorem ownOf_slots {N : List Str} {tg : Tg} : (ownOf N tg).map (·.2) = tg.slots := by
  unfold ownOf
  rw [List.map_map]
  exact List.map_id _
theorem blt_isx {qq : Bool} (w : Wok G T X E Γ n) : ∃ r, CallR X (.builtin "isinstance") r ∧ CallOk G r (bltD qq .isx) := by
  cases hG : G.ex with
  | none =>
    refine ⟨_, call_isi, fun A H S ds vs Q E R hx h => ?_⟩
    unfold bltD at h
    split at h <;> try exact h.elim
    all_goals (rename_i hf; try cases hf)
    rename_i x c
    obtain ⟨v, w', rfl, hv, hw⟩ := repL2 hx
    unfold isxD at h
    split at h
    · cases hv with
      | exn h' => rw [hG] at h'; cases h'
    · exact h.elim
  | some e =>
    obtain ⟨a, c0⟩ := e
    obtain ⟨h1, h2, D0, h3, h4⟩ := w.isx a c0 hG
    refine ⟨_, h4, fun A H S ds vs Q E R hx h => ?_⟩
    unfold bltD at h
    split at h <;> try exact h.elim
    all_goals (rename_i hf; try cases hf)
    rename_i x c
    obtain ⟨v, w', rfl, hv, hw⟩ := repL2 hx
    unfold isxD at h
    split at h
    · cases hv with
      | exn h' =>
        rw [hG] at h'
        cases h'
        split at h
        · split at h
          · rename_i d hd
            cases hw with
            | own ho =>
              rename_i D'
              refine ⟨_, .ref D', _, rfl, fun u r => ?_, w.exs.kit h2 c0 D0 _ D' h1 h3 hd (by rw [w.xo.mg]; exact ho), h.here R (.bl _)⟩
              cases r; rfl
          · exact h.elim
        · split at h
          · rename_i T0 hT
            subst hT
            cases hw
            exact ⟨_, .type "ValueError", _, rfl, fun u r => by cases r; rfl, w.exs.kitV h2 c0 D0 h1 h3, h.here R (.bl _)⟩
          · exact h.elim
        · exact h.elim
    · exact h.elim
theorem blt_se {qq : Bool} {f : Bf} {x : Str} {as : C} {e : Expr} {es : List Expr} {p pos : Pos} (w : Wok G T X E Γ n) (hns : f.isSet = false) (hkw : f.isKw = false) (hx : x = f.name) (hh : T.hot = false ∨ f.cool = true) (hg : Gl X x) (hm : X.mg x = none) (hd : (x == ("__debug__" : Str)) = false) (hn : x ≠ ("__name__" : Str)) (hs : SA G X E Γ as (e :: es))
    (he : starEach (e :: es) X.env = (false, eval e X.env) :: starEach es X.env) (hpl : (backTo pos (starEach es X.env)).any (·.1) = false) : SE G X E Γ (.blt qq f as) (.Call (.Name x p) (e :: es) [] pos) := by
  subst hx
  have cm : f.cool = false → X.calm = true := fun z => (w.cold (hh.resolve_right (by rw [z]; simp))).1
  cases f with
  | len => obtain ⟨r, h1, h2⟩ := blt_len w.xo; exact se_bltB h1 h2 hg hm (by decide +kernel) hn hd hs he hpl
  | isi => obtain ⟨r, h1, h2⟩ := blt_isi w.xo; exact se_bltB h1 h2 hg hm (by decide +kernel) hn hd hs he hpl
  | all => obtain ⟨r, h1, h2⟩ := blt_all w.xo (cm rfl); exact se_bltB h1 h2 hg hm (by decide +kernel) hn hd hs he hpl
  | any => obtain ⟨r, h1, h2⟩ := blt_any w.xo (cm rfl); exact se_bltB h1 h2 hg hm (by decide +kernel) hn hd hs he hpl
  | sum => obtain ⟨r, h1, h2⟩ := blt_sum w.xo (cm rfl); exact se_bltB h1 h2 hg hm (by decide +kernel) hn hd hs he hpl
  | max2 => obtain ⟨r, h1, h2⟩ := blt_max2 w.xo (cm rfl); exact se_bltB h1 h2 hg hm (by decide +kernel) hn hd hs he hpl
  | min2 => obtain ⟨r, h1, h2⟩ := blt_min2 w.xo (cm rfl); exact se_bltB h1 h2 hg hm (by decide +kernel) hn hd hs he hpl
  | max1 => obtain ⟨r, h1, h2⟩ := blt_max1 w.xo (cm rfl); exact se_bltB h1 h2 hg hm (by decide +kernel) hn hd hs he hpl
  | min1 => obtain ⟨r, h1, h2⟩ := blt_min1 w.xo (cm rfl); exact se_bltB h1 h2 hg hm (by decide +kernel) hn hd hs he hpl
  | sorted => obtain ⟨r, h1, h2⟩ := blt_sorted w.xo w.sm (cm rfl); exact se_bltB h1 h2 hg hm (by decide +kernel) hn hd hs he hpl
  | repr => obtain ⟨r, h1, h2⟩ := blt_repr w.xo w.sm; exact se_bltB h1 h2 hg hm (by decide +kernel) hn hd hs he hpl
  | list => obtain ⟨r, h1, h2⟩ := blt_list w.xo (cm rfl); exact se_bltT h1 h2 hg hm (by decide +kernel) hn hd hs he hpl
  | tuple => obtain ⟨r, h1, h2⟩ := blt_tuple w.xo; exact se_bltT h1 h2 hg hm (by decide +kernel) hn hd hs he hpl
  | int => obtain ⟨r, h1, h2⟩ := blt_int w.xo; exact se_bltT h1 h2 hg hm (by decide +kernel) hn hd hs he hpl
  | isx => obtain ⟨r, h1, h2⟩ := blt_isx w; exact se_bltB h1 h2 hg hm (by decide +kernel) hn hd hs he hpl
  | lens => cases hns
  | sset => cases hns
  | dict => obtain ⟨r, h1, h2⟩ := blt_dict w.xo (cm rfl); exact se_bltT h1 h2 hg hm (by decide +kernel) hn hd hs he hpl
  | mind => cases hkw
  | dictT => obtain ⟨r, h1, h2⟩ := blt_dictT w.xo (cm rfl); exact se_bltT h1 h2 hg hm (by decide +kernel) hn hd hs he hpl
theorem se_mind {qq : Bool} {as : C} {ea : Expr} {p pos kp kpos : Pos} {j : Nat} (w : Wok G T X E Γ n) (hh : T.hot = false) (hg : Gl X "min") (hm : X.mg "min" = none) (hs : SA G X E Γ as [ea]) (hst : starEach [ea] X.env = [(false, eval ea X.env)]) :
    SE G X E Γ (.blt qq .mind as) (.Call (.Name "min" p) [ea] [⟨some (Str.ofString "default"), .Constant .none j kp, kpos⟩] pos) := by
  obtain ⟨ts, ps, qs⟩ := hs
  refine ⟨_, pe_callBK (call_mind (w.cold hh).1 w.xo.u1) hg hm (by decide +kernel) ps (pk_cons pe_non pk_nil) (by decide) (by decide) (by rw [hst]; rfl) (by rw [hst]; rfl) rfl rfl rfl, fun r s A H S Q er R h => ?_⟩
  simp only [evE] at h
  refine qs r s A H S _ er R (h.bind R fun ds S1 A1 H1 vs _ e1 R1 p1 h1 => ?_)
  show ∃ a ns, _
  match ds, h1, p1 with
  | [], h1, _ => exact h1.elim
  | _ :: _ :: _, h1, _ => exact h1.elim
  | [x], h1, p1 =>
  obtain ⟨v, rfl, hv⟩ := repL1 p1
  replace h1 : FinE G A1 H1 (mindD x S1) Q E := h1
  unfold mindD at h1
  split at h1
  · rename_i q
    obtain ⟨a, rfl, h2⟩ := lst_ints R1 hv q
    exact ⟨a, [], rfl, rfl, by rw [w.xo.K]; exact h2, fun _ => h1.here R1 .non, fun n l z => by cases z⟩
  · rename_i n0 l0 q
    obtain ⟨a, rfl, h2⟩ := lst_ints R1 hv q
    refine ⟨a, n0 :: l0, rfl, rfl, by rw [w.xo.K]; exact h2, fun z => absurd z (by simp), fun n l z => ?_⟩
    cases z
    exact h1.here R1 (.int _)
  · exact h1.elim
theorem blt_set {qq : Bool} {f : Bf} {x y : Str} {as : C} {e : Expr} {es : List Expr} {p p2 pos pos2 : Pos} (w : Wok G T X E Γ n) (hns : f.isSet = true) (hx : x = f.name) (hy : y = "set") (hh : T.hot = false) (hg : Gl X x) (hm : X.mg x = none) (hg2 : Gl X y) (hm2 : X.mg y = none) (hs : SA G X E Γ as (e :: es))
    (he : starEach (e :: es) X.env = (false, eval e X.env) :: starEach es X.env) (hpl : (backTo pos2 (starEach es X.env)).any (·.1) = false) : SE G X E Γ (.blt qq f as) (.Call (.Name x p) [.Call (.Name y p2) (e :: es) [] pos2] [] pos) := by
  subst hx hy
  have cm : X.calm = true := (w.cold hh).1
  cases f <;> simp only [Bf.isSet, Bool.false_eq_true] at hns
  · exact se_lens w.xo cm hg hm hg2 hm2 hs he hpl
  · exact se_sset w.xo cm hg hm hg2 hm2 hs he hpl
end
end MP

namespace MP
open PySem L2
def isBO : Expr → Bool
  | .BoolOp _ _ _ => true
  | _ => false
def Tri (G : Gx) (X : Cx) (E : XK) (Γ : Cal) (c : C) (e : Expr) : Prop := SE G X E Γ c e ∧ (tstOk e = true → STb G X E Γ c e) ∧ (isBO e = true → SWb G X E Γ c e)
def Good (T : Tab) (N : List Str) (c : C) : Prop := ∀ (G : Gx) (X : Cx) (E : XK) (Γ : Cal) (n : Nat) (sc : Scope) (e : Expr), Wok G T X E Γ n → X.N = N → X.env.scope = sc → chkE T N c sc e = true → Tri G X E Γ c e
def GoodA (T : Tab) (N : List Str) (c : C) : Prop := ∀ (G : Gx) (X : Cx) (E : XK) (Γ : Cal) (n : Nat) (sc : Scope) (es : List Expr), Wok G T X E Γ n → X.N = N → X.env.scope = sc → chkA T N c sc es = true → SA G X E Γ c es
def Els (T : Tab) (N : List Str) : C → Prop
  | .cons a as => Good T N a ∧ Els T N as
  | _ => True
def Go (T : Tab) (N : List Str) (c : C) : Prop := Good T N c ∧ GoodA T N c ∧ Els T N c
def chkI (T : Tab) (N : List Str) (it : It) (x : C) (sc : Scope) (etg eiter : Expr) : Bool :=
  match it with
  | .seq => chkA T N x sc [eiter]
  | .rng => (match eiter with
    | .Call (.Name y _) es [] _ => decide (y = "range") && freeB T sc y && chkA T N x sc es && (decide (es.length = 1) || decide (es.length = 2))
    | _ => false)
  | .enu => (match eiter with
    | .Call (.Name y _) es [] _ => decide (y = "enumerate") && freeB T sc y && chkA T N x sc es && decide (es.length = 1) && isTuple etg
    | _ => false)
  | .zip => (match eiter with
    | .Call (.Name y _) es [] _ => decide (y = "zip") && freeB T sc y && chkA T N x sc es && decide (es.length = 2) && isTuple etg
    | _ => false)
  | .zpn => (match eiter with
    | .Call (.Name y _) es [] _ => decide (y = "zip") && freeB T sc y && chkA T N x sc es && decide (es.length = 2) && isName etg
    | _ => false)
section
variable {G : Gx} {T : Tab} {X : Cx} {E : XK} {Γ : Cal} {n : Nat} {N : List Str} {sc : Scope}
theorem tri_plain {c : C} {e : Expr} (h : SE G X E Γ c e) (hb : isBO e = false) (ht : tstOk e = true → (∃ x p, e = .Name x p) ∨ ∃ f a k p, e = .Call f a k p) : Tri G X E Γ c e :=
  ⟨h, fun t => stb_val h (tst_plain X.env (ht t)), fun t => by rw [hb] at t; cases t⟩
theorem tri_no {c : C} {e : Expr} (h : SE G X E Γ c e) (ht : tstOk e = false) (hb : isBO e = false) : Tri G X E Γ c e :=
  ⟨h, fun t => by (rw [ht] at t; cases t), fun t => by (rw [hb] at t; cases t)⟩
theorem tri_name {c : C} {x : Str} {p : Pos} (h : SE G X E Γ c (.Name x p)) : Tri G X E Γ c (.Name x p) := tri_plain h rfl fun _ => .inl ⟨x, p, rfl⟩
theorem tri_call {c : C} {f : Expr} {a : List Expr} {k : List Keyword} {p : Pos} (h : SE G X E Γ c (.Call f a k p)) : Tri G X E Γ c (.Call f a k p) := tri_plain h rfl fun _ => .inr ⟨f, a, k, p, rfl⟩
theorem tri_st {c : C} {e : Expr} (h : SE G X E Γ c e) (hs : STb G X E Γ c e) (hb : isBO e = false) : Tri G X E Γ c e := ⟨h, fun _ => hs, fun t => by (rw [hb] at t; cases t)⟩
theorem len_two {α : Type} {l : List α} (h : l.length = 2) : ∃ a b, l = [a, b] := by
  match l, h with
  | [a, b], _ => exact ⟨a, b, rfl⟩
theorem star1 {e : Expr} (h : plainE e = true) : starEach [e] X.env = [(false, eval e X.env)] := plain_star h [] X.env
theorem star2 {e e' : Expr} (h : plainE e = true) (h' : plainE e' = true) : starEach [e, e'] X.env = [(false, eval e X.env), (false, eval e' X.env)] := by
  rw [plain_star h, star1 h']
theorem chkA1 {x : C} {e : Expr} (h : chkA T N x sc [e] = true) : ∃ a, x = .cons a .nil ∧ plainE e = true ∧ chkE T N a sc e = true := by
  cases x <;> simp only [chkA, Bool.and_eq_true, Bool.false_eq_true] at h
  rename_i a as
  cases as <;> simp only [chkA, Bool.and_eq_true, Bool.false_eq_true, and_false] at h
  exact ⟨a, rfl, h.1.1, h.1.2⟩
theorem chkA2 {x : C} {e e' : Expr} (h : chkA T N x sc [e, e'] = true) : ∃ a b, x = .cons a (.cons b .nil) ∧ plainE e = true ∧ plainE e' = true := by
  cases x <;> simp only [chkA, Bool.and_eq_true, Bool.false_eq_true] at h
  rename_i a as
  cases as <;> simp only [chkA, Bool.and_eq_true, Bool.false_eq_true, and_false] at h
  rename_i b bs
  cases bs <;> simp only [chkA, Bool.and_eq_true, Bool.false_eq_true, and_false] at h
  exact ⟨a, b, rfl, h.1.1, h.2.1.1⟩
theorem si_of {it : It} {x : C} {etg eiter : Expr} (gx : Go T N x) (w : Wok G T X E Γ n) (hN : X.N = N) (hs : X.env.scope = sc) (h : chkI T N it x sc etg eiter = true) : SI G X E Γ it x etg eiter := by
  cases it with
  | seq =>
    obtain ⟨a, rfl, h1, h2⟩ := chkA1 h
    exact si_seq w.xo (gx.2.2.1 G X E Γ n sc _ w hN hs h2).1
  | rng =>
    simp only [chkI] at h
    split at h
    · rename_i y p es pos
      simp only [Bool.and_eq_true, Bool.or_eq_true, decide_eq_true_eq] at h
      obtain ⟨⟨⟨rfl, hf⟩, ha⟩, hl⟩ := h
      obtain ⟨f1, f2, f3, f4⟩ := free_of w hs hf
      have sa := gx.2.1 G X E Γ n sc _ w hN hs ha
      rcases hl with hl | hl
      · obtain ⟨e, rfl⟩ := List.length_eq_one_iff.mp hl
        obtain ⟨a, rfl, h1, h2⟩ := chkA1 ha
        exact si_rng1 f1 f2 (star1 h1) sa
      · obtain ⟨e, e', rfl⟩ := len_two hl
        obtain ⟨a, b, rfl, h1, h2⟩ := chkA2 ha
        exact si_rng2 f1 f2 (star2 h1 h2) (star1 h2) sa
    · cases h
  | enu =>
    simp only [chkI] at h
    split at h
    · rename_i y p es pos
      simp only [Bool.and_eq_true, decide_eq_true_eq] at h
      obtain ⟨⟨⟨⟨rfl, hf⟩, ha⟩, hl⟩, ht⟩ := h
      obtain ⟨f1, f2, f3, f4⟩ := free_of w hs hf
      have sa := gx.2.1 G X E Γ n sc _ w hN hs ha
      obtain ⟨e, rfl⟩ := List.length_eq_one_iff.mp hl
      obtain ⟨a, rfl, h1, h2⟩ := chkA1 ha
      cases etg <;> simp only [isTuple, Bool.false_eq_true] at ht
      exact si_enu w.xo f1 f2 (star1 h1) sa
    · cases h
  | zip =>
    simp only [chkI] at h
    split at h
    · rename_i y p es pos
      simp only [Bool.and_eq_true, decide_eq_true_eq] at h
      obtain ⟨⟨⟨⟨rfl, hf⟩, ha⟩, hl⟩, ht⟩ := h
      obtain ⟨f1, f2, f3, f4⟩ := free_of w hs hf
      have sa := gx.2.1 G X E Γ n sc _ w hN hs ha
      obtain ⟨e, e', rfl⟩ := len_two hl
      obtain ⟨a, b, rfl, h1, h2⟩ := chkA2 ha
      cases etg <;> simp only [isTuple, Bool.false_eq_true] at ht
      exact si_zip w.xo f1 f2 (star2 h1 h2) (star1 h2) sa
    · cases h
  | zpn =>
    simp only [chkI] at h
    split at h
    · rename_i y p es pos
      simp only [Bool.and_eq_true, decide_eq_true_eq] at h
      obtain ⟨⟨⟨⟨rfl, hf⟩, ha⟩, hl⟩, ht⟩ := h
      obtain ⟨f1, f2, f3, f4⟩ := free_of w hs hf
      have sa := gx.2.1 G X E Γ n sc _ w hN hs ha
      obtain ⟨e, e', rfl⟩ := len_two hl
      obtain ⟨a, b, rfl, h1, h2⟩ := chkA2 ha
      cases etg <;> simp only [isName, Bool.false_eq_true] at ht
      exact si_zpn w.xo f1 f2 (star2 h1 h2) (star1 h2) sa
    · cases h
theorem gaNo {c : C} (h : ∀ sc es, chkA T N c sc es = false) : GoodA T N c := fun G X E Γ n sc es _ _ _ hc => by rw [h] at hc; cases hc
theorem gNo {c : C} (h : ∀ sc e, chkE T N c sc e = false) : Good T N c := fun G X E Γ n sc es _ _ _ hc => by rw [h] at hc; cases hc
theorem go_of {c : C} (h : Good T N c) (h1 : ∀ sc es, chkA T N c sc es = false) (h2 : Els T N c) : Go T N c := ⟨h, gaNo h1, h2⟩
theorem sb_of {c : C} {el : Option Expr} (g : Good T N c) (w : Wok G T X E Γ n) (hN : X.N = N) (hs : X.env.scope = sc) (h : (match el with | none => c.isNo | some e => !c.isNo && chkE T N c sc e) = true) : SB G X E Γ c el := by
  cases el with
  | none =>
    dsimp only at h
    cases c <;> simp only [C.isNo, Bool.false_eq_true] at h
    exact sb_none
  | some e =>
    simp only [Bool.and_eq_true, Bool.not_eq_true'] at h
    exact sb_some h.1 (g G X E Γ n sc e w hN hs h.2).1
theorem sndb_yes : SndB G E0' Γ .no tYes := fun r s A H S Q er R h => by
  simp only [evE] at h
  exact h.here R
theorem ifs_of {c : C} (hh : T.hot = false) (b : List Addr) {ifs : List Expr} {scope : Scope} (g : Good T N c) (w : Wok G T X E Γ n) (hN : X.N = N) (hs : X.env.scope = sc)
    (h : (match ifs with | [] => c.isNo | [e] => !c.isNo && chkE T N c (relS scope sc) e && tstOk e | _ => false) = true) (p : BlkIx) : ∃ t, PTs (blkOf X scope p) ifs t ∧ SndB (G.wb b) E0' Γ c t := by
  cases ifs with
  | nil =>
    dsimp only at h
    cases c <;> simp only [C.isNo, Bool.false_eq_true] at h
    exact ⟨_, pts_nil, sndb_yes⟩
  | cons e es =>
    cases es with
    | cons => cases h
    | nil =>
      simp only [Bool.and_eq_true, Bool.not_eq_true'] at h
      obtain ⟨t, p1, p2⟩ := (g (G.wb b) (blkOf X scope p) E0' Γ n (relS scope sc) e ((w.wb b).blk hh scope p) hN (by show relS scope X.env.scope = _; rw [hs]) h.1.2).2.1 h.2
      exact ⟨t, pts_one p1, p2⟩
structure LcOk (T : Tab) (N : List Str) (tg : Tg) (it : It) (x cond elt : C) (sc : Scope) (eelt etg eiter : Expr) (ifs : List Expr) (scope : Scope) : Prop where
  hh : T.hot = false
  iter : chkI T N it x sc etg eiter = true
  blk : blkC N sc scope (ownOf N tg) = true
  tg : tg.ok N scope etg = true
  set : notSet eiter = true
  ifs : (match ifs with | [] => cond.isNo | [e] => !cond.isNo && chkE T N cond (relS scope sc) e && tstOk e | _ => false) = true
  elt : chkE T N elt (relS scope sc) eelt = true
theorem lc_parts {qq : Bool} {tg : Tg} {it : It} {x cond elt : C} {e : Expr} (h : chkE T N (.lc qq tg it x cond elt) sc e = true) :
    ∃ eelt etg eiter ifs scope pos, e = .ListComp eelt [⟨etg, eiter, ifs, 0⟩] scope pos ∧ LcOk T N tg it x cond elt sc eelt etg eiter ifs scope := by
  simp only [chkE] at h
  split at h
  · rename_i eelt etg eiter ifs as scope pos
    simp only [Bool.and_eq_true, decide_eq_true_eq, Bool.not_eq_true'] at h
    obtain ⟨⟨⟨⟨⟨⟨⟨rfl, h0⟩, h1⟩, h2⟩, h3⟩, h4⟩, h5⟩, h6⟩ := h
    exact ⟨eelt, etg, eiter, ifs, scope, pos, rfl, h0, h1, h2, h3, h4, h5, h6⟩
  · cases h
theorem LcOk.elt_of {tg : Tg} {it : It} {x cond elt : C} {eelt etg eiter : Expr} {ifs : List Expr} {scope : Scope} (h : LcOk T N tg it x cond elt sc eelt etg eiter ifs scope) (g : Good T N elt) (w : Wok G T X E Γ n) (hN : X.N = N) (hs : X.env.scope = sc) (b : List Addr) (p : BlkIx) : SE (G.wb b) (blkOf X scope p) E0' Γ elt eelt :=
  (g (G.wb b) (blkOf X scope p) E0' Γ n (relS scope sc) eelt ((w.wb b).blk h.hh scope p) hN (by show relS scope X.env.scope = _; rw [hs]) h.elt).1
theorem baseOk_eq {e : Expr} {name : Str} (h : baseOk e = true) : attributeBase e name X.env (eval e X.env) = eval e X.env := by
  cases e <;> first | rfl | (simp [baseOk] at h)
theorem all_plain {es : List Expr} {env : PySem.Env} {pos : Pos} (h : ∀ e ∈ es, plainE e = true) : (backTo pos (starEach es env)).all (fun x => !x.1) = true := by
  induction es with
  | nil => rfl
  | cons e es ih =>
    rw [plain_star (h e List.mem_cons_self)]
    show ((!false) && (backTo pos (starEach es env)).all fun x => !x.1) = true
    rw [ih fun e' he => h e' (List.mem_cons_of_mem _ he)]
    rfl
theorem few_plain {es : List Expr} {env : PySem.Env} {cpos : Pos} (h : ∀ e ∈ es, plainE e = true) (hl : es.length < 20) : ((backTo cpos (starEach es env)).all (fun x => !x.1) && (backToKw cpos (keywordEach [] env)).all (fun x => x.1.isSome)
      && decide (es.length + ([] : List Keyword).length + (if ([] : List Keyword).isEmpty then 0 else 1) < 30)) = true := by
  rw [all_plain h]
  simp only [Bool.true_and, Bool.and_eq_true]
  exact ⟨rfl, by simp; omega⟩
theorem sps_of : ∀ {ks : List Key} {as : C} {keys : List (Option Expr)} {values : List Expr} {pos : Pos}, Els T N as → Wok G T X E Γ n → X.N = N → X.env.scope = sc → pairsOk ks keys = true → chkA T N as sc values = true → keys.length = values.length → SPs G X E Γ ks as pos keys values := by
  intro ks as
  induction as generalizing ks with
  | nil =>
    intro keys values pos g w hN hs hp hc hl
    cases values with
    | cons => simp [chkA] at hc
    | nil =>
      cases keys with
      | cons => simp at hl
      | nil =>
        cases ks with
        | nil => exact sps_nil
        | cons k ks => cases k <;> simp [pairsOk] at hp
  | cons a as _ ih =>
    intro keys values pos g w hN hs hp hc hl
    cases values with
    | nil => simp [chkA] at hc
    | cons v values =>
      simp only [chkA, Bool.and_eq_true] at hc
      cases keys with
      | nil => simp at hl
      | cons k keys =>
        unfold pairsOk at hp
        split at hp
        · rename_i e1 e2; cases e2
        · rename_i i ks' j q1 q2 es' e2
          cases e2
          simp only [Bool.and_eq_true, decide_eq_true_eq] at hp
          obtain ⟨rfl, hp⟩ := hp
          exact sps_cons (k := .inl i) pe_int (fun b => (g.1 (G.wb b) X E Γ n sc v (w.wb b) hN hs hc.1.2).1) (ih g.2 w hN hs hp hc.2 (by simpa using hl))
        · rename_i i ks' j q1 q2 es' e2
          cases e2
          simp only [Bool.and_eq_true, decide_eq_true_eq] at hp
          obtain ⟨rfl, hp⟩ := hp
          exact sps_cons (k := .inr i) pe_str (fun b => (g.1 (G.wb b) X E Γ n sc v (w.wb b) hN hs hc.1.2).1) (ih g.2 w hN hs hp hc.2 (by simpa using hl))
        · cases hp
  | _ => intro keys values pos g w hN hs hp hc hl; simp [chkA] at hc
theorem pairs_all : ∀ {ks : List Key} {keys : List (Option Expr)}, pairsOk ks keys = true → keys.all (·.isSome) = true ∧ ks.length = keys.length := by
  intro ks
  induction ks with
  | nil => intro keys h; cases keys with
    | nil => exact ⟨rfl, rfl⟩
    | cons => simp [pairsOk] at h
  | cons k ks ih =>
    intro keys h
    unfold pairsOk at h
    split at h
    · rename_i e; cases e
    · rename_i e; cases e
      simp only [Bool.and_eq_true] at h
      obtain ⟨z1, z2⟩ := ih h.2
      exact ⟨by simpa using z1, by simpa using z2⟩
    · rename_i e; cases e
      simp only [Bool.and_eq_true] at h
      obtain ⟨z1, z2⟩ := ih h.2
      exact ⟨by simpa using z1, by simpa using z2⟩
    · cases h
end
end MP

namespace MP
open PySem L2
section
variable {G : Gx} {T : Tab} {X : Cx} {E : XK} {Γ : Cal} {n : Nat} {N : List Str} {sc : Scope}
theorem se_call {f : Nat} {x : Str} {p pos : Pos} {as : C} {es : List Expr} (w : Wok G T X E Γ n) (hN : X.N = N) (hs : X.env.scope = sc) (hf : T.funs.lookup f = some (x, es.length)) (hg : glB sc x = true) (ho : okN x = true) (g : GoodA T N as) (ha : chkA T N as sc es = true) (hh : T.hot = false) :
    SE G X E Γ (.call f as) (.Call (.Name x p) es [] pos) := by
  obtain ⟨a, fd, ps, h1, h2, h3, F⟩ := w.funs hh G.blk f x _ hf
  have gl : Gl X x := by
    show X.env.scope.names.lookup x = _
    rw [hs]
    exact of_decide_eq_true hg
  obtain ⟨o1, o2, o3⟩ := okN_of ho
  have pl := chkA_plain ha
  obtain ⟨t, pt, q⟩ := g G X E Γ n sc es w hN hs ha
  have snd : ∀ r s A H S Q, ERel G A H r s → SRel G A H S → FinE G A H (evE Γ (.call f as) r S) Q E → tCl (spF G Γ f es.length) E t s H Q := by
    intro r s A H S Q er R h
    simp only [evE] at h
    refine q r s A H S _ er R (h.bind R fun ds S1 A1 H1 vs e0 e1 R1 p1 h1 => ?_)
    refine ⟨?_, A1, S1, ds, R1, p1, h1⟩
    rw [← p1.length, evA_len _ _ _ _ _ e0, chkA_len ha]
  cases es with
  | nil =>
    have e0 : as = .nil := by cases as <;> simp [chkA] at ha <;> rfl
    subst e0
    refine ⟨_, pe_cl0G F (w.xo.room (w.cold hh).2) w.xo.gd gl h1 h2 h3 (w.pass hh) o1, fun r s A H S Q er R h => ?_⟩
    simp only [evE, evA] at h
    exact ⟨rfl, A, S, [], R, .nil, h⟩
  | cons e es =>
    exact ⟨_, pe_clG F (w.xo.room (w.cold hh).2) w.xo.gd gl h1 h2 h3 (w.pass hh) pt o1 (plain_star (pl e List.mem_cons_self) es X.env) (plain_any fun e' he => pl e' (List.mem_cons_of_mem _ he)), snd⟩
theorem se_mt {m : Bm} {a as : C} {ea e : Expr} {es : List Expr} {name : Str} {apos cpos : Pos} (w : Wok G T X E Γ n) (hm : m.has = true) (hn : name = m.name) (ha : SE G X E Γ a ea) (hs : SA G X E Γ as (e :: es)) (hbase : attributeBase ea name X.env (eval ea X.env) = eval ea X.env)
    (hfew : ((backTo cpos (starEach (e :: es) X.env)).all (fun x => !x.1) && (backToKw cpos (keywordEach [] X.env)).all (fun x => x.1.isSome)
      && decide ((e :: es).length + ([] : List Keyword).length + (if ([] : List Keyword).isEmpty then 0 else 1) < 30)) = true)
    (hline : (apos.endLine == cpos.line) = true) (hst : starEach (e :: es) X.env = (false, eval e X.env) :: starEach es X.env) (hpl : (backTo cpos (starEach es X.env)).any (·.1) = false) :
    SE G X E Γ (.mth m a as) (.Call (.Attribute ea name apos) (e :: es) [] cpos) := by
  subst hn
  cases m <;> simp only [Bm.has, Bool.false_eq_true] at hm
  · obtain ⟨r, h1, h2⟩ := mth_append (X := X) (G := G)
    exact se_mth w.xo (by decide) rfl F.plainAttrs_list F.slot_list_append F.type_list_append h1 h2 ha hs hbase hfew hline hst hpl
  · obtain ⟨r, h1, h2⟩ := mth_extend (X := X) (G := G)
    exact se_mth w.xo (by decide) rfl F.plainAttrs_list F.slot_list_extend F.type_list_extend h1 h2 ha hs hbase hfew hline hst hpl
  · obtain ⟨r, h1, h2⟩ := mth_index w.xo
    exact se_mth w.xo (by decide) rfl F.plainAttrs_list F.slot_list_index F.type_list_index h1 h2 ha hs hbase hfew hline hst hpl
  · obtain ⟨r, h1, h2⟩ := mth_count w.xo
    exact se_mth w.xo (by decide) rfl F.plainAttrs_list F.slot_list_count F.type_list_count h1 h2 ha hs hbase hfew hline hst hpl
  · obtain ⟨r, h1, h2⟩ := mth_pop (X := X) (G := G)
    exact se_mth w.xo (by decide) rfl F.plainAttrs_list F.slot_list_pop F.type_list_pop h1 h2 ha hs hbase hfew hline hst hpl
  · obtain ⟨r, h1, h2⟩ := mth_insert (X := X) (G := G)
    exact se_mth w.xo (by decide) rfl F.plainAttrs_list F.slot_list_insert F.type_list_insert h1 h2 ha hs hbase hfew hline hst hpl
  · obtain ⟨r, h1, h2⟩ := mth_remove (X := X) (G := G)
    exact se_mth w.xo (by decide) rfl F.plainAttrs_list F.slot_list_remove F.type_list_remove h1 h2 ha hs hbase hfew hline hst hpl
  · obtain ⟨r, h1, h2⟩ := mth_clear (X := X) (G := G)
    exact se_mth w.xo (by decide) rfl F.plainAttrs_list F.slot_list_clear F.type_list_clear h1 h2 ha hs hbase hfew hline hst hpl
  · obtain ⟨r, h1, h2⟩ := mth_join (X := X) (G := G)
    exact se_mth w.xo (by decide) rfl F.plainAttrs_str F.slot_str_join F.type_str_join h1 h2 ha hs hbase hfew hline hst hpl
theorem se_mt0 {m : Bm} {a : C} {ea : Expr} {name : Str} {apos cpos : Pos} (w : Wok G T X E Γ n) (hm : m.has = true) (hn : name = m.name) (ha : SE G X E Γ a ea) (hbase : attributeBase ea name X.env (eval ea X.env) = eval ea X.env) (hline : (apos.endLine == cpos.line) = true) :
    SE G X E Γ (.mth m a .nil) (.Call (.Attribute ea name apos) [] [] cpos) := by
  subst hn
  cases m <;> simp only [Bm.has, Bool.false_eq_true] at hm
  · obtain ⟨r, h1, h2⟩ := mth_append (X := X) (G := G)
    exact se_mth0 w.xo (by decide) rfl F.plainAttrs_list F.slot_list_append F.type_list_append h1 h2 ha hbase hline
  · obtain ⟨r, h1, h2⟩ := mth_extend (X := X) (G := G)
    exact se_mth0 w.xo (by decide) rfl F.plainAttrs_list F.slot_list_extend F.type_list_extend h1 h2 ha hbase hline
  · obtain ⟨r, h1, h2⟩ := mth_index w.xo
    exact se_mth0 w.xo (by decide) rfl F.plainAttrs_list F.slot_list_index F.type_list_index h1 h2 ha hbase hline
  · obtain ⟨r, h1, h2⟩ := mth_count w.xo
    exact se_mth0 w.xo (by decide) rfl F.plainAttrs_list F.slot_list_count F.type_list_count h1 h2 ha hbase hline
  · obtain ⟨r, h1, h2⟩ := mth_pop (X := X) (G := G)
    exact se_mth0 w.xo (by decide) rfl F.plainAttrs_list F.slot_list_pop F.type_list_pop h1 h2 ha hbase hline
  · obtain ⟨r, h1, h2⟩ := mth_insert (X := X) (G := G)
    exact se_mth0 w.xo (by decide) rfl F.plainAttrs_list F.slot_list_insert F.type_list_insert h1 h2 ha hbase hline
  · obtain ⟨r, h1, h2⟩ := mth_remove (X := X) (G := G)
    exact se_mth0 w.xo (by decide) rfl F.plainAttrs_list F.slot_list_remove F.type_list_remove h1 h2 ha hbase hline
  · obtain ⟨r, h1, h2⟩ := mth_clear (X := X) (G := G)
    exact se_mth0 w.xo (by decide) rfl F.plainAttrs_list F.slot_list_clear F.type_list_clear h1 h2 ha hbase hline
  · obtain ⟨r, h1, h2⟩ := mth_join (X := X) (G := G)
    exact se_mth0 w.xo (by decide) rfl F.plainAttrs_str F.slot_str_join F.type_str_join h1 h2 ha hbase hline
theorem go_all (T : Tab) (N : List Str) : ∀ c : C, Go T N c := by
  intro c
  induction c with
  | var i =>
    refine go_of (fun G X E Γ n sc e w hN hs h => ?_) (fun _ _ => rfl) trivial
    simp only [chkE] at h
    split at h
    · simp only [Bool.and_eq_true, decide_eq_true_eq] at h
      obtain ⟨o1, o2, o3⟩ := okN_of h.2
      exact tri_name (se_var (by rw [hN]; exact h.1.1) (by rw [hs]; exact vis_of h.1.2) o1 o2)
    · cases h
  | val d =>
    refine go_of (fun G X E Γ n sc e w hN hs h => ?_) (fun _ _ => rfl) trivial
    simp only [chkE] at h
    split at h
    · rw [of_decide_eq_true h]; exact tri_no se_int rfl rfl
    · rw [of_decide_eq_true h]; exact tri_no se_bl rfl rfl
    · rw [of_decide_eq_true h]; exact tri_no se_str rfl rfl
    · exact tri_no se_non rfl rfl
    · cases h
  | glo x d =>
    refine go_of (fun G X E Γ n sc e w hN hs h => ?_) (fun _ _ => rfl) trivial
    simp only [chkE] at h
    split at h
    · simp only [Bool.and_eq_true, decide_eq_true_eq] at h
      obtain ⟨⟨⟨rfl, h1⟩, h2⟩, h3⟩ := h
      obtain ⟨o1, o2, o3⟩ := okN_of h3
      obtain ⟨t, ht⟩ := w.consts _ _ h2
      refine tri_name (se_glo ?_ ht o1)
      show X.env.scope.names.lookup x = _
      rw [hs]
      exact of_decide_eq_true h1
    · simp only [Bool.and_eq_true, decide_eq_true_eq] at h
      obtain ⟨⟨⟨⟨rfl, rfl⟩, h1⟩, h2⟩, h3⟩ := h
      obtain ⟨o1, o2, o3⟩ := okN_of h3
      obtain ⟨C0, hC, _⟩ := w.exs.has _ (by simpa using h2)
      refine tri_name (se_own ?_ hC w.xo.mg o1)
      show X.env.scope.names.lookup _ = _
      rw [hs]
      exact of_decide_eq_true h1
    · cases h
  | bty t =>
    refine go_of (fun G X E Γ n sc e w hN hs h => ?_) (fun _ _ => rfl) trivial
    simp only [chkE] at h
    split at h
    · simp only [Bool.and_eq_true, decide_eq_true_eq] at h
      obtain ⟨f1, f2, f3, f4⟩ := free_of w hs h.1
      exact tri_name (se_bty f1 f2 (boot_ty h.2) f4 f3)
    · cases h
  | bin qq op a b iha ihb =>
    refine go_of (fun G X E Γ n sc e w hN hs h => ?_) (fun _ _ => rfl) trivial
    simp only [chkE] at h
    split at h
    · simp only [Bool.and_eq_true, decide_eq_true_eq] at h
      obtain ⟨⟨rfl, h1⟩, h2⟩ := h
      obtain ⟨r, b1, b2⟩ := bin_ok (q := qq) w.xo op
      exact tri_no (se_bin2 b1 b2 (iha.1 G X E Γ n sc _ w hN hs h1).1 (ihb.1 G X E Γ n sc _ w hN hs h2).1) rfl rfl
    · cases h
  | neg a iha =>
    refine go_of (fun G X E Γ n sc e w hN hs h => ?_) (fun _ _ => rfl) trivial
    simp only [chkE] at h
    split at h
    · exact tri_no (se_neg (iha.1 G X E Γ n sc _ w hN hs h).1) rfl rfl
    · cases h
  | not a iha =>
    refine go_of (fun G X E Γ n sc e w hN hs h => ?_) (fun _ _ => rfl) trivial
    simp only [chkE] at h
    split at h
    · simp only [Bool.and_eq_true] at h
      have z := iha.1 G X E Γ n sc _ w hN hs h.1
      exact tri_st (se_not z.1) (stb_not (z.2.1 h.2)) rfl
    · cases h
  | and a b iha ihb =>
    refine go_of (fun G X E Γ n sc e w hN hs h => ?_) (fun _ _ => rfl) trivial
    simp only [chkE] at h
    split at h
    · rename_i x y rest pos
      simp only [Bool.and_eq_true] at h
      obtain ⟨⟨h1, h2⟩, h3⟩ := h
      have za := iha.1 G X E Γ n sc _ w hN hs h1
      cases rest with
      | nil =>
        simp only [Bool.and_eq_true] at h3
        have zb := ihb.1 G X E Γ n sc _ w hN hs h3.1
        have zw := swb_and (pos := pos) (za.2.1 h2) (swb_and1 (zb.2.1 h3.2))
        exact ⟨se_and za.1 (se_one zb.1), fun _ => zw.st, fun _ => zw⟩
      | cons z rest =>
        have zb := ihb.1 G X E Γ n sc _ w hN hs h3
        have zw := swb_and (pos := pos) (za.2.1 h2) (zb.2.2 rfl)
        exact ⟨se_and za.1 zb.1, fun _ => zw.st, fun _ => zw⟩
    · cases h
  | or a b iha ihb =>
    refine go_of (fun G X E Γ n sc e w hN hs h => ?_) (fun _ _ => rfl) trivial
    simp only [chkE] at h
    split at h
    · rename_i x y rest pos
      simp only [Bool.and_eq_true] at h
      obtain ⟨⟨h1, h2⟩, h3⟩ := h
      have za := iha.1 G X E Γ n sc _ w hN hs h1
      cases rest with
      | nil =>
        simp only [Bool.and_eq_true] at h3
        have zb := ihb.1 G X E Γ n sc _ w hN hs h3.1
        have zw := swb_or (pos := pos) (za.2.1 h2) (swb_or1 (zb.2.1 h3.2))
        exact ⟨se_or za.1 (se_one zb.1), fun _ => zw.st, fun _ => zw⟩
      | cons z rest =>
        have zb := ihb.1 G X E Γ n sc _ w hN hs h3
        have zw := swb_or (pos := pos) (za.2.1 h2) (zb.2.2 rfl)
        exact ⟨se_or za.1 zb.1, fun _ => zw.st, fun _ => zw⟩
    · cases h
  | cmp op a b iha ihb =>
    refine go_of (fun G X E Γ n sc e w hN hs h => ?_) (fun _ _ => rfl) trivial
    simp only [chkE] at h
    split at h
    · simp only [Bool.and_eq_true, decide_eq_true_eq] at h
      obtain ⟨⟨⟨rfl, h1⟩, h2⟩, h3⟩ := h
      obtain ⟨r, b1, b2⟩ := cmp_ok w.xo w.sm op
      have za := (iha.1 G X E Γ n sc _ w hN hs h1).1
      have zb := (ihb.1 G X E Γ n sc _ w hN hs h2).1
      exact tri_st (se_cmp2 b1 b2 (notSet_marks h3) za zb) (stb_cmp b1 b2 (notSet_marks h3) za zb) rfl
    · cases h
  | cmp2 op op' a b c iha ihb ihc =>
    refine go_of (fun G X E Γ n sc e w hN hs h => ?_) (fun _ _ => rfl) trivial
    simp only [chkE] at h
    split at h
    · simp only [Bool.and_eq_true, decide_eq_true_eq] at h
      obtain ⟨⟨⟨⟨⟨rfl, rfl⟩, h1⟩, h2⟩, h3⟩, h4⟩ := h
      obtain ⟨r, b1, b2⟩ := cmp_ok w.xo w.sm op
      obtain ⟨r', b1', b2'⟩ := cmp_ok w.xo w.sm op'
      have za := (iha.1 G X E Γ n sc _ w hN hs h1).1
      have zb := (ihb.1 G X E Γ n sc _ w hN hs h2).1
      have zc := (ihc.1 G X E Γ n sc _ w hN hs h3).1
      exact tri_st (se_chain b1 b2 b1' b2' (notSet_marks h4) za zb zc) (stb_chain b1 b2 b1' b2' (notSet_marks h4) za zb zc) rfl
    · cases h
  | ite t a b iht iha ihb =>
    refine go_of (fun G X E Γ n sc e w hN hs h => ?_) (fun _ _ => rfl) trivial
    simp only [chkE] at h
    split at h
    · simp only [Bool.and_eq_true] at h
      obtain ⟨⟨⟨h1, h2⟩, h3⟩, h4⟩ := h
      exact tri_no (se_ite ((iht.1 G X E Γ n sc _ w hN hs h1).2.1 h2) (iha.1 G X E Γ n sc _ w hN hs h3).1 (ihb.1 G X E Γ n sc _ w hN hs h4).1) rfl rfl
    · cases h
  | tup as ih =>
    refine go_of (fun G X E Γ n sc e w hN hs h => ?_) (fun _ _ => rfl) trivial
    simp only [chkE] at h
    split at h
    · simp only [Bool.and_eq_true, decide_eq_true_eq] at h
      exact tri_no (se_tup (ih.2.1 G X E Γ n sc _ w hN hs h.1) h.2) rfl rfl
    · cases h
  | lst qq as ih =>
    refine go_of (fun G X E Γ n sc e w hN hs h => ?_) (fun _ _ => rfl) trivial
    simp only [chkE] at h
    split at h
    · simp only [Bool.and_eq_true, decide_eq_true_eq] at h
      exact tri_no (se_lst (ih.2.1 G X E Γ n sc _ w hN hs h.1) h.2) rfl rfl
    · cases h
  | dct qq ks as ih =>
    refine go_of (fun G X E Γ n sc e w hN hs h => ?_) (fun _ _ => rfl) trivial
    simp only [chkE] at h
    split at h
    · rename_i keys values pos
      simp only [Bool.and_eq_true, decide_eq_true_eq] at h
      obtain ⟨⟨⟨⟨h1, h2⟩, h3⟩, h4⟩, h5⟩ := h
      obtain ⟨z1, z2⟩ := pairs_all h1
      cases keys with
      | nil =>
        cases values with
        | cons => simp at h3
        | nil =>
          cases ks with
          | cons => simp at z2
          | nil =>
            have e0 : as = .nil := by cases as <;> simp [chkA] at h2 <;> rfl
            subst e0
            exact tri_no dct0 rfl rfl
      | cons k keys => exact tri_no (se_dct (sps_of ih.2.2 w hN hs h1 h2 h3) z1 h3 (by simp) h4 z2 h5 (chkA_len h2)) rfl rfl
    · cases h
  | call f as ih =>
    refine go_of (fun G X E Γ n sc e w hN hs h => ?_) (fun _ _ => rfl) trivial
    simp only [chkE] at h
    split at h
    · simp only [Bool.and_eq_true, decide_eq_true_eq, Bool.not_eq_true'] at h
      exact tri_call (se_call w hN hs h.1.1.1.1 h.1.1.1.2 h.1.1.2 ih.2.1 h.1.2 h.2)
    · cases h
  | blt qq f as ih =>
    refine go_of (fun G X E Γ n sc e w hN hs h => ?_) (fun _ _ => rfl) trivial
    simp only [chkE] at h
    cases hkw : f.isKw with
    | true =>
      rw [hkw, cond_true] at h
      split at h
      · simp only [Bool.and_eq_true, decide_eq_true_eq, Bool.not_eq_true'] at h
        obtain ⟨⟨⟨⟨rfl, rfl⟩, h2⟩, h3⟩, h4⟩ := h
        obtain ⟨f1, f2, _, _⟩ := free_of w hs h2
        obtain ⟨a, rfl, p1, c1⟩ := chkA1 h3
        cases f <;> simp only [Bf.isKw, Bool.false_eq_true] at hkw
        exact tri_call (se_mind w h4 f1 f2 (ih.2.1 G X E Γ n sc _ w hN hs h3) (star1 p1))
      · cases h
    | false =>
    rw [hkw, cond_false] at h
    split at h
    · cases hset : f.isSet with
      | true =>
        rw [hset, cond_true] at h
        split at h
        · simp only [Bool.and_eq_true, decide_eq_true_eq, Bool.or_eq_true, Bool.not_eq_true'] at h
          obtain ⟨⟨⟨⟨⟨⟨h1, hy⟩, h2⟩, h2'⟩, h3⟩, h4⟩, h5⟩ := h
          obtain ⟨f1, f2, f3, f4⟩ := free_of w hs h2
          obtain ⟨f1', f2', f3', f4'⟩ := free_of w hs h2'
          have pl := chkA_plain h3
          rename_i y p2 es' pos2
          cases es' with
          | nil => exact absurd rfl h4
          | cons e es => exact tri_call (blt_set w hset h1 hy h5 f1 f2 f1' f2' (ih.2.1 G X E Γ n sc _ w hN hs h3) (plain_star (pl e List.mem_cons_self) es X.env) (plain_any fun e' he => pl e' (List.mem_cons_of_mem _ he)))
        · cases h
      | false =>
      rw [hset, cond_false] at h
      simp only [Bool.and_eq_true, decide_eq_true_eq, Bool.or_eq_true, Bool.not_eq_true'] at h
      obtain ⟨⟨⟨⟨h1, h2⟩, h3⟩, h4⟩, h5⟩ := h
      obtain ⟨f1, f2, f3, f4⟩ := free_of w hs h2
      have pl := chkA_plain h3
      rename_i x p es pos
      cases es with
      | nil => exact absurd rfl h4
      | cons e es => exact tri_call (blt_se w hset hkw h1 h5 f1 f2 f3 f4 (ih.2.1 G X E Γ n sc _ w hN hs h3) (plain_star (pl e List.mem_cons_self) es X.env) (plain_any fun e' he => pl e' (List.mem_cons_of_mem _ he)))
    · cases h
  | mth m o as iho ih =>
    refine go_of (fun G X E Γ n sc e w hN hs h => ?_) (fun _ _ => rfl) trivial
    simp only [chkE] at h
    split at h
    · simp only [Bool.and_eq_true, decide_eq_true_eq, Bool.or_eq_true] at h
      obtain ⟨⟨⟨⟨⟨⟨h1, h3⟩, h4⟩, h5⟩, h7⟩, h8⟩, h2⟩ := h
      have pl := chkA_plain h5
      rename_i eo name apos es cpos
      have sa := ih.2.1 G X E Γ n sc _ w hN hs h5
      have so := (iho.1 G X E Γ n sc _ w hN hs h3).1
      rcases h2 with h2 | h2
      · cases es with
        | nil =>
          have e0 : as = .nil := by cases as <;> simp [chkA] at h5 <;> rfl
          subst e0
          exact tri_call (se_mt0 w h2 h1 so (baseOk_eq h4) h8)
        | cons e es => exact tri_call (se_mt w h2 h1 so sa (baseOk_eq h4) (few_plain pl h7) h8 (plain_star (pl e List.mem_cons_self) es X.env) (plain_any fun e' he => pl e' (List.mem_cons_of_mem _ he)))
      · split at h2
        · rename_i e1
          obtain ⟨a, rfl, p1, c1⟩ := chkA1 h5
          subst h1
          exact tri_call (se_get1 w.xo so (ih.2.2.1 G X E Γ n sc _ w hN hs c1).1 ⟨baseOk_eq h4, few_plain pl h7, h8, by rw [star1 p1]; rfl⟩)
        · rename_i e1 e2
          obtain ⟨a, b, rfl, p1, p2⟩ := chkA2 h5
          subst h1
          simp only [chkA, Bool.and_eq_true] at h5
          exact tri_call (se_get2 w.xo so (ih.2.2.1 G X E Γ n sc _ w hN hs h5.1.2).1 (ih.2.2.2.1 G X E Γ n sc _ w hN hs h5.2.1.2).1 ⟨baseOk_eq h4, few_plain pl h7, h8, by rw [star2 p1 p2]; rfl⟩)
        · rename_i e1
          obtain ⟨a, rfl, p1, c1⟩ := chkA1 h5
          subst h1
          exact tri_call (se_dpop w.xo so (ih.2.2.1 G X E Γ n sc _ w hN hs c1).1 ⟨baseOk_eq h4, few_plain pl h7, h8, by rw [star1 p1]; rfl⟩)
        · cases h2
    · cases h
  | omth c f m o as iho ih =>
    refine go_of (fun G X E Γ n sc e w hN hs h => ?_) (fun _ _ => rfl) trivial
    simp only [chkE] at h
    split at h
    · simp only [Bool.and_eq_true, decide_eq_true_eq, Bool.not_eq_true'] at h
      obtain ⟨⟨⟨⟨⟨⟨⟨rfl, h1⟩, h3⟩, h4⟩, h5⟩, h7⟩, h8⟩, hh⟩ := h
      have pl := chkA_plain h5
      rename_i eo name apos es cpos
      have so := (iho.1 G X E Γ n sc _ w hN hs h3).1
      obtain ⟨C0, a, fd, ps, g1, g2, g3, g4, F⟩ := w.mths hh G.blk f c _ _ h1
      have g1' : G.mg (clsName c) = some (.ref C0) := by rw [← w.xo.mg]; exact g1
      cases es with
      | nil =>
        have e0 : as = .nil := by cases as <;> simp [chkA] at h5 <;> rfl
        subst e0
        exact tri_call (se_om0 so g1' g2 g3 F rfl (w.xo.room (w.cold hh).2) w.xo.gd g4 (w.pass hh) (baseOk_eq h4) h8)
      | cons e es => exact tri_call (se_om so (ih.2.1 G X E Γ n sc _ w hN hs h5) g1' g2 g3 F rfl (chkA_len h5) (w.xo.room (w.cold hh).2) w.xo.gd g4 (w.pass hh) (baseOk_eq h4) (few_plain pl h7) h8 (plain_star (pl e List.mem_cons_self) es X.env) (plain_any fun e' he => pl e' (List.mem_cons_of_mem _ he)))
    · cases h
  | make c f as ih =>
    refine go_of (fun G X E Γ n sc e w hN hs h => ?_) (fun _ _ => rfl) trivial
    simp only [chkE] at h
    split at h
    · simp only [Bool.and_eq_true, decide_eq_true_eq, Bool.not_eq_true'] at h
      obtain ⟨⟨⟨⟨⟨⟨h0, h1⟩, h2⟩, h3⟩, h5⟩, h6⟩, hh⟩ := h
      have pl := chkA_plain h5
      obtain ⟨o1, o2, o3⟩ := okN_of h3
      rename_i x p es pos
      have gl : Gl X x := by
        show X.env.scope.names.lookup x = _
        rw [hs]
        exact of_decide_eq_true h2
      obtain ⟨C0, a, fd, ps, g1, g3, g4, F⟩ := w.mks hh G.blk c f _ h1
      have g1' : G.mg (clsName c) = some (.ref C0) := by rw [← w.xo.mg]; exact g1
      cases es with
      | nil => exact absurd rfl h6
      | cons e es => exact tri_call (se_make (ih.2.1 G X E Γ n sc _ w hN hs h5) h0 g1' w.xo.mg g3 F rfl (chkA_len h5) (w.xo.room1 (w.cold hh).2) w.xo.gd g4 (w.pass hh) gl o1 (plain_star (pl e List.mem_cons_self) es X.env) (plain_any fun e' he => pl e' (List.mem_cons_of_mem _ he)))
    · cases h
  | idx a b iha ihb =>
    refine go_of (fun G X E Γ n sc e w hN hs h => ?_) (fun _ _ => rfl) trivial
    simp only [chkE] at h
    split at h
    · simp only [Bool.and_eq_true] at h
      obtain ⟨r, b1, b2⟩ := idx_ok w.xo
      exact tri_no (se_idx b1 b2 (notSlice_ix h.2) (iha.1 G X E Γ n sc _ w hN hs h.1.1).1 (ihb.1 G X E Γ n sc _ w hN hs h.1.2).1) rfl rfl
    · cases h
  | slc qq a lo hi iha ihl ihh =>
    refine go_of (fun G X E Γ n sc e w hN hs h => ?_) (fun _ _ => rfl) trivial
    simp only [chkE] at h
    split at h
    · simp only [Bool.and_eq_true] at h
      obtain ⟨r, b1, b2⟩ := slc_ok (qq := qq) w.xo
      exact tri_no (se_slc b1 b2 (iha.1 G X E Γ n sc _ w hN hs h.1.1).1 (sb_of ihl.1 w hN hs h.1.2) (sb_of ihh.1 w hN hs h.2)) rfl rfl
    · cases h
  | rev qq a iha =>
    refine go_of (fun G X E Γ n sc e w hN hs h => ?_) (fun _ _ => rfl) trivial
    simp only [chkE] at h
    split at h
    · exact tri_no (se_rev w.xo (iha.1 G X E Γ n sc _ w hN hs h).1) rfl rfl
    · cases h
  | fld c o f iho =>
    refine go_of (fun G X E Γ n sc e w hN hs h => ?_) (fun _ _ => rfl) trivial
    simp only [chkE] at h
    split at h
    · simp only [Bool.and_eq_true, decide_eq_true_eq] at h
      obtain ⟨⟨⟨rfl, h1⟩, h3⟩, h4⟩ := h
      exact tri_no (se_fld w.xo (iho.1 G X E Γ n sc _ w hN hs h3).1 (fun C0 hC => w.flds c _ h1 C0 (by rw [w.xo.mg]; exact hC)) (baseOk_eq h4)) rfl rfl
    · cases h
  | dctT qq =>
    refine go_of (fun G X E Γ n sc e w hN hs h => ?_) (fun _ _ => rfl) trivial
    simp only [chkE] at h
    split at h
    · exact tri_no dctT0 rfl rfl
    · cases h
  | lcK qq i j cond elt ihc ihe =>
    refine go_of (fun G X E Γ n sc e w hN hs h => ?_) (fun _ _ => rfl) trivial
    simp only [chkE] at h
    split at h
    · rename_i eelt etg x px ifs as scope pos
      simp only [Bool.and_eq_true, decide_eq_true_eq, Bool.not_eq_true'] at h
      obtain ⟨⟨⟨⟨⟨⟨rfl, hh⟩, ⟨h1, h2⟩, h3⟩, h4⟩, h5⟩, h6⟩, h7⟩ := h
      obtain ⟨o1, o2, o3⟩ := okN_of h3
      have ok : BlkOk X.N X.env.scope scope (ownOf N (.one i)) := by rw [hN, hs]; exact blkOk_by h4
      exact tri_no (se_lcK w.xo (w.cold hh).1 (by rw [hN]; exact h1) (by rw [hs]; exact vis_of h2) o1 o2 ok ownOf_slots (by rw [hN]; exact h5) (fun b => ifs_of hh b ihc.1 w hN hs h6)
        (fun b p => (ihe.1 (G.wb b) (blkOf X scope p) E0' Γ n (relS scope sc) eelt ((w.wb b).blk hh scope p) hN (by show relS scope X.env.scope = _; rw [hs]) h7).1)) rfl rfl
    · cases h
  | lrng qq a iha =>
    refine go_of (fun G X E Γ n sc e w hN hs h => ?_) (fun _ _ => rfl) trivial
    simp only [chkE] at h
    split at h
    · simp only [Bool.and_eq_true, decide_eq_true_eq, Bool.not_eq_true'] at h
      obtain ⟨⟨⟨⟨⟨⟨rfl, rfl⟩, h1⟩, h2⟩, h3⟩, h4⟩, h5⟩ := h
      obtain ⟨f1, f2, _, _⟩ := free_of w hs h1
      obtain ⟨g1, g2, _, _⟩ := free_of w hs h2
      exact tri_call (se_lrng w.xo (w.cold h5).1 f1 f2 g1 g2 (iha.1 G X E Γ n sc _ w hN hs h4).1 (star1 h3))
    · cases h
  | trng a iha =>
    refine go_of (fun G X E Γ n sc e w hN hs h => ?_) (fun _ _ => rfl) trivial
    simp only [chkE] at h
    split at h
    · simp only [Bool.and_eq_true, decide_eq_true_eq, Bool.not_eq_true'] at h
      obtain ⟨⟨⟨⟨⟨⟨rfl, rfl⟩, h1⟩, h2⟩, h3⟩, h4⟩, h5⟩ := h
      obtain ⟨f1, f2, _, _⟩ := free_of w hs h1
      obtain ⟨g1, g2, _, _⟩ := free_of w hs h2
      exact tri_call (se_trng w.xo (w.cold h5).1 f1 f2 g1 g2 (iha.1 G X E Γ n sc _ w hN hs h4).1 (star1 h3))
    · cases h
  | nin b ihb =>
    refine go_of (fun G X E Γ n sc e w hN hs h => ?_) (fun _ _ => rfl) trivial
    simp only [chkE] at h
    split at h
    · simp only [Bool.and_eq_true] at h
      obtain ⟨⟨h1, h2⟩, h3⟩ := h
      have hn : ∀ C, G.mg "Ledger" = some (.ref C) → NEq G.K C := fun C hC => by
        rw [← w.xo.K]
        exact w.exs.neq h3 C (by rw [w.xo.mg]; exact hC)
      have zb := (ihb.1 G X E Γ n sc _ w hN hs h1).1
      exact tri_st (se_nin w.xo hn (notSet_marks h2) zb) (stb_nin w.xo hn (notSet_marks h2) zb) rfl
    · cases h
  | lc qq tg it x cond elt ihx ihc ihe =>
    refine go_of (fun G X E Γ n sc e w hN hs h => ?_) (fun _ _ => rfl) trivial
    obtain ⟨eelt, etg, eiter, ifs, scope, pos, rfl, L⟩ := lc_parts h
    have ok : BlkOk X.N X.env.scope scope (ownOf N tg) := by rw [hN, hs]; exact blkOk_by L.blk
    exact tri_no (se_lc w.xo (w.cold L.hh).1 (si_of ihx w hN hs L.iter) ok ownOf_slots (by rw [hN]; exact L.tg) (fun b => ifs_of L.hh b ihc.1 w hN hs L.ifs) (L.elt_of ihe.1 w hN hs) (notSet_fold L.set X.env)) rfl rfl
  | nil =>
    refine ⟨gNo fun _ _ => rfl, fun G X E Γ n sc es w hN hs h => ?_, trivial⟩
    cases es with
    | nil => exact sa_nil
    | cons => simp [chkA] at h
  | cons a as iha ih =>
    refine ⟨gNo fun _ _ => rfl, fun G X E Γ n sc es w hN hs h => ?_, iha.1, ih.2.2⟩
    cases es with
    | nil => simp [chkA] at h
    | cons e es =>
      simp only [chkA, Bool.and_eq_true] at h
      exact sa_cons (iha.1 G X E Γ n sc e w hN hs h.1.2).1 (ih.2.1 G X E Γ n sc es w hN hs h.2) (plain_star h.1.1 es X.env)
  | no => exact go_of (gNo fun _ _ => rfl) (fun _ _ => rfl) trivial
end
end MP

namespace MP
open PySem L2
def locB (sc : Scope) (x : Str) : Bool := decide (sc.names.lookup x = some .local)
def celB (sc : Scope) (x : Str) : Bool := decide (sc.names.lookup x = some .local) || decide (sc.names.lookup x = some .cell)
def celN (sc : Scope) : Expr → Bool
  | .Name x _ => !decide (sc.names.lookup x = some .local)
  | _ => false
def parOk (N : List Str) (sc : Scope) (is : List Nat) (ts vs : List Expr) : Bool :=
  (match is, ts, vs with
    | [i, j], [.Name x px, .Name y py], [_, _] => decide (N[i]? = some x) && decide (N[j]? = some y) && decide (i ≠ j) && locB sc x && locB sc y && decide (py.line = px.line) && decide (x ≠ y)
    | [i, j, l], [.Name x px, .Name y py, .Name z pz], [_, _, _] => decide (N[i]? = some x) && decide (N[j]? = some y) && decide (N[l]? = some z) && decide (i ≠ j) && decide (i ≠ l) && decide (j ≠ l) && locB sc x && locB sc y && locB sc z
        && decide (py.line = px.line) && decide (pz.line = px.line) && decide (x ≠ y) && decide (x ≠ z) && decide (y ≠ z)
    | _, _, _ => false) && vs.all plainE && !vs.all (foldedForSure 8) && !vs.all (constantsAlone 8)
def lcSw (sc : Scope) (x : Str) (px : Pos) : Expr → Bool
  | .ListComp _ _ scope pos => locB sc x && (px.line == pos.line) && !(scope.names.any fun (n, k) => n == x && (k == .local || k == .cell))
  | _ => false
def isLc : C → Bool
  | .lc _ _ _ _ _ _ => true
  | .lcK _ _ _ _ _ => true
  | _ => false
mutual
def chk1 (T : Tab) (N : List Str) (sc : Scope) : K → Stmt → Bool
  | .skip, st => match st with
    | .Pass _ => true
    | _ => false
  | .dead, _ => true
  | .cont, st => match st with
    | .Continue _ => true
    | _ => false
  | .seq _ _, _ => false
  | .expr c, st => match st with
    | .Expr e _ => chkE T N c sc e && notComp e
    | _ => false
  | .set i c, st => match st with
    | .Assign [.Name x p] e _ => decide (N[i]? = some x) && celB sc x && chkE T N c sc e && ((notComp e || decide (sc.names.lookup x = some .cell)) || (isLc c && lcSw sc x p e))
    | _ => false
  | .unp is c, st => match st with
    | .Assign [.Tuple es k tp] e _ => (Tg.many is).ok N sc (.Tuple es k tp) && !T.hot && chkE T N c sc e && (match e with
      | .Tuple vs _ _ => (vs.all (foldedForSure 8) || !(es.length == 2 || es.length == 3)) || es.any (celN sc)
      | _ => true)
    | _ => false
  | .par is as, st => match st with
    | .Assign [.Tuple ts _ _] (.Tuple vs _ _) _ => parOk N sc is ts vs && chkA T N as sc vs && !T.hot
    | _ => false
  | .put o i v, st => match st with
    | .Assign [.Subscript eo ei _] ev _ => chkE T N o sc eo && chkE T N i sc ei && chkE T N v sc ev
    | _ => false
  | .setf c o f v, st => match st with
    | .Assign [.Attribute eo g _] ev _ => decide (g = f) && decide ((c, f) ∈ T.flds) && chkE T N o sc eo && chkE T N v sc ev
    | _ => false
  | .forK i j b, st => match st with
    | .For etg (.Name x _) bs [] _ => (Tg.one i).ok N sc etg && (decide (N[j]? = some x) && visB sc x && okN x) && chkB T N sc b bs && !T.hot
    | _ => false
  | .ret c, st => match st with
    | .Return (some e) _ => chkE T N c sc e
    | _ => false
  | .retN, st => match st with
    | .Return none _ => true
    | _ => false
  | .ife t a b, st => match st with
    | .If et as bs _ => chkE T N t sc et && tstOk et && chkB T N sc a as && chkB T N sc b bs
    | _ => false
  | .whl t b, st => match st with
    | .While et bs [] _ => chkE T N t sc et && tstOk et && chkB T N sc b bs && !T.hot
    | _ => false
  | .for_ tg it x b, st => match st with
    | .For etg eiter bs [] _ => tg.ok N sc etg && chkI T N it x sc etg eiter && chkB T N sc b bs && notSet eiter && !T.hot
    | _ => false
  | .rais c a, st => match st with
    | .Raise (some (.Call (.Name x _) [ea] [] _)) none _ => decide (x = c) && glB sc x && okN x && T.excs.contains x && plainE ea && chkE T N a sc ea && !T.hot
    | _ => false
  | .tryW b c i f, st => match st with
    | .Try body [.ExceptHandler (some (.Name x _)) (some nm) [.Return (some (.Call (.Name g _) [.Name nm' _] [] _)) _] _] [] [] _ =>
      decide (x = c) && glB sc x && okN x && T.excs.contains x && decide (N[i]? = some nm) && locB sc nm && decide (nm' = nm) && okN nm && decide (T.hots.lookup f = some g) && glB sc g && okN g && chkB T N sc b body && !T.hot && T.tries
    | _ => false
def chkB (T : Tab) (N : List Str) (sc : Scope) : K → List Stmt → Bool
  | .skip, sts => match sts with
    | [] => true
    | _ => false
  | .seq a b, sts => match sts with
    | st :: rest => chk1 T N sc a st && chkB T N sc b rest
    | _ => false
  | _, _ => false
end
structure Wo2 (G : Gx) (T : Tab) (X : Cx) (E : XK) (Γ : Cal) (n : Nat) : Prop where
  w : Wok G T X E Γ n
  fn : ∀ x, X.fn x = true
  own : T.hot = false → PassesOwn (model X.prog X.w) X.A X.env X.xe
  tk : T.hot = false → Takes X (fun cls d _ H => E cls d H)
  stk : T.hot = false → X.stack = X.env :: X.outer ∧ X.env.frame = some X.env.locals
  kind : X.env.scope.kind = .function
section
variable {G : Gx} {T : Tab} {X : Cx} {E : XK} {Γ : Cal} {n W : Nat} {N : List Str} {sc : Scope}
theorem s1_dead {st : Stmt} : S1 G X E Γ W .dead st := ⟨fun _ _ _ => False, ⟨fun _ _ _ _ _ _ h => h.elim⟩, fun r s A H S D er R h => by simp only [evS] at h; exact h⟩
theorem sw_plain {e : Expr} {t : Option Expr} {l : Nat} {env : PySem.Env} (h : notComp e = true) : swapsWith e t l env = pure false := by
  cases e <;> first | rfl | (simp [notComp] at h)
theorem sw_cell {e : Expr} {x : Str} {p : Pos} {l : Nat} {env : PySem.Env} (h : env.scope.names.lookup x = some .cell) : swapsWith e (some (.Name x p)) l env = pure false := by
  have hk : (env.kindOf x == some .local) = false := by
    rw [beq_eq_false_iff_ne]
    show env.scope.names.lookup x ≠ _
    rw [h]
    decide
  cases e <;> first | rfl | (simp only [swapsWith, hk, Bool.and_false, Bool.false_and])
theorem sw_other {e t : Expr} {l : Nat} {env : PySem.Env} (h : (∃ es k p, t = .Tuple es k p) ∨ ∃ o i p, t = .Subscript o i p) : swapsWithSole [t] e l env = pure false := by
  rcases h with ⟨es, k, p, rfl⟩ | ⟨es, k, p, rfl⟩ <;> cases e <;> rfl
theorem st_sub {o i e : Expr} {p : Pos} {env : PySem.Env} : swappedStores [.Subscript o i p] e env = pure none := by
  cases e <;> rfl
theorem st_plain {es : List Expr} {k : Nat} {p : Pos} {e : Expr} {env : PySem.Env} (h : isTuple e = false) : swappedStores [.Tuple es k p] e env = pure none := by
  cases e <;> first | rfl | (simp [isTuple] at h)
theorem st_fold {es vs : List Expr} {k k' : Nat} {p p' : Pos} {env : PySem.Env} (h : (vs.all (foldedForSure 8) || !(es.length == 2 || es.length == 3)) = true) : swappedStores [.Tuple es k p] (.Tuple vs k' p') env = pure none := by
  unfold swappedStores
  rcases Bool.or_eq_true_iff.mp h with h | h
  · simp only [h]
    repeat' split
    all_goals first | rfl | simp_all
  · simp [h]
theorem fm_lt {α β : Type} {f : α → Option β} {l : List α} {a : α} (h : a ∈ l) (hf : f a = none) : (l.filterMap f).length < l.length := by
  simp
  exact ⟨a, h, hf⟩
theorem st_cell {es vs : List Expr} {k k' : Nat} {p p' : Pos} {env : PySem.Env} (h : es.any (celN env.scope) = true) : swappedStores [.Tuple es k p] (.Tuple vs k' p') env = pure none := by
  obtain ⟨e, he, hc⟩ := List.any_eq_true.mp h
  cases e with
  | Name x px =>
    simp only [celN, Bool.not_eq_true', decide_eq_false_iff_not] at hc
    have hk : (env.kindOf x == some .local) = false := by
      rw [beq_eq_false_iff_ne]
      exact hc
    have key : ∀ f : Expr → Option Str, f (.Name x px) = none → ((es.filterMap f).length != es.length) = true := fun f hf => by
      rw [bne_iff_ne]
      exact Nat.ne_of_lt (fm_lt he hf)
    unfold swappedStores
    dsimp only
    split
    · rfl
    split
    · rfl
    refine (if_pos ?_).trans rfl
    rw [Bool.or_eq_true]
    exact .inl (key _ (by simp [hk]))
  | _ => simp [celN] at hc
theorem st_unp {es vs : List Expr} {k k' : Nat} {p p' : Pos} {env : PySem.Env} (h : ((vs.all (foldedForSure 8) || !(es.length == 2 || es.length == 3)) || es.any (celN env.scope)) = true) : swappedStores [.Tuple es k p] (.Tuple vs k' p') env = pure none := by
  rcases Bool.or_eq_true_iff.mp h with h | h
  · exact st_fold h
  · exact st_cell h
theorem noStar (a : Expr) : plainE a = true → (match a with | .Starred .. => true | _ => false) = false := by
  intro h
  cases a <;> first | rfl | (simp [plainE] at h)
theorem st_two {x y : Str} {px py pt pt2 : Pos} {kt k2 : Nat} {a b : Expr} {env : PySem.Env} (hk : env.scope.kind = .function) (hx : env.scope.names.lookup x = some .local) (hy : env.scope.names.lookup y = some .local) (hl : py.line = px.line) (hn : x ≠ y)
    (hp : [a, b].all plainE = true) (h1 : [a, b].all (foldedForSure 8) = false) (h2 : [a, b].all (constantsAlone 8) = false) : swappedStores [.Tuple [.Name x px, .Name y py] kt pt] (.Tuple [a, b] k2 pt2) env = pure (some [x, y]) := by
  have hb : env.blockKind = .function := by unfold Env.blockKind; rw [hk]; rfl
  have kx : env.kindOf x = some .local := hx
  have ky : env.kindOf y = some .local := hy
  simp only [List.all_cons, List.all_nil, Bool.and_true, Bool.and_eq_true] at hp
  have sa := noStar _ hp.1
  have sb := noStar _ hp.2
  have hd : ([x, y] : List Str).eraseDups = [x, y] := by
    simp [List.eraseDups_cons, hn.symm]
  unfold swappedStores
  simp [hb, kx, ky, hl, Expr.pos, h1, h2, hd]
  intro h
  rcases h with h | h
  · exact absurd (sa.symm.trans h) (by decide)
  · exact absurd (sb.symm.trans h) (by decide)
theorem st_three {x y z : Str} {px py pz pt pt2 : Pos} {kt k2 : Nat} {a b c : Expr} {env : PySem.Env} (hk : env.scope.kind = .function) (hx : env.scope.names.lookup x = some .local) (hy : env.scope.names.lookup y = some .local) (hz : env.scope.names.lookup z = some .local)
    (hl : py.line = px.line) (hl2 : pz.line = px.line) (hn : x ≠ y) (hn2 : x ≠ z) (hn3 : y ≠ z)
    (hp : [a, b, c].all plainE = true) (h1 : [a, b, c].all (foldedForSure 8) = false) (h2 : [a, b, c].all (constantsAlone 8) = false) : swappedStores [.Tuple [.Name x px, .Name y py, .Name z pz] kt pt] (.Tuple [a, b, c] k2 pt2) env = pure (some [x, y, z]) := by
  have hb : env.blockKind = .function := by unfold Env.blockKind; rw [hk]; rfl
  have kx : env.kindOf x = some .local := hx
  have ky : env.kindOf y = some .local := hy
  have kz : env.kindOf z = some .local := hz
  simp only [List.all_cons, List.all_nil, Bool.and_true, Bool.and_eq_true] at hp
  have sa := noStar _ hp.1
  have sb := noStar _ hp.2.1
  have sc := noStar _ hp.2.2
  have hd : ([x, y, z] : List Str).eraseDups = [x, y, z] := by
    simp [List.eraseDups_cons, hn.symm, hn2.symm, hn3.symm]
  unfold swappedStores
  simp [hb, kx, ky, kz, hl, hl2, Expr.pos, h1, h2, hd]
  intro h
  rcases h with h | h | h
  · exact absurd (sa.symm.trans h) (by decide)
  · exact absurd (sb.symm.trans h) (by decide)
  · exact absurd (sc.symm.trans h) (by decide)
theorem Wo2.canSet (w : Wo2 G T X E Γ n) (hs : X.env.scope = sc) : CanSet X sc := by
  intro x h
  rw [← hs] at h
  exact ⟨h, .inl (w.fn x)⟩
theorem sub_eq {eo ei : Expr} {p : Pos} {env : PySem.Env} (h : notSlice ei = true) (v : Value) : assign (.Subscript eo ei p) env v = (do
      let ov ← holding [v] (eval eo env)
      let iv ← holding [v, ov] (eval ei env)
      standAt p
      holding [v, ov, iv] (setItem ov iv v)
      release [v, ov, iv] []) := by
  cases ei <;> first | rfl | (simp [notSlice] at h)
theorem chk_notSlice {c : C} {e : Expr} (h : chkE T N c sc e = true) : notSlice e = true := by
  cases e <;> first | rfl | (cases c <;> simp [chkE] at h)
def G1 (T : Tab) (N : List Str) (W : Nat) (k : K) : Prop := ∀ (G : Gx) (X : Cx) (E : XK) (Γ : Cal) (n : Nat) (sc : Scope) (st : Stmt), Wo2 G T X E Γ n → X.N = N → X.env.scope = sc → chk1 T N sc k st = true → S1 G X E Γ W k st
def GB (T : Tab) (N : List Str) (W : Nat) (k : K) : Prop := ∀ (G : Gx) (X : Cx) (E : XK) (Γ : Cal) (n : Nat) (sc : Scope) (sts : List Stmt), Wo2 G T X E Γ n → X.N = N → X.env.scope = sc → chkB T N sc k sts = true → SS G X E Γ W k sts
theorem gbNo {k : K} (h : ∀ sc sts, chkB T N sc k sts = false) : GB T N W k := fun G X E Γ n sc es _ _ _ hc => by rw [h] at hc; cases hc
theorem gs_all (T : Tab) (N : List Str) (W : Nat) : ∀ k : K, G1 T N W k ∧ GB T N W k := by
  intro k
  induction k with
  | skip =>
    refine ⟨fun G X E Γ n sc st w hN hs h => ?_, fun G X E Γ n sc sts w hN hs h => ?_⟩
    · cases st <;> simp [chk1] at h
      exact s1_pass
    · cases sts <;> simp [chkB] at h
      exact ss_skip
  | seq a b iha ihb =>
    refine ⟨fun G X E Γ n sc st w hN hs h => by simp [chk1] at h, fun G X E Γ n sc sts w hN hs h => ?_⟩
    cases sts <;> simp only [chkB, Bool.and_eq_true, Bool.false_eq_true] at h
    exact ss_seq (iha.1 G X E Γ n sc _ w hN hs h.1) (ihb.2 G X E Γ n sc _ w hN hs h.2)
  | dead => exact ⟨fun G X E Γ n sc st w hN hs h => s1_dead, gbNo fun _ _ => rfl⟩
  | cont =>
    refine ⟨fun G X E Γ n sc st w hN hs h => ?_, gbNo fun _ _ => rfl⟩
    cases st <;> simp [chk1] at h
    exact s1_cont
  | expr c =>
    refine ⟨fun G X E Γ n sc st w hN hs h => ?_, gbNo fun _ _ => rfl⟩
    cases st <;> simp only [chk1, Bool.and_eq_true, Bool.false_eq_true] at h
    exact s1_expr ((go_all T N c).1 G X E Γ n sc _ w.w hN hs h.1).1 (sw_plain h.2)
  | set i c =>
    refine ⟨fun G X E Γ n sc st w hN hs h => ?_, gbNo fun _ _ => rfl⟩
    simp only [chk1] at h
    split at h
    · rename_i x p e pos
      simp only [Bool.and_eq_true, decide_eq_true_eq, Bool.or_eq_true] at h
      obtain ⟨⟨⟨h1, h2⟩, h3⟩, h4⟩ := h
      have lo : L2.Loc X.env.scope x := by
        rw [hs]
        simpa [celB, L2.Loc] using h2
      rcases h4 with (h4 | h4) | h4
      · exact s1_set w.w.xo.nd (by rw [hN]; exact h1) lo (.inl (w.fn x)) ((go_all T N c).1 G X E Γ n sc _ w.w hN hs h3).1 (sw_plain h4)
      · exact s1_set w.w.xo.nd (by rw [hN]; exact h1) lo (.inl (w.fn x)) ((go_all T N c).1 G X E Γ n sc _ w.w hN hs h3).1 (sw_cell (by rw [hs]; exact h4))
      · obtain ⟨h4, h5⟩ := h4
        cases c <;> simp only [isLc, Bool.false_eq_true] at h4
        · rename_i qq tg it y cond elt
          obtain ⟨eelt, etg, eiter, ifs, scope, lpos, rfl, L⟩ := lc_parts h3
          simp only [lcSw, Bool.and_eq_true, Bool.not_eq_true'] at h5
          have ok : BlkOk X.N X.env.scope scope (ownOf N tg) := by rw [hN, hs]; exact blkOk_by L.blk
          have hl : X.env.scope.names.lookup x = some .local := by rw [hs]; exact of_decide_eq_true h5.1.1
          exact s1_setLc w.w.xo (w.w.cold L.hh).1 (by rw [hN]; exact h1) hl (sw_true w.kind hl h5.1.2 h5.2) (si_of (go_all T N y) w.w hN hs L.iter) ok ownOf_slots (by rw [hN]; exact L.tg) (fun b => ifs_of L.hh b (go_all T N cond).1 w.w hN hs L.ifs) (L.elt_of (go_all T N elt).1 w.w hN hs) (notSet_fold L.set X.env)
        · rename_i qq i' j cond elt
          simp only [chkE] at h3
          split at h3
          · rename_i eelt etg z px ifs as scope lpos
            simp only [Bool.and_eq_true, decide_eq_true_eq, Bool.not_eq_true'] at h3
            obtain ⟨⟨⟨⟨⟨⟨rfl, hh⟩, ⟨k1, k2⟩, k3⟩, k4⟩, k5⟩, k6⟩, k7⟩ := h3
            obtain ⟨o1, o2, o3⟩ := okN_of k3
            simp only [lcSw, Bool.and_eq_true, Bool.not_eq_true'] at h5
            have ok : BlkOk X.N X.env.scope scope (ownOf N (.one i')) := by rw [hN, hs]; exact blkOk_by k4
            have hl : X.env.scope.names.lookup x = some .local := by rw [hs]; exact of_decide_eq_true h5.1.1
            exact s1_setLcK w.w.xo (w.w.cold hh).1 (by rw [hN]; exact h1) hl (sw_true w.kind hl h5.1.2 h5.2) (by rw [hN]; exact k1) (by rw [hs]; exact vis_of k2) o1 o2 ok ownOf_slots (by rw [hN]; exact k5) (fun b => ifs_of hh b (go_all T N cond).1 w.w hN hs k6)
              (fun b p => ((go_all T N elt).1 (G.wb b) (blkOf X scope p) E0' Γ n (relS scope sc) eelt ((w.w.wb b).blk hh scope p) hN (by show relS scope X.env.scope = _; rw [hs]) k7).1)
          · cases h3
    · cases h
  | unp is c =>
    refine ⟨fun G X E Γ n sc st w hN hs h => ?_, gbNo fun _ _ => rfl⟩
    simp only [chk1] at h
    split at h
    · rename_i es k tp e pos
      simp only [Bool.and_eq_true, Bool.not_eq_true'] at h
      refine s1_unp w.w.xo (w.w.cold h.1.1.2).1 (w.canSet hs) (by rw [hN]; exact h.1.1.1) ((go_all T N c).1 G X E Γ n sc _ w.w hN hs h.1.2).1 (sw_other (.inl ⟨_, _, _, rfl⟩)) ?_
      have h2 := h.2
      cases e <;> first | exact st_plain rfl | exact st_unp (by rw [hs]; exact h2)
    · cases h
  | par is as =>
    refine ⟨fun G X E Γ n sc st w hN hs h => ?_, gbNo fun _ _ => rfl⟩
    simp only [chk1] at h
    split at h
    · rename_i ts k tp vs k2 tp2 pos
      simp only [Bool.and_eq_true, Bool.not_eq_true'] at h
      obtain ⟨⟨h1, h2⟩, hh⟩ := h
      have sa := (go_all T N as).2.1 G X E Γ n sc _ w.w hN hs h2
      unfold parOk at h1
      simp only [Bool.and_eq_true, Bool.not_eq_true'] at h1
      obtain ⟨⟨⟨h1, p1⟩, p2⟩, p3⟩ := h1
      split at h1
      · simp only [Bool.and_eq_true, decide_eq_true_eq, locB] at h1
        obtain ⟨⟨⟨⟨⟨⟨a1, a2⟩, a3⟩, a4⟩, a5⟩, a6⟩, a7⟩ := h1
        rw [← hs] at a4 a5
        exact s1_par2 w.w.xo (w.w.cold hh).1 (by rw [hN]; exact a1) (by rw [hN]; exact a2) a3 a4 a5 sa (st_two w.kind a4 a5 a6 a7 p1 p2 p3)
      · simp only [Bool.and_eq_true, decide_eq_true_eq, locB] at h1
        obtain ⟨⟨⟨⟨⟨⟨⟨⟨⟨⟨⟨⟨⟨a1, a2⟩, a3⟩, a4⟩, a5⟩, a6⟩, a7⟩, a8⟩, a9⟩, b1⟩, b2⟩, b3⟩, b4⟩, b5⟩ := h1
        rw [← hs] at a7 a8 a9
        exact s1_par3 w.w.xo (w.w.cold hh).1 (by rw [hN]; exact a1) (by rw [hN]; exact a2) (by rw [hN]; exact a3) a4 a5 a6 a7 a8 a9 sa (st_three w.kind a7 a8 a9 b1 b2 b3 b4 b5 p1 p2 p3)
      · cases h1
    · cases h
  | put o i v =>
    refine ⟨fun G X E Γ n sc st w hN hs h => ?_, gbNo fun _ _ => rfl⟩
    simp only [chk1] at h
    split at h
    · simp only [Bool.and_eq_true] at h
      exact s1_put w.w.xo ((go_all T N o).1 G X E Γ n sc _ w.w hN hs h.1.1).1 ((go_all T N i).1 G X E Γ n sc _ w.w hN hs h.1.2).1 ((go_all T N v).1 G X E Γ n sc _ w.w hN hs h.2).1 (sub_eq (chk_notSlice h.1.2)) (sw_other (.inr ⟨_, _, _, rfl⟩)) st_sub
    · cases h
  | setf c o f v =>
    refine ⟨fun G X E Γ n sc st w hN hs h => ?_, gbNo fun _ _ => rfl⟩
    simp only [chk1] at h
    split at h
    · simp only [Bool.and_eq_true, decide_eq_true_eq] at h
      obtain ⟨⟨⟨rfl, h1⟩, h2⟩, h3⟩ := h
      exact s1_setf w.w.xo ((go_all T N o).1 G X E Γ n sc _ w.w hN hs h2).1 ((go_all T N v).1 G X E Γ n sc _ w.w hN hs h3).1 (fun C0 hC => w.w.flds c _ h1 C0 (by rw [w.w.xo.mg]; exact hC)) (by rename_i ev _ ; cases ev <;> rfl)
    · cases h
  | forK i j b ihb =>
    refine ⟨fun G X E Γ n sc st w hN hs h => ?_, gbNo fun _ _ => rfl⟩
    simp only [chk1] at h
    split at h
    · simp only [Bool.and_eq_true, Bool.not_eq_true', decide_eq_true_eq] at h
      obtain ⟨⟨⟨h1, ⟨h2, h3⟩, h4⟩, h5⟩, h6⟩ := h
      obtain ⟨o1, o2, o3⟩ := okN_of h4
      exact s1_forK w.w.xo (w.w.cold h6).1 (w.own h6) (w.canSet hs) (by rw [hN]; exact h1) (by rw [hN]; exact h2) (by rw [hs]; exact vis_of h3) o1 o2 (ihb.2 G X E Γ n sc _ w hN hs h5)
    · cases h
  | ret c =>
    refine ⟨fun G X E Γ n sc st w hN hs h => ?_, gbNo fun _ _ => rfl⟩
    simp only [chk1] at h
    split at h
    · exact s1_ret ((go_all T N c).1 G X E Γ n sc _ w.w hN hs h).1
    · cases h
  | retN =>
    refine ⟨fun G X E Γ n sc st w hN hs h => ?_, gbNo fun _ _ => rfl⟩
    simp only [chk1] at h
    split at h
    · exact s1_retN
    · cases h
  | ife t a b iha ihb =>
    refine ⟨fun G X E Γ n sc st w hN hs h => ?_, gbNo fun _ _ => rfl⟩
    simp only [chk1] at h
    split at h
    · simp only [Bool.and_eq_true] at h
      exact s1_if (((go_all T N t).1 G X E Γ n sc _ w.w hN hs h.1.1.1).2.1 h.1.1.2) (iha.2 G X E Γ n sc _ w hN hs h.1.2) (ihb.2 G X E Γ n sc _ w hN hs h.2)
    · cases h
  | whl t b ihb =>
    refine ⟨fun G X E Γ n sc st w hN hs h => ?_, gbNo fun _ _ => rfl⟩
    simp only [chk1] at h
    split at h
    · simp only [Bool.and_eq_true, Bool.not_eq_true'] at h
      exact s1_while (w.own h.2) (((go_all T N t).1 G X E Γ n sc _ w.w hN hs h.1.1.1).2.1 h.1.1.2) (ihb.2 G X E Γ n sc _ w hN hs h.1.2)
    · cases h
  | for_ tg it x b ihb =>
    refine ⟨fun G X E Γ n sc st w hN hs h => ?_, gbNo fun _ _ => rfl⟩
    simp only [chk1] at h
    split at h
    · simp only [Bool.and_eq_true, Bool.not_eq_true'] at h
      exact s1_for w.w.xo (w.w.cold h.2).1 (w.own h.2) (w.canSet hs) (by rw [hN]; exact h.1.1.1.1) (si_of (go_all T N x) w.w hN hs h.1.1.1.2) (ihb.2 G X E Γ n sc _ w hN hs h.1.1.2) (notSet_fold h.1.2 X.env)
    · cases h
  | rais c a =>
    refine ⟨fun G X E Γ n sc st w hN hs h => ?_, gbNo fun _ _ => rfl⟩
    simp only [chk1] at h
    split at h
    · simp only [Bool.and_eq_true, decide_eq_true_eq, Bool.not_eq_true'] at h
      obtain ⟨⟨⟨⟨⟨⟨rfl, h1⟩, h2⟩, h3⟩, h4⟩, h5⟩, h6⟩ := h
      obtain ⟨o1, o2, o3⟩ := okN_of h2
      obtain ⟨C0, hC, ef⟩ := w.w.exs.has _ (by simpa using h3)
      have gl : ∀ {x : Str}, glB sc x = true → L2.Gl X x := fun {x} z => by
        show X.env.scope.names.lookup _ = _
        rw [hs]
        exact of_decide_eq_true z
      exact s1_raise (w.w.cold h6).1 (w.tk h6) w.w.xo.K w.w.xo.mg (gl h1) hC ef ((go_all T N a).1 G X E Γ n sc _ w.w hN hs h5).1 (star1 h4) o1
    · cases h
  | tryW b c i f ihb =>
    refine ⟨fun G X E Γ n sc st w hN hs h => ?_, gbNo fun _ _ => rfl⟩
    simp only [chk1] at h
    split at h
    · simp only [Bool.and_eq_true, decide_eq_true_eq, Bool.not_eq_true'] at h
      obtain ⟨⟨⟨⟨⟨⟨⟨⟨⟨⟨⟨⟨⟨rfl, h1⟩, h2⟩, h3⟩, h4⟩, h5⟩, rfl⟩, h7⟩, h8⟩, h9⟩, h10⟩, h11⟩, h12⟩, h13⟩ := h
      obtain ⟨o1, o2, o3⟩ := okN_of h2
      obtain ⟨n1, n2, n3⟩ := okN_of h7
      obtain ⟨g1, g2, g3⟩ := okN_of h10
      obtain ⟨C0, hC, ef⟩ := w.w.exs.has _ (by simpa using h3)
      obtain ⟨ga, fd, ps, q1, q2, q3, F⟩ := w.w.hots h12 G.blk f _ h8
      have gl : ∀ {x : Str}, glB sc x = true → L2.Gl X x := fun {x} z => by
        show X.env.scope.names.lookup _ = _
        rw [hs]
        exact of_decide_eq_true z
      have exs := w.w.exs
      rw [h13] at exs
      refine s1_try w.w.xo (w.w.noex h12) (w.stk h12).1 (w.stk h12).2 (by rw [hN]; exact h4) (by rw [hs]; exact of_decide_eq_true h5) n1 n2 (gl h1) o1 hC (w.tk h12) (gl h9) g1 q1 q2 q3 F exs (fun Wx pns xe tk po => ?_)
      have w' : Wok G T (X.tr pns xe) (fun cls d H => ∀ σ, Wx cls d σ H) Γ n :=
        ⟨⟨w.w.xo.K, w.w.xo.mg, w.w.xo.nd, w.w.xo.dp, w.w.xo.un, w.w.xo.gd⟩, w.w.sm, fun _ => passes_call tk (fun _ _ σ _ z => z σ), w.w.cold, w.w.noex, w.w.exs, w.w.hots, fun a c hx => by (rw [w.w.noex h12] at hx; cases hx), w.w.consts, w.w.free, w.w.flds, w.w.mths, w.w.mks, w.w.funs⟩
      exact ihb.2 G (X.tr pns xe) _ Γ n sc _ ⟨w', w.fn, fun _ => po, fun _ => tk.imp fun _ _ σ _ z => z σ, w.stk, w.kind⟩ hN hs h11
    · cases h
end
end MP

namespace MP
open PySem L2
section
variable {G : Gx} {A B : List Addr} {H H' : Hp} {S S' : Store} {E : XK}
theorem low_ix {n : Nat} {a : Addr} (h : (A ++ B)[n]? = some a) (hn : n < A.length) : A[n]? = some a := by
  rw [List.getElem?_append_left hn] at h; exact h
mutual
theorem Rep.low : ∀ {d : D} {v : V}, Rep G A H d v → lowD A.length d = true
  | _, _, .non => rfl
  | _, _, .bl b => rfl
  | _, _, .int i => rfl
  | _, _, .str x => rfl
  | _, _, .ty n => rfl
  | _, _, .own h => rfl
  | _, _, .exn h => rfl
  | _, _, .ref h => by
    simp only [lowD, decide_eq_true_eq]
    rcases Nat.lt_or_ge _ A.length with q | q
    · exact q
    · rw [List.getElem?_eq_none q] at h; cases h
  | _, _, .tup h t => by simp only [lowD]; exact RepL.low t
  | _, _, .con h n m t => by simp only [lowD]; exact RepL.low t
  | _, _, .scr h t => by simp only [lowD]; exact RepL.low t
  | _, _, .cdic h n m t => by simp only [lowD]; exact RepL.low t
  | _, _, .cdit h n m t => by simp only [lowD]; exact RepL.low t
  | _, _, .cins g h n m t => by simp only [lowD]; exact RepL.low t
theorem RepL.low : ∀ {ds : List D} {vs : List V}, RepL G A H ds vs → lowL A.length ds = true
  | _, _, .nil => rfl
  | _, _, .cons r t => by simp only [lowL, Bool.and_eq_true]; exact ⟨Rep.low r, RepL.low t⟩
end
mutual
/-- what has low references alone, over the first addresses -/
theorem Rep.cut : ∀ {d : D} {v : V}, Rep G (A ++ B) H d v → lowD A.length d = true → Rep G A H d v
  | _, _, .non, _ => .non
  | _, _, .bl b, _ => .bl b
  | _, _, .int i, _ => .int i
  | _, _, .str x, _ => .str x
  | _, _, .ty n, _ => .ty n
  | _, _, .own h, _ => .own h
  | _, _, .exn h, _ => .exn h
  | _, _, .ref h, l => .ref (low_ix h (by simpa [lowD] using l))
  | _, _, .tup h t, l => .tup h (RepL.cut t (by simpa only [lowD] using l))
  | _, _, .con h n m t, l => .con h (fun z => n (List.mem_append_left _ z)) m (RepL.cut t (by simpa only [lowD] using l))
  | _, _, .scr h t, l => .scr h (RepL.cut t (by simpa only [lowD] using l))
  | _, _, .cdic h n m t, l => .cdic h (fun z => n (List.mem_append_left _ z)) m (RepL.cut t (by simpa only [lowD] using l))
  | _, _, .cdit h n m t, l => .cdit h (fun z => n (List.mem_append_left _ z)) m (RepL.cut t (by simpa only [lowD] using l))
  | _, _, .cins g h n m t, l => .cins g h (fun z => n (List.mem_append_left _ z)) m (RepL.cut t (by simpa only [lowD] using l))
theorem RepL.cut : ∀ {ds : List D} {vs : List V}, RepL G (A ++ B) H ds vs → lowL A.length ds = true → RepL G A H ds vs
  | _, _, .nil, _ => .nil
  | _, _, .cons r t, l => by
    simp only [lowL, Bool.and_eq_true] at l
    exact .cons (Rep.cut r l.1) (RepL.cut t l.2)
end
theorem ORep.low {a : Addr} {o : O} (h : ORep G A H a o) : lowO A.length o = true := by
  cases o with
  | lst xs => obtain ⟨vs, e, q⟩ := h; exact q.low
  | dic kvs => obtain ⟨vs, e, k, q⟩ := h; exact q.low
  | ins c fs => obtain ⟨C, dx, vs, g, e, k, q⟩ := h; exact q.low
  | dit kvs => obtain ⟨vs, e, k, q⟩ := h; exact q.low
  | lck kvs => obtain ⟨ob, vs, e, k, q⟩ := h; exact q.low
theorem ORep.cut {a : Addr} {o : O} (h : ORep G (A ++ B) H a o) (l : lowO A.length o = true) : ORep G A H a o := by
  cases o with
  | lst xs => obtain ⟨vs, e, q⟩ := h; exact ⟨vs, e, q.cut l⟩
  | dic kvs => obtain ⟨vs, e, k, q⟩ := h; exact ⟨vs, e, k, q.cut l⟩
  | ins c fs => obtain ⟨C, dx, vs, g, e, k, q⟩ := h; exact ⟨C, dx, vs, g, e, k, q.cut l⟩
  | dit kvs => obtain ⟨vs, e, k, q⟩ := h; exact ⟨vs, e, k, q.cut l⟩
  | lck kvs => obtain ⟨ob, vs, e, k, q⟩ := h; exact ⟨ob, vs, e, k, q.cut l⟩
mutual
theorem pure_low (n : Nat) : ∀ {d : D}, pureD d = true → lowD n d = true
  | .non, _ => rfl
  | .bl b, _ => rfl
  | .int i, _ => rfl
  | .str x, _ => rfl
  | .ty n, h => by simp [pureD] at h
  | .own h, h' => by simp [pureD] at h'
  | .exn h, h' => by simp [pureD] at h'
  | .ref h, h' => by simp [pureD] at h'
  | .tup xs, h => by simp only [pureD] at h; simp only [lowD]; exact pure_lowL n h
  | .con xs, h => by simp only [pureD] at h; simp only [lowD]; exact pure_lowL n h
  | .scr xs, h => by simp [pureD] at h
  | .cdic ks xs, h => by simp only [pureD] at h; simp only [lowD]; exact pure_lowL n h
  | .cdit ks xs, h => by simp [pureD] at h
  | .cins c ns xs, h => by simp [pureD] at h
theorem pure_lowL (n : Nat) : ∀ {d : List D}, pureL d = true → lowL n d = true
  | [], _ => rfl
  | x :: xs, h => by
    simp only [pureL, Bool.and_eq_true] at h
    simp only [lowL, Bool.and_eq_true]
    exact ⟨pure_low n h.1, pure_lowL n h.2⟩
end
theorem mapM_rep {g : D → Option D} (hg : ∀ d d' v, g d = some d' → Rep G (A ++ B) H d v → Rep G A H d' v) : ∀ {ds ds' : List D} {vs : List V}, Paired (fun x p => g x = some p) ds ds' → RepL G (A ++ B) H ds vs → RepL G A H ds' vs
  | _, _, _, .nil, .nil => .nil
  | _, _, _, .cons e t, .cons r rt => .cons (hg _ _ _ e r) (mapM_rep hg t rt)
theorem frz_rep (R : SRel G (A ++ B) H S) : ∀ (f : Nat) (d d' : D) (v : V), frz S A.length f d = some d' → Rep G (A ++ B) H d v → Rep G A H d' v := by
  intro f
  induction f with
  | zero =>
    intro d d' v e r
    simp only [frz] at e
    split at e
    · rename_i hp
      cases e
      exact r.cut (pure_low _ hp)
    · cases e
  | succ f ih =>
    intro d d' v e r
    by_cases hp : pureD d = true
    · unfold frz at e
      rw [if_pos hp] at e
      cases e
      exact r.cut (pure_low _ hp)
    unfold frz at e
    rw [if_neg hp] at e
    cases d with
    | ref n =>
      dsimp only at e
      split at e
      · rename_i hn
        cases e
        exact r.cut (by simpa [lowD] using hn)
      · rename_i hn
        obtain ⟨a, rfl, ha⟩ := rep_ref r
        have nA : a ∉ A := fun z => by
          obtain ⟨m, hm⟩ := List.mem_iff_getElem?.mp z
          have l : m < A.length := by
            rcases Nat.lt_or_ge m A.length with q | q
            · exact q
            · rw [List.getElem?_eq_none q] at hm; cases hm
          have hm2 : (A ++ B)[m]? = some a := by rw [List.getElem?_append_left l]; exact hm
          have : m = n := (List.getElem?_inj (by simp; omega) R.nd).mp (hm2.trans ha.symm)
          omega
        have nB : a ∉ G.blk := fun z => (R.shut a z).2 (List.mem_iff_getElem?.mpr ⟨n, ha⟩)
        split at e
        · rename_i xs q
          simp only [Option.map_eq_some_iff] at e
          obtain ⟨ys, e1, rfl⟩ := e
          obtain ⟨vs, h2, h3⟩ := R.obj n _ a q ha
          exact .con h2 nA nB (mapM_rep ih (mapM_some e1) h3)
        · rename_i kvs q
          simp only [Option.map_eq_some_iff] at e
          obtain ⟨ys, e1, rfl⟩ := e
          obtain ⟨vs, h2, h3, h4⟩ := R.obj n _ a q ha
          rw [h3]
          exact .cdic (.inl h2) nA nB (mapM_rep ih (mapM_some e1) h4)
        · rename_i kvs q
          simp only [Option.map_eq_some_iff] at e
          obtain ⟨ys, e1, rfl⟩ := e
          obtain ⟨vs, h2, h3, h4⟩ := R.obj n _ a q ha
          rw [h3]
          exact .cdit (.inl h2) nA nB (mapM_rep ih (mapM_some e1) h4)
        · rename_i c fs q
          simp only [Option.map_eq_some_iff] at e
          obtain ⟨ys, e1, rfl⟩ := e
          obtain ⟨C, dx, vs, h1, h2, h3, h4⟩ := R.obj n _ a q ha
          rw [h3]
          exact .cins h1 h2 nA nB (mapM_rep ih (mapM_some e1) h4)
        · cases e
    | tup xs =>
      simp only [Option.map_eq_some_iff] at e
      obtain ⟨ys, e1, rfl⟩ := e
      obtain ⟨a, vs, rfl, h1, h2⟩ := rep_tup r
      exact .tup h1 (mapM_rep ih (mapM_some e1) h2)
    | con xs =>
      simp only [Option.map_eq_some_iff] at e
      obtain ⟨ys, e1, rfl⟩ := e
      cases r with
      | con h n m t => exact .con h (fun z => n (List.mem_append_left _ z)) m (mapM_rep ih (mapM_some e1) t)
    | cdic ks xs =>
      simp only [Option.map_eq_some_iff] at e
      obtain ⟨ys, e1, rfl⟩ := e
      cases r with
      | cdic h n m t => exact .cdic h (fun z => n (List.mem_append_left _ z)) m (mapM_rep ih (mapM_some e1) t)
    | cdit ks xs =>
      simp only [Option.map_eq_some_iff] at e
      obtain ⟨ys, e1, rfl⟩ := e
      cases r with
      | cdit h n m t => exact .cdit h (fun z => n (List.mem_append_left _ z)) m (mapM_rep ih (mapM_some e1) t)
    | cins c ns xs =>
      simp only [Option.map_eq_some_iff] at e
      obtain ⟨ys, e1, rfl⟩ := e
      cases r with
      | cins g h n m t => exact .cins g h (fun z => n (List.mem_append_left _ z)) m (mapM_rep ih (mapM_some e1) t)
    | scr xs =>
      dsimp only at e
      split at e
      · rename_i hp
        cases e
        exact r.cut (by simp only [lowD]; exact pure_lowL _ hp)
      · cases e
    | non => exact absurd rfl hp
    | bl b => exact absurd rfl hp
    | int b => exact absurd rfl hp
    | str b => exact absurd rfl hp
    | ty b => cases e; cases r; exact .ty b
    | own b =>
      cases e
      cases r with
      | own h => exact .own h
    | exn b => cases e; exact r.cut rfl
theorem frzT_rep (R : SRel G (A ++ B) H S) {d d' : D} {v : V} (e : frzT S A.length d = some d') (r : Rep G (A ++ B) H d v) : Rep G A H d' v := by
  exact frz_rep R _ _ _ _ e r
theorem cut_rel (R : SRel G A H S) (R' : SRel G (A ++ B) H' S') (ok : okT S S') : SRel G A H' (S'.take S.length) := by
  have hl := R.len
  have hl' := R'.len
  refine ⟨by rw [List.length_take, hl]; have := ok.1; omega, R.nd, fun b hb => ⟨(R'.shut b hb).1, (R.shut b hb).2⟩, fun n o a h1 h2 => ?_⟩
  have hn : n < A.length := by
    rcases Nat.lt_or_ge n A.length with q | q
    · exact q
    · rw [List.getElem?_eq_none q] at h2; cases h2
  have h3 : S'[n]? = some o := by
    rw [List.getElem?_take_of_lt (by omega)] at h1; exact h1
  have h4 : (A ++ B)[n]? = some a := by rw [List.getElem?_append_left hn]; exact h2
  refine (R'.obj n o a h3 h4).cut ?_
  rcases ok.2 n o (by omega) h3 with q | q
  · exact (R.obj n o a q h2).low
  · rw [hl]; exact q
theorem fin_cut {r : Res D} {Q : VK} (R : SRel G A H S) (h : FinE G A H (cutR S r) Q E) : FinE G A H r Q E := by
  cases r with
  | bad => exact h
  | ok d S' =>
    intro A' H' v x R' p
    obtain ⟨B, rfl, hB⟩ := x.pre
    simp only [cutR] at h
    split at h
    · rename_i ok
      split at h
      · rename_i d' e
        rw [← R.len] at e
        exact h A H' v ⟨⟨[], by simp, by simp⟩, x.keep'⟩ (cut_rel R R' ok) (frzT_rep R' e p)
      · exact h.elim
    · exact h.elim
  | exc c S' =>
    intro A' H' C x R' p
    obtain ⟨B, rfl, hB⟩ := x.pre
    simp only [cutR] at h
    split at h
    · rename_i ok
      exact h A H' C ⟨⟨[], by simp, by simp⟩, x.keep'⟩ (cut_rel R R' ok) p
    · exact h.elim
mutual
/-- over other addresses C: those below stay, none is new -/
theorem Rep.cutC {C : List Addr} (h1 : ∀ n x, n < A.length → (A ++ B)[n]? = some x → C[n]? = some x) (h2 : ∀ c ∈ C, c ∈ A ++ B) : ∀ {d : D} {v : V}, Rep G (A ++ B) H d v → lowD A.length d = true → Rep G C H d v
  | _, _, .non, _ => .non
  | _, _, .bl b, _ => .bl b
  | _, _, .int i, _ => .int i
  | _, _, .str x, _ => .str x
  | _, _, .ty n, _ => .ty n
  | _, _, .own h, _ => .own h
  | _, _, .exn h, _ => .exn h
  | _, _, .ref h, l => .ref (h1 _ _ (by simpa [lowD] using l) h)
  | _, _, .tup h t, l => .tup h (RepL.cutC h1 h2 t (by simpa only [lowD] using l))
  | _, _, .con h n m t, l => .con h (fun z => n (h2 _ z)) m (RepL.cutC h1 h2 t (by simpa only [lowD] using l))
  | _, _, .scr h t, l => .scr h (RepL.cutC h1 h2 t (by simpa only [lowD] using l))
  | _, _, .cdic h n m t, l => .cdic h (fun z => n (h2 _ z)) m (RepL.cutC h1 h2 t (by simpa only [lowD] using l))
  | _, _, .cdit h n m t, l => .cdit h (fun z => n (h2 _ z)) m (RepL.cutC h1 h2 t (by simpa only [lowD] using l))
  | _, _, .cins g h n m t, l => .cins g h (fun z => n (h2 _ z)) m (RepL.cutC h1 h2 t (by simpa only [lowD] using l))
theorem RepL.cutC {C : List Addr} (h1 : ∀ n x, n < A.length → (A ++ B)[n]? = some x → C[n]? = some x) (h2 : ∀ c ∈ C, c ∈ A ++ B) : ∀ {ds : List D} {vs : List V}, RepL G (A ++ B) H ds vs → lowL A.length ds = true → RepL G C H ds vs
  | _, _, .nil, _ => .nil
  | _, _, .cons r t, l => by
    simp only [lowL, Bool.and_eq_true] at l
    exact .cons (Rep.cutC h1 h2 r l.1) (RepL.cutC h1 h2 t l.2)
end
theorem ORep.cutC {C : List Addr} (h1 : ∀ n x, n < A.length → (A ++ B)[n]? = some x → C[n]? = some x) (h2 : ∀ c ∈ C, c ∈ A ++ B) {a : Addr} {o : O} (h : ORep G (A ++ B) H a o) (l : lowO A.length o = true) : ORep G C H a o := by
  cases o with
  | lst xs => obtain ⟨vs, e, q⟩ := h; exact ⟨vs, e, q.cutC h1 h2 l⟩
  | dic kvs => obtain ⟨vs, e, k, q⟩ := h; exact ⟨vs, e, k, q.cutC h1 h2 l⟩
  | ins c fs => obtain ⟨C, dx, vs, g, e, k, q⟩ := h; exact ⟨C, dx, vs, g, e, k, q.cutC h1 h2 l⟩
  | dit kvs => obtain ⟨vs, e, k, q⟩ := h; exact ⟨vs, e, k, q.cutC h1 h2 l⟩
  | lck kvs => obtain ⟨ob, vs, e, k, q⟩ := h; exact ⟨ob, vs, e, k, q.cutC h1 h2 l⟩
theorem fin_cutL {r : Res D} {Q : VK} (R : SRel G A H S) (h : FinE G A H (cutL S r) Q E) : FinE G A H r Q E := by
  cases r with
  | bad => exact h
  | exc c S' =>
    intro A' H' C x R' p
    obtain ⟨B, rfl, hB⟩ := x.pre
    simp only [cutL] at h
    split at h
    · rename_i ok
      exact h A H' C ⟨⟨[], by simp, by simp⟩, x.keep'⟩ (cut_rel R R' ok) p
    · exact h.elim
  | ok d S' =>
    cases d with
    | ref n =>
      intro A' H' v x R' p
      obtain ⟨B, rfl, hB⟩ := x.pre
      simp only [cutL] at h
      split at h
      · rename_i ok
        split at h
        · rename_i xs q
          split at h
          · rename_i hp
            obtain ⟨a, rfl, ha⟩ := rep_ref p
            obtain ⟨vs, g1, g2⟩ := R'.obj n _ a q ha
            have hl := R.len
            have hn : A.length ≤ n := by rw [hl]; exact ok.2
            have aB : a ∈ B := by
              rw [List.getElem?_append_right hn] at ha
              exact List.mem_of_getElem? ha
            have aA : a ∉ A := fun z => by
              have nd := R'.nd
              rw [List.nodup_append] at nd
              exact nd.2.2 a z a aB rfl
            have c1 : ∀ m y, m < A.length → (A ++ B)[m]? = some y → (A ++ [a])[m]? = some y := fun m y hm e => by
              rw [List.getElem?_append_left hm] at e ⊢; exact e
            have c2 : ∀ c ∈ A ++ [a], c ∈ A ++ B := fun c hc => by
              rcases List.mem_append.mp hc with z | z
              · exact List.mem_append_left _ z
              · rw [List.mem_singleton.mp z]; exact List.mem_append_right _ aB
            have lt : (S'.take S.length).length = S.length := by rw [List.length_take]; have := ok.1.1; omega
            refine h (A ++ [a]) H' (.ref a) ⟨⟨[a], rfl, fun b hb => by rw [List.mem_singleton.mp hb]; exact hB a aB⟩, x.keep'⟩ ⟨by simp [lt, hl], ?_, fun b hb => ⟨(R'.shut b hb).1, fun z => (R'.shut b hb).2 (c2 b z)⟩, fun m o b e1 e2 => ?_⟩ (.ref (by rw [← hl]; simp))
            · rw [List.nodup_append]
              exact ⟨R.nd, by simp, fun y hy z hz => by rw [List.mem_singleton.mp hz]; rintro rfl; exact aA hy⟩
            · rcases Nat.lt_or_ge m S.length with hm | hm
              · rw [List.getElem?_append_left (by rw [lt]; exact hm), List.getElem?_take_of_lt hm] at e1
                rw [List.getElem?_append_left (by rw [hl]; exact hm)] at e2
                have e3 : (A ++ B)[m]? = some b := by rw [List.getElem?_append_left (by rw [hl]; exact hm)]; exact e2
                refine (R'.obj m o b e1 e3).cutC c1 c2 ?_
                rcases ok.1.2 m o hm e1 with z | z
                · exact (R.obj m o b z e2).low
                · rw [hl]; exact z
              · rw [List.getElem?_append_right (by rw [lt]; exact hm), lt] at e1
                rw [List.getElem?_append_right (by rw [hl]; exact hm), hl] at e2
                have h3 : m - S.length = 0 := by
                  rcases Nat.eq_zero_or_pos (m - S.length) with z | z
                  · exact z
                  · rw [List.getElem?_eq_none (show [a].length ≤ m - S.length from z)] at e2; cases e2
                rw [h3] at e1 e2
                simp at e1 e2
                subst e1 e2
                exact ⟨vs, g1, g2.cutC c1 c2 (pure_lowL _ hp)⟩
          · exact h.elim
        · exact h.elim
      · exact h.elim
    | _ => exact h.elim
theorem fin_cutD {z l : Bool} {r : Res D} {Q : VK} (R : SRel G A H S) (h : FinE G A H (cutD z l S r) Q E) : FinE G A H r Q E := by
  unfold cutD at h
  cases z with
  | true => exact fin_cut R h
  | false =>
    cases l with
    | true => exact fin_cutL R h
    | false => exact h
end
end MP

namespace MP
open PySem L2
structure Fd where
  N : List Str
  ps : List Str
  d : He.DefD
  c : Def
def scB (N ps : List Str) (sc : Scope) : Bool :=
  decide (sc.kind = .function) && !sc.isCoroutine && !sc.isGenerator && decide N.Nodup && decide (N.take ps.length = ps) && (ps.all fun x => celB sc x) && sc.names.all fun y => decide (y.2 ≠ .free)
theorem scB_ok {N ps : List Str} {sc : Scope} (h : scB N ps sc = true) : FnScope N ps sc := by
  unfold scB at h
  simp only [Bool.and_eq_true, decide_eq_true_eq, Bool.not_eq_true'] at h
  obtain ⟨⟨⟨⟨⟨⟨h1, h2⟩, h3⟩, h4⟩, h5⟩, h6⟩, h7⟩ := h
  refine ⟨h1, h2, h3, h4, h5, fun x hx => ?_, fun y hy => ?_⟩
  · have := List.all_eq_true.mp h6 x hx
    simpa [celB] using this
  · simpa using List.all_eq_true.mp h7 y hy
def Fd.ok (T : Tab) (f : Fd) : Bool := scB f.N f.ps f.d.scope && decide (f.c.nps = f.ps.length) && decide (f.c.nsl = f.N.length) && decide (f.ps.length ≤ f.N.length) && chkB T f.N f.d.scope f.c.body f.d.body
section
variable {G : Gx} {T : Tab} {P : Program} {w : World} {base : Heap} {W : Nat} {defs : Nat → Option Def} {A : List Addr} {H : Hp} {S : Store} {E : XK}
theorem fs_ends {r : Res Fl} {Q : VK} (h : FinE G A H (ends r) Q E) : FS G A H r { nx := fun _ H' => Q .non H', rt := Q } E := by
  match r, h with
  | .ok (.nx ρ) S', h => exact fun A' H' σ' e R _ => h A' H' .non e R .non
  | .ok (.rt d) S', h => exact fun A' H' v e R p => h A' H' v e R p
  | .ok (.ct ρ) S', h => exact h.elim
  | .exc c S', h => exact h
  | .bad, h => exact h
theorem erel_start {ds : List D} {vs : List V} {N : List Str} {m : Nat} (r : RepL G A H ds vs) (hm : m = N.length) (hl : ds.length ≤ N.length) : ERel G A H (ds.map some ++ List.replicate (m - ds.length) none) (L2.start N vs) := by
  have hlen := r.length
  refine ⟨?_, fun i d hi => ?_⟩
  · unfold L2.start
    simp only [List.length_append, List.length_map, List.length_replicate]
    omega
  · unfold L2.start
    rcases Nat.lt_or_ge i ds.length with q | q
    · rw [List.getElem?_append_left (by simpa using q), List.getElem?_map] at hi
      cases e : ds[i]? with
      | none => rw [e] at hi; simp at hi
      | some d' =>
        rw [e] at hi
        simp at hi
        subst hi
        obtain ⟨v, h1, h2⟩ := r.get e
        refine ⟨v, ?_, h2⟩
        rw [List.getElem?_append_left (by simp; omega), List.getElem?_map, h1]
        rfl
    · rw [List.getElem?_append_right (by simpa using q)] at hi
      rw [List.getElem?_replicate] at hi
      split at hi <;> simp at hi
def Tab.asHot (T : Tab) : Tab := { T with hot := true }
structure Prog (G : Gx) (T : Tab) (defs : Nat → Option Def) : Prop where
  funs : ∀ (f : Nat) (x : Str) (m : Nat), T.funs.lookup f = some (x, m) → ∃ (d : Fd) (fd : FuncData), d.ok T = true ∧ defs f = some d.c ∧ d.ps.length = m ∧ G.mg x = some (.ref (He.ga G.K x)) ∧
    FunD G.K d.d.name d.d.qual d.d.params d.d.body d.d.scope [] [] (He.ga G.K x) fd ∧ Binds G.K fd d.ps []
  consts : ∀ (x : Str) (i : Int), T.consts.lookup x = some i → ∃ t, G.mg x = some (.int i t)
  free : ∀ (x : Str), T.free.contains x = true → G.mg x = none
  flds : ∀ c f, (c, f) ∈ T.flds → ∀ C, G.mg (clsName c) = some (.ref C) → Cls G.K C ∧ NoAttr G.K C f
  mths : ∀ f c m k, T.mths.lookup f = some (c, m, k) → ∃ C a, G.mg (clsName c) = some (.ref C) ∧ Cls G.K C ∧ Meth G.K C m a ∧ ∃ (d : Fd) (fd : FuncData), d.ok T = true ∧ defs f = some d.c ∧ d.ps.length = k ∧ FunD G.K d.d.name d.d.qual d.d.params d.d.body d.d.scope [] [] a fd ∧ Binds G.K fd d.ps []
  mks : ∀ c f k, T.mks.lookup c = some (f, k) → ∃ C a, G.mg (clsName c) = some (.ref C) ∧ Mk G.K C a ∧ ∃ (d : Fd) (fd : FuncData), d.ok T = true ∧ defs f = some d.c ∧ d.ps.length = k ∧ FunD G.K d.d.name d.d.qual d.d.params d.d.body d.d.scope [] [] a fd ∧ Binds G.K fd d.ps []
  cold : T.hot = false
  noex : G.ex = none
  exs : Exs G.K G.mg T.excs T.tries
  hots : ∀ (f : Nat) (x : Str), T.hots.lookup f = some x → T.tries = true ∧ ∃ (d : Fd) (fd : FuncData), d.ok T.asHot = true ∧ defs f = some d.c ∧ d.ps.length = 1 ∧ G.mg x = some (.ref (He.ga G.K x)) ∧
    FunD G.K d.d.name d.d.qual d.d.params d.d.body d.d.scope [] [] (He.ga G.K x) fd ∧ Binds G.K fd d.ps []
theorem fin_fz {Γ : Cal} {d : Def} {ds : List D} {Q : VK} (R : SRel G A H S) (h : FinE G A H (cutD d.fz d.fl S (runD Γ W d ds S)) Q E) : FinE G A H (runD Γ W d ds S) Q E := fin_cutD R h
theorem hot_all (pr : Prog G T defs) (sm : SmOk base) (n b : _) (f : Nat) (x : Str) (h : T.hots.lookup f = some x) : ∃ a fd ps, G.mg x = some (.ref a) ∧ PySem.W.keepIn G.K (.ref a) = true ∧ Binds G.K fd ps [] ∧ FnW P w G.K G.mg base (2 * n) a fd ps (spW (G.wb b) ⟨callF defs W n⟩ f) := by
  obtain ⟨ht, d, fd, h2, h3, h4, h5, F, B⟩ := pr.hots f x h
  cases n with
  | zero =>
    refine ⟨_, fd, d.ps, h5, F.kp, B, h4, fun A outer s H args Q a oe C c _ _ _ _ _ _ _ _ _ z => ?_⟩
    obtain ⟨A, S, _, z⟩ := z
    exact z.elim
  | succ n =>
    unfold Fd.ok at h2
    simp only [Bool.and_eq_true, decide_eq_true_eq] at h2
    obtain ⟨⟨⟨⟨k1, k2⟩, k3⟩, k4⟩, k5⟩ := h2
    have FS0 := scB_ok k1
    obtain ⟨oc, od, dV, kV, doc, pm, an, cdv, ct, osl, rfl, lk, hcd, _, _⟩ := F.ex
    refine ⟨_, _, d.ps, h5, F.kp, B, ?_⟩
    refine fnW_of lk hcd FS0 h4 fun A outer s H Q a oe C c hr hg hz hf hmc hcn z => ?_
    obtain ⟨A1, S1, R, fin⟩ := z
    have hot : T.asHot.hot = true := rfl
    have no : T.asHot.hot = false → False := fun z => by rw [hot] at z; cases z
    have wk : Wok ((G.wb b).wx (a, c)) T.asHot (L2H.cxH (L2.CX P w) P w G.K G.mg base d.N d.d.qual d.d.scope (He.ga G.K x) cdv A outer s H (fun _ _ _ => False) (a, oe)) (fun _ _ _ => False) ⟨callF defs W n⟩ (2 * n) := by
      refine ⟨⟨rfl, rfl, FS0.nd, hr.dp, hr.un, hg⟩, sm, fun z => (no z).elim, fun z => (no z).elim, fun z => (no z).elim, pr.exs, fun z => (no z).elim, fun a' c' e => ?_, pr.consts, pr.free, pr.flds, fun z => (no z).elim, fun z => (no z).elim, fun z => (no z).elim⟩
      have e : some (a, c) = some (a', c') := e
      cases e
      exact ⟨hcn, ht, C, hmc, call_isX (oe := oe) List.mem_cons_self (pr.exs.exc ht c C hcn hmc) hz hf⟩
    have w2 : Wo2 ((G.wb b).wx (a, c)) T.asHot (L2H.cxH (L2.CX P w) P w G.K G.mg base d.N d.d.qual d.d.scope (He.ga G.K x) cdv A outer s H (fun _ _ _ => False) (a, oe)) (fun _ _ _ => False) ⟨callF defs W n⟩ (2 * n) :=
      ⟨wk, fun _ => rfl, fun z => (no z).elim, fun z => (no z).elim, fun z => (no z).elim, FS0.kind⟩
    obtain ⟨t, pt, q⟩ := (gs_all T.asHot d.N W d.c.body).2 _ _ _ _ (2 * n) d.d.scope d.d.body w2 rfl rfl k5
    refine ⟨t, pt, ?_⟩
    simp only [callF, h3] at fin
    have fin := fin_fz R fin
    unfold runD at fin
    by_cases hds : ([D.exn c] : List D).length = d.c.nps
    · rw [if_pos hds, ← hds] at fin
      exact q _ _ A1 H S1 _ (erel_start (.cons (.exn rfl) .nil) k3 (by have : ([D.exn c] : List D).length = 1 := rfl; omega)) R (fs_ends fin)
    · rw [if_neg hds] at fin
      exact fin.elim
structure Lv (P : Program) (w : World) (base : Heap) (G : Gx) (T : Tab) (defs : Nat → Option Def) (W n : Nat) : Prop where
  funs : ∀ b f x m, T.funs.lookup f = some (x, m) → ∃ a fd ps, G.mg x = some (.ref a) ∧ PySem.W.keepIn G.K (.ref a) = true ∧ Binds G.K fd ps [] ∧ FnG P w G.K G.mg base (2 * n) a fd ps (spF (G.wb b) ⟨callF defs W n⟩ f m)
  mths : ∀ b f c m k, T.mths.lookup f = some (c, m, k) → ∃ C a fd ps, G.mg (clsName c) = some (.ref C) ∧ Cls G.K C ∧ Meth G.K C m a ∧ Binds G.K fd ps [] ∧ FnG P w G.K G.mg base (2 * n) a fd ps (spF (G.wb b) ⟨callF defs W n⟩ f k)
  mks : ∀ b c f k, T.mks.lookup c = some (f, k) → ∃ C a fd ps, G.mg (clsName c) = some (.ref C) ∧ Mk G.K C a ∧ Binds G.K fd ps [] ∧ FnG P w G.K G.mg base (2 * n) a fd ps (spF (G.wb b) ⟨callF defs W n⟩ f k)
theorem fn_zero {f m : Nat} {b : List Addr} {a : Addr} {fd : FuncData} {ps : List Str} : FnG P w G.K G.mg base 0 a fd ps (spF (G.wb b) ⟨callF defs W 0⟩ f m) := by
  refine ⟨fun vs H Q E z => ?_, fun A outer s H args us vs Q E _ _ _ _ _ z => ?_⟩
  · obtain ⟨_, A, S, ds, _, _, z⟩ := z; exact z.elim
  · obtain ⟨_, A, S, ds, _, _, z⟩ := z; exact z.elim
theorem fn_one (pr : Prog G T defs) (sm : SmOk base) {n : Nat} (ih : Lv P w base G T defs W n) {f m : Nat} {b : List Addr} {d : Fd} {nm qual : Str} {a : Addr} {fd : FuncData} (h2 : d.ok T = true) (h3 : defs f = some d.c) (h4 : d.ps.length = m) (F : FunD G.K nm qual d.d.params d.d.body d.d.scope [] [] a fd) :
    FnG P w G.K G.mg base (2 * n + 2) a fd d.ps (spF (G.wb b) ⟨callF defs W (n + 1)⟩ f m) := by
  unfold Fd.ok at h2
  simp only [Bool.and_eq_true, decide_eq_true_eq] at h2
  obtain ⟨⟨⟨⟨k1, k2⟩, k3⟩, k4⟩, k5⟩ := h2
  have FS0 := scB_ok k1
  obtain ⟨oc, od, dV, kV, doc, pm, an, cdv, ct, osl, rfl, lk, hcd, _, _⟩ := F.ex
  refine fnG_of lk hcd FS0 (fun vs H Q E z => by rw [z.1, h4]) fun A outer s H vs Q E hr hg z => ?_
  have wk : Wok (G.wb b) T (cxOf (L2.CX P w) P w G.K G.mg base d.N qual d.d.scope a cdv A outer s H E) E ⟨callF defs W n⟩ (2 * n) := by
    refine ⟨⟨rfl, rfl, FS0.nd, hr.dp, hr.un, hg⟩, sm, fun _ => passes_call (takes_of rfl rfl rfl rfl) (fun _ _ _ _ z => z), fun _ => ⟨rfl, hr.hd⟩, fun _ => pr.noex, pr.exs, fun _ b' f x h => hot_all pr sm n b' f x h, fun a c e => ?_, pr.consts, pr.free, pr.flds, fun _ b' => ih.mths b', fun _ b' => ih.mks b', fun _ b' => ih.funs b'⟩
    have e : G.ex = some (a, c) := e
    rw [pr.noex] at e
    cases e
  have w2 : Wo2 (G.wb b) T (cxOf (L2.CX P w) P w G.K G.mg base d.N qual d.d.scope a cdv A outer s H E) E ⟨callF defs W n⟩ (2 * n) := ⟨wk, fun _ => rfl, fun _ => passes_of rfl, fun _ => takes_of rfl rfl rfl rfl, fun _ => ⟨rfl, rfl⟩, FS0.kind⟩
  obtain ⟨t, pt, q⟩ := (gs_all T d.N W d.c.body).2 _ _ _ _ (2 * n) d.d.scope d.d.body w2 rfl rfl k5
  obtain ⟨hl, A1, S1, ds, R, rp, fin⟩ := z
  refine ⟨t, pt, ?_⟩
  simp only [callF, h3] at fin
  have fin := fin_fz R fin
  unfold runD at fin
  by_cases hds : ds.length = d.c.nps
  · rw [if_pos hds, ← hds] at fin
    exact q _ _ A1 H S1 _ (erel_start rp k3 (by omega)) R (fs_ends fin)
  · rw [if_neg hds] at fin
    exact fin.elim
theorem fn_all (pr : Prog G T defs) (sm : SmOk base) : ∀ n, Lv P w base G T defs W n := by
  intro n
  induction n with
  | zero =>
    refine ⟨fun b f x m h => ?_, fun b f c m k h => ?_, fun b c f k h => ?_⟩
    · obtain ⟨d, fd, h2, h3, h4, h5, F, B⟩ := pr.funs f x m h
      exact ⟨_, fd, d.ps, h5, F.kp, B, fn_zero⟩
    · obtain ⟨C, a, g1, g2, g3, d, fd, h2, h3, h4, F, B⟩ := pr.mths f c m k h
      exact ⟨C, a, fd, d.ps, g1, g2, g3, B, fn_zero⟩
    · obtain ⟨C, a, g1, g3, d, fd, h2, h3, h4, F, B⟩ := pr.mks c f k h
      exact ⟨C, a, fd, d.ps, g1, g3, B, fn_zero⟩
  | succ n ih =>
    refine ⟨fun b f x m h => ?_, fun b f c m k h => ?_, fun b c f k h => ?_⟩
    · obtain ⟨d, fd, h2, h3, h4, h5, F, B⟩ := pr.funs f x m h
      exact ⟨_, fd, d.ps, h5, F.kp, B, fn_one pr sm ih h2 h3 h4 F⟩
    · obtain ⟨C, a, g1, g2, g3, d, fd, h2, h3, h4, F, B⟩ := pr.mths f c m k h
      exact ⟨C, a, fd, d.ps, g1, g2, g3, B, fn_one pr sm ih h2 h3 h4 F⟩
    · obtain ⟨C, a, g1, g3, d, fd, h2, h3, h4, F, B⟩ := pr.mks c f k h
      exact ⟨C, a, fd, d.ps, g1, g3, B, fn_one pr sm ih h2 h3 h4 F⟩
end
end MP

namespace MP
open PySem PySem.Spec PyProof.Rows L2
theorem rep_ints {G : Gx} {A : List Addr} {H : Hp} : ∀ ns : List Int, RepL G A H (ns.map D.int) (ns.map V.int)
  | [] => .nil
  | n :: ns => .cons (.int n) (rep_ints ns)
structure Scr (P : Program) (w : World) (K : PySem.W.Frag) (h : Heap) (H : Hp) (a : Addr) (ns : List Int) : Prop where
  only : Only H
  con : ConAt K H a (ns.map V.int)
  hok : HOk P w H h
  one : ∀ b, H b ≠ none → b = a
  out : H a ≠ none → K.lookup a = none
theorem scr_of {P : Program} {w : World} {K : PySem.W.Frag} {h : Heap} {a : Addr} {vs : List Value} {ns : List Int} (KX : K.In h) (ha : h.get? a = some { cls := .type "list", data := .seq vs.toArray }) (hi : IntsAre vs ns) (hl : ns.length ≤ sizeLine) : ∃ H, Scr P w K h H a ns := by
  have rv := vals_ints hi
  have lv := hi.length
  by_cases hk : K.lookup a = none
  · let ob : Obj := { cls := .type "list", data := .seq vs.toArray }
    have hit : (fun b => if b = a then some (HO.frz ob (.lst (ns.map V.int))) else none : Hp) a = some (.frz ob (.lst (ns.map V.int))) := if_pos rfl
    have off : ∀ b, b ≠ a → (fun b => if b = a then some (HO.frz ob (.lst (ns.map V.int))) else none : Hp) b = none := fun b hb => if_neg hb
    refine ⟨fun b => if b = a then some (HO.frz ob (.lst (ns.map V.int))) else none, ?_, .inl ⟨ob, hit⟩, ?_, ?_, fun _ => hk⟩
    · intro b
      by_cases e : b = a
      · subst e; exact .inr ⟨_, _, hit⟩
      · exact .inl (off b e)
    · intro b u z
      by_cases e : b = a
      · subst e
        rw [hit] at z
        cases z
        exact ⟨ha, by simpa using hl, vs, _, rv, ha⟩
      · rw [off b e] at z; cases z
    · intro b z
      by_cases e : b = a
      · exact e
      · exact absurd (off b e) z
  · cases q : K.lookup a with
    | none => exact absurd q hk
    | some o =>
      have e := KX a o q
      rw [ha] at e
      cases e
      refine ⟨fun _ => none, fun _ => .inl rfl, .inr ⟨_, vs.toArray, _, q, rfl, rfl, rfl, by rw [List.size_toArray, lv]; exact hl, by simpa using rv⟩, (fun b u z => nomatch z), (fun b z => absurd rfl z), fun z => absurd rfl z⟩
section
variable {P : Program} {w : World} {G : Gx} {T : Tab} {defs : Nat → Option Def} {W k fl : Nat} {x : Str} {mb : Str → Option Value} {fa a : Addr} {s : Shared} {vs : List Value} {ns : List Int}
theorem law_run (hblk : G.blk = []) (pr : Prog G T defs) (hf : T.funs.lookup fl = some (x, 1)) (KX : G.K.In s.heap) (hns : s.heap.Ns mainGlobals G.mg) (hb : s.heap.Ns builtinsNs mb) (hbb : ∀ y : Str, y ≠ "__name__" → mb y = bootBuiltins y) (hlim : s.heap.NoLimit) (hse : s.heap.NoSeer)
    (hg : s.gens = #[]) (ha : s.heap.get? a = some { cls := .type "list", data := .seq vs.toArray }) (hi : IntsAre vs ns) (hl : ns.length ≤ sizeLine) (hr : Room (2 * k) callerA) (hfa : G.mg x = some (.ref fa))
    (law : ∃ S', callF defs W k fl [.scr (ns.map D.int)] [] = .ok (.bl true) S') :
    codeAny (model P w) callerA (.call (.ref fa) ⟨[.ref a], []⟩) (fun r s' => r = .ok (.ret (.bool true)) ∧ OldK s.heap s'.heap ∧ s'.os = s.os ∧ AllBare s'.gens) s := by
  obtain ⟨H, Z⟩ := scr_of (P := P) (w := w) KX ha hi hl
  have dark : ∀ {b : Addr} {o : Obj} {es : Array DictEntry} {ep : Nat}, s.heap.get? b = some o → o.data = .dict es ep → H b = none := by
    intro b o es ep e d
    cases q : H b with
    | none => rfl
    | some u =>
      obtain rfl : b = a := Z.one b (by rw [q]; simp)
      rw [ha] at e
      cases e
      cases (show Data.seq vs.toArray _ = Data.dict es ep from d)
  have nsB : ∀ {b : Addr} {m : Str → Option Value}, s.heap.Ns b m → (hidT s.heap H).Ns b m := by
    rintro b m ⟨o, es, ep, e, d, r⟩
    exact ⟨o, es, ep, hidT_get e (dark e d), d, r⟩
  have kB : G.K.In (hidT s.heap H) := by
    intro b o e
    refine hidT_get (KX b o e) ?_
    cases q : H b with
    | none => rfl
    | some u =>
      obtain rfl : b = a := Z.one b (by rw [q]; simp)
      rw [Z.out (by rw [q]; simp)] at e
      cases e
  have md : Mod G.K G.mg (hidT s.heap H) := ⟨kB, nsB hns, ⟨mb, nsB hb, hbb⟩, by obtain ⟨mc, h1, h2⟩ := hlim; exact ⟨mc, nsB h1, h2⟩⟩
  have sm : SmOk (hidT s.heap H) := by
    obtain ⟨mm, h1, h2⟩ := hse.mods
    obtain ⟨o, es, ep, e, d, r⟩ := nsB h1
    exact ⟨o, es, ep, e, d⟩
  have e0 : Env0 P w G.K G.mg (hidT s.heap H) callerA [] s H := ⟨rfl, md, fun b o e => of_hidT e, by rw [hidT_size]; exact Nat.le_refl _, trivial, (fun b hb => nomatch hb), Z.hok, .of_eq hg⟩
  obtain ⟨a', fd, ps, h1, h2, h3, F⟩ := (fn_all (P := P) (w := w) (W := W) pr sm k).funs G.blk fl x 1 hf
  obtain rfl : fa = a' := by rw [hfa] at h1; cases h1; rfl
  obtain ⟨S', hlaw⟩ := law
  have sp : spF G ⟨callF defs W k⟩ fl 1 [.ref a] H (fun v _ => v = .bl true) (fun _ _ _ => False) := by
    refine ⟨rfl, [], [], [.scr (ns.map D.int)], ⟨rfl, List.nodup_nil, fun b hb => by rw [hblk] at hb; simp at hb, fun n o a h => by simp at h⟩, .cons (.scr Z.con (rep_ints ns)) .nil, ?_⟩
    show FinE G [] H (callF defs W k fl [.scr (ns.map D.int)] []) _ _
    rw [hlaw]
    intro A' H' v _ _ p
    cases p
    rfl
  have hb' : BindsTo s fd ⟨[.ref a], []⟩ (ps.zip [.ref a]) := by
    have z := h3 s [.ref a] KX (by rw [← F.len _ _ _ _ sp]; rfl)
    simpa using z
  refine codeAny_mono (F.run callerA [] s H ⟨[.ref a], []⟩ [.ref a] [.ref a] _ _ hr rfl e0 hb' (.cons rfl .nil) sp) fun r s' h => ?_
  match r, h with
  | .error e, h =>
    obtain ⟨_, _, _, _, _, _, _, _, _, _, _, _, z⟩ := h
    exact z.elim
  | .ok .next, h => exact h.elim
  | .ok .brk, h => exact h.elim
  | .ok .cont, h => exact h.elim
  | .ok (.ret u), h =>
    obtain ⟨v, H', os, bare, un, hok', r', q⟩ := h
    have q : v = .bl true := q
    subst q
    obtain rfl : u = Value.bool true := r'
    refine ⟨rfl, OldK.of_keep fun b o e => ?_, os, bare⟩
    cases q : H b with
    | none => exact un.keep b o e q (by intro z; cases z) (by simp)
    | some u =>
      rcases Z.only b with z | ⟨ob, xs, z⟩
      · rw [q] at z; cases z
      · have e1 := (Z.hok b _ z).1
        have e2 := (hok' b _ (un.frzs b ob _ z)).1
        rw [e] at e1
        cases e1
        exact e2
end
theorem walkG {l : PySem.W.OpenLaw} {n k W fl : Nat} {q : Program} {loose : List Str} {XP : (Str → Option Value) → Heap → Prop} {YP : World → Heap → Prop} {d : DefRec} {T : Tab} {defs : Nat → Option Def}
    (hn : l.most = some n) (hn2 : n ≤ sizeLine) (hdf : d.params.defaults = []) (hr : Room (2 * k) callerA) (hi : PyProof.Rows.importsNone q = true) (hf : T.funs.lookup fl = some (d.name, 1))
    (F : ∀ (w : World) (mg : Str → Option Value) (h : Heap), YP w h → h.Ns mainGlobals mg → ∃ G : Gx, G.mg = mg ∧ G.blk = [] ∧ G.K.In h ∧ Prog G T defs)
    (law : ∀ ns : List Int, ns.length ≤ n → ∃ S', callF defs W k fl [.scr (ns.map D.int)] [] = .ok (.bl true) S') :
    PySem.W.WalkO q loose XP YP l.row.toRowW d [] (fun f vs => PySem.call f vs) := by
  refine Att.attach_call hn hdf fun w s₀ s₁ mg mb fa o pm cd doc a vs ns gr Y ho hd hcd hmg hobj hints hlen hg => ?_
  obtain ⟨G, rfl, hbl, KX, pr⟩ := F w mg _ Y gr.T.g
  exact law_run (W := W) hbl pr hf KX gr.T.g gr.T.b gr.T.builtins gr.T.nolimit (gr.T.seer hi) hg hobj hints (Nat.le_trans hlen hn2) hr hmg (law ns hlen)
end MP

namespace MP
open PySem PySem.Spec PyProof.Rows L2
theorem SaysX.d {fa : List He.Fa} {fn : List He.DefD} {xt : Bool} {K : PySem.W.Frag} (c : SaysX fa fn xt K) : He.SaysD fa fn K := by
  have c1 : (((fa.all fun f => f.ok K) && fn.all fun d => d.ok K) && (!xt || exK K)) = true := congrArg (fun z : He.AlD => z.1) c
  have c2 : fn.map (fun d => He.fnW K d.at_) = fn.map He.DefD.val := congrArg (fun z : He.AlD => z.2) c
  show (((fa.all fun f => f.ok K) && fn.all fun d => d.ok K), fn.map fun d => He.fnW K d.at_) = (true, fn.map He.DefD.val)
  rw [(Bool.and_eq_true_iff.mp c1).1, c2]
theorem eqK_ok {K : PySem.W.Frag} {h : Heap} {mg : Str → Option Value} (X : K.In h) (G : h.Ns mainGlobals mg) (c : eqK K = true) {C : Addr} (hm : mg "Ledger" = some (.ref C)) : NEq K C := by
  unfold eqK at c
  split at c
  · cases c
  · rename_i C' q
    have := PySem.W.mg_of X G q
    rw [hm] at this
    cases this
    simp only [Bool.and_eq_true, decide_eq_true_eq] at c
    exact ⟨c.1, He.eqO_ok c.2⟩
  · rename_i o hne q
    cases o with
    | none => rw [PySem.W.mg_none_of X G q] at hm; cases hm
    | some v =>
      have := PySem.W.mg_of X G q
      rw [hm] at this
      cases this
      exact absurd rfl (hne C)
theorem SaysX.x {fa : List He.Fa} {fn : List He.DefD} {K : PySem.W.Frag} (c : SaysX fa fn true K) : exK K = true := by
  have c1 : (((fa.all fun f => f.ok K) && fn.all fun d => d.ok K) && (!true || exK K)) = true := congrArg (fun z : He.AlD => z.1) c
  have := (Bool.and_eq_true_iff.mp c1).2
  simpa using this
theorem fact_mem {fa : List He.Fa} {fn : List He.DefD} {K : PySem.W.Frag} {f : He.Fa} (c : He.SaysD fa fn K) (h : f ∈ fa) : f.ok K = true := by
  obtain ⟨i, hi⟩ := List.mem_iff_getElem?.mp h
  exact c.fact i hi
theorem lookup_mem {l : List (Str × Int)} {x : Str} {i : Int} (h : l.lookup x = some i) : (x, i) ∈ l := by
  induction l with
  | nil => cases h
  | cons p l ih =>
    obtain ⟨y, j⟩ := p
    simp only [List.lookup] at h
    split at h
    · rename_i e
      cases h
      rw [eq_of_beq e]
      exact List.mem_cons_self
    · exact List.mem_cons_of_mem _ (ih h)
theorem lookupN_mem {α : Type} {l : List (Nat × α)} {x : Nat} {i : α} (h : l.lookup x = some i) : (x, i) ∈ l := by
  induction l with
  | nil => cases h
  | cons p l ih =>
    obtain ⟨y, j⟩ := p
    simp only [List.lookup] at h
    split at h
    · rename_i e
      cases h
      rw [eq_of_beq e]
      exact List.mem_cons_self
    · exact List.mem_cons_of_mem _ (ih h)
def Pf (T : Tab) (K : PySem.W.Frag) (defs : Nat → Option Def) (p : Nat × Str × Nat) : Prop :=
  ∃ (d : Fd) (fd : FuncData), d.ok T = true ∧ defs p.1 = some d.c ∧ d.ps.length = p.2.2 ∧ FunD K d.d.name d.d.qual d.d.params d.d.body d.d.scope [] [] (He.ga K p.2.1) fd ∧ Binds K fd d.ps []
def PfM (T : Tab) (K : PySem.W.Frag) (defs : Nat → Option Def) (p : Nat × Nat × Str × Nat) : Prop :=
  ∃ (d : Fd) (fd : FuncData), d.ok T = true ∧ defs p.1 = some d.c ∧ d.ps.length = p.2.2.2 ∧ FunD K d.d.name d.d.qual d.d.params d.d.body d.d.scope [] [] (He.ma K (He.ga K (clsName p.2.1)) p.2.2.1) fd ∧ Binds K fd d.ps []
theorem exf_of {K : PySem.W.Frag} {x : Str} (c : (He.Fa.exc x).ok K = true) : ExF K (He.ga K x) := by
  simp only [He.Fa.ok, Bool.and_eq_true, decide_eq_true_eq] at c
  exact ⟨c.1, c.2.1, c.2.2.1, c.2.2.2⟩
theorem prog_of {T : Tab} {fn : List He.DefD} {K : PySem.W.Frag} {h : Heap} {mg : Str → Option Value} {defs : Nat → Option Def} {cl : Nat → Addr} (X : K.In h) (G : h.Ns mainGlobals mg) (c : He.SaysD (faOf T) fn K) (cx : T.tries = true → exK K = true) (hot : T.hot = false)
    (H : ∀ p ∈ T.funs, Pf T K defs p) (Hh : ∀ p ∈ T.hots, T.tries = true ∧ Pf T.asHot K defs (p.1, p.2, 1)) (Hm : ∀ p ∈ T.mths, PfM T K defs p) (Hk : ∀ p ∈ T.mks, PfM T K defs (p.2.1, p.1, "__init__", p.2.2)) : Prog ⟨K, mg, cl, [], none⟩ T defs := by
  have mem : ∀ {f : He.Fa}, f ∈ faOf T → f.ok K = true := fun h => fact_mem c h
  have glo : ∀ {x : Str}, He.Fa.glo x ∈ faOf T → mg x = some (.ref (He.ga K x)) := fun h => He.glo_ok X G (mem h)
  have inT : ∀ {f : He.Fa}, T.tries = true → f ∈ excNames.map He.Fa.glo ++ He.Fa.glo "RimeError" :: excNames.map (fun x => He.Fa.exm x "RimeError" true) → f ∈ faOf T := fun {f} ht hf => by
    unfold faOf
    rw [if_pos ht]
    exact List.mem_append_left _ (List.mem_append_right _ hf)
  have gx : T.tries = true → ∀ x C, x ∈ excNames → mg x = some (.ref C) → C = He.ga K x := fun ht x C hx hm => by
    rw [glo (inT ht (List.mem_append_left _ (List.mem_map.mpr ⟨x, hx, rfl⟩)))] at hm
    cases hm; rfl
  have eb : T.tries = true → ∀ x, x ∈ excNames → exB K x = true := fun ht x hx => List.all_eq_true.mp (Bool.and_eq_true_iff.mp (cx ht)).1 x hx
  have inC : ∀ {f : He.Fa}, f ∈ T.flds.map (fun p => He.Fa.glo (clsName p.1)) ++ T.flds.map (fun p => He.Fa.cls (clsName p.1)) ++ T.flds.map (fun p => He.Fa.noat (clsName p.1) p.2) ++ T.mths.map (fun p => He.Fa.glo (clsName p.2.1)) ++ T.mths.map (fun p => He.Fa.cls (clsName p.2.1)) ++ T.mths.map (fun p => He.Fa.meth (clsName p.2.1) p.2.2.1)
    ++ T.mks.map (fun p => He.Fa.glo (clsName p.1)) ++ T.mks.map (fun p => He.Fa.mkr (clsName p.1)) → f ∈ faOf T := fun {f} hf => by
    unfold faOf
    exact List.mem_append_right _ hf
  refine ⟨fun f x m hf => ?_, fun x i hx => ?_, fun x hx => ?_, fun c f hf C hC => ?_, fun f c m k hf => ?_, fun c f k hf => ?_, hot, rfl, ⟨fun x hx => ?_, fun ht x C R hx hm hr => ?_, fun ht x C d D' hx hm hd hm' => ?_, fun ht x C hx hm => ?_, fun ht x C hx hm => ?_, fun ht C hC => ?_⟩, fun f x hf => ?_⟩
  · obtain ⟨d, fd, h2, h3, h4, h5, h6⟩ := H (f, x, m) (lookupN_mem hf)
    refine ⟨d, fd, h2, h3, h4, ?_, h5, h6⟩
    exact glo (by simp only [faOf, List.mem_append]; exact .inl (.inl (.inl (.inl (.inl (.inl (.inl (List.mem_map.mpr ⟨(f, x, m), lookupN_mem hf, rfl⟩))))))))
  · exact He.int_ok X G (mem (by simp only [faOf, List.mem_append]; exact .inl (.inl (.inl (.inl (.inl (.inr (List.mem_map.mpr ⟨(x, i), lookup_mem hx, rfl⟩))))))))
  · exact He.free_ok X G (mem (by simp only [faOf, List.mem_append]; exact .inl (.inl (.inl (.inl (.inl (.inl (.inr (List.mem_map.mpr ⟨x, by simpa using hx, rfl⟩)))))))))
  · have g1 : mg (clsName c) = some (.ref (He.ga K (clsName c))) := glo (inC (by simp only [List.mem_append]; exact .inl (.inl (.inl (.inl (.inl (.inl (.inl (List.mem_map.mpr ⟨(c, f), hf, rfl⟩)))))))))
    have hC : mg (clsName c) = some (.ref C) := hC
    rw [g1] at hC
    cases hC
    exact ⟨He.cls_ok (mem (inC (by simp only [List.mem_append]; exact .inl (.inl (.inl (.inl (.inl (.inl (.inr (List.mem_map.mpr ⟨(c, f), hf, rfl⟩)))))))))), He.noat_ok (mem (inC (by simp only [List.mem_append]; exact .inl (.inl (.inl (.inl (.inl (.inr (List.mem_map.mpr ⟨(c, f), hf, rfl⟩)))))))))⟩
  · have hm := lookupN_mem hf
    obtain ⟨d, fd, h2, h3, h4, h5, h6⟩ := Hm (f, c, m, k) hm
    exact ⟨_, _, glo (inC (by simp only [List.mem_append]; exact .inl (.inl (.inl (.inl (.inr (List.mem_map.mpr ⟨(f, c, m, k), hm, rfl⟩))))))), He.cls_ok (mem (inC (by simp only [List.mem_append]; exact .inl (.inl (.inl (.inr (List.mem_map.mpr ⟨(f, c, m, k), hm, rfl⟩))))))),
      He.meth_ok (mem (inC (by simp only [List.mem_append]; exact .inl (.inl (.inr (List.mem_map.mpr ⟨(f, c, m, k), hm, rfl⟩)))))), d, fd, h2, h3, h4, h5, h6⟩
  · have hm := lookupN_mem hf
    obtain ⟨d, fd, h2, h3, h4, h5, h6⟩ := Hk (c, f, k) hm
    exact ⟨_, _, glo (inC (by simp only [List.mem_append]; exact .inl (.inr (List.mem_map.mpr ⟨(c, f, k), hm, rfl⟩)))), He.mkr_ok (mem (inC (by simp only [List.mem_append]; exact .inr (List.mem_map.mpr ⟨(c, f, k), hm, rfl⟩)))), d, fd, h2, h3, h4, h5, h6⟩
  · exact ⟨_, glo (by simp only [faOf, List.mem_append]; exact .inl (.inl (.inl (.inr (List.mem_map.mpr ⟨x, hx, rfl⟩))))), exf_of (mem (by simp only [faOf, List.mem_append]; exact .inl (.inl (.inr (List.mem_map.mpr ⟨x, hx, rfl⟩)))))⟩
  · have e1 := gx ht x C hx hm
    have e2 : R = He.ga K "RimeError" := by
      have hr : mg "RimeError" = some (.ref R) := hr
      rw [glo (inT ht (List.mem_append_right _ List.mem_cons_self))] at hr
      cases hr; rfl
    rw [e1, e2]
    have := mem (inT ht (List.mem_append_right _ (List.mem_cons_of_mem _ (List.mem_map.mpr ⟨x, hx, rfl⟩))))
    simpa only [He.Fa.ok, decide_eq_true_eq] using this
  · rw [gx ht x C hx hm, gx ht d D' hd hm']
    have := eb ht x hx
    simp only [exB, Bool.and_eq_true, decide_eq_true_eq] at this
    obtain ⟨_, _, _, _, _, _, _, _, _, z⟩ := this
    exact of_decide_eq_true (List.all_eq_true.mp z d hd)
  · rw [gx ht x C hx hm]
    have := eb ht x hx
    simp only [exB, Bool.and_eq_true, decide_eq_true_eq] at this
    obtain ⟨_, _, _, _, _, _, _, _, z, _⟩ := this
    exact z
  · rw [gx ht x C hx hm]
    have := eb ht x hx
    simp only [exB, Bool.and_eq_true, decide_eq_true_eq] at this
    obtain ⟨z1, z2, z3, z4, z5, z6, z7, z8, _, _⟩ := this
    exact ⟨He.eqO_ok z1, He.eqO_ok z2, z3, z4, He.eqO_ok z5, He.eqO_ok z6, z7, z8⟩
  · exact eqK_ok X G (Bool.and_eq_true_iff.mp (cx ht)).2 hC
  · obtain ⟨ht, d, fd, h2, h3, h4, h5, h6⟩ := Hh (f, x) (lookupN_mem hf)
    exact ⟨ht, d, fd, h2, h3, h4, glo (by simp only [faOf, List.mem_append]; exact .inl (.inl (.inl (.inl (.inr (List.mem_map.mpr ⟨(f, x), lookupN_mem hf, rfl⟩)))))), h5, h6⟩
end MP

namespace MP
open PySem L2
def WW : Nat := 100000
def k_is_whole : K := (.seq (.ret (.and (.blt true .isi (.cons (.var 0) (.cons (.bty "int") .nil))) (.not (.blt true .isi (.cons (.var 0) (.cons (.bty "bool") .nil)))))) .skip)
def c_is_whole : Def := ⟨1, 1, k_is_whole, false, false⟩
def k_is_within : K := (.seq (.ret (.and (.call 0 (.cons (.var 0) .nil)) (.cmp2 .LtE .LtE (.var 1) (.var 0) (.var 2)))) .skip)
def c_is_within : Def := ⟨3, 3, k_is_within, false, false⟩
def k_is_hour : K := (.seq (.ret (.and (.call 0 (.cons (.var 0) .nil)) (.cmp .GtE (.var 0) (.val (.int 0))))) .skip)
def c_is_hour : Def := ⟨1, 1, k_is_hour, false, false⟩
def k_is_kind : K := (.seq (.ife (.or (.not (.blt true .isi (.cons (.var 0) (.cons (.bty "tuple") .nil)))) (.or (.cmp .NotEq (.blt true .len (.cons (.var 0) .nil)) (.val (.int 2))) (.not (.call 1 (.cons (.idx (.var 0) (.val (.int 0))) (.cons (.val (.int 1)) (.cons (.glo "MOST_LIMIT" (.int 999)) .nil))))))) (.seq (.ret (.val (.bl false))) .skip) .skip) (.seq (.set 1 (.idx (.var 0) (.val (.int 1)))) (.seq (.ife (.or (.not (.blt true .isi (.cons (.var 1) (.cons (.bty "tuple") .nil)))) (.cmp .NotEq (.blt true .len (.cons (.var 1) .nil)) (.bin true .Add (.glo "MOST_COLD" (.int 3)) (.val (.int 1))))) (.seq (.ret (.val (.bl false))) .skip) .skip) (.seq (.ife (.not (.blt true .all (.cons (.lc true (.one 2) .seq (.cons (.var 1) .nil) .no (.call 1 (.cons (.var 2) (.cons (.val (.int 0)) (.cons (.glo "MOST_RATE" (.int 9)) .nil))))) .nil))) (.seq (.ret (.val (.bl false))) .skip) .skip) (.seq (.ret (.blt true .all (.cons (.lc true (.one 3) .rng (.cons (.val (.int 1)) (.cons (.blt true .len (.cons (.var 1) .nil)) .nil)) .no (.cmp .LtE (.idx (.var 1) (.var 3)) (.idx (.var 1) (.bin true .Sub (.var 3) (.val (.int 1)))))) .nil))) .skip)))))
def c_is_kind : Def := ⟨1, 4, k_is_kind, false, false⟩
def k_are_apart : K := (.seq (.ife (.not (.blt true .isi (.cons (.var 1) (.cons (.bty "tuple") .nil)))) (.seq (.ret (.val (.bl false))) .skip) .skip) (.seq (.for_ (.one 2) .seq (.cons (.var 1) .nil) (.seq (.ife (.or (.not (.blt true .isi (.cons (.var 2) (.cons (.bty "tuple") .nil)))) (.or (.cmp .NotEq (.blt true .len (.cons (.var 2) .nil)) (.val (.int 2))) (.not (.blt true .all (.cons (.lc true (.one 3) .seq (.cons (.var 2) .nil) .no (.call 1 (.cons (.var 3) (.cons (.val (.int 0)) (.cons (.bin true .Sub (.var 0) (.val (.int 1))) .nil))))) .nil))))) (.seq (.ret (.val (.bl false))) .skip) .skip) (.seq (.ife (.cmp .GtE (.idx (.var 2) (.val (.int 0))) (.idx (.var 2) (.val (.int 1)))) (.seq (.ret (.val (.bl false))) .skip) .skip) .skip))) (.seq (.ret (.blt true .all (.cons (.lc true (.one 4) .rng (.cons (.val (.int 1)) (.cons (.blt true .len (.cons (.var 1) .nil)) .nil)) .no (.cmp .Lt (.idx (.var 1) (.bin true .Sub (.var 4) (.val (.int 1)))) (.idx (.var 1) (.var 4)))) .nil))) .skip)))
def c_are_apart : Def := ⟨2, 5, k_are_apart, false, false⟩
def k_is_house : K := (.seq (.ife (.or (.not (.blt true .isi (.cons (.var 0) (.cons (.bty "tuple") .nil)))) (.cmp .NotEq (.blt true .len (.cons (.var 0) .nil)) (.val (.int 4)))) (.seq (.ret (.val (.bl false))) .skip) .skip) (.seq (.unp [1, 2, 3, 4] (.var 0)) (.seq (.ife (.or (.not (.blt true .isi (.cons (.var 1) (.cons (.bty "tuple") .nil)))) (.not (.cmp2 .LtE .LtE (.val (.int 1)) (.blt true .len (.cons (.var 1) .nil)) (.glo "MOST_ROOMS" (.int 5))))) (.seq (.ret (.val (.bl false))) .skip) .skip) (.seq (.ife (.not (.blt true .all (.cons (.lc true (.one 5) .seq (.cons (.var 1) .nil) .no (.call 1 (.cons (.var 5) (.cons (.val (.int 0)) (.cons (.glo "MOST_COLD" (.int 3)) .nil))))) .nil))) (.seq (.ret (.val (.bl false))) .skip) .skip) (.seq (.ife (.or (.not (.blt true .isi (.cons (.var 2) (.cons (.bty "tuple") .nil)))) (.or (.not (.cmp2 .LtE .LtE (.val (.int 1)) (.blt true .len (.cons (.var 2) .nil)) (.glo "MOST_KINDS" (.int 4)))) (.not (.blt true .all (.cons (.lc true (.one 6) .seq (.cons (.var 2) .nil) .no (.call 2 (.cons (.var 6) .nil))) .nil))))) (.seq (.ret (.val (.bl false))) .skip) .skip) (.seq (.ret (.and (.call 3 (.cons (.blt true .len (.cons (.var 2) .nil)) (.cons (.var 3) .nil))) (.call 1 (.cons (.var 4) (.cons (.val (.int 1)) (.cons (.glo "MOST_HOLD" (.int 9)) .nil)))))) .skip))))))
def c_is_house : Def := ⟨1, 7, k_is_house, false, false⟩
def k_check_house : K := (.seq (.ife (.not (.call 4 (.cons (.var 0) .nil))) (.seq (.rais "NoHouse" (.val (.str "no house"))) .skip) .skip) .skip)
def c_check_house : Def := ⟨1, 1, k_check_house, false, false⟩
def k_is_out : K := (.seq (.ife (.or (.not (.blt true .isi (.cons (.var 0) (.cons (.bty "tuple") .nil)))) (.or (.cmp .NotEq (.blt true .len (.cons (.var 0) .nil)) (.val (.int 2))) (.or (.not (.call 18 (.cons (.idx (.var 0) (.val (.int 0))) .nil))) (.not (.call 18 (.cons (.idx (.var 0) (.val (.int 1))) .nil)))))) (.seq (.ret (.val (.bl false))) .skip) .skip) (.seq (.ret (.cmp .Lt (.idx (.var 0) (.val (.int 0))) (.idx (.var 0) (.val (.int 1))))) .skip))
def c_is_out : Def := ⟨1, 1, k_is_out, false, false⟩
def k_outs_fit : K := (.seq (.ife (.or (.not (.blt true .isi (.cons (.var 0) (.cons (.bty "tuple") .nil)))) (.or (.cmp .Gt (.blt true .len (.cons (.var 0) .nil)) (.glo "MOST_OUTS" (.int 4))) (.not (.blt true .all (.cons (.lc true (.one 1) .seq (.cons (.var 0) .nil) .no (.call 20 (.cons (.var 1) .nil))) .nil))))) (.seq (.ret (.val (.bl false))) .skip) .skip) (.seq (.ret (.blt true .all (.cons (.lc true (.one 2) .rng (.cons (.val (.int 1)) (.cons (.blt true .len (.cons (.var 0) .nil)) .nil)) .no (.cmp .Gt (.idx (.idx (.var 0) (.var 2)) (.val (.int 0))) (.idx (.idx (.var 0) (.bin true .Sub (.var 2) (.val (.int 1)))) (.val (.int 1))))) .nil))) .skip))
def c_outs_fit : Def := ⟨1, 3, k_outs_fit, false, false⟩
def k_are_outs : K := (.seq (.expr (.call 19 (.cons (.var 0) .nil))) (.seq (.ret (.call 21 (.cons (.var 1) .nil))) .skip))
def c_are_outs : Def := ⟨2, 2, k_are_outs, false, false⟩
def k_check_outs : K := (.seq (.expr (.call 19 (.cons (.var 0) .nil))) (.seq (.ife (.not (.call 21 (.cons (.var 1) .nil))) (.seq (.rais "NoOuts" (.val (.str "no outs"))) .skip) .skip) .skip))
def c_check_outs : Def := ⟨2, 2, k_check_outs, false, false⟩
def k_check_hour : K := (.seq (.ife (.not (.call 18 (.cons (.var 0) .nil))) (.seq (.rais "NoHour" (.val (.str "no hour"))) .skip) .skip) .skip)
def c_check_hour : Def := ⟨1, 1, k_check_hour, false, false⟩
def k_is_room : K := (.seq (.ret (.call 1 (.cons (.var 1) (.cons (.val (.int 0)) (.cons (.bin true .Sub (.blt true .len (.cons (.idx (.var 0) (.val (.int 0))) .nil)) (.val (.int 1))) .nil))))) .skip)
def c_is_room : Def := ⟨2, 2, k_is_room, false, false⟩
def k_cold_by : K := (.seq (.set 4 (.idx (.idx (.var 0) (.val (.int 0))) (.var 2))) (.seq (.for_ (.many [5, 6]) .seq (.cons (.var 1) .nil) (.seq (.ife (.cmp2 .LtE .Lt (.var 5) (.var 3) (.var 6)) (.seq (.set 4 (.blt true .max2 (.cons (.val (.int 0)) (.cons (.bin true .Sub (.var 4) (.bin true .FloorDiv (.bin true .Sub (.var 3) (.var 5)) (.idx (.var 0) (.val (.int 3))))) .nil)))) .skip) .skip) .skip)) (.seq (.ret (.var 4)) .skip)))
def c_cold_by : Def := ⟨4, 7, k_cold_by, false, false⟩
def k_cold_at : K := (.seq (.expr (.call 23 (.cons (.var 0) (.cons (.var 1) .nil)))) (.seq (.ife (.not (.call 25 (.cons (.var 0) (.cons (.var 2) .nil)))) (.seq (.rais "NoRoom" (.val (.str "no such room"))) .skip) .skip) (.seq (.expr (.call 24 (.cons (.var 3) .nil))) (.seq (.ret (.call 26 (.cons (.var 0) (.cons (.var 1) (.cons (.var 2) (.cons (.var 3) .nil)))))) .skip))))
def c_cold_at : Def := ⟨4, 4, k_cold_at, false, false⟩
def k__law_cell_at : K := (.seq (.ife (.cmp .Lt (.var 1) (.blt true .len (.cons (.var 0) .nil))) (.seq (.ret (.idx (.var 0) (.var 1))) .skip) .skip) (.seq (.ret (.val (.int 0))) .skip))
def c__law_cell_at : Def := ⟨2, 2, k__law_cell_at, false, false⟩
def k__law_pot : K := (.seq (.ife (.cmp .GtE (.var 0) (.bin true .Pow (.val (.int 10)) (.val (.int 18)))) (.seq (.ret (.lst false (.cons (.bin true .Sub (.var 0) (.bin true .Pow (.val (.int 10)) (.val (.int 18)))) .nil))) .skip) .skip) (.seq (.set 1 (.val (.int 0))) (.seq (.for_ (.one 2) .rng (.cons (.val (.int 64)) .nil) (.seq (.set 3 (.bin true .Mod (.bin true .Mult (.bin true .Add (.bin true .Add (.bin true .Mod (.var 0) (.val (.int 2147483629))) (.bin true .Mult (.val (.int 7919)) (.var 2))) (.val (.int 1))) (.val (.int 48271))) (.val (.int 2147483647)))) (.seq (.set 3 (.bin true .Mod (.bin true .Add (.bin true .Add (.bin true .Mult (.var 3) (.var 3)) (.bin true .Mult (.val (.int 69621)) (.var 2))) (.val (.int 7))) (.val (.int 2147483587)))) (.seq (.set 1 (.bin true .Add (.bin true .Mult (.var 1) (.val (.int 2147483587))) (.var 3))) .skip)))) (.seq (.ret (.lst false (.cons (.var 1) .nil))) .skip))))
def c__law_pot : Def := ⟨1, 4, k__law_pot, false, false⟩
def k__law_take : K := (.seq (.set 2 (.bin true .Mod (.idx (.var 0) (.val (.int 0))) (.var 1))) (.seq (.put (.var 0) (.val (.int 0)) (.bin true .FloorDiv (.idx (.var 0) (.val (.int 0))) (.var 1))) (.seq (.ret (.var 2)) .skip)))
def c__law_take : Def := ⟨2, 3, k__law_take, false, false⟩
def k__law_whole : K := (.seq (.ret (.and (.blt true .isi (.cons (.var 0) (.cons (.bty "int") .nil))) (.not (.blt true .isi (.cons (.var 0) (.cons (.bty "bool") .nil)))))) .skip)
def c__law_whole : Def := ⟨1, 1, k__law_whole, false, false⟩
def k__law_within : K := (.seq (.ret (.and (.call 8 (.cons (.var 0) .nil)) (.cmp2 .LtE .LtE (.var 1) (.var 0) (.var 2)))) .skip)
def c__law_within : Def := ⟨3, 3, k__law_within, false, false⟩
def k__law_odd : K := (.seq (.set 1 (.lst true (.cons (.val .non) (.cons (.val (.bl true)) (.cons (.val (.bl false)) (.cons (.neg (.val (.int 1))) (.cons (.bin true .Pow (.val (.int 10)) (.val (.int 30))) (.cons (.val (.str "")) (.cons (.val (.str "a")) (.cons (.val (.str "1")) (.cons (.tup .nil) (.cons (.lst true .nil) (.cons (.dct true [] .nil) (.cons (.lst true (.cons (.tup .nil) .nil)) (.cons (.tup (.cons (.tup .nil) .nil)) (.cons (.tup (.cons (.val (.int 0)) .nil)) (.cons (.lst true (.cons (.val (.int 0)) .nil)) (.cons (.dct true [(.inl 0)] (.cons (.val (.int 1)) .nil)) (.cons (.tup (.cons (.val (.bl true)) (.cons (.val (.bl true)) .nil))) .nil))))))))))))))))))) (.seq (.ret (.idx (.var 1) (.call 7 (.cons (.var 0) (.cons (.blt true .len (.cons (.var 1) .nil)) .nil))))) .skip))
def c__law_odd : Def := ⟨1, 2, k__law_odd, false, false⟩
def k__law_bent : K := (.seq (.ife (.not (.blt true .isi (.cons (.var 1) (.cons (.bty "tuple") .nil)))) (.seq (.ife (.and (.call 8 (.cons (.var 1) .nil)) (.cmp .Gt (.call 7 (.cons (.var 0) (.cons (.val (.int 3)) .nil))) (.val (.int 0)))) (.seq (.ret (.bin true .Add (.var 1) (.idx (.lst true (.cons (.val (.int 1)) (.cons (.neg (.val (.int 1))) (.cons (.val (.int 9)) (.cons (.val (.int 100)) (.cons (.val (.int 9999)) (.cons (.neg (.bin true .Pow (.val (.int 10)) (.val (.int 4)))) .nil))))))) (.call 7 (.cons (.var 0) (.cons (.val (.int 6)) .nil)))))) .skip) .skip) (.seq (.ret (.call 10 (.cons (.var 0) .nil))) .skip)) .skip) (.seq (.set 2 (.call 7 (.cons (.var 0) (.cons (.val (.int 12)) .nil)))) (.seq (.ife (.or (.cmp .Eq (.var 2) (.val (.int 0))) (.cmp .Eq (.var 1) (.tup .nil))) (.seq (.ret (.idx (.lst true (.cons (.call 10 (.cons (.var 0) .nil)) (.cons (.blt true .list (.cons (.var 1) .nil)) (.cons (.bin true .Add (.var 1) (.tup (.cons (.call 10 (.cons (.var 0) .nil)) .nil))) (.cons (.bin true .Add (.var 1) (.slc true (.var 1) (.neg (.val (.int 1))) .no)) .nil))))) (.call 7 (.cons (.var 0) (.cons (.val (.int 4)) .nil))))) .skip) .skip) (.seq (.set 3 (.call 7 (.cons (.var 0) (.cons (.blt true .len (.cons (.var 1) .nil)) .nil)))) (.seq (.ife (.cmp .Eq (.var 2) (.val (.int 1))) (.seq (.ret (.bin true .Add (.slc true (.var 1) .no (.var 3)) (.slc true (.var 1) (.bin true .Add (.var 3) (.val (.int 1))) .no))) .skip) .skip) (.seq (.ife (.cmp .Eq (.var 2) (.val (.int 2))) (.seq (.ret (.bin true .Add (.bin true .Add (.slc true (.var 1) .no (.var 3)) (.slc true (.var 1) (.var 3) (.bin true .Add (.var 3) (.val (.int 1))))) (.slc true (.var 1) (.var 3) .no))) .skip) .skip) (.seq (.ret (.bin true .Add (.bin true .Add (.slc true (.var 1) .no (.var 3)) (.tup (.cons (.call 11 (.cons (.var 0) (.cons (.idx (.var 1) (.var 3)) .nil))) .nil))) (.slc true (.var 1) (.bin true .Add (.var 3) (.val (.int 1))) .no))) .skip)))))))
def c__law_bent : Def := ⟨2, 4, k__law_bent, false, false⟩
def k__law_kind_of : K := (.seq (.set 1 (.idx (.lst true (.cons (.val (.int 9)) (.cons (.val (.int 3)) (.cons (.val (.int 1)) (.cons (.val (.int 9)) .nil))))) (.call 7 (.cons (.var 0) (.cons (.val (.int 4)) .nil))))) (.seq (.set 2 (.rev true (.blt true .sorted (.cons (.lc true (.one 3) .rng (.cons (.val (.int 4)) .nil) .no (.call 7 (.cons (.var 0) (.cons (.bin true .Add (.var 1) (.val (.int 1))) .nil)))) .nil)))) (.seq (.ret (.tup (.cons (.idx (.lst true (.cons (.val (.int 30)) (.cons (.bin true .Add (.val (.int 1)) (.call 7 (.cons (.var 0) (.cons (.val (.int 20)) .nil)))) (.cons (.val (.int 999)) (.cons (.val (.int 8)) .nil))))) (.call 7 (.cons (.var 0) (.cons (.val (.int 4)) .nil)))) (.cons (.blt true .tuple (.cons (.var 2) .nil)) .nil)))) .skip)))
def c__law_kind_of : Def := ⟨1, 4, k__law_kind_of, false, false⟩
def k__law_house : K := (.seq (.set 1 (.blt true .tuple (.cons (.lc true (.one 2) .rng (.cons (.bin true .Add (.val (.int 1)) (.call 7 (.cons (.var 0) (.cons (.val (.int 5)) .nil)))) .nil) .no (.call 7 (.cons (.var 0) (.cons (.val (.int 4)) .nil)))) .nil))) (.seq (.set 3 (.blt true .tuple (.cons (.lc true (.one 4) .rng (.cons (.bin true .Add (.val (.int 1)) (.call 7 (.cons (.var 0) (.cons (.val (.int 4)) .nil)))) .nil) .no (.call 12 (.cons (.var 0) .nil))) .nil))) (.seq (.set 5 (.lst true .nil)) (.seq (.for_ (.one 6) .rng (.cons (.blt true .len (.cons (.var 3) .nil)) .nil) (.seq (.set 5 (.bin true .Add (.var 5) (.lc true (.one 4) .rng (.cons (.var 6) .nil) (.cmp .Eq (.call 7 (.cons (.var 0) (.cons (.val (.int 3)) .nil))) (.val (.int 0))) (.tup (.cons (.var 4) (.cons (.var 6) .nil)))))) .skip)) (.seq (.ret (.tup (.cons (.var 1) (.cons (.var 3) (.cons (.blt true .tuple (.cons (.blt true .sorted (.cons (.var 5) .nil)) .nil)) (.cons (.idx (.lst true (.cons (.val (.int 1)) (.cons (.val (.int 2)) (.cons (.val (.int 9)) (.cons (.bin true .Add (.val (.int 1)) (.call 7 (.cons (.var 0) (.cons (.val (.int 9)) .nil)))) .nil))))) (.call 7 (.cons (.var 0) (.cons (.val (.int 4)) .nil)))) .nil)))))) .skip)))))
def c__law_house : Def := ⟨1, 7, k__law_house, false, false⟩
def k__law_outs : K := (.seq (.par [2, 3] (.cons (.lst false .nil) (.cons (.call 7 (.cons (.var 0) (.cons (.var 1) .nil))) .nil))) (.seq (.for_ (.one 4) .rng (.cons (.idx (.lst true (.cons (.val (.int 0)) (.cons (.val (.int 1)) (.cons (.val (.int 2)) (.cons (.val (.int 4)) .nil))))) (.call 7 (.cons (.var 0) (.cons (.val (.int 4)) .nil)))) .nil) (.seq (.expr (.mth .append (.var 2) (.cons (.tup (.cons (.var 3) (.cons (.bin true .Add (.bin true .Add (.var 3) (.val (.int 1))) (.call 7 (.cons (.var 0) (.cons (.var 1) .nil)))) .nil))) .nil))) (.seq (.set 3 (.bin true .Add (.bin true .Add (.idx (.idx (.var 2) (.neg (.val (.int 1)))) (.val (.int 1))) (.val (.int 1))) (.call 7 (.cons (.var 0) (.cons (.var 1) .nil))))) .skip))) (.seq (.ret (.blt true .tuple (.cons (.var 2) .nil))) .skip)))
def c__law_outs : Def := ⟨2, 5, k__law_outs, true, false⟩
def k__law_far : K := (.seq (.set 3 (.idx (.lst true (.cons (.val (.int 0)) (.cons (.val (.int 0)) (.cons (.bin true .Pow (.val (.int 10)) (.val (.int 6))) (.cons (.bin true .Pow (.val (.int 10)) (.val (.int 39))) .nil))))) (.call 7 (.cons (.var 0) (.cons (.val (.int 4)) .nil))))) (.seq (.set 4 (.blt true .tuple (.cons (.lc true (.many [5, 6]) .seq (.cons (.var 1) .nil) .no (.tup (.cons (.bin true .Add (.var 5) (.var 3)) (.cons (.bin true .Add (.var 6) (.var 3)) .nil)))) .nil))) (.seq (.ret (.tup (.cons (.var 4) (.cons (.lc true (.one 7) .seq (.cons (.var 2) .nil) .no (.bin true .Add (.tup (.cons (.bin true .Add (.idx (.var 7) (.val (.int 0))) (.var 3)) .nil)) (.slc true (.var 7) (.val (.int 1)) .no))) (.cons (.var 3) .nil))))) .skip)))
def c__law_far : Def := ⟨3, 8, k__law_far, false, false⟩
def k__law_is_hour : K := (.seq (.ret (.and (.call 8 (.cons (.var 0) .nil)) (.cmp .GtE (.var 0) (.val (.int 0))))) .skip)
def c__law_is_hour : Def := ⟨1, 1, k__law_is_hour, false, false⟩
def k__law_are_outs : K := (.seq (.ife (.or (.not (.blt true .isi (.cons (.var 0) (.cons (.bty "tuple") .nil)))) (.cmp .Gt (.blt true .len (.cons (.var 0) .nil)) (.val (.int 4)))) (.seq (.ret (.val (.bl false))) .skip) .skip) (.seq (.set 1 (.neg (.val (.int 1)))) (.seq (.for_ (.one 2) .seq (.cons (.var 0) .nil) (.seq (.ife (.or (.not (.blt true .isi (.cons (.var 2) (.cons (.bty "tuple") .nil)))) (.or (.cmp .NotEq (.blt true .len (.cons (.var 2) .nil)) (.val (.int 2))) (.or (.not (.call 30 (.cons (.idx (.var 2) (.val (.int 0))) .nil))) (.not (.call 30 (.cons (.idx (.var 2) (.val (.int 1))) .nil)))))) (.seq (.ret (.val (.bl false))) .skip) .skip) (.seq (.ife (.or (.cmp .LtE (.idx (.var 2) (.val (.int 0))) (.var 1)) (.cmp .LtE (.idx (.var 2) (.val (.int 1))) (.idx (.var 2) (.val (.int 0))))) (.seq (.ret (.val (.bl false))) .skip) .skip) (.seq (.set 1 (.idx (.var 2) (.val (.int 1)))) .skip)))) (.seq (.ret (.val (.bl true))) .skip))))
def c__law_are_outs : Def := ⟨1, 3, k__law_are_outs, false, false⟩
def k__law_word : K := (.seq (.set 1 (.lst false (.cons (.blt true .isx (.cons (.var 0) (.cons (.glo "NoHouse" (.own "NoHouse")) .nil))) (.cons (.blt true .isx (.cons (.var 0) (.cons (.glo "NoOuts" (.own "NoOuts")) .nil))) (.cons (.blt true .isx (.cons (.var 0) (.cons (.glo "NoRoom" (.own "NoRoom")) .nil))) (.cons (.blt true .isx (.cons (.var 0) (.cons (.glo "NoHour" (.own "NoHour")) .nil))) .nil)))))) (.seq (.set 1 (.bin false .Add (.var 1) (.lst true (.cons (.blt true .isx (.cons (.var 0) (.cons (.glo "NoPages" (.own "NoPages")) .nil))) (.cons (.blt true .isx (.cons (.var 0) (.cons (.glo "NoLot" (.own "NoLot")) .nil))) (.cons (.blt true .isx (.cons (.var 0) (.cons (.glo "NoAsks" (.own "NoAsks")) .nil))) (.cons (.blt true .isx (.cons (.var 0) (.cons (.glo "NoNumber" (.own "NoNumber")) .nil))) .nil))))))) (.seq (.set 1 (.bin false .Add (.var 1) (.lst true (.cons (.blt true .isx (.cons (.var 0) (.cons (.glo "NoMoves" (.own "NoMoves")) .nil))) (.cons (.blt true .isx (.cons (.var 0) (.cons (.glo "NoEach" (.own "NoEach")) .nil))) (.cons (.blt true .isx (.cons (.var 0) (.cons (.glo "NoOrder" (.own "NoOrder")) .nil))) (.cons (.blt true .isx (.cons (.var 0) (.cons (.glo "NoPage" (.own "NoPage")) .nil))) .nil))))))) (.seq (.set 1 (.bin false .Add (.var 1) (.lst true (.cons (.blt true .isx (.cons (.var 0) (.cons (.glo "NoOut" (.own "NoOut")) .nil))) (.cons (.blt true .isx (.cons (.var 0) (.cons (.glo "Twice" (.own "Twice")) .nil))) (.cons (.blt true .isx (.cons (.var 0) (.cons (.glo "Missing" (.own "Missing")) .nil))) (.cons (.blt true .isx (.cons (.var 0) (.cons (.glo "TooMany" (.own "TooMany")) .nil))) .nil))))))) (.seq (.expr (.mth .append (.var 1) (.cons (.blt true .isx (.cons (.var 0) (.cons (.glo "NoDeed" (.own "NoDeed")) .nil))) .nil))) (.seq (.ife (.or (.cmp .NotEq (.mth .count (.var 1) (.cons (.val (.bl true)) .nil)) (.val (.int 1))) (.not (.blt true .isx (.cons (.var 0) (.cons (.bty "ValueError") .nil))))) (.seq (.ret (.val (.str "other"))) .skip) .skip) (.seq (.set 2 (.lst true (.cons (.val (.str "house")) (.cons (.val (.str "outs")) (.cons (.val (.str "room")) (.cons (.val (.str "hour")) (.cons (.val (.str "pages")) (.cons (.val (.str "lot")) (.cons (.val (.str "asks")) (.cons (.val (.str "number")) (.cons (.val (.str "moves")) (.cons (.val (.str "each")) (.cons (.val (.str "order")) (.cons (.val (.str "page")) .nil)))))))))))))) (.seq (.ret (.idx (.bin true .Add (.var 2) (.lst true (.cons (.val (.str "out")) (.cons (.val (.str "twice")) (.cons (.val (.str "missing")) (.cons (.val (.str "many")) (.cons (.val (.str "deed")) .nil))))))) (.mth .index (.var 1) (.cons (.val (.bl true)) .nil)))) .skip))))))))
def c__law_word : Def := ⟨1, 3, k__law_word, true, false⟩
def k__law_cold : K := (.seq (.set 4 (.idx (.idx (.var 0) (.val (.int 0))) (.var 2))) (.seq (.for_ (.many [5, 6]) .seq (.cons (.var 1) .nil) (.seq (.ife (.cmp2 .LtE .Lt (.var 5) (.var 3) (.var 6)) (.seq (.ret (.blt true .max2 (.cons (.bin true .Sub (.var 4) (.bin true .FloorDiv (.bin true .Sub (.var 3) (.var 5)) (.idx (.var 0) (.val (.int 3))))) (.cons (.val (.int 0)) .nil)))) .skip) .skip) .skip)) (.seq (.ret (.var 4)) .skip)))
def c__law_cold : Def := ⟨4, 7, k__law_cold, false, false⟩
def k__law_told : K := (.seq (.tryW (.seq (.ret (.call 27 (.cons (.var 0) (.cons (.var 1) (.cons (.var 2) (.cons (.var 3) .nil)))))) .skip) "RimeError" 4 32) .skip)
def c__law_told : Def := ⟨4, 5, k__law_told, false, false⟩
def k__law_due : K := (.seq (.ife (.not (.call 31 (.cons (.var 1) .nil))) (.seq (.ret (.val (.str "outs"))) .skip) .skip) (.seq (.ife (.not (.call 9 (.cons (.var 2) (.cons (.val (.int 0)) (.cons (.bin true .Sub (.blt true .len (.cons (.idx (.var 0) (.val (.int 0))) .nil)) (.val (.int 1))) .nil))))) (.seq (.ret (.val (.str "room"))) .skip) .skip) (.seq (.ret (.ite (.call 30 (.cons (.var 3) .nil)) (.call 33 (.cons (.var 0) (.cons (.var 1) (.cons (.var 2) (.cons (.var 3) .nil))))) (.val (.str "hour")))) .skip)))
def c__law_due : Def := ⟨4, 4, k__law_due, false, false⟩
def k__law_things : K := (.seq (.set 2 (.lst false (.cons (.var 1) (.cons (.blt true .list (.cons (.var 1) .nil)) (.cons (.call 10 (.cons (.var 0) .nil)) (.cons (.call 11 (.cons (.var 0) (.cons (.var 1) .nil))) (.cons (.bin true .Add (.var 1) (.tup (.cons (.tup (.cons (.val (.int 1)) (.cons (.val (.int 2)) .nil))) .nil))) .nil))))))) (.seq (.expr (.mth .append (.var 2) (.cons (.call 11 (.cons (.var 0) (.cons (.call 11 (.cons (.var 0) (.cons (.var 1) .nil))) .nil))) .nil))) (.seq (.set 2 (.bin false .Add (.var 2) (.lst true (.cons (.tup (.cons (.tup (.cons (.val (.int 3)) (.cons (.val (.int 5)) .nil))) (.cons (.tup (.cons (.val (.int 5)) (.cons (.val (.int 6)) .nil))) .nil))) (.cons (.tup (.cons (.tup (.cons (.val (.int 3)) (.cons (.val (.int 5)) .nil))) (.cons (.tup (.cons (.val (.int 6)) (.cons (.val (.int 7)) .nil))) .nil))) (.cons (.tup (.cons (.tup (.cons (.val (.int 3)) (.cons (.val (.int 5)) .nil))) (.cons (.tup (.cons (.val (.int 4)) (.cons (.val (.int 7)) .nil))) .nil))) (.cons (.tup (.cons (.tup (.cons (.val (.int 6)) (.cons (.val (.int 7)) .nil))) (.cons (.tup (.cons (.val (.int 3)) (.cons (.val (.int 5)) .nil))) .nil))) (.cons (.tup (.cons (.tup (.cons (.val (.int 3)) (.cons (.val (.int 3)) .nil))) .nil)) (.cons (.tup (.cons (.tup (.cons (.val (.int 4)) (.cons (.val (.int 3)) .nil))) .nil)) .nil))))))))) (.seq (.set 3 (.blt true .tuple (.cons (.lc true (.one 4) .rng (.cons (.val (.int 5)) .nil) .no (.tup (.cons (.bin true .Mult (.val (.int 3)) (.var 4)) (.cons (.bin true .Add (.bin true .Mult (.val (.int 3)) (.var 4)) (.val (.int 1))) .nil)))) .nil))) (.seq (.ret (.bin true .Add (.var 2) (.lst true (.cons (.var 3) (.cons (.slc true (.var 3) .no (.val (.int 4))) (.cons (.tup (.cons (.tup (.cons (.val (.int 0)) (.cons (.val (.int 1)) .nil))) .nil)) (.cons (.tup (.cons (.tup (.cons (.neg (.val (.int 1))) (.cons (.val (.int 1)) .nil))) .nil)) (.cons (.tup (.cons (.tup (.cons (.val (.bl true)) (.cons (.val (.int 3)) .nil))) .nil)) (.cons (.tup (.cons (.tup (.cons (.val (.int 0)) (.cons (.bin true .Sub (.bin true .Pow (.val (.int 10)) (.val (.int 40))) (.val (.int 1))) .nil))) .nil)) (.cons (.tup (.cons (.tup (.cons (.val (.int 0)) (.cons (.val (.int 1)) (.cons (.val (.int 2)) .nil)))) .nil)) (.cons (.tup (.cons (.lst true (.cons (.val (.int 0)) (.cons (.val (.int 1)) .nil))) .nil)) .nil))))))))))) .skip)))))
def c__law_things : Def := ⟨2, 5, k__law_things, true, false⟩
def k_law_v2 : K := (.seq (.for_ (.one 1) .rng (.cons (.blt true .max2 (.cons (.val (.int 1)) (.cons (.blt true .min2 (.cons (.blt true .len (.cons (.var 0) .nil)) (.cons (.val (.int 6)) .nil))) .nil))) .nil) (.seq (.set 2 (.call 6 (.cons (.call 5 (.cons (.var 0) (.cons (.var 1) .nil))) .nil))) (.seq (.set 3 (.call 13 (.cons (.var 2) .nil))) (.seq (.unp [4, 5, 6] (.call 29 (.cons (.var 2) (.cons (.call 28 (.cons (.var 2) (.cons (.val (.int 30)) .nil))) (.cons (.lst true .nil) .nil))))) (.seq (.for_ (.one 7) .seq (.cons (.call 36 (.cons (.var 2) (.cons (.var 4) .nil))) .nil) (.seq (.set 8 (.blt true .repr (.cons (.var 7) .nil))) (.seq (.ife (.or (.cmp .NotEq (.blt true .repr (.cons (.call 22 (.cons (.var 3) (.cons (.var 7) .nil))) .nil)) (.blt true .repr (.cons (.call 31 (.cons (.var 7) .nil)) .nil))) (.cmp .NotEq (.blt true .repr (.cons (.var 7) .nil)) (.var 8))) (.seq (.ret (.val (.bl false))) .skip) .skip) (.seq (.ife (.cmp .NotEq (.blt true .repr (.cons (.call 34 (.cons (.var 3) (.cons (.var 7) (.cons (.val (.int 0)) (.cons (.val (.int 4)) .nil))))) .nil)) (.blt true .repr (.cons (.call 35 (.cons (.var 3) (.cons (.var 7) (.cons (.val (.int 0)) (.cons (.val (.int 4)) .nil))))) .nil))) (.seq (.ret (.val (.bl false))) .skip) .skip) .skip)))) (.seq (.set 9 (.lst true (.cons (.val (.int 0)) (.cons (.bin true .Add (.var 6) (.call 7 (.cons (.var 2) (.cons (.val (.int 200)) .nil)))) (.cons (.bin true .Sub (.bin true .Pow (.val (.int 10)) (.val (.int 40))) (.val (.int 1))) (.cons (.val (.bl true)) (.cons (.val .non) (.cons (.neg (.val (.int 1))) (.cons (.val (.str "3")) (.cons (.tup (.cons (.val (.int 3)) .nil)) .nil)))))))))) (.seq (.for_ (.many [10, 11]) .seq (.cons (.var 4) .nil) (.seq (.set 9 (.bin true .Add (.var 9) (.lst true (.cons (.var 10) (.cons (.var 11) (.cons (.bin true .Sub (.var 11) (.val (.int 1))) (.cons (.blt true .max2 (.cons (.val (.int 0)) (.cons (.bin true .Sub (.var 10) (.val (.int 1))) .nil))) (.cons (.bin true .Add (.var 10) (.call 7 (.cons (.var 2) (.cons (.val (.int 40)) .nil)))) .nil)))))))) (.seq (.for_ (.one 12) .seq (.cons (.tup (.cons (.val (.int 1)) (.cons (.val (.int 2)) (.cons (.val (.int 3)) (.cons (.val (.int 4)) .nil))))) .nil) (.seq (.set 9 (.bin true .Add (.var 9) (.lst true (.cons (.bin true .Add (.var 10) (.bin true .Mult (.idx (.var 3) (.val (.int 3))) (.var 12))) (.cons (.bin true .Sub (.bin true .Add (.var 10) (.bin true .Mult (.idx (.var 3) (.val (.int 3))) (.var 12))) (.val (.int 1))) .nil))))) .skip)) .skip))) (.seq (.for_ (.one 13) .seq (.cons (.bin true .Add (.lrng true (.bin true .Add (.blt true .len (.cons (.idx (.var 3) (.val (.int 0))) .nil)) (.val (.int 1)))) (.lst true (.cons (.neg (.val (.int 1))) (.cons (.val (.bl true)) (.cons (.val .non) (.cons (.val (.str "0")) .nil)))))) .nil) (.seq (.for_ (.one 14) .seq (.cons (.var 9) .nil) (.seq (.ife (.cmp .NotEq (.blt true .repr (.cons (.call 34 (.cons (.var 3) (.cons (.var 4) (.cons (.var 13) (.cons (.var 14) .nil))))) .nil)) (.blt true .repr (.cons (.call 35 (.cons (.var 3) (.cons (.var 4) (.cons (.var 13) (.cons (.var 14) .nil))))) .nil))) (.seq (.ret (.val (.bl false))) .skip) .skip) .skip)) .skip)) .skip)))))))) (.seq (.ret (.val (.bl true))) .skip))
def c_law_v2 : Def := ⟨1, 15, k_law_v2, false, false⟩
def k_is_move_v2 : K := (.seq (.ife (.or (.not (.blt true .isi (.cons (.var 1) (.cons (.bty "tuple") .nil)))) (.or (.cmp .NotEq (.blt true .len (.cons (.var 1) .nil)) (.val (.int 2))) (.not (.blt true .all (.cons (.lc true (.one 2) .seq (.cons (.var 1) .nil) .no (.call 25 (.cons (.var 0) (.cons (.var 2) .nil)))) .nil))))) (.seq (.ret (.val (.bl false))) .skip) .skip) (.seq (.ret (.cmp .NotEq (.idx (.var 1) (.val (.int 0))) (.idx (.var 1) (.val (.int 1))))) .skip))
def c_is_move_v2 : Def := ⟨2, 3, k_is_move_v2, false, false⟩
def k_check_moves_v2 : K := (.seq (.expr (.call 19 (.cons (.var 0) .nil))) (.seq (.ife (.or (.not (.blt true .isi (.cons (.var 1) (.cons (.bty "list") .nil)))) (.or (.cmp .Gt (.blt true .len (.cons (.var 1) .nil)) (.glo "MOST_MOVES" (.int 10))) (.not (.blt true .all (.cons (.lc true (.one 2) .seq (.cons (.var 1) .nil) .no (.call 247 (.cons (.var 0) (.cons (.var 2) .nil)))) .nil))))) (.seq (.rais "NoMoves" (.val (.str "no moves"))) .skip) .skip) .skip))
def c_check_moves_v2 : Def := ⟨2, 3, k_check_moves_v2, false, false⟩
def k_is_row_v2 : K := (.seq (.expr (.call 248 (.cons (.var 0) (.cons (.var 1) .nil)))) (.seq (.ife (.or (.not (.blt true .isi (.cons (.var 2) (.cons (.bty "list") .nil)))) (.not (.blt true .all (.cons (.lc true (.one 3) .seq (.cons (.var 2) .nil) .no (.call 25 (.cons (.var 0) (.cons (.var 3) .nil)))) .nil)))) (.seq (.ret (.val (.bl false))) .skip) .skip) (.seq (.for_ (.many [4, 5]) .seq (.cons (.var 1) .nil) (.seq (.ife (.or (.cmp .NotIn (.var 4) (.var 2)) (.cmp .NotIn (.var 5) (.slc true (.var 2) (.bin true .Add (.mth .index (.var 2) (.cons (.var 4) .nil)) (.val (.int 1))) .no))) (.seq (.ret (.val (.bl false))) .skip) .skip) .skip)) (.seq (.ret (.val (.bl true))) .skip))))
def c_is_row_v2 : Def := ⟨3, 6, k_is_row_v2, false, false⟩
def k__law_mixed : K := (.seq (.set 2 (.blt false .list (.cons (.var 1) .nil))) (.seq (.ret (.lc true (.one 3) .seq (.cons (.var 1) .nil) .no (.mth .pop (.var 2) (.cons (.call 7 (.cons (.var 0) (.cons (.blt true .len (.cons (.var 2) .nil)) .nil))) .nil)))) .skip))
def c__law_mixed : Def := ⟨2, 4, k__law_mixed, true, false⟩
def k__law_house_v2 : K := (.seq (.set 1 (.blt true .tuple (.cons (.lc true (.one 2) .rng (.cons (.bin true .Add (.val (.int 1)) (.call 7 (.cons (.var 0) (.cons (.val (.int 5)) .nil)))) .nil) .no (.call 7 (.cons (.var 0) (.cons (.val (.int 4)) .nil)))) .nil))) (.seq (.set 3 (.lst false .nil)) (.seq (.for_ (.one 2) .rng (.cons (.bin true .Add (.val (.int 1)) (.call 7 (.cons (.var 0) (.cons (.idx (.lst true (.cons (.val (.int 1)) (.cons (.val (.int 2)) (.cons (.val (.int 4)) .nil)))) (.call 7 (.cons (.var 0) (.cons (.val (.int 3)) .nil)))) .nil)))) .nil) (.seq (.set 4 (.blt true .sorted (.cons (.lc true (.one 5) .rng (.cons (.val (.int 4)) .nil) .no (.call 7 (.cons (.var 0) (.cons (.idx (.lst true (.cons (.val (.int 2)) (.cons (.val (.int 4)) (.cons (.val (.int 10)) .nil)))) (.call 7 (.cons (.var 0) (.cons (.val (.int 3)) .nil)))) .nil)))) .nil))) (.seq (.expr (.mth .append (.var 3) (.cons (.tup (.cons (.idx (.lst true (.cons (.val (.int 5)) (.cons (.val (.int 40)) (.cons (.val (.int 300)) (.cons (.val (.int 999)) .nil))))) (.call 7 (.cons (.var 0) (.cons (.val (.int 4)) .nil)))) (.cons (.blt true .tuple (.cons (.rev true (.var 4)) .nil)) .nil))) .nil))) .skip))) (.seq (.set 6 (.lst false .nil)) (.seq (.for_ (.one 7) .rng (.cons (.blt true .len (.cons (.var 3) .nil)) .nil) (.seq (.for_ (.one 8) .rng (.cons (.bin true .Add (.var 7) (.val (.int 1))) (.cons (.blt true .len (.cons (.var 3) .nil)) .nil)) (.seq (.ife (.cmp .Eq (.call 7 (.cons (.var 0) (.cons (.val (.int 3)) .nil))) (.val (.int 0))) (.seq (.expr (.mth .append (.var 6) (.cons (.tup (.cons (.var 7) (.cons (.var 8) .nil))) .nil))) .skip) .skip) .skip)) .skip)) (.seq (.ret (.tup (.cons (.var 1) (.cons (.blt true .tuple (.cons (.var 3) .nil)) (.cons (.blt true .tuple (.cons (.var 6) .nil)) (.cons (.bin true .Add (.val (.int 1)) (.call 7 (.cons (.var 0) (.cons (.idx (.lst true (.cons (.val (.int 3)) (.cons (.val (.int 9)) .nil))) (.call 7 (.cons (.var 0) (.cons (.val (.int 2)) .nil)))) .nil)))) .nil)))))) .skip))))))
def c__law_house_v2 : Def := ⟨1, 9, k__law_house_v2, true, false⟩
def k__law_moves : K := (.seq (.par [2, 3] (.cons (.blt true .len (.cons (.idx (.var 1) (.val (.int 0))) .nil)) (.cons (.lst false .nil) .nil))) (.seq (.for_ (.one 4) .rng (.cons (.ite (.cmp .Gt (.var 2) (.val (.int 1))) (.call 7 (.cons (.var 0) (.cons (.val (.int 11)) .nil))) (.val (.int 0))) .nil) (.seq (.set 5 (.call 7 (.cons (.var 0) (.cons (.var 2) .nil)))) (.seq (.set 6 (.bin true .Mod (.bin true .Add (.bin true .Add (.var 5) (.val (.int 1))) (.call 7 (.cons (.var 0) (.cons (.bin true .Sub (.var 2) (.val (.int 1))) .nil)))) (.var 2))) (.seq (.expr (.mth .append (.var 3) (.cons (.tup (.cons (.var 5) (.cons (.var 6) .nil))) .nil))) (.seq (.ife (.cmp .Eq (.call 7 (.cons (.var 0) (.cons (.val (.int 5)) .nil))) (.val (.int 0))) (.seq (.put (.var 3) (.neg (.val (.int 1))) (.tup (.cons (.idx (.idx (.var 3) (.val (.int 0))) (.val (.int 1))) (.cons (.idx (.idx (.var 3) (.val (.int 0))) (.val (.int 0))) .nil)))) .skip) .skip) .skip))))) (.seq (.ret (.var 3)) .skip)))
def c__law_moves : Def := ⟨2, 7, k__law_moves, true, false⟩
def k__law_is_row : K := (.seq (.ife (.or (.not (.blt true .isi (.cons (.var 2) (.cons (.bty "list") .nil)))) (.not (.blt true .all (.cons (.lc true (.one 3) .seq (.cons (.var 2) .nil) .no (.call 9 (.cons (.var 3) (.cons (.val (.int 0)) (.cons (.var 1) .nil))))) .nil)))) (.seq (.ret (.val (.bl false))) .skip) .skip) (.seq (.for_ (.many [4, 5]) .seq (.cons (.var 0) .nil) (.seq (.ife (.or (.cmp .NotIn (.var 4) (.var 2)) (.cmp .NotIn (.var 5) (.slc true (.var 2) (.mth .index (.var 2) (.cons (.var 4) .nil)) .no))) (.seq (.ret (.val (.bl false))) .skip) .skip) .skip)) (.seq (.ret (.val (.bl true))) .skip)))
def c__law_is_row : Def := ⟨3, 6, k__law_is_row, false, false⟩
def k__law_turned : K := (.seq (.par [3, 4] (.cons (.blt true .list (.cons (.var 2) .nil)) (.cons (.call 7 (.cons (.var 0) (.cons (.val (.int 7)) .nil))) .nil))) (.seq (.par [5, 6] (.cons (.call 7 (.cons (.var 0) (.cons (.bin true .Add (.blt true .len (.cons (.var 3) .nil)) (.val (.int 1))) .nil))) (.cons (.call 7 (.cons (.var 0) (.cons (.bin true .Add (.blt true .len (.cons (.var 3) .nil)) (.val (.int 1))) .nil))) .nil))) (.seq (.ife (.cmp .Eq (.var 4) (.val (.int 0))) (.seq (.ret (.bin true .Add (.slc true (.var 3) .no (.var 5)) (.slc true (.var 3) (.bin true .Add (.var 5) (.val (.int 1))) .no))) .skip) .skip) (.seq (.ife (.cmp .Eq (.var 4) (.val (.int 1))) (.seq (.ret (.bin true .Add (.bin true .Add (.slc true (.var 3) .no (.var 5)) (.lst true (.cons (.bin true .Sub (.call 7 (.cons (.var 0) (.cons (.bin true .Add (.var 1) (.val (.int 2))) .nil))) (.blt true .int (.cons (.cmp .Eq (.call 7 (.cons (.var 0) (.cons (.val (.int 6)) .nil))) (.val (.int 0))) .nil))) .nil))) (.slc true (.var 3) (.var 5) .no))) .skip) .skip) (.seq (.ife (.cmp .Eq (.var 4) (.val (.int 2))) (.seq (.ret (.bin true .Add (.bin true .Add (.slc true (.var 3) .no (.var 5)) (.lst true (.cons (.call 10 (.cons (.var 0) .nil)) .nil))) (.slc true (.var 3) (.bin true .Add (.var 5) (.val (.int 1))) .no))) .skip) .skip) (.seq (.ife (.cmp .Eq (.var 4) (.val (.int 3))) (.seq (.ret (.bin true .Add (.slc true (.var 3) (.var 5) .no) (.slc true (.var 3) .no (.var 5)))) .skip) .skip) (.seq (.ife (.cmp .Eq (.var 4) (.val (.int 4))) (.seq (.ret (.bin true .Add (.slc true (.var 3) .no (.var 5)) (.slc true (.var 3) (.var 6) .no))) .skip) .skip) (.seq (.ret (.ite (.cmp .Eq (.var 4) (.val (.int 5))) (.rev true (.var 3)) (.blt true .tuple (.cons (.var 3) .nil)))) .skip))))))))
def c__law_turned : Def := ⟨3, 7, k__law_turned, false, false⟩
def k_law_v21 : K := (.seq (.for_ (.one 1) .rng (.cons (.blt true .max2 (.cons (.val (.int 1)) (.cons (.blt true .min2 (.cons (.blt true .len (.cons (.var 0) .nil)) (.cons (.val (.int 8)) .nil))) .nil))) .nil) (.seq (.set 2 (.call 6 (.cons (.call 5 (.cons (.var 0) (.cons (.var 1) .nil))) .nil))) (.seq (.set 3 (.call 211 (.cons (.var 2) .nil))) (.seq (.set 4 (.bin true .Sub (.blt true .len (.cons (.idx (.var 3) (.val (.int 0))) .nil)) (.val (.int 1)))) (.seq (.for_ (.one 5) .rng (.cons (.val (.int 3)) .nil) (.seq (.par [6, 7] (.cons (.call 250 (.cons (.var 2) (.cons (.var 3) .nil))) (.cons (.call 134 (.cons (.var 2) (.cons (.lrng true (.bin true .Add (.var 4) (.val (.int 1)))) .nil))) .nil))) (.seq (.set 8 (.lst false (.cons (.var 7) (.cons (.bin true .Add (.var 7) (.var 7)) (.cons (.bin true .Add (.var 7) (.rev true (.var 7))) (.cons (.bin true .Add (.var 7) (.slc true (.var 7) .no (.val (.int 1)))) (.cons (.bin true .Add (.slc true (.var 7) (.val (.int 1)) .no) (.bin true .Mult (.slc true (.var 7) .no (.val (.int 1))) (.val (.int 2)))) (.cons (.lst true .nil) .nil)))))))) (.seq (.expr (.mth .append (.var 8) (.cons (.lc true (.one 9) .rng (.cons (.call 7 (.cons (.var 2) (.cons (.val (.int 9)) .nil))) .nil) .no (.call 7 (.cons (.var 2) (.cons (.bin true .Add (.var 4) (.val (.int 1))) .nil)))) .nil))) (.seq (.for_ (.one 10) .seq (.cons (.blt true .list (.cons (.var 8) .nil)) .nil) (.seq (.set 11 (.call 261 (.cons (.var 2) (.cons (.var 4) (.cons (.var 10) .nil))))) (.seq (.set 8 (.bin true .Add (.var 8) (.lst true (.cons (.var 11) (.cons (.call 261 (.cons (.var 2) (.cons (.var 4) (.cons (.blt true .list (.cons (.var 11) .nil)) .nil)))) .nil))))) .skip))) (.seq (.for_ (.one 12) .seq (.cons (.bin true .Add (.var 8) (.lst true (.cons (.call 10 (.cons (.var 2) .nil)) (.cons (.val .non) (.cons (.dct true [(.inl 0)] (.cons (.var 7) .nil)) (.cons (.blt true .tuple (.cons (.bin true .Add (.var 7) (.var 7)) .nil)) (.cons (.bin true .Mult (.lst true (.cons (.val (.bl true)) .nil)) (.val (.int 4))) (.cons (.lst true (.cons (.bin true .Add (.var 4) (.val (.int 1))) .nil)) (.cons (.lst true (.cons (.neg (.val (.int 1))) .nil)) .nil))))))))) .nil) (.seq (.par [13, 14] (.cons (.blt true .repr (.cons (.tup (.cons (.var 3) (.cons (.var 6) (.cons (.var 12) .nil)))) .nil)) (.cons (.blt true .repr (.cons (.call 251 (.cons (.var 6) (.cons (.var 4) (.cons (.var 12) .nil)))) .nil)) .nil))) (.seq (.ife (.or (.cmp .NotEq (.blt true .repr (.cons (.call 260 (.cons (.var 3) (.cons (.var 6) (.cons (.var 12) .nil)))) .nil)) (.var 14)) (.cmp .NotEq (.blt true .repr (.cons (.tup (.cons (.var 3) (.cons (.var 6) (.cons (.var 12) .nil)))) .nil)) (.var 13))) (.seq (.ret (.val (.bl false))) .skip) .skip) .skip))) .skip)))))) .skip))))) (.seq (.ret (.val (.bl true))) .skip))
def c_law_v21 : Def := ⟨1, 15, k_law_v21, false, false⟩
def k_room_lots : K := (.seq (.set 1 (.lst true (.cons (.tup .nil) .nil))) (.seq (.for_ (.one 2) .seq (.cons (.var 0) .nil) (.seq (.set 1 (.bin true .Add (.var 1) (.lc true (.one 3) .seq (.cons (.var 1) .nil) .no (.bin true .Add (.var 3) (.tup (.cons (.var 2) .nil)))))) .skip)) (.seq (.ret (.lc true (.many [4, 3]) .seq (.cons (.blt true .sorted (.cons (.lc true (.one 3) .seq (.cons (.var 1) .nil) .no (.tup (.cons (.blt true .len (.cons (.var 3) .nil)) (.cons (.var 3) .nil)))) .nil)) .nil) .no (.var 3))) .skip)))
def c_room_lots : Def := ⟨1, 5, k_room_lots, false, false⟩
def k_is_ring_v2 : K := (.seq (.ife (.or (.not (.blt true .isi (.cons (.var 2) (.cons (.bty "tuple") .nil)))) (.not (.cmp2 .LtE .LtE (.val (.int 2)) (.blt true .len (.cons (.var 2) .nil)) (.glo "MOST_IN_RING" (.int 5))))) (.seq (.ret (.val (.bl false))) .skip) .skip) (.seq (.ife (.or (.not (.blt true .all (.cons (.lc true (.one 3) .seq (.cons (.var 2) .nil) .no (.call 25 (.cons (.var 0) (.cons (.var 3) .nil)))) .nil))) (.cmp .NotEq (.blt true .lens (.cons (.var 2) .nil)) (.blt true .len (.cons (.var 2) .nil)))) (.seq (.ret (.val (.bl false))) .skip) .skip) (.seq (.ret (.blt true .all (.cons (.lc true (.one 4) .zpn (.cons (.var 2) (.cons (.bin true .Add (.slc true (.var 2) (.val (.int 1)) .no) (.slc true (.var 2) .no (.val (.int 1)))) .nil)) .no (.cmp .In (.var 4) (.var 1))) .nil))) .skip)))
def c_is_ring_v2 : Def := ⟨3, 5, k_is_ring_v2, false, false⟩
def k_fewest_in : K := (.seq (.for_ (.one 2) .seq (.cons (.call 124 (.cons (.lrng true (.blt true .len (.cons (.idx (.var 0) (.val (.int 0))) .nil))) .nil)) .nil) (.seq (.ife (.blt true .all (.cons (.lc true (.one 4) .seq (.cons (.var 1) .nil) .no (.blt true .any (.cons (.lc true (.one 3) .seq (.cons (.var 4) .nil) .no (.cmp .In (.var 3) (.var 2))) .nil))) .nil)) (.seq (.ret (.blt true .len (.cons (.var 2) .nil))) .skip) .skip) .skip)) (.seq (.ret (.blt true .len (.cons (.idx (.var 0) (.val (.int 0))) .nil))) .skip))
def c_fewest_in : Def := ⟨2, 5, k_fewest_in, false, false⟩
def k_are_rings_v2 : K := (.seq (.expr (.call 248 (.cons (.var 0) (.cons (.var 1) .nil)))) (.seq (.ife (.not (.call 0 (.cons (.var 2) .nil))) (.seq (.rais "NoNumber" (.val (.str "no whole number"))) .skip) .skip) (.seq (.ife (.or (.not (.blt true .isi (.cons (.var 3) (.cons (.bty "list") .nil)))) (.or (.cmp .Gt (.blt true .len (.cons (.var 3) .nil)) (.glo "MOST_RINGS" (.int 30))) (.not (.blt true .all (.cons (.lc true (.one 4) .seq (.cons (.var 3) .nil) .no (.call 263 (.cons (.var 0) (.cons (.var 1) (.cons (.var 4) .nil))))) .nil))))) (.seq (.ret (.val (.bl false))) .skip) .skip) (.seq (.ret (.cmp .GtE (.call 132 (.cons (.var 0) (.cons (.var 3) .nil))) (.var 2))) .skip))))
def c_are_rings_v2 : Def := ⟨4, 5, k_are_rings_v2, false, false⟩
def k__law_lots : K := (.seq (.set 1 (.lst true (.cons (.tup .nil) .nil))) (.seq (.for_ (.one 2) .seq (.cons (.var 0) .nil) (.seq (.set 1 (.bin true .Add (.var 1) (.lc true (.one 3) .seq (.cons (.var 1) .nil) .no (.bin true .Add (.var 3) (.tup (.cons (.var 2) .nil)))))) .skip)) (.seq (.ret (.lc true (.many [4, 3]) .seq (.cons (.blt true .sorted (.cons (.lc true (.one 3) .seq (.cons (.var 1) .nil) .no (.tup (.cons (.blt true .len (.cons (.var 3) .nil)) (.cons (.var 3) .nil)))) .nil)) .nil) .no (.var 3))) .skip)))
def c__law_lots : Def := ⟨1, 5, k__law_lots, false, false⟩
def k__law_is_ring : K := (.seq (.ife (.or (.not (.blt true .isi (.cons (.var 1) (.cons (.bty "tuple") .nil)))) (.or (.not (.cmp2 .LtE .LtE (.val (.int 2)) (.blt true .len (.cons (.var 1) .nil)) (.val (.int 5)))) (.not (.blt true .all (.cons (.lc true (.one 2) .seq (.cons (.var 1) .nil) .no (.call 8 (.cons (.var 2) .nil))) .nil))))) (.seq (.ret (.val (.bl false))) .skip) .skip) (.seq (.ife (.cmp .Lt (.blt true .lens (.cons (.var 1) .nil)) (.blt true .len (.cons (.var 1) .nil))) (.seq (.ret (.val (.bl false))) .skip) .skip) (.seq (.ret (.cmp .Eq (.lc true (.one 3) .rng (.cons (.blt true .len (.cons (.var 1) .nil)) .nil) (.cmp .NotIn (.tup (.cons (.idx (.var 1) (.bin true .Sub (.var 3) (.val (.int 1)))) (.cons (.idx (.var 1) (.var 3)) .nil))) (.var 0)) (.var 3)) (.lst true .nil))) .skip)))
def c__law_is_ring : Def := ⟨2, 4, k__law_is_ring, false, false⟩
def k__law_wanted : K := (.seq (.for_ (.one 2) .seq (.cons (.call 252 (.cons (.lrng true (.blt true .len (.cons (.idx (.var 0) (.val (.int 0))) .nil))) .nil)) .nil) (.seq (.ife (.cmp .Eq (.lc true (.one 3) .seq (.cons (.var 1) .nil) (.cmp .Eq (.lc true (.one 4) .seq (.cons (.var 3) .nil) (.cmp .In (.var 4) (.var 2)) (.var 4)) (.lst true .nil)) (.var 3)) (.lst true .nil)) (.seq (.ret (.blt true .len (.cons (.var 2) .nil))) .skip) .skip) .skip)) (.seq (.ret (.val (.int 99))) .skip))
def c__law_wanted : Def := ⟨2, 5, k__law_wanted, false, false⟩
def k__law_are_rings : K := (.seq (.ret (.and (.blt true .isi (.cons (.var 1) (.cons (.bty "list") .nil))) (.and (.cmp .LtE (.blt true .len (.cons (.var 1) .nil)) (.val (.int 30))) (.blt true .all (.cons (.lc true (.one 2) .seq (.cons (.var 1) .nil) .no (.call 255 (.cons (.var 0) (.cons (.var 2) .nil)))) .nil))))) .skip)
def c__law_are_rings : Def := ⟨2, 3, k__law_are_rings, false, false⟩
def k__law_told_v7 : K := (.seq (.tryW (.seq (.ret (.call 264 (.cons (.var 0) (.cons (.var 1) (.cons (.var 2) (.cons (.var 3) .nil)))))) .skip) "RimeError" 4 32) .skip)
def c__law_told_v7 : Def := ⟨4, 5, k__law_told_v7, false, false⟩
def k__law_drawn_v2 : K := (.seq (.set 2 (.lst false (.cons (.idx (.idx (.var 1) (.call 7 (.cons (.var 0) (.cons (.blt true .len (.cons (.var 1) .nil)) .nil)))) (.val (.int 0))) .nil))) (.seq (.for_ (.one 3) .rng (.cons (.val (.int 6)) .nil) (.seq (.set 4 (.lc true (.many [5, 6]) .seq (.cons (.var 1) .nil) (.cmp .Eq (.var 5) (.idx (.var 2) (.neg (.val (.int 1))))) (.var 6))) (.seq (.ife (.cmp .Eq (.var 4) (.lst true .nil)) (.seq (.ret (.blt true .tuple (.cons (.var 2) .nil))) .skip) .skip) (.seq (.set 7 (.idx (.var 4) (.call 7 (.cons (.var 0) (.cons (.blt true .len (.cons (.var 4) .nil)) .nil))))) (.seq (.ife (.cmp .In (.var 7) (.var 2)) (.seq (.ret (.blt true .tuple (.cons (.slc true (.var 2) (.mth .index (.var 2) (.cons (.var 7) .nil)) .no) .nil))) .skip) .skip) (.seq (.expr (.mth .append (.var 2) (.cons (.var 7) .nil))) .skip)))))) (.seq (.ret (.blt true .tuple (.cons (.var 2) .nil))) .skip)))
def c__law_drawn_v2 : Def := ⟨2, 8, k__law_drawn_v2, true, false⟩
def k__law_lists : K := (.seq (.set 2 (.ite (.cmp .NotEq (.var 1) (.lst true .nil)) (.lc true (.one 3) .rng (.cons (.call 7 (.cons (.var 0) (.cons (.val (.int 5)) .nil))) .nil) .no (.call 266 (.cons (.var 0) (.cons (.var 1) .nil)))) (.lst true .nil))) (.seq (.set 2 (.lc true (.one 4) .seq (.cons (.var 2) .nil) (.call 255 (.cons (.var 1) (.cons (.var 4) .nil))) (.var 4))) (.seq (.set 5 (.call 7 (.cons (.var 0) (.cons (.bin true .Add (.blt true .len (.cons (.var 2) .nil)) (.val (.int 1))) .nil)))) (.seq (.set 6 (.lst true (.cons (.var 2) (.cons (.lst true .nil) (.cons (.blt true .tuple (.cons (.var 2) .nil)) (.cons (.dct true [(.inl 0)] (.cons (.var 2) .nil)) (.cons (.val .non) (.cons (.call 10 (.cons (.var 0) .nil)) (.cons (.slc true (.bin true .Mult (.var 2) (.val (.int 31))) .no (.val (.int 30))) (.cons (.slc true (.bin true .Mult (.var 2) (.val (.int 31))) .no (.val (.int 31))) .nil)))))))))) (.seq (.set 4 (.idx (.bin true .Add (.var 2) (.lst true (.cons (.tup (.cons (.val (.int 0)) (.cons (.val (.int 1)) .nil))) .nil))) (.val (.int 0)))) (.seq (.set 7 (.lst true (.cons (.bin true .Add (.slc true (.var 4) (.val (.int 1)) .no) (.slc true (.var 4) .no (.val (.int 1)))) (.cons (.rev true (.var 4)) (.cons (.bin true .Add (.var 4) (.slc true (.var 4) .no (.val (.int 1)))) (.cons (.slc true (.var 4) .no (.val (.int 1))) (.cons (.tup .nil) (.cons (.blt true .list (.cons (.var 4) .nil)) (.cons (.val .non) (.cons (.call 11 (.cons (.var 0) (.cons (.var 4) .nil))) .nil)))))))))) (.seq (.for_ (.one 8) .seq (.cons (.bin true .Add (.var 7) (.lst true (.cons (.call 10 (.cons (.var 0) .nil)) (.cons (.call 11 (.cons (.var 0) (.cons (.call 11 (.cons (.var 0) (.cons (.var 4) .nil))) .nil))) .nil)))) .nil) (.seq (.set 6 (.bin true .Add (.var 6) (.lst true (.cons (.bin true .Add (.bin true .Add (.slc true (.var 2) .no (.var 5)) (.lst true (.cons (.var 8) .nil))) (.slc true (.var 2) (.var 5) .no)) (.cons (.lst true (.cons (.var 8) .nil)) .nil))))) .skip)) (.seq (.ret (.var 6)) .skip))))))))
def c__law_lists : Def := ⟨2, 9, k__law_lists, false, false⟩
def k_law_v22 : K := (.seq (.for_ (.one 1) .rng (.cons (.blt true .max2 (.cons (.val (.int 1)) (.cons (.blt true .min2 (.cons (.blt true .len (.cons (.var 0) .nil)) (.cons (.val (.int 6)) .nil))) .nil))) .nil) (.seq (.set 2 (.call 6 (.cons (.call 5 (.cons (.var 0) (.cons (.var 1) .nil))) .nil))) (.seq (.set 3 (.call 211 (.cons (.var 2) .nil))) (.seq (.for_ (.one 4) .rng (.cons (.val (.int 3)) .nil) (.seq (.set 5 (.call 250 (.cons (.var 2) (.cons (.var 3) .nil)))) (.seq (.for_ (.one 6) .seq (.cons (.call 267 (.cons (.var 2) (.cons (.var 5) .nil))) .nil) (.seq (.par [7, 8] (.cons (.call 257 (.cons (.var 5) (.cons (.var 6) .nil))) (.cons (.blt true .repr (.cons (.tup (.cons (.var 3) (.cons (.var 5) (.cons (.var 6) .nil)))) .nil)) .nil))) (.seq (.set 9 (.ite (.var 7) (.call 256 (.cons (.var 3) (.cons (.var 6) .nil))) (.val (.int 1)))) (.seq (.set 10 (.bin true .Add (.var 9) (.idx (.lst true (.cons (.val (.int 0)) (.cons (.val (.int 1)) (.cons (.neg (.val (.int 1))) (.cons (.bin true .Pow (.val (.int 10)) (.val (.int 20))) (.cons (.neg (.bin true .Pow (.val (.int 10)) (.val (.int 20)))) .nil)))))) (.call 7 (.cons (.var 2) (.cons (.val (.int 5)) .nil)))))) (.seq (.ife (.cmp .NotEq (.blt true .repr (.cons (.call 265 (.cons (.var 3) (.cons (.var 5) (.cons (.var 10) (.cons (.var 6) .nil))))) .nil)) (.blt true .repr (.cons (.and (.var 7) (.cmp .GtE (.var 9) (.var 10))) .nil))) (.seq (.ret (.val (.bl false))) .skip) .skip) (.seq (.ife (.cmp .NotEq (.blt true .repr (.cons (.tup (.cons (.var 3) (.cons (.var 5) (.cons (.var 6) .nil)))) .nil)) (.var 8)) (.seq (.ret (.val (.bl false))) .skip) .skip) .skip)))))) (.seq (.for_ (.one 11) .seq (.cons (.tup (.cons (.val (.bl true)) (.cons (.val .non) (.cons (.val (.str "1")) (.cons (.tup (.cons (.val (.int 1)) .nil)) (.cons (.lst true (.cons (.val (.int 1)) .nil)) .nil)))))) .nil) (.seq (.ife (.cmp .NotEq (.call 265 (.cons (.var 3) (.cons (.var 5) (.cons (.var 11) (.cons (.lst true .nil) .nil))))) (.val (.str "number"))) (.seq (.ret (.val (.bl false))) .skip) .skip) .skip)) .skip)))) .skip)))) (.seq (.ret (.val (.bl true))) .skip))
def c_law_v22 : Def := ⟨1, 12, k_law_v22, false, false⟩
def tbl0 : List (Nat × Def) := [(0, c_is_whole), (1, c_is_within), (18, c_is_hour), (2, c_is_kind), (3, c_are_apart), (4, c_is_house), (19, c_check_house), (20, c_is_out), (21, c_outs_fit), (22, c_are_outs), (23, c_check_outs), (24, c_check_hour), (25, c_is_room), (26, c_cold_by), (27, c_cold_at), (5, c__law_cell_at), (6, c__law_pot), (7, c__law_take), (8, c__law_whole), (9, c__law_within), (10, c__law_odd), (11, c__law_bent), (12, c__law_kind_of), (13, c__law_house), (28, c__law_outs), (29, c__law_far), (30, c__law_is_hour), (31, c__law_are_outs), (32, c__law_word), (33, c__law_cold), (34, c__law_told), (35, c__law_due), (36, c__law_things), (37, c_law_v2), (247, c_is_move_v2), (248, c_check_moves_v2), (260, c_is_row_v2), (134, c__law_mixed), (211, c__law_house_v2), (250, c__law_moves)]
def tbl1 : List (Nat × Def) := [(251, c__law_is_row), (261, c__law_turned), (262, c_law_v21), (124, c_room_lots), (263, c_is_ring_v2), (132, c_fewest_in), (264, c_are_rings_v2), (252, c__law_lots), (255, c__law_is_ring), (256, c__law_wanted), (257, c__law_are_rings), (265, c__law_told_v7), (266, c__law_drawn_v2), (267, c__law_lists), (268, c_law_v22)]
def DEFS : Nat → Option Def := fun f => List.lookup f (tbl0 ++ tbl1)
abbrev i_is_whole : Nat := 0
theorem D_is_whole : DEFS 0 = some c_is_whole := rfl
abbrev i_is_within : Nat := 1
theorem D_is_within : DEFS 1 = some c_is_within := rfl
abbrev i_is_kind : Nat := 2
theorem D_is_kind : DEFS 2 = some c_is_kind := rfl
abbrev i_are_apart : Nat := 3
theorem D_are_apart : DEFS 3 = some c_are_apart := rfl
abbrev i_is_house : Nat := 4
theorem D_is_house : DEFS 4 = some c_is_house := rfl
abbrev i_check_house : Nat := 19
theorem D_check_house : DEFS 19 = some c_check_house := rfl
abbrev i_is_room : Nat := 25
theorem D_is_room : DEFS 25 = some c_is_room := rfl
abbrev i__law_cell_at : Nat := 5
theorem D__law_cell_at : DEFS 5 = some c__law_cell_at := rfl
abbrev i__law_pot : Nat := 6
theorem D__law_pot : DEFS 6 = some c__law_pot := rfl
abbrev i__law_take : Nat := 7
theorem D__law_take : DEFS 7 = some c__law_take := rfl
abbrev i__law_whole : Nat := 8
theorem D__law_whole : DEFS 8 = some c__law_whole := rfl
abbrev i__law_odd : Nat := 10
theorem D__law_odd : DEFS 10 = some c__law_odd := rfl
abbrev i__law_bent : Nat := 11
theorem D__law_bent : DEFS 11 = some c__law_bent := rfl
abbrev i__law_word : Nat := 32
theorem D__law_word : DEFS 32 = some c__law_word := rfl
abbrev i_is_move_v2 : Nat := 247
theorem D_is_move_v2 : DEFS 247 = some c_is_move_v2 := rfl
abbrev i_check_moves_v2 : Nat := 248
theorem D_check_moves_v2 : DEFS 248 = some c_check_moves_v2 := rfl
abbrev i__law_house_v2 : Nat := 211
theorem D__law_house_v2 : DEFS 211 = some c__law_house_v2 := rfl
abbrev i__law_moves : Nat := 250
theorem D__law_moves : DEFS 250 = some c__law_moves := rfl
abbrev i_room_lots : Nat := 124
theorem D_room_lots : DEFS 124 = some c_room_lots := rfl
abbrev i_is_ring_v2 : Nat := 263
theorem D_is_ring_v2 : DEFS 263 = some c_is_ring_v2 := rfl
abbrev i_fewest_in : Nat := 132
theorem D_fewest_in : DEFS 132 = some c_fewest_in := rfl
abbrev i_are_rings_v2 : Nat := 264
theorem D_are_rings_v2 : DEFS 264 = some c_are_rings_v2 := rfl
abbrev i__law_lots : Nat := 252
theorem D__law_lots : DEFS 252 = some c__law_lots := rfl
abbrev i__law_is_ring : Nat := 255
theorem D__law_is_ring : DEFS 255 = some c__law_is_ring := rfl
abbrev i__law_wanted : Nat := 256
theorem D__law_wanted : DEFS 256 = some c__law_wanted := rfl
abbrev i__law_are_rings : Nat := 257
theorem D__law_are_rings : DEFS 257 = some c__law_are_rings := rfl
abbrev i__law_told_v7 : Nat := 265
theorem D__law_told_v7 : DEFS 265 = some c__law_told_v7 := rfl
abbrev i__law_drawn_v2 : Nat := 266
theorem D__law_drawn_v2 : DEFS 266 = some c__law_drawn_v2 := rfl
abbrev i__law_lists : Nat := 267
theorem D__law_lists : DEFS 267 = some c__law_lists := rfl
abbrev i_law_v22 : Nat := 268
theorem D_law_v22 : DEFS 268 = some c_law_v22 := rfl
end MP

namespace MPL
open PySem PySem.Spec PyProof.Rows L2 MP
def fd_is_whole : Fd := ⟨["thing"], ["thing"], dd_is_whole, c_is_whole⟩
def fd_is_within : Fd := ⟨["thing", "low", "high"], ["thing", "low", "high"], dd_is_within, c_is_within⟩
def fd_is_kind : Fd := ⟨["thing", "rates", "rate", "k"], ["thing"], dd_is_kind, c_is_kind⟩
def fd_are_apart : Fd := ⟨["many", "thing", "one", "kind", "k"], ["many", "thing"], dd_are_apart, c_are_apart⟩
def fd_is_house : Fd := ⟨["thing", "rooms", "kinds", "apart", "hold", "cold", "one"], ["thing"], dd_is_house, c_is_house⟩
def fd_check_house : Fd := ⟨["house"], ["house"], dd_check_house, c_check_house⟩
def fd_is_room : Fd := ⟨["house", "thing"], ["house", "thing"], dd_is_room, c_is_room⟩
def fd_is_move : Fd := ⟨["house", "thing", "one"], ["house", "thing"], dd_is_move, c_is_move_v2⟩
def fd_check_moves : Fd := ⟨["house", "moves", "one"], ["house", "moves"], dd_check_moves, c_check_moves_v2⟩
def fd_room_lots : Fd := ⟨["rooms", "found", "room", "lot", "many"], ["rooms"], dd_room_lots, c_room_lots⟩
def fd_is_ring : Fd := ⟨["house", "moves", "thing", "one", "pair"], ["house", "moves", "thing"], dd_is_ring, c_is_ring_v2⟩
def fd_fewest_in : Fd := ⟨["house", "rings", "lot", "room", "ring"], ["house", "rings"], dd_fewest_in, c_fewest_in⟩
def fd_are_rings : Fd := ⟨["house", "moves", "many", "thing", "one"], ["house", "moves", "many", "thing"], dd_are_rings, c_are_rings_v2⟩
def fd__law_cell_at : Fd := ⟨["_law_script", "_law_k"], ["_law_script", "_law_k"], dd__law_cell_at, c__law_cell_at⟩
def fd__law_pot : Fd := ⟨["_law_cell", "_law_number", "_law_j", "_law_more"], ["_law_cell"], dd__law_pot, c__law_pot⟩
def fd__law_take : Fd := ⟨["_law_pot_here", "_law_far", "_law_found"], ["_law_pot_here", "_law_far"], dd__law_take, c__law_take⟩
def fd__law_whole : Fd := ⟨["_law_thing"], ["_law_thing"], dd__law_whole, c__law_whole⟩
def fd__law_odd : Fd := ⟨["_law_pot_here", "_law_some"], ["_law_pot_here"], dd__law_odd, c__law_odd⟩
def fd__law_bent : Fd := ⟨["_law_pot_here", "_law_thing", "_law_way", "_law_at"], ["_law_pot_here", "_law_thing"], dd__law_bent, c__law_bent⟩
def fd__law_house : Fd := ⟨["_law_pot_here", "_law_rooms", "_law_turn", "_law_kinds", "_law_rates", "_law_cold", "_law_apart", "_law_one", "_law_other"], ["_law_pot_here"], dd__law_house, c__law_house_v2⟩
def fd__law_word : Fd := ⟨["_law_e", "_law_some", "_law_words"], ["_law_e"], dd__law_word, c__law_word⟩
def fd__law_moves : Fd := ⟨["_law_pot_here", "_law_house_here", "_law_rooms", "_law_found", "_law_turn", "_law_one", "_law_other"], ["_law_pot_here", "_law_house_here"], dd__law_moves, c__law_moves⟩
def fd__law_lots : Fd := ⟨["_law_rooms", "_law_found", "_law_room", "_law_lot", "_law_many"], ["_law_rooms"], dd__law_lots, c__law_lots⟩
def fd__law_is_ring : Fd := ⟨["_law_moves_here", "_law_thing", "_law_room", "_law_k"], ["_law_moves_here", "_law_thing"], dd__law_is_ring, c__law_is_ring⟩
def fd__law_wanted : Fd := ⟨["_law_house_here", "_law_rings", "_law_lot", "_law_ring", "_law_room"], ["_law_house_here", "_law_rings"], dd__law_wanted, c__law_wanted⟩
def fd__law_are_rings : Fd := ⟨["_law_moves_here", "_law_thing", "_law_one"], ["_law_moves_here", "_law_thing"], dd__law_are_rings, c__law_are_rings⟩
def fd__law_told : Fd := ⟨["_law_house_here", "_law_moves_here", "_law_many", "_law_thing", "_law_e"], ["_law_house_here", "_law_moves_here", "_law_many", "_law_thing"], dd__law_told, c__law_told_v7⟩
def fd__law_drawn : Fd := ⟨["_law_pot_here", "_law_moves_here", "_law_walk", "_law_turn", "_law_some", "_law_begin", "_law_end", "_law_one"], ["_law_pot_here", "_law_moves_here"], dd__law_drawn, c__law_drawn_v2⟩
def fd__law_lists : Fd := ⟨["_law_pot_here", "_law_moves_here", "_law_rings", "_law_turn", "_law_ring", "_law_at", "_law_found", "_law_odds", "_law_odd_here"], ["_law_pot_here", "_law_moves_here"], dd__law_lists, c__law_lists⟩
def fd_law : Fd := ⟨["_law_script", "_law_k", "_law_pot_here", "_law_house_here", "_law_turn", "_law_moves_here", "_law_thing", "_law_good", "_law_kept", "_law_wants", "_law_many", "_law_bad"], ["_law_script"], dd_law, c_law_v22⟩
theorem ok_is_whole : fd_is_whole.ok T = true := by decide +kernel
theorem ok_is_within : fd_is_within.ok T = true := by decide +kernel
theorem ok_is_kind : fd_is_kind.ok T = true := by decide +kernel
theorem ok_are_apart : fd_are_apart.ok T = true := by decide +kernel
theorem ok_is_house : fd_is_house.ok T = true := by decide +kernel
theorem ok_check_house : fd_check_house.ok T = true := by decide +kernel
theorem ok_is_room : fd_is_room.ok T = true := by decide +kernel
theorem ok_is_move : fd_is_move.ok T = true := by decide +kernel
theorem ok_check_moves : fd_check_moves.ok T = true := by decide +kernel
theorem ok_room_lots : fd_room_lots.ok T = true := by decide +kernel
theorem ok_is_ring : fd_is_ring.ok T = true := by decide +kernel
theorem ok_fewest_in : fd_fewest_in.ok T = true := by decide +kernel
theorem ok_are_rings : fd_are_rings.ok T = true := by decide +kernel
theorem ok__law_cell_at : fd__law_cell_at.ok T = true := by decide +kernel
theorem ok__law_pot : fd__law_pot.ok T = true := by decide +kernel
theorem ok__law_take : fd__law_take.ok T = true := by decide +kernel
theorem ok__law_whole : fd__law_whole.ok T = true := by decide +kernel
theorem ok__law_odd : fd__law_odd.ok T = true := by decide +kernel
theorem ok__law_bent : fd__law_bent.ok T = true := by decide +kernel
theorem ok__law_house : fd__law_house.ok T = true := by decide +kernel
theorem ok__law_word : fd__law_word.ok T.asHot = true := by decide +kernel
theorem ok__law_moves : fd__law_moves.ok T = true := by decide +kernel
theorem ok__law_lots : fd__law_lots.ok T = true := by decide +kernel
theorem ok__law_is_ring : fd__law_is_ring.ok T = true := by decide +kernel
theorem ok__law_wanted : fd__law_wanted.ok T = true := by decide +kernel
theorem ok__law_are_rings : fd__law_are_rings.ok T = true := by decide +kernel
theorem ok__law_told : fd__law_told.ok T = true := by decide +kernel
theorem ok__law_drawn : fd__law_drawn.ok T = true := by decide +kernel
theorem ok__law_lists : fd__law_lists.ok T = true := by decide +kernel
theorem ok_law : fd_law.ok T = true := by decide +kernel
section
variable {K : PySem.W.Frag} (c : He.SaysD fa fn K)
include c
theorem pf_is_whole : Pf T K DEFS (0, "is_whole", 1) := by
  obtain ⟨fd, F⟩ := c.def_ 0 (d := dd_is_whole) rfl
  exact ⟨fd_is_whole, fd, ok_is_whole, rfl, rfl, F, FunD.bindsN (ps := fd_is_whole.ps) F fun _ _ _ _ _ _ us hl => match us, hl with | [_], _ => rfl⟩
theorem pf_is_within : Pf T K DEFS (1, "is_within", 3) := by
  obtain ⟨fd, F⟩ := c.def_ 1 (d := dd_is_within) rfl
  exact ⟨fd_is_within, fd, ok_is_within, rfl, rfl, F, FunD.bindsN (ps := fd_is_within.ps) F fun _ _ _ _ _ _ us hl => match us, hl with | [_, _, _], _ => rfl⟩
theorem pf_is_kind : Pf T K DEFS (2, "is_kind", 1) := by
  obtain ⟨fd, F⟩ := c.def_ 2 (d := dd_is_kind) rfl
  exact ⟨fd_is_kind, fd, ok_is_kind, rfl, rfl, F, FunD.bindsN (ps := fd_is_kind.ps) F fun _ _ _ _ _ _ us hl => match us, hl with | [_], _ => rfl⟩
theorem pf_are_apart : Pf T K DEFS (3, "are_apart", 2) := by
  obtain ⟨fd, F⟩ := c.def_ 3 (d := dd_are_apart) rfl
  exact ⟨fd_are_apart, fd, ok_are_apart, rfl, rfl, F, FunD.bindsN (ps := fd_are_apart.ps) F fun _ _ _ _ _ _ us hl => match us, hl with | [_, _], _ => rfl⟩
theorem pf_is_house : Pf T K DEFS (4, "is_house", 1) := by
  obtain ⟨fd, F⟩ := c.def_ 4 (d := dd_is_house) rfl
  exact ⟨fd_is_house, fd, ok_is_house, rfl, rfl, F, FunD.bindsN (ps := fd_is_house.ps) F fun _ _ _ _ _ _ us hl => match us, hl with | [_], _ => rfl⟩
theorem pf_check_house : Pf T K DEFS (19, "check_house", 1) := by
  obtain ⟨fd, F⟩ := c.def_ 5 (d := dd_check_house) rfl
  exact ⟨fd_check_house, fd, ok_check_house, rfl, rfl, F, FunD.bindsN (ps := fd_check_house.ps) F fun _ _ _ _ _ _ us hl => match us, hl with | [_], _ => rfl⟩
theorem pf_is_room : Pf T K DEFS (25, "is_room", 2) := by
  obtain ⟨fd, F⟩ := c.def_ 6 (d := dd_is_room) rfl
  exact ⟨fd_is_room, fd, ok_is_room, rfl, rfl, F, FunD.bindsN (ps := fd_is_room.ps) F fun _ _ _ _ _ _ us hl => match us, hl with | [_, _], _ => rfl⟩
theorem pf_is_move : Pf T K DEFS (247, "is_move", 2) := by
  obtain ⟨fd, F⟩ := c.def_ 7 (d := dd_is_move) rfl
  exact ⟨fd_is_move, fd, ok_is_move, rfl, rfl, F, FunD.bindsN (ps := fd_is_move.ps) F fun _ _ _ _ _ _ us hl => match us, hl with | [_, _], _ => rfl⟩
theorem pf_check_moves : Pf T K DEFS (248, "check_moves", 2) := by
  obtain ⟨fd, F⟩ := c.def_ 8 (d := dd_check_moves) rfl
  exact ⟨fd_check_moves, fd, ok_check_moves, rfl, rfl, F, FunD.bindsN (ps := fd_check_moves.ps) F fun _ _ _ _ _ _ us hl => match us, hl with | [_, _], _ => rfl⟩
theorem pf_room_lots : Pf T K DEFS (124, "room_lots", 1) := by
  obtain ⟨fd, F⟩ := c.def_ 9 (d := dd_room_lots) rfl
  exact ⟨fd_room_lots, fd, ok_room_lots, rfl, rfl, F, FunD.bindsN (ps := fd_room_lots.ps) F fun _ _ _ _ _ _ us hl => match us, hl with | [_], _ => rfl⟩
theorem pf_is_ring : Pf T K DEFS (263, "is_ring", 3) := by
  obtain ⟨fd, F⟩ := c.def_ 10 (d := dd_is_ring) rfl
  exact ⟨fd_is_ring, fd, ok_is_ring, rfl, rfl, F, FunD.bindsN (ps := fd_is_ring.ps) F fun _ _ _ _ _ _ us hl => match us, hl with | [_, _, _], _ => rfl⟩
theorem pf_fewest_in : Pf T K DEFS (132, "fewest_in", 2) := by
  obtain ⟨fd, F⟩ := c.def_ 11 (d := dd_fewest_in) rfl
  exact ⟨fd_fewest_in, fd, ok_fewest_in, rfl, rfl, F, FunD.bindsN (ps := fd_fewest_in.ps) F fun _ _ _ _ _ _ us hl => match us, hl with | [_, _], _ => rfl⟩
theorem pf_are_rings : Pf T K DEFS (264, "are_rings", 4) := by
  obtain ⟨fd, F⟩ := c.def_ 12 (d := dd_are_rings) rfl
  exact ⟨fd_are_rings, fd, ok_are_rings, rfl, rfl, F, FunD.bindsN (ps := fd_are_rings.ps) F fun _ _ _ _ _ _ us hl => match us, hl with | [_, _, _, _], _ => rfl⟩
theorem pf__law_cell_at : Pf T K DEFS (5, "_law_cell_at", 2) := by
  obtain ⟨fd, F⟩ := c.def_ 13 (d := dd__law_cell_at) rfl
  exact ⟨fd__law_cell_at, fd, ok__law_cell_at, rfl, rfl, F, FunD.bindsN (ps := fd__law_cell_at.ps) F fun _ _ _ _ _ _ us hl => match us, hl with | [_, _], _ => rfl⟩
theorem pf__law_pot : Pf T K DEFS (6, "_law_pot", 1) := by
  obtain ⟨fd, F⟩ := c.def_ 14 (d := dd__law_pot) rfl
  exact ⟨fd__law_pot, fd, ok__law_pot, rfl, rfl, F, FunD.bindsN (ps := fd__law_pot.ps) F fun _ _ _ _ _ _ us hl => match us, hl with | [_], _ => rfl⟩
theorem pf__law_take : Pf T K DEFS (7, "_law_take", 2) := by
  obtain ⟨fd, F⟩ := c.def_ 15 (d := dd__law_take) rfl
  exact ⟨fd__law_take, fd, ok__law_take, rfl, rfl, F, FunD.bindsN (ps := fd__law_take.ps) F fun _ _ _ _ _ _ us hl => match us, hl with | [_, _], _ => rfl⟩
theorem pf__law_whole : Pf T K DEFS (8, "_law_whole", 1) := by
  obtain ⟨fd, F⟩ := c.def_ 16 (d := dd__law_whole) rfl
  exact ⟨fd__law_whole, fd, ok__law_whole, rfl, rfl, F, FunD.bindsN (ps := fd__law_whole.ps) F fun _ _ _ _ _ _ us hl => match us, hl with | [_], _ => rfl⟩
theorem pf__law_odd : Pf T K DEFS (10, "_law_odd", 1) := by
  obtain ⟨fd, F⟩ := c.def_ 17 (d := dd__law_odd) rfl
  exact ⟨fd__law_odd, fd, ok__law_odd, rfl, rfl, F, FunD.bindsN (ps := fd__law_odd.ps) F fun _ _ _ _ _ _ us hl => match us, hl with | [_], _ => rfl⟩
theorem pf__law_bent : Pf T K DEFS (11, "_law_bent", 2) := by
  obtain ⟨fd, F⟩ := c.def_ 18 (d := dd__law_bent) rfl
  exact ⟨fd__law_bent, fd, ok__law_bent, rfl, rfl, F, FunD.bindsN (ps := fd__law_bent.ps) F fun _ _ _ _ _ _ us hl => match us, hl with | [_, _], _ => rfl⟩
theorem pf__law_house : Pf T K DEFS (211, "_law_house", 1) := by
  obtain ⟨fd, F⟩ := c.def_ 19 (d := dd__law_house) rfl
  exact ⟨fd__law_house, fd, ok__law_house, rfl, rfl, F, FunD.bindsN (ps := fd__law_house.ps) F fun _ _ _ _ _ _ us hl => match us, hl with | [_], _ => rfl⟩
theorem pf__law_word : Pf T.asHot K DEFS (32, "_law_word", 1) := by
  obtain ⟨fd, F⟩ := c.def_ 20 (d := dd__law_word) rfl
  exact ⟨fd__law_word, fd, ok__law_word, rfl, rfl, F, FunD.bindsN (ps := fd__law_word.ps) F fun _ _ _ _ _ _ us hl => match us, hl with | [_], _ => rfl⟩
theorem pf__law_moves : Pf T K DEFS (250, "_law_moves", 2) := by
  obtain ⟨fd, F⟩ := c.def_ 21 (d := dd__law_moves) rfl
  exact ⟨fd__law_moves, fd, ok__law_moves, rfl, rfl, F, FunD.bindsN (ps := fd__law_moves.ps) F fun _ _ _ _ _ _ us hl => match us, hl with | [_, _], _ => rfl⟩
theorem pf__law_lots : Pf T K DEFS (252, "_law_lots", 1) := by
  obtain ⟨fd, F⟩ := c.def_ 22 (d := dd__law_lots) rfl
  exact ⟨fd__law_lots, fd, ok__law_lots, rfl, rfl, F, FunD.bindsN (ps := fd__law_lots.ps) F fun _ _ _ _ _ _ us hl => match us, hl with | [_], _ => rfl⟩
theorem pf__law_is_ring : Pf T K DEFS (255, "_law_is_ring", 2) := by
  obtain ⟨fd, F⟩ := c.def_ 23 (d := dd__law_is_ring) rfl
  exact ⟨fd__law_is_ring, fd, ok__law_is_ring, rfl, rfl, F, FunD.bindsN (ps := fd__law_is_ring.ps) F fun _ _ _ _ _ _ us hl => match us, hl with | [_, _], _ => rfl⟩
theorem pf__law_wanted : Pf T K DEFS (256, "_law_wanted", 2) := by
  obtain ⟨fd, F⟩ := c.def_ 24 (d := dd__law_wanted) rfl
  exact ⟨fd__law_wanted, fd, ok__law_wanted, rfl, rfl, F, FunD.bindsN (ps := fd__law_wanted.ps) F fun _ _ _ _ _ _ us hl => match us, hl with | [_, _], _ => rfl⟩
theorem pf__law_are_rings : Pf T K DEFS (257, "_law_are_rings", 2) := by
  obtain ⟨fd, F⟩ := c.def_ 25 (d := dd__law_are_rings) rfl
  exact ⟨fd__law_are_rings, fd, ok__law_are_rings, rfl, rfl, F, FunD.bindsN (ps := fd__law_are_rings.ps) F fun _ _ _ _ _ _ us hl => match us, hl with | [_, _], _ => rfl⟩
theorem pf__law_told : Pf T K DEFS (265, "_law_told", 4) := by
  obtain ⟨fd, F⟩ := c.def_ 26 (d := dd__law_told) rfl
  exact ⟨fd__law_told, fd, ok__law_told, rfl, rfl, F, FunD.bindsN (ps := fd__law_told.ps) F fun _ _ _ _ _ _ us hl => match us, hl with | [_, _, _, _], _ => rfl⟩
theorem pf__law_drawn : Pf T K DEFS (266, "_law_drawn", 2) := by
  obtain ⟨fd, F⟩ := c.def_ 27 (d := dd__law_drawn) rfl
  exact ⟨fd__law_drawn, fd, ok__law_drawn, rfl, rfl, F, FunD.bindsN (ps := fd__law_drawn.ps) F fun _ _ _ _ _ _ us hl => match us, hl with | [_, _], _ => rfl⟩
theorem pf__law_lists : Pf T K DEFS (267, "_law_lists", 2) := by
  obtain ⟨fd, F⟩ := c.def_ 28 (d := dd__law_lists) rfl
  exact ⟨fd__law_lists, fd, ok__law_lists, rfl, rfl, F, FunD.bindsN (ps := fd__law_lists.ps) F fun _ _ _ _ _ _ us hl => match us, hl with | [_, _], _ => rfl⟩
theorem pf_law : Pf T K DEFS (268, "law", 1) := by
  obtain ⟨fd, F⟩ := c.def_ 29 (d := dd_law) rfl
  exact ⟨fd_law, fd, ok_law, rfl, rfl, F, FunD.bindsN (ps := fd_law.ps) F fun _ _ _ _ _ _ us hl => match us, hl with | [_], _ => rfl⟩
end
theorem prog {K : PySem.W.Frag} {h : Heap} {mg : Str → Option Value} (X : K.In h) (G : h.Ns mainGlobals mg) (c : SaysX fa fn T.tries K) : Prog ⟨K, mg, fun _ => 0, [], none⟩ T DEFS :=
  prog_of X G c.d (fun _ => c.x) rfl (List.forall_mem_cons.mpr ⟨pf_is_whole c.d, List.forall_mem_cons.mpr ⟨pf_is_within c.d, List.forall_mem_cons.mpr ⟨pf_is_kind c.d, List.forall_mem_cons.mpr ⟨pf_are_apart c.d, List.forall_mem_cons.mpr ⟨pf_is_house c.d, List.forall_mem_cons.mpr ⟨pf_check_house c.d, List.forall_mem_cons.mpr ⟨pf_is_room c.d, List.forall_mem_cons.mpr ⟨pf_is_move c.d, List.forall_mem_cons.mpr ⟨pf_check_moves c.d, List.forall_mem_cons.mpr ⟨pf_room_lots c.d, List.forall_mem_cons.mpr ⟨pf_is_ring c.d, List.forall_mem_cons.mpr ⟨pf_fewest_in c.d, List.forall_mem_cons.mpr ⟨pf_are_rings c.d, List.forall_mem_cons.mpr ⟨pf__law_cell_at c.d, List.forall_mem_cons.mpr ⟨pf__law_pot c.d, List.forall_mem_cons.mpr ⟨pf__law_take c.d, List.forall_mem_cons.mpr ⟨pf__law_whole c.d, List.forall_mem_cons.mpr ⟨pf__law_odd c.d, List.forall_mem_cons.mpr ⟨pf__law_bent c.d, List.forall_mem_cons.mpr ⟨pf__law_house c.d, List.forall_mem_cons.mpr ⟨pf__law_moves c.d, List.forall_mem_cons.mpr ⟨pf__law_lots c.d, List.forall_mem_cons.mpr ⟨pf__law_is_ring c.d, List.forall_mem_cons.mpr ⟨pf__law_wanted c.d, List.forall_mem_cons.mpr ⟨pf__law_are_rings c.d, List.forall_mem_cons.mpr ⟨pf__law_told c.d, List.forall_mem_cons.mpr ⟨pf__law_drawn c.d, List.forall_mem_cons.mpr ⟨pf__law_lists c.d, List.forall_mem_cons.mpr ⟨pf_law c.d, fun _ h => nomatch h⟩⟩⟩⟩⟩⟩⟩⟩⟩⟩⟩⟩⟩⟩⟩⟩⟩⟩⟩⟩⟩⟩⟩⟩⟩⟩⟩⟩⟩) (List.forall_mem_cons.mpr ⟨⟨rfl, pf__law_word c.d⟩, fun _ h => nomatch h⟩) (fun _ h => nomatch h) (fun _ h => nomatch h)
end MPL

namespace MP
open PySem L2
theorem eqI {α : Type} {a b : α} (h : a = b) : a = b := h
section
variable {α β : Type} {Γ : Cal} {W : Nat} {r : Env} {S : Store} {q : Bool}
@[simp] theorem bind_ok (a : α) (S : Store) (f : α → Store → Res β) : (Res.ok a S).bind f = f a S := eqI rfl
@[simp] theorem bind_bad (f : α → Store → Res β) : (Res.bad).bind f = .bad := eqI rfl
@[simp] theorem bind_exc (c : Str) (S : Store) (f : α → Store → Res β) : (Res.exc c S).bind f = .exc c S := eqI rfl
def thenS (r : Res Fl) (f : Env → Store → Res Fl) : Res Fl := r.bind fun g S => match g with
    | .nx r => f r S
    | .rt d => .ok (.rt d) S
    | .ct r => .ok (.ct r) S
@[simp] theorem then_nx (r : Env) (S : Store) (f : Env → Store → Res Fl) : thenS (.ok (.nx r) S) f = f r S := eqI rfl
@[simp] theorem then_rt (d : D) (S : Store) (f : Env → Store → Res Fl) : thenS (.ok (.rt d) S) f = .ok (.rt d) S := eqI rfl
@[simp] theorem then_ct (r : Env) (S : Store) (f : Env → Store → Res Fl) : thenS (.ok (.ct r) S) f = .ok (.ct r) S := eqI rfl
def kA (g : Store → Res D) (h : D → D → Store → Res D) (x : D) (S : Store) : Res D := (g S).bind (h x)
@[simp] theorem kA_eq (g : Store → Res D) (h : D → D → Store → Res D) (x : D) (S : Store) : kA g h x S = (g S).bind (h x) := eqI rfl
def kT (f g : Store → Res α) (x : D) (S : Store) : Res α := truD x S f g
@[simp] theorem kT_t (f g : Store → Res α) (S : Store) : kT f g (.bl true) S = f S := eqI rfl
@[simp] theorem kT_f (f g : Store → Res α) (S : Store) : kT f g (.bl false) S = g S := eqI rfl
@[simp] theorem kT_n (f g : Store → Res α) (b : Bool) (S : Store) : kT f g (.bl (!b)) S = kT g f (.bl b) S := by cases b <;> rfl
def retB (b : Bool) (S : Store) : Res D := .ok (.bl b) S
@[simp] theorem retB_eq (b : Bool) (S : Store) : retB b S = .ok (.bl b) S := eqI rfl
def kC2 (g : Store → Res D) (op : CmpOp) (y : D) (S : Store) : Res D := (g S).bind (cmpD op y)
@[simp] theorem kC2_eq (g : Store → Res D) (op : CmpOp) (y : D) (S : Store) : kC2 g op y S = (g S).bind (cmpD op y) := eqI rfl
def kC (op op' : CmpOp) (g : Store → Res D) (x y : D) (S : Store) : Res D := (cmpD op x y S).bind (kT (kC2 g op' y) (retB false))
@[simp] theorem kC_eq (op op' : CmpOp) (g : Store → Res D) (x y : D) (S : Store) : kC op op' g x y S = (cmpD op x y S).bind (kT (kC2 g op' y) (retB false)) := eqI rfl
def negD (x : D) (S : Store) : Res D := match x with
    | .int i => .ok (.int (-i)) S
    | _ => .bad
@[simp] theorem negD_int (i : Int) (S : Store) : negD (.int i) S = .ok (.int (-i)) S := eqI rfl
def notD (x : D) (S : Store) : Res D := match x with
    | .bl b => .ok (.bl (!b)) S
    | _ => .bad
@[simp] theorem notD_bl (b : Bool) (S : Store) : notD (.bl b) S = .ok (.bl (!b)) S := eqI rfl
def tupR (ds : List D) (S : Store) : Res D := .ok (.tup ds) S
@[simp] theorem tupR_eq (ds : List D) (S : Store) : tupR ds S = .ok (.tup ds) S := eqI rfl
def kM (m : Bm) (g : Store → Res (List D)) (x : D) (S : Store) : Res D := if m.ty == kindD x S then (g S).bind (mthD m x) else .bad
def kS2 (q : Bool) (g : Store → Res (Option Int)) (x : D) (l : Option Int) (S : Store) : Res D := (g S).bind (slcD q x l)
@[simp] theorem kS2_eq (q : Bool) (g : Store → Res (Option Int)) (x : D) (l : Option Int) (S : Store) : kS2 q g x l S = (g S).bind (slcD q x l) := eqI rfl
def kS1 (q : Bool) (f g : Store → Res (Option Int)) (x : D) (S : Store) : Res D := (f S).bind (kS2 q g x)
@[simp] theorem kS1_eq (q : Bool) (f g : Store → Res (Option Int)) (x : D) (S : Store) : kS1 q f g x S = (f S).bind (kS2 q g x) := eqI rfl
def consR (x : D) (xs : List D) (S : Store) : Res (List D) := .ok (x :: xs) S
@[simp] theorem consR_eq (x : D) (xs : List D) (S : Store) : consR x xs S = .ok (x :: xs) S := eqI rfl
def kCons (g : Store → Res (List D)) (x : D) (S : Store) : Res (List D) := (g S).bind (consR x)
@[simp] theorem kCons_eq (g : Store → Res (List D)) (x : D) (S : Store) : kCons g x S = (g S).bind (consR x) := eqI rfl
def boundR (d : D) (S : Store) : Res (Option Int) := match d with
    | .int i => .ok (some i) S
    | _ => .bad
@[simp] theorem boundR_int (i : Int) (S : Store) : boundR (.int i) S = .ok (some i) S := eqI rfl
def nxR (r : Env) (x : D) (S : Store) : Res Fl := .ok (.nx r) S
@[simp] theorem nxR_eq (r : Env) (x : D) (S : Store) : nxR r x S = .ok (.nx r) S := eqI rfl
def setR (r : Env) (i : Nat) (x : D) (S : Store) : Res Fl := .ok (.nx (r.set i (some x))) S
@[simp] theorem setR_eq (r : Env) (i : Nat) (x : D) (S : Store) : setR r i x S = .ok (.nx (r.set i (some x))) S := eqI rfl
def envR (o : Option Env) (S : Store) : Res Fl := match o with
    | some r' => .ok (.nx r') S
    | none => .bad
@[simp] theorem envR_some (r : Env) (S : Store) : envR (some r) S = .ok (.nx r) S := eqI rfl
def unpR (is : List Nat) (r : Env) (x : D) (S : Store) : Res Fl := envR ((Tg.many is).set x r) S
def parR (is : List Nat) (r : Env) (ds : List D) (S : Store) : Res Fl := envR (setAll is ds r) S
@[simp] theorem parR_eq (is : List Nat) (r : Env) (ds : List D) (S : Store) : parR is r ds S = envR (setAll is ds r) S := eqI rfl
@[simp] theorem unpR_tup (is : List Nat) (r : Env) (ds : List D) (S : Store) : unpR is r (.tup ds) S = if ds.length = is.length then envR (setAll is ds r) S else .bad := by
  unfold unpR Tg.set
  by_cases h : ds.length = is.length <;> simp [h] <;> rfl
@[simp] theorem setAll_nil (r : Env) : setAll [] [] r = some r := eqI rfl
@[simp] theorem setAll_cons (i : Nat) (is : List Nat) (d : D) (ds : List D) (r : Env) : setAll (i :: is) (d :: ds) r = setAll is ds (r.set i (some d)) := eqI rfl
def storR (r : Env) (o : Option Store) : Res Fl := match o with
    | some S' => .ok (.nx r) S'
    | none => .bad
@[simp] theorem storR_some (r : Env) (S : Store) : storR r (some S) = .ok (.nx r) S := eqI rfl
def kP2 (g : Store → Res D) (r : Env) (v x : D) (S : Store) : Res Fl := (g S).bind fun i S => storR r (putD S x i v)
def kP1 (f g : Store → Res D) (r : Env) (v : D) (S : Store) : Res Fl := (f S).bind (kP2 g r v)
@[simp] theorem kP1_eq (f g : Store → Res D) (r : Env) (v : D) (S : Store) : kP1 f g r v S = (f S).bind (kP2 g r v) := eqI rfl
def putR (r : Env) (v x i : D) (S : Store) : Res Fl := storR r (putD S x i v)
@[simp] theorem putR_eq (r : Env) (v x i : D) (S : Store) : putR r v x i S = storR r (putD S x i v) := eqI rfl
@[simp] theorem kP2_eq (g : Store → Res D) (r : Env) (v x : D) (S : Store) : kP2 g r v x S = (g S).bind (putR r v x) := eqI rfl
def rtR (x : D) (S : Store) : Res Fl := .ok (.rt x) S
@[simp] theorem rtR_eq (x : D) (S : Store) : rtR x S = .ok (.rt x) S := eqI rfl
@[simp] theorem noX_ok (a : α) : (Res.ok a S).noX = .ok a S := eqI rfl
@[simp] theorem ofO_some (a : α) (f : α → D) : ofO (some a) f S = .ok (f a) S := eqI rfl
def getR : Env → Nat → Store → Res D
  | some d :: _, 0, S => .ok d S
  | _ :: r, i + 1, S => getR r i S
  | _, _, _ => .bad
@[simp] theorem getR_0 (d : D) (r : Env) : getR (some d :: r) 0 S = .ok d S := eqI rfl
@[simp] theorem getR_s (d : Option D) (r : Env) (i : Nat) : getR (d :: r) (i + 1) S = getR r i S := by cases d <;> rfl
@[simp] theorem e_var (i : Nat) : evE Γ (.var i) r S = getR r i S := by
  simp only [evE]
  induction r generalizing i with
  | nil => simp [getR]
  | cons o r ih =>
    cases i with
    | zero => cases o <;> simp [getR]
    | succ i => rw [getR_s, ← ih]; simp
@[simp] theorem e_val (d : D) : evE Γ (.val d) r S = .ok d S := by simp only [evE]
@[simp] theorem e_glo (x : Str) (d : D) : evE Γ (.glo x d) r S = .ok d S := by simp only [evE]
@[simp] theorem e_bty (x : String) : evE Γ (.bty x) r S = .ok (.ty x) S := by simp only [evE]
@[simp] theorem e_bin (op : Operator) (a b : C) : evE Γ (.bin q op a b) r S = (evE Γ a r S).bind (kA (evE Γ b r) (binD q op)) := by simp only [evE] <;> rfl
@[simp] theorem e_neg (a : C) : evE Γ (.neg a) r S = (evE Γ a r S).bind negD := by simp only [evE] <;> rfl
@[simp] theorem e_not (a : C) : evE Γ (.not a) r S = (evE Γ a r S).bind notD := by simp only [evE] <;> rfl
@[simp] theorem e_and (a b : C) : evE Γ (.and a b) r S = (evE Γ a r S).bind (kT (evE Γ b r) (retB false)) := by simp only [evE] <;> rfl
@[simp] theorem e_or (a b : C) : evE Γ (.or a b) r S = (evE Γ a r S).bind (kT (retB true) (evE Γ b r)) := by simp only [evE] <;> rfl
@[simp] theorem e_cmp (op : CmpOp) (a b : C) : evE Γ (.cmp op a b) r S = (evE Γ a r S).bind (kA (evE Γ b r) (cmpD op)) := by simp only [evE] <;> rfl
@[simp] theorem e_cmp2 (op op' : CmpOp) (a b c : C) : evE Γ (.cmp2 op op' a b c) r S = (evE Γ a r S).bind (kA (evE Γ b r) (kC op op' (evE Γ c r))) := by simp only [evE] <;> rfl
@[simp] theorem e_ite (t a b : C) : evE Γ (.ite t a b) r S = (evE Γ t r S).bind (kT (evE Γ a r) (evE Γ b r)) := by simp only [evE] <;> rfl
@[simp] theorem e_tup (as : C) : evE Γ (.tup as) r S = (evA Γ as r S).bind tupR := by simp only [evE] <;> rfl
@[simp] theorem e_lst (as : C) : evE Γ (.lst q as) r S = (evA Γ as r S).bind (newL q) := by simp only [evE] <;> rfl
@[simp] theorem e_dct (ks : List Key) (as : C) : evE Γ (.dct q ks as) r S = (evA Γ as r S).bind (newD q ks) := by simp only [evE] <;> rfl
@[simp] theorem e_call (f : Nat) (as : C) : evE Γ (.call f as) r S = (evA Γ as r S).bind (Γ.call f) := by simp only [evE] <;> rfl
@[simp] theorem e_blt (f : Bf) (as : C) : evE Γ (.blt q f as) r S = (evA Γ as r S).bind (bltD q f) := by simp only [evE] <;> rfl
@[simp] theorem e_mth (m : Bm) (o as : C) : evE Γ (.mth m o as) r S = (evE Γ o r S).bind (kM m (evA Γ as r)) := by simp only [evE] <;> rfl
@[simp] theorem e_idx (a b : C) : evE Γ (.idx a b) r S = (evE Γ a r S).bind (kA (evE Γ b r) idxD) := by simp only [evE] <;> rfl
@[simp] theorem e_slc (a lo hi : C) : evE Γ (.slc q a lo hi) r S = (evE Γ a r S).bind (kS1 q (evB lo.isNo (evE Γ lo r)) (evB hi.isNo (evE Γ hi r))) := by simp only [evE] <;> rfl
@[simp] theorem e_rev (a : C) : evE Γ (.rev q a) r S = (evE Γ a r S).bind (revD q) := by simp only [evE] <;> rfl
@[simp] theorem e_no : evE Γ .no r S = .ok (.bl true) S := by simp only [evE]
@[simp] theorem a_nil : evA Γ .nil r S = .ok [] S := by simp only [evA]
@[simp] theorem a_cons (a as : C) : evA Γ (.cons a as) r S = (evE Γ a r S).bind (kCons (evA Γ as r)) := by simp only [evA] <;> rfl
@[simp] theorem b_no (f : Store → Res D) : evB true f S = .ok none S := eqI rfl
@[simp] theorem b_so (f : Store → Res D) : evB false f S = (f S).bind boundR := eqI rfl
@[simp] theorem isNo_no : C.no.isNo = true := eqI rfl
@[simp] theorem isNo_var (i : Nat) : (C.var i).isNo = false := eqI rfl
@[simp] theorem isNo_val (i : D) : (C.val i).isNo = false := eqI rfl
@[simp] theorem isNo_bin (op : Operator) (a b : C) : (C.bin q op a b).isNo = false := eqI rfl
@[simp] theorem isNo_neg (a : C) : (C.neg a).isNo = false := eqI rfl
@[simp] theorem isNo_blt (f : Bf) (a : C) : (C.blt q f a).isNo = false := eqI rfl
@[simp] theorem isNo_idx (f a : C) : (C.idx f a).isNo = false := eqI rfl
@[simp] theorem isNo_call (f : Nat) (a : C) : (C.call f a).isNo = false := eqI rfl
@[simp] theorem isNo_mth (f : Bm) (o a : C) : (C.mth f o a).isNo = false := eqI rfl
@[simp] theorem e_lrng (a : C) : evE Γ (.lrng q a) r S = (evE Γ a r S).bind (lrngD q) := by simp only [evE] <;> rfl
@[simp] theorem pb_len (x : D) : bltD q .len [x] S = ofO (lenD S x) (fun n => .int n) S := eqI rfl
@[simp] theorem pb_isi (x c : D) : bltD q .isi [x, c] S = ofO (isiD S x c) D.bl S := eqI rfl
@[simp] theorem pb_all (x : D) : bltD q .all [x] S = ofO ((lstOf S x).bind blsOf) (fun bs => .bl (bs.all id)) S := eqI rfl
@[simp] theorem pb_any (x : D) : bltD q .any [x] S = ofO ((lstOf S x).bind blsOf) (fun bs => .bl (bs.any id)) S := eqI rfl
@[simp] theorem pb_sum (x : D) : bltD q .sum [x] S = ofO ((seqOf S x).bind intsOf) (fun ns => .int ns.sum) S := eqI rfl
@[simp] theorem pb_max2 (i j : Int) : bltD q .max2 [.int i, .int j] S = .ok (.int (if j > i then j else i)) S := eqI rfl
@[simp] theorem pb_min2 (i j : Int) : bltD q .min2 [.int i, .int j] S = .ok (.int (if j < i then j else i)) S := eqI rfl
theorem pb_list (x : D) : bltD q .list [x] S = match seqOf S x with
    | some xs => newL q xs S
    | none => match dictTOf S x with
      | some kvs => newL q (kvs.map fun kv => .tup (kv.1.map kD)) S
      | none => .bad := eqI rfl
theorem pb_sorted (x : D) : bltD q .sorted [x] S = match (seqOf S x).bind (sortD S) with
    | some ys => newL q ys S
    | none => match (dictOf S x).bind keyIntsOf with
      | some ns => if ns.length < 64 then newL q ((ns.mergeSort (fun a b => decide (a ≤ b))).map D.int) S else .bad
      | none => .bad := eqI rfl
@[simp] theorem pb_dict (x : D) : bltD q .dict [x] S = dictD q x S := eqI rfl
@[simp] theorem pb_lens (x : D) : bltD q .lens [x] S = lensD x S := eqI rfl
@[simp] theorem pb_sset (x : D) : bltD q .sset [x] S = ssetD q x S := eqI rfl
@[simp] theorem pb_mind (x : D) : bltD q .mind [x] S = mindD x S := eqI rfl
@[simp] theorem pb_tuple (x : D) : bltD q .tuple [x] S = ofO (seqOf S x) D.tup S := eqI rfl
@[simp] theorem c_lt (i j : Int) : cmpD .Lt (.int i) (.int j) S = .ok (.bl (decide (i < j))) S := eqI rfl
@[simp] theorem c_le (i j : Int) : cmpD .LtE (.int i) (.int j) S = .ok (.bl (decide (i ≤ j))) S := eqI rfl
@[simp] theorem c_gt (i j : Int) : cmpD .Gt (.int i) (.int j) S = .ok (.bl (decide (j < i))) S := eqI rfl
@[simp] theorem c_ge (i j : Int) : cmpD .GtE (.int i) (.int j) S = .ok (.bl (decide (j ≤ i))) S := eqI rfl
@[simp] theorem c_eq (i j : Int) : cmpD .Eq (.int i) (.int j) S = .ok (.bl (decide (i = j))) S := by
  simp [cmpD, eqD, isFlat, eqF]; rfl
@[simp] theorem c_ne (i j : Int) : cmpD .NotEq (.int i) (.int j) S = .ok (.bl (decide (i ≠ j))) S := by
  simp [cmpD, eqD, isFlat, eqF]; rfl
@[simp] theorem c_sne (i j : Str) : cmpD .NotEq (.str i) (.str j) S = .ok (.bl (decide (i ≠ j))) S := by
  simp [cmpD, eqD, isFlat, eqF]; rfl
@[simp] theorem c_isn (a b : Bool) : cmpD .IsNot (.bl a) (.bl b) S = .ok (.bl (!decide (a = b))) S := eqI rfl
@[simp] theorem c_is (a b : Bool) : cmpD .Is (.bl a) (.bl b) S = .ok (.bl (decide (a = b))) S := eqI rfl
@[simp] theorem b_add (i j : Int) : binD q .Add (.int i) (.int j) S = .ok (.int (i + j)) S := eqI rfl
@[simp] theorem b_sub (i j : Int) : binD q .Sub (.int i) (.int j) S = .ok (.int (i - j)) S := eqI rfl
theorem b_mul {i j : Int} (h : mulOk i j = true) : binD q .Mult (.int i) (.int j) S = .ok (.int (i * j)) S := by simp [binD, mulD, h]
theorem b_mod {i j : Int} (h : 0 < j) : binD q .Mod (.int i) (.int j) S = .ok (.int (i % j)) S := by simp [binD, h]
theorem b_divW {i j : Int} (h : 0 < j) (h' : j < divTop) : binD q .FloorDiv (.int i) (.int j) S = .ok (.int (i / j)) S := by simp [binD, h, h']
theorem top_big : (1073741824 : Int) < divTop := by unfold divTop; decide +kernel
theorem b_addT {xs ys : List D} (h : xs.length + ys.length ≤ lim) : binD q .Add (.tup xs) (.tup ys) S = .ok (.tup (xs ++ ys)) S := by simp [binD, addD, h]
@[simp] theorem isi_eq (x : D) (T : String) : isiD S x (.ty T) = (tyD S x).bind fun t => isaT t T := eqI rfl
@[simp] theorem ty_non : tyD S .non = some "NoneType" := eqI rfl
@[simp] theorem ty_bl (b : Bool) : tyD S (.bl b) = some "bool" := eqI rfl
@[simp] theorem ty_int (b : Int) : tyD S (.int b) = some "int" := eqI rfl
@[simp] theorem ty_str (b : Str) : tyD S (.str b) = some "str" := eqI rfl
@[simp] theorem ty_tup (b : List D) : tyD S (.tup b) = some "tuple" := eqI rfl
@[simp] theorem isa_int (t : String) : isaT t "int" = some (t == "int" || t == "bool") := by simp [isaT]
@[simp] theorem isa_bool (t : String) : isaT t "bool" = some (t == "bool") := by simp [isaT]
@[simp] theorem isa_str (t : String) : isaT t "str" = some (t == "str") := by simp [isaT]
@[simp] theorem isa_tuple (t : String) : isaT t "tuple" = some (t == "tuple") := by simp [isaT]
@[simp] theorem isa_list (t : String) : isaT t "list" = some (t == "list") := by simp [isaT]
@[simp] theorem isa_dict (t : String) : isaT t "dict" = some (t == "dict") := by simp [isaT]
@[simp] theorem len_tup (xs : List D) : lenD S (.tup xs) = some xs.length := eqI rfl
@[simp] theorem ty_con (b : List D) : tyD S (.con b) = some "list" := eqI rfl
@[simp] theorem ty_cdic (ks : List Key) (b : List D) : tyD S (.cdic ks b) = some "dict" := eqI rfl
@[simp] theorem len_scr (xs : List D) : lenD S (.scr xs) = some xs.length := eqI rfl
@[simp] theorem len_con (xs : List D) : lenD S (.con xs) = some xs.length := eqI rfl
@[simp] theorem seq_tup (xs : List D) : seqOf S (.tup xs) = some xs := eqI rfl
@[simp] theorem seq_scr (xs : List D) : seqOf S (.scr xs) = some xs := eqI rfl
@[simp] theorem lst_con (xs : List D) : lstOf S (.con xs) = some xs := eqI rfl
@[simp] theorem lst_scr (xs : List D) : lstOf S (.scr xs) = some xs := eqI rfl
@[simp] theorem pl_con (xs : List D) : plOf S (.con xs) = some xs := eqI rfl
@[simp] theorem seq_con (xs : List D) : seqOf S (.con xs) = some xs := eqI rfl
theorem seq_ref {n : Nat} {xs : List D} (h : S[n]? = some (.lst xs)) : seqOf S (.ref n) = some xs := by simp [seqOf, h]
theorem lst_ref {n : Nat} {xs : List D} (h : S[n]? = some (.lst xs)) : lstOf S (.ref n) = some xs := by simp [lstOf, h]
theorem len_ref {n : Nat} {xs : List D} (h : S[n]? = some (.lst xs)) : lenD S (.ref n) = some xs.length := by simp [lenD, seqOf, h]
@[simp] theorem newL_t (xs : List D) : newL true xs S = .ok (.con xs) S := eqI rfl
@[simp] theorem newL_f (xs : List D) : newL false xs S = .ok (.ref S.length) (S ++ [.lst xs]) := eqI rfl
@[simp] theorem newD_t (ks : List Key) (xs : List D) : newD true ks xs S = .ok (.cdic ks xs) S := eqI rfl
@[simp] theorem newD_f (ks : List Key) (xs : List D) : newD false ks xs S = .ok (.ref S.length) (S ++ [.dic (ks.zip xs)]) := eqI rfl
@[simp] theorem idx_tup (xs : List D) (i : Int) : idxD (.tup xs) (.int i) S = ofO (atI xs i) id S := eqI rfl
@[simp] theorem idx_con (xs : List D) (i : Int) : idxD (.con xs) (.int i) S = ofO (atI xs i) id S := eqI rfl
@[simp] theorem idx_scr (xs : List D) (i : Int) : idxD (.scr xs) (.int i) S = ofO (atI xs i) id S := eqI rfl
@[simp] theorem slc_con (xs : List D) (l h : Option Int) : slcD q (.con xs) l h S = newL q (cut xs l h) S := eqI rfl
@[simp] theorem rev_con (xs : List D) : revD q (.con xs) S = newL q xs.reverse S := eqI rfl
theorem b_addC {xs ys : List D} (h : xs.length + ys.length ≤ lim) : binD q .Add (.con xs) (.con ys) S = newL q (xs ++ ys) S := by simp [binD, addD, h]
theorem b_mulC {xs : List D} {k : Int} (h : 0 ≤ k ∧ k ≤ 1000 ∧ xs.length ≤ 1000) : binD q .Mult (.con xs) (.int k) S = newL q (List.replicate k.toNat xs).flatten S := by simp [binD, mulD, h]
theorem idx_ref {n : Nat} {xs : List D} {i : Int} (h : S[n]? = some (.lst xs)) : idxD (.ref n) (.int i) S = ofO (atI xs i) id S := by simp [idxD, seqOf, h]
@[simp] theorem slc_tup (xs : List D) (l h : Option Int) : slcD q (.tup xs) l h S = .ok (.tup (cut xs l h)) S := eqI rfl
def fldR (c : Nat) (f : Str) (x : D) (S : Store) : Res D := ofO ((insOf S c x).bind fun fs => fs.lookup f) id S
@[simp] theorem e_fld (c : Nat) (o : C) (f : Str) : evE Γ (.fld c o f) r S = (evE Γ o r S).bind (fldR c f) := by simp only [evE] <;> rfl
def kOm (Γ : Cal) (c f : Nat) (m : Str) (g : Store → Res (List D)) (x : D) (S : Store) : Res D := match insOf S c x with
    | some fs => if fs.lookup m = none then (g S).bind fun ds S => Γ.call f (x :: ds) S else .bad
    | none => .bad
@[simp] theorem e_omth (c f : Nat) (m : Str) (o as : C) : evE Γ (.omth c f m o as) r S = (evE Γ o r S).bind (kOm Γ c f m (evA Γ as r)) := by simp only [evE] <;> rfl
def mkE (n : Nat) (v : D) (S : Store) : Res D := match v with
    | .non => .ok (.ref n) S
    | _ => .bad
@[simp] theorem mkE_non (n : Nat) : mkE n .non S = .ok (.ref n) S := eqI rfl
def kMk (Γ : Cal) (c f : Nat) (ds : List D) (S : Store) : Res D := (Γ.call f (.ref S.length :: ds) (S ++ [.ins c []])).bind (mkE S.length)
@[simp] theorem kMk_eq (c f : Nat) (ds : List D) : kMk Γ c f ds S = (Γ.call f (.ref S.length :: ds) (S ++ [.ins c []])).bind (mkE S.length) := eqI rfl
@[simp] theorem e_make (c f : Nat) (as : C) : evE Γ (.make c f as) r S = (evA Γ as r S).bind (kMk Γ c f) := by simp only [evE] <;> rfl
@[simp] theorem e_dctT : evE Γ (.dctT q) r S = newT q S := by simp only [evE]
@[simp] theorem newT_f : newT false S = .ok (.ref S.length) (S ++ [.dit []]) := eqI rfl
@[simp] theorem newT_t : newT true S = .ok (.cdit [] []) S := eqI rfl
@[simp] theorem newDk_t (kvs : List (Key × D)) : newDk true kvs S = .ok (.cdic (kvs.map (·.1)) (kvs.map (·.2))) S := eqI rfl
@[simp] theorem newDk_f (kvs : List (Key × D)) : newDk false kvs S = .ok (.ref S.length) (S ++ [.dic kvs]) := eqI rfl
@[simp] theorem isNo_fld (c : Nat) (o : C) (f : Str) : (C.fld c o f).isNo = false := eqI rfl
@[simp] theorem isNo_omth (c f : Nat) (m : Str) (o a : C) : (C.omth c f m o a).isNo = false := eqI rfl
def kSf2 (c : Nat) (f : Str) (r : Env) (v x : D) (S : Store) : Res Fl := storR r (setfD S c x f v)
@[simp] theorem kSf2_eq (c : Nat) (f : Str) (v x : D) : kSf2 c f r v x S = storR r (setfD S c x f v) := eqI rfl
def kSf (g : Store → Res D) (c : Nat) (f : Str) (r : Env) (v : D) (S : Store) : Res Fl := (g S).bind (kSf2 c f r v)
@[simp] theorem kSf_eq (g : Store → Res D) (c : Nat) (f : Str) (v : D) : kSf g c f r v S = (g S).bind (kSf2 c f r v) := eqI rfl
@[simp] theorem s_setf (c : Nat) (o v : C) (f : Str) : evS Γ W (.setf c o f v) r S = (evE Γ v r S).bind (kSf (evE Γ o r) c f r) := by simp only [evS] <;> rfl
@[simp] theorem s_skip : evS Γ W .skip r S = .ok (.nx r) S := by simp only [evS]
@[simp] theorem s_seq (a b : K) : evS Γ W (.seq a b) r S = thenS (evS Γ W a r S) (evS Γ W b) := by simp only [evS, thenS] <;> rfl
@[simp] theorem s_expr (c : C) : evS Γ W (.expr c) r S = (evE Γ c r S).bind (nxR r) := by simp only [evS] <;> rfl
@[simp] theorem s_set (i : Nat) (c : C) : evS Γ W (.set i c) r S = (evE Γ c r S).bind (setR r i) := by simp only [evS] <;> rfl
@[simp] theorem s_unp (is : List Nat) (c : C) : evS Γ W (.unp is c) r S = (evE Γ c r S).bind (unpR is r) := by simp only [evS] <;> rfl
@[simp] theorem s_par (is : List Nat) (as : C) : evS Γ W (.par is as) r S = (evA Γ as r S).bind (parR is r) := by simp only [evS] <;> rfl
@[simp] theorem s_put (o i v : C) : evS Γ W (.put o i v) r S = (evE Γ v r S).bind (kP1 (evE Γ o r) (evE Γ i r) r) := by simp only [evS] <;> rfl
@[simp] theorem s_ret (c : C) : evS Γ W (.ret c) r S = (evE Γ c r S).bind rtR := by simp only [evS] <;> rfl
@[simp] theorem s_retN : evS Γ W .retN r S = .ok (.rt .non) S := by simp only [evS]
@[simp] theorem s_ife (t : C) (a b : K) : evS Γ W (.ife t a b) r S = (evE Γ t r S).bind (kT (evS Γ W a r) (evS Γ W b r)) := by simp only [evS] <;> rfl
@[simp] theorem s_cont : evS Γ W .cont r S = .ok (.ct r) S := by simp only [evS]
@[simp] theorem s_dead : evS Γ W .dead r S = .bad := by simp only [evS]
@[simp] theorem ends_rt (d : D) : ends (.ok (.rt d) S) = .ok d S := eqI rfl
def excR (c : Str) (x : D) (S : Store) : Res Fl := .exc c S
@[simp] theorem excR_eq (c : Str) (x : D) : excR c x S = .exc c S := eqI rfl
@[simp] theorem s_rais (c : Str) (a : C) : evS Γ W (.rais c a) r S = (evE Γ a r S).bind (excR c) := by simp only [evS] <;> rfl
theorem s_try (b : K) (c : Str) (i f : Nat) : evS Γ W (.tryW b c i f) r S = tryR (evS Γ W b r S) c (fun x S => Γ.call f [.exn x] S) := by simp only [evS]
@[simp] theorem try_ok (a : Fl) (c : Str) (h : Str → Store → Res D) : tryR (.ok a S) c h = .ok a S := eqI rfl
theorem try_exc {x : Str} {h : Str → Store → Res D} {d : D} (hx : x ∈ excNames) (hh : h x S = .ok d S) (hp : pureD d = true) : tryR (.exc x S) "RimeError" h = .ok (.rt d) S := by
  simp [tryR, hx, hh, hotR, hp]
@[simp] theorem noX_exc (c : Str) : (Res.exc (α := α) c S).noX = .bad := eqI rfl
@[simp] theorem then_exc (c : Str) (S : Store) (f : Env → Store → Res Fl) : thenS (.exc c S) f = .exc c S := eqI rfl
@[simp] theorem ends_exc (c : Str) : ends (.exc c S) = .exc c S := eqI rfl
@[simp] theorem ends_nx : ends (.ok (.nx r) S) = .ok .non S := eqI rfl
noncomputable def forT (Γ : Cal) (W : Nat) (tg : Tg) (b : K) (v : D) (r : Env) (S : Store) : Res Fl :=
  match tg.set v r with
  | some r' => evS Γ W b r' S
  | none => .bad
noncomputable def lcT (Γ : Cal) (tg : Tg) (cond elt : C) (r : Env) (v : D) (S : Store) : Res (Option D) :=
  match tg.set v (wipeD r tg.slots) with
  | some r' => (condD (evE Γ cond r' S) (evE Γ elt r')).noX
  | none => .bad
def onSrc {α : Type} (o : Option Src) (f : Src → Res α) : Res α := match o with
  | some src => f src
  | none => .bad
@[simp] theorem onSrc_some {α : Type} (s : Src) (f : Src → Res α) : onSrc (some s) f = f s := eqI rfl
noncomputable def forRun (Γ : Cal) (W : Nat) (tg : Tg) (b : K) (r : Env) (S : Store) (src : Src) : Res Fl := forL src (forT Γ W tg b) (src.len S) 0 r S
noncomputable def kFor (Γ : Cal) (W : Nat) (tg : Tg) (it : It) (b : K) (r : Env) (ds : List D) (S : Store) : Res Fl := onSrc (srcOf it ds S) (forRun Γ W tg b r S)
@[simp] theorem kFor_eq (tg : Tg) (it : It) (b : K) (ds : List D) : kFor Γ W tg it b r ds S = onSrc (srcOf it ds S) (forRun Γ W tg b r S) := eqI rfl
@[simp] theorem s_for (tg : Tg) (it : It) (x : C) (b : K) : evS Γ W (.for_ tg it x b) r S = (evA Γ x r S).bind (kFor Γ W tg it b r) := by
  simp only [evS]
  cases evA Γ x r S with
  | ok ds S1 =>
    simp only [bind_ok, kFor]
    cases srcOf it ds S1 <;> rfl
  | exc c S1 => rfl
  | bad => rfl
noncomputable def lcRun (Γ : Cal) (q : Bool) (tg : Tg) (cond elt : C) (r : Env) (S : Store) (src : Src) : Res D := if src.len S ≤ lim then (lcL src (lcT Γ tg cond elt r) (src.len S) 0 [] S).bind (newL q) else .bad
noncomputable def kLc (Γ : Cal) (q : Bool) (tg : Tg) (it : It) (cond elt : C) (r : Env) (ds : List D) (S : Store) : Res D := onSrc (srcOf it ds S) (lcRun Γ q tg cond elt r S)
@[simp] theorem kLc_eq (tg : Tg) (it : It) (cond elt : C) (ds : List D) : kLc Γ q tg it cond elt r ds S = onSrc (srcOf it ds S) (lcRun Γ q tg cond elt r S) := eqI rfl
@[simp] theorem e_lc (tg : Tg) (it : It) (x cond elt : C) : evE Γ (.lc q tg it x cond elt) r S = (evA Γ x r S).bind (kLc Γ q tg it cond elt r) := by
  simp only [evE]
  cases evA Γ x r S with
  | ok ds S1 =>
    simp only [bind_ok, kLc]
    cases srcOf it ds S1 <;> rfl
  | exc c S1 => rfl
  | bad => rfl
@[simp] theorem forT_one (i : Nat) (b : K) (v : D) : forT Γ W (.one i) b v r S = evS Γ W b (r.set i (some v)) S := eqI rfl
@[simp] theorem lcT_one (i : Nat) (cond elt : C) (v : D) : lcT Γ (.one i) cond elt r v S = (condD (evE Γ cond (r.set i (some v)) S) (evE Γ elt (r.set i (some v)))).noX := by
  simp [lcT, Tg.set, Tg.slots, wipeD]
@[simp] theorem set_one (i : Nat) (x : D) : (Tg.one i).set x r = some (r.set i (some x)) := eqI rfl
@[simp] theorem slots_one (i : Nat) : (Tg.one i).slots = [i] := eqI rfl
@[simp] theorem slots_many (i : List Nat) : (Tg.many i).slots = i := eqI rfl
@[simp] theorem wipe_nil : wipeD r [] = r := eqI rfl
@[simp] theorem wipe_cons (v : Nat) (vs : List Nat) : wipeD r (v :: vs) = (wipeD r vs).set v none := eqI rfl
theorem cF_eq {n f : Nat} {ds : List D} {S : Store} {d : Def} (h : DEFS f = some d) (hl : ds.length = d.nps) (hz : d.fz = false) (hf : d.fl = false := by rfl) : callF DEFS WW (n + 1) f ds S = ends (evS ⟨callF DEFS WW n⟩ WW d.body (ds.map some ++ List.replicate (d.nsl - d.nps) none) S) := by
  simp only [callF, h, hz, hf, cutD, runD, hl, if_true]
  rfl
theorem cF_fz {n f : Nat} {ds : List D} {S : Store} {d : Def} (h : DEFS f = some d) (hl : ds.length = d.nps) (hz : d.fz = true) : callF DEFS WW (n + 1) f ds S = cutR S (ends (evS ⟨callF DEFS WW n⟩ WW d.body (ds.map some ++ List.replicate (d.nsl - d.nps) none) S)) := by
  simp only [callF, h, hz, cutD, runD, hl, if_true]
end
end MP

namespace MP
open PySem L2
theorem lcL_ind {src : Src} {body : D → Store → Res (Option D)} (Q : Nat → List D → Store → Prop) {n : Nat} (step : ∀ i acc S', i < n → Q i acc S' → ∃ x y S'', src.at i S' = some (some x) ∧ body x S' = .ok y S'' ∧ Q (i + 1) (acc ++ y.toList) S'')
    (stop : ∀ acc S', Q n acc S' → src.at n S' = some none) : ∀ (m i : Nat) acc S, i + m = n → Q i acc S → ∃ acc' S', lcL src body m i acc S = .ok acc' S' ∧ Q n acc' S' := by
  intro m
  induction m with
  | zero =>
    intro i acc S hi h
    obtain rfl : i = n := by omega
    exact ⟨acc, S, by simp only [lcL, stop acc S h], h⟩
  | succ m ih =>
    intro i acc S hi h
    obtain ⟨x, y, S'', h1, h2, h3⟩ := step i acc S (by omega) h
    obtain ⟨acc', S', h4, h5⟩ := ih (i + 1) _ S'' (by omega) h3
    refine ⟨acc', S', ?_, h5⟩
    simp only [lcL, h1, h2, bind_ok]
    cases y with
    | none => simpa using h4
    | some y => simpa using h4
theorem forL_ind {src : Src} {body : D → Env → Store → Res Fl} (Q : Nat → Env → Store → Prop) (R : D → Store → Prop) {n : Nat}
    (step : ∀ i r S', i < n → Q i r S' → ∃ x, src.at i S' = some (some x) ∧ ((∃ r' S'', (body x r S' = .ok (.nx r') S'' ∨ body x r S' = .ok (.ct r') S'') ∧ Q (i + 1) r' S'') ∨ ∃ d S'', body x r S' = .ok (.rt d) S'' ∧ R d S''))
    (stop : ∀ r S', Q n r S' → src.at n S' = some none) : ∀ (m i : Nat) r S, i + m = n → Q i r S → (∃ r' S', forL src body m i r S = .ok (.nx r') S' ∧ Q n r' S') ∨ ∃ d S', forL src body m i r S = .ok (.rt d) S' ∧ R d S' := by
  intro m
  induction m with
  | zero =>
    intro i r S hi h
    obtain rfl : i = n := by omega
    exact .inl ⟨r, S, by simp only [forL, stop r S h], h⟩
  | succ m ih =>
    intro i r S hi h
    obtain ⟨x, h1, h2⟩ := step i r S (by omega) h
    rcases h2 with ⟨r', S'', h2, h3⟩ | ⟨d, S'', h2, h3⟩
    · have h4 := ih (i + 1) r' S'' (by omega) h3
      have e : forL src body (m + 1) i r S = forL src body m (i + 1) r' S'' := by
        rcases h2 with h2 | h2 <;> simp only [forL, h1, h2, bind_ok]
      rw [e]
      exact h4
    · exact .inr ⟨d, S'', by simp only [forL, h1, h2, bind_ok], h3⟩
@[simp] theorem src_seqT (xs : List D) (S : Store) : srcOf .seq [.tup xs] S = some (.fix xs) := eqI rfl
@[simp] theorem src_seqC (xs : List D) (S : Store) : srcOf .seq [.con xs] S = some (.fix xs) := eqI rfl
@[simp] theorem src_seqS (xs : List D) (S : Store) : srcOf .seq [.scr xs] S = some (.fix xs) := eqI rfl
theorem src_rng1 {j : Int} {S : Store} (h0 : -big ≤ j) (h : j < big) : srcOf .rng [.int j] S = some (.rng 0 j.toNat) := by simp [srcOf, srcRng1, h0, h]
theorem src_rng2 {i j : Int} {S : Store} (h0 : -big ≤ i) (h : i < big) (h2 : -big ≤ j) (h3 : j < big) : srcOf .rng [.int i, .int j] S = some (.rng i (j - i).toNat) := rfl
@[simp] theorem len_fix (xs : List D) (S : Store) : (Src.fix xs).len S = xs.length := eqI rfl
@[simp] theorem len_rng (i : Int) (n : Nat) (S : Store) : (Src.rng i n).len S = n := eqI rfl
@[simp] theorem at_fix (xs : List D) (i : Nat) (S : Store) : (Src.fix xs).at i S = some xs[i]? := eqI rfl
@[simp] theorem at_rng (lo : Int) (n i : Nat) (S : Store) : (Src.rng lo n).at i S = some (if i < n then some (.int (lo + i)) else none) := eqI rfl
def someR (y : D) (S : Store) : Res (Option D) := .ok (some y) S
@[simp] theorem someR_eq (y : D) (S : Store) : someR y S = .ok (some y) S := eqI rfl
def noneR (S : Store) : Res (Option D) := .ok none S
@[simp] theorem noneR_eq (S : Store) : noneR S = .ok none S := eqI rfl
def kE (e : Store → Res D) (S : Store) : Res (Option D) := (e S).bind someR
@[simp] theorem kE_eq (e : Store → Res D) (S : Store) : kE e S = (e S).bind someR := eqI rfl
@[simp] theorem cond_eq (t : Res D) (e : Store → Res D) : condD t e = t.bind (kT (kE e) noneR) := eqI rfl
@[simp] theorem lst_last {S : Store} {xs : List D} : lstOf (S ++ [.lst xs]) (.ref S.length) = some xs := by simp [lstOf]
@[simp] theorem bls_map {α : Type} (l : List α) (g : α → Bool) : blsOf (l.map fun x => .bl (g x)) = some (l.map g) := by
  induction l with
  | nil => rfl
  | cons a l ih => simp [blsOf, ih]
@[simp] theorem ints_map (l : List Int) : intsOf (l.map D.int) = some l := by
  induction l with
  | nil => rfl
  | cons a l ih => simp [intsOf, ih]
section
variable {Γ : Cal} {W : Nat} {q : Bool} {tg : Tg} {cond elt : C} {r : Env} {S : Store} {xs : List D}
theorem lc_fixM {g : D → Option D} (hl : xs.length ≤ lim) (h : ∀ x ∈ xs, lcT Γ tg cond elt r x S = .ok (g x) S) : lcRun Γ q tg cond elt r S (.fix xs) = newL q (xs.filterMap g) S := by
  obtain ⟨acc, S', h1, h2, rfl⟩ := lcL_ind (src := .fix xs) (body := lcT Γ tg cond elt r) (fun k acc S' => acc = (xs.take k).filterMap g ∧ S' = S) (n := xs.length) (by
      rintro k acc S' hk ⟨h1, rfl⟩
      refine ⟨xs[k], g xs[k], S', by simp [hk], h _ (by simp), ?_, rfl⟩
      rw [h1, List.take_add_one, List.filterMap_append]
      simp [hk]
      cases e : g xs[k] <;> simp [e]) (by intro acc S' _; simp) xs.length 0 [] S (by omega) ⟨by simp, rfl⟩
  unfold lcRun
  rw [len_fix, if_pos hl, h1, h2]
  simp
theorem lc_fix {g : D → D} (hl : xs.length ≤ lim) (h : ∀ x ∈ xs, lcT Γ tg cond elt r x S = .ok (some (g x)) S) : lcRun Γ q tg cond elt r S (.fix xs) = newL q (xs.map g) S := by
  rw [lc_fixM (g := fun x => some (g x)) hl h]
  simp
theorem lc_rngM {g : Int → Option D} {lo : Int} {n : Nat} (hl : n ≤ lim) (h : ∀ i : Nat, i < n → lcT Γ tg cond elt r (.int (lo + i)) S = .ok (g (lo + i)) S) : lcRun Γ q tg cond elt r S (.rng lo n) = newL q ((List.range n).filterMap fun i => g (lo + (i : Nat))) S := by
  obtain ⟨acc, S', h1, h2, rfl⟩ := lcL_ind (src := .rng lo n) (body := lcT Γ tg cond elt r) (fun k acc S' => acc = (List.range k).filterMap (fun i => g (lo + (i : Nat))) ∧ S' = S) (n := n) (by
      rintro k acc S' hk ⟨h1, rfl⟩
      refine ⟨.int (lo + k), g (lo + k), S', by simp [hk], h k hk, ?_, rfl⟩
      rw [h1, List.range_succ, List.filterMap_append]
      simp
      cases e : g (lo + k) <;> simp [e]) (by intro acc S' _; simp) n 0 [] S (by omega) ⟨by simp, rfl⟩
  unfold lcRun
  rw [len_rng, if_pos hl, h1, h2]
  simp
theorem lc_rng {g : Int → D} {lo : Int} {n : Nat} (hl : n ≤ lim) (h : ∀ i : Nat, i < n → lcT Γ tg cond elt r (.int (lo + i)) S = .ok (some (g (lo + i))) S) : lcRun Γ q tg cond elt r S (.rng lo n) = newL q ((List.range n).map fun i => g (lo + (i : Nat))) S := by
  rw [lc_rngM (g := fun x => some (g x)) hl h]
  simp
theorem lc_st {src : Src} (n : Nat) (hn : src.len S = n) (hl : n ≤ lim) (Q : Nat → List D → Store → Prop) (h0 : Q 0 [] S) (step : ∀ i acc S', i < n → Q i acc S' → ∃ x y S'', src.at i S' = some (some x) ∧ lcT Γ tg cond elt r x S' = .ok y S'' ∧ Q (i + 1) (acc ++ y.toList) S'')
    (stop : ∀ acc S', Q n acc S' → src.at n S' = some none) : ∃ ys S', Q n ys S' ∧ lcRun Γ q tg cond elt r S src = newL q ys S' := by
  obtain ⟨acc, S', h1, h2⟩ := lcL_ind (src := src) (body := lcT Γ tg cond elt r) Q step stop n 0 [] S (by omega) h0
  refine ⟨acc, S', h2, ?_⟩
  unfold lcRun
  rw [hn, if_pos hl, h1]
  simp
end
def StepP (Q : Env → Store → Prop) (R : D → Store → Prop) : Res Fl → Prop
  | .ok (.nx r) S => Q r S
  | .ok (.ct r) S => Q r S
  | .ok (.rt d) S => R d S
  | _ => False
@[simp] theorem step_nx (Q : Env → Store → Prop) (R : D → Store → Prop) (r : Env) (S : Store) : StepP Q R (.ok (.nx r) S) = Q r S := eqI rfl
@[simp] theorem step_ct (Q : Env → Store → Prop) (R : D → Store → Prop) (r : Env) (S : Store) : StepP Q R (.ok (.ct r) S) = Q r S := eqI rfl
@[simp] theorem step_rt (Q : Env → Store → Prop) (R : D → Store → Prop) (r : D) (S : Store) : StepP Q R (.ok (.rt r) S) = R r S := eqI rfl
section
variable {S : Store}
theorem for_src {Γ : Cal} {W : Nat} {tg : Tg} {b : K} {r : Env} {src : Src} {m : Nat} (Q : Nat → Env → Store → Prop) (R : D → Store → Prop) {P : Res Fl → Prop} (hm : src.len S = m) (h0 : Q 0 r S)
    (step : ∀ i r' S', i < m → Q i r' S' → ∃ x, src.at i S' = some (some x) ∧ StepP (Q (i + 1)) R (forT Γ W tg b x r' S'))
    (stop : ∀ r' S', Q m r' S' → src.at m S' = some none) (hn : ∀ r' S', Q m r' S' → P (.ok (.nx r') S')) (hr : ∀ d S', R d S' → P (.ok (.rt d) S')) : P (forRun Γ W tg b r S src) := by
  unfold forRun
  rw [hm]
  rcases forL_ind (src := src) (body := forT Γ W tg b) Q R (n := m) (fun i r' S' hi q => by
      obtain ⟨x, h1, h2⟩ := step i r' S' hi q
      refine ⟨x, h1, ?_⟩
      match e : forT Γ W tg b x r' S', h2 with
      | .ok (.nx r'') S'', h2 => exact .inl ⟨r'', S'', .inl rfl, h2⟩
      | .ok (.ct r'') S'', h2 => exact .inl ⟨r'', S'', .inr rfl, h2⟩
      | .ok (.rt d) S'', h2 => exact .inr ⟨d, S'', rfl, h2⟩) stop m 0 r S (by omega) h0 with ⟨r', S', e, q⟩ | ⟨d, S', e, q⟩
  · rw [e]; exact hn r' S' q
  · rw [e]; exact hr d S' q
theorem for_fix {Γ : Cal} {W : Nat} {tg : Tg} {b : K} {r : Env} {xs : List D} (Q : Nat → Env → Store → Prop) (R : D → Store → Prop) {P : Res Fl → Prop} (h0 : Q 0 r S)
    (step : ∀ i x r' S', xs[i]? = some x → Q i r' S' → StepP (Q (i + 1)) R (forT Γ W tg b x r' S'))
    (hn : ∀ r' S', Q xs.length r' S' → P (.ok (.nx r') S')) (hr : ∀ d S', R d S' → P (.ok (.rt d) S')) : P (forRun Γ W tg b r S (.fix xs)) :=
  for_src (m := xs.length) Q R rfl h0 (fun i r' S' hi q => ⟨xs[i], by simp, step i xs[i] r' S' (by simp) q⟩) (fun r' S' _ => by simp) hn hr
theorem for_rng {Γ : Cal} {W : Nat} {tg : Tg} {b : K} {r : Env} {lo : Int} {m : Nat} (Q : Nat → Env → Store → Prop) (R : D → Store → Prop) {P : Res Fl → Prop} (h0 : Q 0 r S)
    (step : ∀ (i : Nat) r' S', i < m → Q i r' S' → StepP (Q (i + 1)) R (forT Γ W tg b (.int (lo + i)) r' S'))
    (hn : ∀ r' S', Q m r' S' → P (.ok (.nx r') S')) (hr : ∀ d S', R d S' → P (.ok (.rt d) S')) : P (forRun Γ W tg b r S (.rng lo m)) :=
  for_src (m := m) Q R rfl h0 (fun i r' S' hi q => ⟨_, by simp [hi], step i r' S' hi q⟩) (fun r' S' _ => by simp) hn hr
theorem lc_stP {Γ : Cal} {q : Bool} {tg : Tg} {cond elt : C} {r : Env} {src : Src} {P : Res D → Prop} (n : Nat) (hn : src.len S = n) (hl : n ≤ lim) (Q : Nat → List D → Store → Prop) (h0 : Q 0 [] S)
    (step : ∀ i acc S', i < n → Q i acc S' → ∃ x y S'', src.at i S' = some (some x) ∧ lcT Γ tg cond elt r x S' = .ok y S'' ∧ Q (i + 1) (acc ++ y.toList) S'')
    (stop : ∀ acc S', Q n acc S' → src.at n S' = some none) (k : ∀ ys S', Q n ys S' → P (newL q ys S')) : P (lcRun Γ q tg cond elt r S src) := by
  obtain ⟨ys, S', h1, h2⟩ := lc_st (q := q) n hn hl Q h0 step stop
  rw [h2]
  exact k ys S' h1
theorem lc_rngP {Γ : Cal} {q : Bool} {tg : Tg} {cond elt : C} {r : Env} {lo : Int} {n : Nat} {P : Res D → Prop} (hl : n ≤ lim) (Q : Nat → List D → Store → Prop) (h0 : Q 0 [] S)
    (step : ∀ (i : Nat) acc S', i < n → Q i acc S' → ∃ y S'', lcT Γ tg cond elt r (.int (lo + i)) S' = .ok y S'' ∧ Q (i + 1) (acc ++ y.toList) S'') (k : ∀ ys S', Q n ys S' → P (newL q ys S')) : P (lcRun Γ q tg cond elt r S (.rng lo n)) :=
  lc_stP n rfl hl Q h0 (fun i acc S' hi h => let ⟨y, S'', h1, h2⟩ := step i acc S' hi h; ⟨_, y, S'', by simp [hi], h1, h2⟩) (fun _ _ _ => by simp) k
theorem lc_fixP {Γ : Cal} {q : Bool} {tg : Tg} {cond elt : C} {r : Env} {xs : List D} {P : Res D → Prop} (hl : xs.length ≤ lim) (Q : Nat → List D → Store → Prop) (h0 : Q 0 [] S)
    (step : ∀ (i : Nat) x acc S', xs[i]? = some x → Q i acc S' → ∃ y S'', lcT Γ tg cond elt r x S' = .ok y S'' ∧ Q (i + 1) (acc ++ y.toList) S'') (k : ∀ ys S', Q xs.length ys S' → P (newL q ys S')) : P (lcRun Γ q tg cond elt r S (.fix xs)) :=
  lc_stP xs.length rfl hl Q h0 (fun i acc S' hi h => let ⟨y, S'', h1, h2⟩ := step i xs[i] acc S' (by simp [hi]) h; ⟨xs[i], y, S'', by simp [hi], h1, h2⟩) (fun _ _ _ => by simp) k
end
mutual
def pyD : D → PyData
  | .non => .none
  | .bl b => .bool b
  | .int i => .int i
  | .str x => .str x
  | .tup xs => .tuple (pyL xs)
  | .con xs => .list (pyL xs)
  | .scr xs => .list (pyL xs)
  | .cdic ks vs => .dict (pyK ks vs)
  | _ => .none
def pyL : List D → List PyData
  | [] => []
  | x :: xs => pyD x :: pyL xs
def pyK : List Key → List D → List (PyData × PyData)
  | k :: ks, v :: vs => (kP k, pyD v) :: pyK ks vs
  | _, _ => []
end
mutual
def dpD : D → Nat
  | .tup xs => dpL xs + 1
  | .con xs => dpL xs + 1
  | .scr xs => dpL xs + 1
  | .cdic _ vs => dpL vs + 1
  | _ => 0
def dpL : List D → Nat
  | [] => 0
  | x :: xs => max (dpD x) (dpL xs)
end
theorem toPy_pure (S : Store) : ∀ (f : Nat) (d : D), pureD d = true → dpD d ≤ f → toPy S f d = some (pyD d) := by
  intro f
  induction f with
  | zero =>
    intro d h1 h2
    cases d <;> first | rfl | (simp [dpD] at h2; done) | (simp [pureD] at h1; done)
  | succ f ih =>
    have all : ∀ xs : List D, pureL xs = true → dpL xs ≤ f → xs.mapM (toPy S f) = some (pyL xs) := by
      intro xs
      induction xs with
      | nil => intro _ _; rfl
      | cons x xs ihx =>
        intro h1 h2
        simp only [pureL, Bool.and_eq_true] at h1
        simp only [dpL] at h2
        rw [List.mapM_cons, ih x h1.1 (by omega), ihx h1.2 (by omega)]
        rfl
    have allK : ∀ (vs : List D) (ks : List Key), pureL vs = true → dpL vs ≤ f → (ks.zip vs).mapM (fun kv => (toPy S f kv.2).map fun v => (kP kv.1, v)) = some (pyK ks vs) := by
      intro vs
      induction vs with
      | nil => intro ks _ _; cases ks <;> rfl
      | cons x xs ihx =>
        intro ks h1 h2
        simp only [pureL, Bool.and_eq_true] at h1
        simp only [dpL] at h2
        cases ks with
        | nil => rfl
        | cons k ks =>
          rw [List.zip_cons_cons, List.mapM_cons, ih x h1.1 (by omega), ihx ks h1.2 (by omega)]
          rfl
    intro d h1 h2
    cases d with
    | tup xs => simp only [pureD] at h1; simp only [dpD] at h2; simp only [toPy, all xs h1 (by omega)]; rfl
    | con xs => simp only [pureD] at h1; simp only [dpD] at h2; simp only [toPy, all xs h1 (by omega)]; rfl
    | cdic ks vs => simp only [pureD] at h1; simp only [dpD] at h2; simp only [toPy, allK vs ks h1 (by omega)]; rfl
    | _ => first | rfl | (simp [pureD] at h1)
def keyOk (B : Nat) : Key → Bool
  | .inl i => decide (i.natAbs ≤ B)
  | .inr _ => false
mutual
/-- data that may be shown: ints within B -/
def shwD (B : Nat) : D → Bool
  | .non | .bl _ => true
  | .int i => decide (i.natAbs ≤ B)
  | .str x => decide ((reprText x).length ≤ 1900)
  | .tup xs => shwL B xs
  | .con xs => shwL B xs
  | .cdic ks vs => ks.all (keyOk B) && shwL B vs
  | _ => false
def shwL (B : Nat) : List D → Bool
  | [] => true
  | x :: xs => shwD B x && shwL B xs
end
mutual
/-- how many parts -/
def nD : D → Nat
  | .tup xs => nL xs + 1
  | .con xs => nL xs + 1
  | .scr xs => nL xs + 1
  | .cdic _ vs => nL vs + vs.length + 1
  | _ => 1
def nL : List D → Nat
  | [] => 0
  | x :: xs => nD x + nL xs
end
mutual
theorem shw_pure {B : Nat} : ∀ {d : D}, shwD B d = true → pureD d = true
  | .non, _ => rfl
  | .bl b, _ => rfl
  | .int i, _ => rfl
  | .str x, _ => rfl
  | .ty n, h => by simp [shwD] at h
  | .own h, h' => by simp [shwD] at h'
  | .exn h, h' => by simp [shwD] at h'
  | .ref h, h' => by simp [shwD] at h'
  | .tup xs, h => by simp only [shwD] at h; simp only [pureD]; exact shw_pureL h
  | .con xs, h => by simp only [shwD] at h; simp only [pureD]; exact shw_pureL h
  | .scr xs, h => by simp [shwD] at h
  | .cdic ks xs, h => by simp only [shwD, Bool.and_eq_true] at h; simp only [pureD]; exact shw_pureL h.2
theorem shw_pureL {B : Nat} : ∀ {d : List D}, shwL B d = true → pureL d = true
  | [], _ => rfl
  | x :: xs, h => by
    simp only [shwL, Bool.and_eq_true] at h
    simp only [pureL, Bool.and_eq_true]
    exact ⟨shw_pure h.1, shw_pureL h.2⟩
end
theorem text_len (ts : List Str) : ∀ (k : Nat) (acc : Str), (textFrom k acc ts).length ≤ acc.length + (ts.map fun t => t.length + 2).sum := by
  induction ts with
  | nil => intro k acc; exact Nat.le_refl _
  | cons t ts ih =>
    intro k acc
    show (textFrom (k + 1) _ ts).length ≤ _
    refine Nat.le_trans (ih _ _) ?_
    rw [strLen_append, strLen_append]
    have : (Str.ofString (if k > 0 then ", " else "")).length ≤ 2 := by
      by_cases hk : k > 0
      · rw [if_pos hk]; decide
      · rw [if_neg hk]; decide
    simp only [List.map_cons, List.sum_cons]
    omega
theorem join_len (ts : List Str) : (Str.join ", " ts).length ≤ (ts.map fun t => t.length + 2).sum := by
  cases ts with
  | nil => decide
  | cons t ts =>
    have := join_length_add (t :: ts) (by simp)
    have e : piled (t :: ts) = ((t :: ts).map fun t => t.length + 2).sum := by
      rfl
    omega
theorem list_len (ts : List Str) : (listText ts).length ≤ 2 + (ts.map fun t => t.length + 2).sum := by
  unfold listText
  rw [strLen_append]
  have := text_len ts 0 "["
  have e1 : (("[" : String) : Str).length = 1 := rfl
  have e2 : (("]" : String) : Str).length = 1 := rfl
  omega
theorem tuple_len (ts : List Str) : (tupleText ts).length ≤ 3 + (ts.map fun t => t.length + 2).sum := by
  unfold tupleText
  rw [strLen_append, strLen_append]
  have := join_len ts
  have e1 : (("(" : String) : Str).length = 1 := rfl
  have : (Str.ofString (if ts.length == 1 then ",)" else ")")).length ≤ 2 := by
    split <;> decide
  omega
theorem dict_len (ts : List Str) : (dictText ts).length ≤ 2 + (ts.map fun t => t.length + 2).sum := by
  unfold dictText
  rw [strLen_append, strLen_append]
  have := join_len ts
  have e1 : (("{" : String) : Str).length = 1 := rfl
  have e2 : (("}" : String) : Str).length = 1 := rfl
  omega
def BB (B : Nat) : Prop := B < 2 ^ 1800
theorem log_lt {B : Nat} {i : Int} (hB : BB B) (h : i.natAbs ≤ B) : i.natAbs.log2 < 1900 := by
  by_cases h0 : i.natAbs = 0
  · rw [h0]; decide
  · rw [Nat.log2_lt h0]
    have : (2 : Nat) ^ 1800 ≤ 2 ^ 1900 := Nat.pow_le_pow_right (by decide) (by decide)
    exact Nat.lt_of_le_of_lt h (Nat.lt_of_lt_of_le hB this)
theorem int_len {B : Nat} {i : Int} (hB : BB B) (h : i.natAbs ≤ B) : (Str.ofString (toString i)).length ≤ 1921 := PyProof.Rows.int_text_len_1921 (by have := log_lt hB h; omega)
mutual
theorem shw_py {B : Nat} (hB : BB B) : ∀ {d : D}, shwD B d = true → (pyD d).showable = true ∧ (pyD d).shown.length + 50 ≤ 2000 * nD d
  | .non, _ => ⟨rfl, by decide⟩
  | .bl b, _ => ⟨rfl, by cases b <;> decide⟩
  | .int i, h => by
    simp only [shwD, decide_eq_true_eq] at h
    have hg := log_lt hB h
    have hl := int_len hB h
    refine ⟨by simp [pyD, PyData.showable]; omega, ?_⟩
    show (Str.ofString (toString i)).length + 50 ≤ 2000 * 1
    omega
  | .str x, h => by
    simp only [shwD, decide_eq_true_eq] at h
    refine ⟨rfl, ?_⟩
    show (reprText x).length + 50 ≤ 2000 * 1
    omega
  | .ty n, h => by simp [shwD] at h
  | .own h, h' => by simp [shwD] at h'
  | .exn h, h' => by simp [shwD] at h'
  | .ref h, h' => by simp [shwD] at h'
  | .tup xs, h => by
    simp only [shwD] at h
    obtain ⟨h1, h2⟩ := shw_pyL hB h
    have := tuple_len (PyData.shownAll (pyL xs))
    refine ⟨h1, ?_⟩
    show (tupleText (PyData.shownAll (pyL xs))).length + 50 ≤ 2000 * (nL xs + 1)
    omega
  | .con xs, h => by
    simp only [shwD] at h
    obtain ⟨h1, h2⟩ := shw_pyL hB h
    have := list_len (PyData.shownAll (pyL xs))
    refine ⟨h1, ?_⟩
    show (listText (PyData.shownAll (pyL xs))).length + 50 ≤ 2000 * (nL xs + 1)
    omega
  | .scr xs, h => by simp [shwD] at h
  | .cdic ks vs, h => by
    simp only [shwD, Bool.and_eq_true] at h
    obtain ⟨h1, h2⟩ := shw_pyK hB (ks := ks) h.1 h.2
    have := dict_len (PyData.shownKv (pyK ks vs))
    refine ⟨h1, ?_⟩
    show (dictText (PyData.shownKv (pyK ks vs))).length + 50 ≤ 2000 * (nL vs + vs.length + 1)
    omega
theorem shw_pyL {B : Nat} (hB : BB B) : ∀ {xs : List D}, shwL B xs = true → PyData.showableAll (pyL xs) = true ∧ ((PyData.shownAll (pyL xs)).map fun t => t.length + 2).sum ≤ 2000 * nL xs
  | [], _ => ⟨rfl, by simp [pyL, PyData.shownAll]⟩
  | x :: xs, h => by
    simp only [shwL, Bool.and_eq_true] at h
    obtain ⟨h1, h2⟩ := shw_py hB h.1
    obtain ⟨h3, h4⟩ := shw_pyL hB h.2
    simp only [pyL, PyData.showableAll, PyData.shownAll, List.map_cons, List.sum_cons, nL, h1, h3, Bool.and_self, true_and]
    omega
theorem shw_pyK {B : Nat} (hB : BB B) : ∀ {vs : List D} {ks : List Key}, ks.all (keyOk B) = true → shwL B vs = true → PyData.showableKv (pyK ks vs) = true ∧ ((PyData.shownKv (pyK ks vs)).map fun t => t.length + 2).sum ≤ 2000 * (nL vs + vs.length)
  | [], ks, _, _ => by cases ks <;> exact ⟨rfl, by simp [pyK, PyData.shownKv]⟩
  | x :: xs, [], _, _ => ⟨rfl, by simp [pyK, PyData.shownKv]⟩
  | x :: xs, k :: ks, hk, h => by
    simp only [shwL, Bool.and_eq_true] at h
    rw [List.all_cons, Bool.and_eq_true] at hk
    obtain ⟨h1, h2⟩ := shw_py hB h.1
    obtain ⟨h3, h4⟩ := shw_pyK hB hk.2 h.2
    cases k with
    | inr s => simp [keyOk] at hk
    | inl i =>
      have hi : i.natAbs ≤ B := by simpa [keyOk] using hk.1
      have hl := int_len hB hi
      have hg := log_lt hB hi
      have e : (PyData.shown (kP (.inl i))).length ≤ 1921 := hl
      refine ⟨?_, ?_⟩
      · simp [pyK, PyData.showableKv, h1, h3, kP, PyData.showable]
        omega
      · simp only [pyK, PyData.shownKv, List.map_cons, List.sum_cons, nL, List.length_cons]
        rw [strLen_append, strLen_append]
        have e2 : ((": " : String) : Str).length = 2 := rfl
        omega
end
theorem repr_ok {q : Bool} {S : Store} {B : Nat} {x : D} (hB : BB B) (h : shwD B x = true) (hd : dpD x ≤ 60) (hn : nD x ≤ 8000) : bltD q .repr [x] S = .ok (.str (pyD x).shown) S := by
  obtain ⟨h1, h2⟩ := shw_py hB h
  have h3 := toPy_pure S dep x (shw_pure h) hd
  have hl : (pyD x).shown.length ≤ lim := by unfold lim; omega
  simp only [bltD, h3, h1, hl, decide_true, Bool.and_self, if_true]
@[simp] theorem repr_bl {q : Bool} {S : Store} (b : Bool) : bltD q .repr [.bl b] S = .ok (.str (if b then "True" else "False")) S := by
  cases b <;> rfl
theorem pureL_iff {xs : List D} : pureL xs = true ↔ ∀ x ∈ xs, pureD x = true := by
  induction xs with
  | nil => simp [pureL]
  | cons x xs ih => simp [pureL, ih]
theorem shwL_iff {B : Nat} {xs : List D} : shwL B xs = true ↔ ∀ x ∈ xs, shwD B x = true := by
  induction xs with
  | nil => simp [shwL]
  | cons x xs ih => simp [shwL, ih]
theorem dpL_le {k : Nat} {xs : List D} : dpL xs ≤ k ↔ ∀ x ∈ xs, dpD x ≤ k := by
  induction xs with
  | nil => simp [dpL]
  | cons x xs ih => simp only [dpL, List.forall_mem_cons, ← ih]; omega
theorem nL_append (xs ys : List D) : nL (xs ++ ys) = nL xs + nL ys := by
  induction xs with
  | nil => simp [nL]
  | cons x xs ih => simp [nL, ih]; omega
theorem nL_mem {xs : List D} {x : D} (h : x ∈ xs) : nD x ≤ nL xs := by
  induction xs with
  | nil => cases h
  | cons y xs ih =>
    simp only [nL]
    rcases List.mem_cons.mp h with rfl | h
    · omega
    · have := ih h; omega
theorem nL_sub {xs ys : List D} (h : xs.Sublist ys) : nL xs ≤ nL ys := by
  induction h with
  | slnil => exact Nat.le_refl _
  | cons a _ ih => simp only [nL]; omega
  | cons_cons a _ ih => simp only [nL]; omega
theorem nL_le {xs : List D} {k : Nat} (h : ∀ x ∈ xs, nD x ≤ k) : nL xs ≤ xs.length * k := by
  induction xs with
  | nil => simp [nL]
  | cons x xs ih =>
    have := ih fun y hy => h y (List.mem_cons_of_mem _ hy)
    have := h x List.mem_cons_self
    simp only [nL, List.length_cons, Nat.add_mul]
    omega
theorem frz_pure {S : Store} {n0 : Nat} (f : Nat) {d : D} (h : pureD d = true) : frz S n0 f d = some d := by
  cases f <;> simp [frz, h]
theorem frzL_pure {S : Store} {n0 f : Nat} {xs : List D} (h : pureL xs = true) : xs.mapM (frz S n0 f) = some xs := by
  induction xs with
  | nil => rfl
  | cons x xs ih =>
    simp only [pureL, Bool.and_eq_true] at h
    rw [List.mapM_cons, frz_pure f h.1, ih h.2]
    rfl
def Fits (S S1 : Store) : Prop := S1.length = S.length ∧ ∀ (i : Nat) o, S1[i]? = some o → S[i]? = some o ∨ lowO S.length o = true
theorem Fits.refl {S : Store} : Fits S S := ⟨rfl, fun _ _ h => .inl h⟩
theorem Fits.trans {S S1 S2 : Store} (h : Fits S S1) (h' : Fits S1 S2) : Fits S S2 := ⟨h'.1.trans h.1, fun i o e => by
  rcases h'.2 i o e with q | q
  · exact h.2 i o q
  · rw [h.1] at q; exact .inr q⟩
theorem Fits.set {S : Store} {p : Nat} {o : O} (h : lowO S.length o = true) : Fits S (S.set p o) := by
  refine ⟨by simp, fun i o' e => ?_⟩
  rw [List.getElem?_set] at e
  split at e
  · split at e
    · cases e; exact .inr h
    · cases e
  · exact .inl e
theorem okT_of {S S1 T : Store} (h : Fits S S1) : okT S (S1 ++ T) := by
  refine ⟨by simp [h.1], fun i o hi e => ?_⟩
  rw [List.getElem?_append_left (by rw [h.1]; exact hi)] at e
  exact h.2 i o e
theorem take_of {S S1 T : Store} (h : Fits S S1) : (S1 ++ T).take S.length = S1 := by
  rw [← h.1]; simp
theorem cut_pure {S S1 T : Store} {d : D} (h : Fits S S1) (hp : pureD d = true) : cutR S (.ok d (S1 ++ T)) = .ok d S1 := by
  simp only [cutR, if_pos (okT_of (T := T) h), frzT, frz_pure 20 hp, take_of h]
theorem frz_ref {S : Store} {n0 n f : Nat} {xs : List D} (hn : n0 ≤ n) (hx : S[n]? = some (.lst xs)) (hp : pureL xs = true) : frz S n0 (f + 1) (.ref n) = some (.con xs) := by
  simp only [frz, pureD, Bool.false_eq_true, if_false, if_neg (show ¬ n < n0 by omega), hx, frzL_pure hp]
  rfl
theorem cut_lst {S S1 T : Store} {xs : List D} {n : Nat} (h : Fits S S1) (hn : S.length ≤ n) (hx : (S1 ++ T)[n]? = some (.lst xs)) (hp : pureL xs = true) : cutR S (.ok (.ref n) (S1 ++ T)) = .ok (.con xs) S1 := by
  have e : frz (S1 ++ T) S.length 20 (.ref n) = some (.con xs) := frz_ref (f := 19) hn hx hp
  simp only [cutR, if_pos (okT_of (T := T) h), frzT, e, take_of h]
end MP

namespace MP
open PySem L2
structure Thg (x : D) : Prop where
  p : pureD x = true
  n : nD x ≤ lim
theorem nD_pos (x : D) : 1 ≤ nD x := by cases x <;> simp [nD]
theorem nL_len (xs : List D) : xs.length ≤ nL xs := by
  induction xs with
  | nil => simp [nL]
  | cons x xs ih => have := nD_pos x; simp only [nL, List.length_cons]; omega
theorem Thg.tup {xs : List D} (h : Thg (.tup xs)) : (∀ x ∈ xs, Thg x) ∧ xs.length < lim := by
  have hp := h.p
  have hn := h.n
  simp only [pureD] at hp
  simp only [nD] at hn
  have := nL_len xs
  exact ⟨fun x hx => ⟨pureL_iff.mp hp x hx, by have := nL_mem hx; omega⟩, by omega⟩
theorem Thg.con {xs : List D} (h : Thg (.con xs)) : (∀ x ∈ xs, Thg x) ∧ xs.length < lim := by
  have hp := h.p
  have hn := h.n
  simp only [pureD] at hp
  simp only [nD] at hn
  have := nL_len xs
  exact ⟨fun x hx => ⟨pureL_iff.mp hp x hx, by have := nL_mem hx; omega⟩, by omega⟩
def wholeD : D → Bool
  | .int _ => true
  | _ => false
def withinD (x : D) (lo hi : Int) : Bool := match x with
  | .int i => decide (lo ≤ i) && decide (i ≤ hi)
  | _ => false
def isTupD : D → Bool
  | .tup _ => true
  | _ => false
section
variable {n : Nat} {x : D} {S : Store}
theorem isi_tup (h : pureD x = true) : isiD S x (.ty "tuple") = some (isTupD x) := by
  cases x <;> first | (simp [isiD, tyD, isTupD]; done) | (simp [pureD] at h)
theorem whole_code {Γ : Cal} {q q' : Bool} (h : pureD x = true) : evE Γ (.and (.blt q .isi (.cons (.var 0) (.cons (.bty "int") .nil))) (.not (.blt q' .isi (.cons (.var 0) (.cons (.bty "bool") .nil))))) [some x] S = .ok (.bl (wholeD x)) S := by
  cases x <;> first | (simp [wholeD, tyD]; done) | (simp [pureD] at h)
theorem is_whole_ok (h : pureD x = true) : callF DEFS WW (n + 1) i_is_whole [x] S = .ok (.bl (wholeD x)) S := by
  rw [cF_eq D_is_whole rfl rfl]
  simp only [c_is_whole, k_is_whole]
  simp only [s_seq, s_ret, List.map_cons, List.map_nil, List.replicate, List.append_nil, Nat.sub_self, whole_code h, bind_ok, rtR_eq, then_rt, ends_rt]
theorem law_whole_ok (h : pureD x = true) : callF DEFS WW (n + 1) i__law_whole [x] S = .ok (.bl (wholeD x)) S := by
  rw [cF_eq D__law_whole rfl rfl]
  simp only [c__law_whole, k__law_whole]
  simp only [s_seq, s_ret, List.map_cons, List.map_nil, List.replicate, List.append_nil, Nat.sub_self, whole_code h, bind_ok, rtR_eq, then_rt, ends_rt]
theorem is_within_ok {lo hi : Int} (h : pureD x = true) : callF DEFS WW (n + 2) i_is_within [x, .int lo, .int hi] S = .ok (.bl (withinD x lo hi)) S := by
  rw [cF_eq D_is_within rfl rfl]
  simp only [c_is_within, k_is_within]
  simp [is_whole_ok h]
  cases x <;> simp [wholeD, withinD]
  rename_i i
  by_cases h1 : lo ≤ i <;> simp [h1]
theorem within_int {x : D} {lo hi : Int} (h : withinD x lo hi = true) : ∃ i, x = .int i ∧ lo ≤ i ∧ i ≤ hi := by
  cases x <;> simp [withinD] at h
  exact ⟨_, rfl, h⟩
theorem at_nat {α : Type} {xs : List α} {k : Nat} : atI xs (k : Int) = xs[k]? := by
  unfold atI ixN
  rw [if_pos (by omega)]
  by_cases h : k < xs.length
  · rw [if_pos (by omega)]; rfl
  · rw [if_neg (by omega)]
    simp [List.getElem?_eq_none (Nat.le_of_not_lt h)]
@[simp] theorem at_0 {α : Type} (a : α) (xs : List α) : atI (a :: xs) 0 = some a := by
  have := at_nat (xs := a :: xs) (k := 0)
  simpa using this
@[simp] theorem at_1 {α : Type} (a b : α) (xs : List α) : atI (a :: b :: xs) 1 = some b := by
  have := at_nat (xs := a :: b :: xs) (k := 1)
  simpa using this
@[simp] theorem at_2 {α : Type} (a b c : α) (xs : List α) : atI (a :: b :: c :: xs) 2 = some c := by
  have := at_nat (xs := a :: b :: c :: xs) (k := 2)
  simpa using this
@[simp] theorem at_3 {α : Type} (a b c d : α) (xs : List α) : atI (a :: b :: c :: d :: xs) 3 = some d := by
  have := at_nat (xs := a :: b :: c :: d :: xs) (k := 3)
  simpa using this
theorem lim_lt (n : Nat) (h : n ≤ lim) : (n : Int) < big := by
  unfold lim at h
  unfold big
  omega
theorem big_n (n : Nat) : -big ≤ (n : Int) := by unfold big; omega
theorem src_1len {n : Nat} (h : n ≤ lim) : srcOf .rng [.int 1, .int (n : Int)] S = some (.rng 1 (n - 1)) := by
  have e : ((n : Int) - 1).toNat = n - 1 := by omega
  rw [src_rng2 (by decide) (by decide) (big_n n) (lim_lt n h), e]
theorem src_len {n : Nat} (h : n ≤ lim) : srcOf .rng [.int (n : Int)] S = some (.rng 0 n) := by
  rw [src_rng1 (big_n n) (lim_lt n h)]
  rfl
theorem all_map {α : Type} (l : List α) (g : α → Bool) : (l.map g).all id = l.all g := by rw [List.all_map]; rfl
def descI : List Int → Bool
  | a :: b :: r => decide (b ≤ a) && descI (b :: r)
  | _ => true
def isKindD : D → Bool
  | .tup [a, .tup rs] => withinD a 1 999 && decide (rs.length = 4) && rs.all (fun x => withinD x 0 9) && (match intsOf rs with
    | some ns => descI ns
    | none => false)
  | _ => false
theorem list4 {xs : List D} (h : xs.length = 4) : ∃ a b c d, xs = [a, b, c, d] := by
  match xs, h with
  | [a, b, c, d], _ => exact ⟨a, b, c, d, rfl⟩
theorem is_kind_ok (h : Thg x) : callF DEFS WW (n + 3) i_is_kind [x] S = .ok (.bl (isKindD x)) S := by
  rw [cF_eq D_is_kind rfl rfl]
  simp only [c_is_kind, k_is_kind]
  cases x
  case tup xs =>
    obtain ⟨hm, hl⟩ := h.tup
    match xs, hm with
    | [], hm => simp [isKindD]
    | [a], hm => simp [isKindD]
    | a :: b :: c :: l, hm => simp [isKindD, show ¬ ((l.length : Int) + 1 + 1 + 1 = 2) by omega]
    | [a, b], hm =>
      have ha := (hm a (by simp)).p
      have hb := hm b (by simp)
      simp [is_within_ok ha]
      cases hw : withinD a 1 999 with
      | false => cases b <;> simp [isKindD, hw]
      | true =>
        simp
        cases b
        case tup rs =>
          obtain ⟨hm, hl⟩ := hb.tup
          simp
          by_cases h4 : rs.length = 4
          · obtain ⟨p, q, u, v, rfl⟩ := list4 h4
            simp
            rw [lc_fix (g := fun x => .bl (withinD x 0 9)) (by omega) fun x hx => by simp [is_within_ok (hm x hx).p]]
            rw [newL_t]
            simp only [bind_ok, kCons_eq, a_nil, consR_eq, pb_all, lst_con, Option.bind_some, bls_map, ofO_some, notD_bl, all_map]
            cases ha4 : [p, q, u, v].all (fun x => withinD x 0 9) with
            | false =>
              simp [isKindD]
              simp at ha4
              intro _ a1 a2 a3 a4
              simp [a1, a2, a3] at ha4
              rw [ha4] at a4
              cases a4
            | true =>
              simp at ha4
              obtain ⟨a1, a2, a3, a4⟩ := ha4
              obtain ⟨p, rfl, _, _⟩ := within_int a1
              obtain ⟨q, rfl, _, _⟩ := within_int a2
              obtain ⟨u, rfl, _, _⟩ := within_int a3
              obtain ⟨v, rfl, _, _⟩ := within_int a4
              simp [lcRun, lcL, srcOf, srcRng2, big, lim, blsOf]
              simp [isKindD, hw, a1, a2, a3, a4, intsOf, descI, Bool.and_assoc]
          · have h5 : ¬ ((rs.length : Int) = 4) := by omega
            simp [isKindD, h4, h5, hw]
        all_goals first | exact absurd hb.p Bool.false_ne_true | simp [isKindD]
  all_goals first | exact absurd h.p Bool.false_ne_true | simp [isKindD]
def pairOkD (m : Int) : D → Bool
  | .tup [.int a, .int b] => decide (0 ≤ a) && decide (a < b) && decide (b ≤ m)
  | _ => false
def ascI : List (Int × Int) → Bool
  | a :: b :: r => (decide (a.1 < b.1) || (decide (a.1 = b.1) && decide (a.2 < b.2))) && ascI (b :: r)
  | _ => true
def pairsII : List D → Option (List (Int × Int))
  | [] => some []
  | .tup [.int a, .int b] :: r => (pairsII r).map ((a, b) :: ·)
  | _ :: _ => none
def areApartD (m : Int) : D → Bool
  | .tup xs => xs.all (pairOkD m) && (match pairsII xs with
    | some ps => ascI ps
    | none => false)
  | _ => false
def ltP (p q : Int × Int) : Bool := decide (p.1 < q.1) || (decide (p.1 = q.1) && decide (p.2 < q.2))
def pairD (p : Int × Int) : D := .tup [.int p.1, .int p.2]
theorem lt_pair (p q : Int × Int) : cmpD .Lt (pairD p) (pairD q) S = .ok (.bl (ltP p q)) S := by
  obtain ⟨a, b⟩ := p
  obtain ⟨c, d⟩ := q
  simp [cmpD, ltD, intsOf, HT.lexLt, pairD, ltP]
  by_cases h' : a = c
  · subst h'
    by_cases h : b = d
    · subst h; simp
    · simp [h]
  · simp [h']
theorem all_pairs {m : Int} : ∀ {xs : List D}, xs.all (pairOkD m) = true → ∃ ps : List (Int × Int), xs = ps.map pairD ∧ pairsII xs = some ps := by
  intro xs
  induction xs with
  | nil => intro _; exact ⟨[], rfl, rfl⟩
  | cons x xs ih =>
    intro h
    simp only [List.all_cons, Bool.and_eq_true] at h
    obtain ⟨ps, rfl, h2⟩ := ih h.2
    have h1 := h.1
    unfold pairOkD at h1
    split at h1
    · rename_i a b
      exact ⟨(a, b) :: ps, rfl, by simp [pairsII, h2]⟩
    · cases h1
theorem asc_range : ∀ ps : List (Int × Int), (List.range (ps.length - 1)).all (fun i => ltP (ps.getD i (0, 0)) (ps.getD (i + 1) (0, 0))) = ascI ps := by
  intro ps
  induction ps with
  | nil => rfl
  | cons p ps ih =>
    cases ps with
    | nil => rfl
    | cons q ps =>
      simp only [List.length_cons, Nat.add_sub_cancel] at ih ⊢
      rw [List.range_succ_eq_map, List.all_cons, List.all_map, ascI]
      simp only [ltP] at ih ⊢
      rw [← ih]
      simp [Function.comp_def]
theorem pair_len {m : Int} {xs : List D} (h : xs.length ≠ 2) : pairOkD m (.tup xs) = false := by
  unfold pairOkD
  split
  · rename_i e; cases e; exact absurd rfl h
  · rfl
theorem are_apart_ok {m : Int} (h : Thg x) : callF DEFS WW (n + 3) i_are_apart [.int (m + 1), x] S = .ok (.bl (areApartD m x)) S := by
  rw [cF_eq D_are_apart rfl rfl]
  simp only [c_are_apart, k_are_apart]
  cases x
  case tup xs =>
    obtain ⟨hm, hl⟩ := h.tup
    simp
    refine for_fix (P := fun z => ends (thenS z _) = .ok _ _) (fun i r S' => S' = S ∧ (∀ y ∈ xs.take i, pairOkD m y = true) ∧ ∃ o, r = [some (.int (m + 1)), some (.tup xs), o, none, none]) (fun d S' => S' = S ∧ d = .bl false ∧ ∃ x, x ∈ xs ∧ pairOkD m x = false) ⟨rfl, by simp, _, rfl⟩ ?_ ?_ ?_
    rotate_left
    · rintro r' S' ⟨rfl, q, o, rfl⟩
      have q' : xs.all (pairOkD m) = true := by
        rw [List.all_eq_true]
        simpa using q
      obtain ⟨ps, rfl, hp⟩ := all_pairs q'
      rw [List.length_map] at hl
      simp [src_1len (Nat.le_of_lt hl)]
      rw [lc_rng (g := fun i => .bl (ltP (ps.getD (i - 1).toNat (0, 0)) (ps.getD i.toNat (0, 0)))) (by omega) fun k hk => ?_]
      · simp only [newL_t, bind_ok, kCons_eq, a_nil, consR_eq, pb_all, lst_con, Option.bind_some, bls_map, ofO_some, all_map, rtR_eq, then_rt, ends_rt, areApartD, q', hp, Bool.true_and]
        rw [← asc_range]
        have : ∀ k : Nat, ((1 : Int) + (k : Int) - 1).toNat = k ∧ ((1 : Int) + (k : Int)).toNat = k + 1 := fun k => ⟨by omega, by omega⟩
        simp only [this]
      · have e1 : (1 : Int) + (k : Int) - 1 = ((k : Nat) : Int) := by omega
        have e2 : (1 : Int) + (k : Int) = ((k + 1 : Nat) : Int) := by omega
        have h1 : k < ps.length := by omega
        have h2 : k + 1 < ps.length := by omega
        rw [e2] at e1
        rw [e2]
        simp only [lcT_one, cond_eq, e_no, kT_t, kE_eq, e_cmp, e_idx, e_bin, e_var, getR_0, getR_s, List.set_cons_succ, List.set_cons_zero, bind_ok, kA_eq, e_val, b_sub, idx_tup, e1, at_nat, List.getElem?_map, List.getElem?_eq_getElem h1, List.getElem?_eq_getElem h2, Option.map_some, ofO_some, id, lt_pair, someR_eq, noX_ok]
        simp [List.getElem?_eq_getElem h1, List.getElem?_eq_getElem h2]
    · rintro d S' ⟨rfl, rfl, y, q1, q2⟩
      have q : xs.all (pairOkD m) = false := by
        rw [List.all_eq_false]
        exact ⟨y, q1, by simp [q2]⟩
      simp only [then_rt, ends_rt, areApartD, q, Bool.false_and]
    · rintro i y r S' hy ⟨rfl, q, o, rfl⟩
      have hd := hm y (List.mem_of_getElem? hy)
      have bad : pairOkD m y = false → ∃ x, x ∈ xs ∧ pairOkD m x = false := fun hb => ⟨y, List.mem_of_getElem? hy, hb⟩
      have take : pairOkD m y = true → ∀ z ∈ xs.take (i + 1), pairOkD m z = true := fun hk z hz => by
        rw [List.take_add_one, hy] at hz
        rcases List.mem_append.mp hz with hz | hz
        · exact q z hz
        · simp at hz; rw [hz]; exact hk
      cases y
      case tup ys =>
        obtain ⟨hm2, hl2⟩ := hd.tup
        by_cases h2 : ys.length = 2
        · obtain ⟨a, b, rfl⟩ : ∃ a b, ys = [a, b] := by
            match ys, h2 with
            | [a, b], _ => exact ⟨a, b, rfl⟩
          simp
          rw [lc_fix (g := fun z => .bl (withinD z 0 m)) (by omega) fun z hz => by simp [is_within_ok (hm2 z hz).p]]
          simp only [newL_t, bind_ok, kCons_eq, a_nil, consR_eq, pb_all, lst_con, Option.bind_some, bls_map, ofO_some, notD_bl, all_map]
          cases hw : [a, b].all (fun z => withinD z 0 m) with
          | false =>
            simp
            refine bad ?_
            cases hq : pairOkD m (.tup [a, b]) with
            | false => rfl
            | true =>
              unfold pairOkD at hq
              split at hq
              · rename_i e
                cases e
                simp at hq
                simp [withinD] at hw
                omega
              · cases hq
          | true =>
            simp at hw
            obtain ⟨a, rfl, a1, a2⟩ := within_int hw.1
            obtain ⟨b, rfl, b1, b2⟩ := within_int hw.2
            simp
            by_cases hba : b ≤ a
            · simp [hba]
              exact bad (by simp [pairOkD]; omega)
            · simp [hba]
              exact take (by simp [pairOkD]; omega)
        · have h3 : ¬ ((ys.length : Int) = 2) := by omega
          simp [h3]
          exact bad (pair_len h2)
      all_goals first | exact absurd hd.p Bool.false_ne_true | (simp; exact bad rfl)
  all_goals first | exact absurd h.p Bool.false_ne_true | simp [areApartD]
end
end MP

namespace MP
open PySem L2
section
variable {n : Nat} {x : D} {S : Store}
def isHouseD : D → Bool
  | .tup [.tup rooms, .tup kinds, ap, hold] => decide (1 ≤ rooms.length) && decide (rooms.length ≤ 5) && rooms.all (fun x => withinD x 0 3) && (decide (1 ≤ kinds.length) && decide (kinds.length ≤ 4)) && kinds.all isKindD && areApartD ((kinds.length : Int) - 1) ap && withinD hold 1 9
  | _ => false
theorem house_len {xs : List D} (h : xs.length ≠ 4) : isHouseD (.tup xs) = false := by
  unfold isHouseD
  split
  · rename_i e; cases e; exact absurd rfl h
  · rfl
theorem is_house_ok (h : Thg x) : callF DEFS WW (n + 4) i_is_house [x] S = .ok (.bl (isHouseD x)) S := by
  rw [cF_eq D_is_house rfl rfl]
  simp only [c_is_house, k_is_house]
  cases x
  case tup xs =>
    obtain ⟨hm, hl⟩ := h.tup
    by_cases h4 : xs.length = 4
    · obtain ⟨a, b, c, d, rfl⟩ := list4 h4
      have da := hm a (by simp)
      have db := hm b (by simp)
      have dc := hm c (by simp)
      have dd := hm d (by simp)
      simp
      cases a
      case tup rooms =>
        obtain ⟨hma, hla⟩ := da.tup
        simp
        by_cases h1 : 1 ≤ rooms.length ∧ rooms.length ≤ 5
        · have i1 : (1 : Int) ≤ (rooms.length : Int) := by omega
          have i2 : (rooms.length : Int) ≤ 5 := by omega
          simp [i1, i2]
          rw [lc_fix (g := fun z => .bl (withinD z 0 3)) (by omega) fun z hz => by simp [is_within_ok (hma z hz).p]]
          simp only [newL_t, bind_ok, kCons_eq, a_nil, consR_eq, pb_all, lst_con, Option.bind_some, bls_map, ofO_some, notD_bl, all_map]
          cases hr : rooms.all (fun z => withinD z 0 3) with
          | false =>
            simp only [Bool.not_false, kT_t, s_seq, s_ret, e_val, bind_ok, rtR_eq, then_rt, ends_rt]
            cases b <;> simp only [isHouseD, hr, Bool.and_false, Bool.false_and]
          | true =>
            simp only [Bool.not_true, kT_f, s_skip, then_nx]
            cases b
            case tup kinds =>
              obtain ⟨hmb, hlb⟩ := db.tup
              simp
              by_cases h2 : 1 ≤ kinds.length ∧ kinds.length ≤ 4
              · have j1 : (1 : Int) ≤ (kinds.length : Int) := by omega
                have j2 : (kinds.length : Int) ≤ 4 := by omega
                simp [j1, j2]
                rw [lc_fix (g := fun z => .bl (isKindD z)) (by omega) fun z hz => by simp [is_kind_ok (hmb z hz)]]
                simp only [newL_t, bind_ok, kCons_eq, a_nil, consR_eq, pb_all, lst_con, Option.bind_some, bls_map, ofO_some, notD_bl, all_map]
                cases hk : kinds.all isKindD with
                | false =>
                  simp only [Bool.not_false, kT_t, s_seq, s_ret, e_val, bind_ok, rtR_eq, then_rt, ends_rt]
                  simp only [isHouseD, hk, Bool.and_false, Bool.false_and]
                | true =>
                  simp only [Bool.not_true, kT_f, s_skip, then_nx]
                  have e3 := are_apart_ok (n := n) (S := S) (m := (kinds.length : Int) - 1) dc
                  rw [show (kinds.length : Int) - 1 + 1 = (kinds.length : Int) by omega] at e3
                  simp [e3]
                  cases ha : areApartD ((kinds.length : Int) - 1) c with
                  | false => simp [isHouseD, ha]
                  | true =>
                    simp [is_within_ok dd.p]
                    simp only [isHouseD, ha, hr, hk, h1.1, h1.2, h2.1, h2.2, decide_true, Bool.and_true, Bool.true_and]
              · have e5 : (decide (1 ≤ kinds.length) && decide (kinds.length ≤ 4)) = false := by
                  by_cases k1 : 1 ≤ kinds.length
                  · have k2 : ¬ kinds.length ≤ 4 := fun z => h2 ⟨k1, z⟩
                    simp [k2]
                  · simp [k1]
                by_cases k1 : (1 : Int) ≤ (kinds.length : Int)
                · have k2 : ¬ ((kinds.length : Int) ≤ 4) := by omega
                  simp [k1, k2]
                  simp only [isHouseD, e5, Bool.and_false, Bool.false_and]
                · simp [k1]
                  simp only [isHouseD, e5, Bool.and_false, Bool.false_and]
            all_goals first | exact absurd db.p Bool.false_ne_true | simp [isHouseD]
        · have e5 : (decide (1 ≤ rooms.length) && decide (rooms.length ≤ 5)) = false := by
            by_cases k1 : 1 ≤ rooms.length
            · have k2 : ¬ rooms.length ≤ 5 := fun z => h1 ⟨k1, z⟩
              simp [k2]
            · simp [k1]
          have e6 : isHouseD (.tup [.tup rooms, b, c, d]) = false := by
            cases b <;> simp only [isHouseD, e5, Bool.false_and]
          by_cases k1 : (1 : Int) ≤ (rooms.length : Int)
          · have k2 : ¬ ((rooms.length : Int) ≤ 5) := by omega
            simp [k1, k2, e6]
          · simp [k1, e6]
      all_goals first | exact absurd da.p Bool.false_ne_true | simp [isHouseD]
    · have h5 : ¬ ((xs.length : Int) = 4) := by omega
      simp [h5, house_len h4]
  all_goals first | exact absurd h.p Bool.false_ne_true | simp [isHouseD]
def knD (k : Int × List Int) : D := .tup [.int k.1, .tup (k.2.map .int)]
structure HV where
  rs : List Int
  ks : List (Int × List Int)
  ps : List (Int × Int)
  h : Int
def HV.d (v : HV) : D := .tup [.tup (v.rs.map .int), .tup (v.ks.map knD), .tup (v.ps.map pairD), .int v.h]
structure KOk (k : Int × List Int) : Prop where
  l1 : 1 ≤ k.1
  l2 : k.1 ≤ 999
  len : k.2.length = 4
  rs : ∀ r ∈ k.2, 0 ≤ r ∧ r ≤ 9
  desc : descI k.2 = true
structure HV.ok (v : HV) : Prop where
  r1 : 1 ≤ v.rs.length
  r5 : v.rs.length ≤ 5
  rs : ∀ r ∈ v.rs, 0 ≤ r ∧ r ≤ 3
  k1 : 1 ≤ v.ks.length
  k4 : v.ks.length ≤ 4
  ks : ∀ k ∈ v.ks, KOk k
  ps : ∀ q ∈ v.ps, 0 ≤ q.1 ∧ q.1 < q.2 ∧ q.2 < v.ks.length
  asc : ascI v.ps = true
  h1 : 1 ≤ v.h
  h9 : v.h ≤ 9
theorem pairsOf_map (ps : List (Int × Int)) : pairsII (ps.map pairD) = some ps := by
  induction ps with
  | nil => rfl
  | cons a ps ih =>
    obtain ⟨a, b⟩ := a
    simp [pairsII, pairD] at ih ⊢
    exact ih
theorem within_all {l : List Int} {lo hi : Int} : (l.map D.int).all (fun x => withinD x lo hi) = true ↔ ∀ r ∈ l, lo ≤ r ∧ r ≤ hi := by
  rw [List.all_eq_true]
  simp [withinD]
theorem KOk.is {k : Int × List Int} (h : KOk k) : isKindD (knD k) = true := by
  have e : (k.2.map D.int).all (fun x => withinD x 0 9) = true := within_all.mpr h.rs
  simp only [isKindD, knD, e, ints_map, h.desc, Bool.and_true, withinD, List.length_map, h.len, decide_true]
  simp [h.l1, h.l2]
  exact h.rs
theorem HV.ok.is {v : HV} (h : v.ok) : isHouseD v.d = true := by
  have e1 : (v.ks.map knD).all isKindD = true := by
    rw [List.all_eq_true]
    intro y hy
    obtain ⟨k, hk, rfl⟩ := List.mem_map.mp hy
    exact (h.ks k hk).is
  have e2 : areApartD (((v.ks.map knD).length : Int) - 1) (.tup (v.ps.map pairD)) = true := by
    simp only [areApartD, pairsOf_map, h.asc, Bool.and_true]
    rw [List.all_eq_true]
    intro y hy
    obtain ⟨k, hk, rfl⟩ := List.mem_map.mp hy
    have := h.ps k hk
    simp only [pairD, pairOkD, List.length_map, Bool.and_eq_true, decide_eq_true_eq]
    omega
  have e3 : (v.rs.map D.int).all (fun x => withinD x 0 3) = true := within_all.mpr h.rs
  simp only [HV.d, isHouseD, e1, e2, e3, withinD]
  simp [h.r1, h.r5, h.k1, h.k4, h.h1, h.h9]
  exact h.rs
theorem ints_of {l : List D} {lo hi : Int} (h : l.all (fun x => withinD x lo hi) = true) : ∃ ns : List Int, l = ns.map .int ∧ ∀ r ∈ ns, lo ≤ r ∧ r ≤ hi := by
  induction l with
  | nil => exact ⟨[], rfl, by simp⟩
  | cons x l ih =>
    rw [List.all_cons, Bool.and_eq_true] at h
    obtain ⟨i, rfl, h1, h2⟩ := within_int h.1
    obtain ⟨ns, rfl, h3⟩ := ih h.2
    exact ⟨i :: ns, rfl, by simpa using ⟨⟨h1, h2⟩, h3⟩⟩
theorem pureL_map {α : Type} {f : α → D} {l : List α} (h : ∀ x ∈ l, pureD (f x) = true) : pureL (l.map f) = true := by
  rw [pureL_iff]
  intro y hy
  obtain ⟨x, hx, rfl⟩ := List.mem_map.mp hy
  exact h x hx
theorem nL_ints (l : List Int) : nL (l.map .int) = l.length := by
  induction l with
  | nil => rfl
  | cons a l ih => simp [nL, nD, ih]; omega
theorem nL_map_le {α : Type} {f : α → D} {k : Nat} {l : List α} (h : ∀ x ∈ l, nD (f x) ≤ k) : nL (l.map f) ≤ l.length * k := by
  have := nL_le (xs := l.map f) (k := k) (by
    intro y hy
    obtain ⟨x, hx, rfl⟩ := List.mem_map.mp hy
    exact h x hx)
  simpa using this
theorem asc_len {m : Nat} {ps : List (Int × Int)} (ha : ascI ps = true) (hb : ∀ q ∈ ps, 0 ≤ q.1 ∧ q.1 < q.2 ∧ q.2 < m) : ps.length ≤ m * m := by
  have key : ∀ (ps : List (Int × Int)) (lo : Int), ascI ps = true → (∀ q ∈ ps, 0 ≤ q.1 ∧ q.1 < q.2 ∧ q.2 < m) → (∀ q ∈ ps.head?, lo ≤ q.1 * m + q.2) → 0 ≤ lo → lo ≤ m * m → (ps.length : Int) ≤ m * m - lo := by
    intro ps
    induction ps with
    | nil => intro lo _ _ _ _ h; simpa using h
    | cons q ps ih =>
      intro lo ha hb hh h0 h1
      have hq := hb q List.mem_cons_self
      have hl := hh q (by simp)
      have hm : q.1 * (m : Int) + q.2 + 1 ≤ m * m := by
        have : (q.1 + 1) * (m : Int) ≤ m * m := Int.mul_le_mul_of_nonneg_right (by omega) (by omega)
        rw [Int.add_mul] at this
        omega
      have := ih (q.1 * (m : Int) + q.2 + 1) (by cases ps <;> simp_all [ascI]) (fun y hy => hb y (List.mem_cons_of_mem _ hy)) (by
        intro y hy
        cases ps with
        | nil => simp at hy
        | cons z ps =>
          simp only [List.head?_cons, Option.mem_def, Option.some.injEq] at hy
          subst hy
          have hz := hb z (by simp)
          simp only [ascI, Bool.and_eq_true, Bool.or_eq_true, decide_eq_true_eq] at ha
          rcases ha.1 with h | h
          · have : (q.1 + 1) * (m : Int) ≤ z.1 * m := Int.mul_le_mul_of_nonneg_right (by omega) (by omega)
            rw [Int.add_mul] at this
            omega
          · rw [← h.1]; omega) (by have : 0 ≤ q.1 * (m : Int) := Int.mul_nonneg hq.1 (by omega); omega) hm
      simp only [List.length_cons]
      omega
  have := key ps 0 ha hb (fun q hq => by
    have hq' := hb q (List.mem_of_mem_head? hq)
    have : 0 ≤ q.1 * (m : Int) := Int.mul_nonneg hq'.1 (by omega)
    omega) (by omega) (by have : (0 : Int) ≤ (m * m : Nat) := by omega
                          simpa using this)
  have e : ((m * m : Nat) : Int) = (m : Int) * m := by simp
  omega
theorem HV.ok.thg {v : HV} (h : v.ok) : Thg v.d ∧ nD v.d ≤ 90 := by
  have hn : nD v.d ≤ 90 := by
    have e1 := nL_ints v.rs
    have e2 : nL (v.ks.map knD) ≤ v.ks.length * 7 := nL_map_le fun k hk => by
      simp [knD, nD, nL, nL_ints, (h.ks k hk).len]
    have e3 : nL (v.ps.map pairD) ≤ v.ps.length * 3 := nL_map_le fun k hk => by simp [pairD, nD, nL]
    have hl := asc_len h.asc h.ps
    have h2 : v.ks.length * v.ks.length ≤ 4 * 4 := Nat.mul_le_mul h.k4 h.k4
    have := h.r5
    have := h.k4
    simp only [HV.d, nD, nL]
    omega
  refine ⟨⟨?_, by unfold lim; omega⟩, hn⟩
  have e1 : pureL (v.rs.map D.int) = true := pureL_map fun _ _ => rfl
  have e2 : pureL (v.ks.map knD) = true := pureL_map fun k _ => by
    have : pureL (k.2.map D.int) = true := pureL_map fun _ _ => rfl
    simp only [knD, pureD, pureL, this, Bool.and_self]
  have e3 : pureL (v.ps.map pairD) = true := pureL_map fun k _ => rfl
  simp only [HV.d, pureD, pureL, e1, e2, e3, Bool.and_self]
theorem check_house_ok {v : HV} (h : v.ok) : callF DEFS WW (n + 5) i_check_house [v.d] S = .ok .non S := by
  rw [cF_eq D_check_house rfl rfl]
  simp only [c_check_house, k_check_house]
  simp [is_house_ok h.thg.1, h.is]
end
end MP

namespace MP
open PySem L2
def Pot (p : Nat) (S : Store) : Prop := ∃ v : Int, S[p]? = some (.lst [.int v])
def PotS (p : Nat) (S S' : Store) : Prop := Pot p S ∧ ∃ v : Int, S' = S.set p (.lst [.int v])
section
variable {n p : Nat} {x : D} {S S' S'' T : Store}
theorem get_lt {o : O} {i : Nat} (h : S[i]? = some o) : i < S.length := by
  rcases Nat.lt_or_ge i S.length with q | q
  · exact q
  · rw [List.getElem?_eq_none q] at h; cases h
theorem Pot.lt (h : Pot p S) : p < S.length := let ⟨_, h⟩ := h; get_lt h
theorem set_self {o : O} {i : Nat} (h : S[i]? = some o) : S.set i o = S := by
  refine List.ext_getElem? fun j => ?_
  rw [List.getElem?_set]
  split
  · rename_i e; subst e; rw [if_pos (get_lt h), h]
  · rfl
theorem PotS.refl (h : Pot p S) : PotS p S S := ⟨h, let ⟨v, e⟩ := h; ⟨v, (set_self e).symm⟩⟩
theorem PotS.pot (h : PotS p S S') : Pot p S' := by
  obtain ⟨h0, v, rfl⟩ := h
  exact ⟨v, by simp [h0.lt]⟩
theorem PotS.trans (h : PotS p S S') (h' : PotS p S' S'') : PotS p S S'' := by
  obtain ⟨h0, v, rfl⟩ := h
  obtain ⟨h1, w, rfl⟩ := h'
  exact ⟨h0, w, by simp⟩
theorem PotS.len (h : PotS p S S') : S'.length = S.length := by
  obtain ⟨h0, v, rfl⟩ := h
  simp
theorem PotS.fits (h : PotS p S S') : Fits S S' := by
  obtain ⟨h0, v, rfl⟩ := h
  exact .set rfl
theorem PotS.get {i : Nat} (h : PotS p S S') (hi : i ≠ p) : S'[i]? = S[i]? := by
  obtain ⟨h0, v, rfl⟩ := h
  rw [List.getElem?_set, if_neg (Ne.symm hi)]
theorem Pot.app (h : Pot p S) : Pot p (S ++ T) := by
  obtain ⟨v, e⟩ := h
  exact ⟨v, by rw [List.getElem?_append_left (get_lt e)]; exact e⟩
theorem PotS.app (h0 : Pot p S) (h : PotS p (S ++ T) S') : ∃ S1, S' = S1 ++ T ∧ PotS p S S1 := by
  obtain ⟨_, v, rfl⟩ := h
  exact ⟨S.set p (.lst [.int v]), by rw [List.set_append_left _ _ h0.lt], h0, v, rfl⟩
theorem take_okW {m : Int} (h : Pot p S) (h0 : 0 < m) (h1 : m < divTop) : ∃ (i : Int) (S' : Store), callF DEFS WW (n + 1) i__law_take [.ref p, .int m] S = .ok (.int i) S' ∧ 0 ≤ i ∧ i < m ∧ PotS p S S' := by
  have h' := h
  obtain ⟨v, hv⟩ := h
  refine ⟨v % m, S.set p (.lst [.int (v / m)]), ?_, Int.emod_nonneg _ (by omega), Int.emod_lt_of_pos _ h0, h', _, rfl⟩
  rw [cF_eq D__law_take rfl rfl]
  simp only [c__law_take, k__law_take]
  simp [idx_ref hv, b_mod h0, b_divW h0 h1, putD, hv, ixN]
theorem take_ok {m : Int} (h : Pot p S) (h0 : 0 < m) (h1 : m < 1073741824) : ∃ (i : Int) (S' : Store), callF DEFS WW (n + 1) i__law_take [.ref p, .int m] S = .ok (.int i) S' ∧ 0 ≤ i ∧ i < m ∧ PotS p S S' := take_okW h h0 (Int.lt_trans h1 top_big)
theorem take_app {m : Int} (h : Pot p S) (h0 : 0 < m) (h1 : m < 1073741824) : ∃ (i : Int) (S' : Store), callF DEFS WW (n + 1) i__law_take [.ref p, .int m] (S ++ T) = .ok (.int i) (S' ++ T) ∧ 0 ≤ i ∧ i < m ∧ PotS p S S' := by
  obtain ⟨i, S', e, a, b, g⟩ := take_ok (n := n) (h.app (T := T)) h0 h1
  obtain ⟨S1, rfl, g1⟩ := PotS.app h g
  exact ⟨i, S1, e, a, b, g1⟩
theorem cell_at_ok {ns : List Int} {k : Nat} : ∃ c : Int, callF DEFS WW (n + 1) i__law_cell_at [.scr (ns.map .int), .int k] S = .ok (.int c) S := by
  rw [cF_eq D__law_cell_at rfl rfl]
  simp only [c__law_cell_at, k__law_cell_at]
  by_cases h : k < ns.length
  · refine ⟨ns[k], ?_⟩
    have h2 : (k : Int) < (ns.length : Int) := by omega
    simp [h2, at_nat, h]
  · have h2 : ¬ ((k : Int) < (ns.length : Int)) := by omega
    exact ⟨0, by simp [h2]⟩
theorem pot_ok {c : Int} : ∃ v : Int, callF DEFS WW (n + 1) i__law_pot [.int c] S = .ok (.ref S.length) (S ++ [.lst [.int v]]) := by
  rw [cF_eq D__law_pot rfl rfl]
  simp only [c__law_pot, k__law_pot]
  have e10 : ∀ q, binD q .Pow (.int 10) (.int 18) S = .ok (.int (10 ^ 18)) S := fun _ => rfl
  simp [e10]
  by_cases h : (1000000000000000000 : Int) ≤ c
  · simp [h, e10]
  · simp [h]
    rw [show srcOf .rng [.int 64] S = some (.rng 0 64) from rfl]
    simp
    refine for_rng (P := fun z => ∃ v : Int, ends (thenS z _) = .ok (.ref S.length) (S ++ [.lst [.int v]])) (fun i r S' => S' = S ∧ ∃ (a : Int) (o1 o2 : Option D), r = [some (.int c), some (.int a), o1, o2]) (fun _ _ => False) ⟨rfl, 0, none, none, rfl⟩ ?_ ?_ (fun _ _ h => h.elim)
    · rintro i r S' hi ⟨rfl, a, o1, o2, rfl⟩
      have m1 : ∀ x q, binD q .Mult (.int 7919) (.int x) S' = .ok (.int (7919 * x)) S' := fun x q => b_mul (by simp [mulOk, p64])
      have m2 : ∀ x q, binD q .Mult (.int 69621) (.int x) S' = .ok (.int (69621 * x)) S' := fun x q => b_mul (by simp [mulOk, p64])
      have m3 : ∀ x q, binD q .Mult (.int x) (.int 48271) S' = .ok (.int (x * 48271)) S' := fun x q => b_mul (by simp [mulOk, p64])
      have m4 : ∀ x q, binD q .Mult (.int x) (.int 2147483587) S' = .ok (.int (x * 2147483587)) S' := fun x q => b_mul (by simp [mulOk, p64])
      have m5 : ∀ x q, binD q .Mod (.int x) (.int 2147483629) S' = .ok (.int (x % 2147483629)) S' := fun x q => b_mod (by decide)
      have m6 : ∀ x q, binD q .Mod (.int x) (.int 2147483647) S' = .ok (.int (x % 2147483647)) S' := fun x q => b_mod (by decide)
      have m7 : ∀ x q, binD q .Mod (.int x) (.int 2147483587) S' = .ok (.int (x % 2147483587)) S' := fun x q => b_mod (by decide)
      simp [m1, m2, m3, m4, m5, m6, m7]
      generalize hy : ((c % 2147483629 + 7919 * (i : Int) + 1) * 48271) % 2147483647 = y
      have b1 : 0 ≤ y := by rw [← hy]; exact Int.emod_nonneg _ (by decide)
      have b2 : y < 2147483647 := by rw [← hy]; exact Int.emod_lt_of_pos _ (by decide)
      have m8 : ∀ q, binD q .Mult (.int y) (.int y) S' = .ok (.int (y * y)) S' := fun q => b_mul (by
        unfold mulOk p64
        simp only [Bool.or_eq_true, Bool.and_eq_true, decide_eq_true_eq]
        omega)
      simp [m8, m7, m2, m4]
    · rintro r S' ⟨rfl, a, o1, o2, rfl⟩
      exact ⟨a, by simp⟩
theorem lc_draws {Γ : Cal} {q : Bool} {i m : Nat} {lo : Int} {elt : C} {r : Env} {P : Res D → Prop} {α : Type} (f : α → D) (A : α → Prop) (hm : m ≤ lim) (hp : Pot p S)
    (h : ∀ (k : Nat) S1, k < m → PotS p S S1 → ∃ (a : α) (S2 : Store), evE Γ elt (r.set i (some (.int (lo + k)))) (S1 ++ T) = .ok (f a) (S2 ++ T) ∧ A a ∧ PotS p S1 S2)
    (k : ∀ (as : List α) S1, as.length = m → (∀ a ∈ as, A a) → PotS p S S1 → P (newL q (as.map f) (S1 ++ T))) : P (lcRun Γ q (.one i) .no elt r (S ++ T) (.rng lo m)) := by
  refine lc_rngP hm (fun j acc S' => ∃ (as : List α) (S1 : Store), acc = as.map f ∧ as.length = j ∧ (∀ a ∈ as, A a) ∧ S' = S1 ++ T ∧ PotS p S S1) ⟨[], S, rfl, rfl, by simp, rfl, .refl hp⟩ ?_ ?_
  · rintro j acc S' hj ⟨as, S1, rfl, hl, ha, rfl, g⟩
    obtain ⟨a, S2, e, h1, g2⟩ := h j S1 hj g
    exact ⟨some (f a), S2 ++ T, by simp [e], as ++ [a], S2, by simp, by simp [hl], fun y hy => by
      rcases List.mem_append.mp hy with hy | hy
      · exact ha y hy
      · rw [List.mem_singleton.mp hy]; exact h1, rfl, g.trans g2⟩
  · rintro ys S' ⟨as, S1, rfl, hl, ha, rfl, g⟩
    exact k as S1 hl ha g
theorem perm_inv {α β : Type} {f : α → β} {g : β → α} (hg : ∀ a, g (f a) = a) {zs : List β} {l : List α} (h : zs.Perm (l.map f)) : ∃ l' : List α, zs = l'.map f ∧ l'.Perm l := by
  refine ⟨zs.map g, ?_, ?_⟩
  · rw [List.map_map]
    symm
    have : ∀ z ∈ zs, (f ∘ g) z = z := by
      intro z hz
      obtain ⟨a, _, rfl⟩ := List.mem_map.mp (h.mem_iff.mp hz)
      show f (g (f a)) = f a
      rw [hg]
    exact (List.map_congr_left this).trans (List.map_id _)
  · have e : (l.map f).map g = l := by
      rw [List.map_map]
      exact (List.map_congr_left fun a _ => hg a).trans (List.map_id _)
    rw [← e]
    exact h.map g
theorem sortD_spec {xs : List D} {ps : List PyData} (hp : xs.mapM (toPy S dep) = some ps) (ha : allAlike ps = true) (hs : sortable ps = true) :
    ∃ zs : List (D × PyData), sortD S xs = some (zs.map Prod.fst) ∧ zs.Perm (xs.zip ps) ∧ zs.Pairwise (fun a b => PySem.W.dataLe false Prod.snd a b = true) := by
  refine ⟨(xs.zip ps).mergeSort (PySem.W.dataLe false Prod.snd), ?_, List.mergeSort_perm _ _, ?_⟩
  · unfold sortD
    rw [hp]
    simp [ha, hs]
  · have T := PySem.W.sortLe_total (PyProof.Rows.listOrd PyProof.Rows.itemOrd) false (fun b : D × PyData => PySem.W.keyToks b.2)
    exact List.pairwise_mergeSort (fun a b c h1 h2 => T.trans a b c h1 h2) (fun a b => by rw [Bool.or_eq_true]; exact T.total a b) _
theorem py_tup (f : Nat) (xs : List D) : toPy S (f + 1) (.tup xs) = (xs.mapM (toPy S f)).map PyData.tuple := by simp only [toPy]
theorem py_int (f : Nat) (i : Int) : toPy S f (.int i) = some (.int i) := by cases f <;> rfl
theorem dep_eq : dep = 58 + 1 + 1 := rfl
theorem mapM_ints (f : Nat) (ns : List Int) : (ns.map D.int).mapM (toPy S f) = some (ns.map PyData.int) := by
  induction ns with
  | nil => rfl
  | cons a ns ih =>
    have e : toPy S f (.int a) = some (.int a) := by cases f <;> rfl
    simp [List.mapM_cons, e, ih]
theorem le_int (a b : Int) : PySem.W.dataLe (β := D × PyData) false Prod.snd (.int a, .int a) (.int b, .int b) = decide (a ≤ b) := by
  show (!PyProof.Rows.lexLt PyProof.Rows.itemOrd [.inl b] [.inl a]) = _
  simp [PyProof.Rows.lexLt, PyProof.Rows.itemOrd, PyProof.Rows.itemLt]
  by_cases h : a ≤ b
  · simp [h]
  · simp [h]; omega
theorem alike_ints (ns : List Int) : allAlike (ns.map PyData.int) = true ∧ sortable (ns.map PyData.int) = true := by
  constructor
  · simp [allAlike, PySem.W.alike]
  · simp [sortable]
theorem sort_ints (ns : List Int) : ∃ ms : List Int, sortD S (ns.map D.int) = some (ms.map D.int) ∧ ms.Perm ns ∧ ms.Pairwise (· ≤ ·) := by
  obtain ⟨zs, h1, h2, h3⟩ := sortD_spec (S := S) (mapM_ints dep ns) (alike_ints ns).1 (alike_ints ns).2
  have e : (ns.map D.int).zip (ns.map PyData.int) = ns.map fun a => (D.int a, PyData.int a) := by
    clear h1 h2 h3
    induction ns with
    | nil => rfl
    | cons a ns ih => simp [ih]
  rw [e] at h2
  obtain ⟨ms, rfl, h4⟩ := perm_inv (g := fun z : D × PyData => match z.1 with | .int i => i | _ => 0) (fun _ => rfl) h2
  refine ⟨ms, by rw [h1, List.map_map]; rfl, h4, ?_⟩
  rw [List.pairwise_map] at h3
  exact h3.imp fun {a b} h => by rw [le_int] at h; exact of_decide_eq_true h
def pairP (p : Int × Int) : PyData := .tuple [.int p.1, .int p.2]
theorem mapM_pairs (f : Nat) (ps : List (Int × Int)) : (ps.map pairD).mapM (toPy S (f + 2)) = some (ps.map pairP) := by
  induction ps with
  | nil => rfl
  | cons a ns ih =>
    have e : toPy S (f + 2) (pairD a) = some (pairP a) := by rw [pairD, py_tup]; simp [pairP, List.mapM_cons, py_int]
    simp [List.mapM_cons, e, ih]
end
end MP

namespace MP
open PySem L2
section
variable {n p : Nat} {x : D} {S S' S'' T : Store}
theorem at_mem {α : Type} {xs : List α} {i : Int} (h0 : 0 ≤ i) (h1 : i < xs.length) : ∃ x ∈ xs, atI xs i = some x := by
  obtain ⟨k, rfl⟩ : ∃ k : Nat, i = k := ⟨i.toNat, by omega⟩
  have hk : k < xs.length := by omega
  exact ⟨xs[k], by simp, by rw [at_nat]; simp [hk]⟩
theorem pick_int (ns : List Int) {i : Int} (h0 : 0 ≤ i) (h1 : i < ns.length) : ∃ m ∈ ns, atI (ns.map D.int) i = some (.int m) := by
  obtain ⟨x, hx, e⟩ := at_mem (xs := ns.map D.int) h0 (by simpa using h1)
  obtain ⟨m, hm, rfl⟩ := List.mem_map.mp hx
  exact ⟨m, hm, e⟩
theorem kM_lst {m : Bm} {g : Store → Res (List D)} {k : Nat} {xs : List D} (hm : m.ty = 1) (h : S[k]? = some (.lst xs)) : kM m g (.ref k) S = (g S).bind (mthD m (.ref k)) := by
  unfold kM
  simp [kindD, h, hm]
theorem kM_con {m : Bm} {g : Store → Res (List D)} {xs : List D} (hm : m.ty = 1) : kM m g (.con xs) S = (g S).bind (mthD m (.con xs)) := by
  unfold kM
  simp [kindD, hm]
theorem append_ok {k : Nat} {xs : List D} {v : D} (h : S[k]? = some (.lst xs)) (hl : xs.length < lim) : mthD .append (.ref k) [v] S = .ok .non (S.set k (.lst (xs ++ [v]))) := by
  simp [mthD, appendD, cellD, h, hl]
@[simp] theorem set_last (S : Store) (o o' : O) : (S ++ [o]).set S.length o' = S ++ [o'] := by
  rw [List.set_append_right _ _ (Nat.le_refl _)]
  simp
theorem set_at {k : Nat} (hk : S.length = k) (o : O) (j : Nat) : (S ++ T).set (k + j) o = S ++ T.set j o := by
  rw [List.set_append_right _ _ (by omega)]
  congr 2
  omega
theorem get_at {k : Nat} (hk : S.length = k) (j : Nat) : (S ++ T)[k + j]? = T[j]? := by
  rw [List.getElem?_append_right (by omega)]
  congr 1
  omega
theorem get_at0 {k : Nat} (hk : S.length = k) {o : O} : (S ++ o :: T)[k]? = some o := get_at (T := o :: T) hk 0
theorem get_at1 {k : Nat} (hk : S.length = k) {o o' : O} : (S ++ o :: o' :: T)[k + 1]? = some o' := get_at (T := o :: o' :: T) hk 1
theorem set_at0 {k : Nat} (hk : S.length = k) {o o' : O} : (S ++ o :: T).set k o' = S ++ o' :: T := set_at (T := o :: T) hk o' 0
theorem set_at1 {k : Nat} (hk : S.length = k) {o o' o'' : O} : (S ++ o :: o' :: T).set (k + 1) o'' = S ++ o :: o'' :: T := set_at (T := o :: o' :: T) hk o'' 1
theorem desc_rev {ms : List Int} (h : ms.Pairwise (· ≤ ·)) : descI ms.reverse = true := by
  have hr : ms.reverse.Pairwise (fun a b => b ≤ a) := by rw [List.pairwise_reverse]; exact h
  revert hr
  generalize ms.reverse = l
  intro hr
  induction l with
  | nil => rfl
  | cons a l ih =>
    cases l with
    | nil => rfl
    | cons b l =>
      rw [List.pairwise_cons] at hr
      simp only [descI, ih hr.2, Bool.and_true, decide_eq_true_eq]
      exact hr.1 b List.mem_cons_self
theorem asc_app {ps : List (Int × Int)} {a b : Int} (h : ascI ps = true) (hb : ∀ q ∈ ps, ltP q (a, b) = true) : ascI (ps ++ [(a, b)]) = true := by
  induction ps with
  | nil => rfl
  | cons q ps ih =>
    cases ps with
    | nil =>
      have := hb q (by simp)
      simp only [List.cons_append, List.nil_append, ascI, Bool.and_true]
      exact this
    | cons r ps =>
      simp only [ascI, Bool.and_eq_true] at h
      have := ih h.2 fun y hy => hb y (List.mem_cons_of_mem _ hy)
      simp only [List.cons_append, ascI, Bool.and_eq_true] at this ⊢
      exact ⟨h.1, this⟩
end
end MP

namespace MP
open PySem L2
section
variable {n p : Nat} {x : D} {S S' S'' T : Store}
@[simp] theorem idx_h0 (v : HV) : idxD v.d (.int 0) S = .ok (.tup (v.rs.map .int)) S := rfl
@[simp] theorem idx_h1 (v : HV) : idxD v.d (.int 1) S = .ok (.tup (v.ks.map knD)) S := rfl
@[simp] theorem idx_h2 (v : HV) : idxD v.d (.int 2) S = .ok (.tup (v.ps.map pairD)) S := rfl
@[simp] theorem idx_h3 (v : HV) : idxD v.d (.int 3) S = .ok (.int v.h) S := rfl
theorem ix_last {k : Nat} : ixN (k + 1) (-1) = some k := by
  unfold ixN
  rw [if_neg (by omega), if_pos (by omega)]
  congr 1
  omega
theorem put_ok {k j : Nat} {i : Int} {xs : List D} {v : D} (h : S[k]? = some (.lst xs)) (hj : ixN xs.length i = some j) : putD S (.ref k) (.int i) v = some (S.set k (.lst (xs.set j v))) := by
  simp [putD, h, hj]
@[simp] theorem idx_p0 (m : Int × Int) : idxD (pairD m) (.int 0) S = .ok (.int m.1) S := rfl
@[simp] theorem idx_p1 (m : Int × Int) : idxD (pairD m) (.int 1) S = .ok (.int m.2) S := rfl
def oddL : List D := [.non, .bl true, .bl false, .int (-1), .int (10 ^ 30), .str "", .str "a", .str "1", .tup [], .con [], .cdic [] [], .con [.tup []], .tup [.tup []], .tup [.int 0], .con [.int 0], .cdic [.inl 0] [.int 1], .tup [.bl true, .bl true]]
theorem odd_ok (hp : Pot p S) : ∃ (d : D) (S' : Store), callF DEFS WW (n + 2) i__law_odd [.ref p] S = .ok d S' ∧ d ∈ oddL ∧ PotS p S S' := by
  rw [cF_eq D__law_odd rfl rfl]
  simp only [c__law_odd, k__law_odd]
  have e10 : ∀ q S, binD q .Pow (.int 10) (.int 30) S = .ok (.int (10 ^ 30)) S := fun _ _ => rfl
  simp [e10]
  obtain ⟨c, S2, e2, c0, c1, g2⟩ := take_ok (n := n) hp (m := 17) (by decide) (by decide)
  simp [e2]
  obtain ⟨d, hd, ed⟩ := at_mem (xs := oddL) c0 (by show c < 17; exact c1)
  simp only [oddL] at ed
  simp only [Int.reducePow] at ed
  simp [ed]
  exact ⟨d, S2, ⟨rfl, rfl⟩, hd, g2⟩
end
end MP

namespace MP
open PySem L2
section
variable {n p : Nat} {x : D} {S S' S'' T : Store}
end
end MP

namespace MP
open PySem L2
section
variable {n p : Nat} {x : D} {S S' S'' T : Store}
theorem house2_ok (hp : Pot p S) : ∃ (v : HV) (S' : Store), callF DEFS WW (n + 2) i__law_house_v2 [.ref p] S = .ok v.d S' ∧ v.ok ∧ PotS p S S' := by
  rw [cF_fz D__law_house_v2 rfl rfl]
  simp only [c__law_house_v2, k__law_house_v2]
  simp
  obtain ⟨i1, S1, e1, a1, b1, g1⟩ := take_ok (n := n) hp (m := 5) (by decide) (by decide)
  simp [e1, src_rng1 (S := S1) (j := 1 + i1) (by unfold big; omega) (by unfold big; omega)]
  rw [show S1 = S1 ++ [] by simp]
  refine lc_draws (P := fun z => ∃ v S', cutR S (ends (thenS (Res.bind (Res.bind (Res.bind z _) _) _) _)) = .ok (HV.d v) S' ∧ v.ok ∧ PotS p S S') (T := []) D.int (fun i => 0 ≤ i ∧ i ≤ 3) (by unfold lim; omega) g1.pot (fun k S2 hk g2 => ?_) fun rs S2 hl hy g2 => ?_
  · obtain ⟨i2, S3, e2, a2, b2, g3⟩ := take_ok (n := n) (m := 4) g2.pot (by decide) (by decide)
    exact ⟨i2, S3, by simp [e2], ⟨a2, by omega⟩, g3⟩
  have G2 := g1.trans g2
  have hl1 : 1 ≤ rs.length := by omega
  have hl5 : rs.length ≤ 5 := by omega
  simp
  obtain ⟨i3, S3, e3, a3, b3, g3⟩ := take_app (n := n) (T := [.lst []]) G2.pot (m := 3) (by decide) (by decide)
  simp [e3]
  obtain ⟨m, hm, em⟩ := pick_int [1, 2, 4] a3 b3
  simp only [List.map_cons, List.map_nil] at em
  have hm1 : 1 ≤ m ∧ m ≤ 4 := by simp at hm; omega
  simp [em]
  obtain ⟨i4, S4, e4, a4, b4, g4⟩ := take_app (n := n) (T := [.lst []]) g3.pot (m := m) (by omega) (by omega)
  have G4 := G2.trans (g3.trans g4)
  simp [e4, src_rng1 (S := S4 ++ [.lst []]) (j := 1 + i4) (by unfold big; omega) (by unfold big; omega)]
  rw [show S2.length = S.length from G2.len]
  obtain ⟨Q, hQ⟩ : ∃ Q : Nat → Env → Store → Prop, Q = fun (i : Nat) (r : Env) (S' : Store) => ∃ (ks : List (Int × List Int)) (S1 : Store) (o1 o2 o3 : Option D), S' = S1 ++ [.lst (ks.map knD)] ∧ PotS p S S1 ∧ ks.length = i ∧ (∀ k ∈ ks, KOk k) ∧ r = [some (.ref p), some (.tup (rs.map D.int)), o1, some (.ref S.length), o2, none, none, none, none] := ⟨_, rfl⟩
  refine for_rng (P := fun z => ∃ v S', cutR S (ends (thenS z _)) = .ok (HV.d v) S' ∧ v.ok ∧ PotS p S S') Q (fun _ _ => False) ?_ ?_ ?_ (fun _ _ h => h.elim)
  · rw [hQ]
    exact ⟨[], S4, none, none, none, rfl, G4, rfl, by simp, rfl⟩
  · intro i r S5 hi hq
    rw [hQ] at hq
    obtain ⟨ks, S6, o1, o2, o3, rfl, g6, hlk, hk, rfl⟩ := hq
    simp
    rw [show ∀ S, srcOf .rng [.int 4] S = some (.rng 0 4) from fun _ => rfl]
    simp
    refine lc_draws (P := fun z => StepP _ _ (thenS (Res.bind (Res.bind (Res.bind z _) _) _) _)) (T := [.lst (ks.map knD)]) D.int (fun i => 0 ≤ i ∧ i ≤ 9) (by decide) g6.pot (fun k S7 hk g7 => ?_) fun ns S7 hln hy7 g7 => ?_
    · obtain ⟨i7, S8, e7, a7, b7, g8⟩ := take_app (n := n) (T := [.lst (ks.map knD)]) g7.pot (m := 3) (by decide) (by decide)
      simp [e7]
      obtain ⟨m', hm', em'⟩ := pick_int [2, 4, 10] a7 b7
      simp only [List.map_cons, List.map_nil] at em'
      have hm1' : 2 ≤ m' ∧ m' ≤ 10 := by simp at hm'; omega
      simp [em']
      obtain ⟨i8, S9, e8, a8, b8, g9⟩ := take_app (n := n) (T := [.lst (ks.map knD)]) g8.pot (m := m') (by omega) (by omega)
      simp [e8]
      exact ⟨i8, S9, by simp, ⟨a8, by omega⟩, g8.trans g9⟩
    · obtain ⟨ms, es, hperm, hsort⟩ := sort_ints (S := S7 ++ [.lst (ks.map knD)]) ns
      have G7 := g6.trans g7
      simp [pb_sorted, es]
      rw [kM_lst rfl (get_at0 (by rw [G7.len]))]
      simp
      obtain ⟨i8, S8, e8, a8, b8, g8⟩ := take_app (n := n) (T := [.lst (ks.map knD)]) g7.pot (m := 4) (by decide) (by decide)
      simp [e8]
      obtain ⟨m', hm', em'⟩ := pick_int [5, 40, 300, 999] a8 b8
      simp only [List.map_cons, List.map_nil] at em'
      have hm1' : 1 ≤ m' ∧ m' ≤ 999 := by simp at hm'; omega
      have G8 := G7.trans g8
      simp [em']
      rw [append_ok (get_at0 (by rw [G8.len])) (by simp; unfold lim; omega), set_at0 (by rw [G8.len])]
      simp
      rw [hQ]
      refine ⟨ks ++ [(m', ms.reverse)], S8, _, _, none, by simp [knD], G8, by simp [hlk], fun y hy => ?_, rfl⟩
      rcases List.mem_append.mp hy with hy | hy
      · exact hk y hy
      · rw [List.mem_singleton.mp hy]
        exact ⟨hm1'.1, hm1'.2, by simp [hperm.length_eq, hln], fun z hz => hy7 z (hperm.mem_iff.mp (List.mem_reverse.mp hz)), desc_rev hsort⟩
  · intro r S5 hq
    rw [hQ] at hq
    obtain ⟨ks, S6, o1, o2, o3, rfl, G6, hlk, hk, rfl⟩ := hq
    have hk1 : 1 ≤ ks.length := by omega
    have hk4 : ks.length ≤ 4 := by omega
    have len0 : lenD (S6 ++ [.lst (ks.map knD), .lst []]) (.ref S.length) = some ks.length := by rw [len_ref (get_at0 (by rw [G6.len]))]; simp
    simp [len0]
    rw [show ∀ S, srcOf .rng [.int (ks.length : Int)] S = some (.rng 0 ks.length) from fun S => src_len (by unfold lim; omega)]
    simp
    rw [show S6.length = S.length from G6.len]
    obtain ⟨Q, hQ⟩ : ∃ Q : Nat → Env → Store → Prop, Q = fun (i : Nat) (r : Env) (S' : Store) => ∃ (ps : List (Int × Int)) (S1 : Store) (o1 o2 o3 o4 : Option D), S' = S1 ++ [.lst (ks.map knD), .lst (ps.map pairD)] ∧ PotS p S S1 ∧ ascI ps = true ∧ (∀ q ∈ ps, 0 ≤ q.1 ∧ q.1 < q.2 ∧ q.2 < ks.length ∧ q.1 < (i : Int)) ∧ r = [some (.ref p), some (.tup (rs.map D.int)), o1, some (.ref S.length), o2, none, some (.ref (S.length + 1)), o3, o4] := ⟨_, rfl⟩
    refine for_rng (P := fun z => ∃ v S', cutR S (ends (thenS z _)) = .ok (HV.d v) S' ∧ v.ok ∧ PotS p S S') Q (fun _ _ => False) ?_ ?_ ?_ (fun _ _ h => h.elim)
    · rw [hQ]
      exact ⟨[], S6, _, _, none, none, rfl, G6, rfl, by simp, rfl⟩
    · intro i r S7 hi hq
      rw [hQ] at hq
      obtain ⟨ps, S8, o1, o2, o3, o4, rfl, G8, hasc, hps, rfl⟩ := hq
      have len1 : lenD (S8 ++ [.lst (ks.map knD), .lst (ps.map pairD)]) (.ref S.length) = some ks.length := by rw [len_ref (get_at0 (by rw [G8.len]))]; simp
      simp [len1]
      rw [show ∀ S, srcOf .rng [.int ((i : Int) + 1), .int (ks.length : Int)] S = some (.rng ((i : Int) + 1) (ks.length - (i + 1))) from fun S => by
        rw [src_rng2 (by unfold big; omega) (by unfold big; omega) (by unfold big; omega) (by unfold big; omega)]
        congr 2
        omega]
      simp
      obtain ⟨Q2, hQ2⟩ : ∃ Q2 : Nat → Env → Store → Prop, Q2 = fun (j : Nat) (r : Env) (S' : Store) => ∃ (ps : List (Int × Int)) (S1 : Store) (o1 o2 o3 o4 : Option D), S' = S1 ++ [.lst (ks.map knD), .lst (ps.map pairD)] ∧ PotS p S S1 ∧ ascI ps = true ∧ (∀ q ∈ ps, 0 ≤ q.1 ∧ q.1 < q.2 ∧ q.2 < ks.length ∧ (q.1 < (i : Int) ∨ q.1 = (i : Int) ∧ q.2 < (i : Int) + 1 + (j : Int))) ∧ r = [some (.ref p), some (.tup (rs.map D.int)), o1, some (.ref S.length), o2, none, some (.ref (S.length + 1)), some (.int i), o4] := ⟨_, rfl⟩
      refine for_rng (P := fun z => StepP _ _ (thenS z _)) Q2 (fun _ _ => False) ?_ ?_ ?_ (fun _ _ h => h.elim)
      · rw [hQ2]
        exact ⟨ps, S8, _, _, none, _, rfl, G8, hasc, fun q hq => by have := hps q hq; omega, rfl⟩
      · intro j r S9 hj hq
        rw [hQ2] at hq
        obtain ⟨ps, S10, o1, o2, o3, o4, rfl, G10, hasc, hps, rfl⟩ := hq
        have hlp := asc_len (m := ks.length) hasc fun q hq => by have := hps q hq; omega
        have hlp2 : ks.length * ks.length ≤ 4 * 4 := Nat.mul_le_mul hk4 hk4
        simp
        obtain ⟨i8, S11, e8, a8, b8, g11⟩ := take_app (n := n) (T := [.lst (ks.map knD), .lst (ps.map pairD)]) G10.pot (m := 3) (by decide) (by decide)
        have G11 := G10.trans g11
        simp [e8]
        by_cases h0 : i8 = 0
        · simp [h0]
          rw [kM_lst rfl (get_at1 (by rw [G11.len]))]
          simp
          rw [append_ok (get_at1 (by rw [G11.len])) (by simp; unfold lim; omega), set_at1 (by rw [G11.len])]
          simp
          rw [hQ2]
          refine ⟨ps ++ [((i : Int), (i : Int) + 1 + j)], S11, _, _, none, _, by simp [pairD], G11, asc_app hasc fun q hq => ?_, fun q hq => ?_, rfl⟩
          · have := hps q hq
            simp [ltP]
            omega
          · rcases List.mem_append.mp hq with hq | hq
            · have := hps q hq; omega
            · rw [List.mem_singleton.mp hq]
              simp
              omega
        · simp [h0]
          rw [hQ2]
          exact ⟨ps, S11, _, _, none, _, rfl, G11, hasc, fun q hq => by have := hps q hq; omega, rfl⟩
      · intro r S9 hq
        rw [hQ2] at hq
        obtain ⟨ps, S10, o1, o2, o3, o4, rfl, G10, hasc, hps, rfl⟩ := hq
        simp
        rw [hQ]
        exact ⟨ps, S10, _, _, _, _, rfl, G10, hasc, fun q hq => by have := hps q hq; omega, rfl⟩
    · intro r S7 hq
      rw [hQ] at hq
      obtain ⟨ps, S8, o1, o2, o3, o4, rfl, G8, hasc, hps, rfl⟩ := hq
      have s0 := seq_ref (S := S8 ++ [.lst (ks.map knD), .lst (ps.map pairD)]) (n := S.length) (get_at0 (by rw [G8.len]))
      have s1 := seq_ref (S := S8 ++ [.lst (ks.map knD), .lst (ps.map pairD)]) (n := S.length + 1) (get_at1 (by rw [G8.len]))
      simp [s0, s1]
      obtain ⟨i8, S9, e8, a8, b8, g9⟩ := take_app (n := n) (T := [.lst (ks.map knD), .lst (ps.map pairD)]) G8.pot (m := 2) (by decide) (by decide)
      simp [e8]
      obtain ⟨m', hm', em'⟩ := pick_int [3, 9] a8 b8
      simp only [List.map_cons, List.map_nil] at em'
      have hm1' : 3 ≤ m' ∧ m' ≤ 9 := by simp at hm'; omega
      simp [em']
      obtain ⟨i9, S10, e9, a9, b9, g10⟩ := take_app (n := n) (T := [.lst (ks.map knD), .lst (ps.map pairD)]) g9.pot (m := m') (by omega) (by omega)
      have G10 := G8.trans (g9.trans g10)
      simp [e9]
      have ok : (HV.mk rs ks ps (1 + i9)).ok := ⟨hl1, hl5, hy, hk1, hk4, hk, fun q hq => by have := hps q hq; exact ⟨this.1, this.2.1, this.2.2.1⟩, hasc, by show 1 ≤ 1 + i9; omega, by show 1 + i9 ≤ 9; omega⟩
      exact ⟨⟨rs, ks, ps, 1 + i9⟩, S10, cut_pure G10.fits ok.thg.1.p, ok, G10⟩
end
end MP

namespace MP
open PySem L2
section
variable {n p : Nat} {x : D} {S S' S'' T : Store}
def MvOk (R : Int) (m : Int × Int) : Prop := 0 ≤ m.1 ∧ m.1 < R ∧ 0 ≤ m.2 ∧ m.2 < R ∧ m.1 ≠ m.2
def MvsOk (R : Int) (ms : List (Int × Int)) : Prop := ∀ m ∈ ms, MvOk R m
theorem moves_ok {v : HV} (hv : v.ok) (hp : Pot p S) : ∃ (ms : List (Int × Int)) (S' : Store), callF DEFS WW (n + 2) i__law_moves [.ref p, v.d] S = .ok (.con (ms.map pairD)) S' ∧ ms.length ≤ 10 ∧ MvsOk v.rs.length ms ∧ PotS p S S' := by
  have r1 := hv.r1
  have r5 := hv.r5
  rw [cF_fz D__law_moves rfl rfl]
  simp only [c__law_moves, k__law_moves]
  simp
  obtain ⟨c, S1, ec, c0, c1, hc, g1⟩ : ∃ (c : Int) (S1 : Store), kT (evE ⟨callF DEFS WW (n + 1)⟩ (.call i__law_take (.cons (.var 0) (.cons (.val (.int 11)) .nil))) [some (.ref p), some v.d, some (.int v.rs.length), some (.ref S.length), none, none, none]) (evE ⟨callF DEFS WW (n + 1)⟩ (.val (.int 0)) [some (.ref p), some v.d, some (.int v.rs.length), some (.ref S.length), none, none, none]) (.bl (decide ((1 : Int) < v.rs.length))) (S ++ [.lst []]) = .ok (.int c) (S1 ++ [.lst []]) ∧ 0 ≤ c ∧ c < 11 ∧ (1 < v.rs.length ∨ c = 0) ∧ PotS p S S1 := by
    by_cases h1 : (1 : Int) < v.rs.length
    · obtain ⟨c, S1, e1, c0, c1, g1⟩ := take_app (n := n) (T := [.lst []]) hp (m := 11) (by decide) (by decide)
      exact ⟨c, S1, by simp [h1, e1], c0, c1, .inl (by omega), g1⟩
    · exact ⟨0, S, by simp [h1], by decide, by decide, .inr rfl, .refl hp⟩
  simp [ec, src_rng1 (S := S1 ++ [.lst []]) (j := c) (by unfold big; omega) (by unfold big; omega)]
  obtain ⟨Q, hQ⟩ : ∃ Q : Nat → Env → Store → Prop, Q = fun (i : Nat) (r : Env) (S' : Store) => ∃ (ms : List (Int × Int)) (S1 : Store) (o1 o2 o3 : Option D), S' = S1 ++ [.lst (ms.map pairD)] ∧ PotS p S S1 ∧ ms.length = i ∧ MvsOk v.rs.length ms ∧ r = [some (.ref p), some v.d, some (.int v.rs.length), some (.ref S.length), o1, o2, o3] := ⟨_, rfl⟩
  refine for_rng (P := fun z => ∃ (ms : List (Int × Int)) (S' : Store), cutR S (ends (thenS z _)) = .ok (.con (ms.map pairD)) S' ∧ ms.length ≤ 10 ∧ MvsOk v.rs.length ms ∧ PotS p S S') Q (fun _ _ => False) ?_ ?_ ?_ (fun _ _ h => h.elim)
  · rw [hQ]
    exact ⟨[], S1, _, _, _, rfl, g1, rfl, fun m hm => by simp at hm, rfl⟩
  · intro i r S5 hi hq
    rw [hQ] at hq
    obtain ⟨ms, S6, o1, o2, o3, rfl, g6, hl, hk, rfl⟩ := hq
    have hR : 1 < v.rs.length := by omega
    simp
    obtain ⟨a, S7, e7, a0, a1, g7⟩ := take_app (n := n) (T := [.lst (ms.map pairD)]) g6.pot (m := (v.rs.length : Int)) (by omega) (by omega)
    simp [e7]
    obtain ⟨b, S8, e8, b0, b1, g8⟩ := take_app (n := n) (T := [.lst (ms.map pairD)]) g7.pot (m := (v.rs.length : Int) - 1) (by omega) (by omega)
    have G8 := g6.trans (g7.trans g8)
    simp [e8, b_mod (show (0 : Int) < v.rs.length by omega)]
    generalize hz : (a + 1 + b) % (v.rs.length : Int) = z
    have hz' : z = a + 1 + b ∨ z = a + 1 + b - v.rs.length := by
      rcases (show v.rs.length = 2 ∨ v.rs.length = 3 ∨ v.rs.length = 4 ∨ v.rs.length = 5 by omega) with h | h | h | h <;> (rw [h] at hz a1 b1 ⊢; omega)
    have hzl : z < v.rs.length := by rw [← hz]; exact Int.emod_lt_of_pos _ (by omega)
    have hz0 : 0 ≤ z := by rw [← hz]; exact Int.emod_nonneg _ (by omega)
    have hmv : MvOk v.rs.length (a, z) := ⟨a0, a1, hz0, hzl, by show a ≠ z; omega⟩
    rw [kM_lst rfl (get_at0 (by rw [G8.len]))]
    simp
    rw [append_ok (get_at0 (by rw [G8.len])) (by simp; unfold lim; omega), set_at0 (by rw [G8.len])]
    have e0 : ms.map pairD ++ [.tup [.int a, .int z]] = (ms ++ [(a, z)]).map pairD := by simp [pairD]
    rw [e0]
    have hall : MvsOk v.rs.length (ms ++ [(a, z)]) := fun m hm => by
      rcases List.mem_append.mp hm with hm | hm
      · exact hk m hm
      · rw [List.mem_singleton.mp hm]; exact hmv
    have hlen' : (ms ++ [(a, z)]).length = i + 1 := by simp [hl]
    have htk : ∀ w, (ms ++ [(a, z)]).set i w = ms ++ [w] := fun w => by rw [List.set_append_right _ _ (by omega)]; simp [hl]
    generalize ms ++ [(a, z)] = ms' at hall hlen' htk
    simp
    obtain ⟨c5, S9, e9, c50, c51, g9⟩ := take_app (n := n) (T := [.lst (ms'.map pairD)]) G8.pot (m := 5) (by decide) (by decide)
    have G9 := G8.trans g9
    simp [e9]
    by_cases h5 : c5 = 0
    · obtain ⟨m0, rest, hd⟩ : ∃ m0 rest, ms' = m0 :: rest := by
        cases ms' with
        | nil => simp at hlen'
        | cons m0 ms => exact ⟨m0, _, rfl⟩
      have hm0 : MvOk v.rs.length m0 := hall m0 (by rw [hd]; simp)
      have gt := get_at0 (S := S9) (T := []) (k := S.length) (o := .lst (ms'.map pairD)) (by rw [G9.len])
      have ix : idxD (.ref S.length) (.int 0) (S9 ++ [.lst (ms'.map pairD)]) = .ok (pairD m0) (S9 ++ [.lst (ms'.map pairD)]) := by
        rw [idx_ref gt, hd]
        simp
      have lenx : (ms'.map pairD).length = i + 1 := by simp [hlen']
      simp [h5, ix]
      rw [put_ok gt (by rw [lenx]; exact ix_last), set_at0 (by rw [G9.len])]
      simp
      rw [hQ]
      refine ⟨ms ++ [(m0.2, m0.1)], S9, _, _, _, ?_, G9, by simp [hl], fun m hm => ?_, rfl⟩
      · rw [← htk, List.map_set]
        rfl
      · rcases List.mem_append.mp hm with hm | hm
        · exact hk m hm
        · rw [List.mem_singleton.mp hm]
          obtain ⟨q1, q2, q3, q4, q5⟩ := hm0
          exact ⟨q3, q4, q1, q2, Ne.symm q5⟩
    · simp [h5]
      rw [hQ]
      exact ⟨ms', S9, _, _, _, rfl, G9, hlen', hall, rfl⟩
  · intro r S5 hq
    rw [hQ] at hq
    obtain ⟨ms, S6, o1, o2, o3, rfl, g6, hl, hk, rfl⟩ := hq
    simp
    rw [cut_lst g6.fits (Nat.le_refl _) (get_at0 (by rw [g6.len])) (pureL_map fun _ _ => rfl)]
    exact ⟨ms, S6, rfl, by omega, hk, g6⟩
end
end MP

namespace MP
open PySem L2
section
variable {n p : Nat} {x : D} {S S' S'' T : Store}
end
end MP

namespace MP
open PySem L2
section
variable {n p : Nat} {x : D} {S S' S'' T : Store}
def gapI : List (Int × Int) → Bool
  | a :: b :: r => decide (a.2 < b.1) && gapI (b :: r)
  | _ => true
end
end MP

namespace MP
open PySem L2
section
variable {n p : Nat} {x : D} {S S' S'' T : Store}
theorem isx_own {q : Bool} (k d : Str) (h : d ∈ excNames) : bltD q .isx [.exn k, .own d] S = .ok (.bl (decide (k = d))) S := by simp [bltD, isxD, h]
theorem isx_val {q : Bool} (k : Str) : bltD q .isx [.exn k, .ty "ValueError"] S = .ok (.bl true) S := by simp [bltD, isxD]
def wordOf (c : Str) : Str := (["house", "outs", "room", "hour", "pages", "lot", "asks", "number", "moves", "each", "order", "page", "out", "twice", "missing", "many", "deed"] : List Str).getD (excNames.idxOf c) "other"
theorem add_rc {k : Nat} {xs ys : List D} (h : S[k]? = some (.lst xs)) (hl : xs.length + ys.length ≤ lim) : binD false .Add (.ref k) (.con ys) S = .ok (.ref S.length) (S ++ [.lst (xs ++ ys)]) := by
  simp [binD, addD, plOf, lstOf, h, hl]
theorem word_len {c : Str} (hc : c ∈ excNames) : (excNames.map fun d => decide (c = d)).count true = 1 ∧ (excNames.map fun d => decide (c = d)).idxOf true = excNames.idxOf c := by
  revert c
  decide +kernel
theorem word_at {c : Str} (hc : c ∈ excNames) : ([D.str "house", .str "outs", .str "room", .str "hour", .str "pages", .str "lot", .str "asks", .str "number", .str "moves", .str "each", .str "order", .str "page", .str "out", .str "twice", .str "missing", .str "many", .str "deed"] : List D)[excNames.idxOf c]? = some (.str (wordOf c)) := by
  simp only [excNames, List.mem_cons, List.not_mem_nil, or_false] at hc
  rcases hc with rfl | rfl | rfl | rfl | rfl | rfl | rfl | rfl | rfl | rfl | rfl | rfl | rfl | rfl | rfl | rfl | rfl <;> rfl
theorem word_ok {c : Str} (hc : c ∈ excNames) : callF DEFS WW (n + 1) i__law_word [.exn c] S = .ok (.str (wordOf c)) S := by
  rw [cF_fz D__law_word rfl rfl]
  simp only [c__law_word, k__law_word]
  have ho : ∀ d ∈ excNames, ∀ q S, bltD q .isx [.exn c, .own d] S = .ok (.bl (decide (c = d))) S := fun d hd q S => isx_own c d hd
  simp only [excNames, List.forall_mem_cons] at ho
  obtain ⟨h1, h2, h3, h4, h5, h6, h7, h8, h9, h10, h11, h12, h13, h14, h15, h16, h17, -⟩ := ho
  simp [h1, h2, h3, h4, h5, h6, h7, h8, h9, h10, h11, h12, h13, h14, h15, h16, h17, isx_val]
  rw [add_rc (xs := _) (by simp; rfl) (by simp [lim])]
  simp [h1, h2, h3, h4, h5, h6, h7, h8, h9, h10, h11, h12, h13, h14, h15, h16, h17, isx_val]
  rw [add_rc (xs := _) (by simp; rfl) (by simp [lim])]
  simp [h1, h2, h3, h4, h5, h6, h7, h8, h9, h10, h11, h12, h13, h14, h15, h16, h17, isx_val]
  rw [add_rc (xs := _) (by simp; rfl) (by simp [lim])]
  simp [h1, h2, h3, h4, h5, h6, h7, h8, h9, h10, h11, h12, h13, h14, h15, h16, h17, isx_val]
  rw [kM_lst rfl (get_at (T := [_, _, _, _]) rfl 3)]
  simp [h17]
  rw [append_ok (get_at (T := [_, _, _, _]) rfl 3) (by simp [lim]), set_at (T := [_, _, _, _]) rfl _ 3]
  simp
  obtain ⟨T, hT⟩ : ∃ T : Store, T = [O.lst [D.bl (decide (c = Str.ofString "NoHouse")), D.bl (decide (c = Str.ofString "NoOuts")),
                        D.bl (decide (c = Str.ofString "NoRoom")), D.bl (decide (c = Str.ofString "NoHour"))],
                    O.lst
                      [D.bl (decide (c = Str.ofString "NoHouse")), D.bl (decide (c = Str.ofString "NoOuts")),
                        D.bl (decide (c = Str.ofString "NoRoom")), D.bl (decide (c = Str.ofString "NoHour")),
                        D.bl (decide (c = Str.ofString "NoPages")), D.bl (decide (c = Str.ofString "NoLot")),
                        D.bl (decide (c = Str.ofString "NoAsks")), D.bl (decide (c = Str.ofString "NoNumber"))],
                    O.lst
                      [D.bl (decide (c = Str.ofString "NoHouse")), D.bl (decide (c = Str.ofString "NoOuts")),
                        D.bl (decide (c = Str.ofString "NoRoom")), D.bl (decide (c = Str.ofString "NoHour")),
                        D.bl (decide (c = Str.ofString "NoPages")), D.bl (decide (c = Str.ofString "NoLot")),
                        D.bl (decide (c = Str.ofString "NoAsks")), D.bl (decide (c = Str.ofString "NoNumber")),
                        D.bl (decide (c = Str.ofString "NoMoves")), D.bl (decide (c = Str.ofString "NoEach")),
                        D.bl (decide (c = Str.ofString "NoOrder")), D.bl (decide (c = Str.ofString "NoPage"))],
                   O.lst ((excNames.map fun d => decide (c = d)).map D.bl)] := ⟨_, rfl⟩
  have g3 : (S ++ T)[S.length + 3]? = some (.lst ((excNames.map fun d => decide (c = d)).map D.bl)) := by rw [hT]; exact get_at (T := [_, _, _, _]) rfl 3
  have hT' := hT
  simp only [excNames, List.map_cons, List.map_nil] at hT'
  rw [← hT']
  obtain ⟨w1, w2⟩ := word_len hc
  have hlt : excNames.idxOf c < excNames.length := List.idxOf_lt_length_of_mem hc
  rw [kM_lst rfl g3]
  simp
  rw [show mthD .count (.ref (S.length + 3)) [.bl true] (S ++ T) = .ok (.int 1) (S ++ T) from by
    simp only [mthD, countD]
    rw [lst_ref g3]
    have hf : ((excNames.map fun d => decide (c = d)).map D.bl).all isFlat = true := by rw [List.all_map]; exact List.all_eq_true.mpr fun _ _ => rfl
    have hc : ((excNames.map fun d => decide (c = d)).map D.bl).countP (fun z => eqF z (.bl true)) = 1 := by
      rw [List.countP_map, ← w1]; rfl
    simp only [hf, hc, isFlat, Bool.and_self, if_true]
    rfl]
  simp [isx_val]
  rw [b_addC (by simp [lim])]
  simp
  rw [kM_lst rfl g3]
  simp
  rw [show mthD .index (.ref (S.length + 3)) [.bl true] (S ++ T) = .ok (.int (excNames.idxOf c : Nat)) (S ++ T) from by
    simp only [mthD, indexD]
    rw [lst_ref g3, ← w2]
    have hf : ((excNames.map fun d => decide (c = d)).map D.bl).all isFlat = true := by rw [List.all_map]; exact List.all_eq_true.mpr fun _ _ => rfl
    have hl : (excNames.map fun d => decide (c = d)).idxOf true < (excNames.map fun d => decide (c = d)).length := by rw [w2, List.length_map]; exact hlt
    simp only [hf, isFlat, Bool.and_self, if_true, List.findIdx?_map]
    rw [show ((fun z => eqF z (D.bl true)) ∘ D.bl) = (· == true) from rfl, List.findIdx?_eq_some_of_exists (by simpa using hc)]
    rfl]
  simp
  rw [at_nat]
  rw [word_at hc]
  simp
  exact cut_pure .refl rfl
end
end MP

namespace MP
open PySem L2
section
variable {n p : Nat} {x : D} {S S' S'' T : Store}
def gapW : List (Int × Int) → Bool
  | a :: b :: r => decide (a.2 ≤ b.1) && gapW (b :: r)
  | _ => true
theorem gapI_W : ∀ {ps : List (Int × Int)}, gapI ps = true → gapW ps = true
  | [], _ => rfl
  | [_], _ => rfl
  | a :: b :: r, h => by
    simp only [gapI, Bool.and_eq_true, decide_eq_true_eq] at h
    simp only [gapW, Bool.and_eq_true, decide_eq_true_eq]
    exact ⟨by omega, gapI_W h.2⟩
instance gapCoe {ps : List (Int × Int)} : Coe (gapI ps = true) (gapW ps = true) := ⟨gapI_W⟩
end
end MP

namespace MP
open PySem L2
section
variable {n p : Nat} {x : D} {S S' S'' T : Store}
end
end MP

namespace MP
open PySem L2
section
variable {n p B d k : Nat} {x : D} {S S' S'' T : Store}
structure Wee (B d k : Nat) (x : D) : Prop where
  s : shwD B x = true
  d : dpD x ≤ d
  n : nD x ≤ k
structure WeeL (B d k : Nat) (xs : List D) : Prop where
  s : shwL B xs = true
  d : dpL xs ≤ d
  n : nL xs ≤ k
mutual
theorem shw_mono {B B' : Nat} (h : B ≤ B') : ∀ {x : D}, shwD B x = true → shwD B' x = true
  | .non, _ => rfl
  | .bl _, _ => rfl
  | .int i, e => by simp only [shwD, decide_eq_true_eq] at e ⊢; omega
  | .str _, e => e
  | .tup xs, e => by simp only [shwD] at e ⊢; exact shw_monoL h e
  | .con xs, e => by simp only [shwD] at e ⊢; exact shw_monoL h e
  | .cdic ks vs, e => by
    simp only [shwD, Bool.and_eq_true] at e ⊢
    refine ⟨?_, shw_monoL h e.2⟩
    rw [List.all_eq_true] at e ⊢
    intro y hy
    have := e.1 y hy
    cases y with
    | inl i => simp only [keyOk, decide_eq_true_eq] at this ⊢; omega
    | inr _ => exact this
  | .ty _, e | .own _, e | .ref _, e | .exn _, e | .scr _, e => by cases e
theorem shw_monoL {B B' : Nat} (h : B ≤ B') : ∀ {xs : List D}, shwL B xs = true → shwL B' xs = true
  | [], _ => rfl
  | x :: xs, e => by
    simp only [shwL, Bool.and_eq_true] at e ⊢
    exact ⟨shw_mono h e.1, shw_monoL h e.2⟩
end
theorem Wee.up {B' d' k' : Nat} (h : Wee B d k x) (hb : B ≤ B') (hd : d ≤ d') (hk : k ≤ k') : Wee B' d' k' x := ⟨shw_mono hb h.s, Nat.le_trans h.d hd, Nat.le_trans h.n hk⟩
theorem WeeL.up {xs : List D} {B' d' k' : Nat} (h : WeeL B d k xs) (hb : B ≤ B') (hd : d ≤ d') (hk : k ≤ k') : WeeL B' d' k' xs := ⟨shw_monoL hb h.s, Nat.le_trans h.d hd, Nat.le_trans h.n hk⟩
theorem Wee.thg (h : Wee B d k x) (hk : k ≤ lim) : Thg x := ⟨shw_pure h.s, Nat.le_trans h.n hk⟩
theorem Wee.tup {xs : List D} (h : WeeL B d k xs) : Wee B (d + 1) (k + 1) (.tup xs) := ⟨h.s, by simp only [dpD]; exact Nat.succ_le_succ h.d, by simp only [nD]; exact Nat.succ_le_succ h.n⟩
theorem Wee.con {xs : List D} (h : WeeL B d k xs) : Wee B (d + 1) (k + 1) (.con xs) := ⟨h.s, by simp only [dpD]; exact Nat.succ_le_succ h.d, by simp only [nD]; exact Nat.succ_le_succ h.n⟩
theorem WeeL.of {xs : List D} (h : Wee B (d + 1) (k + 1) (.tup xs)) : WeeL B d k xs := ⟨h.s, by have := h.d; simp only [dpD] at this; omega, by have := h.n; simp only [nD] at this; omega⟩
theorem WeeL.app {xs ys : List D} {k' : Nat} (h : WeeL B d k xs) (h' : WeeL B d k' ys) : WeeL B d (k + k') (xs ++ ys) := by
  refine ⟨?_, ?_, ?_⟩
  · rw [shwL_iff]
    intro y hy
    rcases List.mem_append.mp hy with hy | hy
    · exact shwL_iff.mp h.s y hy
    · exact shwL_iff.mp h'.s y hy
  · rw [dpL_le]
    intro y hy
    rcases List.mem_append.mp hy with hy | hy
    · exact dpL_le.mp h.d y hy
    · exact dpL_le.mp h'.d y hy
  · rw [nL_append]; have := h.n; have := h'.n; omega
theorem WeeL.one (h : Wee B d k x) : WeeL B d k [x] := ⟨by simp [shwL, h.s], by simp [dpL, h.d], by simp [nL, h.n]⟩
theorem WeeL.sub {xs ys : List D} (h : WeeL B d k xs) (hs : ys.Sublist xs) : WeeL B d k ys :=
  ⟨shwL_iff.mpr fun y hy => shwL_iff.mp h.s y (hs.subset hy), dpL_le.mpr fun y hy => dpL_le.mp h.d y (hs.subset hy), Nat.le_trans (nL_sub hs) h.n⟩
theorem WeeL.mem {xs : List D} (h : WeeL B d k xs) (hx : x ∈ xs) : Wee B d k x := ⟨shwL_iff.mp h.s x hx, dpL_le.mp h.d x hx, Nat.le_trans (nL_mem hx) h.n⟩
theorem WeeL.len {xs : List D} (h : WeeL B d k xs) : xs.length ≤ k := Nat.le_trans (nL_len xs) h.n
theorem cut_sub (xs : List D) (l h : Option Int) : (cut xs l h).Sublist xs := (List.take_sublist _ _).trans (List.drop_sublist _ _)
theorem WeeL.cut {xs : List D} (h : WeeL B d k xs) (l u : Option Int) : WeeL B d k (cut xs l u) := h.sub (cut_sub xs l u)
def oddOk (d : D) : Bool := shwD (10 ^ 30) d && decide (dpD d ≤ 3) && decide (nD d ≤ 3)
theorem odd_wee (hd : x ∈ oddL) : Wee (10 ^ 30) 3 3 x := by
  have h : oddL.all oddOk = true := by decide +kernel
  have := List.all_eq_true.mp h x hd
  simp only [oddOk, Bool.and_eq_true, decide_eq_true_eq] at this
  exact ⟨this.1.1, this.1.2, this.2⟩
theorem c_eqE {xs : List D} : cmpD .Eq (.tup xs) (.tup []) S = .ok (.bl xs.isEmpty) S := by
  simp [cmpD, eqD, isFlat]
def BentR (p B d k : Nat) (S : Store) (z : Res D) : Prop := ∃ (y : D) (S' : Store), z = .ok y S' ∧ Wee B d k y ∧ PotS p S S'
theorem addT {q : Bool} {xs ys : List D} (h : xs.length + ys.length ≤ 10000) : binD q .Add (.tup xs) (.tup ys) S = .ok (.tup (xs ++ ys)) S := b_addT (by unfold lim; omega)
theorem odd_bent (hB : 10 ^ 30 ≤ B) (hd : 3 ≤ d) (hk : 3 ≤ k) (hp : Pot p S) : ∃ (y : D) (S' : Store), callF DEFS WW (n + 2) i__law_odd [.ref p] S = .ok y S' ∧ Wee B d k y ∧ PotS p S S' := by
  obtain ⟨y, S', e, hy, g⟩ := odd_ok (n := n) hp
  exact ⟨y, S', e, (odd_wee hy).up hB hd hk, g⟩
theorem whole_inv (h : wholeD x = true) : ∃ i, x = .int i := by cases x <;> first | exact ⟨_, rfl⟩ | cases h
theorem bent_flat (hB : 10 ^ 30 ≤ B) (hx : Wee B d k x) (ht : isTupD x = false) (hp : Pot p S) : BentR p (B + 10000) 3 3 S (callF DEFS WW (n + 3) i__law_bent [.ref p, x] S) := by
  rw [cF_eq D__law_bent rfl rfl]
  simp only [c__law_bent, k__law_bent]
  have e4 : ∀ q S, binD q .Pow (.int 10) (.int 4) S = .ok (.int (10 ^ 4)) S := fun _ _ => rfl
  simp [isi_tup (shw_pure hx.s), ht, law_whole_ok (n := n + 1) (shw_pure hx.s)]
  cases hw : wholeD x with
  | false =>
    simp
    obtain ⟨y, S1, e1, h1, g1⟩ := odd_bent (n := n) (B := B + 10000) (by omega) (Nat.le_refl 3) (Nat.le_refl 3) hp
    simp [e1]
    exact ⟨y, S1, rfl, h1, g1⟩
  | true =>
    obtain ⟨i, rfl⟩ := whole_inv hw
    simp
    obtain ⟨a, S1, e1, a1, b1, g1⟩ := take_ok (n := n + 1) hp (m := 3) (by decide) (by decide)
    simp [e1]
    by_cases ha : 0 < a
    · simp [ha, e4]
      obtain ⟨c, S2, e2, a2, b2, g2⟩ := take_ok (n := n + 1) g1.pot (m := 6) (by decide) (by decide)
      obtain ⟨m, hm, em⟩ := pick_int [1, -1, 9, 100, 9999, -10000] a2 b2
      simp only [List.map_cons, List.map_nil] at em
      have hm1 : -10000 ≤ m ∧ m ≤ 10000 := by simp at hm; omega
      simp [e2, em]
      have hi := hx.s
      simp only [shwD, decide_eq_true_eq] at hi
      exact ⟨_, S2, rfl, ⟨by simp only [shwD, decide_eq_true_eq]; omega, by simp [dpD], by simp [nD]⟩, g1.trans g2⟩
    · simp [ha]
      obtain ⟨y, S2, e2, h2, g2⟩ := odd_bent (n := n) (B := B + 10000) (by omega) (Nat.le_refl 3) (Nat.le_refl 3) g1.pot
      simp [e2]
      exact ⟨y, S2, rfl, h2, g1.trans g2⟩
theorem bent_ok (hB : 10 ^ 30 ≤ B) (hk : k ≤ 1000) : ∀ (d : Nat) {x : D} {S : Store}, Wee B d k x → Pot p S → BentR p (B + 10000) (d + 5) (2 * (d * k) + 3 * k + 20) S (callF DEFS WW (n + d + 3) i__law_bent [.ref p, x] S) := by
  intro d
  induction d with
  | zero =>
    intro x S hx hp
    obtain ⟨y, S', e, h, g⟩ := bent_flat (n := n) hB hx (by have := hx.d; cases x <;> simp [dpD, isTupD] at this ⊢) hp
    exact ⟨y, S', e, h.up (Nat.le_refl _) (by omega) (by omega), g⟩
  | succ d ih =>
    intro x S hx hp
    rw [show n + (d + 1) + 3 = (n + d + 1) + 3 by omega]
    cases ht : isTupD x with
    | false =>
      obtain ⟨y, S', e, h, g⟩ := bent_flat (n := n + d + 1) hB hx ht hp
      exact ⟨y, S', e, h.up (Nat.le_refl _) (by omega) (by omega), g⟩
    | true =>
      obtain ⟨xs, rfl⟩ : ∃ xs, x = .tup xs := by cases x <;> first | exact ⟨_, rfl⟩ | cases ht
      have k1 : 1 ≤ k := Nat.le_trans (nD_pos _) hx.n
      obtain ⟨k, rfl⟩ : ∃ j, k = j + 1 := ⟨k - 1, by omega⟩
      have hl := WeeL.of hx
      have hlen := hl.len
      have dk : (d + 1) * (k + 1) = d * (k + 1) + (k + 1) := Nat.succ_mul _ _
      rw [dk]
      generalize hK : d * (k + 1) = K
      rw [cF_eq D__law_bent rfl rfl]
      simp only [c__law_bent, k__law_bent]
      simp [isi_tup (shw_pure hx.s), isTupD]
      obtain ⟨w, S1, e1, a1, b1, g1⟩ := take_ok (n := n + d + 2) hp (m := 12) (by decide) (by decide)
      simp [e1, c_eqE]
      have hU := hl.up (B' := B + 10000) (d' := d + 5) (k' := k) (by omega) (by omega) (Nat.le_refl _)
      have hor : ∃ b, kT (retB true) (evE ⟨callF DEFS WW (n + d + 3)⟩ (.cmp .Eq (.var 1) (.tup .nil)) [some (.ref p), some (.tup xs), some (.int w), none]) (.bl (decide (w = 0))) S1 = .ok (.bl b) S1 ∧ (b = false → xs ≠ []) := by
        by_cases hw : w = 0
        · exact ⟨true, by simp [hw], fun h => by cases h⟩
        · exact ⟨xs.isEmpty, by simp [hw, c_eqE], fun h => by simpa using h⟩
      obtain ⟨c, hc, hcx⟩ := hor
      rw [hc]
      have done : ∀ {z : D} {S2 : Store}, Wee (B + 10000) (d + 6) (2 * (K + (k + 1)) + 3 * (k + 1) + 20) z → PotS p S S2 → BentR p (B + 10000) (d + 1 + 5) (2 * (K + (k + 1)) + 3 * (k + 1) + 20) S (.ok z S2) := fun h g => ⟨_, _, rfl, h, g⟩
      cases c with
      | true =>
        simp
        obtain ⟨y1, S2, e2, h2, g2⟩ := odd_bent (n := n + d + 1) (B := B + 10000) (by omega) (Nat.le_refl 3) (Nat.le_refl 3) g1.pot
        simp [e2, pb_list]
        obtain ⟨y2, S3, e3, h3, g3⟩ := odd_bent (n := n + d + 1) (B := B + 10000) (by omega) (Nat.le_refl 3) (Nat.le_refl 3) g2.pot
        have c1 := (cut_sub xs (some (-1)) none).length_le
        simp [e3, addT (xs := xs) (ys := [y2]) (by simp; omega), addT (xs := xs) (ys := cut xs (some (-1)) none) (by omega)]
        obtain ⟨i, S4, e4, a4, b4, g4⟩ := take_ok (n := n + d + 2) g3.pot (m := 4) (by decide) (by decide)
        obtain ⟨z, hz, ez⟩ := at_mem (xs := [y1, .con xs, .tup (xs ++ [y2]), .tup (xs ++ cut xs (some (-1)) none)]) a4 b4
        simp [e4, ez]
        refine done ?_ (g1.trans (g2.trans (g3.trans g4)))
        simp only [List.mem_cons, List.not_mem_nil, or_false] at hz
        rcases hz with rfl | rfl | rfl | rfl
        · exact h2.up (Nat.le_refl _) (by omega) (by omega)
        · exact (Wee.con hU).up (Nat.le_refl _) (by omega) (by omega)
        · exact (Wee.tup (hU.app (WeeL.one (h3.up (d' := d + 5) (Nat.le_refl _) (by omega) (Nat.le_refl _))))).up (Nat.le_refl _) (by omega) (by omega)
        · exact (Wee.tup (hU.app (hU.cut _ _))).up (Nat.le_refl _) (by omega) (by omega)
      | false =>
        have hne := hcx rfl
        have hpos : 0 < xs.length := List.length_pos_iff.mpr hne
        simp
        obtain ⟨i, S2, e2, a2, b2, g2⟩ := take_ok (n := n + d + 2) g1.pot (m := xs.length) (by omega) (by omega)
        have G2 := g1.trans g2
        have hlc : ∀ l u, (cut xs l u).length ≤ xs.length := fun l u => (cut_sub xs l u).length_le
        have L := hlc none (some i)
        have L2 := hlc (some (i + 1)) none
        have L3 := hlc (some i) (some (i + 1))
        have L4 := hlc (some i) none
        simp [e2]
        by_cases w1 : w = 1
        · simp [w1, addT (xs := cut xs none (some i)) (ys := cut xs (some (i + 1)) none) (by omega)]
          exact done ((Wee.tup ((hU.cut _ _).app (hU.cut _ _))).up (Nat.le_refl _) (by omega) (by omega)) G2
        · by_cases w2 : w = 2
          · simp [w2, addT (xs := cut xs none (some i)) (ys := cut xs (some i) (some (i + 1))) (by omega)]
            rw [addT (by simp; omega)]
            simp
            refine done ?_ G2
            rw [← List.append_assoc]
            exact (Wee.tup (((hU.cut _ _).app (hU.cut _ _)).app (hU.cut _ _))).up (Nat.le_refl _) (by omega) (by omega)
          · simp [w1, w2]
            obtain ⟨z, hz, ez⟩ := at_mem (xs := xs) a2 b2
            simp [ez]
            obtain ⟨y, S3, e3, h3, g3⟩ := ih ((hl.mem hz).up (Nat.le_refl _) (Nat.le_refl _) (by omega)) G2.pot
            rw [hK] at h3
            simp [e3]
            rw [addT (ys := [y]) (by simp; omega)]
            simp
            rw [addT (by simp; omega)]
            simp
            refine done ?_ (G2.trans g3)
            have := Wee.tup (((hU.cut none (some i)).app (WeeL.one h3)).app (hU.cut (some (i + 1)) none))
            simp only [List.append_assoc, List.cons_append, List.nil_append] at this
            exact this.up (Nat.le_refl _) (by omega) (by omega)
end
end MP

namespace MP
open PySem L2
section
variable {n p : Nat} {x : D} {S S' S'' T : Store}
@[simp] theorem kM_index {g : Store → Res (List D)} {xs : List D} : kM .index g (.con xs) S = (g S).bind (mthD .index (.con xs)) := kM_con rfl
@[simp] theorem kM_count {g : Store → Res (List D)} {xs : List D} : kM .count g (.con xs) S = (g S).bind (mthD .count (.con xs)) := kM_con rfl
theorem is_room8_ok {v : HV} (h : pureD x = true) : callF DEFS WW (n + 3) i_is_room [v.d, x] S = .ok (.bl (withinD x 0 ((v.rs.length : Int) - 1))) S := by
  rw [cF_eq D_is_room rfl rfl]
  simp only [c_is_room, k_is_room]
  simp [is_within_ok h]
theorem all_lst {l : List D} {g : D → Bool} {q : Bool} : bltD q .all [.con (l.map fun x => .bl (g x))] S = .ok (.bl (l.all g)) S := by
  simp only [pb_all, lst_con, Option.bind_some, bls_map, ofO_some, all_map]
theorem is_move_ok {v : HV} {m : Int × Int} (h : MvOk v.rs.length m) : callF DEFS WW (n + 4) i_is_move_v2 [v.d, pairD m] S = .ok (.bl true) S := by
  obtain ⟨a, b⟩ := m
  obtain ⟨h1, h2, h3, h4, h5⟩ := h
  rw [cF_eq D_is_move_v2 rfl rfl]
  simp only [c_is_move_v2, k_is_move_v2, pairD]
  simp
  rw [lc_fix (g := fun z => .bl (withinD z 0 ((v.rs.length : Int) - 1))) (by show 2 ≤ lim; decide) fun z hz => by
    have hp : pureD z = true := by simp at hz; rcases hz with rfl | rfl <;> rfl
    simp [is_room8_ok hp]]
  simp only [newL_t, bind_ok, kCons_eq, a_nil, consR_eq, all_lst, notD_bl]
  have e : [D.int a, D.int b].all (fun z => withinD z 0 ((v.rs.length : Int) - 1)) = true := by
    simp [withinD]
    dsimp only at h1 h2 h3 h4
    omega
  rw [e]
  simp
  exact h5
theorem check_moves_ok {v : HV} {ms : List (Int × Int)} (hv : v.ok) (hl : ms.length ≤ 10) (h : MvsOk v.rs.length ms) : callF DEFS WW (n + 6) i_check_moves_v2 [v.d, .con (ms.map pairD)] S = .ok .non S := by
  rw [cF_eq D_check_moves_v2 rfl rfl]
  simp only [c_check_moves_v2, k_check_moves_v2]
  have h10 : ¬ (10 : Int) < ms.length := by omega
  simp [check_house_ok hv, h10]
  rw [lc_fix (g := fun _ => .bl true) (by simp; unfold lim; omega) fun z hz => by
    obtain ⟨m, hm, rfl⟩ := List.mem_map.mp hz
    simp [is_move_ok (h m hm)]]
  simp only [newL_t, bind_ok, kCons_eq, a_nil, consR_eq, all_lst (g := fun _ => true), notD_bl]
  rw [show ((ms.map pairD).all fun _ => true) = true by simp]
  simp
theorem flat_ints (ns : List Int) : (ns.map D.int).all isFlat = true := by simp [isFlat]
theorem in_ints {ns : List Int} {a : Int} : inD S (.int a) (.con (ns.map .int)) = some (decide (a ∈ ns)) := by
  unfold inD
  simp only [seq_con, isFlat, flat_ints, Bool.and_self, if_true]
  congr 1
  induction ns with
  | nil => simp
  | cons b ns ih =>
    rw [List.map_cons, List.any_cons, ih, show eqF (.int b) (.int a) = (b == a) from rfl]
    by_cases h : b = a
    · simp [h]
    · simp [h, Ne.symm h]
theorem index_ints {ns : List Int} {a : Int} (h : a ∈ ns) : mthD .index (.con (ns.map .int)) [.int a] S = .ok (.int (ns.idxOf a : Nat)) S := by
  have e : (ns.map D.int).findIdx? (fun z => eqF z (.int a)) = some (ns.idxOf a) := by
    induction ns with
    | nil => cases h
    | cons b ns ih =>
      rw [List.map_cons, List.findIdx?_cons, List.idxOf_cons, show eqF (.int b) (.int a) = (b == a) from rfl]
      by_cases hb : b = a
      · simp [hb]
      · have ha : a ∈ ns := by
          rcases List.mem_cons.mp h with e | e
          · exact absurd e.symm hb
          · exact e
        rw [ih ha]
        simp [hb, show (b == a) = false by simpa using hb]
  simp only [mthD, indexD, lst_con, isFlat, flat_ints, Bool.and_self, if_true, e, ofO_some]
theorem cut_from {α : Type} {xs : List D} {k : Nat} (h : k ≤ xs.length) : cut xs (some (k : Int)) none = xs.drop k := by
  unfold cut HT.sIx
  simp only
  rw [List.take_of_length_le]
  · congr 1
    split
    · omega
    · have : ((k : Int)).toNat = k := by omega
      omega
  · simp [List.length_drop]
theorem row_inv {R : Int} {xs : List D} (h : xs.all (fun z => withinD z 0 (R - 1)) = true) : ∃ ns : List Int, xs = ns.map .int ∧ intsOf xs = some ns ∧ ns.all (fun i => decide (0 ≤ i) && decide (i ≤ R - 1)) = true := by
  obtain ⟨ns, rfl, h1⟩ := ints_of h
  refine ⟨ns, rfl, ints_map ns, ?_⟩
  rw [List.all_eq_true]
  intro i hi
  have := h1 i hi
  simp [this.1, this.2]
theorem ints_inv : ∀ {xs : List D} {ns : List Int}, intsOf xs = some ns → xs = ns.map .int
  | [], ns, h => by simp [intsOf] at h; subst h; rfl
  | x :: xs, ns, h => by
    cases x <;> simp [intsOf] at h
    obtain ⟨ms, e4, rfl⟩ := h
    rw [ints_inv e4]; rfl
end
end MP

namespace MP
open PySem L2
section
variable {n p : Nat} {x : D} {S S' S'' T X : Store} {Γ : Cal}
theorem lc_fixMap9 {α : Type} {q : Bool} {tg : Tg} {cond elt : C} {r : Env} {l : List α} {f : α → D} {h : α → Option D} (hl : l.length ≤ lim) (hh : ∀ a ∈ l, lcT Γ tg cond elt r (f a) S = .ok (h a) S) : lcRun Γ q tg cond elt r S (.fix (l.map f)) = newL q (l.filterMap h) S := by
  refine lc_fixP (P := fun z => z = newL q (l.filterMap h) S) (by simpa using hl) (fun i acc S' => S' = S ∧ acc = (l.take i).filterMap h) ⟨rfl, by simp⟩ ?_ ?_
  · rintro i x acc S' hx ⟨rfl, rfl⟩
    rw [List.getElem?_map] at hx
    obtain ⟨a, ha, rfl⟩ := Option.map_eq_some_iff.mp hx
    refine ⟨h a, S', hh a (List.mem_of_getElem? ha), rfl, ?_⟩
    rw [List.take_add_one, ha]
    simp only [Option.toList_some, List.filterMap_append]
    cases hha : h a <;> simp [hha]
  · rintro ys S' ⟨rfl, rfl⟩
    rw [List.length_map, List.take_length]
theorem seqF9 {Γ : Cal} {W : Nat} {X : Store} {a b : K} {r : Env} {P : Res Fl → Prop} {Q : Env → Store → Prop} (h1 : ∃ r' X', evS Γ W a r X = .ok (.nx r') X' ∧ Q r' X') (h2 : ∀ r' X', Q r' X' → P (evS Γ W b r' X')) : P (evS Γ W (.seq a b) r X) := by
  obtain ⟨r', X', e, q⟩ := h1
  rw [s_seq, e]
  exact h2 r' X' q
theorem seqE9 {Γ : Cal} {W : Nat} {X : Store} {a b : K} {r : Env} {P : Res Fl → Prop} {r' : Env} {X' : Store} (h1 : evS Γ W a r X = .ok (.nx r') X') (h2 : P (evS Γ W b r' X')) : P (evS Γ W (.seq a b) r X) := by
  rw [s_seq, h1]
  exact h2
def lozD (l : List Int) : D := .tup (l.map D.int)
def lozOf (rs : List Int) : List (List Int) := rs.foldl (fun f r => f ++ f.map fun l => l ++ [r]) [[]]
theorem loz_snoc (rs : List Int) (r : Int) : lozOf (rs ++ [r]) = lozOf rs ++ (lozOf rs).map fun l => l ++ [r] := by
  unfold lozOf
  rw [List.foldl_append]
  rfl
theorem loz_len (rs : List Int) : (lozOf rs).length = 2 ^ rs.length := by
  have : ∀ (rs : List Int) (acc : List (List Int)), (rs.foldl (fun f r => f ++ f.map fun l => l ++ [r]) acc).length = acc.length * 2 ^ rs.length := by
    intro rs
    induction rs with
    | nil => intro acc; simp
    | cons r rs ih =>
      intro acc
      rw [List.foldl_cons, ih, List.length_append, List.length_map, List.length_cons, Nat.pow_succ, ← Nat.mul_two, Nat.mul_assoc, Nat.mul_comm 2]
  unfold lozOf
  rw [this]
  simp
theorem loz_full (rs : List Int) : rs ∈ lozOf rs := by
  have : ∀ (rs : List Int) (acc : List (List Int)) (l : List Int), l ∈ acc → l ++ rs ∈ rs.foldl (fun f r => f ++ f.map fun l => l ++ [r]) acc := by
    intro rs
    induction rs with
    | nil => intro acc l h; simpa using h
    | cons r rs ih =>
      intro acc l h
      rw [List.foldl_cons]
      have := ih (acc ++ acc.map fun l => l ++ [r]) (l ++ [r]) (List.mem_append.mpr (.inr (List.mem_map.mpr ⟨l, h, rfl⟩)))
      rwa [List.append_assoc, List.singleton_append] at this
  have := this rs [[]] [] (by simp)
  simpa [lozOf] using this
theorem loz_short (rs : List Int) : ∀ l ∈ lozOf rs, l.length ≤ rs.length := by
  have : ∀ (rs : List Int) (acc : List (List Int)) (m : Nat), (∀ l ∈ acc, l.length ≤ m) → ∀ l ∈ rs.foldl (fun f r => f ++ f.map fun l => l ++ [r]) acc, l.length ≤ m + rs.length := by
    intro rs
    induction rs with
    | nil => intro acc m h; simpa using h
    | cons r rs ih =>
      intro acc m h l hl
      rw [List.foldl_cons] at hl
      have := ih (acc ++ acc.map fun l => l ++ [r]) (m + 1) (fun l hl => by
        rcases List.mem_append.mp hl with hl | hl
        · have := h l hl; omega
        · obtain ⟨l', hl', rfl⟩ := List.mem_map.mp hl
          have := h l' hl'
          simp
          exact this) l hl
      simp
      omega
  have := this rs [[]] 0 (by simp)
  simpa [lozOf] using this
def keyPz (l : List Int) : PyData := .tuple [.int (l.length : Nat), .tuple (l.map PyData.int)]
def keyDz (l : List Int) : D := .tup [.int (l.length : Nat), lozD l]
def intPz : PyData → Int
  | .int i => i
  | _ => 0
theorem py_keyz (l : List Int) : toPy S (58 + 1 + 1) (keyDz l) = some (keyPz l) := by
  unfold keyDz lozD
  rw [py_tup]
  simp only [List.mapM_cons, List.mapM_nil, py_int, py_tup, mapM_ints]
  rfl
theorem mapM_keyz (ls : List (List Int)) : (ls.map keyDz).mapM (toPy S dep) = some (ls.map keyPz) := by
  rw [dep_eq]
  induction ls with
  | nil => rfl
  | cons a l ih =>
    rw [List.map_cons, List.map_cons, List.mapM_cons, py_keyz, ih]
    rfl
theorem alike_intz : ∀ xs ys : List Int, PySem.W.alikeAll (xs.map PyData.int) (ys.map PyData.int) = true
  | [], _ => by simp [PySem.W.alikeAll]
  | _ :: _, [] => by simp [PySem.W.alikeAll]
  | a :: xs, b :: ys => by simp [PySem.W.alikeAll, PySem.W.alike, alike_intz xs ys]
theorem alike_keyz (ls : List (List Int)) : allAlike (ls.map keyPz) = true ∧ sortable (ls.map keyPz) = true := by
  constructor
  · simp [allAlike, keyPz, PySem.W.alike, PySem.W.alikeAll, alike_intz]
  · simp [sortable, keyPz]
theorem sort_loz (ls : List (List Int)) : ∃ ms : List (List Int), ms.Perm ls ∧ ∀ S, sortD S (ls.map keyDz) = some (ms.map keyDz) := by
  obtain ⟨zs, h1, h2, h3⟩ := sortD_spec (S := []) (mapM_keyz ls) (alike_keyz ls).1 (alike_keyz ls).2
  have e : (ls.map keyDz).zip (ls.map keyPz) = ls.map fun a => (keyDz a, keyPz a) := by
    clear h1 h2 h3
    induction ls with
    | nil => rfl
    | cons a ns ih => simp [ih]
  rw [e] at h2
  obtain ⟨ms, rfl, h4⟩ := perm_inv (f := fun a => (keyDz a, keyPz a)) (g := fun z : D × PyData => match z.2 with | .tuple [_, .tuple xs] => xs.map intPz | _ => []) (fun a => by simp [keyPz, Function.comp_def, intPz]) h2
  refine ⟨ms, h4, fun S => ?_⟩
  have : sortD S (ls.map keyDz) = sortD [] (ls.map keyDz) := by
    unfold sortD
    rw [mapM_keyz, mapM_keyz]
  rw [this, h1, List.map_map]
  rfl
theorem room_lots_ok {rs : List Int} (hr : rs.length ≤ 5) : ∃ ms : List (List Int), ms.Perm (lozOf rs) ∧ ∀ n S, callF DEFS WW (n + 1) i_room_lots [.con (rs.map .int)] S = .ok (.con (ms.map lozD)) S ∧ callF DEFS WW (n + 1) i__law_lots [.con (rs.map .int)] S = .ok (.con (ms.map lozD)) S := by
  obtain ⟨ms, hm, hs⟩ := sort_loz (lozOf rs)
  refine ⟨ms, hm, fun n S => ?_⟩
  have hl : ∀ k : Nat, (lozOf (rs.take k)).length ≤ 32 := fun k => by
    rw [loz_len]
    exact Nat.le_trans (Nat.pow_le_pow_right (by omega) (show (rs.take k).length ≤ 5 by simp; omega)) (by decide)
  have key : ends (evS ⟨callF DEFS WW n⟩ WW k_room_lots [some (.con (rs.map D.int)), none, none, none, none] S) = .ok (.con (ms.map lozD)) S := by
    simp only [k_room_lots]
    obtain ⟨Q, hQ⟩ : ∃ Q : Nat → Env → Store → Prop, Q = fun (i : Nat) (r : Env) (X : Store) => X = S ∧ ∃ o2, r = [some (.con (rs.map D.int)), some (.con ((lozOf (rs.take i)).map lozD)), o2, none, none] := ⟨_, rfl⟩
    refine seqE9 (P := fun z => ends z = .ok _ S) (r' := [some (.con (rs.map D.int)), some (.con [.tup []]), none, none, none]) (X' := S) (by simp) ?_
    refine seqF9 (P := fun z => ends z = .ok _ S) (Q := Q rs.length) ?_ ?_
    · simp
      refine for_fix (P := fun z => ∃ r' X', z = .ok (.nx r') X' ∧ Q rs.length r' X') Q (fun _ _ => False) ?_ ?_ (fun r' X' h => ⟨r', X', rfl, by simpa using h⟩) (fun _ _ h => h.elim)
      · rw [hQ]; exact ⟨rfl, _, rfl⟩
      intro i x r X hx hq
      rw [hQ] at hq
      obtain ⟨rfl, o2, rfl⟩ := hq
      rw [List.getElem?_map] at hx
      obtain ⟨a, ha, rfl⟩ := Option.map_eq_some_iff.mp hx
      have ht : rs.take (i + 1) = rs.take i ++ [a] := by rw [List.take_add_one, ha]; rfl
      have h5 := loz_short (rs.take i)
      have hll := hl i
      simp
      rw [lc_fixMap9 (l := lozOf (rs.take i)) (f := lozD) (h := fun l => some (lozD (l ++ [a]))) (by unfold lim; omega) (fun l hl => by
        have := h5 l hl
        simp only [List.length_take] at this
        simp [lcT, Tg.set, lozD]
        rw [b_addT (by simp; unfold lim; omega)]
        simp)]
      simp
      rw [b_addC (by simp; unfold lim; omega)]
      simp
      rw [hQ]
      refine ⟨rfl, some (.int a), ?_⟩
      rw [ht, loz_snoc, List.map_append, List.map_map]
      rfl
    · intro r X hq
      rw [hQ] at hq
      obtain ⟨rfl, o2, rfl⟩ := hq
      have hll := hl rs.length
      rw [List.take_length] at hll ⊢
      have hml : ms.length ≤ 32 := by rw [hm.length_eq]; exact hll
      simp
      rw [lc_fixMap9 (l := lozOf rs) (f := lozD) (h := fun l => some (keyDz l)) (by unfold lim; omega) (fun l hl => by
        simp [lcT, Tg.set, lozD, keyDz])]
      have es : bltD true .sorted [D.con ((lozOf rs).map keyDz)] X = .ok (.con (ms.map keyDz)) X := by
        rw [pb_sorted, seq_con, Option.bind_some, hs]
        rfl
      simp [es]
      rw [lc_fixMap9 (l := ms) (f := keyDz) (h := fun l => some (lozD l)) (by unfold lim; omega) (fun l hl => by
        simp [lcT, Tg.set, keyDz, setAll])]
      simp
  constructor
  · rw [cF_eq D_room_lots rfl rfl]
    exact key
  · rw [cF_eq D__law_lots rfl rfl]
    exact key
end
end MP

namespace MP
open PySem L2
section
variable {n p : Nat} {x : D} {S S' S'' T X : Store} {Γ : Cal} {v : HV} {ms ds : List (Int × Int)}
theorem in_pairs9 {a c : Int} (hl : ds.length ≤ 1000) : cmpD .In (.tup [.int a, .int c]) (.con (ds.map pairD)) X = .ok (.bl (decide ((a, c) ∈ ds))) X := by
  have e0 : ∀ a c : Int, toPy X dep (.tup [.int a, .int c]) = some (.tuple [.int a, .int c]) := fun a c => toPy_pure X dep _ rfl (by rw [dep_eq]; simp [dpD, dpL])
  have e1 : (ds.map pairD).mapM (toPy X dep) = some (ds.map pairP) := mapM_pairs 58 ds
  have e2 : PyData.canLayAll0 (ds.map pairP) = true := by
    clear e1 hl
    induction ds with
    | nil => rfl
    | cons q ds ih => simp [PyData.canLayAll0, pairP, PyData.canLay0, ih]
  have e3 : ((ds.map pairP).any fun z => PyData.eqv z (.tuple [.int a, .int c])) = decide ((a, c) ∈ ds) := by
    clear e1 e2 hl
    induction ds with
    | nil => rfl
    | cons q ds ih =>
      rw [List.map_cons, List.any_cons, ih]
      obtain ⟨q1, q2⟩ := q
      rw [Bool.eq_iff_iff]
      simp [pairP, PyData.eqv, PyData.eqvAll]
      constructor
      · rintro (⟨rfl, rfl⟩ | h)
        · exact .inl ⟨rfl, rfl⟩
        · exact .inr h
      · rintro (⟨rfl, rfl⟩ | h)
        · exact .inl ⟨rfl, rfl⟩
        · exact .inr h
  have e : inD X (.tup [.int a, .int c]) (.con (ds.map pairD)) = some (decide ((a, c) ∈ ds)) := by
    have hs : seqOf X (.con (ds.map pairD)) = some (ds.map pairD) := rfl
    have hs' : lstOf X (.con (ds.map pairD)) = some (ds.map pairD) := rfl
    have hc : (PyData.tuple [.int a, .int c]).canLay0 = true := by simp [PyData.canLay0, PyData.canLayAll0]
    simp only [inD, hs, hs', isFlat, Bool.false_and, Bool.false_eq_true, if_false, e0, e1, hc, e2, Bool.and_self, if_true, e3]
  simp [cmpD, e]
theorem notin_pairs9 {a c : Int} (hl : ds.length ≤ 1000) : cmpD .NotIn (.tup [.int a, .int c]) (.con (ds.map pairD)) X = .ok (.bl (!decide ((a, c) ∈ ds))) X := by
  have := in_pairs9 (X := X) (a := a) (c := c) hl
  simp only [cmpD] at this ⊢
  cases h : inD X (.tup [.int a, .int c]) (.con (ds.map pairD)) with
  | none => rw [h] at this; cases this
  | some b =>
    rw [h] at this
    simp at this
    simp [this]
theorem ins_len9 (x : Int) : ∀ l : List Int, (ins x l).length ≤ l.length + 1
  | [] => by simp [ins]
  | y :: r => by
    have := ins_len9 x r
    simp only [ins]
    split
    · simp
    · split
      · simp
      · simp; omega
theorem rise_len9 : ∀ l : List Int, (rise l).length ≤ l.length
  | [] => by simp [rise]
  | y :: r => by
    have := rise_len9 r
    have h := ins_len9 y (rise r)
    show (ins y (rise r)).length ≤ _
    simp
    omega
theorem lens_tup9 {ns : List Int} (hl : ns.length < 60) : lensD (.tup (ns.map D.int)) S = .ok (.int ((rise ns).length : Nat)) S := by
  unfold lensD
  simp only [seq_tup, Option.bind_some, ints_map]
  rw [if_pos hl]
theorem take_cut9 {xs : List D} {k : Int} (h0 : 0 ≤ k) : cut xs none (some k) = xs.take k.toNat := by
  have h1 : HT.sIx xs.length 0 none = 0 := rfl
  unfold cut
  rw [h1, List.drop_zero]
  have : HT.sIx xs.length xs.length (some k) = min k.toNat xs.length := by
    unfold HT.sIx
    simp
    omega
  rw [this, Nat.sub_zero]
  by_cases h : k.toNat ≤ xs.length
  · rw [Nat.min_eq_left h]
  · rw [Nat.min_eq_right (by omega), List.take_of_length_le (Nat.le_refl _), List.take_of_length_le (by omega)]
theorem src_zpn {xs ys : List D} : srcOf .zpn [.tup xs, .tup ys] S = some (.fix (List.zipWith (fun x y => D.tup [x, y]) xs ys)) := rfl
def cycOk (ms : List (Int × Int)) (ns : List Int) : Bool := (List.zipWith (fun a b => (a, b)) ns (ns.drop 1 ++ ns.take 1)).all fun q => decide (q ∈ ms)
def isRingD (ms : List (Int × Int)) : D → Bool
  | .tup xs => (match intsOf xs with
    | some ns => decide (2 ≤ ns.length) && decide (ns.length ≤ 5) && decide ((rise ns).length = ns.length) && cycOk ms ns
    | none => false)
  | _ => false
theorem ring_ints {ns : List Int} : isRingD ms (.tup (ns.map .int)) = (decide (2 ≤ ns.length) && decide (ns.length ≤ 5) && decide ((rise ns).length = ns.length) && cycOk ms ns) := by
  simp only [isRingD, ints_map]
theorem ring_len {xs : List D} (h : ¬ (2 ≤ xs.length ∧ xs.length ≤ 5)) : isRingD ms (.tup xs) = false := by
  cases he : intsOf xs with
  | none => simp only [isRingD, he]
  | some ns =>
    have := ints_inv he
    subst this
    rw [ring_ints]
    simp at h
    by_cases h2 : 2 ≤ ns.length
    · have := h h2
      simp [show ¬ ns.length ≤ 5 by omega]
    · simp [h2]
theorem cyc_in {R : Int} (h : MvsOk R ms) {ns : List Int} (hc : cycOk ms ns = true) (hl : 2 ≤ ns.length ∧ ns.length ≤ 5) : ∀ i ∈ ns, 0 ≤ i ∧ i ≤ R - 1 := by
  match ns, hl with
  | [a, b], _ =>
    simp [cycOk] at hc
    have h1 := h _ hc.1; have h2 := h _ hc.2
    simp only [MvOk] at h1 h2
    intro i hi
    simp at hi
    omega
  | [a, b, c], _ =>
    simp [cycOk] at hc
    have h1 := h _ hc.1; have h2 := h _ hc.2.1; have h3 := h _ hc.2.2
    simp only [MvOk] at h1 h2 h3
    intro i hi
    simp at hi
    omega
  | [a, b, c, d], _ =>
    simp [cycOk] at hc
    have h1 := h _ hc.1; have h2 := h _ hc.2.1; have h3 := h _ hc.2.2.1; have h4 := h _ hc.2.2.2
    simp only [MvOk] at h1 h2 h3 h4
    intro i hi
    simp at hi
    omega
  | [a, b, c, d, e], _ =>
    simp [cycOk] at hc
    have h1 := h _ hc.1; have h2 := h _ hc.2.1; have h3 := h _ hc.2.2.1; have h4 := h _ hc.2.2.2.1; have h5 := h _ hc.2.2.2.2
    simp only [MvOk] at h1 h2 h3 h4 h5
    intro i hi
    simp at hi
    omega
theorem ring_out {R : Int} (h : MvsOk R ms) {xs : List D} (hw : xs.all (fun z => withinD z 0 (R - 1)) = false) : isRingD ms (.tup xs) = false := by
  cases hr : isRingD ms (.tup xs) with
  | false => rfl
  | true =>
    cases he : intsOf xs with
    | none => simp only [isRingD, he] at hr; cases hr
    | some ns =>
      have := ints_inv he
      subst this
      rw [ring_ints] at hr
      simp only [Bool.and_eq_true, decide_eq_true_eq] at hr
      have hb := cyc_in h hr.2 ⟨hr.1.1.1, hr.1.1.2⟩
      rw [List.all_eq_false] at hw
      obtain ⟨z, hz, hz2⟩ := hw
      obtain ⟨i, hi, rfl⟩ := List.mem_map.mp hz
      have := hb i hi
      exact absurd (by simp [withinD]; omega) hz2
theorem all_map9 {α : Type} {l : List α} {g : α → Bool} {q : Bool} : bltD q .all [.con (l.map fun x => .bl (g x))] S = .ok (.bl (l.all g)) S := by
  simp only [pb_all, lst_con, Option.bind_some, bls_map, ofO_some, all_map]
theorem zip_pairs9 : ∀ ns ks : List Int, List.zipWith (fun x y => D.tup [x, y]) (ns.map D.int) (ks.map D.int) = (List.zipWith (fun a b => (a, b)) ns ks).map pairD
  | [], _ => by simp
  | _ :: _, [] => by simp
  | a :: ns, b :: ks => by simp [zip_pairs9 ns ks, pairD]
theorem is_ring_ok (h : MvsOk v.rs.length ms) (hl : ms.length ≤ 10) (hx : Thg x) : callF DEFS WW (n + 4) i_is_ring_v2 [v.d, .con (ms.map pairD), x] S = .ok (.bl (isRingD ms x)) S := by
  rw [cF_eq D_is_ring_v2 rfl rfl]
  simp only [c_is_ring_v2, k_is_ring_v2]
  cases x
  case tup xs =>
    obtain ⟨hm, hlx⟩ := hx.tup
    by_cases hlen : 2 ≤ xs.length ∧ xs.length ≤ 5
    · have c1 : (2 : Int) ≤ (xs.length : Int) := by omega
      have c2 : (xs.length : Int) ≤ 5 := by omega
      simp [c1, c2]
      rw [lc_fix (g := fun z => .bl (withinD z 0 ((v.rs.length : Int) - 1))) (by omega) fun z hz => by simp [is_room8_ok (hm z hz).p]]
      simp only [newL_t, bind_ok, kCons_eq, a_nil, consR_eq, all_lst, notD_bl]
      cases hw : xs.all (fun z => withinD z 0 ((v.rs.length : Int) - 1)) with
      | false =>
        rw [ring_out h hw]
        simp
      | true =>
        obtain ⟨ns, rfl, e1, e2⟩ := row_inv hw
        rw [ring_ints]
        simp at hlen
        simp [lens_tup9 (show ns.length < 60 by omega), hlen]
        by_cases hr : (rise ns).length = ns.length
        · have q1 : cut (ns.map D.int) (some 1) none = (ns.drop 1).map D.int := by
            rw [List.map_drop]
            exact cut_from (α := D) (xs := ns.map D.int) (k := 1) (by simp; omega)
          have q2 : cut (ns.map D.int) none (some 1) = (ns.take 1).map D.int := by
            rw [List.map_take]
            exact take_cut9 (by decide)
          have q3 : ∀ X, binD true .Add (.tup ((ns.drop 1).map D.int)) (.tup ((ns.take 1).map D.int)) X = .ok (.tup ((ns.drop 1 ++ ns.take 1).map D.int)) X := fun X => by
            rw [b_addT (by simp; unfold lim; omega), List.map_append]
          have q4 : ∀ X, srcOf .zpn [.tup (ns.map D.int), .tup ((ns.drop 1 ++ ns.take 1).map D.int)] X = some (.fix ((List.zipWith (fun a b => (a, b)) ns (ns.drop 1 ++ ns.take 1)).map pairD)) := fun X => by
            rw [src_zpn, zip_pairs9]
          simp only [cycOk]
          generalize hL : ns.drop 1 ++ ns.take 1 = L at q3 q4 ⊢
          generalize hD1 : (ns.drop 1).map D.int = D1 at q1 q3
          generalize hD2 : (ns.take 1).map D.int = D2 at q2 q3
          have hPl : (List.zipWith (fun a b => (a, b)) ns L).length ≤ 5 := by rw [List.length_zipWith]; omega
          generalize List.zipWith (fun a b => (a, b)) ns L = PL at q4 hPl ⊢
          simp [hr, q1, q2, q3, q4]
          rw [lc_fixMap9 (l := PL) (f := pairD) (h := fun q => some (.bl (decide (q ∈ ms)))) (by unfold lim; omega) (fun q hq => by
            simp [lcT, pairD, Tg.set, in_pairs9 (ds := ms) (by omega)])]
          simp [all_map9]
        · have hr' : ¬ ((rise ns).length : Int) = (ns.length : Int) := by omega
          simp [hr, hr']
    · rw [ring_len hlen]
      by_cases c1 : (2 : Int) ≤ (xs.length : Int)
      · have c2 : ¬ (xs.length : Int) ≤ 5 := by omega
        simp [c1, c2]
      · simp [c1]
  all_goals first | exact absurd hx.p Bool.false_ne_true | simp [isRingD]
theorem whole_ints : ∀ {xs : List D}, xs.all wholeD = true → ∃ ns : List Int, xs = ns.map .int
  | [], _ => ⟨[], rfl⟩
  | z :: xs, h => by
    simp only [List.all_cons, Bool.and_eq_true] at h
    obtain ⟨i, rfl⟩ := whole_inv h.1
    obtain ⟨ns, rfl⟩ := whole_ints h.2
    exact ⟨i :: ns, rfl⟩
theorem ring_nowhole {xs : List D} (h : xs.all wholeD = false) : isRingD ms (.tup xs) = false := by
  cases he : intsOf xs with
  | none => simp only [isRingD, he]
  | some ns =>
    have := ints_inv he
    subst this
    rw [List.all_eq_false] at h
    obtain ⟨z, hz, hz2⟩ := h
    obtain ⟨i, _, rfl⟩ := List.mem_map.mp hz
    exact absurd rfl hz2
theorem c_eqNil {ys : List D} : cmpD .Eq (.con ys) (.con []) S = .ok (.bl ys.isEmpty) S := by
  cases ys <;> simp [cmpD, eqD, isFlat, lstOf]
theorem lc_rngF {Γ : Cal} {q : Bool} {i : Nat} {cond elt : C} {r : Env} {m : Nat} {g : Nat → Option D} (hm : m ≤ lim) (hh : ∀ k, k < m → lcT Γ (.one i) cond elt r (.int (0 + (k : Nat))) S = .ok (g k) S) : lcRun Γ q (.one i) cond elt r S (.rng 0 m) = newL q ((List.range m).filterMap g) S := by
  refine lc_stP (P := fun z => z = newL q ((List.range m).filterMap g) S) m (by simp) hm (fun i acc S' => S' = S ∧ acc = (List.range i).filterMap g) ⟨rfl, by simp⟩ ?_ ?_ ?_
  · rintro k acc S' hk ⟨rfl, rfl⟩
    refine ⟨_, g k, S', by simp [hk], hh k hk, rfl, ?_⟩
    rw [List.range_succ, List.filterMap_append]
    cases hg : g k <;> simp [hg]
  · rintro acc S' ⟨rfl, rfl⟩
    simp
  · rintro ys S' ⟨rfl, rfl⟩
    rfl
theorem at_last9 {α : Type} {xs : List α} (h : 0 < xs.length) : atI xs (-1) = xs[xs.length - 1]? := by
  unfold atI ixN
  rw [if_neg (by decide), if_pos (by omega)]
  rw [show ((-1 : Int) + (xs.length : Int)).toNat = xs.length - 1 by omega]
  rfl
def gapR (ms : List (Int × Int)) (ns : List Int) (k : Nat) : Option D :=
  match ns[if k = 0 then ns.length - 1 else k - 1]?, ns[k]? with
  | some a, some b => if (a, b) ∈ ms then none else some (.int (k : Nat))
  | _, _ => none
theorem cyc_range {ns : List Int} (hl : 2 ≤ ns.length ∧ ns.length ≤ 5) : ((List.range ns.length).filterMap (gapR ms ns)).isEmpty = cycOk ms ns := by
  match ns, hl with
  | [a, b], _ => by_cases h1 : (a, b) ∈ ms <;> by_cases h2 : (b, a) ∈ ms <;> simp [gapR, List.range_succ, cycOk, h1, h2]
  | [a, b, c], _ => by_cases h1 : (a, b) ∈ ms <;> by_cases h2 : (b, c) ∈ ms <;> by_cases h3 : (c, a) ∈ ms <;> simp [gapR, List.range_succ, cycOk, h1, h2, h3]
  | [a, b, c, d], _ => by_cases h1 : (a, b) ∈ ms <;> by_cases h2 : (b, c) ∈ ms <;> by_cases h3 : (c, d) ∈ ms <;> by_cases h4 : (d, a) ∈ ms <;> simp [gapR, List.range_succ, cycOk, h1, h2, h3, h4]
  | [a, b, c, d, e], _ => by_cases h1 : (a, b) ∈ ms <;> by_cases h2 : (b, c) ∈ ms <;> by_cases h3 : (c, d) ∈ ms <;> by_cases h4 : (d, e) ∈ ms <;> by_cases h5 : (e, a) ∈ ms <;> simp [gapR, List.range_succ, cycOk, h1, h2, h3, h4, h5]
theorem law_is_ring_ok (h : MvsOk v.rs.length ms) (hl : ms.length ≤ 10) (hx : Thg x) : callF DEFS WW (n + 2) i__law_is_ring [.con (ms.map pairD), x] S = .ok (.bl (isRingD ms x)) S := by
  rw [cF_eq D__law_is_ring rfl rfl]
  simp only [c__law_is_ring, k__law_is_ring]
  cases x
  case tup xs =>
    obtain ⟨hm, hlx⟩ := hx.tup
    by_cases hlen : 2 ≤ xs.length ∧ xs.length ≤ 5
    · have c1 : (2 : Int) ≤ (xs.length : Int) := by omega
      have c2 : (xs.length : Int) ≤ 5 := by omega
      simp [c1, c2]
      rw [lc_fix (g := fun z => .bl (wholeD z)) (by omega) fun z hz => by simp [law_whole_ok (hm z hz).p]]
      simp only [newL_t, bind_ok, kCons_eq, a_nil, consR_eq, all_lst, notD_bl]
      cases hw : xs.all wholeD with
      | false =>
        rw [ring_nowhole hw]
        simp
      | true =>
        obtain ⟨ns, rfl⟩ := whole_ints hw
        rw [ring_ints]
        simp at hlen
        have hrl := rise_len9 ns
        simp [lens_tup9 (show ns.length < 60 by omega), hlen]
        by_cases hr : (rise ns).length = ns.length
        · simp [hr]
          rw [src_rng1 (by unfold big; omega) (by unfold big; omega)]
          simp
          rw [lc_rngF (g := gapR ms ns) (by unfold lim; omega) (fun k hk => by
            have hb : ns[k]? = some ns[k] := List.getElem?_eq_getElem hk
            generalize ns[k] = b at hb
            have hj : (if k = 0 then ns.length - 1 else k - 1) < ns.length := by split <;> omega
            have ha : ns[if k = 0 then ns.length - 1 else k - 1]? = some ns[if k = 0 then ns.length - 1 else k - 1] := List.getElem?_eq_getElem hj
            generalize ns[if k = 0 then ns.length - 1 else k - 1] = a at ha
            have w1 : atI (ns.map D.int) ((k : Int) - 1) = some (.int a) := by
              by_cases hk0 : k = 0
              · subst hk0
                simp only [if_true] at ha
                rw [show ((0 : Nat) : Int) - 1 = -1 from rfl, at_last9 (by simp; omega), List.length_map, List.getElem?_map, ha]
                rfl
              · simp only [if_neg hk0] at ha
                rw [show (k : Int) - 1 = ((k - 1 : Nat) : Int) by omega, at_nat, List.getElem?_map, ha]
                rfl
            have w2 : atI (ns.map D.int) (k : Int) = some (.int b) := by
              rw [at_nat, List.getElem?_map, hb]
              rfl
            have hg : gapR ms ns k = if (a, b) ∈ ms then none else some (.int (k : Nat)) := by simp only [gapR, ha, hb]
            rw [hg]
            by_cases hin : (a, b) ∈ ms
            · simp [lcT, Tg.set, w1, w2, notin_pairs9 (ds := ms) (by omega), hin]
            · simp [lcT, Tg.set, w1, w2, notin_pairs9 (ds := ms) (by omega), hin])]
          simp [c_eqNil]
          have := cyc_range (ms := ms) hlen
          simpa using this
        · have hr' : (rise ns).length < ns.length := by omega
          simp [hr, hr']
    · rw [ring_len hlen]
      by_cases c1 : (2 : Int) ≤ (xs.length : Int)
      · have c2 : ¬ (xs.length : Int) ≤ 5 := by omega
        simp [c1, c2]
      · simp [c1]
  all_goals first | exact absurd hx.p Bool.false_ne_true | simp [isRingD]
end
end MP

namespace MP
open PySem L2
section
variable {n p : Nat} {x : D} {S S' S'' T X : Store} {Γ : Cal} {v : HV} {ms ds : List (Int × Int)} {rgs : List (List Int)}
theorem in_tupI {ns : List Int} {a : Int} : cmpD .In (.int a) (.tup (ns.map .int)) X = .ok (.bl (decide (a ∈ ns))) X := by
  have e : inD X (.int a) (.tup (ns.map .int)) = some (decide (a ∈ ns)) := by
    unfold inD
    simp only [seq_tup, isFlat, flat_ints, Bool.and_self, if_true]
    congr 1
    induction ns with
    | nil => simp
    | cons b ns ih =>
      rw [List.map_cons, List.any_cons, ih, show eqF (.int b) (.int a) = (b == a) from rfl]
      by_cases h : b = a
      · simp [h]
      · simp [h, Ne.symm h]
  simp [cmpD, e]
theorem lrng9 {m : Nat} (hm : m ≤ lim) : lrngD true (.int (m : Int)) S = .ok (.con (((List.range m).map fun i : Nat => (i : Int)).map D.int)) S := by
  simp only [lrngD]
  rw [if_pos (by omega)]
  simp [newL, Function.comp_def]
def hitR (lot rg : List Int) : Bool := rg.any fun r => decide (r ∈ lot)
def hitsAll (rgs : List (List Int)) (lot : List Int) : Bool := rgs.all (hitR lot)
def RingsOk (R : Int) (rgs : List (List Int)) : Prop := ∀ rg ∈ rgs, 2 ≤ rg.length ∧ rg.length ≤ 5 ∧ ∀ i ∈ rg, 0 ≤ i ∧ i ≤ R - 1
theorem find_at {α : Type} {p : α → Bool} : ∀ {l : List α} {i : Nat} {a : α}, l[i]? = some a → p a = true → (∀ b ∈ l.take i, p b = false) → l.find? p = some a
  | [], _, _, h, _, _ => by simp at h
  | b :: l, 0, a, h, hp, _ => by
    simp at h
    subst h
    simp [hp]
  | b :: l, i + 1, a, h, hp, ht => by
    have hb : p b = false := ht b (by simp)
    rw [List.find?_cons, hb]
    exact find_at (by simpa using h) hp fun c hc => ht c (by simp [hc])
theorem hit_empty : ∀ {l rg : List Int}, (rg.filterMap fun a => if decide (a ∈ l) = true then some (D.int a) else none).isEmpty = !hitR l rg
  | l, [] => rfl
  | l, a :: rg => by
    have ih := hit_empty (l := l) (rg := rg)
    unfold hitR at ih ⊢
    by_cases h : a ∈ l
    · simp [h]
    · rw [List.filterMap_cons]
      simp only [h, decide_false, Bool.false_eq_true, if_false, List.any_cons, Bool.false_or]
      exact ih
theorem all_empty {l : List Int} : ∀ {rgs : List (List Int)}, (rgs.filterMap fun rg => if hitR l rg = true then none else some (lozD rg)).isEmpty = hitsAll rgs l
  | [] => rfl
  | rg :: rgs => by
    have ih := all_empty (l := l) (rgs := rgs)
    unfold hitsAll at ih ⊢
    rw [List.filterMap_cons]
    cases h : hitR l rg with
    | true => simp only [if_true, List.all_cons, h, Bool.true_and]; exact ih
    | false => simp [h]
theorem fewest_ok (hv : v.ok) (hr : RingsOk v.rs.length rgs) (hl : rgs.length ≤ 30) : ∃ F : Int, 0 ≤ F ∧ F ≤ 5 ∧ ∀ n S, callF DEFS WW (n + 2) i_fewest_in [v.d, .con (rgs.map lozD)] S = .ok (.int F) S ∧ callF DEFS WW (n + 2) i__law_wanted [v.d, .con (rgs.map lozD)] S = .ok (.int F) S := by
  have r5 := hv.r5
  obtain ⟨rs, hrs⟩ : ∃ rs : List Int, rs = (List.range v.rs.length).map fun i : Nat => (i : Int) := ⟨_, rfl⟩
  have hrl : rs.length ≤ 5 := by rw [hrs]; simpa using r5
  obtain ⟨ls, hp, hlots⟩ := room_lots_ok hrl
  have hfull : rs ∈ ls := hp.mem_iff.mpr (loz_full rs)
  have hshort : ∀ l ∈ ls, l.length ≤ 5 := fun l h => Nat.le_trans (loz_short rs l (hp.mem_iff.mp h)) hrl
  have hhit : hitsAll rgs rs = true := by
    unfold hitsAll
    rw [List.all_eq_true]
    intro rg hrg
    obtain ⟨h2, _, hb⟩ := hr rg hrg
    unfold hitR
    rw [List.any_eq_true]
    have h0 : rg[0]? = some (rg[0]'(by omega)) := List.getElem?_eq_getElem (by omega)
    generalize rg[0]'(by omega) = a at h0
    have ha := hb a (List.mem_of_getElem? h0)
    refine ⟨a, List.mem_of_getElem? h0, ?_⟩
    rw [decide_eq_true_eq, hrs]
    exact List.mem_map.mpr ⟨a.toNat, List.mem_range.mpr (by omega), by omega⟩
  obtain ⟨l0, hf⟩ : ∃ l, ls.find? (hitsAll rgs) = some l := by
    cases h : ls.find? (hitsAll rgs) with
    | some l => exact ⟨l, rfl⟩
    | none => rw [List.find?_eq_none] at h; exact absurd hhit (h rs hfull)
  have hl0 := hshort l0 (List.mem_of_find?_eq_some hf)
  have hlen : ls.length ≤ 32 := by
    rw [hp.length_eq, loz_len]
    exact Nat.le_trans (Nat.pow_le_pow_right (by omega) hrl) (by decide)
  have iR : ∀ X, idxD v.d (.int 0) X = .ok (.tup (v.rs.map D.int)) X := fun _ => rfl
  have er : ∀ X, lrngD true (.int (v.rs.length : Int)) X = .ok (.con (rs.map D.int)) X := fun X => by rw [lrng9 (by unfold lim; omega), hrs]
  clear hrs hrl hp hshort
  generalize hVD : v.d = VD at iR
  refine ⟨(l0.length : Nat), by omega, by omega, fun n S => ⟨?_, ?_⟩⟩
  · have e1 := fun S => (hlots n S).1
    rw [cF_eq D_fewest_in rfl rfl]
    simp only [c_fewest_in, k_fewest_in]
    simp [iR, er, e1]
    refine for_fix (P := fun z => ends (thenS z _) = .ok _ _) (fun i r X => X = S ∧ (∀ l ∈ ls.take i, hitsAll rgs l = false) ∧ ∃ o2, r = [some VD, some (.con (rgs.map lozD)), o2, none, none]) (fun d X => X = S ∧ d = .int (l0.length : Nat)) ⟨rfl, by simp, _, rfl⟩ ?_ ?_ ?_
    · rintro i z r X hz ⟨rfl, ht, o2, rfl⟩
      rw [List.getElem?_map] at hz
      obtain ⟨l, hl', rfl⟩ := Option.map_eq_some_iff.mp hz
      simp
      rw [lc_fixMap9 (l := rgs) (f := lozD) (h := fun rg => some (.bl (hitR l rg))) (by unfold lim; omega) (fun rg hrg => by
        have := hr rg hrg
        simp [lcT, Tg.set, lozD]
        rw [lc_fixMap9 (l := rg) (f := D.int) (h := fun a => some (.bl (decide (a ∈ l)))) (by unfold lim; omega) (fun a ha => by
          simp [lcT, Tg.set, in_tupI])]
        simp [hitR])]
      simp [all_map9]
      cases hh : hitsAll rgs l with
      | true =>
        have : rgs.all (fun rg => hitR l rg) = true := hh
        have hfa := find_at hl' hh ht
        rw [hf] at hfa
        cases hfa
        simp [this, lozD]
      | false =>
        have : rgs.all (fun rg => hitR l rg) = false := hh
        simp [this]
        intro l' hl2
        rw [List.take_add_one, hl'] at hl2
        rcases List.mem_append.mp hl2 with hl2 | hl2
        · exact ht l' hl2
        · simp at hl2
          rw [hl2]; exact hh
    · rintro r X ⟨rfl, ht, o2, rfl⟩
      rw [List.length_map, List.take_length] at ht
      exact absurd hhit (by rw [ht rs hfull]; decide)
    · rintro d X ⟨rfl, rfl⟩
      simp
  · have e1 := fun S => (hlots n S).2
    rw [cF_eq D__law_wanted rfl rfl]
    simp only [c__law_wanted, k__law_wanted]
    simp [iR, er, e1]
    refine for_fix (P := fun z => ends (thenS z _) = .ok _ _) (fun i r X => X = S ∧ (∀ l ∈ ls.take i, hitsAll rgs l = false) ∧ ∃ o2, r = [some VD, some (.con (rgs.map lozD)), o2, none, none]) (fun d X => X = S ∧ d = .int (l0.length : Nat)) ⟨rfl, by simp, _, rfl⟩ ?_ ?_ ?_
    · rintro i z r X hz ⟨rfl, ht, o2, rfl⟩
      rw [List.getElem?_map] at hz
      obtain ⟨l, hl', rfl⟩ := Option.map_eq_some_iff.mp hz
      simp
      rw [lc_fixMap9 (l := rgs) (f := lozD) (h := fun rg => if hitR l rg = true then none else some (lozD rg)) (by unfold lim; omega) (fun rg hrg => by
        have := hr rg hrg
        simp [lcT, Tg.set, lozD]
        rw [lc_fixMap9 (l := rg) (f := D.int) (h := fun a => if decide (a ∈ l) = true then some (.int a) else none) (by unfold lim; omega) (fun a ha => by
          by_cases hal : a ∈ l <;> simp [lcT, Tg.set, in_tupI, hal])]
        have he := hit_empty (l := l) (rg := rg)
        generalize rg.filterMap (fun a => if decide (a ∈ l) = true then some (D.int a) else none) = E at he ⊢
        simp [c_eqNil, he]
        cases hitR l rg <;> simp)]
      have he := all_empty (l := l) (rgs := rgs)
      generalize rgs.filterMap (fun rg => if hitR l rg = true then none else some (lozD rg)) = E at he ⊢
      simp [c_eqNil, he]
      cases hh : hitsAll rgs l with
      | true =>
        have hfa := find_at hl' hh ht
        rw [hf] at hfa
        cases hfa
        simp [lozD]
      | false =>
        simp
        intro l' hl2
        rw [List.take_add_one, hl'] at hl2
        rcases List.mem_append.mp hl2 with hl2 | hl2
        · exact ht l' hl2
        · simp at hl2
          rw [hl2]; exact hh
    · rintro r X ⟨rfl, ht, o2, rfl⟩
      rw [List.length_map, List.take_length] at ht
      exact absurd hhit (by rw [ht rs hfull]; decide)
    · rintro d X ⟨rfl, rfl⟩
      simp
end
end MP

namespace MP
open PySem L2
section
variable {n p : Nat} {x y : D} {S S' S'' T X : Store} {Γ : Cal} {v : HV} {ms ds : List (Int × Int)} {rgs : List (List Int)}
def areRingsD (ms : List (Int × Int)) : D → Bool
  | .con xs => decide (xs.length ≤ 30) && xs.all (isRingD ms)
  | _ => false
theorem ring_inv {R : Int} (h : MvsOk R ms) (hx : isRingD ms x = true) : ∃ ns : List Int, x = lozD ns ∧ 2 ≤ ns.length ∧ ns.length ≤ 5 ∧ ∀ i ∈ ns, 0 ≤ i ∧ i ≤ R - 1 := by
  cases x with
  | tup xs =>
    cases he : intsOf xs with
    | none => simp only [isRingD, he] at hx; cases hx
    | some ns =>
      have := ints_inv he
      subst this
      rw [ring_ints] at hx
      simp only [Bool.and_eq_true, decide_eq_true_eq] at hx
      exact ⟨ns, rfl, hx.1.1.1, hx.1.1.2, cyc_in h hx.2 ⟨hx.1.1.1, hx.1.1.2⟩⟩
  | _ => cases hx
theorem rings_inv {R : Int} (h : MvsOk R ms) : ∀ {xs : List D}, xs.all (isRingD ms) = true → ∃ rgs : List (List Int), xs = rgs.map lozD ∧ RingsOk R rgs
  | [], _ => ⟨[], rfl, fun _ h => by cases h⟩
  | z :: xs, hx => by
    simp only [List.all_cons, Bool.and_eq_true] at hx
    obtain ⟨ns, rfl, h1, h2, h3⟩ := ring_inv h hx.1
    obtain ⟨rgs, rfl, h4⟩ := rings_inv h hx.2
    refine ⟨ns :: rgs, rfl, fun rg hrg => ?_⟩
    rcases List.mem_cons.mp hrg with rfl | hrg
    · exact ⟨h1, h2, h3⟩
    · exact h4 rg hrg
theorem law_are_rings_ok (h : MvsOk v.rs.length ms) (hl : ms.length ≤ 10) (hx : Thg x) : callF DEFS WW (n + 3) i__law_are_rings [.con (ms.map pairD), x] S = .ok (.bl (areRingsD ms x)) S := by
  rw [cF_eq D__law_are_rings rfl rfl]
  simp only [c__law_are_rings, k__law_are_rings]
  cases x
  case con xs =>
    obtain ⟨hm, hlx⟩ := hx.con
    simp only [areRingsD]
    by_cases hlen : xs.length ≤ 30
    · have c1 : (xs.length : Int) ≤ 30 := by omega
      simp [hlen, c1]
      rw [lc_fix (g := fun z => .bl (isRingD ms z)) (by omega) fun z hz => by simp [law_is_ring_ok (n := n) h hl (hm z hz)]]
      simp only [newL_t, bind_ok, kCons_eq, a_nil, consR_eq, all_lst]
      simp
    · have c1 : ¬ (xs.length : Int) ≤ 30 := by omega
      simp [hlen, c1]
  all_goals first | exact absurd hx.p Bool.false_ne_true | simp [areRingsD]
theorem are_rings_bad (hv : v.ok) (h : MvsOk v.rs.length ms) (hl : ms.length ≤ 10) (hy : pureD y = true) (hw : wholeD y = false) : callF DEFS WW (n + 7) i_are_rings_v2 [v.d, .con (ms.map pairD), y, x] S = .exc "NoNumber" S := by
  rw [cF_eq D_are_rings_v2 rfl rfl]
  simp only [c_are_rings_v2, k_are_rings_v2]
  simp [check_moves_ok hv hl h, is_whole_ok (n := n + 5) hy, hw]
theorem are_rings_no {k : Int} (hv : v.ok) (h : MvsOk v.rs.length ms) (hl : ms.length ≤ 10) (hx : Thg x) (hr : areRingsD ms x = false) : callF DEFS WW (n + 7) i_are_rings_v2 [v.d, .con (ms.map pairD), .int k, x] S = .ok (.bl false) S := by
  rw [cF_eq D_are_rings_v2 rfl rfl]
  simp only [c_are_rings_v2, k_are_rings_v2]
  have hw := is_whole_ok (n := n + 5) (S := S) (x := .int k) rfl
  simp [check_moves_ok hv hl h, hw, wholeD]
  cases x
  case con xs =>
    obtain ⟨hm, hlx⟩ := hx.con
    simp only [areRingsD] at hr
    by_cases hlen : xs.length ≤ 30
    · have c1 : ¬ (30 : Int) < (xs.length : Int) := by omega
      simp [hlen] at hr
      simp [c1]
      rw [lc_fix (g := fun z => .bl (isRingD ms z)) (by omega) fun z hz => by simp [is_ring_ok (n := n + 2) h hl (hm z hz)]]
      simp only [newL_t, bind_ok, kCons_eq, a_nil, consR_eq, all_lst]
      have : xs.all (isRingD ms) = false := by simpa [List.all_eq_false] using hr
      rw [show (xs.all fun z => isRingD ms z) = false from this]
      simp
    · have c1 : (30 : Int) < (xs.length : Int) := by omega
      simp [c1]
  all_goals first | exact absurd hx.p Bool.false_ne_true | simp
theorem are_rings_yes (hv : v.ok) (h : MvsOk v.rs.length ms) (hl : ms.length ≤ 10) (hx : Thg x) (hr : areRingsD ms x = true) : ∃ F : Int, 0 ≤ F ∧ F ≤ 5 ∧ ∀ n S (k : Int), callF DEFS WW (n + 7) i_are_rings_v2 [v.d, .con (ms.map pairD), .int k, x] S = .ok (.bl (decide (k ≤ F))) S ∧ callF DEFS WW (n + 2) i__law_wanted [v.d, x] S = .ok (.int F) S := by
  cases x with
  | con xs =>
    obtain ⟨hm, hlx⟩ := hx.con
    simp only [areRingsD, Bool.and_eq_true, decide_eq_true_eq] at hr
    obtain ⟨rgs, rfl, hrg⟩ := rings_inv h hr.2
    have hl30 := hr.1
    rw [List.length_map] at hl30
    obtain ⟨F, f0, f5, hF⟩ := fewest_ok hv hrg hl30
    refine ⟨F, f0, f5, fun n S k => ⟨?_, (hF n S).2⟩⟩
    rw [cF_eq D_are_rings_v2 rfl rfl]
    simp only [c_are_rings_v2, k_are_rings_v2]
    have hw := is_whole_ok (n := n + 5) (S := S) (x := .int k) rfl
    have c1 : ¬ (30 : Int) < (rgs.length : Int) := by omega
    simp [check_moves_ok hv hl h, hw, wholeD, c1]
    rw [lc_fix (g := fun z => .bl (isRingD ms z)) (by rw [List.length_map]; unfold lim; omega) fun z hz => by simp [is_ring_ok (n := n + 2) h hl (hm z hz)]]
    simp only [newL_t, bind_ok, kCons_eq, a_nil, consR_eq, all_lst]
    rw [show ((rgs.map lozD).all fun z => isRingD ms z) = true from hr.2]
    simp [(hF (n + 4) S).1]
  | _ => cases hr
theorem exNm12 : ("NoNumber" : Str) ∈ excNames := by decide +kernel
theorem woNm12 : wordOf "NoNumber" = "number" := by decide +kernel
theorem told_bad12 (hv : v.ok) (h : MvsOk v.rs.length ms) (hl : ms.length ≤ 10) (hy : pureD y = true) (hw : wholeD y = false) : callF DEFS WW (n + 8) i__law_told_v7 [v.d, .con (ms.map pairD), y, x] S = .ok (.str "number") S := by
  rw [cF_eq D__law_told_v7 rfl rfl]
  simp only [c__law_told_v7, k__law_told_v7]
  rw [s_seq, s_try]
  have key : ∀ z : Res Fl, z = .exc "NoNumber" S → ends (thenS (tryR z "RimeError" fun x S => callF DEFS WW (n + 7) i__law_word [.exn x] S) (evS ⟨callF DEFS WW (n + 7)⟩ WW K.skip)) = .ok (.str "number") S := by
    rintro z rfl
    rw [try_exc exNm12 (word_ok (n := n + 6) exNm12) rfl, woNm12]
    rfl
  exact key _ (by simp [are_rings_bad (n := n) hv h hl hy hw])
theorem told_ok12 {k : Int} {b : Bool} (he : ∀ S, callF DEFS WW (n + 7) i_are_rings_v2 [v.d, .con (ms.map pairD), .int k, x] S = .ok (.bl b) S) : callF DEFS WW (n + 8) i__law_told_v7 [v.d, .con (ms.map pairD), .int k, x] S = .ok (.bl b) S := by
  rw [cF_eq D__law_told_v7 rfl rfl]
  simp only [c__law_told_v7, k__law_told_v7]
  rw [s_seq, s_try]
  simp [he]
end
end MP

namespace MP
open PySem L2
section
variable {n p : Nat} {x y : D} {S S' S'' T X : Store} {Γ : Cal} {v : HV} {ms ds : List (Int × Int)} {rgs : List (List Int)}
theorem c_in_ref {k : Nat} {ns : List Int} {a : Int} (h : X[k]? = some (.lst (ns.map D.int))) : cmpD .In (.int a) (.ref k) X = .ok (.bl (decide (a ∈ ns))) X := by
  have e : inD X (.int a) (.ref k) = some (decide (a ∈ ns)) := by
    have e1 := in_ints (S := X) (ns := ns) (a := a)
    unfold inD at e1 ⊢
    simp only [seq_con] at e1
    simp only [seq_ref h]
    simp only [isFlat, flat_ints, Bool.and_self, if_true] at e1 ⊢
    exact e1
  simp [cmpD, e]
theorem index_ref {k : Nat} {ns : List Int} {a : Int} (h : X[k]? = some (.lst (ns.map D.int))) (ha : a ∈ ns) : mthD .index (.ref k) [.int a] X = .ok (.int (ns.idxOf a : Nat)) X := by
  have e := index_ints (S := X) ha
  simp only [mthD, indexD] at e ⊢
  simp only [lstOf, h] at e ⊢
  exact e
theorem slc_ref9 {k : Nat} {xs : List D} {q : Bool} {a b : Option Int} (h : X[k]? = some (.lst xs)) : slcD q (.ref k) a b X = newL q (cut xs a b) X := by
  simp only [slcD, lstOf, h]
theorem filt_ends9 {la : Int} : ∀ ms : List (Int × Int), (ms.filterMap fun m => if decide (m.1 = la) = true then some (D.int m.2) else none) = ((ms.filter fun m => decide (m.1 = la)).map (·.2)).map D.int
  | [] => rfl
  | a :: l => by
    have ih := filt_ends9 (la := la) l
    rw [List.filterMap_cons, List.filter_cons]
    by_cases hh : a.1 = la
    · simp [hh] at ih ⊢
      exact ih
    · simp [hh] at ih ⊢
      exact ih
def DrawnR (p : Nat) (S : Store) (z : Res D) : Prop := ∃ (ns : List Int) (S' : Store), z = .ok (lozD ns) S' ∧ ns.length ≤ 7 ∧ (∀ i ∈ ns, 0 ≤ i ∧ i ≤ 4) ∧ PotS p S S'
theorem drawn_ok {R : Int} (hR : R ≤ 5) (h : MvsOk R ms) (hl : ms.length ≤ 10) (h0 : 0 < ms.length) (hp : Pot p S) : DrawnR p S (callF DEFS WW (n + 2) i__law_drawn_v2 [.ref p, .con (ms.map pairD)] S) := by
  rw [cF_fz D__law_drawn_v2 rfl rfl]
  simp only [c__law_drawn_v2, k__law_drawn_v2]
  obtain ⟨i0, S1, t1, a1, b1, g1⟩ := take_ok (n := n) hp (m := (ms.length : Int)) (by omega) (by omega)
  obtain ⟨z, hz, ez⟩ := at_mem (xs := ms.map pairD) a1 (by simpa using b1)
  obtain ⟨m0, hm0, rfl⟩ := List.mem_map.mp hz
  have hm := h m0 hm0
  simp only [MvOk] at hm
  refine seqE9 (P := fun z => DrawnR p S (cutR S (ends z))) (r' := [some (.ref p), some (.con (ms.map pairD)), some (.ref S.length), none, none, none, none, none]) (X' := S1 ++ [.lst (([m0.1] : List Int).map D.int)]) (by simp [t1, ez, g1.len]) ?_
  obtain ⟨Q, hQ⟩ : ∃ Q : Nat → Env → Store → Prop, Q = fun (i : Nat) (r : Env) (X : Store) => ∃ (w : List Int) (S2 : Store) (o3 o4 o7 : Option D), r = [some (.ref p), some (.con (ms.map pairD)), some (.ref S.length), o3, o4, none, none, o7] ∧ X = S2 ++ [.lst (w.map D.int)] ∧ 0 < w.length ∧ w.length ≤ i + 1 ∧ (∀ i ∈ w, 0 ≤ i ∧ i ≤ 4) ∧ PotS p S S2 := ⟨_, rfl⟩
  have fin : ∀ (w : List Int) (S2 : Store), w.length ≤ 7 → (∀ i ∈ w, 0 ≤ i ∧ i ≤ 4) → PotS p S S2 → ∀ T, DrawnR p S (cutR S (.ok (.tup (w.map D.int)) (S2 ++ T))) := fun w S2 h1 h2 g T => by
    rw [cut_pure g.fits (by simp only [pureD]; exact pureL_map fun _ _ => rfl)]
    exact ⟨w, S2, rfl, h1, h2, g⟩
  obtain ⟨RD, hRD⟩ : ∃ RD : D → Store → Prop, RD = fun (d : D) (X : Store) => ∃ (w : List Int) (S2 T : Store), d = .tup (w.map D.int) ∧ X = S2 ++ T ∧ w.length ≤ 7 ∧ (∀ i ∈ w, 0 ≤ i ∧ i ≤ 4) ∧ PotS p S S2 := ⟨_, rfl⟩
  rw [s_seq]
  simp
  rw [src_rng1 (by decide) (by decide)]
  simp
  refine for_rng (P := fun z => DrawnR p S (cutR S (ends (thenS z _)))) Q RD ?_ ?_ ?_ ?_
  · rw [hQ]; exact ⟨[m0.1], S1, none, none, none, rfl, rfl, by simp, by simp, by simp; omega, g1⟩
  · intro i r X hi hq
    rw [hQ] at hq
    obtain ⟨w, S2, o3, o4, o7, rfl, rfl, w0, w1, wb, g2⟩ := hq
    have hc : (S2 ++ [O.lst (w.map D.int)])[S.length]? = some (.lst (w.map D.int)) := get_at0 (by rw [g2.len])
    obtain ⟨la, hla⟩ : ∃ a, w[w.length - 1]? = some a := ⟨w[w.length - 1], List.getElem?_eq_getElem (by omega)⟩
    have hlast : idxD (.ref S.length) (.int (-1)) (S2 ++ [.lst (w.map D.int)]) = .ok (.int la) (S2 ++ [.lst (w.map D.int)]) := by
      rw [idx_ref hc, at_last9 (by simpa using w0), List.length_map, List.getElem?_map, hla]
      rfl
    obtain ⟨L, hL⟩ : ∃ L : List Int, L = (ms.filter fun m => decide (m.1 = la)).map (·.2) := ⟨_, rfl⟩
    have hLb : ∀ i ∈ L, 0 ≤ i ∧ i ≤ 4 := fun i hi => by
      rw [hL] at hi
      obtain ⟨m, hm, rfl⟩ := List.mem_map.mp hi
      have := h m (List.mem_filter.mp hm).1
      simp only [MvOk] at this
      omega
    have hLl : L.length ≤ 10 := by rw [hL, List.length_map]; exact Nat.le_trans (List.length_filter_le _ _) hl
    rw [show ∀ bb (r : Env) Y, forT ⟨callF DEFS WW (n + 1)⟩ WW (.one 3) bb (.int (0 + i)) r Y = evS ⟨callF DEFS WW (n + 1)⟩ WW bb (r.set 3 (some (.int i))) Y from fun _ _ _ => by rw [Int.zero_add]; rfl]
    simp only [List.set_cons_succ, List.set_cons_zero]
    refine seqE9 (P := StepP (Q (i + 1)) _) (r' := [some (.ref p), some (.con (ms.map pairD)), some (.ref S.length), some (.int i), some (.con (L.map D.int)), none, none, o7]) (X' := S2 ++ [.lst (w.map D.int)]) ?_ ?_
    · simp
      rw [lc_fixMap9 (l := ms) (f := pairD) (h := fun m => if decide (m.1 = la) = true then some (.int m.2) else none) (by unfold lim; omega) (fun m hm => by
        by_cases hh : m.1 = la <;> simp [lcT, pairD, Tg.set, setAll, hlast, hh])]
      have : (ms.filterMap fun m => if decide (m.1 = la) = true then some (D.int m.2) else none) = L.map D.int := by
        rw [hL]
        exact filt_ends9 ms
      rw [this]
      simp
    clear hL hlast
    by_cases hn : L = []
    · subst hn
      simp [c_eqNil, seq_ref hc]
      rw [hRD]
      exact ⟨w, S2, _, rfl, rfl, by omega, wb, g2⟩
    have hL0 : 0 < L.length := List.length_pos_iff.mpr hn
    obtain ⟨c, S3, t3, a3, b3, g3⟩ := take_app (n := n) (T := [.lst (w.map D.int)]) g2.pot (m := (L.length : Int)) (by omega) (by omega)
    obtain ⟨nx, hnx, enx⟩ := pick_int L a3 b3
    have hc3 : (S3 ++ [O.lst (w.map D.int)])[S.length]? = some (.lst (w.map D.int)) := get_at0 (by rw [g3.len, g2.len])
    have hemp : L.isEmpty = false := by cases L with | nil => exact absurd rfl hn | cons a l => rfl
    have G3 := g2.trans g3
    have hbn := hLb nx hnx
    refine seqE9 (P := StepP (Q (i + 1)) _) (r' := [some (.ref p), some (.con (ms.map pairD)), some (.ref S.length), some (.int i), some (.con (L.map D.int)), none, none, o7]) (X' := S2 ++ [.lst (w.map D.int)]) (by simp [c_eqNil, hemp]) ?_
    refine seqE9 (P := StepP (Q (i + 1)) _) (r' := [some (.ref p), some (.con (ms.map pairD)), some (.ref S.length), some (.int i), some (.con (L.map D.int)), none, none, some (.int nx)]) (X' := S3 ++ [.lst (w.map D.int)]) (by simp [t3, enx]) ?_
    by_cases hin : nx ∈ w
    · have hx := List.idxOf_lt_length_iff.mpr hin
      have hcut : cut (w.map D.int) (some ((w.idxOf nx : Nat) : Int)) none = (w.drop (w.idxOf nx)).map D.int := by
        rw [List.map_drop]
        exact cut_from (α := D) (xs := w.map D.int) (k := w.idxOf nx) (by simp; omega)
      have hs : slcD true (.ref S.length) (some ((w.idxOf nx : Nat) : Int)) none (S3 ++ [.lst (w.map D.int)]) = .ok (.con ((w.drop (w.idxOf nx)).map D.int)) (S3 ++ [.lst (w.map D.int)]) := by
        rw [slc_ref9 hc3, hcut]
        rfl
      have hi := index_ref hc3 hin
      simp [c_in_ref hc3, hin]
      rw [kM_lst rfl hc3]
      simp [hi, hs]
      rw [hRD]
      exact ⟨w.drop (w.idxOf nx), S3, _, by rw [List.map_drop], rfl, by simp; omega, fun i hi => wb i (List.mem_of_mem_drop hi), G3⟩
    · refine seqE9 (P := StepP (Q (i + 1)) _) (r' := [some (.ref p), some (.con (ms.map pairD)), some (.ref S.length), some (.int i), some (.con (L.map D.int)), none, none, some (.int nx)]) (X' := S3 ++ [.lst (w.map D.int)]) (by simp [c_in_ref hc3, hin]) ?_
      simp
      rw [kM_lst rfl hc3]
      simp
      rw [append_ok hc3 (by simp; unfold lim; omega), set_at0 (by rw [g3.len, g2.len])]
      simp
      rw [hQ]
      refine ⟨w ++ [nx], S3, _, _, _, rfl, by simp, by simp, by simp; omega, fun i hi => ?_, G3⟩
      rcases List.mem_append.mp hi with hi | hi
      · exact wb i hi
      · rw [List.mem_singleton.mp hi]; exact hbn
  · intro r X hq
    rw [hQ] at hq
    obtain ⟨w, S2, o3, o4, o7, rfl, rfl, w0, w1, wb, g2⟩ := hq
    have hc : (S2 ++ [O.lst (w.map D.int)])[S.length]? = some (.lst (w.map D.int)) := get_at0 (by rw [g2.len])
    simp [seq_ref hc]
    exact fin w S2 (by omega) wb g2 _
  · intro d X hq
    rw [hRD] at hq
    obtain ⟨w, S2, T, rfl, rfl, h1, h2, g⟩ := hq
    simp
    exact fin w S2 h1 h2 g _
end
end MP

namespace MP
open PySem L2
section
variable {n p B d k : Nat} {x y : D} {S S' S'' T X : Store} {Γ : Cal} {v : HV} {ms ds : List (Int × Int)} {rgs : List (List Int)}
def B14 : Nat := 10 ^ 42
theorem bb14 : BB B14 := by unfold BB B14; decide +kernel
theorem hB14 : (10 ^ 30 + 100000 : Nat) ≤ B14 := by unfold B14; decide +kernel
theorem wee_all14 {B d k : Nat} {xs : List D} (h : ∀ x ∈ xs, Wee B d k x) : WeeL B d (k * xs.length) xs := by
  induction xs with
  | nil => exact ⟨rfl, by simp [dpL], by simp [nL]⟩
  | cons x xs ih =>
    have := (WeeL.one (h x (by simp))).app (ih fun y hy => h y (by simp [hy]))
    simp only [List.cons_append, List.nil_append] at this
    refine this.up (Nat.le_refl _) (Nat.le_refl _) ?_
    simp only [List.length_cons, Nat.mul_add, Nat.mul_one]
    omega
theorem wee_int14 {i : Int} {B : Nat} (h0 : -(B : Int) ≤ i) (h1 : i ≤ B) : Wee B 0 1 (.int i) := by
  refine ⟨?_, by simp [dpD], by simp [nD]⟩
  simp only [shwD, decide_eq_true_eq]
  omega
theorem wee_house14 (hv : v.ok) : Wee B14 4 90 v.d := by
  have hB : (2000 : Int) ≤ (B14 : Int) := by unfold B14; decide +kernel
  have w1 : ∀ i : Int, 0 ≤ i → i ≤ 2000 → Wee B14 0 1 (.int i) := fun i a b => wee_int14 (by omega) (by omega)
  have h := hv.thg.2
  refine ⟨?_, ?_, h⟩
  · have i1 : ∀ i : Int, 0 ≤ i → i ≤ 2000 → shwD B14 (.int i) = true := fun i a b => (w1 i a b).s
    simp only [HV.d, shwD, shwL, Bool.and_eq_true]
    refine ⟨?_, ?_, ?_, i1 v.h (by have := hv.h1; omega) (by have := hv.h9; omega), trivial⟩
    · exact shwL_iff.mpr fun x hx => by
        obtain ⟨i, hi, rfl⟩ := List.mem_map.mp hx
        have := hv.rs i hi
        exact i1 i this.1 (by omega)
    · exact shwL_iff.mpr fun x hx => by
        obtain ⟨kn, hk, rfl⟩ := List.mem_map.mp hx
        have := hv.ks kn hk
        simp only [knD, shwD, shwL, Bool.and_eq_true]
        refine ⟨i1 _ (by have := this.l1; omega) (by have := this.l2; omega), ?_, trivial⟩
        exact shwL_iff.mpr fun x hx => by
          obtain ⟨i, hi, rfl⟩ := List.mem_map.mp hx
          have := this.rs i hi
          exact i1 i this.1 (by omega)
    · exact shwL_iff.mpr fun x hx => by
        obtain ⟨q, hq, rfl⟩ := List.mem_map.mp hx
        have := hv.ps q hq
        have := hv.k4
        simp only [pairD, shwD, shwL, Bool.and_eq_true]
        exact ⟨i1 _ (by omega) (by omega), i1 _ (by omega) (by omega), trivial⟩
  · simp only [HV.d, dpD]
    have : dpL [.tup (v.rs.map .int), .tup (v.ks.map knD), .tup (v.ps.map pairD), .int v.h] ≤ 3 := by
      rw [dpL_le]
      intro x hx
      simp only [List.mem_cons, List.not_mem_nil, or_false] at hx
      have z : ∀ l : List Int, dpL (l.map D.int) ≤ 0 := fun l => by
        rw [dpL_le]
        intro y hy
        obtain ⟨i, _, rfl⟩ := List.mem_map.mp hy
        simp [dpD]
      rcases hx with rfl | rfl | rfl | rfl
      · have := z v.rs
        simp only [dpD]; omega
      · simp only [dpD]
        have : dpL (v.ks.map knD) ≤ 1 + 1 := by
          rw [dpL_le]
          intro y hy
          obtain ⟨kn, _, rfl⟩ := List.mem_map.mp hy
          have := z kn.2
          simp only [knD, dpD, dpL]
          omega
        omega
      · simp only [dpD]
        have : dpL (v.ps.map pairD) ≤ 1 := by
          rw [dpL_le]
          intro y hy
          obtain ⟨q, _, rfl⟩ := List.mem_map.mp hy
          simp [pairD, dpD, dpL]
        omega
      · simp [dpD]
    omega
theorem wee_repr14 {q : Bool} (h : Wee B14 d k x) (hd : d ≤ 60) (hk : k ≤ 8000) : bltD q .repr [x] S = .ok (.str (pyD x).shown) S := repr_ok bb14 h.s (Nat.le_trans h.d hd) (Nat.le_trans h.n hk)
theorem wee_loz {ns : List Int} (h : ∀ i ∈ ns, 0 ≤ i ∧ i ≤ 4) (hB : 4 ≤ B) : Wee B 1 (ns.length + 1) (lozD ns) := by
  have := Wee.tup (B := B) (d := 0) (k := 1 * (ns.map D.int).length) (xs := ns.map D.int) (wee_all14 fun x hx => by
    obtain ⟨i, hi, rfl⟩ := List.mem_map.mp hx
    have := h i hi
    exact wee_int14 (by omega) (by omega))
  exact this.up (Nat.le_refl _) (Nat.le_refl _) (by simp)
theorem rev_tup14 {q : Bool} {xs : List D} : revD q (.tup xs) S = .ok (.tup xs.reverse) S := rfl
theorem WeeL.cons14 {xs : List D} {k' : Nat} (h : Wee B d k x) (h' : WeeL B d k' xs) : WeeL B d (k + k') (x :: xs) := (WeeL.one h).app h'
theorem WeeL.nil14 : WeeL B d 0 [] := ⟨rfl, by simp [dpL], by simp [nL]⟩
theorem WeeL.rep14 {xs : List D} (h : WeeL B d k xs) : ∀ m : Nat, WeeL B d (m * k) (List.replicate m xs).flatten
  | 0 => by simpa using WeeL.nil14
  | m + 1 => by
    have := h.app (WeeL.rep14 h m)
    rw [List.replicate_succ, List.flatten_cons]
    exact this.up (Nat.le_refl _) (Nat.le_refl _) (by rw [Nat.succ_mul]; omega)
theorem wee_dct14 (h : Wee B d k x) : Wee B (d + 1) (k + 2) (.cdic [.inl 0] [x]) := by
  refine ⟨?_, ?_, ?_⟩
  · simp [shwD, shwL, keyOk, h.s]
  · have := h.d
    simp [dpD, dpL]
    omega
  · have := h.n
    simp [nD, nL]
    omega
def ThingsR (p : Nat) (S : Store) (z : Res D) : Prop := ∃ (ts : List D) (S' : Store), z = .ok (.con ts) S' ∧ ts.length ≤ 40 ∧ (∀ t ∈ ts, Wee B14 20 3000 t) ∧ PotS p S S'
def DrawnL (p : Nat) (S : Store) (z : Res D) : Prop := ∃ (ws : List (List Int)) (S' : Store), z = .ok (.con (ws.map lozD)) S' ∧ ws.length ≤ 4 ∧ (∀ w ∈ ws, w.length ≤ 7 ∧ ∀ i ∈ w, 0 ≤ i ∧ i ≤ 4) ∧ PotS p S S'
theorem lists_rings {R : Int} (hR : R ≤ 5) (h : MvsOk R ms) (hl : ms.length ≤ 10) (hp : Pot p S) {o2 o3 : Option D} :
    DrawnL p S (evE ⟨callF DEFS WW (n + 2)⟩ (.ite (.cmp .NotEq (.var 1) (.lst true .nil)) (.lc true (.one 3) .rng (.cons (.call 7 (.cons (.var 0) (.cons (.val (.int 5)) .nil))) .nil) .no (.call 266 (.cons (.var 0) (.cons (.var 1) .nil)))) (.lst true .nil)) [some (.ref p), some (.con (ms.map pairD)), none, none, none, none, none, none, none] S) := by
  by_cases hm : ms = []
  · subst hm
    have : cmpD .NotEq (.con []) (.con []) S = .ok (.bl false) S := rfl
    simp [this]
    exact ⟨[], S, rfl, by simp, by simp, .refl hp⟩
  have hne : cmpD .NotEq (.con (ms.map pairD)) (.con []) S = .ok (.bl true) S := by
    cases ms with
    | nil => exact absurd rfl hm
    | cons a l => rfl
  have h0 : 0 < ms.length := List.length_pos_iff.mpr hm
  obtain ⟨k, S1, t1, a1, b1, g1⟩ := take_ok (n := n + 1) hp (m := 5) (by decide) (by decide)
  simp [hne, t1]
  rw [src_rng1 (by unfold big; omega) (by unfold big; omega)]
  simp
  refine lc_rngP (P := fun z => DrawnL p S z) (by unfold lim; omega) (fun i acc X => ∃ ws : List (List Int), acc = ws.map lozD ∧ ws.length = i ∧ (∀ w ∈ ws, w.length ≤ 7 ∧ ∀ i ∈ w, 0 ≤ i ∧ i ≤ 4) ∧ PotS p S X) ⟨[], rfl, rfl, by simp, g1⟩ ?_ ?_
  · rintro i acc X hi ⟨ws, rfl, hw, hb, g⟩
    obtain ⟨ns, X', e, h1, h2, g'⟩ := drawn_ok (n := n) hR h hl h0 g.pot
    refine ⟨some (lozD ns), X', by simp [e], ws ++ [ns], by simp, by simp [hw], fun w hw => ?_, g.trans g'⟩
    rcases List.mem_append.mp hw with hw | hw
    · exact hb w hw
    · rw [List.mem_singleton.mp hw]; exact ⟨h1, h2⟩
  · rintro ys X ⟨ws, rfl, hw, hb, g⟩
    simp
    exact ⟨ws, X, rfl, by omega, hb, g⟩
end
end MP

namespace MP
open PySem L2
section
variable {n p B d k : Nat} {x y : D} {S S' S'' T X : Store} {Γ : Cal} {v : HV} {ms ds : List (Int × Int)} {rgs : List (List Int)}
theorem filt_ite9 {α β : Type} {c : α → Bool} {f : α → β} : ∀ l : List α, (l.filterMap fun a => if c a = true then some (f a) else none) = (l.filter c).map f
  | [] => rfl
  | a :: l => by
    have ih := filt_ite9 (c := c) (f := f) l
    rw [List.filterMap_cons, List.filter_cons]
    cases h : c a with
    | true => simp [ih]
    | false => simp [ih]
theorem first_ring9 (rgs : List (List Int)) : ∃ w0 : List Int, (∀ X, idxD (.con (rgs.map lozD ++ [.tup [.int 0, .int 1]])) (.int 0) X = .ok (lozD w0) X) ∧ (w0 = [0, 1] ∨ w0 ∈ rgs) := by
  cases rgs with
  | nil => exact ⟨[0, 1], fun X => rfl, .inl rfl⟩
  | cons w l => exact ⟨w, fun X => by simp, .inr (by simp)⟩
theorem lists_ok {R : Int} (hR : R = v.rs.length) (hv : v.ok) (h : MvsOk v.rs.length ms) (hl : ms.length ≤ 10) (hp : Pot p S) : ThingsR p S (callF DEFS WW (n + 10) i__law_lists [.ref p, .con (ms.map pairD)] S) := by
  have r5 := hv.r5
  rw [cF_eq D__law_lists rfl rfl]
  simp only [c__law_lists, k__law_lists]
  obtain ⟨ws, S1, e1, l1, b1, g1⟩ := lists_rings (n := n + 7) (R := v.rs.length) (by omega) h hl hp (o2 := none) (o3 := none)
  refine seqE9 (P := fun z => ThingsR p S (ends z)) (r' := [some (.ref p), some (.con (ms.map pairD)), some (.con (ws.map lozD)), none, none, none, none, none, none]) (X' := S1) (by
    simp only [List.map_cons, List.map_nil, List.cons_append, List.nil_append, List.replicate, s_set]
    rw [e1]
    rfl) ?_
  have hthg : ∀ w ∈ ws, Thg (lozD w) := fun w hw => (wee_loz (B := B14) (b1 w hw).2 (by have := hB14; omega)).thg (by have := (b1 w hw).1; unfold lim; omega)
  obtain ⟨rgs, hrgs⟩ : ∃ rgs : List (List Int), rgs = ws.filter fun w => isRingD ms (lozD w) := ⟨_, rfl⟩
  have hrl : rgs.length ≤ 4 := by rw [hrgs]; exact Nat.le_trans (List.length_filter_le _ _) l1
  have hrb : ∀ w ∈ rgs, w.length ≤ 5 ∧ ∀ i ∈ w, 0 ≤ i ∧ i ≤ 4 := fun w hw => by
    rw [hrgs] at hw
    have hw := List.mem_filter.mp hw
    obtain ⟨ns, e, h1, h2, h3⟩ := ring_inv h hw.2
    have : ns = w := by
      have e' : w.map D.int = ns.map D.int := by simpa [lozD] using e
      have := congrArg intsOf e'
      simp at this
      exact this.symm
    subst this
    exact ⟨h2, (b1 ns hw.1).2⟩
  refine seqE9 (P := fun z => ThingsR p S (ends z)) (r' := [some (.ref p), some (.con (ms.map pairD)), some (.con (rgs.map lozD)), none, none, none, none, none, none]) (X' := S1) ?_ ?_
  · simp
    rw [lc_fixMap9 (l := ws) (f := lozD) (h := fun w => if isRingD ms (lozD w) = true then some (lozD w) else none) (by unfold lim; omega) (fun w hw => by
      have := law_is_ring_ok (n := n + 7) (S := S1) h hl (hthg w hw)
      cases hh : isRingD ms (lozD w) <;> simp [lcT, Tg.set, this, hh])]
    rw [filt_ite9, hrgs]
    simp
  clear e1 hthg hrgs b1 l1
  have hwr : ∀ w ∈ rgs, Wee (10 ^ 30) 1 6 (lozD w) := fun w hw => (wee_loz (B := 10 ^ 30) (hrb w hw).2 (by decide)).up (Nat.le_refl _) (Nat.le_refl _) (by have := (hrb w hw).1; omega)
  obtain ⟨at_, S2, t2, a2, b2, g2⟩ := take_ok (n := n + 8) g1.pot (m := (rgs.length : Int) + 1) (by omega) (by omega)
  refine seqE9 (P := fun z => ThingsR p S (ends z)) (r' := [some (.ref p), some (.con (ms.map pairD)), some (.con (rgs.map lozD)), none, none, some (.int at_), none, none, none]) (X' := S2) (by simp [t2]) ?_
  obtain ⟨w0, ew0, hw0⟩ := first_ring9 rgs
  have hww : WeeL (10 ^ 30) 1 24 (rgs.map lozD) := (wee_all14 (B := 10 ^ 30) (d := 1) (k := 6) (xs := rgs.map lozD) fun x hx => by
    obtain ⟨w, hw, rfl⟩ := List.mem_map.mp hx
    exact hwr w hw).up (Nat.le_refl _) (Nat.le_refl _) (by simp; omega)
  have hA : w0.length ≤ 5 ∧ ∀ i ∈ w0, 0 ≤ i ∧ i ≤ 4 := by
    rcases hw0 with rfl | hw0
    · exact ⟨by simp, by simp⟩
    · exact hrb w0 hw0
  have hRl : (rgs.map lozD).length ≤ 4 := by simpa using hrl
  have b2' : at_ ≤ (rgs.map lozD).length := by simp; omega
  generalize rgs.map lozD = RL at ew0 hww hRl b2' ⊢
  clear hwr hw0 hrb hrl b2
  obtain ⟨od, S3, t3, w3, g3⟩ := odd_bent (n := n + 7) (B := 10 ^ 30) (d := 3) (k := 3) (Nat.le_refl _) (Nat.le_refl _) (Nat.le_refl _) g2.pot
  obtain ⟨M, hM⟩ : ∃ M, M = (List.replicate (31 : Int).toNat RL).flatten := ⟨_, rfl⟩
  have em : ∀ X, binD true .Mult (.con RL) (.int 31) X = .ok (.con M) X := fun X => by
    rw [b_mulC (by omega), hM]
    rfl
  have hMw : WeeL (10 ^ 30) 1 744 M := by
    rw [hM]
    exact (hww.rep14 31).up (Nat.le_refl _) (Nat.le_refl _) (by omega)
  clear hM
  refine seqE9 (P := fun z => ThingsR p S (ends z)) (r' := [some (.ref p), some (.con (ms.map pairD)), some (.con RL), none, none, some (.int at_), some (.con [.con RL, .con [], .tup RL, .cdic [.inl 0] [.con RL], .non, od, .con (cut M none (some 30)), .con (cut M none (some 31))]), none, none]) (X' := S3) (by simp [t3, em]) ?_
  refine seqE9 (P := fun z => ThingsR p S (ends z)) (r' := [some (.ref p), some (.con (ms.map pairD)), some (.con RL), none, some (lozD w0), some (.int at_), some (.con [.con RL, .con [], .tup RL, .cdic [.inl 0] [.con RL], .non, od, .con (cut M none (some 30)), .con (cut M none (some 31))]), none, none]) (X' := S3) (by
    simp
    rw [b_addC (by simp; unfold lim; omega)]
    simp [ew0]) ?_
  obtain ⟨TS, hTS⟩ : ∃ TS, TS = [D.con RL, .con [], .tup RL, .cdic [.inl 0] [.con RL], .non, od, .con (cut M none (some 30)), .con (cut M none (some 31))] := ⟨_, rfl⟩
  have hTl : TS.length = 8 := by rw [hTS]; rfl
  have hTw : ∀ t ∈ TS, Wee B14 20 3000 t := by
    have hb : (10 ^ 30 : Nat) ≤ B14 := by have := hB14; omega
    have c1 : Wee (10 ^ 30) 2 25 (.con RL) := Wee.con hww
    intro t ht
    rw [hTS] at ht
    simp only [List.mem_cons, List.not_mem_nil, or_false] at ht
    rcases ht with rfl | rfl | rfl | rfl | rfl | rfl | rfl | rfl
    · exact c1.up hb (by omega) (by omega)
    · exact (Wee.con (WeeL.nil14 (B := 10 ^ 30) (d := 0))).up hb (by omega) (by omega)
    · exact (Wee.tup hww).up hb (by omega) (by omega)
    · exact (wee_dct14 c1).up hb (by omega) (by omega)
    · exact ⟨rfl, by simp [dpD], by simp [nD]⟩
    · exact w3.up hb (by omega) (by omega)
    · exact (Wee.con (hMw.cut _ _)).up hb (by omega) (by omega)
    · exact (Wee.con (hMw.cut _ _)).up hb (by omega) (by omega)
  rw [← hTS]
  clear hTS hMw em t3 w3
  have G3 := (g1.trans g2).trans g3
  have hb : (10 ^ 30 + 20000 : Nat) ≤ B14 := by have := hB14; omega
  have hAw : WeeL (10 ^ 30) 0 5 (w0.map D.int) := (wee_all14 (B := 10 ^ 30) (d := 0) (k := 1) fun x hx => by
    obtain ⟨i, hi, rfl⟩ := List.mem_map.mp hx
    have := hA.2 i hi
    exact wee_int14 (by omega) (by omega)).up (Nat.le_refl _) (Nat.le_refl _) (by simp; omega)
  have hAl : (w0.map D.int).length ≤ 5 := by simpa using hA.1
  have hz : lozD w0 = .tup (w0.map D.int) := rfl
  rw [hz]
  clear hz ew0 hA
  generalize w0.map D.int = A at hAw hAl ⊢
  have hAt : Wee (10 ^ 30) 1 6 (.tup A) := Wee.tup hAw
  obtain ⟨bt, S4, t4, w4, g4⟩ := bent_ok (n := n + 5) (B := 10 ^ 30) (k := 6) (Nat.le_refl _) (by omega) 1 hAt g3.pot
  have L1 := (cut_sub A (some 1) none).length_le
  have L2 := (cut_sub A none (some 1)).length_le
  have q1 : ∀ X, binD true .Add (.tup (cut A (some 1) none)) (.tup (cut A none (some 1))) X = .ok (.tup (cut A (some 1) none ++ cut A none (some 1))) X := fun X => addT (by omega)
  have q2 : ∀ X, binD true .Add (.tup A) (.tup (cut A none (some 1))) X = .ok (.tup (A ++ cut A none (some 1))) X := fun X => addT (by omega)
  refine seqE9 (P := fun z => ThingsR p S (ends z)) (r' := [some (.ref p), some (.con (ms.map pairD)), some (.con RL), none, some (.tup A), some (.int at_), some (.con TS), some (.con [.tup (cut A (some 1) none ++ cut A none (some 1)), .tup A.reverse, .tup (A ++ cut A none (some 1)), .tup (cut A none (some 1)), .tup [], .con A, .non, bt]), none]) (X' := S4) (by simp [q1, q2, rev_tup14, pb_list, t4]) ?_
  obtain ⟨od2, S5, t5, w5, g5⟩ := odd_bent (n := n + 7) (B := 10 ^ 30) (d := 3) (k := 3) (Nat.le_refl _) (Nat.le_refl _) (Nat.le_refl _) g4.pot
  obtain ⟨bu, S6, t6, w6, g6⟩ := bent_ok (n := n + 5) (B := 10 ^ 30) (k := 6) (Nat.le_refl _) (by omega) 1 hAt g5.pot
  obtain ⟨bv, S7, t7, w7, g7⟩ := bent_ok (n := n) (B := 10 ^ 30 + 10000) (k := 2 * (1 * 6) + 3 * 6 + 20) (by omega) (by omega) (1 + 5) w6 g6.pot
  obtain ⟨OL, hOL⟩ : ∃ OL, OL = [D.tup (cut A (some 1) none ++ cut A none (some 1)), .tup A.reverse, .tup (A ++ cut A none (some 1)), .tup (cut A none (some 1)), .tup [], .con A, .non, bt, od2, bv] := ⟨_, rfl⟩
  have hOl : OL.length = 10 := by rw [hOL]; rfl
  have hOw : ∀ o ∈ OL, Wee (10 ^ 30 + 20000) 11 800 o := by
    intro o ho
    rw [hOL] at ho
    simp only [List.mem_cons, List.not_mem_nil, or_false] at ho
    rcases ho with rfl | rfl | rfl | rfl | rfl | rfl | rfl | rfl | rfl | rfl
    · exact (Wee.tup ((hAw.cut _ _).app (hAw.cut _ _))).up (by omega) (by omega) (by omega)
    · exact (Wee.tup (wee_all14 (B := 10 ^ 30) (d := 0) (k := 5) (xs := A.reverse) fun x hx => hAw.mem (List.mem_reverse.mp hx))).up (by omega) (by omega) (by simp; omega)
    · exact (Wee.tup (hAw.app (hAw.cut _ _))).up (by omega) (by omega) (by omega)
    · exact (Wee.tup (hAw.cut _ _)).up (by omega) (by omega) (by omega)
    · exact (Wee.tup (WeeL.nil14 (B := 10 ^ 30) (d := 0))).up (by omega) (by omega) (by omega)
    · exact (Wee.con hAw).up (by omega) (by omega) (by omega)
    · exact ⟨rfl, by simp [dpD], by simp [nD]⟩
    · exact w4.up (by omega) (by omega) (by omega)
    · exact w5.up (by omega) (by omega) (by omega)
    · exact w7.up (by omega) (by omega) (by omega)
  have hb2 : ∀ X, binD true .Add (.con [D.tup (cut A (some 1) none ++ cut A none (some 1)), .tup A.reverse, .tup (A ++ cut A none (some 1)), .tup (cut A none (some 1)), .tup [], .con A, .non, bt]) (.con [od2, bv]) X = .ok (.con OL) X := fun X => by
    rw [b_addC (by simp; unfold lim; omega), hOL]
    rfl
  generalize [D.tup (cut A (some 1) none ++ cut A none (some 1)), .tup A.reverse, .tup (A ++ cut A none (some 1)), .tup (cut A none (some 1)), .tup [], .con A, .non, bt] = O7 at hb2 ⊢
  clear hOL q1 q2 L1 L2 w4 w5 w6 w7 t4
  have G7 := (((G3.trans g4).trans g5).trans g6).trans g7
  obtain ⟨Q, hQ⟩ : ∃ Q : Nat → Env → Store → Prop, Q = fun (i : Nat) (r : Env) (X : Store) => X = S7 ∧ ∃ (ts : List D) (o8 : Option D), r = [some (.ref p), some (.con (ms.map pairD)), some (.con RL), none, some (.tup A), some (.int at_), some (.con ts), some (.con O7), o8] ∧ ts.length ≤ 8 + 2 * i ∧ ∀ t ∈ ts, Wee B14 20 3000 t := ⟨_, rfl⟩
  refine seqF9 (P := fun z => ThingsR p S (ends z)) (Q := Q OL.length) ?_ ?_
  · simp [t5, t6, t7, hb2]
    refine for_fix (P := fun z => ∃ r' X', z = .ok (.nx r') X' ∧ Q OL.length r' X') Q (fun _ _ => False) ?_ ?_ (fun r' X' h => ⟨r', X', rfl, h⟩) (fun _ _ h => h.elim)
    · rw [hQ]; exact ⟨rfl, TS, none, rfl, by omega, hTw⟩
    intro i x r X hx hq
    rw [hQ] at hq
    obtain ⟨rfl, ts, o8, rfl, hl1, hl2⟩ := hq
    have hxw := hOw x (List.mem_of_getElem? hx)
    have hi : i < OL.length := (List.getElem?_eq_some_iff.mp hx).1
    have C1 := (cut_sub RL none (some at_)).length_le
    have C2 := (cut_sub RL (some at_) none).length_le
    have k1 : ∀ X, binD true .Add (.con (cut RL none (some at_))) (.con [x]) X = .ok (.con (cut RL none (some at_) ++ [x])) X := fun X => b_addC (by simp; unfold lim; omega)
    have k2 : ∀ X, binD true .Add (.con (cut RL none (some at_) ++ [x])) (.con (cut RL (some at_) none)) X = .ok (.con ((cut RL none (some at_) ++ [x]) ++ cut RL (some at_) none)) X := fun X => b_addC (by simp; unfold lim; omega)
    have k3 : ∀ X y z, binD true .Add (.con ts) (.con [y, z]) X = .ok (.con (ts ++ [y, z])) X := fun X y z => b_addC (by simp; unfold lim; omega)
    have f1 : Wee B14 20 3000 (.con ((cut RL none (some at_) ++ [x]) ++ cut RL (some at_) none)) := by
      have r1 : WeeL (10 ^ 30 + 20000) 11 24 RL := hww.up (by omega) (by omega) (by omega)
      exact (Wee.con (((r1.cut _ _).app (WeeL.one hxw)).app (r1.cut _ _))).up hb (by omega) (by omega)
    have f2 : Wee B14 20 3000 (.con [x]) := (Wee.con (WeeL.one hxw)).up hb (by omega) (by omega)
    generalize (cut RL none (some at_) ++ [x]) ++ cut RL (some at_) none = Y at k2 f1
    simp [k1, k2, k3]
    rw [hQ]
    refine ⟨rfl, ts ++ [.con Y, .con [x]], _, rfl, by simp; omega, fun t ht => ?_⟩
    rcases List.mem_append.mp ht with ht | ht
    · exact hl2 t ht
    · simp only [List.mem_cons, List.not_mem_nil, or_false] at ht
      rcases ht with rfl | rfl
      · exact f1
      · exact f2
  intro r X hq
  rw [hQ] at hq
  obtain ⟨rfl, ts, o8, rfl, hl1, hl2⟩ := hq
  simp
  exact ⟨ts, X, rfl, by omega, hl2, G7⟩
end
end MP

namespace MP
open PySem L2
section
variable {n p d k : Nat} {x y : D} {S S' S'' X : Store} {Γ : Cal} {v : HV} {ms ds : List (Int × Int)} {rgs : List (List Int)} {o0 o1 o2 o4 o8 o9 o10 o11 : Option D}
theorem wee_moves16 {R : Int} (hR : R ≤ 5) (h : MvsOk R ms) (hl : ms.length ≤ 10) : Wee B14 2 31 (.con (ms.map pairD)) := by
  have hB : (4 : Nat) ≤ B14 := by have := hB14; omega
  have := Wee.con (wee_all14 (B := B14) (d := 1) (k := 3) (xs := ms.map pairD) fun x hx => by
    obtain ⟨m, hm, rfl⟩ := List.mem_map.mp hx
    have := h m hm
    simp only [MvOk] at this
    have w := wee_loz (B := B14) (ns := [m.1, m.2]) (by simp; omega) hB
    exact w)
  exact this.up (Nat.le_refl _) (Nat.le_refl _) (by simp; omega)
theorem k53_thing (hv : v.ok) (h : MvsOk v.rs.length ms) (hl : ms.length ≤ 10) (hx : Thg x) : ∃ (w : Int), (∀ X, evE ⟨callF DEFS WW (n + 10)⟩ (.ite (.var 7) (.call 256 (.cons (.var 3) (.cons (.var 6) .nil))) (.val (.int 1))) [o0, o1, o2, some v.d, o4, some (.con (ms.map pairD)), some x, some (.bl (areRingsD ms x)), o8, o9, o10, o11] X = .ok (.int w) X) ∧
    ∀ (m : Int) X, callF DEFS WW (n + 10) i__law_told_v7 [v.d, .con (ms.map pairD), .int m, x] X = .ok (.bl (areRingsD ms x && decide (m ≤ w))) X := by
  cases hr : areRingsD ms x with
  | false =>
    refine ⟨1, fun X => by simp, fun m X => ?_⟩
    exact told_ok12 (n := n + 2) fun S => are_rings_no (n := n + 2) hv h hl hx hr
  | true =>
    obtain ⟨F, f0, f5, hF⟩ := are_rings_yes hv h hl hx hr
    refine ⟨F, fun X => ?_, fun m X => ?_⟩
    · have := (hF (n + 8) X 0).2
      simp [this]
    · rw [Bool.true_and]
      exact told_ok12 (n := n + 2) fun S => (hF (n + 2) S m).1
theorem k53_law (ns : List Int) : ∃ S', callF DEFS WW (n + 11) i_law_v22 [.scr (ns.map .int)] S = .ok (.bl true) S' := by
  rw [cF_eq D_law_v22 rfl rfl]
  simp only [c_law_v22, k_law_v22]
  simp
  rw [src_rng1 (by unfold big; split <;> split <;> omega) (by unfold big; split <;> split <;> omega)]
  generalize Int.toNat _ = cn
  simp
  obtain ⟨Q, hQ⟩ : ∃ Q : Nat → Env → Store → Prop, Q = fun (i : Nat) (r : Env) (S' : Store) => ∃ o1 o2 o3 o4 o5 o6 o7 o8 o9 o10 o11, r = [some (.scr (ns.map .int)), o1, o2, o3, o4, o5, o6, o7, o8, o9, o10, o11] := ⟨_, rfl⟩
  refine for_rng (P := fun z => ∃ S', ends (thenS z _) = .ok _ S') Q (fun _ _ => False) ?_ ?_ ?_ (fun _ _ h => h.elim)
  · rw [hQ]; exact ⟨_, _, _, _, _, _, _, _, _, _, _, rfl⟩
  rotate_left
  · intro r S1 hq
    rw [hQ] at hq
    obtain ⟨o1, o2, o3, o4, o5, o6, o7, o8, o9, o10, o11, rfl⟩ := hq
    exact ⟨S1, by simp⟩
  intro i r S1 hi hq
  rw [hQ] at hq
  obtain ⟨o1, o2, o3, o4, o5, o6, o7, o8, o9, o10, o11, rfl⟩ := hq
  obtain ⟨cc, ec⟩ := cell_at_ok (n := n + 9) (S := S1) (ns := ns) (k := i)
  obtain ⟨pv, ep⟩ := pot_ok (n := n + 9) (S := S1) (c := cc)
  have hp : Pot S1.length (S1 ++ [.lst [.int pv]]) := ⟨pv, by simp⟩
  rw [show ∀ bb (r : Env) Y, forT ⟨callF DEFS WW (n + 10)⟩ WW (.one 1) bb (.int (0 + i)) r Y = evS ⟨callF DEFS WW (n + 10)⟩ WW bb (r.set 1 (some (.int i))) Y from fun _ _ _ => by rw [Int.zero_add]; rfl]
  simp only [List.set_cons_succ, List.set_cons_zero]
  refine seqE9 (P := StepP (Q (i + 1)) fun _ _ => False) (r' := [some (.scr (ns.map .int)), some (.int i), some (.ref S1.length), o3, o4, o5, o6, o7, o8, o9, o10, o11]) (X' := S1 ++ [.lst [.int pv]]) (by simp [ec, ep]) ?_
  generalize S1 ++ [O.lst [.int pv]] = S2 at hp ⊢
  generalize S1.length = p at hp ⊢
  clear ec ep
  obtain ⟨v, S3, ev, hv, g3⟩ := house2_ok (n := n + 8) hp
  refine seqE9 (P := StepP (Q (i + 1)) fun _ _ => False) (r' := [some (.scr (ns.map .int)), some (.int i), some (.ref p), some v.d, o4, o5, o6, o7, o8, o9, o10, o11]) (X' := S3) (by simp [ev]) ?_
  have hpt := g3.pot
  have r5 := hv.r5
  clear ev g3 hp
  obtain ⟨Q1, hQ1⟩ : ∃ Q1 : Nat → Env → Store → Prop, Q1 = fun (_ : Nat) (r : Env) (S' : Store) => Pot p S' ∧ ∃ o4 o5 o6 o7 o8 o9 o10 o11, r = [some (.scr (ns.map .int)), some (.int i), some (.ref p), some v.d, o4, o5, o6, o7, o8, o9, o10, o11] := ⟨_, rfl⟩
  refine seqF9 (P := StepP (Q (i + 1)) fun _ _ => False) (Q := Q1 3) ?_ ?_
  rotate_left
  · intro r X hq
    rw [hQ1] at hq
    obtain ⟨_, o4, o5, o6, o7, o8, o9, o10, o11, rfl⟩ := hq
    simp
    rw [hQ]
    exact ⟨_, _, _, _, _, _, _, _, _, _, _, rfl⟩
  simp
  rw [src_rng1 (by decide) (by decide)]
  simp
  refine for_rng (P := fun z => ∃ r' X', z = .ok (.nx r') X' ∧ Q1 3 r' X') Q1 (fun _ _ => False) ?_ ?_ (fun r' X' h => ⟨r', X', rfl, h⟩) (fun _ _ h => h.elim)
  · rw [hQ1]; exact ⟨hpt, _, _, _, _, _, _, _, _, rfl⟩
  intro t r X0 ht hq
  rw [hQ1] at hq
  obtain ⟨hpX, o4, o5, o6, o7, o8, o9, o10, o11, rfl⟩ := hq
  rw [show ∀ bb (r : Env) Y, forT ⟨callF DEFS WW (n + 10)⟩ WW (.one 4) bb (.int (0 + t)) r Y = evS ⟨callF DEFS WW (n + 10)⟩ WW bb (r.set 4 (some (.int t))) Y from fun _ _ _ => by rw [Int.zero_add]; rfl]
  simp only [List.set_cons_succ, List.set_cons_zero]
  obtain ⟨ms, X1, e5, hl, hms, g5⟩ := moves_ok (n := n + 8) hv hpX
  refine seqE9 (P := StepP (Q1 (t + 1)) fun _ _ => False) (r' := [some (.scr (ns.map .int)), some (.int i), some (.ref p), some v.d, some (.int t), some (.con (ms.map pairD)), o6, o7, o8, o9, o10, o11]) (X' := X1) (by simp [e5]) ?_
  obtain ⟨ts, X2, e6, tl, tw, g6⟩ := lists_ok (n := n) (R := v.rs.length) rfl hv hms hl g5.pot
  clear e5
  have hm := wee_moves16 (R := v.rs.length) (by omega) hms hl
  have hw := wee_house14 hv
  obtain ⟨Q2, hQ2⟩ : ∃ Q2 : Nat → Env → Store → Prop, Q2 = fun (_ : Nat) (r : Env) (S' : Store) => Pot p S' ∧ ∃ o6 o7 o8 o9 o10 o11, r = [some (.scr (ns.map .int)), some (.int i), some (.ref p), some v.d, some (.int t), some (.con (ms.map pairD)), o6, o7, o8, o9, o10, o11] := ⟨_, rfl⟩
  refine seqF9 (P := StepP (Q1 (t + 1)) fun _ _ => False) (Q := Q2 ts.length) ?_ ?_
  · simp [e6]
    refine for_fix (P := fun z => ∃ r' X', z = .ok (.nx r') X' ∧ Q2 ts.length r' X') Q2 (fun _ _ => False) ?_ ?_ (fun r' X' h => ⟨r', X', rfl, h⟩) (fun _ _ h => h.elim)
    · rw [hQ2]; exact ⟨g6.pot, _, _, _, _, _, _, rfl⟩
    intro j x r Y hx hq
    rw [hQ2] at hq
    obtain ⟨hpY, o6, o7, o8, o9, o10, o11, rfl⟩ := hq
    have xw := tw x (List.mem_of_getElem? hx)
    have xt : Thg x := xw.thg (by unfold lim; omega)
    have hrep : Wee B14 21 4000 (.tup [v.d, .con (ms.map pairD), x]) := (Wee.tup (WeeL.cons14 (hw.up (Nat.le_refl _) (show 4 ≤ 20 by omega) (Nat.le_refl _)) (WeeL.cons14 (hm.up (Nat.le_refl _) (by omega) (Nat.le_refl _)) (WeeL.one xw)))).up (Nat.le_refl _) (by omega) (by omega)
    have hr2 := fun Y => wee_repr14 (S := Y) (q := true) hrep (by omega) (by omega)
    generalize (pyD (.tup [v.d, .con (ms.map pairD), x])).shown = KK at hr2
    have hlr := law_are_rings_ok (n := n + 7) (S := Y) hms hl xt
    rw [forT_one]
    simp only [List.set_cons_succ, List.set_cons_zero]
    refine seqE9 (P := StepP (Q2 (j + 1)) fun _ _ => False) (r' := [some (.scr (ns.map .int)), some (.int i), some (.ref p), some v.d, some (.int t), some (.con (ms.map pairD)), some x, some (.bl (areRingsD ms x)), some (.str KK), o9, o10, o11]) (X' := Y) (by simp [hlr, hr2]) ?_
    obtain ⟨w, ew, etold⟩ := k53_thing (n := n) (v := v) (ms := ms) (x := x) (o0 := some (.scr (ns.map .int))) (o1 := some (.int i)) (o2 := some (.ref p)) (o4 := some (.int t)) (o8 := some (.str KK)) (o9 := o9) (o10 := o10) (o11 := o11) hv hms hl xt
    refine seqE9 (P := StepP (Q2 (j + 1)) fun _ _ => False) (r' := [some (.scr (ns.map .int)), some (.int i), some (.ref p), some v.d, some (.int t), some (.con (ms.map pairD)), some x, some (.bl (areRingsD ms x)), some (.str KK), some (.int w), o10, o11]) (X' := Y) (by rw [s_set, ew]; rfl) ?_
    obtain ⟨c, Y1, tc, ca, cb, gc⟩ := take_ok (n := n + 9) hpY (m := 5) (by decide) (by decide)
    obtain ⟨m, hm', em⟩ := pick_int [0, 1, -1, 10 ^ 20, -10 ^ 20] ca cb
    have e20 : ∀ q S, binD q .Pow (.int 10) (.int 20) S = .ok (.int (10 ^ 20)) S := fun _ _ => rfl
    simp only [List.map_cons, List.map_nil] at em
    obtain ⟨W, hW⟩ : ∃ W : Int, W = w + m := ⟨_, rfl⟩
    refine seqE9 (P := StepP (Q2 (j + 1)) fun _ _ => False) (r' := [some (.scr (ns.map .int)), some (.int i), some (.ref p), some v.d, some (.int t), some (.con (ms.map pairD)), some x, some (.bl (areRingsD ms x)), some (.str KK), some (.int w), some (.int W), o11]) (X' := Y1) (by
      simp [e20, tc]
      simp at em
      simp [em, hW]) ?_
    have et := etold W Y1
    clear hW
    generalize areRingsD ms x = gd at et
    refine seqE9 (P := StepP (Q2 (j + 1)) fun _ _ => False) (r' := [some (.scr (ns.map .int)), some (.int i), some (.ref p), some v.d, some (.int t), some (.con (ms.map pairD)), some x, some (.bl gd), some (.str KK), some (.int w), some (.int W), o11]) (X' := Y1) (by
      by_cases hle : W ≤ w <;> cases gd <;> simp [hle] at et <;> simp [et, hle]) ?_
    refine seqE9 (P := StepP (Q2 (j + 1)) fun _ _ => False) (r' := [some (.scr (ns.map .int)), some (.int i), some (.ref p), some v.d, some (.int t), some (.con (ms.map pairD)), some x, some (.bl gd), some (.str KK), some (.int w), some (.int W), o11]) (X' := Y1) (by simp [hr2]) ?_
    simp
    rw [hQ2]
    exact ⟨gc.pot, _, _, _, _, _, _, rfl⟩
  intro r Y hq
  rw [hQ2] at hq
  obtain ⟨hpY, o6, o7, o8, o9, o10, o11, rfl⟩ := hq
  obtain ⟨Q3, hQ3⟩ : ∃ Q3 : Nat → Env → Store → Prop, Q3 = fun (_ : Nat) (r : Env) (S' : Store) => S' = Y ∧ ∃ o11, r = [some (.scr (ns.map .int)), some (.int i), some (.ref p), some v.d, some (.int t), some (.con (ms.map pairD)), o6, o7, o8, o9, o10, o11] := ⟨_, rfl⟩
  have hbad : ∀ y ∈ ([.bl true, .non, .str "1", .tup [.int 1], .con [.int 1]] : List D), ∀ X, callF DEFS WW (n + 10) i__law_told_v7 [v.d, .con (ms.map pairD), y, .con []] X = .ok (.str "number") X := fun y hy X => by
    simp only [List.mem_cons, List.not_mem_nil, or_false] at hy
    rcases hy with rfl | rfl | rfl | rfl | rfl <;> exact told_bad12 (n := n + 2) hv hms hl rfl rfl
  refine seqF9 (P := StepP (Q1 (t + 1)) fun _ _ => False) (Q := Q3 5) ?_ ?_
  · simp
    refine for_fix (P := fun z => ∃ r' X', z = .ok (.nx r') X' ∧ Q3 5 r' X') Q3 (fun _ _ => False) ?_ ?_ (fun r' X' h => ⟨r', X', rfl, h⟩) (fun _ _ h => h.elim)
    · rw [hQ3]; exact ⟨rfl, _, rfl⟩
    intro j y r Z hy hq
    rw [hQ3] at hq
    obtain ⟨rfl, o11, rfl⟩ := hq
    have := hbad y (List.mem_of_getElem? hy) Z
    simp [this]
    rw [hQ3]
    exact ⟨rfl, _, rfl⟩
  intro r Z hq
  rw [hQ3] at hq
  obtain ⟨rfl, o11, rfl⟩ := hq
  simp
  rw [hQ1]
  exact ⟨hpY, _, _, _, _, _, _, _, _, rfl⟩
end
end MP
namespace MPL
open PySem L2 MP
def kk : Nat := 12
theorem law_ok (ns : List Int) (hn : ns.length ≤ 63) : ∃ S', callF DEFS WW kk i_law_v22 [.scr (ns.map D.int)] [] = .ok (.bl true) S' := k53_law (n := 1) ns
end MPL

open PySem PySem.W PySem.Calls PyProof.Rows in
theorem PySem.Challenge.cw_rimehold_k53_rings_looked_at_holds : PySem.Challenge.rw_rimehold_k53_rings_looked_at.Holds := by
  w_on; o_law
  refine HandSHeadRun.head_any (r := MPL.R) (q := view MPL.R.prog [60]) (H := MPL.hk) (ob := MPL.ob) (M := 20000) (loose := MPL.loose) (d := HandSHeadRun.topDef MPL.R.prog 60) (kwd := []) MPL.ob_eq
    (by kernel_rfl) (fun s => by kernel_rfl) MPL.run (by kernel_rfl) (by kernel_rfl) (by kernel_rfl) (by rfl) (by first | assumption | decide +kernel) (by decide +kernel) ⟨rfl, rfl, rfl, rfl, rfl, by decide +kernel⟩ ?hw ?hc
  case hw => w_witness2
  case hc =>
    have hf : MPL.T.funs.lookup 268 = some ((HandSHeadRun.topDef MPL.R.prog 60).name, 1) := by
      have e : (HandSHeadRun.topDef MPL.R.prog 60).name = ("law" : PySem.Str) := by kernel_rfl
      rw [e]; rfl
    refine MP.walkG (l := PySem.Challenge.rw_rimehold_k53_rings_looked_at) (n := 63) (k := MPL.kk) (W := MP.WW) (fl := 268) rfl (by decide) (by kernel_rfl) ⟨rfl, by decide, by decide⟩ (by decide +kernel) hf (fun w mg h Y G => ?_) MPL.law_ok
    obtain ⟨K, KX, c⟩ := Y
    exact ⟨⟨K, mg, fun _ => 0, [], none⟩, rfl, rfl, KX, MPL.prog KX G c⟩

