import PyProof.Rows.All
import Wide.All
import OpenK.AllK
import Wide.FinOn
import HandS.Deep
import HandS.Defaults
import HandS.Ends
import HandS.ExcField
import HandS.ExcInit
import HandS.ExcIs
import HandS.ExcSuper
import HandS.Flow
import HandS.ForMost
import HandS.Head0
import HandS.Head1
import HandS.Head2
import HandS.HeadEnd
import HandS.HeadHook1
import HandS.HeadHook2
import HandS.HeadHook4
import HandS.IsInst
import HandS.Lambda
import HandS.List
import HandS.SetFor
import HandS.SetTxt0
import HandS.Star
import HandS.Strs
import HandS.Style
import HandS.TupAny
import HandS.TupSets
import HandS.Walk
import HandS.Words
import HandS.Zip
import KE.DataCmp
import KE.GoesEnum
import KE.KExcIs
import KE.KExcSuper
import KE.KRevSl
import KE.SortData
import PyProof.DictMoreH
import PyProof.ReprReads
import PyProof.ReprRoads
import PyProof.SeqRoads2
import PySem.Challenge.RW_actasone_k12_falls_and_odds_told
section
set_option Elab.async false
set_option linter.all false
set_option maxRecDepth 100000
set_option maxHeartbeats 0
set_option autoImplicit false
/-! G120: the head runs (hoisted). -/
namespace AOne
open PySem PySem.Spec L2 PyProof.Rows
def sup1 (f1 f2 : Str) (st : Stmt) : Bool := match st with
  | .Expr (.Call (.Attribute (.Call (.Name n0 _) [] [] _) n1 p2) [.Name n2 _, .Name n3 _] [] p5) _ => decide (n0 = ("super" : Str)) && decide (n1 = ("__init__" : Str)) && decide (n2 = f1) && decide (n3 = f2) && (p2.endLine == p5.line)
  | _ => false
def set1 (f : Str) (st : Stmt) : Bool := match st with
  | .Assign [.Attribute (.Name n4 _) n5 _] (.Name n6 _) _ => decide (n4 = ("self" : Str)) && decide (n5 = f) && decide (n6 = f)
  | _ => false
def bodyB (f1 f2 : Str) (b : List Stmt) : Bool := match b with
  | [s1, s2, s3] => sup1 f1 f2 s1 && (set1 f1 s2 && set1 f2 s3)
  | _ => false
def parB (f1 f2 : Str) (p : Arguments) : Bool := match p with
  | ⟨[], [⟨x0, _, _⟩, ⟨x1, _, _⟩, ⟨x2, _, _⟩], none, [], [], none, []⟩ => decide (x0 = ("self" : Str)) && decide (x1 = f1) && decide (x2 = f2)
  | _ => false
def oexB (K : PySem.W.Frag) (C : Addr) : Bool := match K.lookup C with
  | some ⟨.type t, _, .cls cd, sl⟩ => decide (t = "type") && (match cd.mro with
      | .ref c0 :: bm => decide (c0 = C) && PySem.HandSPX.refsVE bm
      | _ => false) && cd.hasDict && !cd.hasDel && (match sl.toList with
      | [_, _, _, _, some (.builtin nid), _] => decide (nid = "ValueError.__new__")
      | _ => false)
  | _ => false
def fileB (prog : Program) (K : PySem.W.Frag) (cda : Addr) : Bool := match K.lookup cda with
  | some ⟨_, _, .fields vs, _⟩ => (match (vs[2]? : Option Value) with
    | some (.str file _) => (prog.main.file : Str) == file
    | _ => false)
  | _ => false
def cellB (K : PySem.W.Frag) (cc C : Addr) : Bool := match K.lookup cc with
  | some ⟨_, _, .cell (some (.ref c)), _⟩ => decide (c = C)
  | _ => false
def scB (f1 f2 : Str) (sc : Scope) : Bool := decide (sc.names.lookup ("super" : Str) = some .globalImplicit) && decide (sc.names.lookup ("__class__" : Str) = some .free) && decide (sc.names.lookup ("self" : Str) = some .local) && decide (sc.names.lookup f1 = some .local) && decide (sc.names.lookup f2 = some .local) &&
  decide (sc.kind = .function) && !sc.isCoroutine && !sc.isGenerator && (sc.names.all fun x => !decide (x.2 = .cell))
def funB (prog : Program) (K : PySem.W.Frag) (C : Addr) (f1 f2 : Str) (fd : FuncData) : Bool := decide (fd.name = ("__init__" : Str)) && (decide (fd.defaults = .none) && decide (fd.kwdefaults = .none)) && parB f1 f2 fd.params && (match fd.body with
    | .stmts b => bodyB f1 f2 b
    | _ => false) && decide (fd.globals = mainGlobals) && decide (fd.builtins = builtinsNs) && (match fd.closure, fd.code with
    | [(n, cc)], .ref cda => decide (n = ("__class__" : Str)) && PySem.W.codeIn K (.ref cda) fd.qualname && fileB prog K cda && cellB K cc C
    | _, _ => false) && scB f1 f2 fd.scope
def initOf (K : PySem.W.Frag) (C : Addr) : Addr := match PySem.W.findIn K (.ref C) "__init__" with
  | some (some (.ref f)) => f
  | _ => 0
def xcB (prog : Program) (K : PySem.W.Frag) (C : Addr) (f1 f2 : Str) : Bool := oexB K C && decide (PySem.W.findIn K (.ref C) "__setattr__" = some (some (.builtin "object.__setattr__"))) && decide (PySem.W.subIn K (.ref C) (.type "BaseException") = some true) && decide (PySem.W.typeIn K (.ref C) = some (.type "type")) && PySem.W.keepIn K (.ref C) &&
  decide (PySem.W.findIn K (.ref C) "__init__" = some (some (.ref (initOf K C)))) && decide (PySem.W.typeIn K (.ref (initOf K C)) = some (.type "function")) && (match K.lookup (initOf K C) with
    | some ⟨_, _, .func fd, _⟩ => funB prog K C f1 f2 fd
    | _ => false) && decide (PySem.W.nsIn K mainGlobals "super" = some none) && !(prog.main.scope.names.lookup ("super" : Str)).isSome && decide (PySem.W.nsIn K cStatics "thirdparty.any" = some none) &&
  decide (PySem.W.ks_superIn K C C "__init__" = some (some (.builtin "ValueError.__init__"))) && decide (PySem.W.subIn K (.ref C) (.type "ValueError") = some true) && decide (PySem.W.mroIn K C (.ref C) = some true) && decide (PySem.W.findIn K (.ref C) f1 = some none) && decide (PySem.W.findIn K (.ref C) f2 = some none)
def excB (K : PySem.W.Frag) (D : Addr) : Bool := decide (PySem.W.findIn K (.ref D) "__class__" = some (some (.builtin "object.__class__"))) && decide (PySem.W.specialIn K (.builtin "object.__class__") "__get__" = some (some (.builtin "getset_descriptor.__get__"))) && decide (PySem.W.takesIn K (.builtin "object.__class__") = some true) && decide (PySem.W.mroIn K D (.type "object") = some true)
def kinB (K : PySem.W.Frag) (C : Addr) (kin : List Nat) : Nat → List Value → Bool
  | _, [] => true
  | j, cv :: r => decide (PySem.W.kitOne K (.ref C) cv = some (kin.contains j)) && (match cv with
      | .ref c => decide (PySem.W.exmOne K (.ref C) (.ref c) = some (kin.contains j))
      | _ => true) && kinB K C kin (j + 1) r
end AOne
namespace AOne
open PySem PySem.Spec PyProof.Rows L2 He
def asY (g : Addr → Option Obj) (n : Nat) : List Addr := cStatics :: asD g n
def obsY (n : Nat) (fa : List Fa) (fn : List DefD) (tf : List Defn) (ex : PySem.W.Frag → Bool) (g : Addr → Option Obj) : AlX := (obsT fa fn [] (frT g (asY g n)), ex (frT g (asY g n)) && He.tabsB g tf (frT g (asY g n)))
theorem saysY {n : Nat} {fa : List Fa} {fn : List DefD} {tf : List Defn} {ex : PySem.W.Frag → Bool} {w : World} {h : Heap} (e : obsY n fa fn tf ex h.get? = valX fn [] w) : SaysX fa fn [] tf ex w h (frT h.get? (asY h.get? n)) := by
  unfold obsY valX at e
  generalize hK : frT h.get? (asY h.get? n) = K at e
  have out : ∀ {a : Addr} {o : Obj}, h.get? a = some o → emptyTab o = true → K.lookup a = none := fun ha ho => by rw [← hK]; exact frT_none ha ho
  obtain ⟨e1, e2⟩ := Prod.mk.inj e
  rw [Bool.and_eq_true] at e2
  have key : ∀ p ∈ tf, PySem.W.codeHdIn K (cT K p).1 (cT K p).2 = true ∧ ∃ o, h.get? (cT K p).2 = some o ∧ emptyTab o = true := by
    intro p hp
    have z := List.all_eq_true.mp e2.2 p hp
    rw [Bool.and_eq_true] at z
    refine ⟨z.1, ?_⟩
    cases q : h.get? (cT K p).2 with
    | none => rw [q] at z; exact absurd z.2 (by simp)
    | some o => rw [q] at z; exact ⟨o, rfl, z.2⟩
  refine ⟨e1, e2.1, fun p hp => (key p hp).1, fun p hp => ?_, fun p hp => ?_⟩
  · obtain ⟨_, o, q, z⟩ := key p hp
    exact out q z
  · obtain ⟨_, o, q, z⟩ := key p hp
    rw [q, emptyTab_eq z]
def hookY (n : Nat) (fa : List Fa) (fn : List DefD) (tf : List Defn) (ex : PySem.W.Frag → Bool) : PySem.W.Hook where
  α := AlX
  obs := fun s => obsY n fa fn tf ex s.heap.get?
  val := fun w => valX fn [] w
  says := fun w h => ∃ K : PySem.W.Frag, K.In h ∧ SaysX fa fn [] tf ex w h K
  of := fun _ _ e => ⟨_, frT_in, saysY e⟩
  keeps := fun _ _ _ ⟨K, hK, c⟩ k => ⟨K, PySem.W.Frag.In.keeps hK k, c.t, c.more, c.hd, c.out, fun p hp => k _ _ (c.empty p hp)⟩
theorem obsY_eq {n : Nat} {fa : List Fa} {fn : List DefD} {tf : List Defn} {ex : PySem.W.Frag → Bool} {g : Addr → Option Obj} {s : Shared} (h : ∀ a, g a = s.heap.get? a) : obsY n fa fn tf ex g = (hookY n fa fn tf ex).obs s := by
  have e : g = s.heap.get? := funext h
  subst e
  rfl
end AOne
namespace K12
open PySem PySem.Spec L2 AOne
def top (i : Nat) : Stmt := PySem.Challenge.pw_actasone_k12_falls_and_odds_told.main.body.getD i (.Pass ⟨0, 0, 0, 0⟩)
def lt : List Str := ["_law_of_trust", "_law_of_house", "_law_are_sets_refused", "_law_are_refused"]
def ct (K : PySem.W.Frag) : List Value := [.ref (He.ga K "CopyError"), .ref (He.ga K "PaperError"), .ref (He.ga K "BookError"), .ref (He.ga K "LiveError"), .ref (He.ga K "TextError"), .ref (He.ga K "InvalidPaper"), .ref (He.ga K "NotUsable"), .type "ValueError"]
def e0 : He.DefD := ⟨("is_integer", none), "is_integer", "is_integer", defArgs (top 4), defBody (top 4), defScope (top 4), [], []⟩
def e1 : He.DefD := ⟨("is_number", none), "is_number", "is_number", defArgs (top 5), defBody (top 5), defScope (top 5), [], []⟩
def e2 : He.DefD := ⟨("is_index", none), "is_index", "is_index", defArgs (top 6), defBody (top 6), defScope (top 6), [], []⟩
def e3 : He.DefD := ⟨("is_among", none), "is_among", "is_among", defArgs (top 7), defBody (top 7), defScope (top 7), [], []⟩
def e4 : He.DefD := ⟨("is_name", none), "is_name", "is_name", defArgs (top 8), defBody (top 8), defScope (top 8), [], []⟩
def e5 : He.DefD := ⟨("is_tuple_of", none), "is_tuple_of", "is_tuple_of", defArgs (top 9), defBody (top 9), defScope (top 9), [], []⟩
def e6 : He.DefD := ⟨("is_pair", none), "is_pair", "is_pair", defArgs (top 10), defBody (top 10), defScope (top 10), [], []⟩
def e7 : He.DefD := ⟨("are_rising", none), "are_rising", "are_rising", defArgs (top 11), defBody (top 11), defScope (top 11), [], []⟩
def e8 : He.DefD := ⟨("is_names", none), "is_names", "is_names", defArgs (top 12), defBody (top 12), defScope (top 12), [], []⟩
def e9 : He.DefD := ⟨("is_names_among", none), "is_names_among", "is_names_among", defArgs (top 13), defBody (top 13), defScope (top 13), [], []⟩
def e10 : He.DefD := ⟨("are_sets_among", none), "are_sets_among", "are_sets_among", defArgs (top 14), defBody (top 14), defScope (top 14), [], []⟩
def e11 : He.DefD := ⟨("is_triple_from", none), "is_triple_from", "is_triple_from", defArgs (top 15), defBody (top 15), defScope (top 15), [], []⟩
def e12 : He.DefD := ⟨("trust_fault", none), "trust_fault", "trust_fault", defArgs (top 16), defBody (top 16), defScope (top 16), [], []⟩
def e13 : He.DefD := ⟨("is_trust", none), "is_trust", "is_trust", defArgs (top 17), defBody (top 17), defScope (top 17), [], []⟩
def e14 : He.DefD := ⟨("joint_in", none), "joint_in", "joint_in", defArgs (top 19), defBody (top 19), defScope (top 19), [], []⟩
def e15 : He.DefD := ⟨("houses_in", none), "houses_in", "houses_in", defArgs (top 20), defBody (top 20), defScope (top 20), [], []⟩
def e16 : He.DefD := ⟨("lots_of", none), "lots_of", "lots_of", defArgs (top 22), defBody (top 22), defScope (top 22), [], []⟩
def e17 : He.DefD := ⟨("fears_of", none), "fears_of", "fears_of", defArgs (top 23), defBody (top 23), defScope (top 23), [], []⟩
def e18 : He.DefD := ⟨("is_within", none), "is_within", "is_within", defArgs (top 24), defBody (top 24), defScope (top 24), [], []⟩
def e19 : He.DefD := ⟨("less_by", none), "less_by", "less_by", defArgs (top 25), defBody (top 25), defScope (top 25), [], []⟩
def e20 : He.DefD := ⟨("least_of", none), "least_of", "least_of", defArgs (top 26), defBody (top 26), defScope (top 26), [], []⟩
def e21 : He.DefD := ⟨("greatest_of", none), "greatest_of", "greatest_of", defArgs (top 27), defBody (top 27), defScope (top 27), [], []⟩
def e22 : He.DefD := ⟨("is_safe_by", none), "is_safe_by", "is_safe_by", defArgs (top 28), defBody (top 28), defScope (top 28), [], []⟩
def e23 : He.DefD := ⟨("safe_by", none), "safe_by", "safe_by", defArgs (top 29), defBody (top 29), defScope (top 29), [], []⟩
def e24 : He.DefD := ⟨("falls_by", none), "falls_by", "falls_by", defArgs (top 30), defBody (top 30), defScope (top 30), [], []⟩
def e25 : He.DefD := ⟨("pairs_in", none), "pairs_in", "pairs_in", defArgs (top 31), defBody (top 31), defScope (top 31), [], []⟩
def e26 : He.DefD := ⟨("lot_at", none), "lot_at", "lot_at", defArgs (top 32), defBody (top 32), defScope (top 32), [], []⟩
def e27 : He.DefD := ⟨("odds_by", none), "odds_by", "odds_by", defArgs (top 33), defBody (top 33), defScope (top 33), [], []⟩
def e28 : He.DefD := ⟨("all_odds_by", none), "all_odds_by", "all_odds_by", defArgs (top 34), defBody (top 34), defScope (top 34), [], []⟩
def e29 : He.DefD := ⟨("needs_by", none), "needs_by", "needs_by", defArgs (top 35), defBody (top 35), defScope (top 35), [], []⟩
def e30 : He.DefD := ⟨("first_missed_by", none), "first_missed_by", "first_missed_by", defArgs (top 36), defBody (top 36), defScope (top 36), [], []⟩
def e31 : He.DefD := ⟨("is_met", none), "is_met", "is_met", defArgs (top 37), defBody (top 37), defScope (top 37), [], []⟩
def e32 : He.DefD := ⟨("crossings_by", none), "crossings_by", "crossings_by", defArgs (top 38), defBody (top 38), defScope (top 38), [], []⟩
def e33 : He.DefD := ⟨("is_house_of", none), "is_house_of", "is_house_of", defArgs (top 40), defBody (top 40), defScope (top 40), [], []⟩
def e34 : He.DefD := ⟨("are_houses_of", none), "are_houses_of", "are_houses_of", defArgs (top 41), defBody (top 41), defScope (top 41), [], []⟩
def e35 : He.DefD := ⟨("is_pair_of", none), "is_pair_of", "is_pair_of", defArgs (top 42), defBody (top 42), defScope (top 42), [], []⟩
def e36 : He.DefD := ⟨("are_pairs_of", none), "are_pairs_of", "are_pairs_of", defArgs (top 43), defBody (top 43), defScope (top 43), [], []⟩
def e37 : He.DefD := ⟨("want", none), "want", "want", defArgs (top 53), defBody (top 53), defScope (top 53), [.int (-1)], []⟩
def e38 : He.DefD := ⟨("want_trust", none), "want_trust", "want_trust", defArgs (top 55), defBody (top 55), defScope (top 55), [.str "trust"], []⟩
def e39 : He.DefD := ⟨("want_house", none), "want_house", "want_house", defArgs (top 56), defBody (top 56), defScope (top 56), [.str "house"], []⟩
def e40 : He.DefD := ⟨("want_lot", none), "want_lot", "want_lot", defArgs (top 57), defBody (top 57), defScope (top 57), [.str "lot"], []⟩
def e41 : He.DefD := ⟨("want_pair", none), "want_pair", "want_pair", defArgs (top 58), defBody (top 58), defScope (top 58), [], []⟩
def e42 : He.DefD := ⟨("is_safe", none), "is_safe", "is_safe", defArgs (top 60), defBody (top 60), defScope (top 60), [], []⟩
def e43 : He.DefD := ⟨("safe_houses", none), "safe_houses", "safe_houses", defArgs (top 61), defBody (top 61), defScope (top 61), [], []⟩
def e44 : He.DefD := ⟨("greatest_falls", none), "greatest_falls", "greatest_falls", defArgs (top 62), defBody (top 62), defScope (top 62), [], []⟩
def e45 : He.DefD := ⟨("common_falls", none), "common_falls", "common_falls", defArgs (top 63), defBody (top 63), defScope (top 63), [], []⟩
def e46 : He.DefD := ⟨("needs_of", none), "needs_of", "needs_of", defArgs (top 65), defBody (top 65), defScope (top 65), [], []⟩
def e47 : He.DefD := ⟨("meets_needs", none), "meets_needs", "meets_needs", defArgs (top 66), defBody (top 66), defScope (top 66), [], []⟩
def e48 : He.DefD := ⟨("first_missed", none), "first_missed", "first_missed", defArgs (top 67), defBody (top 67), defScope (top 67), [], []⟩
def e49 : He.DefD := ⟨("least_lots", none), "least_lots", "least_lots", defArgs (top 68), defBody (top 68), defScope (top 68), [], []⟩
def e50 : He.DefD := ⟨("fewest_lot", none), "fewest_lot", "fewest_lot", defArgs (top 69), defBody (top 69), defScope (top 69), [], []⟩
def e51 : He.DefD := ⟨("foes_by", none), "foes_by", "foes_by", defArgs (top 71), defBody (top 71), defScope (top 71), [], []⟩
def e52 : He.DefD := ⟨("can_stay", none), "can_stay", "can_stay", defArgs (top 72), defBody (top 72), defScope (top 72), [], []⟩
def e53 : He.DefD := ⟨("is_last", none), "is_last", "is_last", defArgs (top 73), defBody (top 73), defScope (top 73), [], []⟩
def e54 : He.DefD := ⟨("can_go", none), "can_go", "can_go", defArgs (top 74), defBody (top 74), defScope (top 74), [], []⟩
def e55 : He.DefD := ⟨("fewest_dropped", none), "fewest_dropped", "fewest_dropped", defArgs (top 75), defBody (top 75), defScope (top 75), [], []⟩
def e56 : He.DefD := ⟨("odds_fall", none), "odds_fall", "odds_fall", defArgs (top 77), defBody (top 77), defScope (top 77), [], []⟩
def e57 : He.DefD := ⟨("all_odds", none), "all_odds", "all_odds", defArgs (top 78), defBody (top 78), defScope (top 78), [], []⟩
def e58 : He.DefD := ⟨("lots_without", none), "lots_without", "lots_without", defArgs (top 79), defBody (top 79), defScope (top 79), [], []⟩
def e59 : He.DefD := ⟨("without_pairs", none), "without_pairs", "without_pairs", defArgs (top 80), defBody (top 80), defScope (top 80), [], []⟩
def e60 : He.DefD := ⟨("least_dropped", none), "least_dropped", "least_dropped", defArgs (top 81), defBody (top 81), defScope (top 81), [], []⟩
def e61 : He.DefD := ⟨("_law_feed", none), "_law_feed", "_law_feed", defArgs (top 83), defBody (top 83), defScope (top 83), [], []⟩
def e62 : He.DefD := ⟨("_law_draw", none), "_law_draw", "_law_draw", defArgs (top 84), defBody (top 84), defScope (top 84), [], []⟩
def e63 : He.DefD := ⟨("_law_same", none), "_law_same", "_law_same", defArgs (top 85), defBody (top 85), defScope (top 85), [], []⟩
def e64 : He.DefD := ⟨("_law_three", none), "_law_three", "_law_three", defArgs (top 86), defBody (top 86), defScope (top 86), [], []⟩
def e65 : He.DefD := ⟨("_law_four_houses", none), "_law_four_houses", "_law_four_houses", defArgs (top 87), defBody (top 87), defScope (top 87), [], []⟩
def e66 : He.DefD := ⟨("_law_lone", none), "_law_lone", "_law_lone", defArgs (top 88), defBody (top 88), defScope (top 88), [], []⟩
def e67 : He.DefD := ⟨("_law_are_falls_told", none), "_law_are_falls_told", "_law_are_falls_told", defArgs (top 89), defBody (top 89), defScope (top 89), [], []⟩
def e68 : He.DefD := ⟨("_law_are_odds_told", none), "_law_are_odds_told", "_law_are_odds_told", defArgs (top 90), defBody (top 90), defScope (top 90), [], []⟩
def e69 : He.DefD := ⟨("_law_of_trust", none), "_law_of_trust", "_law_of_trust", defArgs (top 92), defBody (top 92), defScope (top 92), [], []⟩
def e70 : He.DefD := ⟨("_law_of_house", none), "_law_of_house", "_law_of_house", defArgs (top 93), defBody (top 93), defScope (top 93), [], []⟩
def e71 : He.DefD := ⟨("_law_are_sets_refused", none), "_law_are_sets_refused", "_law_are_sets_refused", defArgs (top 94), defBody (top 94), defScope (top 94), [], []⟩
def e72 : He.DefD := ⟨("_law_are_refused", none), "_law_are_refused", "_law_are_refused", defArgs (top 95), defBody (top 95), defScope (top 95), [], []⟩
def e73 : He.DefD := ⟨("law", none), "law", "law", defArgs (top 96), defBody (top 96), defScope (top 96), [], []⟩
def e74 : He.DefD := ⟨("_law_heard", none), "_law_heard", "_law_heard", defArgs (top 91), defBody (top 91), defScope (top 91), [], []⟩
def fn : List He.DefD := [e0, e1, e2, e3, e4, e5, e6, e7, e8, e9, e10, e11, e12, e13, e14, e15, e16, e17, e18, e19, e20, e21, e22, e23, e24, e25, e26, e27, e28, e29, e30, e31, e32, e33, e34, e35, e36, e37, e38, e39, e40, e41, e42, e43, e44, e45, e46, e47, e48, e49, e50, e51, e52, e53, e54, e55, e56, e57, e58, e59, e60, e61, e62, e63, e64, e65, e66, e67, e68, e69, e70, e71, e72, e73, e74]
def faD : List He.Fa := [.glo "is_integer", .glo "is_number", .glo "is_index", .glo "is_among", .glo "is_name", .glo "is_tuple_of", .glo "is_pair", .glo "are_rising", .glo "is_names", .glo "is_names_among", .glo "are_sets_among", .glo "is_triple_from", .glo "trust_fault", .glo "is_trust", .glo "joint_in", .glo "houses_in", .glo "lots_of", .glo "fears_of", .glo "is_within", .glo "less_by", .glo "least_of", .glo "greatest_of", .glo "is_safe_by", .glo "safe_by", .glo "falls_by", .glo "pairs_in", .glo "lot_at", .glo "odds_by", .glo "all_odds_by", .glo "needs_by", .glo "first_missed_by", .glo "is_met", .glo "crossings_by", .glo "is_house_of", .glo "are_houses_of", .glo "is_pair_of", .glo "are_pairs_of", .glo "want", .glo "want_trust", .glo "want_house", .glo "want_lot", .glo "want_pair", .glo "is_safe", .glo "safe_houses", .glo "greatest_falls", .glo "common_falls", .glo "needs_of", .glo "meets_needs", .glo "first_missed", .glo "least_lots", .glo "fewest_lot", .glo "foes_by", .glo "can_stay", .glo "is_last", .glo "can_go", .glo "fewest_dropped", .glo "odds_fall", .glo "all_odds", .glo "lots_without", .glo "without_pairs", .glo "least_dropped", .glo "_law_feed", .glo "_law_draw", .glo "_law_same", .glo "_law_three", .glo "_law_four_houses", .glo "_law_lone", .glo "_law_are_falls_told", .glo "_law_are_odds_told", .glo "_law_of_trust", .glo "_law_of_house", .glo "_law_are_sets_refused", .glo "_law_are_refused", .glo "law", .glo "_law_heard"]
def tf : List He.Defn := lt.map fun y => (y, none)
def x_NotUsable (K : PySem.W.Frag) : Bool := xcB PySem.Challenge.pw_actasone_k12_falls_and_odds_told K (He.ga K "NotUsable") "word" "at" && (kinB K (He.ga K "NotUsable") [0, 2, 6, 7] 0 (ct K) && (excB K (He.ga K "NotUsable") && xfB K (He.ga K "NotUsable")))
def ex (K : PySem.W.Frag) : Bool := x_NotUsable K && (decide ((lt.map fun y => (He.cT K (y, none)).2).Nodup))
def faB : List He.Fa := [.free "isinstance", .free "len", .free "all", .free "any", .free "tuple", .free "list", .free "sorted", .free "int", .free "min", .free "repr", .free "str", .free "bool", .free "range", .free "zip", .free "enumerate", .free "set", .free "max"]
def faC : List He.Fa := [.glo "CopyError", .glo "PaperError", .glo "BookError", .glo "LiveError", .glo "TextError", .glo "InvalidPaper", .glo "NotUsable", .free "ValueError"]
def faG : List He.Fa := [.str "ALPHABET" "abcdefghijklmnopqrstuvwxyz", .int "MOST_SIGNS" (8), .str "ANY" "any"]
def fa : List He.Fa := faD ++ (faB ++ (faG ++ faC))
abbrev R : PySem.W.OpenRow := PySem.W.OpenLaw.row PySem.Challenge.rw_actasone_k12_falls_and_odds_told
abbrev hk : PySem.W.Hook := hookY 5 fa fn tf ex
def ob (s : PySem.W.SharedT) : He.AlX := obsY 5 fa fn tf ex (HandSHeadRun.getT s)
theorem ob_eq (s : PySem.W.SharedT) : ob s = hk.obs s.abs := obsY_eq (HandSHeadRun.getT_eq s)
def lo0 : List Str := ["ALPHABET", "MOST_SIGNS", "ANY", "is_integer", "is_number", "is_index", "is_among", "is_name", "is_tuple_of", "is_pair", "are_rising", "is_names", "is_names_among", "are_sets_among", "is_triple_from", "trust_fault", "is_trust", "joint_in", "houses_in", "lots_of", "fears_of", "is_within", "less_by", "least_of", "greatest_of", "is_safe_by", "safe_by", "falls_by", "pairs_in", "lot_at"]
def lo1 : List Str := ["odds_by", "all_odds_by", "needs_by", "first_missed_by", "is_met", "crossings_by", "is_house_of", "are_houses_of", "is_pair_of", "are_pairs_of", "CopyError", "PaperError", "BookError", "LiveError", "TextError", "InvalidPaper", "NotUsable", "want", "want_trust", "want_house", "want_lot", "want_pair", "is_safe", "safe_houses", "greatest_falls", "common_falls", "needs_of", "meets_needs", "first_missed", "least_lots"]
def lo2 : List Str := ["fewest_lot", "foes_by", "can_stay", "is_last", "can_go", "fewest_dropped", "odds_fall", "all_odds", "lots_without", "without_pairs", "least_dropped", "_law_feed", "_law_draw", "_law_same", "_law_three", "_law_four_houses", "_law_lone", "_law_are_falls_told", "_law_are_odds_told", "_law_heard", "_law_of_trust", "_law_of_house", "_law_are_sets_refused", "_law_are_refused"]
def lo : List Str := lo0 ++ lo1 ++ lo2
theorem run (w : World) : HandSHeadRun.RunEq R (PySem.W.view R.prog [96]) hk ob 6000 lo w := by
  intro os
  kernel_rfl
end K12
end

section
set_option Elab.async false
set_option linter.all false
set_option maxRecDepth 100000
/-! A1: data, the core language and what it means. -/
namespace AOne
open PySem

/-- a value of the core language: plain data, or a cell of the store (a list or a dict that is changed in place) -/
inductive D where
  | non | bl (b : Bool) | int (i : Int) | str (x : Str) | tup (xs : List D) | lst (xs : List D) | ref (n : Nat) | obj (a dd m : Nat)

instance : Inhabited D := ⟨.non⟩

mutual
def D.py : D → PyData
  | .non => .none
  | .bl b => .bool b
  | .int i => .int i
  | .str x => .str x
  | .tup xs => .tuple (pys xs)
  | .lst xs => .list (pys xs)
  | .ref _ => .none
  | .obj _ _ _ => .none
def pys : List D → List PyData
  | [] => []
  | x :: xs => D.py x :: pys xs
end
theorem pys_map : ∀ xs : List D, pys xs = xs.map D.py
  | [] => by simp [pys]
  | x :: xs => by simp [pys, pys_map xs]

/-- equal, as Python says -/
def deq (a b : D) : Bool := PyData.eqv a.py b.py
def ddepth (d : D) : Nat := PyData.depth d.py
def dlt (a b : D) : Bool := PySem.W.dataLt a.py b.py
def dle (a b : D) : Bool := !dlt b a
def dalike (a b : D) : Bool := PySem.W.alike a.py b.py

def isRef : D → Bool
  | .ref _ => true
  | .obj _ _ _ => true
  | _ => false

def isNon : D → Bool
  | .non => true
  | _ => false

/-- a cell of the store -/
inductive Cell where
  | lst (xs : List D)
  | dct (kvs : List (Str × D))
  | fro (xs : List D)
  | dtt (kvs : List (List D × D))
  | tab (x : Str)
  | xdc (fs : List (Str × D))
abbrev Sto := List Cell
abbrev Ev := List (Option D)

/-- a list's cell stands for its items -/
def look (S : Sto) (d : D) : D :=
  match d with
  | .ref n => match S[n]? with
    | some (.lst xs) => .lst xs
    | some (.fro xs) => .lst xs
    | _ => .ref n
  | d => d

inductive Op2 where
  | add | sub | mul | fdiv | md | pw
  deriving DecidableEq
inductive Cp where
  | eq | ne | lt | le | gt | ge | inn | nin | isn | notn
  deriving DecidableEq
inductive Ty where
  | tstr | tint | tbool | ttuple | tlist
  deriving DecidableEq
inductive Pr where
  | len | all | any | tuple | list | sorted | ssorted | int | min2 | max2 | repr | isi (t : Ty)
  deriving DecidableEq

/-- targets -/
inductive Tg where
  | name (i : Nat)
  | nil
  | cons (a r : Tg)
  | tup (r : Tg)

inductive Tm where
  | var (i : Nat)
  | cst (d : D)
  | nil
  | cons (a r : Tm)
  | tup (r : Tm)
  | lst (r : Tm)
  | op (o : Op2) (a b : Tm)
  | neg (a : Tm)
  | cmp (c : Cp) (a b : Tm)
  | chain (c e : Cp) (x y z : Tm)
  | andd (a b : Tm)
  | orr (a b : Tm)
  | nott (a : Tm)
  | ite (c a b : Tm)
  | ix (a i : Tm)
  | slc (a lo hi : Tm)
  | nop
  | pr (p : Pr) (r : Tm)
  | call (f : Nat) (perm : List Nat) (dfl : List D) (r k : Tm)
  | lc (own : List Nat) (g : Tg) (it c e : Tm)
  | lcc (own vs : List Nat) (g : Tg) (it c : Tm) (g' : Tg) (it' c' e : Tm)
  | ival (a : Tm)
  | irange (r : Tm)
  | izip (a b : Tm)
  | ienum (a : Tm)
  | dct (ks : List Str) (r : Tm)
  | fresh (a : Tm)
  | star (a r : Tm)
  | frz (a : Tm)
  | dnt
  | ixt (a r : Tm)
  | gett (a k : Tm)
  | popl (a : Tm)
  | cnt (a x : Tm)
  | heard (k : Nat) (lt : List Str) (told : Str) (h : Nat) (b : Tm)
  | rev (a : Tm)
  | rep (a : Tm) (n : Nat)
  | isx (i j : Nat)
  | fld (i : Nat) (f : Str)

inductive Sm where
  | skip
  | never
  | asg (g : Tg) (e : Tm)
  | par (is : List Nat) (r : Tm)
  | app (o e : Tm)
  | popapp (o x e : Tm)
  | drop (e : Tm)
  | setk (o k e : Tm)
  | ret (e : Tm)
  | retn
  | ite (c : Tm) (a b : Sm)
  | seq (a b : Sm)
  | forr (g : Tg) (it : Tm) (b : Sm)
  | brk
  | cont
  | ext (o e : Tm)
  | whl (n : Nat) (c : Tm) (b : Sm)
  | setkt (o r e : Tm)
  | foes (v a b : Nat) (it : Tm)
  | raise (kin : List Nat) (fs : List Str) (a : Tm)
  | tryr (j ie : Nat) (su : Sm)
  | tryt (b : Sm)

/-! ### primitives -/
def sizeOk (n : Nat) : Bool := decide (n ≤ sizeLine)

def opD : Op2 → D → D → Option D
  | .add, .int a, .int b => some (.int (a + b))
  | .add, .str a, .str b => if sizeOk (a.length + b.length) then some (.str (a ++ b)) else none
  | .add, .lst a, .lst b => if sizeOk (a.length + b.length) then some (.lst (a ++ b)) else none
  | .add, .tup a, .tup b => if sizeOk (a.length + b.length) then some (.tup (a ++ b)) else none
  | .sub, .int a, .int b => some (.int (a - b))
  | .mul, .int a, .int b => if decide (-(2 ^ 64) < a) && decide (a < 2 ^ 64) then some (.int (a * b)) else none
  | .fdiv, .int a, .int b => if decide (0 < b) && decide (b < 1073741824) then some (.int (a / b)) else none
  | .md, .int a, .int b => if decide (0 < b) then some (.int (a % b)) else none
  | .pw, .int a, .int b => if decide (0 ≤ b) && decide (b ≤ 1000000) && decide (a.natAbs < 2 ^ 64) then some (.int (a ^ b.toNat)) else none
  | _, _, _ => none

def shallow (d : D) : Bool := decide (ddepth d ≤ 64)

def inD (a : D) : D → Option Bool
  | .lst xs => if shallow a && shallow (.lst xs) then some (xs.any fun z => deq z a) else none
  | .tup xs => if shallow a && shallow (.tup xs) then some (xs.any fun z => deq z a) else none
  | .str y => match a with
    | .str x => some (!(Builtin.Str.occurrences y x 0 y.length 1).isEmpty)
    | _ => none
  | _ => none

def ltOk (a b : D) : Bool := dalike a b && shallow a && shallow b && (match a with | .int _ | .str _ | .tup _ => true | _ => false)

def cmpD (S : Sto) (c : Cp) (a b : D) : Option Bool :=
  match c with
  | .eq => if isRef (look S a) || isRef (look S b) then none else if shallow (look S a) && shallow (look S b) then some (deq (look S a) (look S b)) else none
  | .ne => if isRef (look S a) || isRef (look S b) then none else if shallow (look S a) && shallow (look S b) then some (!deq (look S a) (look S b)) else none
  | .lt => if ltOk a b then some (dlt a b) else none
  | .gt => if ltOk a b then some (dlt b a) else none
  | .le => if ltOk a b then some (!dlt b a) else none
  | .ge => if ltOk a b then some (!dlt a b) else none
  | .inn => if isRef a then none else inD a (look S b)
  | .nin => if isRef a then none else (inD a (look S b)).map (!·)
  | .isn => if isNon b then some (isNon a) else none
  | .notn => if isNon b then some (!isNon a) else none

def boolsD : List D → Option (List Bool)
  | [] => some []
  | .bl b :: r => (boolsD r).map (b :: ·)
  | _ :: _ => none

def isTy : Ty → D → Bool
  | .tstr, .str _ => true
  | .tint, .int _ => true
  | .tint, .bl _ => true
  | .tbool, .bl _ => true
  | .ttuple, .tup _ => true
  | .tlist, .lst _ => true
  | .tlist, .ref _ => true
  | _, _ => false

/-- may be sorted: alike, of one of the kinds that are served -/
def sortOk (xs : List D) : Bool := xs.all (fun a => xs.all (fun b => ltOk a b))
def insD (a : D) : List D → List D
  | [] => [a]
  | b :: r => if dle a b then a :: b :: r else b :: insD a r
def sortD : List D → List D
  | [] => []
  | a :: l => insD a (sortD l)

mutual
/-- what may stand in a set: texts, and tuples of texts -/
def keyOk : D → Bool
  | .str _ => true
  | .tup xs => keysOk xs
  | _ => false
def keysOk : List D → Bool
  | [] => true
  | .str _ :: r => keysOk r
  | _ :: _ => false
end
def isTup : D → Bool
  | .tup _ => true
  | _ => false
/-- each once, the first one kept -/
def dedupD : List D → List D
  | [] => []
  | x :: r => if (dedupD r).any (fun z => deq z x) then dedupD r else x :: dedupD r

/-! keys that are tuples of texts and ints -/
def keqD : D → D → Bool
  | .str a, .str b => decide (a = b)
  | .int a, .int b => decide (a = b)
  | _, _ => false
def keqs : List D → List D → Bool
  | [], [] => true
  | a :: as, b :: bs => keqD a b && keqs as bs
  | _, _ => false
def keyD1 : D → Bool
  | .str _ => true
  | .int _ => true
  | _ => false
def getT (kvs : List (List D × D)) (k : List D) : Option D := (kvs.find? fun kv => keqs kv.1 k).map (·.2)
def putT (kvs : List (List D × D)) (k : List D) (d : D) : List (List D × D) :=
  if (kvs.any fun kv => keqs kv.1 k) = true then kvs.map (fun kv => if keqs kv.1 k = true then (kv.1, d) else kv) else kvs ++ [(k, d)]
def addT (kvs : List (List D × List D)) (k : List D) (d : D) : List (List D × List D) :=
  if (kvs.any fun kv => keqs kv.1 k) = true then kvs.map (fun kv => if keqs kv.1 k = true then (kv.1, kv.2 ++ [d]) else kv) else kvs ++ [(k, [d])]
def smallT (kvs : List (List D × List D)) : Bool := decide (kvs.length < 1000000) && kvs.all fun kv => decide (kv.2.length < 1000000)
def foesF : List D → List (List D × List D) → Option (List (List D × List D))
  | [], kvs => some kvs
  | .tup [.tup a, .tup b] :: r, kvs => if a.all keyD1 && b.all keyD1 && smallT kvs && smallT (addT kvs a (.tup b)) then foesF r (addT (addT kvs a (.tup b)) b (.tup a)) else none
  | _ :: _, _ => none
def strsD : List D → Option (List Str)
  | [] => some []
  | .str x :: r => (strsD r).map (x :: ·)
  | _ :: _ => none
def isDtt (S : Sto) (n : Nat) : Bool := match S[n]? with
  | some (.dtt _) => true
  | _ => false
def isStrD : D → Bool
  | .str _ => true
  | _ => false
def isIntD : D → Bool
  | .int _ => true
  | _ => false
/-- members of one kind: tuples of texts, texts, ints -/
def setAny (xs : List D) : Bool := (xs.all isTup && xs.all keyOk) || xs.all isStrD || xs.all isIntD
def intsD : List D → Option (List Int)
  | [] => some []
  | .int i :: r => (intsD r).map (i :: ·)
  | _ :: _ => none
def minL : List Int → Int
  | [] => 0
  | [i] => i
  | i :: r => if minL r < i then minL r else i
def maxL : List Int → Int
  | [] => 0
  | [i] => i
  | i :: r => if i < maxL r then maxL r else i
def prD (p : Pr) (S : Sto) (vs : List D) : Option D :=
  match p, vs with
  | .len, [a] => match look S a with
    | .lst xs => some (.int xs.length)
    | .tup xs => some (.int xs.length)
    | .str x => if sizeOk x.length then some (.int x.length) else none
    | _ => none
  | .all, [a] => match look S a with
    | .lst xs => (boolsD xs).map fun bs => .bl (bs.all id)
    | _ => none
  | .any, [a] => match look S a with
    | .lst xs => (boolsD xs).map fun bs => .bl (bs.any id)
    | _ => none
  | .tuple, [a] => match look S a with
    | .lst xs => some (.tup xs)
    | .tup xs => some (.tup xs)
    | _ => none
  | .list, [a] => match look S a with
    | .lst xs => some (.lst xs)
    | .tup xs => some (.lst xs)
    | _ => none
  | .sorted, [a] => match look S a with
    | .lst xs => if sortOk xs then some (.lst (sortD xs)) else none
    | .tup xs => if sortOk xs then some (.lst (sortD xs)) else none
    | _ => none
  | .ssorted, [a] => match look S a with
    | .lst xs => if setAny xs && decide ((dedupD xs).length < 64) then some (.lst (sortD (dedupD xs))) else none
    | .tup xs => if setAny xs && decide ((dedupD xs).length < 64) then some (.lst (sortD (dedupD xs))) else none
    | _ => none
  | .int, [.int i] => some (.int i)
  | .min2, [.int i, .int j] => some (.int (if j < i then j else i))
  | .min2, [a] => match look S a with
    | .lst xs => (intsD xs).bind fun is => if is.isEmpty then none else some (.int (minL is))
    | _ => none
  | .max2, [.int i, .int j] => some (.int (if j > i then j else i))
  | .max2, [a] => match look S a with
    | .lst xs => (intsD xs).bind fun is => if is.isEmpty then none else some (.int (maxL is))
    | _ => none
  | .repr, [a] => if isRef (look S a) then none else
      if (look S a).py.showable && shallow (look S a) && sizeOk (look S a).py.shown.length then some (.str (look S a).py.shown) else none
  | .isi t, [a] => match a with
    | .ref _ => none
    | .obj _ _ _ => none
    | a => some (.bl (isTy t a))
  | _, _ => none

def cutD (xs : List D) (lo hi : Option Int) : List D := (xs.drop (HT.sIx xs.length 0 lo)).take (HT.sIx xs.length xs.length hi - HT.sIx xs.length 0 lo)

def ixD (S : Sto) (a i : D) : Option D :=
  match look S a, i with
  | .lst xs, .int k => L2.atI xs k
  | .tup xs, .int k => L2.atI xs k
  | .ref n, .str k => match S[n]? with
    | some (.dct kvs) => kvs.lookup k
    | _ => none
  | _, _ => none

def slcD (S : Sto) (a : D) (lo hi : Option Int) : Option D :=
  match look S a with
  | .lst xs => some (.lst (cutD xs lo hi))
  | .tup xs => some (.tup (cutD xs lo hi))
  | _ => none

/-- the items of what is walked, and the cell that must stay as it is meanwhile -/
def itemsD (S : Sto) (a : D) : Option (List D) :=
  match a with
  | .lst xs => some xs
  | .tup xs => some xs
  | .str x => if sizeOk x.length then some (x.cps.toList.map fun c => .str ⟨#[c]⟩) else none
  | _ => none

def rangeD (lo : Int) (n : Nat) : List D := (List.range n).map fun k => .int (lo + (k : Nat))

def rngD : List D → Option (List D)
  | [.int j] => if decide (j ≤ 1000000) && decide (-1000000 ≤ j) then some (rangeD 0 j.toNat) else none
  | [.int i, .int j] => if decide (j ≤ 1000000) && decide (-1000000 ≤ j) && decide (i ≤ 1000000) && decide (-1000000 ≤ i) then some (rangeD i (j - i).toNat) else none
  | _ => none

def zipD : List D → List D → List D
  | x :: xs, y :: ys => .tup [x, y] :: zipD xs ys
  | _, _ => []
def enumD : Nat → List D → List D
  | _, [] => []
  | k, x :: xs => .tup [.int (k : Nat), x] :: enumD (k + 1) xs

def seqD : D → Option (List D)
  | .lst xs => some xs
  | .tup xs => some xs
  | _ => none

/-! ### meaning -/
def wipeE (r : Ev) : List Nat → Ev
  | [] => r
  | v :: vs => (wipeE r vs).set v none

mutual
def setG : Tg → D → Ev → Option Ev
  | .name i, d, r => if i < r.length then some (r.set i (some d)) else none
  | .tup g, d, r => match d with
    | .tup xs => setGs g xs r
    | _ => none
  | .nil, _, _ => none
  | .cons _ _, _, _ => none
def setGs : Tg → List D → Ev → Option Ev
  | .nil, [], r => some r
  | .cons a g, x :: xs, r => match setG a x r with
    | some r1 => setGs g xs r1
    | none => none
  | _, _, _ => none
end

/-- the items at these places -/
def pick {α : Type} : List Nat → List α → Option (List α)
  | [], _ => some []
  | k :: ks, l => match l[k]? with
    | none => none
    | some x => match pick ks l with
      | none => none
      | some xs => some (x :: xs)

abbrev Call := Nat → List D → Sto → Option (D × Sto)
/-! calls beside the plain ones: a def that raises, a handler's suite, what a handler asks of its error -/
def XN : Nat := 2000000
def LN : Nat := 3000000
def isN : Nat := 4000000
def fldN : Nat := 4000001

def mapL (f : D → Sto → Option (Option D × Sto)) : List D → Sto → Option (List D × Sto)
  | [], S => some ([], S)
  | x :: xs, S => match f x S with
    | none => none
    | some (o, S1) => match mapL f xs S1 with
      | none => none
      | some (ds, S2) => some (match o with | some d => d :: ds | none => ds, S2)

def flatL (f : D → Sto → Option (List D × Sto)) : List D → Sto → Option (List D × Sto)
  | [], S => some ([], S)
  | x :: xs, S => match f x S with
    | none => none
    | some (es, S1) => match flatL f xs S1 with
      | none => none
      | some (ds, S2) => some (es ++ ds, S2)

/-- the store begins with these tables, and has no more -/
def tabsB : List Str → Sto → Bool
  | [], S => S.all fun c => match c with
    | .tab _ => false
    | _ => true
  | x :: lt, .tab y :: S => decide (x = y) && tabsB lt S
  | _ :: _, _ => false

def optI : D → Option (Option Int)
  | .int i => some (some i)
  | _ => none

mutual
def sem (C : Call) : Tm → Ev → Sto → Option (D × Sto)
  | .var i, r, S => match r[i]? with
    | some (some d) => some (d, S)
    | _ => none
  | .cst d, _, S => some (d, S)
  | .tup a, r, S => match semA C a r S with
    | some (ds, S1) => if ds.all (fun d => !isRef d) && sizeOk ds.length then some (.tup ds, S1) else none
    | none => none
  | .lst a, r, S => match semA C a r S with
    | some (ds, S1) => if ds.all (fun d => !isRef d) && sizeOk ds.length then some (.lst ds, S1) else none
    | none => none
  | .op o a b, r, S => match sem C a r S with
    | none => none
    | some (x, S1) => match sem C b r S1 with
      | none => none
      | some (y, S2) => (opD o (look S2 x) (look S2 y)).map fun d => (d, S2)
  | .neg a, r, S => match sem C a r S with
    | some (.int i, S1) => some (.int (-i), S1)
    | _ => none
  | .cmp c a b, r, S => match sem C a r S with
    | none => none
    | some (x, S1) => match sem C b r S1 with
      | none => none
      | some (y, S2) => (cmpD S2 c x y).map fun d => (.bl d, S2)
  | .chain c e x y z, r, S => match sem C x r S with
    | none => none
    | some (x, S1) => match sem C y r S1 with
      | none => none
      | some (y, S2) => match cmpD S2 c x y with
        | none => none
        | some false => some (.bl false, S2)
        | some true => match sem C z r S2 with
          | none => none
          | some (z, S3) => (cmpD S3 e y z).map fun d => (.bl d, S3)
  | .andd a b, r, S => match sem C a r S with
    | some (.bl true, S1) => sem C b r S1
    | some (.bl false, S1) => some (.bl false, S1)
    | _ => none
  | .orr a b, r, S => match sem C a r S with
    | some (.bl false, S1) => sem C b r S1
    | some (.bl true, S1) => some (.bl true, S1)
    | _ => none
  | .nott a, r, S => match sem C a r S with
    | some (.bl b, S1) => some (.bl (!b), S1)
    | _ => none
  | .ite c a b, r, S => match sem C c r S with
    | some (.bl true, S1) => sem C a r S1
    | some (.bl false, S1) => sem C b r S1
    | _ => none
  | .ix a i, r, S => match sem C a r S with
    | none => none
    | some (x, S1) => match sem C i r S1 with
      | none => none
      | some (y, S2) => (ixD S2 x y).map fun d => (d, S2)
  | .slc a lo hi, r, S => match sem C a r S with
    | none => none
    | some (x, S1) => match semO C lo r S1 with
      | none => none
      | some (l, S2) => match semO C hi r S2 with
        | none => none
        | some (h, S3) => (slcD S3 x l h).map fun d => (d, S3)
  | .pr p a, r, S => match semA C a r S with
    | none => none
    | some (vs, S1) => (prD p S1 vs).map fun d => (d, S1)
  | .call f perm dfl a b, r, S => match semA C a r S with
    | none => none
    | some (vs, S1) => match semA C b r S1 with
      | none => none
      | some (ws, S2) => match pick perm (vs ++ ws ++ dfl) with
        | none => none
        | some zs => C f zs S2
  | .lc own g it c e, r, S => match semI C it r S with
    | none => none
    | some (xs, S1) => (mapL (fun x S => match setG g x (wipeE r own) with
        | none => none
        | some r1 => match sem C c r1 S with
          | some (.bl true, S2) => match sem C e r1 S2 with
            | some (d, S3) => if isRef d then none else some (some d, S3)
            | none => none
          | some (.bl false, S2) => some (none, S2)
          | _ => none) xs S1).map fun p => (.lst p.1, p.2)
  | .lcc own vs g it c g' it' c' e, r, S => match semI C it r S with
    | none => none
    | some (xs, S1) => match flatL (fun x S => match setG g x (wipeE r own) with
        | none => none
        | some r1 => match sem C c r1 S with
          | some (.bl true, S2) => match semI C it' r1 S2 with
            | none => none
            | some (ys, S3) => mapL (fun y S => match setG g' y (wipeE r1 vs) with
              | none => none
              | some r2 => match sem C c' r2 S with
                | some (.bl true, S2) => match sem C e r2 S2 with
                  | some (d, S3) => if isRef d then none else some (some d, S3)
                  | none => none
                | some (.bl false, S2) => some (none, S2)
                | _ => none) ys S3
          | some (.bl false, S2) => some ([], S2)
          | _ => none) xs S1 with
      | some (ds, S2) => if sizeOk ds.length then some (.lst ds, S2) else none
      | none => none
  | .dct ks a, r, S => match semA C a r S with
    | some (ds, S1) => if ds.all (fun d => !isRef d) && decide (ds.length = ks.length) then some (.ref S1.length, S1 ++ [.dct (ks.zip ds)]) else none
    | none => none
  | .fresh a, r, S => match sem C a r S with
    | some (.lst xs, S1) => some (.ref S1.length, S1 ++ [.lst xs])
    | _ => none
  | .frz a, r, S => match sem C a r S with
    | some (.ref n, S1) => match S1[n]? with
      | some (.lst xs) => some (.lst xs, S1.set n (.fro xs))
      | _ => none
    | _ => none
  | .dnt, _, S => some (.ref S.length, S ++ [.dtt []])
  | .ixt a b, r, S => match sem C a r S with
    | some (.ref n, S1) => match semA C b r S1 with
      | some (ds, S2) => if ds.all keyD1 && sizeOk ds.length then match S2[n]? with
        | some (.dtt kvs) => (getT kvs ds).map fun d => (d, S2)
        | _ => none
        else none
      | none => none
    | _ => none
  | .gett a k, r, S => match sem C a r S with
    | some (.ref n, S1) => if !isDtt S1 n then none else match sem C k r S1 with
      | some (.tup ds, S2) => if ds.all keyD1 then match S2[n]? with
        | some (.dtt kvs) => some ((getT kvs ds).getD (.lst []), S2)
        | _ => none
        else none
      | _ => none
    | _ => none
  | .popl a, r, S => match sem C a r S with
    | some (.ref n, S1) => match S1[n]? with
      | some (.lst xs) => match xs.getLast? with
        | some d => if decide (xs.length < 1000000) then some (d, S1.set n (.lst xs.dropLast)) else none
        | none => none
      | _ => none
    | _ => none
  | .cnt a x, r, S => match sem C a r S with
    | some (.lst xs, S1) => match sem C x r S1 with
      | some (.str k, S2) => (strsD xs).map fun ns => (.int (ns.countP fun n => n.cps.toList == k.cps.toList : Nat), S2)
      | _ => none
    | _ => none
  | .heard _ lt told h b, r, S => if tabsB lt S then match semX C b r S with
      | some (x, S1) => C (LN + h) [x] S1
      | none => match sem C b r S with
        | some (d, S1) => if isRef d then none else some (.tup [.str told, d], S1)
        | none => none
      else none
  | .rep a n, r, S => match sem C a r S with
    | some (.lst xs, S1) => if decide (xs.length * n ≤ 1000000) && decide (n ≤ 1000000) then some (.lst (List.replicate n xs).flatten, S1) else none
    | _ => none
  | .rev a, r, S => match sem C a r S with
    | some (x, S1) => match look S1 x with
      | .tup xs => some (.tup xs.reverse, S1)
      | _ => none
    | none => none
  | .isx i j, r, S => match r[i]? with
    | some (some o) => match C isN [o, .int (j : Nat)] S with
      | some (.bl b, _) => some (.bl b, S)
      | _ => none
    | _ => none
  | .fld i f, r, S => match r[i]? with
    | some (some o) => match C fldN [o, .str f] S with
      | some (d, _) => if isRef d then none else some (d, S)
      | none => none
    | _ => none
  | _, _, _ => none
/-- .. raises -/
def semX (C : Call) : Tm → Ev → Sto → Option (D × Sto)
  | .call f perm dfl a b, r, S => match semA C a r S with
    | none => none
    | some (vs, S1) => match semA C b r S1 with
      | none => none
      | some (ws, S2) => match pick perm (vs ++ ws ++ dfl) with
        | none => none
        | some zs => C (XN + f) zs S2
  | _, _, _ => none
def semA (C : Call) : Tm → Ev → Sto → Option (List D × Sto)
  | .nil, _, S => some ([], S)
  | .cons a b, r, S => match sem C a r S with
    | none => none
    | some (x, S1) => match semA C b r S1 with
      | none => none
      | some (xs, S2) => some (x :: xs, S2)
  | .star a b, r, S => match sem C a r S with
    | none => none
    | some (x, S1) => match seqD (look S1 x) with
      | none => none
      | some ys => match semA C b r S1 with
        | none => none
        | some (xs, S2) => some (ys ++ xs, S2)
  | _, _, _ => none
def semO (C : Call) : Tm → Ev → Sto → Option (Option Int × Sto)
  | .nop, _, S => some (none, S)
  | .cons a _, r, S => match sem C a r S with
    | some (.int i, S1) => some (some i, S1)
    | _ => none
  | _, _, _ => none
def semI (C : Call) : Tm → Ev → Sto → Option (List D × Sto)
  | .ival a, r, S => match sem C a r S with
    | none => none
    | some (x, S1) => (itemsD S1 x).map fun xs => (xs, S1)
  | .irange a, r, S => match semA C a r S with
    | none => none
    | some (vs, S1) => (rngD vs).map fun xs => (xs, S1)
  | .izip a b, r, S => match sem C a r S with
    | none => none
    | some (x, S1) => match sem C b r S1 with
      | none => none
      | some (y, S2) => match x, y with
        | .lst xs, .lst ys => some (zipD xs ys, S2)
        | .tup xs, .tup ys => some (zipD xs ys, S2)
        | _, _ => none
  | .ienum a, r, S => match sem C a r S with
    | none => none
    | some (x, S1) => (seqD x).map fun xs => (enumD 0 xs, S1)
  | _, _, _ => none
end

/-- how a statement ends -/
inductive Fl where
  | nx (r : Ev) | bk (r : Ev) | ct (r : Ev) | rt (d : D)

def loopL (f : D → Ev → Sto → Option (Fl × Sto)) : List D → Ev → Sto → Option (Fl × Sto)
  | [], r, S => some (.nx r, S)
  | x :: xs, r, S => match f x r S with
    | none => none
    | some (.nx r1, S1) => loopL f xs r1 S1
    | some (.ct r1, S1) => loopL f xs r1 S1
    | some (.bk r1, S1) => some (.nx r1, S1)
    | some (.rt d, S1) => some (.rt d, S1)

def putK (kvs : List (Str × D)) (k : Str) (d : D) : List (Str × D) :=
  if (kvs.any fun kv => decide (kv.1 = k)) = true then kvs.map (fun kv => if kv.1 = k then (kv.1, d) else kv) else kvs ++ [(k, d)]

def setAll : List Nat → List D → Ev → Ev
  | i :: is, d :: ds, r => setAll is ds (r.set i (some d))
  | _, _, r => r

def isLst (S : Sto) (n : Nat) : Bool := match S[n]? with
  | some (.lst _) => true
  | _ => false

def whileN (t : Ev → Sto → Option (D × Sto)) (f : Ev → Sto → Option (Fl × Sto)) : Nat → Ev → Sto → Option (Fl × Sto)
  | 0, _, _ => none
  | n + 1, r, S => match t r S with
    | some (.bl false, S1) => some (.nx r, S1)
    | some (.bl true, S1) => match f r S1 with
      | none => none
      | some (.nx r1, S2) => whileN t f n r1 S2
      | some (.ct r1, S2) => whileN t f n r1 S2
      | some (.bk r1, S2) => some (.nx r1, S2)
      | some (.rt d, S2) => some (.rt d, S2)
    | _ => none

def exe (C : Call) : Sm → Ev → Sto → Option (Fl × Sto)
  | .skip, r, S => some (.nx r, S)
  | .never, _, _ => none
  | .asg g e, r, S => match sem C e r S with
    | none => none
    | some (d, S1) => match setG g d r with
      | none => none
      | some r1 => some (.nx r1, S1)
  | .par is a, r, S => match semA C a r S with
    | none => none
    | some (ds, S1) => if is.length = ds.length && is.all (fun i => decide (i < r.length)) then some (.nx (setAll is ds r), S1) else none
  | .app o e, r, S => match sem C o r S with
    | some (.ref n, S1) => if !isLst S1 n then none else match sem C e r S1 with
      | none => none
      | some (d, S2) => match S2[n]? with
        | some (.lst xs) => if isRef d || !decide (xs.length < 1000000) then none else some (.nx r, S2.set n (.lst (xs ++ [d])))
        | _ => none
    | _ => none
  | .popapp o x e, r, S => match sem C o r S with
    | some (.ref n, S1) => if !isLst S1 n then none else match sem C x r S1 with
      | some (.ref m, S2) => if !isLst S2 m then none else match sem C e r S2 with
        | some (.int i, S3) => match S3[m]? with
          | some (.lst ys) => if decide (0 ≤ i) && decide (i < 1000000) then match ys[i.toNat]? with
            | some d => match (S3.set m (.lst (ys.eraseIdx i.toNat)))[n]? with
              | some (.lst xs) => if xs.length < 1000000 then some (.nx r, (S3.set m (.lst (ys.eraseIdx i.toNat))).set n (.lst (xs ++ [d]))) else none
              | _ => none
            | none => none
            else none
          | _ => none
        | _ => none
      | _ => none
    | _ => none
  | .drop e, r, S => match sem C e r S with
    | none => none
    | some (_, S1) => some (.nx r, S1)
  | .setk o k e, r, S => match sem C e r S with
    | none => none
    | some (d, S1) => match sem C o r S1 with
      | some (.ref n, S2) => match sem C k r S2 with
        | some (.str x, S3) => match S3[n]? with
          | some (.dct kvs) => if isRef d || !decide (kvs.length < 1000000) then none else some (.nx r, S3.set n (.dct (putK kvs x d)))
          | _ => none
        | _ => none
      | _ => none
  | .ret e, r, S => match sem C e r S with
    | none => none
    | some (d, S1) => some (.rt d, S1)
  | .retn, _, S => some (.rt .non, S)
  | .ite c a b, r, S => match sem C c r S with
    | some (.bl true, S1) => exe C a r S1
    | some (.bl false, S1) => exe C b r S1
    | _ => none
  | .seq a b, r, S => match exe C a r S with
    | some (.nx r1, S1) => exe C b r1 S1
    | e => e
  | .forr g it b, r, S => match semI C it r S with
    | none => none
    | some (xs, S1) => loopL (fun x r S => match setG g x r with
        | none => none
        | some r1 => exe C b r1 S) xs r S1
  | .brk, r, S => some (.bk r, S)
  | .cont, r, S => some (.ct r, S)
  | .ext o e, r, S => match sem C o r S with
    | some (.ref n, S1) => if !isLst S1 n then none else match sem C e r S1 with
      | some (.lst ys, S2) => match S2[n]? with
        | some (.lst xs) => if xs.length + ys.length < 1000000 then some (.nx r, S2.set n (.lst (xs ++ ys))) else none
        | _ => none
      | _ => none
    | _ => none
  | .whl n c b, r, S => whileN (fun r S => sem C c r S) (fun r S => exe C b r S) n r S
  | .setkt o b e, r, S => match sem C e r S with
    | none => none
    | some (d, S1) => match sem C o r S1 with
      | some (.ref n, S2) => match semA C b r S2 with
        | some (ds, S3) => if ds.all keyD1 && sizeOk ds.length then match S3[n]? with
          | some (.dtt kvs) => if isRef d || !decide (kvs.length < 1000000) then none else some (.nx r, S3.set n (.dtt (putT kvs ds d)))
          | _ => none
          else none
        | none => none
      | _ => none
  | .raise _ _ _, _, _ => none
  | .tryr _ _ _, _, _ => none
  | .tryt b, r, S => exe C b r S
  | .foes v a b it, r, S => match semI C it (r.set v none) S with
    | none => none
    | some (xs, S1) => match foesF xs [] with
      | none => none
      | some kvs => if v ≠ a && v ≠ b && a ≠ b && decide (v < r.length) && decide (a < r.length) && decide (b < r.length) then some (.nx ((((r.set v none).set a none).set b none).set v (some (.ref S1.length))), S1 ++ [.dtt (kvs.map fun kv => (kv.1, D.lst kv.2))]) else none

/-- a def: how many names, parameters, its body -/
structure Df where
  n : Nat
  k : Nat
  b : Sm

/-- what a call leaves: cells that the call made go, but one that it hands back -/
def fixR (n : Nat) (d : D) (S : Sto) : Option (D × Sto) :=
  match d with
  | .ref m => if m < n then some (.ref m, S.take n) else match S[m]? with
    | some (.lst xs) => some (.lst xs, S.take n)
    | some (.dct kvs) => some (.ref n, S.take n ++ [.dct kvs])
    | some (.dtt kvs) => some (.ref n, S.take n ++ [.dtt kvs])
    | _ => none
  | .obj _ _ _ => none
  | d => some (d, S.take n)

def startE (n : Nat) (vs : List D) : Ev := vs.map some ++ List.replicate (n - vs.length) none

/-- an error as data: the classes that it is of, its fields -/
def errD (kin : List Nat) (fs : List Str) (vs : List D) : D := .tup [.tup (kin.map fun k => .int (k : Nat)), .tup ((fs.zip vs).map fun p => .tup [.str p.1, p.2])]
def kinOf : D → List Nat
  | .tup [.tup ks, _] => ks.filterMap fun d => match d with
    | .int i => some i.toNat
    | _ => none
  | _ => []
def fldOf : D → List (Str × D)
  | .tup [_, .tup fs] => fs.filterMap fun d => match d with
    | .tup [.str f, v] => some (f, v)
    | _ => none
  | _ => []
/-- what a handler asks of its error -/
def excC (x : D) (a0 d0 m0 : Nat) : Call := fun f vs S => match vs with
  | [.obj a d m, y] => if a = a0 && d = d0 && m = m0 then match S[m0]?, y with
      | some (.xdc _), .int j => if f = isN then some (.bl ((kinOf x).contains j.toNat), S) else none
      | some (.xdc fs), .str n => if f = fldN && ((fldOf x).lookup n).isSome then (fs.lookup n).map fun d => (d, S) else none
      | _, _ => none
    else none
  | _ => none
/-- a suite that raises -/
def exeX (C : Call) : Sm → Ev → Sto → Option (D × Sto)
  | .raise kin fs a, r, S => match semA C a r S with
    | none => none
    | some (vs, S1) => if vs.all (fun d => !isRef d) && decide (vs.length = fs.length) then some (errD kin fs vs, S1) else none
  | .drop e, r, S => semX C e r S
  | .ret e, r, S => semX C e r S
  | .ite c a b, r, S => match sem C c r S with
    | some (.bl true, S1) => exeX C a r S1
    | some (.bl false, S1) => exeX C b r S1
    | _ => none
  | .seq (.foes _ _ _ _) _, _, _ => none
  | .seq a b, r, S => match exeX C a r S with
    | some y => some y
    | none => match exe C a r S with
      | some (.nx r1, S1) => exeX C b r1 S1
      | _ => none
  | _, _, _ => none

def callD (T : List Df) : Nat → Call
  | 0, _, _, _ => none
  | k + 1, f, vs, S => match T[f]? with
    | none => if LN ≤ f then match T[f - LN]?, vs with
        | some t, [x] => match t.b with
          | .tryr j ie su => if (kinOf x).contains j then match exe (excC x 0 0 S.length) su ((List.replicate t.n none).set ie (some (.obj 0 0 S.length))) (S ++ [.xdc (fldOf x)]) with
              | some (.rt d, S1) => fixR S.length d S1
              | some (.nx _, S1) => fixR S.length .non S1
              | _ => none
            else none
          | _ => none
        | _, _ => none
      else if XN ≤ f then match T[f - XN]? with
        | none => none
        | some t => if vs.length = t.k then match exeX (callD T k) t.b (startE t.n vs) S with
            | some (x, S1) => some (x, S1.take S.length)
            | none => none
          else none
      else none
    | some t => if vs.length = t.k then match exe (callD T k) t.b (startE t.n vs) S with
        | some (.rt d, S1) => fixR S.length d S1
        | some (.nx _, S1) => fixR S.length .non S1
        | _ => none
      else none

end AOne
end

section
set_option Elab.async false
set_option linter.all false
set_option maxRecDepth 100000
set_option maxHeartbeats 1000000
set_option autoImplicit false
/-! A2: how values and heaps stand for data and stores. -/
namespace AOne
open PySem PySem.Spec L2

mutual
inductive RD (K : PySem.W.Frag) (G : Hp) : V → D → Prop
  | non : RD K G .non .non
  | bl (b : Bool) : RD K G (.bl b) (.bl b)
  | int (i : Int) : RD K G (.int i) (.int i)
  | str (x : Str) (h : PyData.strOk x = true) : RD K G (.str x) (.str x)
  | tup {a : Addr} {vs : List V} {ds : List D} : G a = some (.tup vs) → RDs K G vs ds → RD K G (.ref a) (.tup ds)
  | lst {a : Addr} {vs : List V} {ds : List D} : SqL K G a vs → RDs K G vs ds → RD K G (.ref a) (.lst ds)
inductive RDs (K : PySem.W.Frag) (G : Hp) : List V → List D → Prop
  | nil : RDs K G [] []
  | cons {v : V} {vs : List V} {d : D} {ds : List D} : RD K G v d → RDs K G vs ds → RDs K G (v :: vs) (d :: ds)
end

theorem same_rd {G G' : Hp} {a : Addr} {u : HO} (s : Same G G') (h : Rd G a u) : Rd G' a u := by
  rcases h with h | ⟨o, h⟩
  · exact .inl (s _ _ h)
  · exact .inr ⟨o, s _ _ h⟩
theorem same_sqt {K : PySem.W.Frag} {G G' : Hp} {a : Addr} {xs : List V} (s : Same G G') (h : G a = some (.tup xs)) : SqT K G' a xs := SqT.of (s _ _ h)
theorem same_sql {K : PySem.W.Frag} {G G' : Hp} {a : Addr} {xs : List V} (s : Same G G') (h : SqL K G a xs) : SqL K G' a xs := by
  rcases h with h | h
  · exact .inl (same_rd s h)
  · exact .inr h

section
variable {K : PySem.W.Frag} {G G' : Hp}
mutual
theorem RD.mono (s : Same G G') : ∀ {v : V} {d : D}, RD K G v d → RD K G' v d
  | _, _, .non => .non
  | _, _, .bl b => .bl b
  | _, _, .int i => .int i
  | _, _, .str x h => .str x h
  | _, _, .tup h r => .tup (s _ _ h) (RDs.mono s r)
  | _, _, .lst h r => .lst (same_sql s h) (RDs.mono s r)
theorem RDs.mono (s : Same G G') : ∀ {vs : List V} {ds : List D}, RDs K G vs ds → RDs K G' vs ds
  | _, _, .nil => .nil
  | _, _, .cons h r => .cons (RD.mono s h) (RDs.mono s r)
end
theorem RDs.length : ∀ {vs : List V} {ds : List D}, RDs K G vs ds → vs.length = ds.length
  | _, _, .nil => rfl
  | _, _, .cons _ r => congrArg Nat.succ r.length
theorem RDs.get : ∀ {vs : List V} {ds : List D} {i : Nat} {d : D}, RDs K G vs ds → ds[i]? = some d → ∃ v, vs[i]? = some v ∧ RD K G v d
  | _, _, _, _, .nil, e => by simp at e
  | _, _, 0, _, .cons h _, e => by simp at e; subst e; exact ⟨_, rfl, h⟩
  | _, _, i + 1, d, .cons _ r, e => by
    obtain ⟨v, h1, h2⟩ := RDs.get (i := i) (d := d) r (by simpa using e)
    exact ⟨v, by simpa using h1, h2⟩
theorem RDs.getV : ∀ {vs : List V} {ds : List D} {i : Nat} {v : V}, RDs K G vs ds → vs[i]? = some v → ∃ d, ds[i]? = some d ∧ RD K G v d
  | _, _, _, _, .nil, e => by simp at e
  | _, _, 0, _, .cons h _, e => by simp at e; subst e; exact ⟨_, rfl, h⟩
  | _, _, i + 1, d, .cons _ r, e => by
    obtain ⟨v, h1, h2⟩ := RDs.getV (i := i) r (by simpa using e)
    exact ⟨v, by simpa using h1, h2⟩
theorem RDs.append : ∀ {vs : List V} {ds : List D} {ws : List V} {es : List D}, RDs K G vs ds → RDs K G ws es → RDs K G (vs ++ ws) (ds ++ es)
  | _, _, _, _, .nil, s => s
  | _, _, _, _, .cons h r, s => .cons h (r.append s)
theorem RDs.reverse : ∀ {vs : List V} {ds : List D}, RDs K G vs ds → RDs K G vs.reverse ds.reverse
  | _, _, .nil => .nil
  | _, _, .cons h r => by simpa using r.reverse.append (.cons h .nil)
theorem RDs.take : ∀ {vs : List V} {ds : List D} (n : Nat), RDs K G vs ds → RDs K G (vs.take n) (ds.take n)
  | _, _, 0, _ => by simpa using .nil
  | _, _, _ + 1, .nil => by simpa using .nil
  | _, _, n + 1, .cons h r => by simpa using .cons h (r.take n)
theorem RDs.drop : ∀ {vs : List V} {ds : List D} (n : Nat), RDs K G vs ds → RDs K G (vs.drop n) (ds.drop n)
  | _, _, 0, r => by simpa using r
  | _, _, _ + 1, .nil => by simpa using .nil
  | _, _, n + 1, .cons h r => by simpa using r.drop n
theorem RDs.eraseIdx : ∀ {vs : List V} {ds : List D} (n : Nat), RDs K G vs ds → RDs K G (vs.eraseIdx n) (ds.eraseIdx n)
  | _, _, _, .nil => by simpa using .nil
  | _, _, 0, .cons h r => by simpa using r
  | _, _, n + 1, .cons h r => by simpa using .cons h (r.eraseIdx n)
/-- from the heap's own data -/
theorem RD.notRef {v : V} {d : D} (h : RD K G v d) : isRef d = false := by cases h <;> rfl
end

/-! data in the library's words -/
mutual
theorem RD.dp {K : PySem.W.Frag} {G : Hp} : ∀ {v : V} {d : D}, RD K G v d → Dp K G v d.py
  | _, _, .non => by simpa [D.py] using .non
  | _, _, .bl b => by simpa [D.py] using .bl b
  | _, _, .int i => by simpa [D.py] using .int i
  | _, _, .str x _ => by simpa [D.py] using .str x
  | _, _, .tup h r => by simpa [D.py] using .tup (SqT.of h) (RDs.dps r)
  | _, _, .lst h r => by simpa [D.py] using .lst h (RDs.dps r)
theorem RDs.dps {K : PySem.W.Frag} {G : Hp} : ∀ {vs : List V} {ds : List D}, RDs K G vs ds → DpAll K G vs (pys ds)
  | _, _, .nil => by simpa [pys] using .nil
  | _, _, .cons h r => by simpa [pys] using .cons (RD.dp h) (RDs.dps r)
end
mutual
theorem RD.lay {K : PySem.W.Frag} {G : Hp} : ∀ {v : V} {d : D}, RD K G v d → d.py.canLay0 = true
  | _, _, .non => by simp [D.py, PyData.canLay0]
  | _, _, .bl b => by simp [D.py, PyData.canLay0]
  | _, _, .int i => by simp [D.py, PyData.canLay0]
  | _, _, .str x h => by simpa [D.py, PyData.canLay0] using h
  | _, _, .tup h r => by simpa [D.py, PyData.canLay0] using RDs.lays r
  | _, _, .lst h r => by simpa [D.py, PyData.canLay0] using RDs.lays r
theorem RDs.lays {K : PySem.W.Frag} {G : Hp} : ∀ {vs : List V} {ds : List D}, RDs K G vs ds → PyData.canLayAll0 (pys ds) = true
  | _, _, .nil => by simp [pys, PyData.canLayAll0]
  | _, _, .cons h r => by simp [pys, PyData.canLayAll0, RD.lay h, RDs.lays r]
end
theorem RD.shaped {K : PySem.W.Frag} {G : Hp} {v : V} {d : D} (h : RD K G v d) (s : shallow d = true) : SeqAt.shaped d.py = true := by
  have s' : d.py.depth ≤ 64 := of_decide_eq_true s
  show (d.py.canLay0 && decide (d.py.depth ≤ 64)) = true
  rw [h.lay, Bool.true_and]
  exact decide_eq_true s'

/-- data, or a cell -/
def RT (K : PySem.W.Frag) (G : Hp) (da : List Addr) (v : V) (d : D) : Prop := RD K G v d ∨ (∃ n a, d = .ref n ∧ v = .ref a ∧ da[n]? = some a) ∨ ∃ a dd m, d = .obj a dd m ∧ v = .ref a ∧ da[m]? = some dd
inductive RTs (K : PySem.W.Frag) (G : Hp) (da : List Addr) : List V → List D → Prop
  | nil : RTs K G da [] []
  | cons {v : V} {vs : List V} {d : D} {ds : List D} : RT K G da v d → RTs K G da vs ds → RTs K G da (v :: vs) (d :: ds)

def keyDK : Key → D
  | .inl i => .int i
  | .inr x => .str x
def CellOk (K : PySem.W.Frag) (G H : Hp) (a : Addr) : Cell → Prop
  | .lst xs => ∃ vs, H a = some (.lst vs) ∧ RDs K G vs xs
  | .fro xs => ∃ vs, G a = some (.lst vs) ∧ RDs K G vs xs
  | .dtt kvs => ∃ ks : List (List Key × V), H a = some (.dT ks) ∧ Paired (fun (p : List Key × V) (q : List D × D) => q.1 = p.1.map keyDK ∧ RD K G p.2 q.2) ks kvs
  | .tab x => a = (He.cT K (x, none)).2 ∧ ∃ ps : Array Value, H a = some (.tbl ps) ∧ TriplesOk ps.toList ∧ ∀ (pos : Pos) (cv : Value), codeAmong pos ps.toList = some cv → ∃ c, cv = .ref c ∧ G c = some (LamX.CodeO c (x ++ ".<locals>." ++ "<lambda>"))
  | .xdc fs => ∃ fl : List (Str × V), H a = some (.xd fl) ∧ ∀ f e, fs.lookup f = some e → ∃ v, fl.lookup f = some v ∧ RD K G v e
  | .dct kvs => ∃ ks : List (Key × V), H a = some (.dK ks) ∧ Paired (fun (p : Key × V) (q : Str × D) => p.1 = Sum.inr q.1 ∧ RD K G p.2 q.2) ks kvs

structure RelS (K : PySem.W.Frag) (G H : Hp) (da : List Addr) (S : Sto) : Prop where
  same : Same G H
  len : da.length = S.length
  nd : da.Nodup
  cell : ∀ (n : Nat) (a : Addr), da[n]? = some a → (G a = none ∨ ∃ xs, S[n]? = some (.fro xs)) ∧ ∃ c, S[n]? = some c ∧ CellOk K G H a c
  nt : ∀ b ps, G b ≠ some (.tbl ps)

structure RelE (K : PySem.W.Frag) (G : Hp) (da : List Addr) (σ : St) (r : Ev) : Prop where
  len : σ.length = r.length
  val : ∀ (i : Nat) (d : D), r[i]? = some (some d) → ∃ v, σ[i]? = some (some v) ∧ RT K G da v d

/-- no code, no table -/
def Pl (o : HO) : Prop := (∀ f, o ≠ .ext f) ∧ ∀ ps, o ≠ .tbl ps
structure Grow (G H : Hp) (da : List Addr) (G' H' : Hp) (da' : List Addr) : Prop where
  g : Same G G'
  old : ∀ b, H b ≠ none → (∀ o, H b = some o → Pl o) → G b = none → b ∉ da → G' b = none
  keep : ∀ b o, H b = some o → b ∉ da → (∀ ps, o ≠ .tbl ps) → H' b = some o
  there : ∀ b, H b ≠ none → H' b ≠ none
  pre : ∃ r, da' = da ++ r
  new : ∀ a, a ∈ da' → a ∈ da ∨ H a = none

section
variable {K : PySem.W.Frag} {G H G' H' G2 H2 : Hp} {da da' da2 : List Addr} {S S' : Sto} {σ σ' : St} {r : Ev}
theorem Grow.refl : Grow G H da G H da := ⟨Same.refl _, fun _ _ _ h _ => h, fun _ _ h _ _ => h, fun _ h => h, ⟨[], by simp⟩, fun _ h => .inl h⟩
theorem Grow.trans (x : Grow G H da G' H' da') (y : Grow G' H' da' G2 H2 da2) : Grow G H da G2 H2 da2 := by
  refine ⟨x.g.trans y.g, fun b h1 h0 h2 h3 => y.old b (x.there b h1) (fun o' hq => by
      cases e : H b with
      | none => exact (h1 e).elim
      | some o =>
        have z := (x.keep b o e h3 (h0 o e).2).symm.trans hq
        cases z
        exact h0 _ e) (x.old b h1 h0 h2 h3) (fun hb => (x.new b hb).elim h3 h1), fun b o h1 h2 ht => ?_, fun b h => y.there b (x.there b h), ?_, fun a ha => ?_⟩
  · refine y.keep b o (x.keep b o h1 h2 ht) (fun hb => ?_) ht
    rcases x.new b hb with z | z
    · exact h2 z
    · rw [h1] at z; cases z
  · obtain ⟨r1, e1⟩ := x.pre
    obtain ⟨r2, e2⟩ := y.pre
    exact ⟨r1 ++ r2, by rw [e2, e1, List.append_assoc]⟩
  · rcases y.new a ha with z | z
    · exact x.new a z
    · right
      cases q : H a with
      | none => rfl
      | some o => exact absurd z (x.there a (by rw [q]; simp))
theorem Grow.get (x : Grow G H da G' H' da') {n : Nat} {a : Addr} (h : da[n]? = some a) : da'[n]? = some a := by
  obtain ⟨r, e⟩ := x.pre
  rw [e, List.getElem?_append_left (List.getElem?_eq_some_iff.mp h).1]
  exact h
theorem RT.mono (x : Grow G H da G' H' da') {v : V} {d : D} (h : RT K G da v d) : RT K G' da' v d := by
  rcases h with h | ⟨n, a, h1, h2, h3⟩ | ⟨a, dd, m, h1, h2, h3⟩
  · exact .inl (h.mono x.g)
  · exact .inr (.inl ⟨n, a, h1, h2, x.get h3⟩)
  · exact .inr (.inr ⟨a, dd, m, h1, h2, x.get h3⟩)
theorem RTs.mono (x : Grow G H da G' H' da') : ∀ {vs : List V} {ds : List D}, RTs K G da vs ds → RTs K G' da' vs ds
  | _, _, .nil => .nil
  | _, _, .cons h r => .cons (h.mono x) (RTs.mono x r)
theorem RelE.mono (x : Grow G H da G' H' da') (h : RelE K G da σ r) : RelE K G' da' σ r :=
  ⟨h.len, fun i d e => let ⟨v, h1, h2⟩ := h.val i d e; ⟨v, h1, h2.mono x⟩⟩
theorem RTs.length : ∀ {vs : List V} {ds : List D}, RTs K G da vs ds → vs.length = ds.length
  | _, _, .nil => rfl
  | _, _, .cons _ r => congrArg Nat.succ r.length
theorem RT.rd {v : V} {d : D} (h : RT K G da v d) (hr : isRef d = false) : RD K G v d := by
  rcases h with h | ⟨n, a, h1, _⟩ | ⟨a, dd, m, h1, _⟩
  · exact h
  · subst h1; cases hr
  · subst h1; cases hr
theorem RTs.rds : ∀ {vs : List V} {ds : List D}, RTs K G da vs ds → ds.all (fun d => !isRef d) = true → RDs K G vs ds
  | _, _, .nil, _ => .nil
  | _, _, .cons h r, e => by
    rw [List.all_cons, Bool.and_eq_true] at e
    exact .cons (h.rd (by simpa using e.1)) (r.rds e.2)
theorem RTs.get : ∀ {vs : List V} {ds : List D} {i : Nat} {d : D}, RTs K G da vs ds → ds[i]? = some d → ∃ v, vs[i]? = some v ∧ RT K G da v d
  | _, _, _, _, .nil, e => by simp at e
  | _, _, 0, _, .cons h _, e => by simp at e; subst e; exact ⟨_, rfl, h⟩
  | _, _, i + 1, d, .cons _ r, e => by
    obtain ⟨v, h1, h2⟩ := RTs.get (i := i) (d := d) r (by simpa using e)
    exact ⟨v, by simpa using h1, h2⟩
theorem RTs.append : ∀ {vs : List V} {ds : List D} {ws : List V} {es : List D}, RTs K G da vs ds → RTs K G da ws es → RTs K G da (vs ++ ws) (ds ++ es)
  | _, _, _, _, .nil, s => s
  | _, _, _, _, .cons h r, s => .cons h (r.append s)

theorem notCode {H : Hp} {b : Addr} {o : HO} (h : H b = some o) (hn : ∀ f, o ≠ .ext f) (ht : ∀ ps, o ≠ .tbl ps := by intro _ z; cases z) : ∀ o', H b = some o' → Pl o' := fun o' z => by
  rw [h] at z
  cases z
  exact ⟨hn, ht⟩
theorem same_fresh {H : Hp} {p : Addr} {o : HO} (h : H p = none) : Same H (upd H p o) := fun b x e => by
  rw [upd_ne (ne_of_none e h)]
  exact e
theorem CellOk.mono (s : Same G G') {a : Addr} (e : H' a = H a) {c : Cell} (h : CellOk K G H a c) : CellOk K G' H' a c := by
  cases c with
  | lst xs =>
    obtain ⟨vs, h1, h2⟩ := h
    exact ⟨vs, by rw [e]; exact h1, h2.mono s⟩
  | fro xs =>
    obtain ⟨vs, h1, h2⟩ := h
    exact ⟨vs, s a _ h1, h2.mono s⟩
  | dtt kvs =>
    obtain ⟨ks, h1, h2⟩ := h
    exact ⟨ks, by rw [e]; exact h1, L2.Paired.mapP h2 fun p q z => ⟨z.1, z.2.mono s⟩⟩
  | xdc fs =>
    obtain ⟨fl, h1, h2⟩ := h
    exact ⟨fl, by rw [e]; exact h1, fun f e hf => let ⟨v, k1, k2⟩ := h2 f e hf; ⟨v, k1, k2.mono s⟩⟩
  | tab x =>
    obtain ⟨h0, ps, h1, h2, h3⟩ := h
    exact ⟨h0, ps, by rw [e]; exact h1, h2, fun pos cv hc => let ⟨c, k1, k2⟩ := h3 pos cv hc; ⟨c, k1, s _ _ k2⟩⟩
  | dct kvs =>
    obtain ⟨ks, h1, h2⟩ := h
    exact ⟨ks, by rw [e]; exact h1, L2.Paired.mapP h2 fun p q z => ⟨z.1, z.2.mono s⟩⟩
/-- a new object p is laid that nothing stands for yet -/
theorem RelS.lay (R : RelS K G H da S) {p : Addr} {o : HO} (hp : H p = none) : RelS K G (upd H p o) da S := by
  refine ⟨R.same.trans (same_fresh hp), R.len, R.nd, fun n a e => ?_, R.nt⟩
  obtain ⟨h1, c, h2, h3⟩ := R.cell n a e
  refine ⟨h1, c, h2, h3.mono (Same.refl _) ?_⟩
  rw [upd_ne]
  rintro rfl
  cases c with
  | lst xs => obtain ⟨vs, q, _⟩ := h3; rw [hp] at q; cases q
  | fro xs => obtain ⟨vs, q, _⟩ := h3; have q := R.same _ _ q; rw [hp] at q; cases q
  | dct kvs => obtain ⟨vs, q, _⟩ := h3; rw [hp] at q; cases q
  | dtt kvs => obtain ⟨vs, q, _⟩ := h3; rw [hp] at q; cases q
  | tab x => obtain ⟨_, vs, q, _⟩ := h3; rw [hp] at q; cases q
  | xdc fs => obtain ⟨vs, q, _⟩ := h3; rw [hp] at q; cases q
theorem RelS.inH (R : RelS K G H da S) {a : Addr} (h : a ∈ da) : H a ≠ none := by
  obtain ⟨n, hn, e⟩ := List.getElem_of_mem h
  obtain ⟨_, c, _, h3⟩ := R.cell n a (by rw [List.getElem?_eq_getElem hn, e])
  cases c with
  | lst xs => obtain ⟨vs, q, _⟩ := h3; rw [q]; simp
  | fro xs => obtain ⟨vs, q, _⟩ := h3; rw [R.same _ _ q]; simp
  | dct kvs => obtain ⟨vs, q, _⟩ := h3; rw [q]; simp
  | dtt kvs => obtain ⟨vs, q, _⟩ := h3; rw [q]; simp
  | tab x => obtain ⟨_, vs, q, _⟩ := h3; rw [q]; simp
  | xdc fs => obtain ⟨vs, q, _⟩ := h3; rw [q]; simp
theorem RelS.gnone (R : RelS K G H da S) {p : Addr} (h : H p = none) : G p = none := R.same.free h
/-- what stands in H and is no cell is taken into the frozen part -/
theorem RelS.freeze (R : RelS K G H da S) {p : Addr} {o : HO} (hp : H p = some o) (hg : G p = none) (hd : p ∉ da) (ho : ∀ ps, o ≠ .tbl ps := by intro _ z; cases z) : RelS K (upd G p o) H da S := by
  refine ⟨fun b x e => ?_, R.len, R.nd, fun n a e => ?_, fun b ps z => ?_⟩
  rotate_right
  · by_cases q : b = p
    · subst q; rw [upd_same] at z; exact ho ps (Option.some.inj z)
    · rw [upd_ne q] at z; exact R.nt b ps z
  · by_cases q : b = p
    · subst q; rw [upd_same] at e; cases e; exact hp
    · rw [upd_ne q] at e; exact R.same b x e
  · obtain ⟨h1, c, h2, h3⟩ := R.cell n a e
    have ne : a ≠ p := fun z => hd (z ▸ List.mem_of_getElem? e)
    exact ⟨h1.imp (fun z => by rw [upd_ne ne]; exact z) id, c, h2, h3.mono (same_fresh hg) rfl⟩
theorem Grow.lay {p : Addr} {o : HO} (hp : H p = none) : Grow G H da G (upd H p o) da :=
  ⟨Same.refl _, fun _ _ _ h _ => h, fun b x e _ _ => by rw [upd_ne (ne_of_none e hp)]; exact e, fun b h => by
    by_cases q : b = p
    · subst q; rw [upd_same]; simp
    · rw [upd_ne q]; exact h, ⟨[], by simp⟩, fun _ h => .inl h⟩
theorem Grow.freeze {p : Addr} {o : HO} (x : Grow G H da G' H' da') (hp : H p = none) (hg : G' p = none) : Grow G H da (upd G' p o) H' da' :=
  ⟨x.g.trans (same_fresh hg), fun b h1 h0 h2 h3 => by
    have ne : b ≠ p := fun z => h1 (z ▸ hp)
    rw [upd_ne ne]; exact x.old b h1 h0 h2 h3, x.keep, x.there, x.pre, x.new⟩
theorem RelS.notIn (R : RelS K G H da S) {p : Addr} (h : H p = none) : p ∉ da := fun z => R.inH z h
end

/-! ### readings -/
section
variable (K : PySem.W.Frag) (C : Call)
def rdE (t : Tm) : TE := fun σ H Q => ∃ G da S r d S', RelS K G H da S ∧ RelE K G da σ r ∧ sem C t r S = some (d, S') ∧
  ∀ v H' G' da', Grow G H da G' H' da' → RelS K G' H' da' S' → RT K G' da' v d → Q v H'
/-- a new list -/
def rdF (t : Tm) : TE := fun σ H Q => ∃ G da S r xs S', RelS K G H da S ∧ RelE K G da σ r ∧ sem C t r S = some (.lst xs, S') ∧
  ∀ p vs H' G' da', Grow G H da G' H' da' → RelS K G' H' da' S' → H p = none → H' p = some (.lst vs) → G' p = none → p ∉ da' → RDs K G' vs xs → Q (.ref p) H'
def rdA (t : Tm) : TA := fun σ H Q => ∃ G da S r ds S', RelS K G H da S ∧ RelE K G da σ r ∧ semA C t r S = some (ds, S') ∧
  ∀ vs H' G' da', Grow G H da G' H' da' → RelS K G' H' da' S' → RTs K G' da' vs ds → Q vs H'
def rdT (t : Tm) : TT := fun σ H Q => ∃ G da S r b S', RelS K G H da S ∧ RelE K G da σ r ∧ sem C t r S = some (.bl b, S') ∧
  ∀ H' G' da', Grow G H da G' H' da' → RelS K G' H' da' S' → Q b H'
def rdO (t : Tm) : TO := fun σ H Q => ∃ G da S r o S', RelS K G H da S ∧ RelE K G da σ r ∧ semO C t r S = some (o, S') ∧
  ∀ H' G' da', Grow G H da G' H' da' → RelS K G' H' da' S' → Q o H'
/-- what a walk gives -/
def Yl (G : Hp) (xs : List D) : Nat → Hp → V → Hp → Prop := fun i H x H' =>
  (H' = H ∧ ∃ d, xs[i]? = some d ∧ RD K G x d) ∨ ∃ T us ds, H T = none ∧ H' = upd H T (.tup us) ∧ xs[i]? = some (.tup ds) ∧ x = .ref T ∧ RDs K G us ds
def Drv (J : It) (G : Hp) (xs : List D) : Prop := Walk J xs.length (fun H => Same G H) (Yl K G xs)
def rdI (t : Tm) : TI := fun σ H R => ∃ G da S r xs S', RelS K G H da S ∧ RelE K G da σ r ∧ semI C t r S = some (xs, S') ∧
  ∀ J H' G' da', Grow G H da G' H' da' → RelS K G' H' da' S' → xs.length ≤ sizeLine → Drv K J G' xs → R J H'
end
def slots : Tg → List Nat
  | .name i => [i]
  | .nil => []
  | .cons a r => slots a ++ slots r
  | .tup r => slots r
def rdG (K : PySem.W.Frag) (g : Tg) : TG := fun v σ H Q => ∃ G da S r d r', RelS K G H da S ∧ RelE K G da σ r ∧ RT K G da v d ∧ setG g d r = some r' ∧
  ∀ σ', (∀ vs : List Nat, (∀ i ∈ slots g, i ∈ vs) → wipe σ' vs = wipe σ vs) → RelE K G da σ' r' → Q σ' H
def rdGs (K : PySem.W.Frag) (g : Tg) : TGs := fun us σ H Q => ∃ G da S r ds r', RelS K G H da S ∧ RelE K G da σ r ∧ RDs K G us ds ∧ setGs g ds r = some r' ∧
  ∀ σ', (∀ vs : List Nat, (∀ i ∈ slots g, i ∈ vs) → wipe σ' vs = wipe σ vs) → RelE K G da σ' r' → Q σ' H
def rdS (K : PySem.W.Frag) (C : Call) (s : Sm) : TS := fun Z σ H => ∃ G da S r f S', RelS K G H da S ∧ RelE K G da σ r ∧ exe C s r S = some (f, S') ∧
  match f with
  | .nx r' => ∀ σ' H' G' da', Grow G H da G' H' da' → RelS K G' H' da' S' → RelE K G' da' σ' r' → Z.nx σ' H'
  | .bk r' => ∀ σ' H' G' da', Grow G H da G' H' da' → RelS K G' H' da' S' → RelE K G' da' σ' r' → Z.bk σ' H'
  | .ct r' => ∀ σ' H' G' da', Grow G H da G' H' da' → RelS K G' H' da' S' → RelE K G' da' σ' r' → Z.ct σ' H'
  | .rt d => ∀ v H' G' da', Grow G H da G' H' da' → RelS K G' H' da' S' → RT K G' da' v d → Z.rt v H'

/-! ### weakening -/
section
variable {X : Cx}
theorem PE.imp {e : Expr} {t t' : TE} (h : PE X e t) (i : ∀ σ H Q, t' σ H Q → t σ H Q) : PE X e t' := ⟨fun pins s σ H Q I z => h.run pins s σ H Q I (i σ H Q z)⟩
theorem PT.imp {e : Expr} {t t' : TT} (h : PT X e t) (i : ∀ σ H Q, t' σ H Q → t σ H Q) : PT X e t' := ⟨fun pins s σ H Q I z => h.run pins s σ H Q I (i σ H Q z)⟩
theorem PW.imp {e : Expr} {t t' : TT} (h : PW X e t) (i : ∀ σ H Q, t' σ H Q → t σ H Q) : PW X e t' := ⟨fun w pins s σ H Q I z => h.run w pins s σ H Q I (i σ H Q z)⟩
theorem PA.imp {e : List Expr} {t t' : TA} (h : PA X e t) (i : ∀ σ H Q, t' σ H Q → t σ H Q) : PA X e t' := ⟨fun p pins s σ H Q I z => h.run p pins s σ H Q I (i σ H Q z)⟩
theorem PS.imp {e : Stmt} {t t' : TS} (h : PS X e t) (i : ∀ Z σ H, t' Z σ H → t Z σ H) : PS X e t' := ⟨fun pins s σ H Z I z => h.run pins s σ H Z I (i Z σ H z)⟩
theorem PSs.imp {e : List Stmt} {t t' : TS} (h : PSs X e t) (i : ∀ Z σ H, t' Z σ H → t Z σ H) : PSs X e t' := ⟨fun pins s σ H Z I z => h.run pins s σ H Z I (i Z σ H z)⟩
theorem PI.imp {g e : Expr} {t t' : TI} (h : PI X g e t) (i : ∀ σ H Q, t' σ H Q → t σ H Q) : PI X g e t' := ⟨fun pins s σ H Q I z => h.run pins s σ H Q I (i σ H Q z)⟩
theorem PG.imp {e : Expr} {t t' : TG} (h : PG X e t) (i : ∀ v σ H Q, t' v σ H Q → t v σ H Q) : PG X e t' := ⟨fun pins s σ H v u Q I r z => h.run pins s σ H v u Q I r (i v σ H Q z)⟩
theorem PGs.imp {e : List Expr} {t t' : TGs} (h : PGs X e t) (i : ∀ v σ H Q, t' v σ H Q → t v σ H Q) : PGs X e t' := ⟨fun pins s σ H v u Q I r z => h.run pins s σ H v u Q I r (i v σ H Q z)⟩
theorem PO.imp {e : Option Expr} {t t' : TO} (h : PO X e t) (i : ∀ σ H Q, t' σ H Q → t σ H Q) : PO X e t' := ⟨fun pins s σ H Q I z => h.run pins s σ H Q I (i σ H Q z)⟩
theorem PE.or {e : Expr} {t t' : TE} (h : PE X e t) (h' : PE X e t') : PE X e (fun σ H Q => t σ H Q ∨ t' σ H Q) := ⟨fun pins s σ H Q I z => z.elim (h.run pins s σ H Q I) (h'.run pins s σ H Q I)⟩
theorem PI.or {g e : Expr} {t t' : TI} (h : PI X g e t) (h' : PI X g e t') : PI X g e (fun σ H Q => t σ H Q ∨ t' σ H Q) := ⟨fun pins s σ H Q I z => z.elim (h.run pins s σ H Q I) (h'.run pins s σ H Q I)⟩
end
/-- a new list, frozen -/
theorem rdF_E {K : PySem.W.Frag} {C : Call} {t : Tm} (hf : ∀ r S d S', sem C t r S = some (d, S') → ∃ xs, d = .lst xs) (σ : St) (H : Hp) (Q : VK) (h : rdE K C t σ H Q) : rdF K C t σ H Q := by
  obtain ⟨G, da, S, r, d, S', R, E, e, q⟩ := h
  obtain ⟨xs, rfl⟩ := hf _ _ _ _ e
  refine ⟨G, da, S, r, xs, S', R, E, e, fun p vs H' G' da' g R' h1 h2 h3 h4 h5 => ?_⟩
  refine q _ H' (upd G' p (.lst vs)) da' (g.freeze h1 h3) (R'.freeze h2 h3 h4) (.inl (.lst (SqL.of upd_same) (h5.mono (same_fresh h3))))
end AOne
end

section
set_option Elab.async false
set_option linter.all false
set_option maxRecDepth 100000
set_option maxHeartbeats 1000000
set_option autoImplicit false
/-! A3: operators and comparisons by values. -/
namespace AOne
open PySem PySem.Spec L2

section
variable {K : PySem.W.Frag} {G H : Hp} {da : List Addr} {S : Sto} {x : V} {d : D}
theorem RD.up (R : RelS K G H da S) (h : RD K G x d) : RD K H x d := h.mono R.same
theorem look_rd (R : RelS K G H da S) (h : RT K G da x d) (hr : isRef (look S d) = false) : RD K H x (look S d) := by
  rcases h with h | ⟨n, a, rfl, rfl, e⟩ | ⟨a, dd, m, rfl, rfl, _⟩
  rotate_right
  · cases hr
  · have e : look S d = d := by cases h <;> rfl
    rw [e]
    exact h.up R
  · obtain ⟨h1, c, h2, h3⟩ := R.cell n a e
    cases c with
    | lst xs =>
      have el : look S (.ref n) = .lst xs := by simp [look, h2]
      rw [el]
      obtain ⟨vs, q1, q2⟩ := h3
      exact .lst (SqL.of q1) (q2.mono R.same)
    | fro xs =>
      have el : look S (.ref n) = .lst xs := by simp [look, h2]
      rw [el]
      obtain ⟨vs, q1, q2⟩ := h3
      exact .lst (SqL.of (R.same _ _ q1)) (q2.mono R.same)
    | dtt kvs =>
      have el : look S (.ref n) = .ref n := by simp [look, h2]
      rw [el] at hr
      cases hr
    | tab x =>
      have el : look S (.ref n) = .ref n := by simp [look, h2]
      rw [el] at hr
      cases hr
    | xdc fs =>
      have el : look S (.ref n) = .ref n := by simp [look, h2]
      rw [el] at hr
      cases hr
    | dct kvs =>
      have el : look S (.ref n) = .ref n := by simp [look, h2]
      rw [el] at hr
      cases hr
theorem look_lst (R : RelS K G H da S) (h : RT K G da x d) {xs : List D} (e : look S d = .lst xs) : ∃ a vs, x = .ref a ∧ SqL K H a vs ∧ RDs K G vs xs := by
  rcases h with h | ⟨n, a, rfl, rfl, e'⟩ | ⟨a, dd, m, rfl, rfl, _⟩
  rotate_right
  · cases e
  · have ed : look S d = d := by cases h <;> rfl
    rw [ed] at e
    subst e
    cases h with
    | lst h1 h2 => exact ⟨_, _, rfl, same_sql R.same h1, h2⟩
  · obtain ⟨h1, c, h2, h3⟩ := R.cell n a e'
    cases c with
    | lst ys =>
      have el : look S (.ref n) = .lst ys := by simp [look, h2]
      rw [el] at e
      cases e
      obtain ⟨vs, q1, q2⟩ := h3
      exact ⟨a, vs, rfl, SqL.of q1, q2⟩
    | fro ys =>
      have el : look S (.ref n) = .lst ys := by simp [look, h2]
      rw [el] at e
      cases e
      obtain ⟨vs, q1, q2⟩ := h3
      exact ⟨a, vs, rfl, SqL.of (R.same _ _ q1), q2⟩
    | dtt kvs =>
      have el : look S (.ref n) = .ref n := by simp [look, h2]
      rw [el] at e
      cases e
    | tab x =>
      have el : look S (.ref n) = .ref n := by simp [look, h2]
      rw [el] at e
      cases e
    | xdc fs =>
      have el : look S (.ref n) = .ref n := by simp [look, h2]
      rw [el] at e
      cases e
    | dct kvs =>
      have el : look S (.ref n) = .ref n := by simp [look, h2]
      rw [el] at e
      cases e
theorem look_data (R : RelS K G H da S) (h : RT K G da x d) {e : D} (q : look S d = e) (hne : ∀ xs, e ≠ .lst xs) (hr : isRef e = false) : d = e ∧ RD K G x e := by
  rcases h with h | ⟨n, a, rfl, rfl, e'⟩ | ⟨a, dd, m, rfl, rfl, _⟩
  rotate_right
  · subst q; cases hr
  · have ed : look S d = d := by cases h <;> rfl
    rw [ed] at q
    subst q
    exact ⟨rfl, h⟩
  · obtain ⟨h1, c, h2, h3⟩ := R.cell n a e'
    cases c with
    | lst ys =>
      have el : look S (.ref n) = .lst ys := by simp [look, h2]
      rw [el] at q
      exact absurd q.symm (hne ys)
    | fro ys =>
      have el : look S (.ref n) = .lst ys := by simp [look, h2]
      rw [el] at q
      exact absurd q.symm (hne ys)
    | dtt kvs =>
      have el : look S (.ref n) = .ref n := by simp [look, h2]
      rw [el] at q
      subst q
      cases hr
    | tab x =>
      have el : look S (.ref n) = .ref n := by simp [look, h2]
      rw [el] at q
      subst q
      cases hr
    | xdc fs =>
      have el : look S (.ref n) = .ref n := by simp [look, h2]
      rw [el] at q
      subst q
      cases hr
    | dct kvs =>
      have el : look S (.ref n) = .ref n := by simp [look, h2]
      rw [el] at q
      subst q
      cases hr
theorem look_int (R : RelS K G H da S) (h : RT K G da x d) {i : Int} (q : look S d = .int i) : x = .int i := by
  obtain ⟨_, h⟩ := look_data R h q (fun _ z => nomatch z) rfl
  cases h; rfl
theorem look_str (R : RelS K G H da S) (h : RT K G da x d) {i : Str} (q : look S d = .str i) : x = .str i ∧ PyData.strOk i = true := by
  obtain ⟨_, h⟩ := look_data R h q (fun _ z => nomatch z) rfl
  cases h with | str _ z => exact ⟨rfl, z⟩
theorem look_tup (R : RelS K G H da S) (h : RT K G da x d) {xs : List D} (e : look S d = .tup xs) : ∃ a vs, x = .ref a ∧ SqT K H a vs ∧ G a = some (.tup vs) ∧ RDs K G vs xs := by
  obtain ⟨_, h⟩ := look_data R h e (fun _ z => nomatch z) rfl
  cases h with | tup h1 h2 => exact ⟨_, _, rfl, SqT.of (R.same _ _ h1), h1, h2⟩

/-- what an operation on values promises: data d -/
def Ends1 (K : PySem.W.Frag) (G H : Hp) (da : List Addr) (S : Sto) (d : D) (Q : VK) : Prop := ∀ v H' G', Grow G H da G' H' da → RelS K G' H' da S → RT K G' da v d → Q v H'
theorem Ends1.here {Q : VK} {v : V} (q : Ends1 K G H da S d Q) (R : RelS K G H da S) (h : RD K G v d) : Q v H := q v H G .refl R (.inl h)
theorem Ends1.tup {Q : VK} {p : Addr} {vs : List V} {ds : List D} (q : Ends1 K G H da S (.tup ds) Q) (R : RelS K G H da S) (h : RDs K G vs ds) (hp : H p = none) : Q (.ref p) (upd H p (.tup vs)) :=
  q _ _ (upd G p (.tup vs)) (Grow.freeze (Grow.lay hp) hp (R.gnone hp)) ((R.lay hp).freeze upd_same (R.gnone hp) (R.notIn hp)) (.inl (.tup upd_same (h.mono (same_fresh (R.gnone hp)))))
theorem Ends1.lst {Q : VK} {p : Addr} {vs : List V} {ds : List D} (q : Ends1 K G H da S (.lst ds) Q) (R : RelS K G H da S) (h : RDs K G vs ds) (hp : H p = none) : Q (.ref p) (upd H p (.lst vs)) :=
  q _ _ (upd G p (.lst vs)) (Grow.freeze (Grow.lay hp) hp (R.gnone hp)) ((R.lay hp).freeze upd_same (R.gnone hp) (R.notIn hp)) (.inl (.lst (SqL.of upd_same) (h.mono (same_fresh (R.gnone hp)))))
end

def rP2 (K : PySem.W.Frag) (f : Sto → D → D → Option D) : R2 := fun x y H Q => ∃ G da S a b d, RelS K G H da S ∧ RT K G da x a ∧ RT K G da y b ∧ f S a b = some d ∧ Ends1 K G H da S d Q

theorem strOk_append {x y : Str} (h : PyData.strOk x = true) (h' : PyData.strOk y = true) : PyData.strOk (x ++ y) = true := by
  have e : (x ++ y).cps = x.cps ++ y.cps := rfl
  unfold PyData.strOk at *
  rw [e, Array.all_append, h, h']
  rfl

section
variable {X : Cx}
/-- list + list, whatever holds them -/
theorem op_catS : OpR X (binaryOp .Add) (fun x y H Q => ∃ l b xs zs, x = .ref l ∧ y = .ref b ∧ SqL X.K H l xs ∧ SqL X.K H b zs ∧ xs.length + zs.length ≤ sizeLine ∧ ∀ p, H p = none → Q (.ref p) (upd H p (.lst (xs ++ zs)))) := by
  intro pins s σ H x y v u Q I rx ry h
  obtain ⟨l, b, xs, zs, rfl, rfl, hH, hB, hz, q⟩ := h
  cases rx
  cases ry
  obtain ⟨its, r, p1, z1⟩ := I.list hH
  obtain ⟨its2, r2, p2, z2⟩ := I.list hB
  obtain ⟨m, F⟩ := I.fr
  have e1 := r.length
  have e2 := r2.length
  obtain ⟨⟨cls, dd, data, sl⟩, ho, hc, n, hd⟩ := id p1.isList
  obtain ⟨⟨cls2, dd2, data2, sl2⟩, ho2, hc2, n2, hd2⟩ := id p2.isList
  simp only at hc hd hc2 hd2
  subst hc hd hc2 hd2
  have e : its.toArray ++ its2.toArray = (its ++ its2).toArray := by simp
  refine concat_meets ⟨_, ho, rfl⟩ ⟨_, ho2, rfl⟩ noFill_list_add seq_list_add PySem.F.slot_list_add PySem.F.entry_list_add (PySem.F.args_list_add_2 _ _) (PyProof.Rows.list_addW l b its.toArray its2.toArray n n2 dd dd2 sl sl2 (by simp only [List.size_toArray]; omega)) ⟨ho, ho2, ?_⟩
  rw [e]
  exact ⟨.ref _, _, I.lnew (t' := s.toks) (r.append r2) (by rw [List.length_append]; omega), rfl, q _ I.fresh⟩

theorem op_addP : OpR X (binaryOp .Add) (rP2 X.K fun S a b => opD .add (look S a) (look S b)) := by
  intro pins s σ H x y v u Q I rx ry h
  obtain ⟨G, da, S, a, b, d, R, ha, hb, e, q⟩ := h
  have e : opD .add (look S a) (look S b) = some d := e
  revert e
  generalize ea : look S a = a'
  generalize eb : look S b = b'
  intro e
  cases a' <;> cases b' <;> simp only [opD, reduceCtorEq] at e
  · cases e
    exact op_add pins s σ H x y v u Q I rx ry ⟨_, _, look_int R ha ea, look_int R hb eb, q.here R (.int _)⟩
  · split at e
    · cases e
      rename_i hs
      obtain ⟨e1, k1⟩ := look_str R ha ea
      obtain ⟨e2, k2⟩ := look_str R hb eb
      exact op_add_str pins s σ H x y v u Q I rx ry ⟨_, _, e1, e2, of_decide_eq_true hs, q.here R (.str _ (strOk_append k1 k2))⟩
    · cases e
  · split at e
    · cases e
      rename_i hs
      obtain ⟨l, vs, e1, h1, g1, r1⟩ := look_tup R ha ea
      obtain ⟨m, ws, e2, h2, g2, r2⟩ := look_tup R hb eb
      refine op_catA pins s σ H x y v u Q I rx ry ⟨l, m, vs, ws, e1, e2, h1, h2, ?_, fun z => ?_, fun z1 z2 => ?_, fun _ _ p hp => q.tup R (r1.append r2) hp⟩
      · rw [r1.length, r2.length]; exact of_decide_eq_true hs
      · subst z
        cases r1
        exact q.here R (.tup g2 r2)
      · subst z2
        cases r2
        rw [List.append_nil] at q
        exact q.here R (.tup g1 r1)
    · cases e
  · split at e
    · cases e
      rename_i hs
      obtain ⟨l, vs, e1, h1, r1⟩ := look_lst R ha ea
      obtain ⟨m, ws, e2, h2, r2⟩ := look_lst R hb eb
      refine op_catS pins s σ H x y v u Q I rx ry ⟨l, m, vs, ws, e1, e2, h1, h2, ?_, fun p hp => q.lst R (r1.append r2) hp⟩
      rw [r1.length, r2.length]; exact of_decide_eq_true hs
    · cases e
/-- an operator on two whole numbers -/
theorem op_intP {o : Operator} {c : Op2} {Cd : Int → Int → Prop} {g : Int → Int → Int} (h : OpR X (binaryOp o) (rI Cd fun i j => .int (g i j)))
    (inv : ∀ a b d, opD c a b = some d → ∃ i j, a = .int i ∧ b = .int j ∧ Cd i j ∧ d = .int (g i j)) : OpR X (binaryOp o) (rP2 X.K fun S a b => opD c (look S a) (look S b)) := by
  intro pins s σ H x y v u Q I rx ry z
  obtain ⟨G, da, S, a, b, d, R, ha, hb, e, q⟩ := z
  obtain ⟨i, j, ea, eb, hc, rfl⟩ := inv _ _ _ e
  exact h pins s σ H x y v u Q I rx ry ⟨i, j, look_int R ha ea, look_int R hb eb, hc, q.here R (.int _)⟩
theorem op_subP : OpR X (binaryOp .Sub) (rP2 X.K fun S a b => opD .sub (look S a) (look S b)) := by
  refine op_intP (Cd := fun _ _ => True) (g := fun i j => i - j) (fun pins s σ H x y v u Q I rx ry ⟨i, j, h1, h2, _, q⟩ => op_sub pins s σ H x y v u Q I rx ry ⟨i, j, h1, h2, q⟩) fun a b d e => ?_
  cases a <;> cases b <;> simp only [opD, reduceCtorEq] at e
  cases e
  exact ⟨_, _, rfl, rfl, trivial, rfl⟩
theorem op_mulP : OpR X (binaryOp .Mult) (rP2 X.K fun S a b => opD .mul (look S a) (look S b)) := by
  refine op_intP op_mul fun a b d e => ?_
  cases a <;> cases b <;> simp only [opD, reduceCtorEq] at e
  split at e
  · cases e
    rename_i hs
    rw [Bool.and_eq_true] at hs
    exact ⟨_, _, rfl, rfl, .inl ⟨of_decide_eq_true hs.1, of_decide_eq_true hs.2⟩, rfl⟩
  · cases e
theorem op_fdivP : OpR X (binaryOp .FloorDiv) (rP2 X.K fun S a b => opD .fdiv (look S a) (look S b)) := by
  refine op_intP op_fdiv fun a b d e => ?_
  cases a <;> cases b <;> simp only [opD, reduceCtorEq] at e
  split at e
  · cases e
    rename_i hs
    rw [Bool.and_eq_true] at hs
    exact ⟨_, _, rfl, rfl, ⟨of_decide_eq_true hs.1, of_decide_eq_true hs.2⟩, rfl⟩
  · cases e
theorem op_mdP : OpR X (binaryOp .Mod) (rP2 X.K fun S a b => opD .md (look S a) (look S b)) := by
  refine op_intP op_mod fun a b d e => ?_
  cases a <;> cases b <;> simp only [opD, reduceCtorEq] at e
  split at e
  · cases e
    rename_i hs
    exact ⟨_, _, rfl, rfl, of_decide_eq_true hs, rfl⟩
  · cases e
theorem op_pwP : OpR X (binaryOp .Pow) (rP2 X.K fun S a b => opD .pw (look S a) (look S b)) := by
  refine op_intP op_pow fun a b d e => ?_
  cases a <;> cases b <;> simp only [opD, reduceCtorEq] at e
  split at e
  · cases e
    rename_i hs
    rw [Bool.and_eq_true, Bool.and_eq_true] at hs
    exact ⟨_, _, rfl, rfl, ⟨of_decide_eq_true hs.1.1, of_decide_eq_true hs.1.2, of_decide_eq_true hs.2⟩, rfl⟩
  · cases e

def opS : Op2 → Operator
  | .add => .Add
  | .sub => .Sub
  | .mul => .Mult
  | .fdiv => .FloorDiv
  | .md => .Mod
  | .pw => .Pow
theorem op_all (o : Op2) : OpR X (binaryOp (opS o)) (rP2 X.K fun S a b => opD o (look S a) (look S b)) := by
  cases o
  · exact op_addP
  · exact op_subP
  · exact op_mulP
  · exact op_fdivP
  · exact op_mdP
  · exact op_pwP

/-! ### comparisons -/
def cpS : Cp → CmpOp
  | .eq => .Eq
  | .ne => .NotEq
  | .lt => .Lt
  | .le => .LtE
  | .gt => .Gt
  | .ge => .GtE
  | .inn => .In
  | .nin => .NotIn
  | .isn => .Is
  | .notn => .IsNot
abbrev rC (K : PySem.W.Frag) (c : Cp) : R2 := rP2 K fun S a b => (cmpD S c a b).map .bl

theorem op_eqP (hu : X.A.units + 64 < cLine) : OpR X (compareOp .Eq) (rC X.K .eq) := by
  intro pins s σ H x y v u Q I rx ry h
  obtain ⟨G, da, S, a, b, d, R, ha, hb, e, q⟩ := h
  obtain ⟨k, ek, rfl⟩ := Option.map_eq_some_iff.mp e
  clear e
  have e := ek
  clear ek
  simp only [cmpD] at e
  split at e
  · cases e
  · rename_i h1
    split at e
    · rename_i h2
      cases e
      rw [Bool.or_eq_true, not_or] at h1
      rw [Bool.and_eq_true] at h2
      have ra := look_rd R ha (by simpa using h1.1)
      have rb := look_rd R hb (by simpa using h1.2)
      exact op_eqD hu pins s σ H x y v u Q I rx ry ⟨_, _, ra.dp, rb.dp, ra.shaped h2.1, rb.shaped h2.2, q.here R (.bl _)⟩
    · cases e
theorem op_neP (hu : X.A.units + 64 < cLine) : OpR X (compareOp .NotEq) (rC X.K .ne) := by
  intro pins s σ H x y v u Q I rx ry h
  obtain ⟨G, da, S, a, b, d, R, ha, hb, e, q⟩ := h
  obtain ⟨k, ek, rfl⟩ := Option.map_eq_some_iff.mp e
  clear e
  have e := ek
  clear ek
  simp only [cmpD] at e
  split at e
  · cases e
  · rename_i h1
    split at e
    · rename_i h2
      cases e
      rw [Bool.or_eq_true, not_or] at h1
      rw [Bool.and_eq_true] at h2
      have ra := look_rd R ha (by simpa using h1.1)
      have rb := look_rd R hb (by simpa using h1.2)
      exact op_neD hu pins s σ H x y v u Q I rx ry ⟨_, _, ra.dp, rb.dp, ra.shaped h2.1, rb.shaped h2.2, q.here R (.bl _)⟩
    · cases e
theorem ltOk_inv {a b : D} (h : ltOk a b = true) : dalike a b = true ∧ a.py.depth ≤ 64 ∧ b.py.depth ≤ 64 ∧ a.py ≠ .none ∧ isRef a = false ∧ isRef b = false := by
  simp only [ltOk, Bool.and_eq_true] at h
  obtain ⟨⟨⟨h1, h2⟩, h3⟩, h4⟩ := h
  refine ⟨h1, of_decide_eq_true h2, of_decide_eq_true h3, ?_, ?_, ?_⟩
  · cases a <;> simp [D.py] at h4 ⊢
  · cases a <;> simp at h4 ⊢ <;> rfl
  · cases a <;> cases b <;> simp [dalike, D.py, PySem.W.alike] at h4 h1 ⊢ <;> rfl
theorem op_ordP (c : Cp) (g : D → D → Bool) (hc : ∀ S a b, cmpD S c a b = if ltOk a b then some (g a b) else none) (hu : X.A.units + 64 < cLine)
    (rule : ∀ (A : Around) (E : Value → Shared → Prop) (s : Shared) (a b : D) (v u : Value) (as bs : List Addr) (Q : Value → Shared → Prop), Reads s.heap v a.py as → Reads s.heap u b.py bs → dalike a b = true → a.py ≠ .none → A.units + min a.py.depth b.py.depth < cLine → Q (.bool (g a b)) s →
      wpAny (model X.prog X.w) A (compareOp (cpS c) v u) Q E s) : OpR X (compareOp (cpS c)) (rC X.K c) := by
  intro pins s σ H x y v u Q I rx ry h
  obtain ⟨G, da, S, a, b, d, R, ha, hb, e, q⟩ := h
  obtain ⟨k, ek, rfl⟩ := Option.map_eq_some_iff.mp e
  clear e
  have e := ek
  clear ek
  rw [hc] at e
  split at e
  · rename_i h
    cases e
    obtain ⟨h1, h2, h3, h4, h5, h6⟩ := ltOk_inv h
    obtain ⟨as, r1⟩ := Dp.reads I _ x v ((ha.rd h5).up R).dp rx
    obtain ⟨bs, r2⟩ := Dp.reads I _ y u ((hb.rd h6).up R).dp ry
    have hm : min a.py.depth b.py.depth ≤ 64 := Nat.le_trans (Nat.min_le_left _ _) h2
    exact rule _ _ _ a b v u as bs _ r1 r2 h1 h4 (by omega) ⟨.bl _, H, I, rfl, q.here R (.bl _)⟩
  · cases e
theorem op_ltP (hu : X.A.units + 64 < cLine) : OpR X (compareOp .Lt) (rC X.K .lt) := op_ordP .lt dlt (fun _ _ _ => rfl) hu fun _ _ _ a b _ _ _ _ _ r1 r2 h1 h2 h3 q => PySem.W.lt_data r1 r2 h1 h2 h3 q
theorem op_gtP (hu : X.A.units + 64 < cLine) : OpR X (compareOp .Gt) (rC X.K .gt) := op_ordP .gt (fun a b => dlt b a) (fun _ _ _ => rfl) hu fun _ _ _ a b _ _ _ _ _ r1 r2 h1 h2 h3 q => PySem.W.gt_data r1 r2 h1 h2 h3 q
theorem op_leP (hu : X.A.units + 64 < cLine) : OpR X (compareOp .LtE) (rC X.K .le) := op_ordP .le (fun a b => !dlt b a) (fun _ _ _ => rfl) hu fun _ _ _ a b _ _ _ _ _ r1 r2 h1 h2 h3 q => PySem.W.le_data r1 r2 h1 h2 h3 q
theorem op_geP (hu : X.A.units + 64 < cLine) : OpR X (compareOp .GtE) (rC X.K .ge) := op_ordP .ge (fun a b => !dlt a b) (fun _ _ _ => rfl) hu fun _ _ _ a b _ _ _ _ _ r1 r2 h1 h2 h3 q => PySem.W.ge_data r1 r2 h1 h2 h3 q

theorem depth_items (xs : List D) : PyData.depth (D.py (.lst xs)) = PyData.depthAll (pys xs) + 1 := by simp [D.py, PyData.depth]
theorem depth_itemsT (xs : List D) : PyData.depth (D.py (.tup xs)) = PyData.depthAll (pys xs) + 1 := by simp [D.py, PyData.depth]
theorem any_pys (a : D) (xs : List D) : ((pys xs).any fun z => PyData.eqv z a.py) = xs.any fun z => deq z a := by
  rw [pys_map, List.any_map]; rfl
/-- what «in» says -/
theorem in_core {a b : D} {k : Bool} {pins : List (Addr × Obj)} {s : Shared} {σ : L2.St} {H G : Hp} {da : List Addr} {S : Sto} {x y : V} {v u : Value} (hu : X.A.units + 65 < cLine) (I : Inv X pins σ H s) (rx : RelV x v) (ry : RelV y u) (R : RelS X.K G H da S) (ha : RT X.K G da x a) (hb : RT X.K G da y b)
    (hr : isRef a = false) (e : inD a (look S b) = some k) : (∀ (E : Value → Shared → Prop) (Q : Value → Shared → Prop), Q (.bool k) s → wpAny (model X.prog X.w) X.A (compareOp .In v u) Q E s) ∧
      (∀ (E : Value → Shared → Prop) (Q : Value → Shared → Prop), Q (.bool (!k)) s → wpAny (model X.prog X.w) X.A (compareOp .NotIn v u) Q E s) := by
  have rda := (ha.rd hr).up R
  obtain ⟨as, r1⟩ := Dp.reads I _ x v rda.dp rx
  revert e
  generalize eb : look S b = b'
  intro e
  cases b' <;> simp only [inD, reduceCtorEq] at e
  · -- texts
    rename_i z
    cases a <;> simp only [reduceCtorEq] at e
    rename_i w
    cases e
    obtain ⟨rfl, _⟩ := look_str R hb eb
    cases rda
    obtain ⟨t, rfl⟩ := rx
    obtain ⟨t', rfl⟩ := ry
    exact ⟨fun E Q q => PyProof.Rows.in_str q, fun E Q q => PyProof.Rows.notIn_str q⟩
  · rename_i xs
    split at e
    · rename_i h
      cases e
      rw [Bool.and_eq_true] at h
      have rb := look_rd R hb (by rw [eb]; rfl)
      rw [eb] at rb
      obtain ⟨bs, r2⟩ := Dp.reads I _ y u rb.dp ry
      have r2' : Reads s.heap u (.tuple (pys xs)) bs := by simpa [D.py] using r2
      have l2 : PyData.canLayAll0 (pys xs) = true := by simpa [D.py, PyData.canLay0] using rb.lay
      have hroom := PyProof.Rows.room_in_shaped (xs := pys xs) (rda.shaped h.1) hu
      have hq := any_pys a xs
      exact ⟨fun E Q q => SeqAt.in_tuple_reads r2' r1 l2 rda.lay hroom (by rw [hq]; exact q), fun E Q q => SeqAt.notIn_tuple_reads r2' r1 l2 rda.lay hroom (by rw [hq]; exact q)⟩
    · cases e
  · rename_i xs
    split at e
    · rename_i h
      cases e
      rw [Bool.and_eq_true] at h
      have rb := look_rd R hb (by rw [eb]; rfl)
      rw [eb] at rb
      obtain ⟨bs, r2⟩ := Dp.reads I _ y u rb.dp ry
      have r2' : Reads s.heap u (.list (pys xs)) bs := by simpa [D.py] using r2
      have l2 : PyData.canLayAll0 (pys xs) = true := by simpa [D.py, PyData.canLay0] using rb.lay
      have hroom := PyProof.Rows.room_in_shaped (xs := pys xs) (rda.shaped h.1) hu
      have hq := any_pys a xs
      exact ⟨fun E Q q => SeqAt.in_list_reads r2' r1 l2 rda.lay hroom (by rw [hq]; exact q), fun E Q q => SeqAt.notIn_list_reads r2' r1 l2 rda.lay hroom (by rw [hq]; exact q)⟩
    · cases e
theorem op_inP (hu : X.A.units + 65 < cLine) : OpR X (compareOp .In) (rC X.K .inn) := by
  intro pins s σ H x y v u Q I rx ry h
  obtain ⟨G, da, S, a, b, d, R, ha, hb, e, q⟩ := h
  obtain ⟨k, ek, rfl⟩ := Option.map_eq_some_iff.mp e
  clear e
  have e := ek
  clear ek
  simp only [cmpD] at e
  split at e
  · cases e
  · rename_i h
    exact (in_core hu I rx ry R ha hb (by simpa using h) e).1 _ _ ⟨.bl _, H, I, rfl, q.here R (.bl _)⟩
theorem op_ninP (hu : X.A.units + 65 < cLine) : OpR X (compareOp .NotIn) (rC X.K .nin) := by
  intro pins s σ H x y v u Q I rx ry h
  obtain ⟨G, da, S, a, b, d, R, ha, hb, e, q⟩ := h
  obtain ⟨k, ek, rfl⟩ := Option.map_eq_some_iff.mp e
  clear e
  have e := ek
  clear ek
  simp only [cmpD] at e
  split at e
  · cases e
  · rename_i h
    obtain ⟨k', ek, rfl⟩ := Option.map_eq_some_iff.mp e
    have e := ek
    exact (in_core hu I rx ry R ha hb (by simpa using h) e).2 _ _ ⟨.bl _, H, I, rfl, q.here R (.bl _)⟩
theorem none_iff {K : PySem.W.Frag} {G : Hp} {da : List Addr} {x : V} {a : D} (h : RT K G da x a) : decide (x = .non) = isNon a := by
  rcases h with h | ⟨n, p, rfl, rfl, _⟩ | ⟨p, dd, m, rfl, rfl, _⟩
  · cases h <;> simp [isNon]
  · simp [isNon]
  · simp [isNon]
theorem non_of {K : PySem.W.Frag} {G : Hp} {da : List Addr} {x : V} {a : D} (h : RT K G da x a) (e : isNon a = true) : x = .non := by
  have q := none_iff h
  rw [e] at q
  exact of_decide_eq_true q
theorem op_isnP : OpR X (compareOp .Is) (rC X.K .isn) := by
  intro pins s σ H x y v u Q I rx ry h
  obtain ⟨G, da, S, a, b, d, R, ha, hb, e, q⟩ := h
  obtain ⟨k, ek, rfl⟩ := Option.map_eq_some_iff.mp e
  simp only [cmpD] at ek
  split at ek
  · rename_i hn
    cases ek
    exact op_isN pins s σ H x y v u Q I rx ry ⟨non_of hb hn, by rw [none_iff ha]; exact q.here R (.bl _)⟩
  · cases ek
theorem op_notnP : OpR X (compareOp .IsNot) (rC X.K .notn) := by
  intro pins s σ H x y v u Q I rx ry h
  obtain ⟨G, da, S, a, b, d, R, ha, hb, e, q⟩ := h
  obtain ⟨k, ek, rfl⟩ := Option.map_eq_some_iff.mp e
  simp only [cmpD] at ek
  split at ek
  · rename_i hn
    cases ek
    exact op_notN pins s σ H x y v u Q I rx ry ⟨non_of hb hn, by rw [none_iff ha]; exact q.here R (.bl _)⟩
  · cases ek
theorem cp_all (c : Cp) (hu : X.A.units + 65 < cLine) : OpR X (compareOp (cpS c)) (rC X.K c) := by
  cases c
  · exact op_eqP (by omega)
  · exact op_neP (by omega)
  · exact op_ltP (by omega)
  · exact op_leP (by omega)
  · exact op_gtP (by omega)
  · exact op_geP (by omega)
  · exact op_inP hu
  · exact op_ninP hu
  · exact op_isnP
  · exact op_notnP
end
end AOne
end

section
set_option Elab.async false
set_option linter.all false
set_option maxRecDepth 100000
set_option maxHeartbeats 1000000
set_option autoImplicit false
/-! A4: built-in functions by values. -/
namespace AOne
open PySem PySem.Spec L2

/-! ### texts of repr are texts -/
def lowC (l : List Nat) : Prop := ∀ c ∈ l, c < 0x110000
theorem strOk_iff (x : Str) : PyData.strOk x = true ↔ lowC x.cps.toList := by
  unfold PyData.strOk lowC
  rw [← Array.all_toList, List.all_eq_true]
  exact ⟨fun h c hc => of_decide_eq_true (h c hc), fun h c hc => decide_eq_true (h c hc)⟩
theorem low_chars (l : List Char) : lowC (l.map Char.toNat) := by
  intro c hc
  obtain ⟨ch, _, rfl⟩ := List.mem_map.mp hc
  have h := ch.valid
  have e : ch.toNat = ch.val.toNat := rfl
  simp only [UInt32.isValidChar, Nat.isValidChar] at h
  omega
theorem strOk_ofString (s : String) : PyData.strOk (Str.ofString s) = true := by
  rw [strOk_iff, Str.ofString_eq_toList]
  simpa using low_chars s.toList
theorem low_append {a b : List Nat} (h : lowC a) (h' : lowC b) : lowC (a ++ b) := fun c hc => (List.mem_append.mp hc).elim (h c) (h' c)
theorem low_reprChar {q c : Nat} (hc : c < 0x110000) : lowC (Builtin.Str.reprChar q c) := by
  have hex : ∀ w : Nat, lowC (List.replicate (w - ((Nat.toDigits 16 c).map Char.toNat).length) 48 ++ (Nat.toDigits 16 c).map Char.toNat) := fun w => by
    refine low_append (fun d hd => ?_) (low_chars _)
    rw [(List.mem_replicate.mp hd).2]; decide
  have two : ∀ d : Nat, d < 0x110000 → lowC [92, d] := fun d hd e he => by
    rcases List.mem_cons.mp he with rfl | he
    · decide
    · rw [List.mem_singleton.mp he]; exact hd
  unfold Builtin.Str.reprChar
  dsimp only
  split
  · exact two c hc
  · split
    · exact two _ (by decide)
    · split
      · exact two _ (by decide)
      · split
        · exact two _ (by decide)
        · split
          · intro d hd; rw [List.mem_singleton.mp hd]; exact hc
          · split
            · exact low_append (two _ (by decide)) (hex 2)
            · split
              · exact low_append (two _ (by decide)) (hex 4)
              · exact low_append (two _ (by decide)) (hex 8)
theorem low_fold {q : Nat} : ∀ (l : List Nat) (acc : Array Nat), lowC l → lowC acc.toList → lowC (l.foldl (fun out c => out ++ (Builtin.Str.reprChar q c).toArray) acc).toList
  | [], acc, _, h => h
  | c :: r, acc, hl, h => by
    refine low_fold r _ (fun d hd => hl d (List.mem_cons_of_mem _ hd)) ?_
    simpa using low_append h (low_reprChar (hl c List.mem_cons_self))
theorem strOk_reprText {x : Str} (h : PyData.strOk x = true) : PyData.strOk (reprText x) = true := by
  rw [strOk_iff] at h ⊢
  have hq : lowC [reprQuote x] := fun d hd => by
    rw [List.mem_singleton.mp hd]
    unfold reprQuote
    split <;> decide
  unfold reprText
  rw [← Array.foldl_toList]
  simpa using low_append (low_fold x.cps.toList #[reprQuote x] h (by simpa using hq)) hq
theorem strOk_textFrom : ∀ (ts : List Str) (k : Nat) (acc : Str), (∀ t ∈ ts, PyData.strOk t = true) → PyData.strOk acc = true → PyData.strOk (textFrom k acc ts) = true
  | [], _, acc, _, h => h
  | t :: r, k, acc, ht, h => by
    unfold textFrom
    refine strOk_textFrom r _ _ (fun u hu => ht u (List.mem_cons_of_mem _ hu)) ?_
    split <;> first
      | exact strOk_append (strOk_append h (strOk_ofString _)) (ht t List.mem_cons_self)
      | exact strOk_append h (ht t List.mem_cons_self)
theorem strOk_join {sep : Str} (hs : PyData.strOk sep = true) : ∀ (ts : List Str), (∀ t ∈ ts, PyData.strOk t = true) → PyData.strOk (Str.join sep ts) = true
  | [], _ => by unfold Str.join; rw [strOk_iff]; intro c hc; simp [Str.empty] at hc
  | [x], h => by unfold Str.join; exact h x List.mem_cons_self
  | x :: y :: r, h => by
    unfold Str.join
    exact strOk_append (strOk_append (h x List.mem_cons_self) hs) (strOk_join hs (y :: r) fun t ht => h t (List.mem_cons_of_mem _ ht))
mutual
theorem strOk_shown : ∀ d : PyData, d.canLay0 = true → PyData.strOk d.shown = true
  | .none, _ => by simp only [PyData.shown]; exact strOk_ofString _
  | .bool b, _ => by simp only [PyData.shown]; split <;> exact strOk_ofString _
  | .int i, _ => by simp only [PyData.shown]; exact strOk_ofString _
  | .str x, h => by
    simp only [PyData.shown]
    exact strOk_reprText (by simpa [PyData.canLay0] using h)
  | .list xs, h => by
    simp only [PyData.shown]
    unfold listText
    exact strOk_append (strOk_textFrom _ _ _ (strOk_shownAll xs (by simpa [PyData.canLay0] using h)) (strOk_ofString _)) (strOk_ofString _)
  | .tuple xs, h => by
    simp only [PyData.shown]
    unfold tupleText
    exact strOk_append (strOk_append (strOk_ofString _) (strOk_join (strOk_ofString _) _ (strOk_shownAll xs (by simpa [PyData.canLay0] using h)))) (strOk_ofString _)
  | .dict _, h => by simp [PyData.canLay0] at h
theorem strOk_shownAll : ∀ ds : List PyData, PyData.canLayAll0 ds = true → ∀ t ∈ PyData.shownAll ds, PyData.strOk t = true
  | [], _, t, ht => by simp [PyData.shownAll] at ht
  | x :: xs, h, t, ht => by
    rw [PyData.canLayAll0, Bool.and_eq_true] at h
    rw [PyData.shownAll] at ht
    rcases List.mem_cons.mp ht with rfl | ht
    · exact strOk_shown x h.1
    · exact strOk_shownAll xs h.2 t ht
end

def rPr (K : PySem.W.Frag) (p : Pr) : List V → Hp → VK → Prop := fun xs H Q => ∃ G da S ds d, RelS K G H da S ∧ RTs K G da xs ds ∧ prD p S ds = some d ∧ Ends1 K G H da S d Q
/-- .. a new list -/
def rPrN (K : PySem.W.Frag) (p : Pr) : List V → Hp → VK → Prop := fun xs H Q => ∃ G da S ds es, RelS K G H da S ∧ RTs K G da xs ds ∧ prD p S ds = some (.lst es) ∧ ∀ q vs, H q = none → RDs K G vs es → Q (.ref q) (upd H q (.lst vs))
section
variable {K : PySem.W.Frag} {G H : Hp} {da : List Addr} {S : Sto}
theorem RTs.one {xs : List V} {d : D} (h : RTs K G da xs [d]) : ∃ x, xs = [x] ∧ RT K G da x d := by
  cases h with | cons h r => cases r; exact ⟨_, rfl, h⟩
theorem RTs.two {xs : List V} {d e : D} (h : RTs K G da xs [d, e]) : ∃ x y, xs = [x, y] ∧ RT K G da x d ∧ RT K G da y e := by
  cases h with | cons h r => cases r with | cons h' r => cases r; exact ⟨_, _, rfl, h, h'⟩
theorem RDs.bools : ∀ {vs : List V} {ds : List D} {bs : List Bool}, RDs K G vs ds → boolsD ds = some bs → vs = bs.map V.bl
  | _, _, _, .nil, e => by simp [boolsD] at e; subst e; rfl
  | _, _, _, .cons (d := d) h r, e => by
    cases d <;> simp only [boolsD, reduceCtorEq] at e
    obtain ⟨cs, e1, rfl⟩ := Option.map_eq_some_iff.mp e
    cases h
    rw [r.bools e1]; rfl
end
section
variable {X : Cx}
theorem call_imp {f : Value} {r r' : List V → Hp → VK → Prop} (h : CallR X f r) (i : ∀ xs H Q, r' xs H Q → r xs H Q) : CallR X f r' := fun pins s σ H xs us Q I rs q => h pins s σ H xs us Q I rs (i xs H Q q)
theorem rPrN_E {K : PySem.W.Frag} {p : Pr} (hp : ∀ S ds d, prD p S ds = some d → ∃ es, d = .lst es) (xs : List V) (H : Hp) (Q : VK) (h : rPr K p xs H Q) : rPrN K p xs H Q := by
  obtain ⟨G, da, S, ds, d, R, r, e, q⟩ := h
  obtain ⟨es, rfl⟩ := hp _ _ _ e
  exact ⟨G, da, S, ds, es, R, r, e, fun p vs hp h => q.lst R h hp⟩
/-- one argument -/
theorem pr_one {p : Pr} {S : Sto} {ds : List D} {d : D} (h0 : prD p S [] = none) (h2 : ∀ a b r, prD p S (a :: b :: r) = none) (e : prD p S ds = some d) : ∃ a, ds = [a] := by
  rcases ds with _ | ⟨a, _ | ⟨b, r⟩⟩
  · rw [h0] at e; cases e
  · exact ⟨a, rfl⟩
  · rw [h2] at e; cases e
theorem cr_len : CallR X (.builtin "len") (rPr X.K .len) := by
  refine call_imp call_len fun xs H Q h => ?_
  obtain ⟨G, da, S, ds, d, R, r, e, q⟩ := h
  obtain ⟨a, rfl⟩ := pr_one (by simp [prD]) (fun _ _ _ => by simp [prD]) e
  simp only [prD] at e
  obtain ⟨x, rfl, ha⟩ := r.one
  revert e
  generalize ea : look S a = a'
  intro e
  cases a' <;> simp only [ea, reduceCtorEq] at e
  · split at e
    · cases e
      rename_i hs
      obtain ⟨rfl, _⟩ := look_str R ha ea
      exact ⟨_, _, rfl, ⟨of_decide_eq_true hs, rfl⟩, q.here R (.int _)⟩
    · cases e
  · cases e
    obtain ⟨p, vs, rfl, h1, _, h2⟩ := look_tup R ha ea
    exact ⟨_, _, rfl, .inr ⟨vs, h1, rfl⟩, by rw [h2.length]; exact q.here R (.int _)⟩
  · cases e
    obtain ⟨p, vs, rfl, h1, h2⟩ := look_lst R ha ea
    exact ⟨_, _, rfl, .inl ⟨vs, h1, rfl⟩, by rw [h2.length]; exact q.here R (.int _)⟩
theorem cr_allP (hc : X.calm = true) : CallR X (.builtin "all") (rPr X.K .all) := by
  refine call_imp (cr_all hc) fun xs H Q h => ?_
  obtain ⟨G, da, S, ds, d, R, r, e, q⟩ := h
  obtain ⟨a, rfl⟩ := pr_one (by simp [prD]) (fun _ _ _ => by simp [prD]) e
  simp only [prD] at e
  obtain ⟨x, rfl, ha⟩ := r.one
  revert e
  generalize ea : look S a = a'
  intro e
  cases a' <;> simp only [ea, reduceCtorEq] at e
  obtain ⟨bs, e1, rfl⟩ := Option.map_eq_some_iff.mp e
  obtain ⟨p, vs, rfl, h1, h2⟩ := look_lst R ha ea
  exact ⟨p, bs, rfl, by rw [← h2.bools e1]; exact h1, q.here R (.bl _)⟩
theorem cr_anyP (hc : X.calm = true) : CallR X (.builtin "any") (rPr X.K .any) := by
  refine call_imp (cr_any hc) fun xs H Q h => ?_
  obtain ⟨G, da, S, ds, d, R, r, e, q⟩ := h
  obtain ⟨a, rfl⟩ := pr_one (by simp [prD]) (fun _ _ _ => by simp [prD]) e
  simp only [prD] at e
  obtain ⟨x, rfl, ha⟩ := r.one
  revert e
  generalize ea : look S a = a'
  intro e
  cases a' <;> simp only [ea, reduceCtorEq] at e
  obtain ⟨bs, e1, rfl⟩ := Option.map_eq_some_iff.mp e
  obtain ⟨p, vs, rfl, h1, h2⟩ := look_lst R ha ea
  exact ⟨p, bs, rfl, by rw [← h2.bools e1]; exact h1, q.here R (.bl _)⟩
theorem cr_tupleP : CallR X (.type "tuple") (rPr X.K .tuple) := by
  refine call_imp call_tuple_of fun xs H Q h => ?_
  obtain ⟨G, da, S, ds, d, R, r, e, q⟩ := h
  obtain ⟨a, rfl⟩ := pr_one (by simp [prD]) (fun _ _ _ => by simp [prD]) e
  simp only [prD] at e
  obtain ⟨x, rfl, ha⟩ := r.one
  revert e
  generalize ea : look S a = a'
  intro e
  cases a' <;> simp only [ea, reduceCtorEq] at e
  · cases e
    obtain ⟨p, vs, rfl, h1, g1, h2⟩ := look_tup R ha ea
    exact ⟨p, vs, rfl, .inr ⟨h1, q.here R (.tup g1 h2)⟩⟩
  · cases e
    obtain ⟨p, vs, rfl, h1, h2⟩ := look_lst R ha ea
    exact ⟨p, vs, rfl, .inl ⟨h1, fun l hl => q.tup R h2 hl⟩⟩
theorem cr_listN : CallR X (.type "list") (rPrN X.K .list) := by
  refine call_imp call_list_of fun xs H Q h => ?_
  obtain ⟨G, da, S, ds, es, R, r, e, q⟩ := h
  obtain ⟨a, rfl⟩ := pr_one (by simp [prD]) (fun _ _ _ => by simp [prD]) e
  simp only [prD] at e
  obtain ⟨x, rfl, ha⟩ := r.one
  revert e
  generalize ea : look S a = a'
  intro e
  cases a' <;> simp only [ea, reduceCtorEq] at e
  · cases e
    obtain ⟨p, vs, rfl, h1, g1, h2⟩ := look_tup R ha ea
    exact ⟨p, vs, rfl, .inr h1, fun l hl => q l vs hl h2⟩
  · cases e
    obtain ⟨p, vs, rfl, h1, h2⟩ := look_lst R ha ea
    exact ⟨p, vs, rfl, .inl h1, fun l hl => q l vs hl h2⟩
theorem cr_intP : CallR X (.type "int") (rPr X.K .int) := by
  refine call_imp call_int1 fun xs H Q h => ?_
  obtain ⟨G, da, S, ds, d, R, r, e, q⟩ := h
  match ds, e with
  | [.int i], e =>
    cases e
    obtain ⟨x, rfl, ha⟩ := r.one
    have ha := ha.rd rfl
    cases ha
    exact .inl ⟨i, rfl, q.here R (.int _)⟩
theorem call_or {f : Value} {r r' : List V → Hp → VK → Prop} (h : CallR X f r) (h' : CallR X f r') : CallR X f (fun xs H Q => r xs H Q ∨ r' xs H Q) := fun pins s σ H xs us Q I rs q => q.elim (h pins s σ H xs us Q I rs) (h' pins s σ H xs us Q I rs)
theorem RDs.ints {K : PySem.W.Frag} {G : Hp} : ∀ {vs : List V} {ds : List D} {is : List Int}, RDs K G vs ds → intsD ds = some is → vs = is.map V.int
  | _, _, _, .nil, e => by simp [intsD] at e; subst e; rfl
  | _, _, _, .cons (d := d) h r, e => by
    cases d <;> simp only [intsD, reduceCtorEq] at e
    obtain ⟨cs, e1, rfl⟩ := Option.map_eq_some_iff.mp e
    cases h
    rw [r.ints e1]; rfl
theorem minL_ok : ∀ {is : List Int}, is ≠ [] → minL is ∈ is ∧ ∀ y ∈ is, minL is ≤ y
  | [], h => absurd rfl h
  | [i], _ => by simp [minL]
  | i :: j :: r, _ => by
    obtain ⟨h1, h2⟩ := minL_ok (is := j :: r) (by simp)
    simp only [minL]
    split
    · refine ⟨List.mem_cons_of_mem _ h1, fun y hy => ?_⟩
      rcases List.mem_cons.mp hy with rfl | hy
      · omega
      · exact h2 y hy
    · refine ⟨List.mem_cons_self, fun y hy => ?_⟩
      rcases List.mem_cons.mp hy with rfl | hy
      · omega
      · have := h2 y hy; omega
theorem maxL_ok : ∀ {is : List Int}, is ≠ [] → maxL is ∈ is ∧ ∀ y ∈ is, y ≤ maxL is
  | [], h => absurd rfl h
  | [i], _ => by simp [maxL]
  | i :: j :: r, _ => by
    obtain ⟨h1, h2⟩ := maxL_ok (is := j :: r) (by simp)
    simp only [maxL]
    split
    · refine ⟨List.mem_cons_of_mem _ h1, fun y hy => ?_⟩
      rcases List.mem_cons.mp hy with rfl | hy
      · omega
      · exact h2 y hy
    · refine ⟨List.mem_cons_self, fun y hy => ?_⟩
      rcases List.mem_cons.mp hy with rfl | hy
      · omega
      · have := h2 y hy; omega
theorem cr_max2P (hc : X.calm = true) : CallR X (.builtin "max") (rPr X.K .max2) := by
  refine call_imp (call_or (call_max2 hc) (cr_max hc)) fun xs H Q h => ?_
  obtain ⟨G, da, S, ds, d, R, r, e, q⟩ := h
  rcases ds with _ | ⟨a, _ | ⟨b, _ | ⟨c, t⟩⟩⟩
  · simp [prD] at e
  rotate_left
  · cases a <;> cases b <;> simp only [prD, reduceCtorEq] at e
    cases e
    obtain ⟨x, y, rfl, ha, hb⟩ := r.two
    have ha := ha.rd rfl
    have hb := hb.rd rfl
    cases ha
    cases hb
    exact .inl ⟨_, _, rfl, q.here R (.int _)⟩
  · simp [prD] at e
  · simp only [prD] at e
    obtain ⟨x, rfl, ha⟩ := r.one
    revert e
    generalize ea : look S a = a'
    intro e
    cases a' <;> simp only [reduceCtorEq] at e
    obtain ⟨is, e1, e2⟩ := Option.bind_eq_some_iff.mp e
    split at e2
    · cases e2
    · rename_i hne
      cases e2
      have hne : is ≠ [] := by simpa using hne
      obtain ⟨p, vs, rfl, h1, h2⟩ := look_lst R ha ea
      rw [h2.ints e1] at h1
      obtain ⟨m1, m2⟩ := maxL_ok hne
      refine .inr ⟨p, is, rfl, h1, List.length_pos_iff.mpr hne, fun m hm hy => ?_⟩
      have : m = maxL is := Int.le_antisymm (m2 m hm) (hy _ m1)
      subst this
      exact q.here R (.int _)
theorem cr_min2P (hc : X.calm = true) : CallR X (.builtin "min") (rPr X.K .min2) := by
  refine call_imp (call_or (call_min2 hc) (cr_min hc)) fun xs H Q h => ?_
  obtain ⟨G, da, S, ds, d, R, r, e, q⟩ := h
  rcases ds with _ | ⟨a, _ | ⟨b, _ | ⟨c, t⟩⟩⟩
  · simp [prD] at e
  rotate_left
  · cases a <;> cases b <;> simp only [prD, reduceCtorEq] at e
    cases e
    obtain ⟨x, y, rfl, ha, hb⟩ := r.two
    have ha := ha.rd rfl
    have hb := hb.rd rfl
    cases ha
    cases hb
    exact .inl ⟨_, _, rfl, q.here R (.int _)⟩
  · simp [prD] at e
  · simp only [prD] at e
    obtain ⟨x, rfl, ha⟩ := r.one
    revert e
    generalize ea : look S a = a'
    intro e
    cases a' <;> simp only [reduceCtorEq] at e
    obtain ⟨is, e1, e2⟩ := Option.bind_eq_some_iff.mp e
    split at e2
    · cases e2
    · rename_i hne
      cases e2
      have hne : is ≠ [] := by simpa using hne
      obtain ⟨p, vs, rfl, h1, h2⟩ := look_lst R ha ea
      rw [h2.ints e1] at h1
      obtain ⟨m1, m2⟩ := minL_ok hne
      refine .inr ⟨p, is, rfl, h1, List.length_pos_iff.mpr hne, fun m hm hy => ?_⟩
      have : m = minL is := Int.le_antisymm (hy _ m1) (m2 m hm)
      subst this
      exact q.here R (.int _)
theorem cr_reprP (hg : X.A.guards = some []) (hu : X.A.units + 66 < cLine) : CallR X (.builtin "repr") (rPr X.K .repr) := by
  intro pins s σ H xs us Q I rs h
  obtain ⟨G, da, S, ds, d, R, r, e, q⟩ := h
  obtain ⟨a, rfl⟩ : ∃ a, ds = [a] := by
    rcases ds with _ | ⟨a, _ | ⟨b, r⟩⟩
    · simp [prD] at e
    · exact ⟨a, rfl⟩
    · simp [prD] at e
  simp only [prD] at e
  obtain ⟨x, rfl, ha⟩ := r.one
  obtain ⟨u, rfl, ru⟩ := vals1 rs
  split at e
  · cases e
  · rename_i hr
    split at e
    · rename_i hs
      cases e
      rw [Bool.and_eq_true, Bool.and_eq_true] at hs
      obtain ⟨⟨h1, h2⟩, h3⟩ := hs
      have h2 : (look S a).py.depth ≤ 64 := of_decide_eq_true h2
      have h3 : (look S a).py.shown.length ≤ sizeLine := of_decide_eq_true h3
      have rd := look_rd R ha (by simpa using hr)
      have ok := strOk_shown _ rd.lay
      obtain ⟨as, rr⟩ := Dp.reads I _ x u rd.dp ru
      have fin : ∀ (h' : Heap) (t : Tok) (tk : Nat), (∀ b o, s.heap.get? b = some o → h'.get? b = some o) → EP X pins σ Q (.str (look S a).py.shown t) { s with heap := h', toks := tk } := fun h' t tk hk =>
        ⟨.str _, H, I.kept hk, ⟨t, rfl⟩, q.here R (.str _ ok)⟩
      revert rr h1 h2 h3 fin ru
      have nd := PyData.hasDict_of_canLay _ rd.lay
      generalize look S a = a' at rd nd
      intro ru h1 h2 h3 rr fin
      cases rd with
      | non =>
        cases ru
        simp only [D.py, PyData.shown] at fin
        exact PySem.P.repr_of_none (fin s.heap _ _ fun _ _ e => e)
      | bl b =>
        cases ru
        simp only [D.py, PyData.shown] at fin
        exact PySem.P.repr_of_bool (fin s.heap _ _ fun _ _ e => e)
      | int i =>
        obtain ⟨t, rfl⟩ := ru
        simp only [D.py, PyData.shown, PyData.showable] at fin h1
        exact PySem.P.repr_of_int (of_decide_eq_true h1) (fin s.heap _ _ fun _ _ e => e)
      | str y hy =>
        obtain ⟨t, rfl⟩ := ru
        simp only [D.py, PyData.shown] at fin h3
        exact PySem.P.repr_of_str (fin s.heap _ _ fun _ _ e => e) h3
      | tup q1 q2 =>
        cases ru
        exact repr_of_reads' rr h1 (PyData.noDict_hsm nd) hg (by omega) (fun _ _ e => e) (fun h' t tk hk => fin h' t tk hk) h3
      | lst q1 q2 =>
        cases ru
        exact repr_of_reads' rr h1 (PyData.noDict_hsm nd) hg (by omega) (fun _ _ e => e) (fun h' t tk hk => fin h' t tk hk) h3
    · cases e
end
end AOne
end

section
set_option Elab.async false
set_option linter.all false
set_option maxRecDepth 100000
set_option maxHeartbeats 1000000
set_option autoImplicit false
/-! A5: from the program's text to the core language. -/
namespace AOne
open PySem PySem.Spec L2

/-- how a def is called: so many by place, these by name; where each parameter's value is found among both and the defaults -/
structure Pat where
  n : Nat
  ks : List Str
  perm : List Nat
structure DefI where
  name : Str
  ps : List Str
  dfl : List D
  pats : List Pat
structure CC where
  N : List Str
  tab : List DefI
  gl : List (Str × D)
  mu : List Nat
  su : Bool
  ev : Str
  cl : List (Str × Nat)
  ki : List (Str × (List Nat × List Str))
  hr : List (Str × (Nat × Str))
  lm : Option (Nat × List Str)
  ct : List Value
def CC.nolam (c : CC) : CC := { c with hr := [], lm := none }

def slotOf (c : CC) (x : Str) : Option Nat := c.N.findIdx? (fun y => decide (y = x))
def visB (sc : Scope) (x : Str) : Bool := match sc.names.lookup x with
  | some .local => true
  | some .cell => true
  | some .free => true
  | _ => false
def locB (sc : Scope) (x : Str) : Bool := match sc.names.lookup x with
  | some .local => true
  | some .cell => true
  | _ => false
def glB (sc : Scope) (x : Str) : Bool := match sc.names.lookup x with
  | some .globalImplicit => true
  | _ => false
/-- may be stored in the block whose own scope is rs -/
def stoB (sc : Scope) (rs : Option Scope) (x : Str) : Bool := match rs with
  | none => true
  | some s => decide (s.names.lookup x = some .cell) || decide (sc.names.lookup x = some .local)
def okName (x : Str) : Bool := !(x == ("__debug__" : Str)) && !(x == ("__classdict__" : Str))
def plainE : Expr → Bool
  | .Starred _ _ => false
  | _ => true
def notSet : Expr → Bool
  | .Set _ _ _ => false
  | _ => true
def notSlice : Expr → Bool
  | .Slice _ _ _ _ => false
  | _ => true
def opOf : Operator → Option Op2
  | .Add => some .add
  | .Sub => some .sub
  | .Mult => some .mul
  | .FloorDiv => some .fdiv
  | .Mod => some .md
  | .Pow => some .pw
  | _ => none
def cpOf : CmpOp → Option Cp
  | .Eq => some .eq
  | .NotEq => some .ne
  | .Lt => some .lt
  | .LtE => some .le
  | .Gt => some .gt
  | .GtE => some .ge
  | .In => some .inn
  | .NotIn => some .nin
  | .Is => some .isn
  | .IsNot => some .notn
def tyOf (x : Str) : Option Ty :=
  if x = ("str" : Str) then some .tstr else if x = ("int" : Str) then some .tint else if x = ("bool" : Str) then some .tbool
  else if x = ("tuple" : Str) then some .ttuple else if x = ("list" : Str) then some .tlist else none
def prOf (x : Str) : Option Pr :=
  if x = ("len" : Str) then some .len else if x = ("all" : Str) then some .all else if x = ("any" : Str) then some .any
  else if x = ("tuple" : Str) then some .tuple else if x = ("list" : Str) then some .list else if x = ("sorted" : Str) then some .sorted
  else if x = ("int" : Str) then some .int else if x = ("min" : Str) then some .min2 else if x = ("repr" : Str) then some .repr else if x = ("max" : Str) then some .max2 else none
/-- the block's own names and their slots -/
def ownOf (c : CC) (scope : Scope) : List (Str × Nat) := scope.names.filterMap fun y => match y.2 with
  | .local => (slotOf c y.1).map fun i => (y.1, i)
  | .cell => (slotOf c y.1).map fun i => (y.1, i)
  | _ => none
def findDef (tab : List DefI) (x : Str) : Option (Nat × DefI) := match tab.findIdx? (fun d => decide (d.name = x)) with
  | some i => (tab[i]?).map fun d => (i, d)
  | none => none
def findPat (d : DefI) (n : Nat) (ks : List Str) : Option Pat := d.pats.find? fun p => decide (p.n = n) && decide (p.ks = ks)
def kwNames (kws : List Keyword) : Option (List Str) := kws.mapM fun k => k.arg
def strKeys : List (Option Expr) → Option (List Str)
  | [] => some []
  | some (.Constant (.str x) _ _) :: r => if PyData.strOk x then (strKeys r).map (x :: ·) else none
  | _ :: _ => none

mutual
def compG (c : CC) (sc : Scope) (rs : Option Scope) : Nat → Expr → Option Tg
  | 0, _ => none
  | n + 1, .Name x _ => if locB sc x && stoB sc rs x then (slotOf c x).map .name else none
  | n + 1, .Tuple es _ _ => if c.su then none else (compGs c sc rs n es).map .tup
  | _ + 1, _ => none
def compGs (c : CC) (sc : Scope) (rs : Option Scope) : Nat → List Expr → Option Tg
  | 0, _ => none
  | _ + 1, [] => some .nil
  | n + 1, e :: es => if plainE e then match compG c sc rs n e, compGs c sc rs n es with
    | some a, some r => some (.cons a r)
    | _, _ => none
    else none
end

/-- the compiler of the parts, one level below -/
structure Rc where
  e : Scope → Expr → Option Tm
  b : Scope → BoolOp → List Expr → Option Tm
  a : Scope → List Expr → Option Tm
  k : Scope → List Keyword → Option Tm
  o : Scope → Option Expr → Option Tm
  t : Scope → List Expr → Option Tm
  i : Scope → Expr → Expr → Option Tm
  d : Scope → List Expr → Option Tm
  f : Scope → List Expr → Option Tm

def cName (c : CC) (sc : Scope) (x : Str) : Option Tm := if !okName x then none else if visB sc x then (slotOf c x).map .var else if glB sc x then (c.gl.lookup x).map .cst else none
def cConst (k : Const) : Option Tm := match k with
  | .int i => some (.cst (.int i))
  | .bool b => some (.cst (.bl b))
  | .none => some (.cst .non)
  | .str x => if PyData.strOk x then some (.cst (.str x)) else none
  | _ => none
/-- [..] * n -/
def isDisp : Expr → Bool
  | .List _ _ => true
  | _ => false
def repOf (o : Operator) (a b : Expr) : Option Nat := match o, b with
  | .Mult, .Constant (.int n) _ _ => if isDisp a && decide (0 ≤ n) then some n.toNat else none
  | _, _ => none
def cBin (R : Rc) (sc : Scope) (a : Expr) (o : Operator) (b : Expr) : Option Tm := match repOf o a b with
  | some n => match R.e sc a with
    | some (.lst t) => some (.rep (.lst t) n)
    | _ => none
  | none => match opOf o, R.e sc a, R.e sc b with
    | some o, some a, some b => some (.op o a b)
    | _, _, _ => none
def cUn (R : Rc) (sc : Scope) (o : UnaryOp) (a : Expr) : Option Tm := match o, R.e sc a with
  | .Not, some a => some (.nott a)
  | .USub, some a => some (.neg a)
  | _, _ => none
def cIf (R : Rc) (sc : Scope) (t a b : Expr) : Option Tm := match R.e sc t, R.e sc a, R.e sc b with
  | some t, some a, some b => some (.ite t a b)
  | _, _, _ => none
def cCmp1 (R : Rc) (sc : Scope) (a : Expr) (o : CmpOp) (b : Expr) : Option Tm := if !notSet b then none else match cpOf o, R.e sc a, R.e sc b with
  | some o, some a, some b => some (.cmp o a b)
  | _, _, _ => none
def cCmp2 (R : Rc) (sc : Scope) (a : Expr) (o : CmpOp) (b : Expr) (p : CmpOp) (d : Expr) : Option Tm := if !(notSet b && notSet d) then none else match cpOf o, cpOf p, R.e sc a, R.e sc b, R.e sc d with
  | some o, some p, some a, some b, some d => some (.chain o p a b d)
  | _, _, _, _, _ => none
def cCmp (R : Rc) (sc : Scope) (a : Expr) (ops : List CmpOp) (bs : List Expr) : Option Tm := match ops, bs with
  | [o], [b] => cCmp1 R sc a o b
  | [o, p], [b, d] => cCmp2 R sc a o b p d
  | _, _ => none
def cSlc (R : Rc) (sc : Scope) (v : Expr) (lo hi : Option Expr) : Option Tm := match R.e sc v, R.o sc lo, R.o sc hi with
  | some v, some l, some h => some (.slc v l h)
  | _, _, _ => none
def cIx (R : Rc) (sc : Scope) (v i : Expr) : Option Tm := if !notSlice i then none else match R.e sc v, R.e sc i with
  | some v, some i => some (.ix v i)
  | _, _ => none
def cSub (R : Rc) (sc : Scope) (v i : Expr) : Option Tm := match i with
  | .Slice none none (some (.UnaryOp .USub (.Constant (.int 1) _ _) _)) _ => (R.e sc v).map .rev
  | .Slice lo hi none _ => cSlc R sc v lo hi
  | .Tuple es _ _ => match R.e sc v, R.a sc es with
    | some v, some a => some (.ixt v a)
    | _, _ => none
  | i => cIx R sc v i
def cDef (R : Rc) (sc : Scope) (k : Nat) (d : DefI) (args : List Expr) (kws : List Keyword) : Option Tm := match kwNames kws with
  | none => none
  | some ks => match findPat d args.length ks with
    | none => none
    | some p => match R.f sc args, R.k sc kws with
      | some a, some b => some (.call k p.perm d.dfl a b)
      | _, _ => none
/-- isinstance(error, C) in a suite -/
def cIsx (c : CC) (sc : Scope) (args : List Expr) : Option Tm := match args with
  | [.Name x _, .Name t _] => if decide (x = c.ev) && visB sc x && glB sc t then match slotOf c x, c.cl.lookup t with
    | some i, some j => some (.isx i j)
    | _, _ => none
    else none
  | _ => none
def cIsi (R : Rc) (sc : Scope) (args : List Expr) : Option Tm := match args with
  | [e, .Name t _] => if glB sc t && plainE e then match tyOf t, R.e sc e with
    | some ty, some e => some (.pr (.isi ty) (.cons e .nil))
    | _, _ => none
    else none
  | _ => none
def cPrim (R : Rc) (sc : Scope) (f : Str) (args : List Expr) : Option Tm := match args with
  | [] => none
  | _ :: _ => match prOf f, R.a sc args with
    | some p, some a => some (.pr p a)
    | _, _ => none
/-- set(e) as an argument -/
def isSetCall (args : List Expr) : Option Expr := match args with
  | [.Call (.Name g _) [e] [] _] => if g = ("set" : Str) then some e else none
  | _ => none
def cSS (R : Rc) (sc : Scope) (e : Expr) : Option Tm := if glB sc "set" && plainE e then (R.e sc e).map fun e => .pr .ssorted (.cons e .nil) else none
def cBlt (R : Rc) (sc : Scope) (f : Str) (args : List Expr) : Option Tm :=
  if f = ("isinstance" : Str) then cIsi R sc args
  else if f = ("sorted" : Str) then match isSetCall args with
    | some e => cSS R sc e
    | none => cPrim R sc f args
  else cPrim R sc f args
/-- no parameters -/
def emptyP (p : Arguments) : Bool := p.posonlyargs.isEmpty && p.args.isEmpty && p.vararg.isNone && p.kwonlyargs.isEmpty && p.kw_defaults.isEmpty && p.kwarg.isNone && p.defaults.isEmpty
/-- x(lambda: body) -/
def cLam (c : CC) (R : Rc) (sc : Scope) (f : Str) (args : List Expr) : Option Tm := match args with
  | [.Lambda params body scope _] => match c.hr.lookup f, c.lm with
    | some (h, told), some (n, q) => if !c.su && emptyP params && LamX.lamSB sc scope && PyData.strOk told then (R.e scope body).map (.heard n q told h) else none
    | _, _ => none
  | _ => none
def cCall (c : CC) (R RL : Rc) (sc : Scope) (f : Str) (args : List Expr) (kws : List Keyword) : Option Tm := if !(glB sc f && okName f) then none else match findDef c.tab f with
  | some (k, d) => if c.su then none else cDef R sc k d args kws
  | none => match kws with
    | _ :: _ => none
    | [] => if c.su then (if f = ("isinstance" : Str) then cIsx c sc args else none) else match cLam c RL sc f args with
      | some t => some t
      | none => cBlt R sc f args
def cLc1 (c : CC) (n : Nat) (R : Rc) (sc scope : Scope) (elt tg iter : Expr) (ifs : List Expr) : Option Tm := if !(!c.su && notSet iter && blkC c.N sc scope (ownOf c scope)) then none else
  match R.i sc tg iter, compG c (relS scope sc) (some scope) n tg, R.t (relS scope sc) ifs, R.e (relS scope sc) elt with
  | some it, some g, some t, some e => if (slots g).all (fun i => decide (i ∈ (ownOf c scope).map (·.2))) then some (.lc ((ownOf c scope).map (·.2)) g it t e) else none
  | _, _, _, _ => none
def cLc2 (c : CC) (n : Nat) (R : Rc) (sc scope : Scope) (elt tg iter : Expr) (ifs : List Expr) (tg' iter' : Expr) (ifs' : List Expr) : Option Tm := if !(!c.su && notSet iter && notSet iter' && blkC c.N sc scope (ownOf c scope)) then none else
  match R.i sc tg iter, compG c (relS scope sc) (some scope) n tg, R.t (relS scope sc) ifs, R.i (relS scope sc) tg' iter', compG c (relS scope sc) (some scope) n tg', R.t (relS scope sc) ifs', R.e (relS scope sc) elt with
  | some it, some g, some t, some it', some g', some t', some e =>
    if (slots g).all (fun i => decide (i ∈ (ownOf c scope).map (·.2))) && (slots g').all (fun i => decide (i ∈ (ownOf c scope).map (·.2))) then
      some (.lcc ((ownOf c scope).map (·.2)) (slots g') g it t g' it' t' e) else none
  | _, _, _, _, _, _, _ => none
def cLc (c : CC) (n : Nat) (R : Rc) (sc scope : Scope) (elt : Expr) (gens : List Comprehension) : Option Tm := match gens with
  | [⟨tg, iter, ifs, 0⟩] => cLc1 c n R sc scope elt tg iter ifs
  | [⟨tg, iter, ifs, 0⟩, ⟨tg', iter', ifs', 0⟩] => cLc2 c n R sc scope elt tg iter ifs tg' iter' ifs'
  | _ => none
def cDct (R : Rc) (sc : Scope) (keys : List (Option Expr)) (values : List Expr) : Option Tm := if keys.isEmpty && values.isEmpty then some .dnt else match strKeys keys, R.a sc values with
  | some ks, some a => if decide (ks.length = values.length) && decide (0 < ks.length) && decide (ks.length ≤ 15) && decide ks.Nodup then some (.dct ks a) else none
  | _, _ => none
/-- x.pop(), x.count(a), x.get(a, []) -/
def emptyL : Expr → Bool
  | .List [] _ => true
  | _ => false
def cMeth (c : CC) (R : Rc) (sc : Scope) (o : Expr) (m : Str) (ap : Pos) (args : List Expr) (kws : List Keyword) (cp : Pos) : Option Tm := match o, kws with
  | .Name x _, [] => if !(visB sc x && okName x && (ap.endLine == cp.line)) then none else match slotOf c x with
    | none => none
    | some i => match args with
      | [] => if m = ("pop" : Str) then some (.popl (.var i)) else none
      | [a] => if m = ("count" : Str) && plainE a then (R.e sc a).map (.cnt (.var i)) else none
      | [a, b] => if m = ("get" : Str) && plainE a && emptyL b then (R.e sc a).map (.gett (.var i)) else none
      | _ => none
  | _, _ => none
def stepE (c : CC) (n : Nat) (R RL : Rc) (sc : Scope) (ex : Expr) : Option Tm := match ex with
  | .Name x _ => cName c sc x
  | .Constant k _ _ => cConst k
  | .BinOp a o b _ => cBin R sc a o b
  | .UnaryOp o a _ => cUn R sc o a
  | .BoolOp o vs _ => match vs with
    | e1 :: e2 :: es => R.b sc o (e1 :: e2 :: es)
    | _ => none
  | .IfExp t a b _ => cIf R sc t a b
  | .Compare a ops bs _ => cCmp R sc a ops bs
  | .Tuple es _ _ => (R.d sc es).map .tup
  | .List es _ => (R.d sc es).map .lst
  | .Subscript v i _ => cSub R sc v i
  | .Call fe args kws cp => match fe with
    | .Name f _ => cCall c R RL sc f args kws
    | .Attribute o m ap => cMeth c R sc o m ap args kws cp
    | _ => none
  | .ListComp elt gens scope _ => cLc c n RL sc scope elt gens
  | .Attribute o f _ => match o with
    | .Name x _ => if c.su && decide (x = c.ev) && visB sc x then (slotOf c x).map fun i => .fld i f else none
    | _ => none
  | .Dict keys values _ => cDct R sc keys values
  | _ => none
def stepB (R : Rc) (sc : Scope) (o : BoolOp) (vs : List Expr) : Option Tm := match vs with
  | [] => none
  | [e] => R.e sc e
  | e :: e' :: es => match R.e sc e, R.b sc o (e' :: es) with
    | some a, some b => some (match o with | .And => .andd a b | .Or => .orr a b)
    | _, _ => none
def stepA (R : Rc) (sc : Scope) (vs : List Expr) : Option Tm := match vs with
  | [] => some .nil
  | e :: es => if plainE e then match R.e sc e, R.a sc es with
    | some a, some r => some (.cons a r)
    | _, _ => none
    else none
/-- a list that is handed on is changed no more -/
def frz1 (c : CC) (t : Tm) : Tm := match t with
  | .var i => if i ∈ c.mu then .frz (.var i) else .var i
  | t => t
def stepF (c : CC) (R : Rc) (sc : Scope) (vs : List Expr) : Option Tm := match vs with
  | [] => some .nil
  | e :: es => if plainE e then match R.e sc e, R.f sc es with
    | some a, some r => some (.cons (frz1 c a) r)
    | _, _ => none
    else none
def starOf : Expr → Option Expr
  | .Starred e _ => some e
  | _ => none
def stepD (R : Rc) (sc : Scope) (vs : List Expr) : Option Tm := match vs with
  | [] => some .nil
  | e :: es => match starOf e with
    | some x => match R.e sc x, R.d sc es with
      | some a, some r => some (.star a r)
      | _, _ => none
    | none => match R.e sc e, R.d sc es with
      | some a, some r => some (.cons a r)
      | _, _ => none
def stepK (R : Rc) (sc : Scope) (kws : List Keyword) : Option Tm := match kws with
  | [] => some .nil
  | k :: ks => match R.e sc k.value, R.k sc ks with
    | some a, some r => some (.cons a r)
    | _, _ => none
def stepO (R : Rc) (sc : Scope) (oe : Option Expr) : Option Tm := match oe with
  | none => some .nop
  | some e => (R.e sc e).map fun a => .cons a .nil
def stepT (R : Rc) (sc : Scope) (ifs : List Expr) : Option Tm := match ifs with
  | [] => some (.cst (.bl true))
  | [e] => R.e sc e
  | _ => none
def cRng (R : Rc) (sc : Scope) (args : List Expr) : Option Tm := match args with
  | [_] => (R.a sc args).map .irange
  | [_, _] => (R.a sc args).map .irange
  | _ => none
def isTupE : Expr → Bool
  | .Tuple _ _ _ => true
  | _ => false
def cZip (R : Rc) (sc : Scope) (tg : Expr) (args : List Expr) : Option Tm := match args with
  | [a, b] => if plainE a && plainE b && isTupE tg then match R.e sc a, R.e sc b with
    | some a, some b => some (.izip a b)
    | _, _ => none
    else none
  | _ => none
def cEnum (R : Rc) (sc : Scope) (tg : Expr) (args : List Expr) : Option Tm := match args with
  | [a] => if plainE a && isTupE tg then (R.e sc a).map .ienum else none
  | _ => none
/-- a walk's own forms -/
inductive IK where
  | rng | zip | enum | val
def iterKind (c : CC) (sc : Scope) (f : Str) (kws : List Keyword) : IK := match findDef c.tab f with
  | some _ => .val
  | none => match kws with
    | _ :: _ => .val
    | [] => if !glB sc f then .val else if f = ("range" : Str) then .rng else if f = ("zip" : Str) then .zip else if f = ("enumerate" : Str) then .enum else .val
def stepI (c : CC) (R : Rc) (sc : Scope) (tg ex : Expr) : Option Tm := match ex with
  | .Call fe args kws q => match fe with
    | .Name f p => match iterKind c sc f kws with
      | .rng => cRng R sc args
      | .zip => cZip R sc tg args
      | .enum => cEnum R sc tg args
      | .val => (R.e sc (.Call (.Name f p) args kws q)).map .ival
    | fe => (R.e sc (.Call fe args kws q)).map .ival
  | ex => (R.e sc ex).map .ival
def rc : CC → Nat → Rc
  | _, 0 => ⟨fun _ _ => none, fun _ _ _ => none, fun _ _ => none, fun _ _ => none, fun _ _ => none, fun _ _ => none, fun _ _ _ => none, fun _ _ => none, fun _ _ => none⟩
  | c, n + 1 => ⟨stepE c n (rc c n) (rc c.nolam n), stepB (rc c n), stepA (rc c n), stepK (rc c n), stepO (rc c n), stepT (rc c n), stepI c (rc c n), stepD (rc c n), stepF c (rc c n)⟩
abbrev comp (c : CC) (n : Nat) : Scope → Expr → Option Tm := (rc c n).e

/-- a text that makes a new list -/
def freshE : Tm → Bool
  | .lst _ => true
  | .lc _ _ _ _ _ => true
  | .pr .list _ => true
  | .pr .sorted _ => true
  | .op .add _ _ => true
  | _ => false
def wrapM (c : CC) (i : Nat) (t : Tm) : Option Tm := if i ∈ c.mu then (if freshE t then some (.fresh t) else none) else some (frz1 c t)

/-- the names of a row of targets -/
def namesOf : List Expr → Option (List Str)
  | [] => some []
  | .Name x _ :: r => (namesOf r).map (x :: ·)
  | _ :: _ => none
def compAM (c : CC) (n : Nat) (sc : Scope) : List Nat → List Expr → Option Tm
  | [], [] => some .nil
  | i :: is, e :: es => if plainE e then match comp c n sc e with
    | none => none
    | some t => match wrapM c i t, compAM c n sc is es with
      | some a, some r => some (.cons a r)
      | _, _ => none
    else none
  | _, _ => none
/-- how the stores of a, b = x, y stand: none, or the names that are stored from the right (as the model's own words say for this scope) -/
def swapB (sc : Scope) (ts vs : List Expr) : Option Bool :=
  if !(ts.length == 2 || ts.length == 3) || vs.length != ts.length then some false
  else if vs.any fun | .Starred .. => true | _ => false then some false
  else
    let line := (ts.head?.map (·.pos.line)).getD 0
    let names := ts.filterMap fun
      | .Name id pos => if sc.names.lookup id == some .local && pos.line == line then some id else none
      | _ => none
    if names.length != ts.length || names.eraseDups.length != names.length then some false
    else if vs.all (foldedForSure 8) then some false
    else if vs.all (constantsAlone 8) then none
    else some true
def notComp : Expr → Bool
  | .ListComp _ _ _ _ => false
  | .SetComp _ _ _ _ => false
  | .DictComp _ _ _ _ _ => false
  | _ => true

/-! statements -/
def cExprS (c : CC) (n : Nat) (sc : Scope) (e : Expr) : Option Sm := match e with
  | .Call (.Name f p) args kws q => (comp c n sc (.Call (.Name f p) args kws q)).map .drop
  | _ => none
/-- x.append(a), x.pop(a) on one line -/
def methOf (m : Str) (sc : Scope) (e : Expr) : Option (Str × Expr) := match e with
  | .Call (.Attribute (.Name x _) m' ap) [a] [] cp => if m' = m && visB sc x && okName x && plainE a && (ap.endLine == cp.line) then some (x, a) else none
  | _ => none
def cApp (c : CC) (n : Nat) (sc : Scope) (x : Str) (a : Expr) : Option Sm := match slotOf c x with
  | none => none
  | some i => match methOf "pop" sc a with
    | some (y, b) => match slotOf c y, comp c n sc b with
      | some j, some b => some (.popapp (.var i) (.var j) b)
      | _, _ => none
    | none => (comp c n sc a).map fun a => .app (.var i) a
def cExt (c : CC) (n : Nat) (sc : Scope) (x : Str) (a : Expr) : Option Sm := match slotOf c x, comp c n sc a with
  | some i, some t => if freshE t then some (.ext (.var i) t) else none
  | _, _ => none
def cExpr (c : CC) (n : Nat) (sc : Scope) (e : Expr) : Option Sm := match methOf "append" sc e with
  | some (x, a) => cApp c n sc x a
  | none => match methOf "extend" sc e with
    | some (x, a) => cExt c n sc x a
    | none => cExprS c n sc e
def cSetN (c : CC) (n : Nat) (sc : Scope) (x : Str) (v : Expr) : Option Sm := if !(locB sc x) then none else match slotOf c x, comp c n sc v with
  | some i, some t => (wrapM c i t).map fun t => .asg (.name i) t
  | _, _ => none
def cPar (c : CC) (n : Nat) (sc : Scope) (ts vs : List Expr) : Option Sm := match namesOf ts with
  | none => none
  | some xs => match xs.mapM (slotOf c) with
    | none => none
    | some is => if !(!c.su && xs.all (locB sc) && decide is.Nodup && decide (is.length ≤ 100)) then none else match swapB sc ts vs, compAM c n sc is vs with
      | some _, some a => some (.par is a)
      | _, _ => none
def cSetT (c : CC) (n : Nat) (sc : Scope) (tg v : Expr) : Option Sm := if !(notComp v) then none else match compG c sc none n tg, comp c n sc v with
  | some g, some t => some (.asg g t)
  | _, _ => none
def isTupV : Expr → Option (List Expr)
  | .Tuple vs _ _ => some vs
  | _ => none
def cSetKT (c : CC) (n : Nat) (sc : Scope) (o v : Expr) (es : List Expr) : Option Sm := if !(notComp v) then none else match comp c n sc v, comp c n sc o, (rc c n).a sc es with
  | some v, some o, some k => some (.setkt o k v)
  | _, _, _ => none
def cSetK (c : CC) (n : Nat) (sc : Scope) (o k v : Expr) : Option Sm := match isTupV k with | some es => cSetKT c n sc o v es | none => if !(notComp v && notSlice k) then none else match comp c n sc v, comp c n sc o, comp c n sc k with
  | some v, some o, some k => some (.setk o k v)
  | _, _, _ => none
def cAsg (c : CC) (n : Nat) (sc : Scope) (tg v : Expr) : Option Sm := match tg with
  | .Name x _ => cSetN c n sc x v
  | .Tuple ts k p => match isTupV v with
    | some vs => cPar c n sc ts vs
    | none => cSetT c n sc (.Tuple ts k p) v
  | .Subscript o k _ => cSetK c n sc o k v
  | _ => none
def stepS (c : CC) (n : Nat) (Ss : Scope → List Stmt → Option Sm) (sc : Scope) (st : Stmt) : Option Sm := match st with
  | .Pass _ => some .skip
  | .Break _ => some .brk
  | .Continue _ => some .cont
  | .Raise oe ca _ => match oe, ca with
    | some (.Call (.Name x _) [e1, e2] [] _), none => match c.ki.lookup x with
      | some (kin, fs) => if c.su || !(glB sc x && okName x && plainE e1 && plainE e2 && decide (fs.length = 2)) then some .never else match (rc c n).a sc [e1, e2] with
        | some a => some (.raise kin fs a)
        | none => some .never
      | none => some .never
    | _, _ => some .never
  | .Try body hs orelse fin _ => match hs, orelse, fin with
    | _ :: _, [], [] => if c.su then none else (Ss sc body).map .tryt
    | _, _, _ => none
  | .Return oe _ => match oe with
    | some e => (comp c n sc e).map .ret
    | none => some .retn
  | .If t a b _ => match comp c n sc t, Ss sc a, Ss sc b with
    | some t, some a, some b => some (.ite t a b)
    | _, _, _ => none
  | .For tg it body orelse _ => match orelse with
    | [] => if !(!c.su && notSet it) then none else match (rc c n).i sc tg it, compG c sc none n tg, Ss sc body with
      | some i, some g, some b => some (.forr g i b)
      | _, _, _ => none
    | _ :: _ => none
  | .Expr e _ => cExpr c n sc e
  | .AnnAssign tg _ ov _ _ => match tg, ov with
    | .Name x _, some v => if notComp v then cSetN c n sc x v else none
    | _, _ => none
  | .While t body orelse _ => match orelse with
    | [] => match comp c n sc t, Ss sc body with
      | some t, some b => some (.whl 200000 t b)
      | _, _ => none
    | _ :: _ => none
  | .Assign tgs v _ => match tgs with
    | [tg] => cAsg c n sc tg v
    | _ => none
  | _ => none
structure Rs where
  s : Scope → Stmt → Option Sm
  ss : Scope → List Stmt → Option Sm
/-- v.setdefault(a, []).append(b) -/
def foe1 (v a b : Str) (st : Stmt) : Bool := match st with
  | .Expr (.Call (.Attribute (.Call (.Attribute (.Name x _) m ap) [.Name y _, .List [] _] [] cp) m2 ap2) [.Name z _] [] cp2) _ =>
    decide (m = ("setdefault" : Str)) && decide (m2 = ("append" : Str)) && decide (x = v) && decide (y = a) && decide (z = b) && (ap.endLine == cp.line) && (ap2.endLine == cp2.line)
  | _ => false
def cFoes (c : CC) (n : Nat) (sc : Scope) (s1 s2 : Stmt) : Option Sm := match s1, s2 with
  | .Assign [.Name v _] (.Dict [] [] _) _, .For (.Tuple [.Name a pa, .Name b pb] k pt) it [e1, e2] [] _ =>
    if !(!c.su && notSet it && foe1 v a b e1 && foe1 v b a e2 && locB sc v && locB sc a && locB sc b && okName v && okName a && okName b) then none else
    match slotOf c v, slotOf c a, slotOf c b, (rc c n).i sc (.Tuple [.Name a pa, .Name b pb] k pt) it with
    | some i, some j, some l, some t => some (.foes i j l t)
    | _, _, _, _ => none
  | _, _ => none
def stepSs (c : CC) (n : Nat) (R : Rs) (sc : Scope) (sts : List Stmt) : Option Sm := match sts with
  | [] => some .skip
  | s :: ss => match (match ss with | [] => none | s2 :: _ => cFoes c n sc s s2) with
    | some a => (R.ss sc ss.tail).map (.seq a)
    | none => match R.s sc s, R.ss sc ss with
      | some a, some b => some (.seq a b)
      | _, _ => none
def rsc (c : CC) : Nat → Rs
  | 0 => ⟨fun _ _ => none, fun _ _ => none⟩
  | n + 1 => ⟨stepS c n (rsc c n).ss, stepSs c n (rsc c n)⟩
abbrev compSs (c : CC) (n : Nat) : Scope → List Stmt → Option Sm := (rsc c n).ss
end AOne
end

section
set_option Elab.async false
set_option linter.all false
set_option maxRecDepth 100000
set_option maxHeartbeats 1000000
set_option autoImplicit false
/-! A6: readings of the parts, put together. -/
namespace AOne
open PySem PySem.Spec L2

section
variable {K : PySem.W.Frag} {C : Call} {σ : L2.St} {H : Hp} {Q : VK}
theorem rd_var {i : Nat} (h : rdE K C (.var i) σ H Q) : tVar i σ H Q := by
  obtain ⟨G, da, S, r, d, S', R, E, e, q⟩ := h
  simp only [sem] at e
  split at e
  · rename_i d' hd
    cases e
    obtain ⟨v, h1, h2⟩ := E.val i d hd
    exact ⟨v, h1, q v H G da .refl R h2⟩
  · cases e
theorem rd_cst {d : D} {v : V} (hv : ∀ G, RD K G v d) (h : rdE K C (.cst d) σ H Q) : tC v σ H Q := by
  obtain ⟨G, da, S, r, d', S', R, E, e, q⟩ := h
  simp only [sem] at e
  cases e
  exact q v H G da .refl R (.inl (hv G))
/-- one after the other -/
theorem rd2 {a b : Tm} {G : Hp} {da : List Addr} {S S1 S2 : Sto} {r : Ev} {x y : D} {Z : V → V → Hp → Prop} (R : RelS K G H da S) (E : RelE K G da σ r) (ea : sem C a r S = some (x, S1)) (eb : sem C b r S1 = some (y, S2))
    (q : ∀ v u H' G' da', Grow G H da G' H' da' → RelS K G' H' da' S2 → RT K G' da' v x → RT K G' da' u y → Z v u H') : rdE K C a σ H fun v H1 => rdE K C b σ H1 fun u H2 => Z v u H2 := by
  refine ⟨G, da, S, r, x, S1, R, E, ea, fun v H1 G1 da1 g1 R1 h1 => ⟨G1, da1, S1, r, y, S2, R1, E.mono g1, eb, fun u H2 G2 da2 g2 R2 h2 => ?_⟩⟩
  exact q v u H2 G2 da2 (g1.trans g2) R2 (h1.mono g2) h2
theorem rd1 {a : Tm} {G : Hp} {da : List Addr} {S S1 : Sto} {r : Ev} {x : D} {Z : V → Hp → Prop} (R : RelS K G H da S) (E : RelE K G da σ r) (ea : sem C a r S = some (x, S1))
    (q : ∀ v H' G' da', Grow G H da G' H' da' → RelS K G' H' da' S1 → RT K G' da' v x → Z v H') : rdE K C a σ H Z := ⟨G, da, S, r, x, S1, R, E, ea, q⟩
theorem rdT1 {a : Tm} {G : Hp} {da : List Addr} {S S1 : Sto} {r : Ev} {b : Bool} {Z : Bool → Hp → Prop} (R : RelS K G H da S) (E : RelE K G da σ r) (ea : sem C a r S = some (.bl b, S1))
    (q : ∀ H' G' da', Grow G H da G' H' da' → RelS K G' H' da' S1 → Z b H') : rdT K C a σ H Z := ⟨G, da, S, r, b, S1, R, E, ea, q⟩
theorem ends_of {G G2 H2 : Hp} {da da2 : List Addr} {S2 : Sto} {d : D} (g : Grow G H da G2 H2 da2) (q : ∀ v H' G' da', Grow G H da G' H' da' → RelS K G' H' da' S2 → RT K G' da' v d → Q v H') : Ends1 K G2 H2 da2 S2 d Q :=
  fun v H' G' g' R' h => q v H' G' da2 (g.trans g') R' h
theorem rd_op {o : Op2} {a b : Tm} (h : rdE K C (.op o a b) σ H Q) : tOp (rP2 K fun S a b => opD o (look S a) (look S b)) (rdE K C a) (rdE K C b) σ H Q := by
  obtain ⟨G, da, S, r, d, S', R, E, e, q⟩ := h
  simp only [sem] at e
  split at e
  · cases e
  · rename_i x S1 ea
    split at e
    · cases e
    · rename_i y S2 eb
      obtain ⟨z, ez, e2⟩ := Option.map_eq_some_iff.mp e
      cases e2
      exact rd2 R E ea eb fun v u H2 G2 da2 g R2 h1 h2 => ⟨G2, da2, _, x, y, _, R2, h1, h2, ez, ends_of g q⟩
theorem rd_cmp {c : Cp} {a b : Tm} (h : rdE K C (.cmp c a b) σ H Q) : tOp (rC K c) (rdE K C a) (rdE K C b) σ H Q := by
  obtain ⟨G, da, S, r, d, S', R, E, e, q⟩ := h
  simp only [sem] at e
  split at e
  · cases e
  · rename_i x S1 ea
    split at e
    · cases e
    · rename_i y S2 eb
      obtain ⟨z, ez, e2⟩ := Option.map_eq_some_iff.mp e
      cases e2
      exact rd2 R E ea eb fun v u H2 G2 da2 g R2 h1 h2 => ⟨G2, da2, _, x, y, _, R2, h1, h2, by show Option.map D.bl (cmpD _ _ _ _) = _; rw [ez]; rfl, ends_of g q⟩
theorem rd_neg {a : Tm} (h : rdE K C (.neg a) σ H Q) : tUn (rU fun i => .int (-i)) (rdE K C a) σ H Q := by
  obtain ⟨G, da, S, r, d, S', R, E, e, q⟩ := h
  simp only [sem] at e
  split at e
  · rename_i i S1 ea
    cases e
    refine rd1 R E ea fun v H1 G1 da1 g R1 h1 => ?_
    have h1 := h1.rd rfl
    cases h1
    exact ⟨i, rfl, q _ H1 G1 da1 g R1 (.inl (.int _))⟩
  · cases e
theorem rt_bl {G : Hp} {da : List Addr} {v : V} {b : Bool} (h : RT K G da v (.bl b)) : v = .bl b := by
  have h := h.rd rfl
  cases h; rfl
theorem rd_chain {c c' : Cp} {x y z : Tm} (h : rdE K C (.chain c c' x y z) σ H Q) : tChain (rC K c) (rC K c') (rdE K C x) (rdE K C y) (rdE K C z) σ H Q := by
  obtain ⟨G, da, S, r, d, S', R, E, e, q⟩ := h
  simp only [sem] at e
  split at e
  · cases e
  · rename_i x1 S1 ex
    split at e
    · cases e
    · rename_i y1 S2 ey
      split at e
      · cases e
      · rename_i ec
        cases e
        refine rd2 R E ex ey fun v u H2 G2 da2 g R2 h1 h2 => ⟨G2, da2, _, x1, y1, _, R2, h1, h2, by show Option.map D.bl (cmpD _ _ _ _) = _; rw [ec]; rfl, fun w H3 G3 g3 R3 h3 => ⟨false, rt_bl h3, ?_⟩⟩
        rw [if_neg (by decide)]
        exact q _ H3 G3 da2 (g.trans g3) R3 (.inl (.bl _))
      · rename_i ec
        split at e
        · cases e
        · rename_i z1 S3 ez
          obtain ⟨k, ek, e2⟩ := Option.map_eq_some_iff.mp e
          cases e2
          refine rd2 R E ex ey fun v u H2 G2 da2 g R2 h1 h2 => ⟨G2, da2, _, x1, y1, _, R2, h1, h2, by show Option.map D.bl (cmpD _ _ _ _) = _; rw [ec]; rfl, fun w H3 G3 g3 R3 h3 => ⟨true, rt_bl h3, ?_⟩⟩
          rw [if_pos rfl]
          refine rd1 R3 (E.mono (g.trans g3)) ez fun w' H4 G4 da4 g4 R4 h4 => ?_
          exact ⟨G4, da4, _, y1, z1, _, R4, (h2.mono g3).mono g4, h4, by show Option.map D.bl (cmpD _ _ _ _) = _; rw [ek]; rfl, ends_of ((g.trans g3).trans g4) q⟩
theorem rd_and {a b : Tm} (h : rdE K C (.andd a b) σ H Q) : tAndV (rdE K C a) (rdE K C b) σ H Q := by
  obtain ⟨G, da, S, r, d, S', R, E, e, q⟩ := h
  simp only [sem] at e
  split at e
  · rename_i S1 ea
    refine rd1 R E ea fun v H1 G1 da1 g R1 h1 => ⟨true, rt_bl h1, ?_⟩
    rw [if_pos rfl]
    exact rd1 R1 (E.mono g) e fun v H' G' da' g' R' h' => q v H' G' da' (g.trans g') R' h'
  · rename_i S1 ea
    cases e
    refine rd1 R E ea fun v H1 G1 da1 g R1 h1 => ⟨false, rt_bl h1, ?_⟩
    rw [if_neg (by decide)]
    exact q _ H1 G1 da1 g R1 (.inl (.bl _))
  · cases e
theorem rd_or {a b : Tm} (h : rdE K C (.orr a b) σ H Q) : tOrV (rdE K C a) (rdE K C b) σ H Q := by
  obtain ⟨G, da, S, r, d, S', R, E, e, q⟩ := h
  simp only [sem] at e
  split at e
  · rename_i S1 ea
    refine rd1 R E ea fun v H1 G1 da1 g R1 h1 => ⟨false, rt_bl h1, ?_⟩
    rw [if_neg (by decide)]
    exact rd1 R1 (E.mono g) e fun v H' G' da' g' R' h' => q v H' G' da' (g.trans g') R' h'
  · rename_i S1 ea
    cases e
    refine rd1 R E ea fun v H1 G1 da1 g R1 h1 => ⟨true, rt_bl h1, ?_⟩
    rw [if_pos rfl]
    exact q _ H1 G1 da1 g R1 (.inl (.bl _))
  · cases e
theorem rd_not {a : Tm} (h : rdE K C (.nott a) σ H Q) : tNotV (rdE K C a) σ H Q := by
  obtain ⟨G, da, S, r, d, S', R, E, e, q⟩ := h
  simp only [sem] at e
  split at e
  · rename_i b S1 ea
    cases e
    exact rd1 R E ea fun v H1 G1 da1 g R1 h1 => ⟨b, rt_bl h1, q _ H1 G1 da1 g R1 (.inl (.bl _))⟩
  · cases e
theorem rd_ite {c a b : Tm} (h : rdE K C (.ite c a b) σ H Q) : tIf (rdT K C c) (rdE K C a) (rdE K C b) σ H Q := by
  obtain ⟨G, da, S, r, d, S', R, E, e, q⟩ := h
  simp only [sem] at e
  split at e
  · rename_i S1 ea
    refine rdT1 R E ea fun H1 G1 da1 g R1 => ?_
    rw [if_pos rfl]
    exact rd1 R1 (E.mono g) e fun v H' G' da' g' R' h' => q v H' G' da' (g.trans g') R' h'
  · rename_i S1 ea
    refine rdT1 R E ea fun H1 G1 da1 g R1 => ?_
    rw [if_neg (by decide)]
    exact rd1 R1 (E.mono g) e fun v H' G' da' g' R' h' => q v H' G' da' (g.trans g') R' h'
  · cases e
/-! tests -/
variable {QB : Bool → Hp → Prop}
theorem rt_val {a : Tm} (h : rdT K C a σ H QB) : tB (rdE K C a) σ H QB := by
  obtain ⟨G, da, S, r, b, S', R, E, e, q⟩ := h
  exact rd1 R E e fun v H1 G1 da1 g R1 h1 => ⟨b, rt_bl h1, q H1 G1 da1 g R1⟩
theorem rt_and {a b : Tm} (h : rdT K C (.andd a b) σ H QB) : tAnd (rdT K C a) (rdT K C b) σ H QB := by
  obtain ⟨G, da, S, r, d, S', R, E, e, q⟩ := h
  simp only [sem] at e
  split at e
  · rename_i S1 ea
    refine rdT1 R E ea fun H1 G1 da1 g R1 => ?_
    rw [if_pos rfl]
    exact rdT1 R1 (E.mono g) e fun H' G' da' g' R' => q H' G' da' (g.trans g') R'
  · rename_i S1 ea
    cases e
    refine rdT1 R E ea fun H1 G1 da1 g R1 => ?_
    rw [if_neg (by decide)]
    exact q H1 G1 da1 g R1
  · cases e
theorem rt_or {a b : Tm} (h : rdT K C (.orr a b) σ H QB) : tOr (rdT K C a) (rdT K C b) σ H QB := by
  obtain ⟨G, da, S, r, d, S', R, E, e, q⟩ := h
  simp only [sem] at e
  split at e
  · rename_i S1 ea
    refine rdT1 R E ea fun H1 G1 da1 g R1 => ?_
    rw [if_neg (by decide)]
    exact rdT1 R1 (E.mono g) e fun H' G' da' g' R' => q H' G' da' (g.trans g') R'
  · rename_i S1 ea
    cases e
    refine rdT1 R E ea fun H1 G1 da1 g R1 => ?_
    rw [if_pos rfl]
    exact q H1 G1 da1 g R1
  · cases e
theorem rt_not {a : Tm} (h : rdT K C (.nott a) σ H QB) : tNot (rdT K C a) σ H QB := by
  obtain ⟨G, da, S, r, d, S', R, E, e, q⟩ := h
  simp only [sem] at e
  split at e
  · rename_i b S1 ea
    cases e
    exact rdT1 R E ea fun H1 G1 da1 g R1 => q H1 G1 da1 g R1
  · cases e
/-! arguments, displays -/
theorem ra_nil {QA : List V → Hp → Prop} (h : rdA K C .nil σ H QA) : tNil σ H QA := by
  obtain ⟨G, da, S, r, d, S', R, E, e, q⟩ := h
  simp only [semA] at e
  cases e
  exact q [] H G da .refl R .nil
theorem ra1 {a : Tm} {G : Hp} {da : List Addr} {S S1 : Sto} {r : Ev} {x : List D} {Z : List V → Hp → Prop} (R : RelS K G H da S) (E : RelE K G da σ r) (ea : semA C a r S = some (x, S1))
    (q : ∀ v H' G' da', Grow G H da G' H' da' → RelS K G' H' da' S1 → RTs K G' da' v x → Z v H') : rdA K C a σ H Z := ⟨G, da, S, r, x, S1, R, E, ea, q⟩
theorem ra_cons {a b : Tm} {QA : List V → Hp → Prop} (h : rdA K C (.cons a b) σ H QA) : tCons (rdE K C a) (rdA K C b) σ H QA := by
  obtain ⟨G, da, S, r, d, S', R, E, e, q⟩ := h
  simp only [semA] at e
  split at e
  · cases e
  · rename_i x S1 ea
    split at e
    · cases e
    · rename_i xs S2 eb
      cases e
      refine rd1 R E ea fun v H1 G1 da1 g R1 h1 => ra1 R1 (E.mono g) eb fun vs H2 G2 da2 g2 R2 h2 => ?_
      exact q _ H2 G2 da2 (g.trans g2) R2 (.cons (h1.mono g2) h2)
theorem rd_tup {a : Tm} (h : rdE K C (.tup a) σ H Q) : tTup (rdA K C a) σ H Q := by
  obtain ⟨G, da, S, r, d, S', R, E, e, q⟩ := h
  simp only [sem] at e
  split at e
  · rename_i ds S1 ea
    split at e
    · rename_i hs
      cases e
      rw [Bool.and_eq_true] at hs
      refine ra1 R E ea fun vs H1 G1 da1 g R1 h1 => ⟨by rw [h1.length]; exact of_decide_eq_true hs.2, fun p hp => ?_⟩
      exact (ends_of g q).tup R1 (h1.rds hs.1) hp
    · cases e
  · cases e
theorem rdF_lst {a : Tm} (h : rdF K C (.lst a) σ H Q) : tLst (rdA K C a) σ H Q := by
  obtain ⟨G, da, S, r, xs, S', R, E, e, q⟩ := h
  simp only [sem] at e
  split at e
  · rename_i ds S1 ea
    split at e
    · rename_i hs
      cases e
      rw [Bool.and_eq_true] at hs
      refine ra1 R E ea fun vs H1 G1 da1 g R1 h1 => ⟨by rw [h1.length]; exact of_decide_eq_true hs.2, fun p hp => ?_⟩
      have hp0 : H p = none := by
        cases z : H p with
        | none => rfl
        | some o => exact absurd hp (g.there p (by rw [z]; simp))
      exact q p vs _ G1 da1 (g.trans (.lay hp)) (R1.lay hp) hp0 upd_same (R1.gnone hp) (R1.notIn hp) (h1.rds hs.1)
    · cases e
  · cases e
theorem lst_new {a : Tm} : ∀ r S d S', sem C (.lst a) r S = some (d, S') → ∃ xs, d = .lst xs := by
  intro r S d S' e
  simp only [sem] at e
  split at e
  · split at e
    · cases e; exact ⟨_, rfl⟩
    · cases e
  · cases e
/-- a new list becomes a cell -/
theorem rd_fresh {a : Tm} (h : rdE K C (.fresh a) σ H Q) : rdF K C a σ H Q := by
  obtain ⟨G, da, S, r, d, S', R, E, e, q⟩ := h
  simp only [sem] at e
  split at e
  · rename_i xs S1 ea
    cases e
    refine ⟨G, da, S, r, xs, S1, R, E, ea, fun p vs H1 G1 da1 g R1 h1 h2 h3 h4 h5 => ?_⟩
    refine q _ H1 G1 (da1 ++ [p]) ⟨g.g, g.old, g.keep, g.there, ?_, fun a ha => ?_⟩ ⟨R1.same, by simp [R1.len], ?_, fun n a ea => ?_, R1.nt⟩ (.inr (.inl ⟨_, p, rfl, rfl, ?_⟩))
    · obtain ⟨r, e⟩ := g.pre
      exact ⟨r ++ [p], by rw [e, List.append_assoc]⟩
    · rcases List.mem_append.mp ha with z | z
      · exact g.new a z
      · rw [List.mem_singleton.mp z]; exact .inr h1
    · rw [List.nodup_append]
      exact ⟨R1.nd, by simp, fun a ha b hb e => h4 (by rw [← List.mem_singleton.mp hb, ← e]; exact ha)⟩
    · by_cases hn : n < da1.length
      · rw [List.getElem?_append_left hn] at ea
        obtain ⟨k1, c, k2, k3⟩ := R1.cell n a ea
        exact ⟨k1.imp id (fun ⟨xs0, z⟩ => ⟨xs0, by rw [List.getElem?_append_left (by rw [← R1.len]; exact hn)]; exact z⟩), c, by rw [List.getElem?_append_left (by rw [← R1.len]; exact hn)]; exact k2, k3⟩
      · rw [List.getElem?_append_right (by omega)] at ea
        have hn' : n = da1.length := by
          rcases Nat.lt_or_ge (n - da1.length) 1 with z | z
          · omega
          · rw [List.getElem?_eq_none (by simpa using z)] at ea; cases ea
        subst hn'
        simp at ea
        subst ea
        exact ⟨.inl h3, .lst xs, by rw [R1.len]; simp, vs, h2, h5⟩
    · rw [← R1.len]; simp
  · cases e
end
end AOne
end

section
set_option Elab.async false
set_option linter.all false
set_option maxRecDepth 100000
set_option maxHeartbeats 1000000
set_option autoImplicit false
/-! A7: targets, what is walked, subscripts. -/
namespace AOne
open PySem PySem.Spec L2 PyProof.Rows

/-! ### targets -/
theorem wipe_set {σ : L2.St} {i : Nat} {x : Option V} : ∀ {vs : List Nat}, i ∈ vs → wipe (σ.set i x) vs = wipe σ vs
  | [], h => by simp at h
  | v :: vs, h => by
    unfold wipe
    by_cases hv : i ∈ vs
    · rw [wipe_set hv]
    · have e : i = v := by rcases List.mem_cons.mp h with z | z; exact z; exact absurd z hv
      subst e
      have : ∀ {us : List Nat}, i ∉ us → wipe (σ.set i x) us = (wipe σ us).set i x := by
        intro us
        induction us with
        | nil => intro _; rfl
        | cons u us ih =>
          intro h
          have h1 : u ≠ i := fun e => h (by rw [e]; exact List.mem_cons_self)
          have h2 : i ∉ us := fun m => h (List.mem_cons_of_mem _ m)
          unfold wipe
          rw [ih h2, List.set_comm _ _ h1.symm]
      rw [this hv, List.set_set]
def ari : Tg → Nat
  | .cons _ r => ari r + 1
  | _ => 0
section
variable {K : PySem.W.Frag} {σ : L2.St} {H : Hp} {v : V} {Q : L2.St → Hp → Prop}
theorem RelE.set {G : Hp} {da : List Addr} {r : Ev} {i : Nat} {d : D} (E : RelE K G da σ r) (h : RT K G da v d) : RelE K G da (σ.set i (some v)) (r.set i (some d)) := by
  refine ⟨by simp [E.len], fun j e hj => ?_⟩
  by_cases hi : i = j
  · subst hi
    by_cases hl : i < r.length
    · rw [List.getElem?_set_self hl] at hj
      cases hj
      exact ⟨v, by rw [List.getElem?_set_self (by rw [E.len]; exact hl)], h⟩
    · rw [List.getElem?_eq_none (by simpa using hl)] at hj; cases hj
  · rw [List.getElem?_set_ne hi] at hj
    obtain ⟨u, h1, h2⟩ := E.val j e hj
    exact ⟨u, by rw [List.getElem?_set_ne hi]; exact h1, h2⟩
theorem RelE.wipe {G : Hp} {da : List Addr} {r : Ev} (E : RelE K G da σ r) : ∀ vs : List Nat, RelE K G da (L2.wipe σ vs) (wipeE r vs)
  | [] => E
  | u :: us => by
    have ih := E.wipe us
    unfold L2.wipe wipeE
    refine ⟨by simp [ih.len], fun j e hj => ?_⟩
    by_cases hi : u = j
    · subst hi
      by_cases hl : u < (wipeE r us).length
      · rw [List.getElem?_set_self hl] at hj; cases hj
      · rw [List.getElem?_eq_none (by simpa using hl)] at hj; cases hj
    · rw [List.getElem?_set_ne hi] at hj
      obtain ⟨v, h1, h2⟩ := ih.val j e hj
      exact ⟨v, by rw [List.getElem?_set_ne hi]; exact h1, h2⟩
theorem rg_name {i : Nat} (h : rdG K (.name i) v σ H Q) : gName i v σ H Q := by
  obtain ⟨G, da, S, r, d, r', R, E, t, e, q⟩ := h
  simp only [setG] at e
  split at e
  · cases e
    exact q _ (fun vs hv => wipe_set (hv i (by simp [slots]))) (E.set t)
  · cases e
theorem rgs_nil {us : List V} (h : rdGs K .nil us σ H Q) : gNil us σ H Q := by
  obtain ⟨G, da, S, r, ds, r', R, E, t, e, q⟩ := h
  cases ds with
  | nil =>
    simp only [setGs] at e
    cases e
    cases t
    exact ⟨rfl, q σ (fun _ _ => rfl) E⟩
  | cons _ _ => simp [setGs] at e
theorem rgs_cons {a b : Tg} {us : List V} (h : rdGs K (.cons a b) us σ H Q) : gCons (rdG K a) (rdGs K b) us σ H Q := by
  obtain ⟨G, da, S, r, ds, r', R, E, t, e, q⟩ := h
  cases ds with
  | nil => simp [setGs] at e
  | cons d ds =>
    simp only [setGs] at e
    split at e
    · rename_i r1 e1
      cases t with
      | @cons u us _ _ h1 h2 =>
        refine ⟨u, us, rfl, G, da, S, r, d, r1, R, E, .inl h1, e1, fun σ1 w1 E1 => ?_⟩
        refine ⟨G, da, S, r1, ds, r', R, E1, h2, e, fun σ2 w2 E2 => q σ2 (fun vs hv => ?_) E2⟩
        rw [w2 vs fun i hi => hv i (by simp [slots, hi]), w1 vs fun i hi => hv i (by simp [slots, hi])]
    · cases e
theorem setGs_ari : ∀ {g : Tg} {ds : List D} {r r' : Ev}, setGs g ds r = some r' → ds.length = ari g
  | .nil, [], _, _, _ => rfl
  | .nil, _ :: _, _, _, e => by simp [setGs] at e
  | .cons a g, [], _, _, e => by simp [setGs] at e
  | .cons a g, d :: ds, _, _, e => by
    simp only [setGs] at e
    split at e
    · simpa [ari] using setGs_ari e
    · cases e
  | .name _, _, _, _, e => by simp [setGs] at e
  | .tup _, _, _, _, e => by simp [setGs] at e
theorem rg_tup {g : Tg} (h : rdG K (.tup g) v σ H Q) : gTup K (ari g) (rdGs K g) v σ H Q := by
  obtain ⟨G, da, S, r, d, r', R, E, t, e, q⟩ := h
  cases d <;> simp only [setG, reduceCtorEq] at e
  rename_i xs
  have t := t.rd rfl
  cases t with
  | @tup a vs _ h1 h2 =>
    exact ⟨a, vs, rfl, same_sqt R.same h1, by rw [h2.length, setGs_ari e], G, da, S, r, xs, r', R, E, h2, e, fun σ' w E' => q σ' (fun vs hv => w vs fun i hi => hv i (by simpa [slots] using hi)) E'⟩
end

/-! ### lists and tuples are no longer than the line -/
def Sized (K : PySem.W.Frag) (H : Hp) : Prop := ∀ a xs, SqL K H a xs ∨ SqT K H a xs → xs.length ≤ sizeLine
theorem Inv.sized {X : Cx} {pins : List (Addr × Obj)} {σ : L2.St} {H : Hp} {s : Shared} (I : Inv X pins σ H s) : Sized X.K H := by
  intro a xs h
  rcases h with h | h
  · obtain ⟨its, rv, p, hz⟩ := I.list h
    first | exact hz | (rw [rv.length]; exact hz)
  · obtain ⟨its, rv, p, hz⟩ := I.tuple h
    first | exact hz | (rw [rv.length]; exact hz)
theorem PE.sized {X : Cx} {e : Expr} {t : TE} (h : PE X e t) : PE X e (fun σ H Q => t σ H fun v H1 => Sized X.K H1 → Q v H1) :=
  ⟨fun pins s σ H Q I z => thn (h.run pins s σ H _ I z) fun u s1 ⟨v, H1, I1, r, q⟩ => ⟨v, H1, I1, r, q (Inv.sized I1)⟩⟩
theorem PA.sized {X : Cx} {e : List Expr} {t : TA} (h : PA X e t) : PA X e (fun σ H Q => t σ H fun v H1 => Sized X.K H1 → Q v H1) :=
  ⟨fun p pins s σ H Q I z => thn (h.run p pins s σ H _ I z) fun u s1 ⟨v, H1, I1, r, q⟩ => ⟨v, H1, I1, r, q (Inv.sized I1)⟩⟩

/-! ### enumerate(tuple) -/
def IteT (K : PySem.W.Frag) (a : Addr) : It :=
  ⟨fun i H => ∃ (xs : List V) (x : V), SqT K H a xs ∧ xs[i]? = some x, fun i H v H' => ∃ T x, v = .ref T ∧ H T = none ∧ H' = upd H T (.tup [.int (i : Nat), x]) ∧ ∀ xs, SqT K H a xs → xs[i]? = some x, fun i H => ∃ xs : List V, SqT K H a xs ∧ xs.length ≤ i⟩
theorem apart_e {h : Heap} {e it a : Addr} {k : Int} {old : Value} {its : Array Value} (he : IsEnum h e it k old) (p : h.IsTuple a its) : e ≠ a := by
  rintro rfl
  obtain ⟨o, h1, _, n, h2⟩ := p
  have he : h.get? e = some _ := he
  rw [he] at h1
  cases h1
  cases h2
theorem apart_i {h : Heap} {it a : Addr} {i : Nat} {its : Array Value} (hi : h.IsTupleIter it a i) (p : h.IsTuple a its) : a ≠ it := by
  rintro rfl
  obtain ⟨o, h1, _, n, h2⟩ := p
  obtain ⟨o', h3, _, h4⟩ := hi
  rw [h3] at h1
  cases h1
  rw [h2] at h4
  cases h4
theorem turn_enumT {P : Program} {w : World} {K : PySem.W.Frag} {elts : List Expr} {kk : Nat} {tpos : Pos} (a e it : Addr) :
    Turn P w K (.Tuple elts kk tpos) (IteT K a) [e, it] e (fun i h => (∃ old, IsEnum h e it ((i : Nat) : Int) old) ∧ h.IsTupleIter it a i ∧ e ≠ it) where
  mem := by simp
  obj := fun i h st b hb => by
    obtain ⟨⟨old, he⟩, ⟨o, ho, hc, hd⟩, _⟩ := st
    have e' : b = e ∨ b = it := by simpa using hb
    rcases e' with z | z
    · rw [z]; exact ⟨_, he, fun v q => nomatch q⟩
    · rw [z]; exact ⟨o, ho, fun v q => by rw [hd] at q; cases q⟩
  keep := fun i h h' st k => let ⟨⟨old, he⟩, hi, hne⟩ := st; ⟨⟨old, k e (by simp) _ he⟩, hi.at fun o q => k it (by simp) o q, hne⟩
  item := by
    intro X hP hw hK hc i pins s σ H E I hf st hg
    subst hP hw hK
    obtain ⟨⟨old, he⟩, hit, hne⟩ := st
    obtain ⟨xs, x, hq, hx⟩ := hg
    obtain ⟨its, rv, p, hz⟩ := I.tuple hq
    have p : s.heap.IsTuple a its.toArray := p
    obtain ⟨u, hu, ru⟩ := rv.get hx
    have hlt : i < its.toArray.size := by
      have := (List.getElem?_eq_some_iff.mp hu).1
      simpa using this
    have hel : e < s.heap.objs.size := Heap.lt_size he
    have hil : it < s.heap.objs.size := by obtain ⟨_, q, _⟩ := hit; exact Heap.lt_size q
    have hea := apart_e he p
    have hai := apart_i hit p
    refine wpAny_pyNext_enum_itemD (Draws.tuple (show X.A.in1.handled = none from I.ok.hd hc) it a hai its.toArray) he ⟨hit, p⟩ hlt hne (by simp [hne, hea]) fun x' h' tk hP ho hst hT hsz hk => ?_
    have ex : x' = u := by
      have hP : its.toArray[i]? = some x' := hP
      rw [List.getElem?_toArray, hu] at hP
      exact (Option.some.inj hP).symm
    subst ex
    refine ⟨_, rfl, wpAny_letOwnedTupleGo_enum (s := { s with heap := h', toks := tk + 1 }) ho fun h'' he' sb => ?_⟩
    have hT2 : h''.get? s.heap.objs.size = some { cls := .type "tuple", data := .seq #[.int i tk, x'] } := (sb.2 _ (Nat.ne_of_gt hel)).trans hT
    have new : ObjOk X.prog X.w (upd H s.heap.objs.size (.tup [.int (i : Nat), x])) h'' s.heap.objs.size (.tup [.int (i : Nat), x]) :=
      ⟨by show 2 ≤ sizeLine; decide, [.int i tk, x'], .cons ⟨_, rfl⟩ (.cons ru .nil), ⟨_, hT2, rfl, _, rfl⟩⟩
    have I1 : Inv X pins σ (upd H s.heap.objs.size (.tup [.int (i : Nat), x])) { s with heap := h'', toks := tk + 1 } :=
      I.turnedNew (ch := [e, it]) (fun b ob hb q => (sb.2 b (fun z => hb (by simp [z]))).trans (hk b ob (fun z => hb (by simp [z])) (fun z => hb (by simp [z])) q)) hf (Nat.le_refl _) new
    refine ⟨.ref s.heap.objs.size, _, I1, rfl, ⟨_, x, rfl, I.hok.fresh (Nat.le_refl _), rfl, fun ys hy => by rw [I.tuple_inj hy hq]; exact hx⟩, ⟨⟨x', ?_⟩, hst.1.at fun o q => (sb.2 it (Ne.symm hne)).trans q, hne⟩, fun b hb => ?_⟩
    · have e1 : ((i + 1 : Nat) : Int) = (i : Int) + 1 := by omega
      rw [e1]; exact he'
    · have hb' : b < s.heap.objs.size := by
        have e' : b = e ∨ b = it := by simpa using hb
        rcases e' with z | z
        · rw [z]; exact hel
        · rw [z]; exact hil
      rw [upd_ne (Nat.ne_of_lt hb')]
      exact (hf b hb).1
  done := by
    intro X hP hw hK hc i pins s σ H E I hf st hg
    subst hP hw hK
    obtain ⟨⟨old, he⟩, hit, hne⟩ := st
    obtain ⟨xs, hq, hx⟩ := hg
    obtain ⟨its, rv, p, hz⟩ := I.tuple hq
    have p : s.heap.IsTuple a its.toArray := p
    obtain ⟨f0, f1, f2, f3, f4, f5⟩ := hf it (by simp)
    have hl := rv.length
    have hai := apart_i hit p
    have D : Draws X.prog X.w X.A.in1 it [it, a] i (fun j v => its.toArray[j]? = some v ∧ False) (fun j h => j = i ∧ h.IsTupleIter it a i ∧ h.IsTuple a its.toArray) := {
      live := fun _ _ st => let ⟨o, ho, _⟩ := st.2.1; ⟨o, ho⟩
      frame := fun _ _ _ st hk => ⟨st.1, st.2.1.at fun o e => hk it (by simp) o e, st.2.2.at fun o e => hk a (by simp) o e⟩
      item := fun j s Q E hi st hQ => absurd st.1 (Nat.ne_of_lt hi)
      done := fun s Q E st hE => wpAny_nextOf_tuple_end (show X.A.in1.handled = none from I.ok.hd hc) st.2.1 st.2.2 (by simp; omega) hE }
    exact wpAny_pyNext_enum_endD D he ⟨rfl, hit, p⟩ fun h' eb => ⟨rfl, I.turned (t' := s.toks) (fun b o hb q => eb b o hb q) f0 f1 f3 f4 f5⟩
  self := fun A i s Q E st h => let ⟨⟨_, he⟩, _⟩ := st; wpAny_pyIter_enum he h
set_option maxHeartbeats 1000000 in
theorem meets_enumB {v : Value} {o : Obj} {H : Heap → Prop} (B : Begins v o H) :
    Meets (Builtin.«enumerate.__new__» ⟨[.type "enumerate", v], []⟩) (fun _ R s => H s.heap ∧
      R (.ok (.ret (.ref (s.heap.push o).objs.size))) { s with heap := (s.heap.push o).push { cls := .type "enumerate", data := .fields #[.none, .bool false, .ref s.heap.objs.size, rawInt 0, .none, .none] } }) :=
  .of_wp fun prog w A R s h => by
    obtain ⟨hp, g, d, tk, os⟩ := s; obtain ⟨h1, h⟩ := h
    have hsub := sub_enumerate
    have q1 : ∀ {A' : Around} {E : Value → Shared → Prop} {Q : Value → Shared → Prop}, Q (.ref hp.objs.size) ⟨hp.push o, g, d, tk, os⟩ → wpAny (model prog w) A' (pyIter v) Q E ⟨hp, g, d, tk, os⟩ :=
      fun q => B.iter prog w _ _ ⟨hp, g, d, tk, os⟩ _ h1 q
    wp_walk using q1
    refine wpAny_stack_any fun st => wpAny_pure ?_
    split
    · rename_i c _ _ _ _ _
      cases (c == Value.type "enumerate")
      · wp_walk using q1
        exact ⟨_, rfl, h⟩
      · wp_walk using q1
        exact ⟨_, rfl, h⟩
    · wp_walk using q1
      exact ⟨_, rfl, h⟩
theorem call_enumB {prog : Program} {w : World} {A : Around} {E : Value → Shared → Prop} {s : Shared} {v : Value} {o : Obj} {H : Heap → Prop} {Q : Value → Shared → Prop} (B : Begins v o H) (h1 : H s.heap)
    (h : ∀ h', IsEnum h' (s.heap.objs.size + 1) s.heap.objs.size 0 .none → h'.get? s.heap.objs.size = some o →
      (∀ b o, s.heap.get? b = some o → h'.get? b = some o) → Q (.ref (s.heap.objs.size + 1)) { s with heap := h' }) :
    wpAny (model prog w) A (call (.type "enumerate") [v]) Q E s := by
  refine callType_new F.called_enumerate (by decide) (F.typeCall_enumerate_1 _) (F.newCall_enumerate_1 _) (fun obj => F.args_object_init_2 obj _) F.entry_enumerate_new
    (meets_enumB B) ⟨h1, ?_⟩
  have hz : (s.heap.push o).objs.size = s.heap.objs.size + 1 := Heap.size_push ..
  show _ ∧ _
  rw [hz]
  have he : IsEnum ((s.heap.push o).push { cls := .type "enumerate", data := .fields #[.none, .bool false, .ref s.heap.objs.size, rawInt 0, .none, .none] }) (s.heap.objs.size + 1) s.heap.objs.size 0 .none := by
    have := Heap.get?_push_size (s.heap.push o) (o := { cls := .type "enumerate", data := .fields #[.none, .bool false, .ref s.heap.objs.size, rawInt 0, .none, .none] }) rfl
    rw [hz] at this; exact this
  exact ⟨⟨_, he, rfl⟩, h _ he (Heap.get?_push_of_some _ (Heap.get?_push_size _ B.free)) fun b o x => Heap.get?_push_of_some _ (Heap.get?_push_of_some _ x)⟩
def iEnumT (K : PySem.W.Frag) (ta : TA) : TI := fun σ H R => ta σ H fun vs H1 => ∃ a xs, vs = [.ref a] ∧ SqT K H1 a xs ∧ R (IteT K a) H1
theorem pi_enumT {X : Cx} {e : Expr} {ta : TA} {p pos tpos : Pos} {elts : List Expr} {kk : Nat} (hg : Gl X "enumerate") (hm : X.mg "enumerate" = none) (ha : PA X [e] ta) (hs : starEach [e] X.env = [(false, eval e X.env)]) :
    PI X (.Tuple elts kk tpos) (.Call (.Name "enumerate" p) [e] [] pos) (iEnumT X.K ta) := by
  refine ⟨fun pins s σ H R I h => ?_⟩
  refine Call_ (ld_blt I hg hm boot_enumerate (PyProof.Rows.callWith_type1 (thn (ha.run pos pins s σ H _ I h) fun us s1 ⟨vs, H1, I1, r1, q1⟩ => ?_) hs rfl))
  obtain ⟨a, xs, ex, hq, q⟩ := q1
  subst ex
  cases r1 with
  | cons r rr =>
    cases rr
    cases r
    obtain ⟨its, rv, p', hz⟩ := I1.tuple hq
    refine call_enumB (begins_tuple a its.toArray) p' fun h' he hit hk => wpAny_pyIter_enum he ?_
    have I2 : Inv X pins σ H1 { s1 with heap := h' } := I1.kept (t' := s1.toks) hk
    refine ⟨s1.heap.objs.size + 1, [s1.heap.objs.size + 1, s1.heap.objs.size], _, _, H1, rfl, I2, turn_enumT a (s1.heap.objs.size + 1) s1.heap.objs.size, ⟨⟨.none, he⟩, ⟨_, hit, rfl, rfl⟩, Nat.succ_ne_self _⟩, fun b hb => ?_, q⟩
    have e' : b = s1.heap.objs.size + 1 ∨ b = s1.heap.objs.size := by simpa using hb
    have hle : s1.heap.objs.size ≤ b := by
      rcases e' with z | z
      · rw [z]; exact Nat.le_add_right _ _
      · rw [z]; exact Nat.le_refl _
    exact I1.fpOk hle (I1.hok.fresh hle)
theorem walk_enumT {K : PySem.W.Frag} {a : Addr} {xs : List V} : Walk (IteT K a) xs.length (fun H => SqT K H a xs) (YPair (fun i => some (.int (i : Nat))) (fun i => xs[i]?)) := by
  refine ⟨fun i _ hi q => ⟨xs, xs[i], q, by simp [hi]⟩, fun _ q => ⟨xs, q, Nat.le_refl _⟩, fun i H v H' _ q y => ?_⟩
  obtain ⟨T, x, h1, h2, h3, h4⟩ := y
  exact ⟨T, .int (i : Nat), x, h1, h2, h3, rfl, h4 xs q⟩
theorem walk_zipT {K : PySem.W.Frag} {a b : Addr} {xs ys : List V} {n : Nat} (hn : n = min xs.length ys.length) : Walk (RZ.ItzT K a b) n (fun H => SqT K H a xs ∧ SqT K H b ys) (YPair (fun i => xs[i]?) (fun i => ys[i]?)) := by
  subst hn
  refine ⟨fun i _ hi q => ?_, fun _ q => ⟨xs, ys, q.1, q.2, by omega⟩, fun i H v H' _ q y => ?_⟩
  · have h1 : i < xs.length := by omega
    have h2 : i < ys.length := by omega
    exact ⟨xs, ys, xs[i], ys[i], q.1, q.2, by simp [h1], by simp [h2]⟩
  · obtain ⟨T, x, z, h1, h2, h3, h4, h5⟩ := y
    exact ⟨T, x, z, h1, h2, h3, h4 xs q.1, h5 ys q.2⟩
end AOne
end

section
set_option Elab.async false
set_option linter.all false
set_option maxRecDepth 100000
set_option maxHeartbeats 1000000
set_option autoImplicit false
/-! A8: what is walked, subscripts, comprehensions. -/
namespace AOne
open PySem PySem.Spec L2

section
variable {K : PySem.W.Frag} {G : Hp}
theorem drv_list {a : Addr} {vs : List V} {xs : List D} (h1 : SqL K G a vs) (h2 : RDs K G vs xs) : Drv K (Itl K a) G xs := by
  unfold Drv
  rw [← h2.length]
  exact walk_list.mono (fun H s => same_sql s h1) fun i H x H' hi s y => .inl ⟨y.1, h2.getV y.2⟩
theorem drv_tup {a : Addr} {vs : List V} {xs : List D} (h1 : G a = some (.tup vs)) (h2 : RDs K G vs xs) : Drv K (Itt K a) G xs := by
  unfold Drv
  rw [← h2.length]
  exact walk_tup.mono (fun H s => same_sqt s h1) fun i H x H' hi s y => .inl ⟨y.1, h2.getV y.2⟩
theorem low_one {z : Str} {c i : Nat} (h : PyData.strOk z = true) (e : z.cps[i]? = some c) : PyData.strOk ⟨#[c]⟩ = true := by
  rw [strOk_iff] at h ⊢
  intro d hd
  have hd : d = c := by simpa using hd
  subst hd
  refine h d ?_
  rw [← Array.getElem?_toList] at e
  exact List.mem_of_getElem? e
theorem drv_str {z : Str} (h : PyData.strOk z = true) : Drv K (Its z) G (z.cps.toList.map fun c => .str ⟨#[c]⟩) := by
  unfold Drv
  have hl : (z.cps.toList.map fun c => D.str ⟨#[c]⟩).length = z.cps.size := by simp
  rw [hl]
  refine walk_str.mono (fun _ _ => trivial) fun i H x H' hi s y => .inl ⟨y.1, ?_⟩
  obtain ⟨c, e, rfl⟩ := y.2
  exact ⟨.str ⟨#[c]⟩, by rw [List.getElem?_map, Array.getElem?_toList, e]; rfl, .str _ (low_one h e)⟩
theorem drv_range {lo : Int} {n : Nat} : Drv K (Itr lo n) G (rangeD lo n) := by
  unfold Drv
  have hl : (rangeD lo n).length = n := by simp [rangeD]
  rw [hl]
  refine walk_range.mono (fun _ _ => trivial) fun i H x H' hi s y => .inl ⟨y.1, ?_⟩
  obtain ⟨_, rfl⟩ := y
  exact ⟨.int (lo + i), by simp [rangeD, List.getElem?_range hi], .int _⟩
theorem zipD_length : ∀ xs ys : List D, (zipD xs ys).length = min xs.length ys.length
  | [], _ => by simp [zipD]
  | _ :: _, [] => by simp [zipD]
  | x :: xs, y :: ys => by simp only [zipD, List.length_cons, zipD_length xs ys]; omega
theorem zipD_get : ∀ {xs ys : List D} {i : Nat} {x y : D}, xs[i]? = some x → ys[i]? = some y → (zipD xs ys)[i]? = some (.tup [x, y])
  | [], _, _, _, _, h, _ => by simp at h
  | _ :: _, [], _, _, _, _, h => by simp at h
  | a :: xs, b :: ys, 0, x, y, h1, h2 => by simp at h1 h2; subst h1 h2; simp [zipD]
  | a :: xs, b :: ys, i + 1, x, y, h1, h2 => by simpa [zipD] using zipD_get (xs := xs) (ys := ys) (i := i) (by simpa using h1) (by simpa using h2)
theorem enumD_length : ∀ (k : Nat) (xs : List D), (enumD k xs).length = xs.length
  | _, [] => by simp [enumD]
  | k, x :: xs => by simp [enumD, enumD_length (k + 1) xs]
theorem enumD_get : ∀ {k : Nat} {xs : List D} {i : Nat} {x : D}, xs[i]? = some x → (enumD k xs)[i]? = some (.tup [.int ((k + i : Nat)), x])
  | _, [], _, _, h => by simp at h
  | k, a :: xs, 0, x, h => by simp at h; subst h; simp [enumD]
  | k, a :: xs, i + 1, x, h => by
    have := enumD_get (k := k + 1) (xs := xs) (i := i) (by simpa using h)
    have e : k + 1 + i = k + (i + 1) := by omega
    rw [e] at this
    simpa [enumD] using this
theorem drv_zip {J : It} {vs us : List V} {xs ys : List D} {P : Hp → Prop} (w : Walk J (min vs.length us.length) P (YPair (fun i => vs[i]?) (fun i => us[i]?))) (hP : ∀ H, Same G H → P H) (h1 : RDs K G vs xs) (h2 : RDs K G us ys) : Drv K J G (zipD xs ys) := by
  unfold Drv
  rw [zipD_length, ← h1.length, ← h2.length]
  refine w.mono (fun H s => hP H s) fun i H x H' hi s y => .inr ?_
  obtain ⟨T, x1, y1, rfl, e1, e2, e3, e4⟩ := y
  obtain ⟨d1, k1, r1⟩ := h1.getV e3
  obtain ⟨d2, k2, r2⟩ := h2.getV e4
  exact ⟨T, [x1, y1], [d1, d2], e1, e2, zipD_get k1 k2, rfl, .cons r1 (.cons r2 .nil)⟩
theorem drv_enum {J : It} {vs : List V} {xs : List D} {P : Hp → Prop} (w : Walk J vs.length P (YPair (fun i => some (.int (i : Nat))) (fun i => vs[i]?))) (hP : ∀ H, Same G H → P H) (h1 : RDs K G vs xs) : Drv K J G (enumD 0 xs) := by
  unfold Drv
  rw [enumD_length, ← h1.length]
  refine w.mono (fun H s => hP H s) fun i H x H' hi s y => .inr ?_
  obtain ⟨T, x1, y1, rfl, e1, e2, e3, e4⟩ := y
  obtain ⟨d1, k1, r1⟩ := h1.getV e4
  cases e3
  refine ⟨T, [.int (i : Nat), y1], [.int (i : Nat), d1], e1, e2, ?_, rfl, .cons (.int _) (.cons r1 .nil)⟩
  have := enumD_get (k := 0) k1
  rw [Nat.zero_add] at this
  exact this
end

section
variable {X : Cx} {C : Call}
theorem pi_ival {tg e : Expr} {t : Tm} (h : PE X e (rdE X.K C t)) : PI X tg e (rdI X.K C (.ival t)) := by
  refine PI.imp (PI.or (pi_list (PE.sized h)) (PI.or (pi_tup (PE.sized h)) (pi_str h))) fun σ H Q z => ?_
  obtain ⟨G, da, S, r, xs, S', R, E, e, q⟩ := z
  simp only [semI] at e
  split at e
  · cases e
  · rename_i x S1 ea
    obtain ⟨ys, ey, e2⟩ := Option.map_eq_some_iff.mp e
    cases e2
    cases x <;> simp only [itemsD, reduceCtorEq] at ey
    · split at ey
      · rename_i hs
        cases ey
        refine .inr (.inr (rd1 R E ea fun v H1 G1 da1 g R1 h1 => ?_))
        have h1 := h1.rd rfl
        cases h1 with
        | str _ hx => exact ⟨_, rfl, q _ H1 G1 da1 g R1 (by simpa [Str.length] using of_decide_eq_true hs) (drv_str hx)⟩
      · cases ey
    · cases ey
      refine .inr (.inl (rd1 R E ea fun v H1 G1 da1 g R1 h1 sz => ?_))
      have h1 := h1.rd rfl
      cases h1 with
      | @tup a vs _ k1 k2 => exact ⟨a, rfl, ⟨vs, same_sqt R1.same k1⟩, q _ H1 G1 da1 g R1 (by rw [← k2.length]; exact sz a vs (.inr (same_sqt R1.same k1))) (drv_tup k1 k2)⟩
    · cases ey
      refine .inl (rd1 R E ea fun v H1 G1 da1 g R1 h1 sz => ?_)
      have h1 := h1.rd rfl
      cases h1 with
      | @lst a vs _ k1 k2 => exact ⟨a, rfl, ⟨vs, same_sql R1.same k1⟩, q _ H1 G1 da1 g R1 (by rw [← k2.length]; exact sz a vs (.inl (same_sql R1.same k1))) (drv_list k1 k2)⟩
theorem rng_size {lo : Int} {n : Nat} (h : n ≤ 2000000) : (rangeD lo n).length ≤ sizeLine := by
  have : (rangeD lo n).length = n := by simp [rangeD]
  rw [this, sizeLine_eq]; omega
theorem pi_irange1 {tg a : Expr} {t : Tm} {p pos : Pos} (hg : Gl X "range") (hm : X.mg "range" = none) (ha : PA X [a] (rdA X.K C t)) (hs : starEach [a] X.env = [(false, eval a X.env)]) : PI X tg (.Call (.Name "range" p) [a] [] pos) (fun σ H R => rdI X.K C (.irange t) σ H R ∧ ∀ r S ds S', semA C t r S = some (ds, S') → ds.length = 1) := by
  refine PI.imp (pi_range1 hg hm ha hs) fun σ H Q z => ?_
  obtain ⟨⟨G, da, S, r, xs, S', R, E, e, q⟩, hl⟩ := z
  simp only [semI] at e
  split at e
  · cases e
  · rename_i ds S1 ea
    obtain ⟨ys, ey, e2⟩ := Option.map_eq_some_iff.mp e
    cases e2
    have hl := hl _ _ _ _ ea
    match ds, hl, ey with
    | [.int j], _, ey =>
      simp only [rngD] at ey
      split at ey
      · rename_i hb
        cases ey
        simp only [Bool.and_eq_true, decide_eq_true_eq] at hb
        refine ra1 R E ea fun vs H1 G1 da1 g R1 h1 => ?_
        obtain ⟨v, rfl, h9⟩ := h1.one
        have h1 := h9.rd rfl
        cases h1
        exact ⟨j, rfl, by omega, by omega, q _ H1 G1 da1 g R1 (rng_size (by omega)) drv_range⟩
      · cases ey
theorem pi_irange2 {tg a b : Expr} {t : Tm} {p pos : Pos} (hg : Gl X "range") (hm : X.mg "range" = none) (ha : PA X [a, b] (rdA X.K C t)) (hs : starEach [a, b] X.env = [(false, eval a X.env), (false, eval b X.env)]) (hs2 : starEach [b] X.env = [(false, eval b X.env)]) : PI X tg (.Call (.Name "range" p) [a, b] [] pos) (fun σ H R => rdI X.K C (.irange t) σ H R ∧ ∀ r S ds S', semA C t r S = some (ds, S') → ds.length = 2) := by
  refine PI.imp (pi_range2 hg hm ha hs hs2) fun σ H Q z => ?_
  obtain ⟨⟨G, da, S, r, xs, S', R, E, e, q⟩, hl⟩ := z
  simp only [semI] at e
  split at e
  · cases e
  · rename_i ds S1 ea
    obtain ⟨ys, ey, e2⟩ := Option.map_eq_some_iff.mp e
    cases e2
    have hl := hl _ _ _ _ ea
    match ds, hl, ey with
    | [.int i, .int j], _, ey =>
      simp only [rngD] at ey
      split at ey
      · rename_i hb
        cases ey
        simp only [Bool.and_eq_true, decide_eq_true_eq] at hb
        refine ra1 R E ea fun vs H1 G1 da1 g R1 h1 => ?_
        obtain ⟨v, u, rfl, h9, h2⟩ := h1.two
        have h1 := h9.rd rfl
        have h2 := h2.rd rfl
        cases h1
        cases h2
        exact ⟨i, j, rfl, by omega, q _ H1 G1 da1 g R1 (rng_size (by omega)) drv_range⟩
      · cases ey
theorem pi_izip {a b : Expr} {ta tb : Tm} {p pos tpos : Pos} {elts : List Expr} {kk : Nat} (hg : Gl X "zip") (hm : X.mg "zip" = none) (ha : PA X [a, b] (rdA X.K C (.cons ta (.cons tb .nil)))) (hs : starEach [a, b] X.env = (false, eval a X.env) :: starEach [b] X.env) (hpl : (backTo pos (starEach [b] X.env)).any (·.1) = false) :
    PI X (.Tuple elts kk tpos) (.Call (.Name "zip" p) [a, b] [] pos) (rdI X.K C (.izip ta tb)) := by
  refine PI.imp (RZ.pi_zipA hg hm (PA.sized ha) hs hpl) fun σ H Q z => ?_
  obtain ⟨G, da, S, r, xs, S', R, E, e, q⟩ := z
  simp only [semI] at e
  split at e
  · cases e
  · rename_i x S1 ea
    split at e
    · cases e
    · rename_i y S2 eb
      have ez : semA C (.cons ta (.cons tb .nil)) r S = some ([x, y], S2) := by simp [semA, ea, eb]
      split at e
      · rename_i xs1 ys1
        cases e
        refine ra1 R E ez fun vs H1 G1 da1 g R1 h1 sz => ?_
        obtain ⟨v, u, rfl, h9, h2⟩ := h1.two
        have h1 := h9.rd rfl
        have h2 := h2.rd rfl
        cases h1 with
        | @lst p1 v1 _ k1 k2 =>
          cases h2 with
          | @lst p2 v2 _ k3 k4 =>
            refine ⟨p1, p2, v1, v2, rfl, .inl ⟨same_sql R1.same k1, same_sql R1.same k3, q _ H1 G1 da1 g R1 ?_ (drv_zip (walk_zip rfl) (fun H s => ⟨same_sql s k1, same_sql s k3⟩) k2 k4)⟩⟩
            have := sz p1 v1 (.inl (same_sql R1.same k1))
            rw [zipD_length, ← k2.length]; omega
      · rename_i xs1 ys1
        cases e
        refine ra1 R E ez fun vs H1 G1 da1 g R1 h1 sz => ?_
        obtain ⟨v, u, rfl, h9, h2⟩ := h1.two
        have h1 := h9.rd rfl
        have h2 := h2.rd rfl
        cases h1 with
        | @tup p1 v1 _ k1 k2 =>
          cases h2 with
          | @tup p2 v2 _ k3 k4 =>
            refine ⟨p1, p2, v1, v2, rfl, .inr ⟨same_sqt R1.same k1, same_sqt R1.same k3, q _ H1 G1 da1 g R1 ?_ (drv_zip (walk_zipT rfl) (fun H s => ⟨same_sqt s k1, same_sqt s k3⟩) k2 k4)⟩⟩
            have := sz p1 v1 (.inr (same_sqt R1.same k1))
            rw [zipD_length, ← k2.length]; omega
      · cases e
theorem pi_ienum {a : Expr} {ta : Tm} {p pos tpos : Pos} {elts : List Expr} {kk : Nat} (hg : Gl X "enumerate") (hm : X.mg "enumerate" = none) (ha : PA X [a] (rdA X.K C (.cons ta .nil))) (hs : starEach [a] X.env = [(false, eval a X.env)]) :
    PI X (.Tuple elts kk tpos) (.Call (.Name "enumerate" p) [a] [] pos) (rdI X.K C (.ienum ta)) := by
  refine PI.imp (PI.or (pi_enum hg hm (PA.sized ha) hs) (pi_enumT hg hm (PA.sized ha) hs)) fun σ H Q z => ?_
  obtain ⟨G, da, S, r, xs, S', R, E, e, q⟩ := z
  simp only [semI] at e
  split at e
  · cases e
  · rename_i x S1 ea
    obtain ⟨ys, ey, e2⟩ := Option.map_eq_some_iff.mp e
    cases e2
    have ez : semA C (.cons ta .nil) r S = some ([x], S') := by simp [semA, ea]
    cases x <;> simp only [seqD, reduceCtorEq] at ey
    · cases ey
      refine .inr (ra1 R E ez fun vs H1 G1 da1 g R1 h1 sz => ?_)
      obtain ⟨v, rfl, h9⟩ := h1.one
      have h1 := h9.rd rfl
      cases h1 with
      | @tup p1 v1 _ k1 k2 =>
        exact ⟨p1, v1, rfl, same_sqt R1.same k1, q _ H1 G1 da1 g R1 (by rw [enumD_length, ← k2.length]; exact sz p1 v1 (.inr (same_sqt R1.same k1))) (drv_enum walk_enumT (fun H s => same_sqt s k1) k2)⟩
    · cases ey
      refine .inl (ra1 R E ez fun vs H1 G1 da1 g R1 h1 sz => ?_)
      obtain ⟨v, rfl, h9⟩ := h1.one
      have h1 := h9.rd rfl
      cases h1 with
      | @lst p1 v1 _ k1 k2 =>
        exact ⟨p1, v1, rfl, same_sql R1.same k1, q _ H1 G1 da1 g R1 (by rw [enumD_length, ← k2.length]; exact sz p1 v1 (.inl (same_sql R1.same k1))) (drv_enum walk_enum (fun H s => same_sql s k1) k2)⟩
end

/-! ### subscripts, slices -/
section
variable {K : PySem.W.Frag} {C : Call} {σ : L2.St} {H : Hp} {Q : VK}
theorem RDs.atI {G : Hp} {vs : List V} {ds : List D} {i : Int} {d : D} (h : RDs K G vs ds) (e : L2.atI ds i = some d) : ∃ v, L2.atI vs i = some v ∧ RD K G v d := by
  unfold L2.atI at e ⊢
  rw [h.length]
  cases hx : ixN ds.length i with
  | none => rw [hx] at e; cases e
  | some j =>
    rw [hx] at e
    obtain ⟨v, h1, h2⟩ := h.get (show ds[j]? = some d from e)
    exact ⟨v, h1, h2⟩
theorem paired_get {G : Hp} {k : Str} : ∀ {ks : List (Key × V)} {kvs : List (Str × D)} {d : D}, Paired (fun (p : Key × V) (q : Str × D) => p.1 = Sum.inr q.1 ∧ RD K G p.2 q.2) ks kvs → kvs.lookup k = some d → ∃ v, valV ks (Sum.inr k : Key) = some v ∧ RD K G v d
  | _, _, _, .nil, e => by simp at e
  | _, _, d, @Paired.cons _ _ _ p q _ _ h r, e => by
    obtain ⟨q1, q2⟩ := q
    rw [List.lookup_cons] at e
    by_cases hk : k = q1
    · subst hk
      simp at e
      subst e
      exact ⟨p.2, valV_pos h.1, h.2⟩
    · have hb : (k == q1) = false := by simpa using hk
      rw [hb] at e
      obtain ⟨v, h1, h2⟩ := paired_get r e
      refine ⟨v, ?_, h2⟩
      rw [valV_neg (by rw [h.1]; intro z; exact hk (Sum.inr.inj z).symm)]
      exact h1
theorem look_ref {G : Hp} {da : List Addr} {S : Sto} {x : V} {d : D} {n : Nat} (R : RelS K G H da S) (h : RT K G da x d) (e : look S d = .ref n) : d = .ref n ∧ ∃ a, x = .ref a ∧ da[n]? = some a := by
  rcases h with h | ⟨m, a, rfl, rfl, e'⟩ | ⟨a, dd, m, rfl, rfl, _⟩
  rotate_right
  · cases e
  · have e2 : look S d = d := by cases h <;> rfl
    rw [e2] at e
    subst e
    cases h
  · simp only [look] at e
    split at e
    · cases e
    · cases e
    · cases e; exact ⟨rfl, a, rfl, e'⟩
theorem rd_ix {a b : Tm} (h : rdE K C (.ix a b) σ H Q) : tOp (rIx K) (rdE K C a) (rdE K C b) σ H Q ∨ tDGet (rdE K C a) (rdE K C b) σ H Q := by
  obtain ⟨G, da, S, r, d, S', R, E, e, q⟩ := h
  simp only [sem] at e
  split at e
  · cases e
  · rename_i x S1 ea
    split at e
    · cases e
    · rename_i y S2 eb
      obtain ⟨z, ez, e2⟩ := Option.map_eq_some_iff.mp e
      cases e2
      simp only [ixD] at ez
      split at ez
      · rename_i xs k hx
        refine .inl (rd2 R E ea eb fun v u H2 G2 da2 g R2 h1 h2 => ?_)
        obtain ⟨p, vs, rfl, k1, k2⟩ := look_lst R2 h1 hx
        have h2 := h2.rd rfl
        cases h2
        obtain ⟨w, k3, k4⟩ := k2.atI ez
        exact .inl ⟨p, vs, k, w, rfl, rfl, k1, k3, (ends_of g q).here R2 k4⟩
      · rename_i xs k hx
        refine .inl (rd2 R E ea eb fun v u H2 G2 da2 g R2 h1 h2 => ?_)
        obtain ⟨p, vs, rfl, k1, _, k2⟩ := look_tup R2 h1 hx
        have h2 := h2.rd rfl
        cases h2
        obtain ⟨w, k3, k4⟩ := k2.atI ez
        exact .inr (.inl ⟨p, vs, k, w, rfl, rfl, k1, k3, (ends_of g q).here R2 k4⟩)
      · rename_i n k hx
        split at ez
        · rename_i kvs hn
          refine .inr (rd2 R E ea eb fun v u H2 G2 da2 g R2 h1 h2 => ?_)
          obtain ⟨_, p, rfl, hp⟩ := look_ref R2 h1 hx
          have h2 := h2.rd rfl
          cases h2
          obtain ⟨_, c, hc, k1⟩ := R2.cell n p hp
          rw [hn] at hc
          cases hc
          obtain ⟨ks, k2, k3⟩ := k1
          obtain ⟨w, k4, k5⟩ := paired_get k3 ez
          exact ⟨p, w, rfl, .inl ⟨ks, Sum.inr k, .inl k2, rfl, k4.symm⟩, (ends_of g q).here R2 k5⟩
        · cases ez
      · cases ez
theorem ro_nop {QO : Option Int → Hp → Prop} (h : rdO K C .nop σ H QO) : tNoPart σ H QO := by
  obtain ⟨G, da, S, r, d, S', R, E, e, q⟩ := h
  simp only [semO] at e
  cases e
  exact q H G da .refl R
theorem ro_some {a b : Tm} {QO : Option Int → Hp → Prop} (h : rdO K C (.cons a b) σ H QO) : tPart (rdE K C a) σ H QO := by
  obtain ⟨G, da, S, r, d, S', R, E, e, q⟩ := h
  simp only [semO] at e
  split at e
  · rename_i i S1 ea
    cases e
    refine rd1 R E ea fun v H1 G1 da1 g R1 h1 => ?_
    have h1 := h1.rd rfl
    cases h1
    exact ⟨i, rfl, q H1 G1 da1 g R1⟩
  · cases e
theorem rd_slc {a lo hi : Tm} (h : rdE K C (.slc a lo hi) σ H Q) : tSl (fun x l u H Q => rSlL K x l u H Q ∨ rSlA K x l u H Q) (rdE K C a) (rdO K C lo) (rdO K C hi) σ H Q := by
  obtain ⟨G, da, S, r, d, S', R, E, e, q⟩ := h
  simp only [sem] at e
  split at e
  · cases e
  · rename_i x S1 ea
    split at e
    · cases e
    · rename_i l S2 el
      split at e
      · cases e
      · rename_i u S3 eu
        obtain ⟨z, ez, e2⟩ := Option.map_eq_some_iff.mp e
        cases e2
        refine rd1 R E ea fun v H1 G1 da1 g1 R1 h1 => ⟨G1, da1, S1, r, l, S2, R1, E.mono g1, el, fun H2 G2 da2 g2 R2 => ⟨G2, da2, S2, r, u, S', R2, E.mono (g1.trans g2), eu, fun H3 G3 da3 g3 R3 => ?_⟩⟩
        have g := (g1.trans g2).trans g3
        have h1 := (h1.mono g2).mono g3
        have en := ends_of g q
        simp only [slcD] at ez
        split at ez
        · rename_i xs hx
          cases ez
          obtain ⟨p, vs, rfl, k1, k2⟩ := look_lst R3 h1 hx
          refine .inl ⟨p, vs, rfl, k1, fun p' hp => en.lst R3 ?_ hp⟩
          unfold cutV cutD
          rw [k2.length]
          exact (k2.drop _).take _
        · rename_i xs hx
          cases ez
          obtain ⟨p, vs, rfl, k1, g1', k2⟩ := look_tup R3 h1 hx
          refine .inr ⟨p, vs, rfl, k1, fun hw => ?_, fun hw p' hp => en.tup R3 ?_ hp⟩
          · have : cutD xs l u = xs := by
              unfold cutD
              rw [k2.length] at hw
              rw [hw.1, hw.2]
              simp
            rw [this] at en
            exact en.here R3 (.tup g1' k2)
          · unfold cutV cutD
            rw [k2.length]
            exact (k2.drop _).take _
        · cases ez
end
end AOne
end

section
set_option Elab.async false
set_option linter.all false
set_option maxRecDepth 100000
set_option maxHeartbeats 1000000
set_option autoImplicit false
/-! A9: comprehensions, displays of dicts. -/
namespace AOne
open PySem PySem.Spec L2

section
variable {K : PySem.W.Frag} {G H G' H' : Hp} {da da' : List Addr} {S : Sto}
/-- what is not in G and no cell may turn -/
theorem RelS.turn (R : RelS K G H da S) {p : Addr} {o : HO} (hg : G p = none) (hd : p ∉ da) : RelS K G (upd H p o) da S := by
  refine ⟨fun b x e => ?_, R.len, R.nd, fun n a e => ?_, R.nt⟩
  · have ne : b ≠ p := fun z => by rw [z, hg] at e; cases e
    rw [upd_ne ne]; exact R.same b x e
  · obtain ⟨h1, c, h2, h3⟩ := R.cell n a e
    have ne : a ≠ p := fun z => hd (z ▸ List.mem_of_getElem? e)
    exact ⟨h1, c, h2, h3.mono (Same.refl _) (upd_ne ne)⟩
theorem Grow.turn (x : Grow G H da G' H' da') {p : Addr} {o : HO} (hp : H p = none) : Grow G H da G' (upd H' p o) da' :=
  ⟨x.g, x.old, fun b o' e hb ht => by rw [upd_ne (ne_of_none e hp)]; exact x.keep b o' e hb ht, fun b h => by
    by_cases q : b = p
    · subst q; rw [upd_same]; simp
    · rw [upd_ne q]; exact x.there b h, x.pre, x.new⟩
theorem Grow.none (x : Grow G H da G' H' da') {p : Addr} (h : H' p = none) : H p = none := by
  cases z : H p with
  | none => rfl
  | some o => exact absurd h (x.there p (by rw [z]; simp))
theorem Grow.notIn (x : Grow G H da G' H' da') {p : Addr} {o : HO} (h : H p = some o) (hd : p ∉ da) : p ∉ da' := fun z => by
  rcases x.new p z with z | z
  · exact hd z
  · rw [h] at z; cases z
/-- what a walk gives is data -/
theorem yl_step {G1 : Hp} {xs : List D} {i : Nat} {x : V} (R : RelS K G H da S) (s : Same G1 G) (y : Yl K G1 xs i H x H') :
    ∃ G2 d, xs[i]? = some d ∧ Grow G H da G2 H' da ∧ RelS K G2 H' da S ∧ RD K G2 x d := by
  rcases y with ⟨rfl, d, h1, h2⟩ | ⟨T, us, ds, h1, rfl, h2, rfl, h3⟩
  · exact ⟨G, d, h1, .refl, R, h2.mono s⟩
  · exact ⟨upd G T (.tup us), _, h2, Grow.freeze (Grow.lay h1) h1 (R.gnone h1), (R.lay h1).freeze upd_same (R.gnone h1) (R.notIn h1), .tup upd_same ((h3.mono s).mono (same_fresh (R.gnone h1)))⟩
end

/-- what data and cells stand for stays -/
def Gr0 (G : Hp) (da : List Addr) (G' : Hp) (da' : List Addr) : Prop := Same G G' ∧ ∃ r, da' = da ++ r
theorem Grow.gr0 {G H G' H' : Hp} {da da' : List Addr} (x : Grow G H da G' H' da') : Gr0 G da G' da' := ⟨x.g, x.pre⟩
theorem Gr0.trans {G G' G2 : Hp} {da da' da2 : List Addr} (x : Gr0 G da G' da') (y : Gr0 G' da' G2 da2) : Gr0 G da G2 da2 := by
  obtain ⟨s1, r1, rfl⟩ := x
  obtain ⟨s2, r2, rfl⟩ := y
  exact ⟨s1.trans s2, r1 ++ r2, by rw [List.append_assoc]⟩
theorem RelE.mono0 {K : PySem.W.Frag} {G G' : Hp} {da da' : List Addr} {σ : L2.St} {r : Ev} (x : Gr0 G da G' da') (h : RelE K G da σ r) : RelE K G' da' σ r :=
  ⟨h.len, fun i d e => by
    obtain ⟨v, h1, h2⟩ := h.val i d e
    refine ⟨v, h1, ?_⟩
    rcases h2 with h2 | ⟨n, a, k1, k2, k3⟩ | ⟨a, dd, m, k1, k2, k3⟩
    · exact .inl (h2.mono x.1)
    · obtain ⟨_, r, rfl⟩ := x
      exact .inr (.inl ⟨n, a, k1, k2, by rw [List.getElem?_append_left (List.getElem?_eq_some_iff.mp k3).1]; exact k3⟩)
    · obtain ⟨_, r, rfl⟩ := x
      exact .inr (.inr ⟨a, dd, m, k1, k2, by rw [List.getElem?_append_left (List.getElem?_eq_some_iff.mp k3).1]; exact k3⟩)⟩
theorem drop_get {α : Type} : ∀ {l : List α} {i : Nat} {x : α}, l[i]? = some x → l.drop i = x :: l.drop (i + 1)
  | [], _, _, h => by simp at h
  | a :: l, 0, x, h => by simp at h; subst h; rfl
  | a :: l, i + 1, x, h => by simpa using drop_get (l := l) (i := i) (by simpa using h)

/-- one turn of a comprehension, as the meaning has it -/
def lcF (C : Call) (own : List Nat) (g : Tg) (c e : Tm) (r : Ev) : D → Sto → Option (Option D × Sto) := fun x S => match setG g x (wipeE r own) with
  | none => none
  | some r1 => match sem C c r1 S with
    | some (.bl true, S2) => match sem C e r1 S2 with
      | some (d, S3) => if isRef d then none else some (some d, S3)
      | none => none
    | some (.bl false, S2) => some (none, S2)
    | _ => none
theorem lcF_cases {C : Call} {own : List Nat} {g : Tg} {c e : Tm} {r : Ev} {x : D} {S S' : Sto} {o : Option D} (h : lcF C own g c e r x S = some (o, S')) :
    ∃ r1, setG g x (wipeE r own) = some r1 ∧ ((∃ S2 d, sem C c r1 S = some (.bl true, S2) ∧ sem C e r1 S2 = some (d, S') ∧ isRef d = false ∧ o = some d) ∨ (sem C c r1 S = some (.bl false, S') ∧ o = none)) := by
  unfold lcF at h
  split at h
  · cases h
  · rename_i r1 h1
    refine ⟨r1, h1, ?_⟩
    split at h
    · rename_i S2 h2
      split at h
      · rename_i d S3 h3
        split at h
        · cases h
        · rename_i hr
          cases h
          exact .inl ⟨S2, d, h2, h3, by simpa using hr, rfl⟩
      · cases h
    · rename_i S2 h2
      cases h
      exact .inr ⟨h2, rfl⟩
    · cases h
theorem mapL_cons {f : D → Sto → Option (Option D × Sto)} {x : D} {xs : List D} {S S' : Sto} {ds : List D} (h : mapL f (x :: xs) S = some (ds, S')) :
    ∃ o S1 es, f x S = some (o, S1) ∧ mapL f xs S1 = some (es, S') ∧ ds = o.toList ++ es := by
  rw [mapL] at h
  split at h
  · cases h
  · rename_i o S1 h1
    split at h
    · cases h
    · rename_i es S2 h2
      cases h
      refine ⟨o, S1, es, h1, h2, ?_⟩
      cases o <;> rfl
theorem flatL_cons {f : D → Sto → Option (List D × Sto)} {x : D} {xs : List D} {S S' : Sto} {ds : List D} (h : flatL f (x :: xs) S = some (ds, S')) :
    ∃ os S1 es, f x S = some (os, S1) ∧ flatL f xs S1 = some (es, S') ∧ ds = os ++ es := by
  rw [flatL] at h
  split at h
  · cases h
  · rename_i o S1 h1
    split at h
    · cases h
    · rename_i es S2 h2
      cases h
      exact ⟨o, S1, es, h1, h2, rfl⟩

section
variable {K : PySem.W.Frag} {C : Call} {σ : L2.St} {H : Hp} {Q : VK}
/-- how a comprehension's list stands on the way: D the list, base the entry, es what has come -/
structure Way (K : PySem.W.Frag) (G1 H1 : Hp) (da1 : List Addr) (D : Addr) (es : List AOne.D) (S : Sto) (G H : Hp) (da : List Addr) (acc : List V) : Prop where
  g : Grow G1 H1 da1 G H da
  R : RelS K G H da S
  at_ : H D = some (.lst acc)
  gn : G D = none
  nin : D ∉ da
  rd : RDs K G acc es
theorem Way.go {G1 H1 : Hp} {da1 : List Addr} {D : Addr} {es : List AOne.D} {S S' : Sto} {G H G' H' : Hp} {da da' : List Addr} {acc : List V} (w : Way K G1 H1 da1 D es S G H da acc) (x : Grow G H da G' H' da') (R : RelS K G' H' da' S') : Way K G1 H1 da1 D es S' G' H' da' acc :=
  ⟨w.g.trans x, R, x.keep D _ w.at_ w.nin (fun _ z => by cases z), x.old D (by rw [w.at_]; simp) (notCode w.at_ fun _ z => by cases z) w.gn w.nin, x.notIn w.at_ w.nin, w.rd.mono x.g⟩
theorem Way.put {G1 H1 : Hp} {da1 : List Addr} {D : Addr} {es : List AOne.D} {S : Sto} {G H : Hp} {da : List Addr} {acc : List V} {y : V} {d : AOne.D} (w : Way K G1 H1 da1 D es S G H da acc) (hD : H1 D = none) (h : RD K G y d) : Way K G1 H1 da1 D (es ++ [d]) S G (upd H D (.lst (acc ++ [y]))) da (acc ++ [y]) :=
  ⟨w.g.turn hD, w.R.turn w.gn w.nin, upd_same, w.gn, w.nin, w.rd.append (.cons h .nil)⟩
/-- a turn -/
theorem lc_turn {G1 H1 : Hp} {da1 : List Addr} {D : Addr} {own : List Nat} {g : Tg} {c e : Tm} {r : Ev} {Nx : Hp → Prop} {G : Hp} {da : List Addr} {S S' : Sto} {acc : List V} {es : List AOne.D} {x : V} {d : AOne.D} {o : Option AOne.D} {H2 : Hp}
    (hD : H1 D = none) (hs : ∀ i ∈ slots g, i ∈ own) (w : Way K G1 H1 da1 D es S G H2 da acc) (hx : RD K G x d) (E : RelE K G1 da1 σ r) (hf : lcF C own g c e r d S = some (o, S')) (hl : o ≠ none → acc.length < sizeLine)
    (q : ∀ G' H' da' acc', Way K G1 H1 da1 D (es ++ o.toList) S' G' H' da' acc' → Nx H') :
    rdG K g x (wipe σ own) H2 fun σ2 H2 => wipe σ2 own = wipe σ own ∧ rdT K C c σ2 H2 fun b H3 =>
      if b = true then rdE K C e σ2 H3 fun y H4 => ∃ acc, H4 D = some (.lst acc) ∧ acc.length < sizeLine ∧ Nx (upd H4 D (.lst (acc ++ [y]))) else Nx H3 := by
  obtain ⟨r1, h1, h2⟩ := lcF_cases hf
  refine ⟨G, da, S, wipeE r own, d, r1, w.R, (E.mono w.g).wipe own, .inl hx, h1, fun σ2 hw E2 => ⟨?_, ?_⟩⟩
  · have ww : ∀ (σ : L2.St) (vs : List Nat), wipe (wipe σ vs) vs = wipe σ vs := fun σ vs => by
      apply List.ext_getElem?
      intro j
      by_cases hj : j ∈ vs
      · have key : ∀ (τ : L2.St), (wipe τ vs)[j]? = if j < τ.length then some none else none := fun τ => by
          cases z : (wipe τ vs)[j]? with
          | none =>
            have := List.getElem?_eq_none_iff.mp z
            rw [wipe_length] at this
            rw [if_neg (by omega)]
          | some a =>
            have hlt := (List.getElem?_eq_some_iff.mp z).1
            rw [wipe_length] at hlt
            rw [if_pos hlt]
            cases a with
            | none => rfl
            | some a => exact absurd hj (wipe_some z).2
        rw [key, key, wipe_length]
      · rw [wipe_out hj]
    rw [hw own hs, ww]
  · rcases h2 with ⟨S2, d', k1, k2, k3, rfl⟩ | ⟨k1, rfl⟩
    · refine rdT1 w.R E2 k1 fun H3 G3 da3 g3 R3 => ?_
      rw [if_pos rfl]
      have w3 := w.go g3 R3
      refine rd1 R3 (E2.mono g3) k2 fun y H4 G4 da4 g4 R4 hy => ?_
      have w4 := w3.go g4 R4
      exact ⟨acc, w4.at_, hl (by simp), q _ _ _ _ (w4.put hD (hy.rd k3))⟩
    · refine rdT1 w.R E2 k1 fun H3 G3 da3 g3 R3 => ?_
      rw [if_neg (by decide)]
      have w3 := w.go g3 R3
      have w3 : Way K G1 H1 da1 D (es ++ (none : Option AOne.D).toList) S' G3 H3 da3 acc := by simpa using w3
      exact q _ _ _ _ w3
theorem rdF_lc {own : List Nat} {g : Tg} {it c e : Tm} (hs : ∀ i ∈ slots g, i ∈ own) (h : rdF K C (.lc own g it c e) σ H Q) : tLc (rdI K C it) (rdG K g) (rdT K C c) (rdE K C e) own σ H Q := by
  obtain ⟨G, da, S, r, ds, S', R, E, em, q⟩ := h
  simp only [sem] at em
  split at em
  · cases em
  · rename_i xs S1 ei
    obtain ⟨⟨ds', Sx⟩, em', e2⟩ := Option.map_eq_some_iff.mp em
    have e2 : (AOne.D.lst ds', Sx) = (AOne.D.lst ds, S') := e2
    have e3 : ds' = ds := by injection e2 with h1 h2; injection h1
    have e4 : Sx = S' := by injection e2
    rw [e3, e4] at em'
    refine ⟨G, da, S, r, xs, S1, R, E, ei, fun J H1 G1 da1 g1 R1 hlen drv D hD => ?_⟩
    have em : mapL (lcF C own g c e r) xs S1 = some (ds, S') := em'
    refine lc_it (D := D) drv (fun i H => ∃ G2 da2 Si acc es fs, Way K G1 H1 da1 D es Si G2 H da2 acc ∧ acc.length ≤ i ∧ mapL (lcF C own g c e r) (xs.drop i) Si = some (fs, S') ∧ ds = es ++ fs) ?_ ?_ ?_ ?_
    · refine ⟨G1, da1, S1, [], [], ds, ⟨Grow.lay hD, R1.lay hD, upd_same, R1.gnone hD, R1.notIn hD, .nil⟩, Nat.le_refl _, by simpa using em, by simp⟩
    · rintro i H2 _ ⟨G2, da2, Si, acc, es, fs, w, _⟩
      exact w.g.g.trans w.R.same
    · rintro i x H2 H3 hi ⟨G2, da2, Si, acc, es, fs, w, hl, em2, hds⟩ y
      obtain ⟨G3, d, hd, g3, R3, hx⟩ := yl_step w.R w.g.g y
      rw [drop_get hd] at em2
      obtain ⟨o, Sj, fs', k1, k2, rfl⟩ := mapL_cons em2
      refine lc_turn hD hs (w.go g3 R3) hx (E.mono g1) k1 (fun _ => by omega) fun G4 H4 da4 acc4 w4 => ?_
      refine ⟨G4, da4, Sj, acc4, es ++ o.toList, fs', w4, ?_, k2, by rw [hds]; simp⟩
      have e1 := w4.rd.length
      have e2 := w.rd.length
      rw [e1]
      simp only [List.length_append]
      have : o.toList.length ≤ 1 := by cases o <;> simp
      omega
    · rintro H2 ⟨G2, da2, Si, acc, es, fs, w, hl, em2, hds⟩
      rw [List.drop_length, mapL] at em2
      cases em2
      rw [List.append_nil] at hds
      subst hds
      exact q D acc H2 G2 da2 (g1.trans w.g) w.R (g1.none hD) w.at_ w.gn w.nin w.rd
/-- the outer turn of two clauses -/
def lccF (C : Call) (own vs : List Nat) (g : Tg) (c : Tm) (g' : Tg) (it' c' e : Tm) (r : Ev) : D → Sto → Option (List D × Sto) := fun x S => match setG g x (wipeE r own) with
  | none => none
  | some r1 => match sem C c r1 S with
    | some (.bl true, S2) => match semI C it' r1 S2 with
      | none => none
      | some (ys, S3) => mapL (lcF C vs g' c' e r1) ys S3
    | some (.bl false, S2) => some ([], S2)
    | _ => none
theorem lccF_cases {own vs : List Nat} {g g' : Tg} {c it' c' e : Tm} {r : Ev} {x : D} {S S' : Sto} {os : List D} (h : lccF C own vs g c g' it' c' e r x S = some (os, S')) :
    ∃ r1, setG g x (wipeE r own) = some r1 ∧ ((∃ S2 ys S3, sem C c r1 S = some (.bl true, S2) ∧ semI C it' r1 S2 = some (ys, S3) ∧ mapL (lcF C vs g' c' e r1) ys S3 = some (os, S')) ∨ (sem C c r1 S = some (.bl false, S') ∧ os = [])) := by
  unfold lccF at h
  split at h
  · cases h
  · rename_i r1 h1
    refine ⟨r1, h1, ?_⟩
    split at h
    · rename_i S2 h2
      split at h
      · cases h
      · rename_i ys S3 h3
        exact .inl ⟨S2, ys, S3, h2, h3, h⟩
    · rename_i S2 h2
      cases h
      exact .inr ⟨h2, rfl⟩
    · cases h
theorem wipe_wipe (σ : L2.St) (vs : List Nat) : wipe (wipe σ vs) vs = wipe σ vs := by
  apply List.ext_getElem?
  intro j
  by_cases hj : j ∈ vs
  · have key : ∀ (τ : L2.St), (wipe τ vs)[j]? = if j < τ.length then some none else none := fun τ => by
      cases z : (wipe τ vs)[j]? with
      | none =>
        have := List.getElem?_eq_none_iff.mp z
        rw [wipe_length] at this
        rw [if_neg (by omega)]
      | some a =>
        have hlt := (List.getElem?_eq_some_iff.mp z).1
        rw [wipe_length] at hlt
        rw [if_pos hlt]
        cases a with
        | none => rfl
        | some a => exact absurd hj (wipe_some z).2
    rw [key, key, wipe_length]
  · rw [wipe_out hj]
theorem rdF_lcc {own vs : List Nat} {g g' : Tg} {it c it' c' e : Tm} (hs : ∀ i ∈ slots g, i ∈ own) (hs' : ∀ i ∈ slots g', i ∈ vs) (h : rdF K C (.lcc own vs g it c g' it' c' e) σ H Q) : tLc2 (rdI K C it) (rdG K g) (rdT K C c) (rdI K C it') (rdG K g') (rdT K C c') (rdE K C e) own vs σ H Q := by
  obtain ⟨G, da, S, r, ds, S', R, E, em, q⟩ := h
  simp only [sem] at em
  split at em
  · cases em
  · rename_i xs S1 ei
    split at em
    · rename_i ds' S2 ef
      split at em
      · rename_i hz
        cases em
        have hz : ds.length ≤ sizeLine := of_decide_eq_true hz
        have em : flatL (lccF C own vs g c g' it' c' e r) xs S1 = some (ds, S') := ef
        refine ⟨G, da, S, r, xs, S1, R, E, ei, fun J H1 G1 da1 g1 R1 hlen drv D hD => ?_⟩
        refine ⟨fun i m H => m = xs.length - i ∧ i ≤ xs.length ∧ ∃ G2 da2 Si acc es fs, Way K G1 H1 da1 D es Si G2 H da2 acc ∧ flatL (lccF C own vs g c g' it' c' e r) (xs.drop i) Si = some (fs, S') ∧ ds = es ++ fs, ⟨xs.length, by simp, Nat.zero_le _, ?_⟩, ?_⟩
        · exact ⟨G1, da1, S1, [], [], ds, ⟨Grow.lay hD, R1.lay hD, upd_same, R1.gnone hD, R1.notIn hD, .nil⟩, by simpa using em, by simp⟩
        · rintro i m H2 ⟨rfl, hi, G2, da2, Si, acc, es, fs, w, em2, hds⟩
          have sm : Same G1 H2 := w.g.g.trans w.R.same
          by_cases hlt : i < xs.length
          · refine .inr ⟨drv.goes i H2 hlt sm, fun H => i + 1 ≤ xs.length ∧ ∃ G2 da2 Si acc es fs, Way K G1 H1 da1 D es Si G2 H da2 acc ∧ flatL (lccF C own vs g c g' it' c' e r) (xs.drop (i + 1)) Si = some (fs, S') ∧ ds = es ++ fs, fun H' p => ⟨xs.length - (i + 1), by omega, rfl, p⟩, fun x H3 y => ?_⟩
            obtain ⟨G3, d, hd, g3, R3, hx⟩ := yl_step w.R w.g.g (drv.yields i H2 x H3 hlt sm y)
            rw [drop_get hd] at em2
            obtain ⟨os, Sj, fs', k1, k2, rfl⟩ := flatL_cons em2
            have w3 := w.go g3 R3
            obtain ⟨r1, h1, h2⟩ := lccF_cases k1
            refine ⟨G3, da2, Si, wipeE r own, d, r1, R3, ((E.mono g1).mono w3.g).wipe own, .inl hx, h1, fun σ2 hw E2 => ⟨by rw [hw own hs, wipe_wipe], ?_⟩⟩
            rcases h2 with ⟨S2, ys, S3, j1, j2, j3⟩ | ⟨j1, rfl⟩
            · refine rdT1 R3 E2 j1 fun H4 G4 da4 g4 R4 => ?_
              rw [if_pos rfl]
              refine ⟨G4, da4, S2, r1, ys, S3, R4, E2.mono g4, j2, fun J1 H5 G5 da5 g5 R5 hlen5 drv5 => ?_⟩
              have w5 := (w3.go g4 R4).go g5 R5
              refine ⟨fun j k H => k = ys.length - j ∧ j ≤ ys.length ∧ ∃ G6 da6 Sk acc es1 es2, Gr0 G5 da5 G6 da6 ∧ Way K G1 H1 da1 D (es ++ es1) Sk G6 H da6 acc ∧ mapL (lcF C vs g' c' e r1) (ys.drop j) Sk = some (es2, Sj) ∧ os = es1 ++ es2, ⟨ys.length, by simp, Nat.zero_le _, ?_⟩, ?_⟩
              · exact ⟨G5, da5, S3, acc, [], os, ⟨Same.refl _, [], by simp⟩, by simpa using w5, by simpa using j3, by simp⟩
              · rintro j k H6 ⟨rfl, hj, G6, da6, Sk, acc6, es1, es2, g6, w6, em6, hos⟩
                have sm6 : Same G5 H6 := g6.1.trans w6.R.same
                by_cases hlt6 : j < ys.length
                · refine .inr ⟨drv5.goes j H6 hlt6 sm6, fun H => j + 1 ≤ ys.length ∧ ∃ G6 da6 Sk acc es1 es2, Gr0 G5 da5 G6 da6 ∧ Way K G1 H1 da1 D (es ++ es1) Sk G6 H da6 acc ∧ mapL (lcF C vs g' c' e r1) (ys.drop (j + 1)) Sk = some (es2, Sj) ∧ os = es1 ++ es2, fun H' p => ⟨ys.length - (j + 1), by omega, rfl, p⟩, fun x7 H7 y7 => ?_⟩
                  obtain ⟨G7, d7, hd7, g7, R7, hx7⟩ := yl_step w6.R g6.1 (drv5.yields j H6 x7 H7 hlt6 sm6 y7)
                  rw [drop_get hd7] at em6
                  obtain ⟨o, Sl, es3, l1, l2, rfl⟩ := mapL_cons em6
                  have w7 := w6.go g7 R7
                  have g57 : Gr0 G5 da5 G7 da6 := g6.trans g7.gr0
                  -- as a turn from the entry of the inner loop
                  obtain ⟨r2, m1, m2⟩ := lcF_cases l1
                  refine ⟨G7, da6, Sk, wipeE r1 vs, d7, r2, R7, (((E2.mono g4).mono g5).mono0 g57).wipe vs, .inl hx7, m1, fun σ3 hw3 E3 => ⟨by rw [hw3 vs hs', wipe_wipe], ?_⟩⟩
                  rcases m2 with ⟨S8, d8, n1, n2, n3, rfl⟩ | ⟨n1, rfl⟩
                  · refine rdT1 R7 E3 n1 fun H8 G8 da8 g8 R8 => ?_
                    rw [if_pos rfl]
                    refine rd1 R8 (E3.mono g8) n2 fun y9 H9 G9 da9 g9 R9 hy9 => ?_
                    have w9 := (w7.go g8 R8).go g9 R9
                    have hlen9 : acc6.length < sizeLine := by
                      have q1 := w9.rd.length
                      rw [hds, hos] at hz
                      simp only [List.length_append, Option.toList_some, List.length_cons, List.length_nil] at hz q1
                      omega
                    have hD5 : H5 D ≠ none := by rw [w5.at_]; simp
                    refine ⟨acc6, w9.at_, hlen9, hlt6, G9, da9, Sl, acc6 ++ [y9], es1 ++ [d8], es3, ?_, ?_, l2, by rw [hos]; simp⟩
                    · exact (g57.trans g8.gr0).trans g9.gr0
                    · have := w9.put hD (hy9.rd n3)
                      simpa using this
                  · refine rdT1 R7 E3 n1 fun H8 G8 da8 g8 R8 => ?_
                    rw [if_neg (by decide)]
                    exact ⟨hlt6, G8, da8, Sl, acc6, es1, es3, g57.trans g8.gr0, w7.go g8 R8, l2, by rw [hos]; simp⟩
                · have ej : j = ys.length := by omega
                  subst ej
                  rw [List.drop_length, mapL] at em6
                  cases em6
                  rw [List.append_nil] at hos
                  subst hos
                  exact .inl ⟨drv5.stops H6 sm6, hlt, G6, da6, _, acc6, es ++ os, fs', w6, k2, by rw [hds]; simp⟩
            · refine rdT1 R3 E2 j1 fun H4 G4 da4 g4 R4 => ?_
              rw [if_neg (by decide)]
              exact ⟨hlt, G4, da4, Sj, acc, es, fs', w3.go g4 R4, k2, by rw [hds]; simp⟩
          · have ei' : i = xs.length := by omega
            subst ei'
            rw [List.drop_length, flatL] at em2
            cases em2
            rw [List.append_nil] at hds
            subst hds
            exact .inl ⟨drv.stops H2 sm, q D acc H2 G2 da2 (g1.trans w.g) w.R (g1.none hD) w.at_ w.gn w.nin w.rd⟩
      · cases em
    · cases em
end
end AOne
end

section
set_option Elab.async false
set_option linter.all false
set_option maxRecDepth 100000
set_option maxHeartbeats 1000000
set_option autoImplicit false
/-! A10: statements, stores into cells, isinstance, displays of dicts. -/
namespace AOne
open PySem PySem.Spec L2

/-! ### isinstance -/
def tyName : D → String
  | .non => "NoneType"
  | .bl _ => "bool"
  | .int _ => "int"
  | .str _ => "str"
  | .tup _ => "tuple"
  | .lst _ => "list"
  | .ref _ => "list"
  | .obj _ _ _ => "list"
def tyStr : Ty → String
  | .tstr => "str"
  | .tint => "int"
  | .tbool => "bool"
  | .ttuple => "tuple"
  | .tlist => "list"
theorem kit_ty {K : PySem.W.Frag} {d : D} {t : Ty} (h : isRef d = false) : PySem.W.kitOne K (.type (tyName d)) (.type (tyStr t)) = some (isTy t d) := by
  have k : ∀ a b : String, PySem.W.kitOne K (.type a) (.type b) = PySem.W.kitOne [] (.type a) (.type b) := fun a b => by
    unfold PySem.W.kitOne
    split
    · rfl
    · rfl
  rw [k]
  cases d <;> cases t <;> first | (cases h; done) | (simp only [tyName, tyStr, isTy]; kernel_rfl)
theorem ty_of {K : PySem.W.Frag} {G H : Hp} {v : V} {d : D} (s : Same G H) (h : RD K G v d) : TyX K H v (.type (tyName d)) := by
  cases h with
  | non => exact .base .non
  | bl b => exact .base (.bl b)
  | int i => exact .base (.int i)
  | str x _ => exact .base (.str x)
  | tup h1 h2 =>
    rcases same_sqt s h1 with (e | ⟨o, e⟩) | ⟨o, its, n, e, c, _⟩
    · exact .base (.tup e)
    · exact .fTuple e
    · exact .kTuple e c
  | lst h1 h2 =>
    rcases same_sql s h1 with (e | ⟨o, e⟩) | ⟨o, its, n, e, c, _⟩
    · exact .base (.lst e)
    · exact .base (.frz e)
    · exact .kList e c

section
variable {K : PySem.W.Frag} {C : Call} {σ : L2.St} {H : Hp}
theorem rd_isi {Q : VK} {t : Ty} {a : Tm} (h : rdE K C (.pr (.isi t) (.cons a .nil)) σ H Q) : tCB (rIsi K) (tCons (rdE K C a) (tCons (tC (.ty (tyStr t))) tNil)) σ H Q := by
  obtain ⟨G, da, S, r, d, S', R, E, e, q⟩ := h
  simp only [sem, semA] at e
  split at e
  · cases e
  · rename_i vs S1 ea
    split at ea
    · cases ea
    · rename_i x S2 ex
      cases ea
      obtain ⟨z, ez, e2⟩ := Option.map_eq_some_iff.mp e
      cases e2
      simp only [prD] at ez
      cases x with
      | ref n => simp at ez
      | obj n dd m => simp at ez
      | _ =>
        cases ez
        refine rd1 R E ex fun v H1 G1 da1 g R1 h1 => ?_
        exact ⟨v, .ty (tyStr t), _, .type (tyStr t), _, rfl, .ty _, ty_of R1.same (h1.rd rfl), kit_ty rfl, (ends_of g q).here R1 (.bl _)⟩

/-! ### statements -/
/-- how a statement's end meets its wish -/
def Meet (K : PySem.W.Frag) (Z : Ends) (G H : Hp) (da : List Addr) (S' : Sto) : Fl → Prop
  | .nx r' => ∀ σ' H' G' da', Grow G H da G' H' da' → RelS K G' H' da' S' → RelE K G' da' σ' r' → Z.nx σ' H'
  | .bk r' => ∀ σ' H' G' da', Grow G H da G' H' da' → RelS K G' H' da' S' → RelE K G' da' σ' r' → Z.bk σ' H'
  | .ct r' => ∀ σ' H' G' da', Grow G H da G' H' da' → RelS K G' H' da' S' → RelE K G' da' σ' r' → Z.ct σ' H'
  | .rt d => ∀ v H' G' da', Grow G H da G' H' da' → RelS K G' H' da' S' → RT K G' da' v d → Z.rt v H'
theorem rdS_iff {s : Sm} {Z : Ends} : rdS K C s Z σ H ↔ ∃ G da S r f S', RelS K G H da S ∧ RelE K G da σ r ∧ exe C s r S = some (f, S') ∧ Meet K Z G H da S' f := by
  constructor
  · rintro ⟨G, da, S, r, f, S', R, E, e, q⟩
    refine ⟨G, da, S, r, f, S', R, E, e, ?_⟩
    cases f <;> exact q
  · rintro ⟨G, da, S, r, f, S', R, E, e, q⟩
    refine ⟨G, da, S, r, f, S', R, E, e, ?_⟩
    cases f <;> exact q
theorem Meet.grow {Z : Ends} {G G1 H1 : Hp} {da da1 : List Addr} {S' : Sto} {f : Fl} (g : Grow G H da G1 H1 da1) (h : Meet K Z G H da S' f) : Meet K Z G1 H1 da1 S' f := by
  cases f <;> exact fun a H' G' da' g' => h a H' G' da' (g.trans g')
theorem Meet.loose {Z Z' : Ends} {G : Hp} {da : List Addr} {S' : Sto} {f : Fl} (h : Meet K Z G H da S' f) (h1 : ∀ σ H, Z.nx σ H → Z'.nx σ H) (h2 : ∀ σ H, Z.bk σ H → Z'.bk σ H) (h3 : ∀ σ H, Z.ct σ H → Z'.ct σ H) (h4 : ∀ v H, Z.rt v H → Z'.rt v H) : Meet K Z' G H da S' f := by
  cases f with
  | nx r => exact fun a H' G' da' g R E => h1 _ _ (h a H' G' da' g R E)
  | bk r => exact fun a H' G' da' g R E => h2 _ _ (h a H' G' da' g R E)
  | ct r => exact fun a H' G' da' g R E => h3 _ _ (h a H' G' da' g R E)
  | rt r => exact fun a H' G' da' g R E => h4 _ _ (h a H' G' da' g R E)
variable {Z : Ends}
theorem rs_skip (h : rdS K C .skip Z σ H) : tNext Z σ H := by
  obtain ⟨G, da, S, r, f, S', R, E, e, q⟩ := rdS_iff.mp h
  simp only [exe] at e
  cases e
  exact q σ H G da .refl R E
theorem rs_brk (h : rdS K C .brk Z σ H) : tBreak Z σ H := by
  obtain ⟨G, da, S, r, f, S', R, E, e, q⟩ := rdS_iff.mp h
  simp only [exe] at e
  cases e
  exact q σ H G da .refl R E
theorem rs_cont (h : rdS K C .cont Z σ H) : tCont Z σ H := by
  obtain ⟨G, da, S, r, f, S', R, E, e, q⟩ := rdS_iff.mp h
  simp only [exe] at e
  cases e
  exact q σ H G da .refl R E
theorem rs_never (h : rdS K C .never Z σ H) : tNever Z σ H := by
  obtain ⟨G, da, S, r, f, S', R, E, e, q⟩ := rdS_iff.mp h
  simp [exe] at e
theorem rs_retn (h : rdS K C .retn Z σ H) : tRetN Z σ H := by
  obtain ⟨G, da, S, r, f, S', R, E, e, q⟩ := rdS_iff.mp h
  simp only [exe] at e
  cases e
  exact q .non H G da .refl R (.inl .non)
theorem rs_ret {a : Tm} (h : rdS K C (.ret a) Z σ H) : tRet (rdE K C a) Z σ H := by
  obtain ⟨G, da, S, r, f, S', R, E, e, q⟩ := rdS_iff.mp h
  simp only [exe] at e
  split at e
  · cases e
  · rename_i d S1 ea
    cases e
    exact rd1 R E ea q
theorem rs_drop {a : Tm} (h : rdS K C (.drop a) Z σ H) : tDrop (rdE K C a) Z σ H := by
  obtain ⟨G, da, S, r, f, S', R, E, e, q⟩ := rdS_iff.mp h
  simp only [exe] at e
  split at e
  · cases e
  · rename_i d S1 ea
    cases e
    exact rd1 R E ea fun v H1 G1 da1 g R1 _ => q σ H1 G1 da1 g R1 (E.mono g)
theorem rs_seq {a b : Sm} (h : rdS K C (.seq a b) Z σ H) : tSeq (rdS K C a) (rdS K C b) Z σ H := by
  obtain ⟨G, da, S, r, f, S', R, E, e, q⟩ := rdS_iff.mp h
  simp only [exe] at e
  split at e
  · rename_i r1 S1 ea
    refine rdS_iff.mpr ⟨G, da, S, r, _, S1, R, E, ea, fun σ1 H1 G1 da1 g R1 E1 => ?_⟩
    exact rdS_iff.mpr ⟨G1, da1, S1, r1, f, S', R1, E1, e, q.grow g⟩
  · rename_i hn
    refine rdS_iff.mpr ⟨G, da, S, r, f, S', R, E, e, ?_⟩
    cases f with
    | nx r' => exact absurd e (hn _ _)
    | bk r' => exact q
    | ct r' => exact q
    | rt d => exact q
theorem rs_ite {c : Tm} {a b : Sm} (h : rdS K C (.ite c a b) Z σ H) : tIfS (rdT K C c) (rdS K C a) (rdS K C b) Z σ H := by
  obtain ⟨G, da, S, r, f, S', R, E, e, q⟩ := rdS_iff.mp h
  simp only [exe] at e
  split at e
  · rename_i S1 ea
    refine rdT1 R E ea fun H1 G1 da1 g R1 => ?_
    rw [if_pos rfl]
    exact rdS_iff.mpr ⟨G1, da1, S1, r, f, S', R1, E.mono g, e, q.grow g⟩
  · rename_i S1 ea
    refine rdT1 R E ea fun H1 G1 da1 g R1 => ?_
    rw [if_neg (by decide)]
    exact rdS_iff.mpr ⟨G1, da1, S1, r, f, S', R1, E.mono g, e, q.grow g⟩
  · cases e
theorem rs_asg {g : Tg} {a : Tm} (h : rdS K C (.asg g a) Z σ H) : tAsg (rdE K C a) (rdG K g) Z σ H := by
  obtain ⟨G, da, S, r, f, S', R, E, e, q⟩ := rdS_iff.mp h
  simp only [exe] at e
  split at e
  · cases e
  · rename_i d S1 ea
    split at e
    · cases e
    · rename_i r1 eg
      cases e
      exact rd1 R E ea fun v H1 G1 da1 g1 R1 h1 => ⟨G1, da1, _, r, d, r1, R1, E.mono g1, h1, eg, fun σ' _ E' => q σ' H1 G1 da1 g1 R1 E'⟩
/-- names stored from a row of values -/
def setAllV : List Nat → List V → L2.St → L2.St
  | i :: is, v :: vs, σ => setAllV is vs (σ.set i (some v))
  | _, _, σ => σ
theorem RelE.setAll {G : Hp} {da : List Addr} : ∀ {is : List Nat} {vs : List V} {ds : List D} {σ : L2.St} {r : Ev}, RelE K G da σ r → RTs K G da vs ds → RelE K G da (setAllV is vs σ) (AOne.setAll is ds r)
  | [], _, _, _, _, E, _ => by simpa [setAllV, AOne.setAll] using E
  | _ :: _, [], [], _, _, E, _ => by simpa [setAllV, AOne.setAll] using E
  | i :: is, v :: vs, d :: ds, σ, r, E, .cons h t => by
    simp only [setAllV, AOne.setAll]
    exact RelE.setAll (E.set h) t
def tParN (is : List Nat) (ta : TA) : TS := fun D σ H => ta σ H fun vs H1 => vs.length = is.length ∧ D.nx (setAllV is vs σ) H1
theorem rs_par {is : List Nat} {a : Tm} (h : rdS K C (.par is a) Z σ H) : tParN is (rdA K C a) Z σ H := by
  obtain ⟨G, da, S, r, f, S', R, E, e, q⟩ := rdS_iff.mp h
  simp only [exe] at e
  split at e
  · cases e
  · rename_i ds S1 ea
    split at e
    · rename_i hb
      cases e
      rw [Bool.and_eq_true] at hb
      refine ra1 R E ea fun vs H1 G1 da1 g R1 h1 => ⟨by rw [h1.length]; exact (of_decide_eq_true hb.1).symm, q _ H1 G1 da1 g R1 (RelE.setAll (E.mono g) h1)⟩
    · cases e
/-- the same by way of a tuple -/
def gNames : List Nat → TGs
  | [] => gNil
  | i :: is => gCons (gName i) (gNames is)
theorem gNames_all : ∀ {is : List Nat} {vs : List V} {σ : L2.St} {H : Hp} {Q : L2.St → Hp → Prop}, vs.length = is.length → Q (setAllV is vs σ) H → gNames is vs σ H Q
  | [], [], _, _, _, _, q => ⟨rfl, by simpa [setAllV] using q⟩
  | _ :: _, [], _, _, _, h, _ => by simp at h
  | [], _ :: _, _, _, _, h, _ => by simp at h
  | i :: is, v :: vs, σ, H, Q, h, q => ⟨v, vs, rfl, gNames_all (by simpa using h) (by simpa [setAllV] using q)⟩
theorem rs_parT {is : List Nat} {a : Tm} (hz : is.length ≤ 100) (h : rdS K C (.par is a) Z σ H) : tAsg (tTup (rdA K C a)) (gTup K is.length (gNames is)) Z σ H := by
  obtain ⟨G, da, S, r, f, S', R, E, e, q⟩ := rdS_iff.mp h
  simp only [exe] at e
  split at e
  · cases e
  · rename_i ds S1 ea
    split at e
    · rename_i hb
      cases e
      rw [Bool.and_eq_true] at hb
      have hl : is.length = ds.length := of_decide_eq_true hb.1
      refine ra1 R E ea fun vs H1 G1 da1 g R1 h1 => ?_
      have hv : vs.length = is.length := by rw [h1.length, hl]
      refine ⟨by rw [hv, sizeLine_eq]; omega, fun p hp => ⟨p, vs, rfl, SqT.of upd_same, hv, gNames_all hv ?_⟩⟩
      exact q _ _ G1 da1 (g.trans (Grow.lay hp)) (R1.lay hp) (RelE.setAll (E.mono g) h1)
    · cases e
/-! cells -/
theorem RelS.cellset {G : Hp} {da : List Addr} {S : Sto} (R : RelS K G H da S) {n : Nat} {a : Addr} {o : HO} {c : Cell} (ha : da[n]? = some a) (hl : ∀ xs, S[n]? ≠ some (.fro xs)) (hc : ∀ H', H' a = some o → CellOk K G H' a c) : RelS K G (upd H a o) da (S.set n c) := by
  have hn : n < S.length := by rw [← R.len]; exact (List.getElem?_eq_some_iff.mp ha).1
  have hga : G a = none := (R.cell n a ha).1.elim id fun ⟨x0, z⟩ => absurd z (hl x0)
  refine ⟨fun b x e => ?_, by rw [List.length_set]; exact R.len, R.nd, fun m b e => ?_, R.nt⟩
  · have ne : b ≠ a := fun z => by rw [z, hga] at e; cases e
    rw [upd_ne ne]; exact R.same b x e
  · obtain ⟨h1, c', h2, h3⟩ := R.cell m b e
    by_cases hm : n = m
    · subst hm
      rw [ha] at e; cases e
      exact ⟨.inl hga, c, by rw [List.getElem?_set_self hn], hc _ upd_same⟩
    · have ne : b ≠ a := fun z => by
        subst z
        have l1 := (List.getElem?_eq_some_iff.mp ha)
        have l2 := (List.getElem?_eq_some_iff.mp e)
        exact hm ((List.getElem_inj R.nd).mp (l1.2.trans l2.2.symm))
      exact ⟨h1.imp id (fun ⟨xs0, z⟩ => ⟨xs0, by rw [List.getElem?_set_ne hm]; exact z⟩), c', by rw [List.getElem?_set_ne hm]; exact h2, h3.mono (Same.refl _) (upd_ne ne)⟩
theorem Grow.cellset {G : Hp} {da : List Addr} {a : Addr} {o : HO} (ha : a ∈ da) : Grow G H da G (upd H a o) da :=
  ⟨Same.refl _, fun _ _ _ h _ => h, fun b x e hb _ => by rw [upd_ne (fun z : b = a => hb (z ▸ ha))]; exact e, fun b h => by
    by_cases z : b = a
    · subst z; rw [upd_same]; simp
    · rw [upd_ne z]; exact h, ⟨[], by simp⟩, fun _ h => .inl h⟩
theorem rd_cell {G : Hp} {da : List Addr} {S : Sto} {n : Nat} {v : V} (R : RelS K G H da S) (h : RT K G da v (.ref n)) : ∃ a, v = .ref a ∧ da[n]? = some a := by
  rcases h with h | ⟨m, a, e1, e2, e3⟩ | ⟨a, dd, m, e1, _⟩
  rotate_right
  · cases e1
  · cases h
  · cases e1; exact ⟨a, e2, e3⟩
theorem cell_lst {G : Hp} {da : List Addr} {S : Sto} {n : Nat} {a : Addr} {xs : List D} (R : RelS K G H da S) (ha : da[n]? = some a) (hs : S[n]? = some (.lst xs)) : ∃ vs, H a = some (.lst vs) ∧ RDs K G vs xs := by
  obtain ⟨_, c, h2, h3⟩ := R.cell n a ha
  rw [hs] at h2
  cases h2
  exact h3
theorem isLst_ok {S : Sto} {n : Nat} (h : ¬ (!isLst S n) = true) : ∃ xs, S[n]? = some (.lst xs) := by
  unfold isLst at h
  split at h
  · rename_i xs e; exact ⟨xs, e⟩
  · simp at h
theorem ty_cell {G : Hp} {da : List Addr} {S : Sto} {n : Nat} {p : Addr} (R : RelS K G H da S) (hp : da[n]? = some p) (h : ∃ xs, S[n]? = some (.lst xs)) : tyV K "list" (.ref p) H := by
  obtain ⟨xs, h⟩ := h
  obtain ⟨vs, k1, _⟩ := cell_lst R hp h
  exact .inl ⟨rfl, vs, SqL.of k1⟩
theorem RelS.kill {G : Hp} {da : List Addr} {S : Sto} (R : RelS K G H da S) {n : Nat} {p : Addr} {vs : List V} {xs : List D} (hp : da[n]? = some p) (hl : S[n]? = some (.lst xs)) (ho : H p = some (.lst vs)) (hr : RDs K G vs xs) : RelS K (upd G p (.lst vs)) H da (S.set n (.fro xs)) := by
  have hn : n < S.length := by rw [← R.len]; exact (List.getElem?_eq_some_iff.mp hp).1
  have hg : G p = none := (R.cell n p hp).1.elim id fun ⟨x0, z⟩ => by rw [hl] at z; cases z
  refine ⟨fun b x e => ?_, by rw [List.length_set]; exact R.len, R.nd, fun m b e => ?_, fun b ps z => ?_⟩
  rotate_right
  · by_cases q : b = p
    · subst q; rw [upd_same] at z; cases z
    · rw [upd_ne q] at z; exact R.nt b ps z
  · by_cases q : b = p
    · subst q; rw [upd_same] at e; cases e; exact ho
    · rw [upd_ne q] at e; exact R.same b x e
  · obtain ⟨h1, c, h2, h3⟩ := R.cell m b e
    by_cases hm : n = m
    · subst hm
      rw [hp] at e; cases e
      exact ⟨.inr ⟨xs, by rw [List.getElem?_set_self hn]⟩, .fro xs, by rw [List.getElem?_set_self hn], vs, upd_same, hr.mono (same_fresh hg)⟩
    · have ne : b ≠ p := fun z => by
        subst z
        have l1 := (List.getElem?_eq_some_iff.mp hp)
        have l2 := (List.getElem?_eq_some_iff.mp e)
        exact hm ((List.getElem_inj R.nd).mp (l1.2.trans l2.2.symm))
      exact ⟨h1.imp (fun z => by rw [upd_ne ne]; exact z) (fun ⟨x0, z⟩ => ⟨x0, by rw [List.getElem?_set_ne hm]; exact z⟩), c, by rw [List.getElem?_set_ne hm]; exact h2, h3.mono (same_fresh hg) rfl⟩
theorem Grow.kill {G : Hp} {da : List Addr} {p : Addr} {o : HO} (hp : p ∈ da) (hg : G p = Option.none) : Grow G H da (upd G p o) H da :=
  ⟨same_fresh hg, fun b _ _ h hb => by rw [upd_ne (fun z : b = p => hb (z ▸ hp))]; exact h, fun _ _ h _ _ => h, fun _ h => h, ⟨[], by simp⟩, fun _ h => .inl h⟩
theorem rd_frz {i : Nat} {Q : VK} (h : rdE K C (.frz (.var i)) σ H Q) : rdE K C (.var i) σ H Q := by
  obtain ⟨G, da, S, r, d, S', R, E, e, q⟩ := h
  rw [sem] at e
  split at e
  · rename_i n S1 ea
    split at e
    · rename_i xs hs
      cases e
      refine ⟨G, da, S, r, .ref n, S1, R, E, ea, fun v H1 G1 da1 g R1 h1 => ?_⟩
      obtain ⟨p, rfl, hp⟩ := rd_cell R1 h1
      obtain ⟨vs, k1, k2⟩ := cell_lst R1 hp hs
      have hg : G1 p = none := (R1.cell n p hp).1.elim id fun ⟨x0, z⟩ => by rw [hs] at z; cases z
      exact q _ H1 (upd G1 p (.lst vs)) da1 (g.trans (Grow.kill (List.mem_of_getElem? hp) hg)) (R1.kill hp hs k1 k2) (.inl (.lst (SqL.of upd_same) (k2.mono (same_fresh hg))))
    · cases e
  · cases e
theorem rs_app {o a : Tm} (h : rdS K C (.app o a) Z σ H) : tDrop (tBM K "list" rAppend (rdE K C o) (tCons (rdE K C a) tNil)) Z σ H := by
  obtain ⟨G, da, S, r, f, S', R, E, e, q⟩ := rdS_iff.mp h
  simp only [exe] at e
  split at e
  · rename_i n S1 eo
    split at e
    · cases e
    · rename_i hq
      split at e
      · cases e
      · rename_i d S2 ea
        split at e
        · rename_i xs hs
          split at e
          · cases e
          · rename_i hb
            cases e
            simp only [Bool.or_eq_true, Bool.not_eq_true', decide_eq_false_iff_not, not_or, Bool.not_eq_true] at hb
            refine rd1 R E eo fun v H1 G1 da1 g1 R1 h1 => ?_
            obtain ⟨p, rfl, hp⟩ := rd_cell R1 h1
            refine ⟨ty_cell R1 hp (isLst_ok hq), rd1 R1 (E.mono g1) ea fun y H2 G2 da2 g2 R2 h2 => ?_⟩
            obtain ⟨vs, k1, k2⟩ := cell_lst R2 (g2.get hp) hs
            refine ⟨p, vs, y, rfl, rfl, k1, by rw [k2.length, sizeLine_eq]; have := hb.2; omega, ?_⟩
            exact q σ _ G2 da2 ((g1.trans g2).trans (Grow.cellset (List.mem_of_getElem? (g2.get hp)))) (R2.cellset (g2.get hp) (by intro x0; rw [hs]; simp) fun H' e' => ⟨_, e', k2.append (.cons (h2.rd hb.1) .nil)⟩) ((E.mono g1).mono g2)
        · cases e
  · cases e
theorem rs_popapp {o x a : Tm} (h : rdS K C (.popapp o x a) Z σ H) : tDrop (tBM K "list" rAppend (rdE K C o) (tCons (tBM K "list" rPopAt (rdE K C x) (tCons (rdE K C a) tNil)) tNil)) Z σ H := by
  obtain ⟨G, da, S, r, f, S', R, E, e, q⟩ := rdS_iff.mp h
  simp only [exe] at e
  split at e
  · rename_i n S1 eo
    split at e
    · cases e
    · rename_i hq
      split at e
      · rename_i m S2 ex
        split at e
        · cases e
        · rename_i hq2
          split at e
          · rename_i i S3 ea
            split at e
            · rename_i ys hm
              split at e
              · rename_i hi
                split at e
                · rename_i d hd
                  split at e
                  · rename_i xs hn
                    split at e
                    · rename_i hl
                      cases e
                      simp only [Bool.and_eq_true, decide_eq_true_eq] at hi
                      refine rd1 R E eo fun v H1 G1 da1 g1 R1 h1 => ?_
                      obtain ⟨p, rfl, hp⟩ := rd_cell R1 h1
                      refine ⟨ty_cell R1 hp (isLst_ok hq), rd1 R1 (E.mono g1) ex fun u H2 G2 da2 g2 R2 h2 => ?_⟩
                      obtain ⟨p2, rfl, hp2⟩ := rd_cell R2 h2
                      refine ⟨ty_cell R2 hp2 (isLst_ok hq2), rd1 R2 ((E.mono g1).mono g2) ea fun w H3 G3 da3 g3 R3 h3 => ?_⟩
                      have h3 := h3.rd rfl
                      cases h3
                      have hp3 := g3.get hp2
                      have hp4 := g3.get (g2.get hp)
                      obtain ⟨us, k1, k2⟩ := cell_lst R3 hp3 hm
                      obtain ⟨y, k3, k4⟩ := k2.get hd
                      have hlt : i.toNat < us.length := (List.getElem?_eq_some_iff.mp k3).1
                      have R4 := R3.cellset (n := m) (o := .lst (us.eraseIdx i.toNat)) (c := .lst (ys.eraseIdx i.toNat)) hp3 (by intro x0; rw [hm]; simp) fun H' e' => ⟨_, e', k2.eraseIdx _⟩
                      have g4 : Grow G3 H3 da3 G3 (upd H3 p2 (.lst (us.eraseIdx i.toNat))) da3 := Grow.cellset (List.mem_of_getElem? hp3)
                      refine ⟨p2, us, i, i.toNat, y, rfl, rfl, k1, by omega, by omega, ?_, k3, ?_⟩
                      · unfold seqIndex?
                        simp only
                        rw [if_neg (show ¬ i < 0 by omega), if_pos]
                        simp only [Bool.and_eq_true, decide_eq_true_eq]
                        omega
                      · obtain ⟨vs, k5, k6⟩ := cell_lst R4 hp4 hn
                        refine ⟨p, vs, y, rfl, rfl, k5, by rw [k6.length, sizeLine_eq]; omega, ?_⟩
                        exact q σ _ G3 da3 ((((g1.trans g2).trans g3).trans g4).trans (Grow.cellset (List.mem_of_getElem? hp4))) (R4.cellset hp4 (by intro x0; rw [hn]; simp) fun H' e' => ⟨_, e', k6.append (.cons k4 .nil)⟩) (((E.mono g1).mono g2).mono g3)
                    · cases e
                  · cases e
                · cases e
              · cases e
            · cases e
          · cases e
      · cases e
  · cases e
theorem rs_ext {o a : Tm} (h : rdS K C (.ext o a) Z σ H) : tDrop (tBM K "list" rExtend (rdE K C o) (tCons (rdF K C a) tNil)) Z σ H := by
  obtain ⟨G, da, S, r, f, S', R, E, e, q⟩ := rdS_iff.mp h
  simp only [exe] at e
  split at e
  · rename_i n S1 eo
    split at e
    · cases e
    · rename_i hq
      split at e
      · rename_i ys S2 ea
        split at e
        · rename_i xs hs
          split at e
          · rename_i hb
            cases e
            refine rd1 R E eo fun v H1 G1 da1 g1 R1 h1 => ?_
            obtain ⟨p, rfl, hp⟩ := rd_cell R1 h1
            refine ⟨ty_cell R1 hp (isLst_ok hq), ⟨G1, da1, _, r, ys, _, R1, E.mono g1, ea, fun b us H2 G2 da2 g2 R2 b1 b2 b3 b4 b5 => ?_⟩⟩
            obtain ⟨vs, k1, k2⟩ := cell_lst R2 (g2.get hp) hs
            refine ⟨p, b, vs, us, rfl, rfl, k1, b2, by rw [k2.length, b5.length, sizeLine_eq]; omega, ?_⟩
            exact q σ _ G2 da2 ((g1.trans g2).trans (Grow.cellset (List.mem_of_getElem? (g2.get hp)))) (R2.cellset (g2.get hp) (by intro x0; rw [hs]; simp) fun H' e' => ⟨_, e', k2.append b5⟩) ((E.mono g1).mono g2)
          · cases e
        · cases e
      · cases e
  · cases e
theorem rs_whl {n : Nat} {c : Tm} {b : Sm} (h : rdS K C (.whl n c b) Z σ H) : tWhile (rdT K C c) (rdS K C b) Z σ H := by
  obtain ⟨G, da, S, r, f, S', R, E, e, q⟩ := rdS_iff.mp h
  simp only [exe] at e
  refine ⟨fun m σ H2 => ∃ G2 da2 S2 r2, Grow G H da G2 H2 da2 ∧ RelS K G2 H2 da2 S2 ∧ RelE K G2 da2 σ r2 ∧ whileN (fun r S => sem C c r S) (fun r S => exe C b r S) m r2 S2 = some (f, S'), ⟨n, G, da, S, r, .refl, R, E, e⟩, ?_⟩
  rintro m σ1 H1 ⟨G1, da1, S1, r1, g1, R1, E1, e1⟩
  cases m with
  | zero => simp [whileN] at e1
  | succ m =>
    rw [whileN] at e1
    split at e1
    · rename_i S2 ec
      cases e1
      refine rdT1 R1 E1 ec fun H2 G2 da2 g2 R2 => ?_
      rw [if_neg (by decide)]
      exact q σ1 H2 G2 da2 (g1.trans g2) R2 (E1.mono g2)
    · rename_i S2 ec
      refine rdT1 R1 E1 ec fun H2 G2 da2 g2 R2 => ?_
      rw [if_pos rfl]
      refine ⟨fun σ' H' => ∃ G2 da2 S2 r2, Grow G H da G2 H' da2 ∧ RelS K G2 H' da2 S2 ∧ RelE K G2 da2 σ' r2 ∧ whileN (fun r S => sem C c r S) (fun r S => exe C b r S) m r2 S2 = some (f, S'), fun σ' H' hN => ⟨m, Nat.lt_succ_self m, hN⟩, ?_⟩
      split at e1
      · cases e1
      · rename_i r3 S3 ef
        exact rdS_iff.mpr ⟨G2, da2, S2, r1, _, S3, R2, E1.mono g2, ef, fun σ5 H5 G5 da5 g5 R5 E5 => ⟨G5, da5, S3, r3, (g1.trans g2).trans g5, R5, E5, e1⟩⟩
      · rename_i r3 S3 ef
        exact rdS_iff.mpr ⟨G2, da2, S2, r1, _, S3, R2, E1.mono g2, ef, fun σ5 H5 G5 da5 g5 R5 E5 => ⟨G5, da5, S3, r3, (g1.trans g2).trans g5, R5, E5, e1⟩⟩
      · rename_i r3 S3 ef
        cases e1
        exact rdS_iff.mpr ⟨G2, da2, S2, r1, _, _, R2, E1.mono g2, ef, fun σ5 H5 G5 da5 g5 R5 E5 => q σ5 H5 G5 da5 ((g1.trans g2).trans g5) R5 E5⟩
      · rename_i d3 S3 ef
        cases e1
        exact rdS_iff.mpr ⟨G2, da2, S2, r1, _, _, R2, E1.mono g2, ef, fun σ5 H5 G5 da5 g5 R5 E5 => q σ5 H5 G5 da5 ((g1.trans g2).trans g5) R5 E5⟩
    · cases e1
theorem paired_put {G : Hp} {k : Str} {v : V} {d : D} {ks : List (Key × V)} {kvs : List (Str × D)} (h : Paired (fun (p : Key × V) (q : Str × D) => p.1 = Sum.inr q.1 ∧ RD K G p.2 q.2) ks kvs) (hd : RD K G v d) :
    Paired (fun (p : Key × V) (q : Str × D) => p.1 = Sum.inr q.1 ∧ RD K G p.2 q.2) (L2.putK ks (Sum.inr k : Key) v) (AOne.putK kvs k d) := by
  have ha : ∀ {ks : List (Key × V)} {kvs : List (Str × D)}, Paired (fun (p : Key × V) (q : Str × D) => p.1 = Sum.inr q.1 ∧ RD K G p.2 q.2) ks kvs → (ks.any fun kv => decide (kv.1 = (Sum.inr k : Key))) = (kvs.any fun kv => decide (kv.1 = k)) := by
    intro ks kvs h
    induction h with
    | nil => rfl
    | @cons p q ps qs h1 _ ih =>
      rw [List.any_cons, List.any_cons, ih, h1.1]
      congr 1
      simp
  have hm : ∀ {ks : List (Key × V)} {kvs : List (Str × D)}, Paired (fun (p : Key × V) (q : Str × D) => p.1 = Sum.inr q.1 ∧ RD K G p.2 q.2) ks kvs → Paired (fun (p : Key × V) (q : Str × D) => p.1 = Sum.inr q.1 ∧ RD K G p.2 q.2) (ks.map fun kv => if kv.1 = (Sum.inr k : Key) then (kv.1, v) else kv) (kvs.map fun kv => if kv.1 = k then (kv.1, d) else kv) := by
    intro ks kvs h
    induction h with
    | nil => exact .nil
    | @cons p q ps qs h1 _ ih =>
      refine .cons ?_ ih
      by_cases e : q.1 = k
      · have e1 : p.1 = (Sum.inr k : Key) := by rw [h1.1, e]
        simp only [e1, e, if_true]
        exact ⟨trivial, hd⟩
      · have e1 : ¬ p.1 = (Sum.inr k : Key) := by rw [h1.1]; intro z; exact e (Sum.inr.inj z)
        simp only [e1, e, if_false]
        exact h1
  have hc : ∀ {ks : List (Key × V)} {kvs : List (Str × D)}, Paired (fun (p : Key × V) (q : Str × D) => p.1 = Sum.inr q.1 ∧ RD K G p.2 q.2) ks kvs → Paired (fun (p : Key × V) (q : Str × D) => p.1 = Sum.inr q.1 ∧ RD K G p.2 q.2) (ks ++ [((Sum.inr k : Key), v)]) (kvs ++ [(k, d)]) := by
    intro ks kvs h
    induction h with
    | nil => exact .cons ⟨rfl, hd⟩ .nil
    | @cons p q ps qs h1 _ ih => exact .cons h1 ih
  unfold L2.putK AOne.putK
  rw [ha h]
  split
  · exact hm h
  · exact hc h
theorem paired_len {G : Hp} {ks : List (Key × V)} {kvs : List (Str × D)} (h : Paired (fun (p : Key × V) (q : Str × D) => p.1 = Sum.inr q.1 ∧ RD K G p.2 q.2) ks kvs) : ks.length = kvs.length := by
  induction h with
  | nil => rfl
  | cons _ _ ih => simp [ih]
theorem rs_setk {o k a : Tm} (h : rdS K C (.setk o k a) Z σ H) : sDPut (rdE K C o) (rdE K C k) (rdE K C a) Z σ H := by
  obtain ⟨G, da, S, r, f, S', R, E, e, q⟩ := rdS_iff.mp h
  simp only [exe] at e
  split at e
  · cases e
  · rename_i d S1 ea
    split at e
    · rename_i n S2 eo
      split at e
      · rename_i x S3 ek
        split at e
        · rename_i kvs hs
          split at e
          · cases e
          · rename_i hb
            cases e
            simp only [Bool.or_eq_true, Bool.not_eq_true', decide_eq_false_iff_not, not_or, Bool.not_eq_true] at hb
            refine rd1 R E ea fun v H1 G1 da1 g1 R1 h1 => rd1 R1 (E.mono g1) eo fun u H2 G2 da2 g2 R2 h2 => rd1 R2 ((E.mono g1).mono g2) ek fun w H3 G3 da3 g3 R3 h3 => ?_
            obtain ⟨p, rfl, hp⟩ := rd_cell R2 h2
            have h3 := h3.rd rfl
            cases h3
            have hp3 := g3.get hp
            obtain ⟨_, c, hc, k1⟩ := R3.cell n p hp3
            rw [hs] at hc
            cases hc
            obtain ⟨ks, k2, k3⟩ := k1
            have h1 := ((h1.mono g2).mono g3).rd hb.1
            refine ⟨p, _, rfl, .inl ⟨ks, Sum.inr x, k2, rfl, by rw [paired_len k3, sizeLine_eq]; have := hb.2; omega, rfl⟩, ?_⟩
            exact q σ _ G3 da3 (((g1.trans g2).trans g3).trans (Grow.cellset (List.mem_of_getElem? hp3))) (R3.cellset hp3 (by intro x0; rw [hs]; simp) fun H' e' => ⟨_, e', paired_put k3 h1⟩) (((E.mono g1).mono g2).mono g3)
        · cases e
      · cases e
    · cases e
/-! dicts whose keys are tuples -/
theorem keq_key (a b : Key) : keqD (keyDK a) (keyDK b) = decide (a = b) := by
  cases a <;> cases b <;> simp [keyDK, keqD]
theorem keqs_key : ∀ a b : List Key, keqs (a.map keyDK) (b.map keyDK) = decide (a = b)
  | [], [] => rfl
  | [], _ :: _ => rfl
  | _ :: _, [] => rfl
  | x :: a, y :: b => by
    simp only [List.map_cons, keqs, keq_key, keqs_key a b]
    by_cases h : x = y <;> by_cases h' : a = b <;> simp [h, h']
theorem keys_of {G : Hp} {da : List Addr} : ∀ {vs : List V} {ds : List D}, RTs K G da vs ds → ds.all keyD1 = true → ∃ k : List Key, vs = k.map kV ∧ ds = k.map keyDK
  | _, _, .nil, _ => ⟨[], rfl, rfl⟩
  | _, _, .cons (d := d) h r, e => by
    rw [List.all_cons, Bool.and_eq_true] at e
    obtain ⟨k, e1, e2⟩ := keys_of r e.2
    cases d <;> simp only [keyD1, Bool.false_eq_true] at e
    · exact absurd e.1 (by decide)
    · exact absurd e.1 (by decide)
    · have h := h.rd rfl
      cases h
      exact ⟨.inl _ :: k, by rw [e1]; rfl, by rw [e2]; rfl⟩
    · have h := h.rd rfl
      cases h
      exact ⟨.inr _ :: k, by rw [e1]; rfl, by rw [e2]; rfl⟩
    · exact absurd e.1 (by decide)
    · exact absurd e.1 (by decide)
    · exact absurd e.1 (by decide)
    · exact absurd e.1 (by decide)
theorem pairedT_get {G : Hp} {k : List Key} {ks : List (List Key × V)} {kvs : List (List D × D)} (h : Paired (fun (p : List Key × V) (q : List D × D) => q.1 = p.1.map keyDK ∧ RD K G p.2 q.2) ks kvs) {d : D} (e : getT kvs (k.map keyDK) = some d) : ∃ v, valV ks k = some v ∧ RD K G v d := by
  induction h with
  | nil => simp [getT] at e
  | @cons p q ps qs h1 _ ih =>
    by_cases hk : p.1 = k
    · have : keqs q.1 (k.map keyDK) = true := by rw [h1.1, keqs_key]; simpa using hk
      simp only [getT, List.find?_cons, this, Option.map_some, Option.some.injEq] at e
      subst e
      exact ⟨p.2, valV_pos hk, h1.2⟩
    · have : keqs q.1 (k.map keyDK) = false := by rw [h1.1, keqs_key]; simpa using hk
      have e' : getT qs (k.map keyDK) = some d := by simpa [getT, List.find?_cons, this] using e
      obtain ⟨v, k1, k2⟩ := ih e'
      exact ⟨v, by rw [valV_neg hk]; exact k1, k2⟩
theorem pairedT_put {G : Hp} {k : List Key} {v : V} {d : D} {ks : List (List Key × V)} {kvs : List (List D × D)} (h : Paired (fun (p : List Key × V) (q : List D × D) => q.1 = p.1.map keyDK ∧ RD K G p.2 q.2) ks kvs) (hd : RD K G v d) :
    Paired (fun (p : List Key × V) (q : List D × D) => q.1 = p.1.map keyDK ∧ RD K G p.2 q.2) (L2.putK ks k v) (putT kvs (k.map keyDK) d) := by
  have ha : ∀ {ks : List (List Key × V)} {kvs : List (List D × D)}, Paired (fun (p : List Key × V) (q : List D × D) => q.1 = p.1.map keyDK ∧ RD K G p.2 q.2) ks kvs → (ks.any fun kv => decide (kv.1 = k)) = (kvs.any fun kv => keqs kv.1 (k.map keyDK)) := by
    intro ks kvs h
    induction h with
    | nil => rfl
    | @cons p q ps qs h1 _ ih => rw [List.any_cons, List.any_cons, ih, h1.1, keqs_key]
  have hm : ∀ {ks : List (List Key × V)} {kvs : List (List D × D)}, Paired (fun (p : List Key × V) (q : List D × D) => q.1 = p.1.map keyDK ∧ RD K G p.2 q.2) ks kvs → Paired (fun (p : List Key × V) (q : List D × D) => q.1 = p.1.map keyDK ∧ RD K G p.2 q.2) (ks.map fun kv => if kv.1 = k then (kv.1, v) else kv) (kvs.map fun kv => if keqs kv.1 (k.map keyDK) = true then (kv.1, d) else kv) := by
    intro ks kvs h
    induction h with
    | nil => exact .nil
    | @cons p q ps qs h1 _ ih =>
      refine .cons ?_ ih
      by_cases e : p.1 = k
      · have e1 : keqs q.1 (k.map keyDK) = true := by rw [h1.1, keqs_key]; simpa using e
        simp only [e, e1, if_true]
        exact ⟨by rw [h1.1, e], hd⟩
      · have e1 : keqs q.1 (k.map keyDK) = false := by rw [h1.1, keqs_key]; simpa using e
        simp only [e, e1, if_false]
        exact h1
  have hc : ∀ {ks : List (List Key × V)} {kvs : List (List D × D)}, Paired (fun (p : List Key × V) (q : List D × D) => q.1 = p.1.map keyDK ∧ RD K G p.2 q.2) ks kvs → Paired (fun (p : List Key × V) (q : List D × D) => q.1 = p.1.map keyDK ∧ RD K G p.2 q.2) (ks ++ [(k, v)]) (kvs ++ [(k.map keyDK, d)]) := by
    intro ks kvs h
    induction h with
    | nil => exact .cons ⟨rfl, hd⟩ .nil
    | @cons p q ps qs h1 _ ih => exact .cons h1 ih
  unfold L2.putK putT
  rw [ha h]
  split
  · exact hm h
  · exact hc h
theorem pairedT_len {G : Hp} {ks : List (List Key × V)} {kvs : List (List D × D)} (h : Paired (fun (p : List Key × V) (q : List D × D) => q.1 = p.1.map keyDK ∧ RD K G p.2 q.2) ks kvs) : ks.length = kvs.length := by
  induction h with
  | nil => rfl
  | cons _ _ ih => simp [ih]
theorem cell_dtt {G : Hp} {da : List Addr} {S : Sto} {n : Nat} {a : Addr} {kvs : List (List D × D)} (R : RelS K G H da S) (ha : da[n]? = some a) (hs : S[n]? = some (.dtt kvs)) : ∃ ks : List (List Key × V), H a = some (.dT ks) ∧ Paired (fun (p : List Key × V) (q : List D × D) => q.1 = p.1.map keyDK ∧ RD K G p.2 q.2) ks kvs := by
  obtain ⟨_, c, h2, h3⟩ := R.cell n a ha
  rw [hs] at h2
  cases h2
  exact h3
theorem rd_ixt {a b : Tm} {Q : VK} (h : rdE K C (.ixt a b) σ H Q) : tDGet (rdE K C a) (tTup (rdA K C b)) σ H Q := by
  obtain ⟨G, da, S, r, d, S', R, E, e, q⟩ := h
  rw [sem] at e
  split at e
  · rename_i n S1 ea
    split at e
    · rename_i ds S2 eb
      split at e
      · rename_i hk
        rw [Bool.and_eq_true] at hk
        split at e
        · rename_i kvs hs
          obtain ⟨d0, ez, e2⟩ := Option.map_eq_some_iff.mp e
          cases e2
          refine rd1 R E ea fun v H1 G1 da1 g1 R1 h1 => ?_
          obtain ⟨p, rfl, hp⟩ := rd_cell R1 h1
          refine ra1 R1 (E.mono g1) eb fun vs H2 G2 da2 g2 R2 h2 => ⟨by rw [h2.length]; exact of_decide_eq_true hk.2, fun t ht => ?_⟩
          obtain ⟨k, rfl, rfl⟩ := keys_of h2 hk.1
          have R3 := R2.lay (o := .tup (k.map kV)) ht
          obtain ⟨ks, k1, k2⟩ := cell_dtt R3 (g2.get hp) hs
          obtain ⟨w, k3, k4⟩ := pairedT_get k2 ez
          refine ⟨p, w, rfl, ?_, q w _ G2 da2 ((g1.trans g2).trans (Grow.lay ht)) R3 (.inl k4)⟩
          rw [← k3]
          exact DGet.t k1 upd_same
        · cases e
      · cases e
    · cases e
  · cases e
theorem rs_setkt {o b a : Tm} (h : rdS K C (.setkt o b a) Z σ H) : sDPut (rdE K C o) (tTup (rdA K C b)) (rdE K C a) Z σ H := by
  obtain ⟨G, da, S, r, f, S', R, E, e, q⟩ := rdS_iff.mp h
  simp only [exe] at e
  split at e
  · cases e
  · rename_i d S1 ea
    split at e
    · rename_i n S2 eo
      split at e
      · rename_i ds S3 eb
        split at e
        · rename_i hk
          rw [Bool.and_eq_true] at hk
          split at e
          · rename_i kvs hs
            split at e
            · cases e
            · rename_i hb
              cases e
              simp only [Bool.or_eq_true, Bool.not_eq_true', decide_eq_false_iff_not, not_or, Bool.not_eq_true] at hb
              refine rd1 R E ea fun v H1 G1 da1 g1 R1 h1 => rd1 R1 (E.mono g1) eo fun u H2 G2 da2 g2 R2 h2 => ?_
              obtain ⟨p, rfl, hp⟩ := rd_cell R2 h2
              refine ra1 R2 ((E.mono g1).mono g2) eb fun vs H3 G3 da3 g3 R3 h3 => ⟨by rw [h3.length]; exact of_decide_eq_true hk.2, fun t ht => ?_⟩
              obtain ⟨k, rfl, rfl⟩ := keys_of h3 hk.1
              have R4 := R3.lay (o := .tup (k.map kV)) ht
              have hp3 := g3.get hp
              obtain ⟨ks, k1, k2⟩ := cell_dtt R4 hp3 hs
              have h1 := ((h1.mono g2).mono g3).rd hb.1
              refine ⟨p, _, rfl, DPut.t k1 upd_same (by rw [pairedT_len k2, sizeLine_eq]; have := hb.2; omega), ?_⟩
              exact q σ _ G3 da3 ((((g1.trans g2).trans g3).trans (Grow.lay ht)).trans (Grow.cellset (List.mem_of_getElem? hp3))) (R4.cellset hp3 (by intro x0; rw [hs]; simp) fun H' e' => ⟨_, e', pairedT_put k2 h1⟩) (((E.mono g1).mono g2).mono g3)
          · cases e
        · cases e
      · cases e
    · cases e
theorem rd_dnt {Q : VK} (h : rdE K C .dnt σ H Q) : tDNewT σ H Q := by
  obtain ⟨G, da, S, r, d, S', R, E, e, q⟩ := h
  rw [sem] at e
  cases e
  intro p hp
  have gn : G p = none := R.gnone hp
  have nin : p ∉ da := R.notIn hp
  have R1 := R.lay (o := .dT []) hp
  refine q (.ref p) _ G (da ++ [p]) ?_ ?_ (.inr (.inl ⟨S.length, p, rfl, rfl, by rw [← R.len]; simp⟩))
  · have gg : Grow G H da G (upd H p (.dT [])) da := Grow.lay hp
    refine ⟨gg.g, gg.old, gg.keep, gg.there, ⟨[p], rfl⟩, fun b hb => ?_⟩
    rcases List.mem_append.mp hb with z | z
    · exact .inl z
    · rw [List.mem_singleton.mp z]; exact .inr hp
  · refine ⟨R1.same, by simp [R1.len], ?_, fun n b eb => ?_, R1.nt⟩
    · rw [List.nodup_append]
      exact ⟨R.nd, by simp, fun x hx y hy e => nin (by rw [← List.mem_singleton.mp hy, ← e]; exact hx)⟩
    · by_cases hn : n < da.length
      · rw [List.getElem?_append_left hn] at eb
        obtain ⟨k1, c, k2, k3⟩ := R1.cell n b eb
        exact ⟨k1.imp id (fun ⟨xs0, z⟩ => ⟨xs0, by rw [List.getElem?_append_left (by rw [← R.len]; exact hn)]; exact z⟩), c, by rw [List.getElem?_append_left (by rw [← R.len]; exact hn)]; exact k2, k3⟩
      · rw [List.getElem?_append_right (by omega)] at eb
        have hn' : n = da.length := by
          rcases Nat.lt_or_ge (n - da.length) 1 with z | z
          · omega
          · rw [List.getElem?_eq_none (by simpa using z)] at eb; cases eb
        subst hn'
        simp at eb
        subst eb
        exact ⟨.inl gn, .dtt [], by rw [R.len]; simp, [], upd_same, .nil⟩
/-! loops -/
theorem rs_for {g : Tg} {it : Tm} {b : Sm} (h : rdS K C (.forr g it b) Z σ H) : tFor (rdI K C it) (rdG K g) (rdS K C b) Z σ H := by
  obtain ⟨G, da, S, r, f, S', R, E, e, q⟩ := rdS_iff.mp h
  simp only [exe] at e
  split at e
  · cases e
  · rename_i xs S1 ei
    refine ⟨G, da, S, r, xs, S1, R, E, ei, fun J H1 G1 da1 g1 R1 hlen drv => ?_⟩
    generalize hfn : (fun (x : D) (r : Ev) (S : Sto) => match setG g x r with
      | none => none
      | some r1 => exe C b r1 S) = fn at e
    refine for_it drv (fun i σ H => ∃ G2 da2 S2 r2, Grow G1 H1 da1 G2 H da2 ∧ RelS K G2 H da2 S2 ∧ RelE K G2 da2 σ r2 ∧ loopL fn (xs.drop i) r2 S2 = some (f, S')) ?_ ?_ ?_ ?_
    · exact ⟨G1, da1, S1, r, .refl, R1, E.mono g1, by simpa using e⟩
    · rintro i σ H2 _ ⟨G2, da2, S2, r2, g2, R2, _⟩
      exact g2.g.trans R2.same
    · rintro i x σ2 H2 H3 hi ⟨G2, da2, S2, r2, g2, R2, E2, el⟩ y
      obtain ⟨G3, d, hd, g3, R3, hx⟩ := yl_step R2 g2.g y
      rw [drop_get hd, loopL] at el
      have g13 := g2.trans g3
      split at el
      · cases el
      · rename_i r3 S3 ef
        subst hfn
        simp only at ef
        split at ef
        · cases ef
        · rename_i r1 es
          refine ⟨G3, da2, S2, r2, d, r1, R3, E2.mono g3, .inl hx, es, fun σ4 _ E4 => rdS_iff.mpr ⟨G3, da2, S2, r1, _, S3, R3, E4, ef, fun σ5 H5 G5 da5 g5 R5 E5 => ?_⟩⟩
          exact ⟨G5, da5, S3, r3, g13.trans g5, R5, E5, el⟩
      · rename_i r3 S3 ef
        subst hfn
        simp only at ef
        split at ef
        · cases ef
        · rename_i r1 es
          refine ⟨G3, da2, S2, r2, d, r1, R3, E2.mono g3, .inl hx, es, fun σ4 _ E4 => rdS_iff.mpr ⟨G3, da2, S2, r1, _, S3, R3, E4, ef, fun σ5 H5 G5 da5 g5 R5 E5 => ?_⟩⟩
          exact ⟨G5, da5, S3, r3, g13.trans g5, R5, E5, el⟩
      · rename_i r3 S3 ef
        cases el
        subst hfn
        simp only at ef
        split at ef
        · cases ef
        · rename_i r1 es
          refine ⟨G3, da2, S2, r2, d, r1, R3, E2.mono g3, .inl hx, es, fun σ4 _ E4 => rdS_iff.mpr ⟨G3, da2, S2, r1, _, _, R3, E4, ef, fun σ5 H5 G5 da5 g5 R5 E5 => ?_⟩⟩
          exact q σ5 H5 G5 da5 ((g1.trans g13).trans g5) R5 E5
      · rename_i d3 S3 ef
        cases el
        subst hfn
        simp only at ef
        split at ef
        · cases ef
        · rename_i r1 es
          refine ⟨G3, da2, S2, r2, d, r1, R3, E2.mono g3, .inl hx, es, fun σ4 _ E4 => rdS_iff.mpr ⟨G3, da2, S2, r1, _, _, R3, E4, ef, fun σ5 H5 G5 da5 g5 R5 E5 => ?_⟩⟩
          exact q σ5 H5 G5 da5 ((g1.trans g13).trans g5) R5 E5
    · rintro σ2 H2 ⟨G2, da2, S2, r2, g2, R2, E2, el⟩
      rw [List.drop_length, loopL] at el
      cases el
      exact q σ2 H2 G2 da2 (g1.trans g2) R2 E2
/-! displays of dicts -/
def trsOf (K : PySem.W.Frag) (C : Call) : List Str → Tm → List (TE × TE)
  | k :: ks, .cons a r => (tC (.str k), rdE K C a) :: trsOf K C ks r
  | _, _ => []
def flatA : Tm → Bool
  | .nil => true
  | .cons _ r => flatA r
  | _ => false
/-- the values of a row, each with a key -/
theorem pairs_of {r : Ev} : ∀ {ks : List Str} {a : Tm} {S S' : Sto} {ds : List D} {H : Hp} {G : Hp} {da : List Addr} {QP : List (V × V) → Hp → Prop}, flatA a = true → RelS K G H da S → RelE K G da σ r → semA C a r S = some (ds, S') → ds.length = ks.length →
    (∀ vs H' G' da', Grow G H da G' H' da' → RelS K G' H' da' S' → RTs K G' da' vs ds → QP ((ks.map V.str).zip vs) H') → tPairs (trsOf K C ks a) σ H QP
  | ks, .cons a b, S, S', ds, H, G, da, QP, hf, R, E, e, hl, q => by
    simp only [semA] at e
    split at e
    · cases e
    · rename_i x S1 ea
      split at e
      · cases e
      · rename_i xs S2 eb
        cases e
        cases ks with
        | nil => simp at hl
        | cons k ks =>
          refine rd1 R E ea fun v H1 G1 da1 g R1 h1 => ?_
          refine pairs_of (a := b) (by simpa [flatA] using hf) R1 (E.mono g) eb (by simpa using hl) fun vs H2 G2 da2 g2 R2 h2 => ?_
          exact q (v :: vs) H2 G2 da2 (g.trans g2) R2 (.cons (h1.mono g2) h2)
  | ks, .nil, S, S', ds, H, G, da, QP, hf, R, E, e, hl, q => by
    simp only [semA] at e
    cases e
    cases ks with
    | nil => exact q [] H G da .refl R .nil
    | cons k ks => simp at hl
  | _, .var _, _, _, _, _, _, _, _, hf, _, _, _, _, _ => by simp [flatA] at hf
  | _, .cst _, _, _, _, _, _, _, _, hf, _, _, _, _, _ => by simp [flatA] at hf
  | _, .tup _, _, _, _, _, _, _, _, hf, _, _, _, _, _ => by simp [flatA] at hf
  | _, .lst _, _, _, _, _, _, _, _, hf, _, _, _, _, _ => by simp [flatA] at hf
  | _, .op _ _ _, _, _, _, _, _, _, _, hf, _, _, _, _, _ => by simp [flatA] at hf
  | _, .neg _, _, _, _, _, _, _, _, hf, _, _, _, _, _ => by simp [flatA] at hf
  | _, .cmp _ _ _, _, _, _, _, _, _, _, hf, _, _, _, _, _ => by simp [flatA] at hf
  | _, .chain _ _ _ _ _, _, _, _, _, _, _, _, hf, _, _, _, _, _ => by simp [flatA] at hf
  | _, .andd _ _, _, _, _, _, _, _, _, hf, _, _, _, _, _ => by simp [flatA] at hf
  | _, .orr _ _, _, _, _, _, _, _, _, hf, _, _, _, _, _ => by simp [flatA] at hf
  | _, .nott _, _, _, _, _, _, _, _, hf, _, _, _, _, _ => by simp [flatA] at hf
  | _, .ite _ _ _, _, _, _, _, _, _, _, hf, _, _, _, _, _ => by simp [flatA] at hf
  | _, .ix _ _, _, _, _, _, _, _, _, hf, _, _, _, _, _ => by simp [flatA] at hf
  | _, .slc _ _ _, _, _, _, _, _, _, _, hf, _, _, _, _, _ => by simp [flatA] at hf
  | _, .nop, _, _, _, _, _, _, _, hf, _, _, _, _, _ => by simp [flatA] at hf
  | _, .pr _ _, _, _, _, _, _, _, _, hf, _, _, _, _, _ => by simp [flatA] at hf
  | _, .call _ _ _ _ _, _, _, _, _, _, _, _, hf, _, _, _, _, _ => by simp [flatA] at hf
  | _, .lc _ _ _ _ _, _, _, _, _, _, _, _, hf, _, _, _, _, _ => by simp [flatA] at hf
  | _, .lcc _ _ _ _ _ _ _ _ _, _, _, _, _, _, _, _, hf, _, _, _, _, _ => by simp [flatA] at hf
  | _, .ival _, _, _, _, _, _, _, _, hf, _, _, _, _, _ => by simp [flatA] at hf
  | _, .irange _, _, _, _, _, _, _, _, hf, _, _, _, _, _ => by simp [flatA] at hf
  | _, .izip _ _, _, _, _, _, _, _, _, hf, _, _, _, _, _ => by simp [flatA] at hf
  | _, .ienum _, _, _, _, _, _, _, _, hf, _, _, _, _, _ => by simp [flatA] at hf
  | _, .dct _ _, _, _, _, _, _, _, _, hf, _, _, _, _, _ => by simp [flatA] at hf
  | _, .fresh _, _, _, _, _, _, _, _, hf, _, _, _, _, _ => by simp [flatA] at hf
  | _, .star _ _, _, _, _, _, _, _, _, hf, _, _, _, _, _ => by simp [flatA] at hf
  | _, .frz _, _, _, _, _, _, _, _, hf, _, _, _, _, _ => by simp [flatA] at hf
  | _, .dnt, _, _, _, _, _, _, _, hf, _, _, _, _, _ => by simp [flatA] at hf
  | _, .ixt _ _, _, _, _, _, _, _, _, hf, _, _, _, _, _ => by simp [flatA] at hf
theorem merge_new : ∀ {kvs : List (Key × V)} {acc : List (Key × V)}, (acc ++ kvs).map (·.1) |>.Nodup → mergeK acc kvs = acc ++ kvs
  | [], acc, _ => by simp [mergeK]
  | p :: r, acc, h => by
    have hn : valV acc p.1 = none := by
      have ha := valV_any p.1 acc
      cases z : valV acc p.1 with
      | none => rfl
      | some v =>
        rw [z] at ha
        simp only [Option.isSome_some, List.any_eq_true, decide_eq_true_eq] at ha
        obtain ⟨x, hx, e⟩ := ha
        rw [List.map_append, List.nodup_append] at h
        exact absurd e (h.2.2 x.1 (List.mem_map_of_mem hx) p.1 (by simp))
    show mergeK (L2.putK acc p.1 p.2) r = _
    rw [putK_new _ hn]
    have e : acc ++ p :: r = (acc ++ [(p.1, p.2)]) ++ r := by simp
    rw [e] at h ⊢
    exact merge_new h
theorem rd_dct {Q : VK} {ks : List Str} {a : Tm} (hfl : flatA a = true) (hk : ks.Nodup) (h15 : ks.length ≤ 15) (h : rdE K C (.dct ks a) σ H Q) : tDisp (trsOf K C ks a) σ H Q := by
  obtain ⟨G, da, S, r, d, S', R, E, e, q⟩ := h
  simp only [sem] at e
  split at e
  · rename_i ds S1 ea
    split at e
    · rename_i hs
      cases e
      simp only [Bool.and_eq_true, decide_eq_true_eq] at hs
      intro p hp
      have g0 : Grow G H da G (upd H p (.dK [])) da := Grow.lay hp
      refine pairs_of hfl (R.lay hp) (E.mono g0) ea hs.2 fun vs H1 G1 da1 g R1 h1 => ?_
      have gp : G p = none := R.gnone hp
      have np : p ∉ da := R.notIn hp
      have at1 : H1 p = some (.dK []) := g.keep p _ upd_same np (fun _ z => by cases z)
      have gn1 : G1 p = none := g.old p (by rw [upd_same]; simp) (notCode upd_same fun _ z => by cases z) gp np
      have nin1 : p ∉ da1 := g.notIn (H := upd H p (.dK [])) upd_same np
      have rd := h1.rds hs.1
      have hl : vs.length = ks.length := by rw [h1.length, hs.2]
      refine ⟨at1, (ks.map (Sum.inr : Str → Key)).zip vs, ?_, ?_, ?_⟩
      · clear hk h15 ea q rd h1 hs hfl
        induction ks generalizing vs with
        | nil => cases vs <;> simp
        | cons k ks ih =>
          cases vs with
          | nil => simp
          | cons v vs => simp [kV, ih vs (by simpa using hl)]
      · simp [hl]; omega
      · have em : mergeK [] ((ks.map (Sum.inr : Str → Key)).zip vs) = (ks.map (Sum.inr : Str → Key)).zip vs := by
          have := merge_new (acc := []) (kvs := (ks.map (Sum.inr : Str → Key)).zip vs) ?_
          · simpa using this
          · rw [List.nil_append, List.map_fst_zip (by simp [hl])]
            exact List.Pairwise.map _ (fun a b hab e => hab (Sum.inr.inj e)) hk
        rw [em]
        have R2 : RelS K G1 (upd H1 p (.dK ((ks.map (Sum.inr : Str → Key)).zip vs))) da1 S1 := R1.turn gn1 nin1
        have pr : ∀ {ks : List Str} {vs : List V} {ds : List D}, RDs K G1 vs ds → Paired (fun (p : Key × V) (q : Str × D) => p.1 = Sum.inr q.1 ∧ RD K G1 p.2 q.2) ((ks.map (Sum.inr : Str → Key)).zip vs) (ks.zip ds) := by
          intro ks
          induction ks with
          | nil => intro vs ds _; simpa using .nil
          | cons k ks ih =>
            intro vs ds h
            cases h with
            | nil => simpa using .nil
            | cons h t => simpa using Paired.cons ⟨rfl, h⟩ (ih t)
        refine q (.ref p) _ G1 (da1 ++ [p]) ?_ ?_ (.inr (.inl ⟨S1.length, p, rfl, rfl, by rw [← R1.len]; simp⟩))
        · have gg := g0.trans g
          refine ⟨gg.g, gg.old, fun b o eb hb ht => ?_, fun b hb => ?_, ?_, fun b hb => ?_⟩
          · rw [upd_ne (ne_of_none eb hp)]; exact gg.keep b o eb hb ht
          · by_cases z : b = p
            · subst z; rw [upd_same]; simp
            · rw [upd_ne z]; exact gg.there b hb
          · obtain ⟨r, e⟩ := gg.pre
            exact ⟨r ++ [p], by rw [e, List.append_assoc]⟩
          · rcases List.mem_append.mp hb with z | z
            · exact gg.new b z
            · rw [List.mem_singleton.mp z]; exact .inr hp
        · refine ⟨R2.same, by simp [R2.len], ?_, fun n b eb => ?_, R2.nt⟩
          · rw [List.nodup_append]
            exact ⟨R1.nd, by simp, fun x hx y hy e => nin1 (by rw [← List.mem_singleton.mp hy, ← e]; exact hx)⟩
          · by_cases hn : n < da1.length
            · rw [List.getElem?_append_left hn] at eb
              obtain ⟨k1, c, k2, k3⟩ := R2.cell n b eb
              exact ⟨k1.imp id (fun ⟨xs0, z⟩ => ⟨xs0, by rw [List.getElem?_append_left (by rw [← R2.len]; exact hn)]; exact z⟩), c, by rw [List.getElem?_append_left (by rw [← R2.len]; exact hn)]; exact k2, k3⟩
            · rw [List.getElem?_append_right (by omega)] at eb
              have hn' : n = da1.length := by
                rcases Nat.lt_or_ge (n - da1.length) 1 with z | z
                · omega
                · rw [List.getElem?_eq_none (by simpa using z)] at eb; cases eb
              subst hn'
              simp at eb
              subst eb
              exact ⟨.inl gn1, .dct (ks.zip ds), by rw [R1.len]; simp, _, upd_same, pr rd⟩
    · cases e
  · cases e
end
end AOne
end

section
set_option Elab.async false
set_option linter.all false
set_option maxRecDepth 100000
set_option maxHeartbeats 4000000
set_option autoImplicit false
/-! A29: d.setdefault(k, x), the keys being tuples of ints and texts. -/
namespace AOne
open PySem PySem.Spec L2
def setdH (H : Hp) (a : Addr) (kvs : List (List Key × V)) (k : List Key) (v : V) : Hp := match valV kvs k with
  | some _ => H
  | none => upd H a (.dT (L2.putK kvs k v))
section
variable {X : Cx} {pins : List (Addr × Obj)} {σ : St} {H : Hp} {s : Shared} {a b : Addr} {v : V} {r : Value} {A : Around} {E : Value → Shared → Prop}
theorem d_setd {kvs : List (List Key × V)} {k : List Key} {Q : Value → Shared → Prop} (hu : A.units + 1 < cLine) (I : Inv X pins σ H s) (e : H a = some (.dT kvs)) (eb : H b = some (.tup (k.map kV))) (l : kvs.length < sizeLine) (rv : RelV v r) (h : ∀ w' s', Inv X pins σ (setdH H a kvs k v) s' → RelV ((valV kvs k).getD v) w' → Q w' s') :
    wpAny (model X.prog X.w) A (call (.builtin "dict.setdefault") [.ref a, .ref b, r]) Q E s := by
  obtain ⟨z, hd, xs, rel, dd⟩ := dt_of I.hok e
  have hz : xs.length ≤ sizeLine := by rw [← Paired.length rel]; exact z
  have hl : (L2.putK kvs k v).length ≤ sizeLine := by have := L2.length_putK kvs k v; omega
  have hv := rel.val k
  refine call_meetsIn PySem.F.slot_dict_setdefault dd.typeIs PySem.F.entry_dict_setdefault (PySem.F.args_dict_setdefault_3 _ _ _) (meetsH_dict_setdefault (tupleKind (mixKind X.prog X.w)) a b hd r) ⟨tupleKind_room_in1 hu, k, xs, key_of I.hok eb, dd, hz, fun p hp => ?_, fun hn h' dd' hs => ?_⟩
  · rw [hp] at hv
    cases ev : valV kvs k with
    | none => rw [ev] at hv; exact hv.elim
    | some u =>
      rw [ev] at hv
      refine h _ _ ?_ (by rw [ev]; exact hv)
      unfold setdH
      rw [ev]
      exact I.tok _
  · rw [hn] at hv
    cases ev : valV kvs k with
    | some u => rw [ev] at hv; exact hv.elim
    | none =>
      refine h _ _ ?_ (by rw [ev]; exact rv)
      unfold setdH
      rw [ev]
      obtain ⟨q, es, ep, hq, h2, h3, h4, _, h5⟩ := dd'
      refine d_write I (by rw [e]; exact True.intro) hs ⟨q, hq⟩ ⟨hl, hd, _, (rel.put k eb rv).keeps fun c ys ec => ?_, q, es, ep, hq, h2, h3, h4, h5⟩
      rw [upd_ne (ne_of ec e (fun z => nomatch z))]
      exact ec
end
/-- d.setdefault(y, x) -/
def tDSetD (td ty tx : TE) : TE := fun σ H Q => td σ H fun x H1 => ∃ a, x = .ref a ∧ IsD H1 a ∧ ty σ H1 fun y H2 => tx σ H2 fun z H3 =>
  ∃ kvs k b, H3 a = some (.dT kvs) ∧ y = .ref b ∧ H3 b = some (.tup (k.map kV)) ∧ kvs.length < sizeLine ∧ Q ((valV kvs k).getD z) (setdH H3 a kvs k z)
theorem pe_dsetd {X : Cx} {o e f : Expr} {apos cpos : Pos} {td ty tx : TE} (hu : X.A.units + 1 < cLine) (ho : PE X o td) (he : PE X e ty) (hf : PE X f tx) (m : M2 X o "setdefault" apos e f cpos) : PE X (.Call (.Attribute o "setdefault" apos) [e, f] [] cpos) (tDSetD td ty tx) := by
  refine ⟨fun pins s σ H Q I h => ?_⟩
  refine wpAny_Call_method m.base m.few m.line PySem.F.plainAttrs_dict PySem.F.slot_dict_setdefault PySem.F.type_dict_setdefault (thn (ho.run pins s σ H _ I h) fun u s1 ⟨x, H1, I1, rx, a, ex, d, q1⟩ => ?_)
  subst ex
  obtain rfl : u = Value.ref a := rx
  obtain ⟨t1, t2, _⟩ := isD_at I1 d
  refine ⟨t1, t2, ?_⟩
  rw [m.trees]
  refine Calls.callWith_builtin rfl (Calls.evalArgs_plain (Calls.spliced_cons (thn (he.run pins s1 σ H1 _ I1 q1) fun iv s2 ⟨y, H2, I2, ry, q2⟩ =>
    Calls.spliced_cons (thn (hf.run pins s2 σ H2 _ I2 q2) fun fv s3 ⟨z, H3, I3, rz, kvs, k, b, ed, ey, eb, l, q3⟩ => Calls.spliced_nil ?_))))
  subst ey
  cases (show iv = Value.ref b from ry)
  exact d_setd hu I3 ed eb l rz fun w' s4 I4 rw' => ⟨_, _, I4, rw', q3⟩
/-! list.count of a text -/
def eqs (k : Str) (v : Value) : Bool := match v with
  | .str n _ => n.cps.toList == k.cps.toList
  | _ => false
theorem eqs_gives {k : Str} {t : Tok} : ∀ {ns : List Str} {us : List Value}, Vals (ns.map V.str) us → ∀ y ∈ us, MeetsSeq.EqGives y (.str k t) (eqs k y)
  | [], us, r => fun y hy => by
    rw [List.map_nil] at r
    cases r
    cases hy
  | n :: ns, us, r => fun y hy => by
    rw [List.map_cons] at r
    cases r with
    | cons r1 r2 =>
      obtain ⟨t', rfl⟩ := r1
      rcases List.mem_cons.mp hy with e | e
      · rw [e]
        exact SeqRoads2.EqGives.str n k t' t
      · exact eqs_gives r2 y e
theorem eqs_count {k : Str} : ∀ {ns : List Str} {us : List Value}, Vals (ns.map V.str) us → us.countP (eqs k) = ns.countP fun n => n.cps.toList == k.cps.toList
  | [], us, r => by
    rw [List.map_nil] at r
    cases r
    rfl
  | n :: ns, us, r => by
    rw [List.map_cons] at r
    cases r with
    | cons r1 r2 =>
      obtain ⟨t', rfl⟩ := r1
      have ih := eqs_count (k := k) r2
      rw [List.countP_cons, List.countP_cons, ih]
      rfl
def rCntS (K : PySem.W.Frag) : V → List V → Hp → VK → Prop := fun x xs H Q => ∃ (p : Addr) (ns : List Str) (k : Str), x = .ref p ∧ xs = [.str k] ∧ SqL K H p (ns.map V.str) ∧ Q (.int (ns.countP fun n => n.cps.toList == k.cps.toList : Nat)) H
theorem mt_scount {X : Cx} : MtR X "list.count" (rCntS X.K) := by
  intro pins s σ H x xs v us Q I rx rxs h
  obtain ⟨p, ns, k, rfl, rfl, hs, q⟩ := h
  cases rx
  obtain ⟨u, rfl, ru⟩ := rxs.one
  obtain ⟨t, rfl⟩ := ru
  obtain ⟨its, rv, ⟨⟨cls, dd, data, sl⟩, n, ho, hc, hdn, hd⟩, hlen⟩ := I.list hs
  simp only at hc hd
  subst hc hd
  refine call_meets PySem.F.slot_list_count ⟨_, ho, rfl⟩ PySem.F.entry_list_count (PySem.F.args_list_count_2 _ _)
    (SeqAt.list_countAt p its.toArray n dd sl (.str k t) (eqs k)) ⟨ho, fun y hy => (eqs_gives rv y (by simpa using hy)).at _ _, ?_⟩
  have ec : its.toArray.toList.countP (eqs k) = ns.countP fun n => n.cps.toList == k.cps.toList := eqs_count rv
  refine ⟨.int (ns.countP (fun n => n.cps.toList == k.cps.toList) : Nat), H, I.tok _, ⟨s.toks, ?_⟩, q⟩
  show Value.int ((its.toArray.toList.countP (eqs k) : Nat) : Int) s.toks = Value.int ((ns.countP (fun n => n.cps.toList == k.cps.toList) : Nat) : Int) s.toks
  rw [ec]
end AOne
end

section
set_option Elab.async false
set_option linter.all false
set_option maxRecDepth 100000
set_option maxHeartbeats 4000000
set_option autoImplicit false
/-! A30: a dict of lists, built by setdefault and append. -/
namespace AOne
open PySem PySem.Spec L2
section
variable {K : PySem.W.Frag} {G H H0 H' : Hp} {da : List Addr} {p : Addr} {S : Sto}
/-- one key with its list: a list of its own -/
def FoeP (K : PySem.W.Frag) (G H0 H : Hp) (da : List Addr) (p : Addr) (x : List Key × V) (y : List D × List D) : Prop :=
  y.1 = x.1.map keyDK ∧ ∃ q vs, x.2 = .ref q ∧ H q = some (.lst vs) ∧ RDs K G vs y.2 ∧ G q = none ∧ q ∉ da ∧ q ≠ p ∧ H0 q = none
structure FoeH (K : PySem.W.Frag) (G H0 H : Hp) (da : List Addr) (p : Addr) (ks : List (List Key × V)) (kvs : List (List D × List D)) : Prop where
  pr : Paired (FoeP K G H0 H da p) ks kvs
  kn : (ks.map (·.1)).Nodup
  vn : (ks.map (·.2)).Nodup
theorem RelS.off (R : RelS K G H da S) (h : ∀ b, (b ∈ da ∨ G b ≠ none) → H' b = H b) : RelS K G H' da S := by
  refine ⟨fun b x e => ?_, R.len, R.nd, fun n a e => ?_, R.nt⟩
  · rw [h b (.inr (by rw [e]; simp))]
    exact R.same b x e
  · obtain ⟨h1, c, h2, h3⟩ := R.cell n a e
    exact ⟨h1, c, h2, h3.mono (Same.refl _) (h a (.inl (List.mem_of_getElem? e)))⟩
theorem foe_any {k : List Key} : ∀ {ks : List (List Key × V)} {kvs : List (List D × List D)}, Paired (FoeP K G H0 H da p) ks kvs → (kvs.any fun kv => keqs kv.1 (k.map keyDK)) = (valV ks k).isSome := by
  intro ks kvs h
  induction h with
  | nil => rfl
  | @cons x y xs ys h1 _ ih =>
    rw [List.any_cons, ih, h1.1, keqs_key]
    by_cases e : x.1 = k
    · rw [valV_pos e]; simp [e]
    · rw [valV_neg e]; simp [e]
theorem paired_imp {α β : Type} {P Q : α → β → Prop} {xs : List α} {ys : List β} (h : Paired P xs ys) (hi : ∀ x ∈ xs, ∀ y, P x y → Q x y) : Paired Q xs ys := by
  induction h with
  | nil => exact .nil
  | @cons x y xs ys h1 _ ih => exact .cons (hi x List.mem_cons_self y h1) (ih fun x' hx y' => hi x' (List.mem_cons_of_mem _ hx) y')
/-- a key that is there: its list grows -/
theorem foe_old {k : List Key} {q : Addr} {vs : List V} {y : V} {d : D} (hq : H q = some (.lst vs)) (hy : RD K G y d) (hs : ∀ b, b ≠ q → (H b ≠ none) → H' b = H b) (hn : H' q = some (.lst (vs ++ [y]))) :
    ∀ {ks : List (List Key × V)} {kvs : List (List D × List D)}, Paired (FoeP K G H0 H da p) ks kvs → (ks.map (·.1)).Nodup → (ks.map (·.2)).Nodup → (∀ x ∈ ks, x.2 = .ref q ↔ x.1 = k) →
      Paired (FoeP K G H0 H' da p) ks (kvs.map fun kv => if keqs kv.1 (k.map keyDK) = true then (kv.1, kv.2 ++ [d]) else kv) := by
  intro ks kvs h
  induction h with
  | nil => intro _ _ _; exact .nil
  | @cons x z xs zs h1 _ ih =>
    intro kn vn hk
    rw [List.map_cons, List.nodup_cons] at kn vn
    refine .cons ?_ (ih kn.2 vn.2 fun x' hx => hk x' (List.mem_cons_of_mem _ hx))
    obtain ⟨e1, q', vs', e2, e3, e4, e5, e6, e7, e8⟩ := h1
    show FoeP K G H0 H' da p x (if keqs z.1 (k.map keyDK) = true then (z.1, z.2 ++ [d]) else z)
    by_cases e : x.1 = k
    · have hq' : x.2 = .ref q := (hk x List.mem_cons_self).mpr e
      have eq : q' = q := by rw [e2] at hq'; cases hq'; rfl
      subst eq
      rw [hq] at e3
      cases e3
      have e9 : keqs z.1 (k.map keyDK) = true := by rw [e1, keqs_key]; simpa using e
      rw [if_pos e9]
      exact ⟨e1, q', _, e2, hn, e4.append (.cons hy .nil), e5, e6, e7, e8⟩
    · have ne : q' ≠ q := fun z => e ((hk x List.mem_cons_self).mp (by rw [e2, z]))
      have e9 : ¬ keqs z.1 (k.map keyDK) = true := by rw [e1, keqs_key]; simpa using e
      rw [if_neg e9]
      exact ⟨e1, q', vs', e2, by rw [hs q' ne (by rw [e3]; simp)]; exact e3, e4, e5, e6, e7, e8⟩
theorem val_mem {k : List Key} {v : V} : ∀ {ks : List (List Key × V)}, valV ks k = some v → (k, v) ∈ ks
  | [], h => by cases h
  | x :: ks, h => by
    by_cases e : x.1 = k
    · rw [valV_pos e] at h
      cases h
      rw [← e]
      exact List.mem_cons_self
    · rw [valV_neg e] at h
      exact List.mem_cons_of_mem _ (val_mem h)
theorem val_none {k : List Key} : ∀ {ks : List (List Key × V)}, valV ks k = none → ∀ x ∈ ks, x.1 ≠ k
  | [], _, x, hx => by cases hx
  | z :: ks, h, x, hx => by
    by_cases e : z.1 = k
    · rw [valV_pos e] at h; cases h
    · rw [valV_neg e] at h
      rcases List.mem_cons.mp hx with rfl | hx
      · exact e
      · exact val_none h x hx
theorem paired_mem {α β : Type} {P : α → β → Prop} {xs : List α} {ys : List β} (h : Paired P xs ys) {x : α} (hx : x ∈ xs) : ∃ y ∈ ys, P x y := by
  induction h with
  | nil => cases hx
  | @cons a b as bs h1 _ ih =>
    rcases List.mem_cons.mp hx with rfl | hx
    · exact ⟨b, List.mem_cons_self, h1⟩
    · obtain ⟨y, hy, hp⟩ := ih hx
      exact ⟨y, List.mem_cons_of_mem _ hy, hp⟩
theorem nodup_key {ks : List (List Key × V)} (vn : (ks.map (·.2)).Nodup) (kn : (ks.map (·.1)).Nodup) {k : List Key} {v : V} (hm : (k, v) ∈ ks) : ∀ x ∈ ks, x.2 = v ↔ x.1 = k := by
  induction ks with
  | nil => cases hm
  | cons a ks ih =>
    rw [List.map_cons, List.nodup_cons] at vn kn
    intro x hx
    rcases List.mem_cons.mp hm with rfl | hm2
    · rcases List.mem_cons.mp hx with rfl | hx
      · exact ⟨fun _ => rfl, fun _ => rfl⟩
      · exact ⟨fun e => absurd (List.mem_map.mpr ⟨x, hx, e⟩) vn.1, fun e => absurd (List.mem_map.mpr ⟨x, hx, e⟩) kn.1⟩
    · rcases List.mem_cons.mp hx with rfl | hx
      · exact ⟨fun e => absurd (List.mem_map.mpr ⟨(k, v), hm2, e.symm⟩) vn.1, fun e => absurd (List.mem_map.mpr ⟨(k, v), hm2, e.symm⟩) kn.1⟩
      · exact ih vn.2 kn.2 hm2 x hx
theorem foe_step {ks : List (List Key × V)} {kvs : List (List D × List D)} (F : FoeH K G H0 H da p ks kvs) (ep : H p = some (.dT ks)) {k : List Key} {y : V} {d : D} (hy : RD K G y d) {t : Addr} (ht : H t = none) (hg : G t = none) (htd : t ∉ da) (h0 : H0 t = none) (hb : ∀ kv ∈ kvs, kv.2.length < 1000000) :
    ∃ q vs ks', (valV ks k).getD (.ref t) = .ref q ∧ setdH (upd H t (.lst [])) p ks k (.ref t) q = some (.lst vs) ∧ vs.length < 1000000 ∧
      upd (setdH (upd H t (.lst [])) p ks k (.ref t)) q (.lst (vs ++ [y])) p = some (.dT ks') ∧ FoeH K G H0 (upd (setdH (upd H t (.lst [])) p ks k (.ref t)) q (.lst (vs ++ [y]))) da p ks' (addT kvs (k.map keyDK) d) ∧
      ∀ b, b ≠ p → (H0 b ≠ none ∨ b ∈ da ∨ G b ≠ none) → upd (setdH (upd H t (.lst [])) p ks k (.ref t)) q (.lst (vs ++ [y])) b = H b := by
  have htp : p ≠ t := fun e => by rw [e, ht] at ep; cases ep
  have ha := foe_any (k := k) F.pr
  cases ev : valV ks k with
  | some v =>
    have hm := val_mem ev
    obtain ⟨z, hz, e1, q, vs, e2, e3, e4, e5, e6, e7, e8⟩ := paired_mem F.pr hm
    simp only at e2
    subst e2
    have hqt : q ≠ t := fun e => by rw [e, ht] at e3; cases e3
    have hH2 : setdH (upd H t (.lst [])) p ks k (.ref t) = upd H t (.lst []) := by unfold setdH; rw [ev]
    rw [hH2]
    have q1 : upd H t (.lst []) q = some (.lst vs) := by rw [upd_ne hqt]; exact e3
    refine ⟨q, vs, ks, rfl, q1, by rw [e4.length]; exact hb z hz, ?_, ⟨?_, F.kn, F.vn⟩, fun b hbp h => ?_⟩
    · rw [upd_ne (Ne.symm e7), upd_ne htp]; exact ep
    · unfold addT
      rw [ha, ev]
      simp only [Option.isSome_some, if_true]
      refine foe_old (q := q) (vs := vs) (y := y) e3 hy (fun b hb hn => ?_) upd_same F.pr F.kn F.vn (nodup_key F.vn F.kn hm)
      have hbt : b ≠ t := fun e => hn (by rw [e]; exact ht)
      rw [upd_ne hb, upd_ne hbt]
    · have hbq : b ≠ q := fun e => by
        subst e
        rcases h with h | h | h
        · exact h e8
        · exact e6 h
        · exact h e5
      have hbt : b ≠ t := fun e => by
        subst e
        rcases h with h | h | h
        · exact h h0
        · exact htd h
        · exact h hg
      rw [upd_ne hbq, upd_ne hbt]
  | none =>
    have hno := val_none ev
    have hH2 : setdH (upd H t (.lst [])) p ks k (.ref t) = upd (upd H t (.lst [])) p (.dT (L2.putK ks k (.ref t))) := by unfold setdH; rw [ev]
    have hput : L2.putK ks k (.ref t) = ks ++ [(k, .ref t)] := by
      unfold L2.putK
      rw [valV_any, ev]
      rfl
    rw [hH2, hput]
    refine ⟨t, [], ks ++ [(k, .ref t)], rfl, ?_, by simp, ?_, ⟨?_, ?_, ?_⟩, fun b hbp h => ?_⟩
    · rw [upd_ne (Ne.symm htp), upd_same]
    · rw [upd_ne htp, upd_same]
    · unfold addT
      rw [ha, ev]
      simp only [Option.isSome_none, Bool.false_eq_true, if_false]
      refine Paired.snoc (paired_imp F.pr fun x hx z hz => ?_) ⟨rfl, t, [y], rfl, by rw [List.nil_append, upd_same], .cons hy .nil, hg, htd, Ne.symm htp, h0⟩
      obtain ⟨e1, q, vs, e2, e3, e4, e5, e6, e7, e8⟩ := hz
      have hqt : q ≠ t := fun e => by rw [e, ht] at e3; cases e3
      exact ⟨e1, q, vs, e2, by rw [upd_ne hqt, upd_ne e7, upd_ne hqt]; exact e3, e4, e5, e6, e7, e8⟩
    · rw [List.map_append, List.nodup_append]
      refine ⟨F.kn, by simp, fun a ha b hb e => ?_⟩
      obtain ⟨x, hx, rfl⟩ := List.mem_map.mp ha
      simp only [List.map_cons, List.map_nil, List.mem_singleton] at hb
      exact hno x hx (e.trans hb)
    · rw [List.map_append, List.nodup_append]
      refine ⟨F.vn, by simp, fun a ha b hb e => ?_⟩
      obtain ⟨x, hx, rfl⟩ := List.mem_map.mp ha
      simp only [List.map_cons, List.map_nil, List.mem_singleton] at hb
      obtain ⟨z, _, _, q, vs, e2, e3, _⟩ := paired_mem F.pr hx
      rw [e2, hb] at e
      cases e
      rw [ht] at e3
      cases e3
    · have hbt : b ≠ t := fun e => by
        subst e
        rcases h with h | h | h
        · exact h h0
        · exact htd h
        · exact h hg
      rw [upd_ne hbt, upd_ne hbp, upd_ne hbt]
end
end AOne
end

section
set_option Elab.async false
set_option linter.all false
set_option maxRecDepth 100000
set_option maxHeartbeats 4000000
set_option autoImplicit false
/-! A31: a dict of lists, all its lists frozen. -/
namespace AOne
open PySem PySem.Spec L2
section
variable {K : PySem.W.Frag} {G H H0 H' : Hp} {da : List Addr} {p : Addr} {S : Sto}
theorem foe_freeze : ∀ {ks : List (List Key × V)} {kvs : List (List D × List D)} {G : Hp}, Paired (FoeP K G H0 H da p) ks kvs → (ks.map (·.2)).Nodup → RelS K G H da S → G p = none →
    ∃ G', Same G G' ∧ RelS K G' H da S ∧ (∀ b, H0 b ≠ none → G b = none → G' b = none) ∧ G' p = none ∧ Paired (fun (x : List Key × V) (y : List D × D) => y.1 = x.1.map keyDK ∧ RD K G' x.2 y.2) ks (kvs.map fun kv => (kv.1, D.lst kv.2)) := by
  intro ks kvs
  induction ks generalizing kvs with
  | nil =>
    intro G h _ R hp
    cases h
    exact ⟨G, Same.refl _, R, fun _ _ h => h, hp, .nil⟩
  | cons x ks ih =>
    intro G h vn R hp
    cases h with
    | @cons _ y _ ys h1 h2 =>
      obtain ⟨e1, q, vs, e2, e3, e4, e5, e6, e7, e8⟩ := h1
      rw [List.map_cons, List.nodup_cons] at vn
      have s1 : Same G (upd G q (.lst vs)) := same_fresh e5
      have R1 := R.freeze (p := q) e3 e5 e6
      obtain ⟨G', g1, R2, g2, g3, g4⟩ := ih (kvs := ys) (G := upd G q (.lst vs)) (paired_imp h2 fun x' hx' y' hy' => by
        obtain ⟨f1, q', vs', f2, f3, f4, f5, f6, f7, f8⟩ := hy'
        have ne : q' ≠ q := fun e => vn.1 (List.mem_map.mpr ⟨x', hx', by rw [f2, e2, e]⟩)
        exact ⟨f1, q', vs', f2, f3, f4.mono s1, by rw [upd_ne ne]; exact f5, f6, f7, f8⟩) vn.2 R1 (by rw [upd_ne (Ne.symm e7)]; exact hp)
      refine ⟨G', s1.trans g1, R2, fun b hb hn => g2 b hb ?_, g3, .cons ⟨e1, ?_⟩ g4⟩
      · rw [upd_ne (fun e => hb (by rw [e]; exact e8))]
        exact hn
      · rw [e2]
        exact .lst (SqL.of (g1 _ _ upd_same)) ((e4.mono s1).mono g1)
/-- a new cell at the end -/
theorem RelS.push (R : RelS K G H da S) {c : Cell} (hp : p ∉ da) (hg : G p = none) (hc : CellOk K G H p c) : RelS K G H (da ++ [p]) (S ++ [c]) := by
  refine ⟨R.same, by simp [R.len], ?_, fun n b eb => ?_, R.nt⟩
  · rw [List.nodup_append]
    exact ⟨R.nd, by simp, fun x hx y hy e => hp (by rw [← List.mem_singleton.mp hy, ← e]; exact hx)⟩
  · by_cases hn : n < da.length
    · rw [List.getElem?_append_left hn] at eb
      obtain ⟨k1, c, k2, k3⟩ := R.cell n b eb
      exact ⟨k1.imp id (fun ⟨xs0, z⟩ => ⟨xs0, by rw [List.getElem?_append_left (by rw [← R.len]; exact hn)]; exact z⟩), c, by rw [List.getElem?_append_left (by rw [← R.len]; exact hn)]; exact k2, k3⟩
    · rw [List.getElem?_append_right (by omega)] at eb
      have hn' : n = da.length := by
        rcases Nat.lt_or_ge (n - da.length) 1 with z | z
        · omega
        · rw [List.getElem?_eq_none (by simpa using z)] at eb; cases eb
      subst hn'
      simp at eb
      subst eb
      exact ⟨.inl hg, c, by rw [R.len]; simp, hc⟩
/-- the end: the dict is a cell, its lists are data -/
theorem foe_end {ks : List (List Key × V)} {kvs : List (List D × List D)} (F : FoeH K G H0 H da p ks kvs) (R : RelS K G H da S) (ep : H p = some (.dT ks)) (hg : G p = none) (hp : p ∉ da) :
    ∃ G', Same G G' ∧ (∀ b, H0 b ≠ none → G b = none → G' b = none) ∧ RelS K G' H (da ++ [p]) (S ++ [.dtt (kvs.map fun kv => (kv.1, D.lst kv.2))]) := by
  obtain ⟨G', g1, R2, g2, g3, g4⟩ := foe_freeze F.pr F.vn R hg
  exact ⟨G', g1, g2, R2.push hp g3 ⟨ks, ep, g4⟩⟩
end
end AOne
end

section
set_option Elab.async false
set_option linter.all false
set_option maxRecDepth 100000
set_option maxHeartbeats 4000000
set_option autoImplicit false
/-! A32: readings of a dict of lists, of get with a default, pop and count. -/
namespace AOne
open PySem PySem.Spec L2
section
variable {K : PySem.W.Frag} {C : Call} {σ : L2.St} {G H H0 G0 : Hp} {da da0 : List Addr} {p : Addr} {S : Sto} {Z : Ends}
/-- found.setdefault(one, []).append(other) -/
def tFoe1 (K : PySem.W.Frag) (v a b : Nat) : TS := tDrop (tBM K "list" rAppend (tDSetD (tVar v) (tVar a) (tLst tNil)) (tCons (tVar b) tNil))
theorem RelE.skip {r : Ev} {i : Nat} {x : Option V} (E : RelE K G da σ r) (h : r[i]? = some none) : RelE K G da (σ.set i x) r := by
  refine ⟨by rw [List.length_set]; exact E.len, fun j d e => ?_⟩
  have ne : i ≠ j := by rintro rfl; rw [h] at e; cases e
  obtain ⟨v, h1, h2⟩ := E.val j d e
  exact ⟨v, by rw [List.getElem?_set_ne ne]; exact h1, h2⟩
theorem RelE.unset {r : Ev} {i : Nat} (E : RelE K G da σ r) : RelE K G da σ (r.set i none) := by
  refine ⟨by rw [List.length_set]; exact E.len, fun j d e => ?_⟩
  by_cases h : i = j
  · subst h
    rw [List.getElem?_set] at e
    simp at e
  · rw [List.getElem?_set_ne h] at e
    exact E.val j d e
theorem small_of {kvs : List (List D × List D)} (h : smallT kvs = true) : kvs.length < 1000000 ∧ ∀ kv ∈ kvs, kv.2.length < 1000000 := by
  unfold smallT at h
  rw [Bool.and_eq_true] at h
  exact ⟨of_decide_eq_true h.1, fun kv hk => of_decide_eq_true (List.all_eq_true.mp h.2 kv hk)⟩
theorem foe_one {v a b : Nat} {A : Addr} {k : List Key} {y : V} {d : D} {ks : List (List Key × V)} {kvs : List (List D × List D)}
    (R : RelS K G H da S) (g : Grow G0 H0 da0 G H da) (h0 : H0 p = none) (hg : G p = none) (hp : p ∉ da) (F : FoeH K G H0 H da p ks kvs) (ep : H p = some (.dT ks)) (hs : smallT kvs = true)
    (ev : σ[v]? = some (some (.ref p))) (ea : σ[a]? = some (some (.ref A))) (eA : G A = some (.tup (k.map kV))) (eb : σ[b]? = some (some y)) (hy : RD K G y d)
    (q : ∀ H' ks', RelS K G H' da S → Grow G0 H0 da0 G H' da → FoeH K G H0 H' da p ks' (addT kvs (k.map keyDK) d) → H' p = some (.dT ks') → Z.nx σ H') : tFoe1 K v a b Z σ H := by
  obtain ⟨s1, s2⟩ := small_of hs
  have hl : ks.length = kvs.length := Paired.length F.pr
  refine ⟨.ref p, ev, p, rfl, .inr ⟨ks, Rd.of ep⟩, .ref A, ea, by simp [sizeLine_eq], fun t ht => ?_⟩
  have hgt : G t = none := R.gnone ht
  have hdt : t ∉ da := R.notIn ht
  have h0t : H0 t = none := g.none ht
  have htp : p ≠ t := fun e => by rw [e, ht] at ep; cases ep
  have hAt : A ≠ t := fun e => by rw [e, hgt] at eA; cases eA
  obtain ⟨q', vs, ks', e1, e2, e3, e4, e5, e6⟩ := foe_step F ep (k := k) (y := y) (d := d) hy ht hgt hdt h0t s2
  refine ⟨ks, k, A, by rw [upd_ne htp]; exact ep, rfl, by rw [upd_ne hAt]; exact R.same _ _ eA, by rw [hl, sizeLine_eq]; omega, ?_⟩
  refine ⟨?_, y, eb, q', vs, y, e1, rfl, e2, by rw [sizeLine_eq]; omega, ?_⟩
  · rw [e1]
    exact .inl ⟨rfl, vs, SqL.of e2⟩
  · have off : ∀ b, (b ∈ da ∨ G b ≠ none) → upd (setdH (upd H t (.lst [])) p ks k (.ref t)) q' (.lst (vs ++ [y])) b = H b := fun b hb => by
      refine e6 b (fun e => ?_) (.inr hb)
      subst e
      rcases hb with hb | hb
      · exact hp hb
      · exact hb hg
    have off0 : ∀ b, H0 b ≠ none → upd (setdH (upd H t (.lst [])) p ks k (.ref t)) q' (.lst (vs ++ [y])) b = H b := fun b hb => e6 b (fun e => hb (by rw [e]; exact h0)) (.inl hb)
    refine q _ ks' (R.off off) ⟨g.g, g.old, fun b o eo hb ht => ?_, fun b hb => ?_, g.pre, g.new⟩ e5 e4
    · rw [off0 b (by rw [eo]; simp)]; exact g.keep b o eo hb ht
    · rw [off0 b hb]; exact g.there b hb
theorem keys_rd : ∀ {vs : List V} {ds : List D}, RDs K G vs ds → ds.all keyD1 = true → ∃ k : List Key, vs = k.map kV ∧ ds = k.map keyDK
  | _, _, .nil, _ => ⟨[], rfl, rfl⟩
  | _, _, .cons (d := d) h r, e => by
    rw [List.all_cons, Bool.and_eq_true] at e
    obtain ⟨k, e1, e2⟩ := keys_rd r e.2
    cases d <;> simp only [keyD1, Bool.false_eq_true] at e
    · exact absurd e.1 (by decide)
    · exact absurd e.1 (by decide)
    · cases h
      exact ⟨.inl _ :: k, by rw [e1]; rfl, by rw [e2]; rfl⟩
    · cases h
      exact ⟨.inr _ :: k, by rw [e1]; rfl, by rw [e2]; rfl⟩
    · exact absurd e.1 (by decide)
    · exact absurd e.1 (by decide)
    · exact absurd e.1 (by decide)
    · exact absurd e.1 (by decide)
theorem FoeH.go {G' H' : Hp} {ks : List (List Key × V)} {kvs : List (List D × List D)} (F : FoeH K G H0 H da p ks kvs) (g : Grow G H da G' H' da) : FoeH K G' H0 H' da p ks kvs := by
  refine ⟨paired_imp F.pr fun x _ y hy => ?_, F.kn, F.vn⟩
  obtain ⟨e1, q, vs, e2, e3, e4, e5, e6, e7, e8⟩ := hy
  exact ⟨e1, q, vs, e2, g.keep q _ e3 e6 (fun _ z => by cases z), e4.mono g.g, g.old q (by rw [e3]; simp) (notCode e3 fun _ z => by cases z) e5 e6, e6, e7, e8⟩
def tFoes (K : PySem.W.Frag) (C : Call) (v a b : Nat) (it : Tm) : TS := tSeq (tAsg tDNewT (gName v)) (tFor (rdI K C it) (gTup K 2 (gCons (gName a) (gCons (gName b) gNil))) (tSeq (tFoe1 K v a b) (tSeq (tFoe1 K v b a) tNext)))
theorem rs_foes {v a b : Nat} {it : Tm} (h : rdS K C (.foes v a b it) Z σ H) : tFoes K C v a b it Z σ H := by
  obtain ⟨G, da, S, r, f, S', R, E, e, q⟩ := rdS_iff.mp h
  simp only [exe] at e
  split at e
  · cases e
  · rename_i xs S1 ei
    split at e
    · cases e
    · rename_i fin ef
      split at e
      · rename_i hb
        cases e
        simp only [Bool.and_eq_true, decide_eq_true_eq, ne_eq] at hb
        obtain ⟨⟨⟨⟨⟨b1, b2⟩, b3⟩, b4⟩, b5⟩, b6⟩ := hb
        intro p hp
        have gn : G p = none := R.gnone hp
        have nin : p ∉ da := R.notIn hp
        have g0 : Grow G H da G (upd H p (.dT [])) da := Grow.lay hp
        have lenr : σ.length = r.length := E.len
        have rv : (r.set v none)[v]? = some none := by rw [List.getElem?_set_self b4]
        refine ⟨G, da, S, r.set v none, xs, S1, R.lay hp, (E.unset).skip rv, ei, fun J H1 G1 da1 g1 R1 hlen drv => ?_⟩
        have at1 : H1 p = some (.dT []) := g1.keep p _ upd_same nin (fun _ z => by cases z)
        have gn1 : G1 p = none := g1.old p (by rw [upd_same]; simp) (notCode upd_same fun _ z => by cases z) gn nin
        have nin1 : p ∉ da1 := g1.notIn (H := upd H p (.dT [])) upd_same nin
        have E1 : RelE K G1 da1 (σ.set v (some (.ref p))) (((r.set v none).set a none).set b none) := ((((E.unset).skip rv).mono g1).unset).unset
        generalize hr3 : ((r.set v none).set a none).set b none = r3 at E1 q
        have ra : r3[a]? = some none := by
          rw [← hr3, List.getElem?_set_ne (Ne.symm b3), List.getElem?_set_self (by rw [List.length_set]; exact b5)]
        have rb : r3[b]? = some none := by
          rw [← hr3, List.getElem?_set_self (by rw [List.length_set, List.length_set]; exact b6)]
        have r3l : r3.length = r.length := by rw [← hr3]; simp
        refine for_it drv (fun i σ2 H2 => ∃ G2 ks kvs, Grow G H da G2 H2 da1 ∧ Same G1 G2 ∧ RelS K G2 H2 da1 S1 ∧ RelE K G2 da1 σ2 r3 ∧ σ2[v]? = some (some (.ref p)) ∧ H2 p = some (.dT ks) ∧ G2 p = none ∧ FoeH K G2 H H2 da1 p ks kvs ∧ foesF (xs.drop i) kvs = some fin) ?_ ?_ ?_ ?_
        · exact ⟨G1, [], [], g0.trans g1, Same.refl _, R1, E1, by rw [List.getElem?_set_self (by rw [lenr]; exact b4)], at1, gn1, ⟨.nil, by simp, by simp⟩, by simpa using ef⟩
        · rintro i σ2 H2 _ ⟨G2, ks, kvs, g2, s2, R2, _⟩
          exact s2.trans R2.same
        · rintro i x σ2 H2 H3 hi ⟨G2, ks, kvs, g2, s2, R2, E2, ev, ep, eg, F, el⟩ y
          obtain ⟨G3, d, hd, g3, R3, hx⟩ := yl_step R2 s2 y
          rw [drop_get hd] at el
          have F3 := F.go g3
          have ep3 : H3 p = some (.dT ks) := g3.keep p _ ep nin1 (fun _ z => by cases z)
          have eg3 : G3 p = none := g3.old p (by rw [ep]; simp) (notCode ep fun _ z => by cases z) eg nin1
          unfold foesF at el
          split at el
          · rename_i he; cases he
          · rename_i ka kb rest kvs' he
            cases he
            split at el
            · rename_i hk
              simp only [Bool.and_eq_true] at hk
              obtain ⟨⟨⟨k1, k2⟩, k3⟩, k4⟩ := hk
              cases hx with
              | @tup T us _ hT hus =>
                cases hus with
                | @cons y1 _ _ _ h1 hr =>
                  cases hr with
                  | @cons y2 _ _ _ h2 hr2 =>
                    cases hr2
                    cases h1 with
                    | @tup A1 us1 _ hA1 hu1 =>
                      cases h2 with
                      | @tup A2 us2 _ hA2 hu2 =>
                        obtain ⟨c1, rfl, rfl⟩ := keys_rd hu1 k1
                        obtain ⟨c2, rfl, rfl⟩ := keys_rd hu2 k2
                        refine ⟨T, _, rfl, SqT.of (R3.same _ _ hT), rfl, .ref A1, _, rfl, .ref A2, _, rfl, rfl, ?_⟩
                        have la : a < σ2.length := by rw [E2.len, r3l]; exact b5
                        have lb : b < σ2.length := by rw [E2.len, r3l]; exact b6
                        have E3 : RelE K G3 da1 ((σ2.set a (some (.ref A1))).set b (some (.ref A2))) r3 := ((E2.mono g3).skip ra).skip rb
                        have sv : ((σ2.set a (some (.ref A1))).set b (some (.ref A2)))[v]? = some (some (.ref p)) := by
                          rw [List.getElem?_set_ne (Ne.symm b2), List.getElem?_set_ne (Ne.symm b1)]; exact ev
                        have sa : ((σ2.set a (some (.ref A1))).set b (some (.ref A2)))[a]? = some (some (.ref A1)) := by
                          rw [List.getElem?_set_ne (Ne.symm b3), List.getElem?_set_self la]
                        have sb : ((σ2.set a (some (.ref A1))).set b (some (.ref A2)))[b]? = some (some (.ref A2)) := by
                          rw [List.getElem?_set_self (by rw [List.length_set]; exact lb)]
                        refine foe_one (R := R3) (g := g2.trans g3) hp eg3 nin1 F3 ep3 k3 sv sa hA1 sb (.tup hA2 hu2) fun H4 ks4 R4 g4 F4 ep4 => ?_
                        refine foe_one (R := R4) (g := g4) hp eg3 nin1 F4 ep4 k4 sv sb hA2 sa (.tup hA1 hu1) fun H5 ks5 R5 g5 F5 ep5 => ?_
                        exact ⟨G3, ks5, _, g5, s2.trans g3.g, R5, E3, sv, ep5, eg3, F5, el⟩
            · cases el
          · cases el
        · rintro σ2 H2 ⟨G2, ks, kvs, g2, s2, R2, E2, ev, ep, eg, F, el⟩
          rw [List.drop_length] at el
          unfold foesF at el
          cases el
          obtain ⟨G', s3, o3, R3⟩ := foe_end F R2 ep eg nin1
          refine q σ2 H2 G' (da1 ++ [p]) ⟨g2.g.trans s3, fun b h1 h0 h2 h3 => o3 b h1 (g2.old b h1 h0 h2 h3), g2.keep, g2.there, ?_, fun x hx => ?_⟩ R3 ?_
          · obtain ⟨r', e'⟩ := g2.pre
            exact ⟨r' ++ [p], by rw [e', List.append_assoc]⟩
          · rcases List.mem_append.mp hx with z | z
            · exact g2.new x z
            · rw [List.mem_singleton.mp z]; exact .inr hp
          · have E3 : RelE K G' (da1 ++ [p]) σ2 r3 := E2.mono0 ⟨s3, [p], rfl⟩
            refine ⟨by rw [List.length_set]; exact E3.len, fun j d e => ?_⟩
            by_cases hj : v = j
            · subst hj
              rw [List.getElem?_set_self (by rw [r3l]; exact b4)] at e
              cases e
              exact ⟨.ref p, ev, .inr (.inl ⟨S1.length, p, rfl, rfl, by rw [← R2.len]; simp⟩)⟩
            · rw [List.getElem?_set_ne hj] at e
              exact E3.val j d e
      · cases e
/-! foes.get(pair, []) -/
theorem pairedT_none {k : List Key} {ks : List (List Key × V)} {kvs : List (List D × D)} (h : Paired (fun (p : List Key × V) (q : List D × D) => q.1 = p.1.map keyDK ∧ RD K G p.2 q.2) ks kvs) (e : getT kvs (k.map keyDK) = none) : valV ks k = none := by
  induction h with
  | nil => rfl
  | @cons p q ps qs h1 _ ih =>
    by_cases hk : p.1 = k
    · have : keqs q.1 (k.map keyDK) = true := by rw [h1.1, keqs_key]; simpa using hk
      simp [getT, List.find?_cons, this] at e
    · have : keqs q.1 (k.map keyDK) = false := by rw [h1.1, keqs_key]; simpa using hk
      rw [valV_neg hk]
      exact ih (by simpa [getT, List.find?_cons, this] using e)
theorem isDtt_ok {S : Sto} {n : Nat} (h : ¬ (!isDtt S n) = true) : ∃ xs, S[n]? = some (.dtt xs) := by
  unfold isDtt at h
  split at h
  · rename_i xs e; exact ⟨xs, e⟩
  · simp at h
theorem rd_gett {a k : Tm} {Q : VK} (h : rdE K C (.gett a k) σ H Q) : tDGet2 (rdE K C a) (rdE K C k) (tLst tNil) σ H Q := by
  obtain ⟨G, da, S, r, d, S', R, E, e, q⟩ := h
  rw [sem] at e
  split at e
  · rename_i n S1 ea
    split at e
    · cases e
    · rename_i hq
      split at e
      · rename_i ds S2 ek
        split at e
        · rename_i hk
          split at e
          · rename_i kvs hs
            cases e
            refine rd1 R E ea fun v H1 G1 da1 g1 R1 h1 => ?_
            obtain ⟨p, rfl, hp⟩ := rd_cell R1 h1
            obtain ⟨kv0, hd0⟩ := isDtt_ok hq
            obtain ⟨ks0, k01, _⟩ := cell_dtt R1 hp hd0
            refine ⟨p, rfl, .inr ⟨ks0, Rd.of k01⟩, rd1 R1 (E.mono g1) ek fun y H2 G2 da2 g2 R2 h2 => ⟨by simp [sizeLine_eq], fun t ht => ?_⟩⟩
            have h2 := h2.rd rfl
            cases h2 with
            | @tup A us _ hA hu =>
              obtain ⟨c, rfl, rfl⟩ := keys_rd hu hk
              have R3 := R2.lay (o := .lst []) ht
              have tG : G2 t = none := R2.gnone ht
              have g3 : Grow G2 H2 da2 G2 (upd H2 t (.lst [])) da2 := Grow.lay ht
              obtain ⟨ks, c1, c2⟩ := cell_dtt R3 (g2.get hp) hs
              have hget : DGet (upd H2 t (.lst [])) p (.ref A) (valV ks c) := DGet.t c1 (R3.same _ _ hA)
              refine ⟨_, hget, ?_⟩
              cases eg : getT kvs (c.map keyDK) with
              | some d0 =>
                obtain ⟨w, c3, c4⟩ := pairedT_get c2 eg
                rw [c3]
                rw [eg] at q
                exact q w _ G2 da2 ((g1.trans g2).trans g3) R3 (.inl c4)
              | none =>
                rw [pairedT_none c2 eg]
                rw [eg] at q
                have gg : Grow G H da (upd G2 t (.lst [])) (upd H2 t (.lst [])) da2 := Grow.freeze ((g1.trans g2).trans g3) ((g1.trans g2).none ht) tG
                exact q (.ref t) _ (upd G2 t (.lst [])) da2 gg (R3.freeze upd_same tG (R2.notIn ht)) (.inl (.lst (SqL.of upd_same) .nil))
          · cases e
        · cases e
      · cases e
  · cases e
/-! xs.pop() -/
theorem RDs.dropLast {vs : List V} {ds : List D} (h : RDs K G vs ds) : RDs K G vs.dropLast ds.dropLast := by
  rw [List.dropLast_eq_take, List.dropLast_eq_take, h.length]
  exact h.take _
theorem rd_popl {a : Tm} {Q : VK} (h : rdE K C (.popl a) σ H Q) : tBM0 K "list" rPop (rdE K C a) σ H Q := by
  obtain ⟨G, da, S, r, d, S', R, E, e, q⟩ := h
  rw [sem] at e
  split at e
  · rename_i n S1 ea
    split at e
    · rename_i xs hs
      split at e
      · rename_i d0 hd
        split at e
        · rename_i hl
          cases e
          refine rd1 R E ea fun v H1 G1 da1 g1 R1 h1 => ?_
          obtain ⟨p, rfl, hp⟩ := rd_cell R1 h1
          obtain ⟨vs, k1, k2⟩ := cell_lst R1 hp hs
          rw [List.getLast?_eq_getElem?] at hd
          obtain ⟨y, k3, k4⟩ := k2.get hd
          refine ⟨ty_cell R1 hp ⟨xs, hs⟩, p, vs, y, rfl, rfl, k1, by rw [k2.length]; exact k3, ?_⟩
          exact q y _ G1 da1 (g1.trans (Grow.cellset (List.mem_of_getElem? hp))) (R1.cellset hp (by intro x0; rw [hs]; simp) fun H' e' => ⟨_, e', k2.dropLast⟩) (.inl k4)
        · cases e
      · cases e
    · cases e
  · cases e
/-! xs.count(text) -/
theorem strs_of : ∀ {vs : List V} {xs : List D} {ns : List Str}, RDs K G vs xs → strsD xs = some ns → vs = ns.map V.str
  | _, _, _, .nil, e => by
    simp only [strsD] at e
    cases e
    rfl
  | _, _, _, .cons (d := d) h r, e => by
    cases d <;> simp only [strsD, reduceCtorEq] at e
    obtain ⟨m, hm, rfl⟩ := Option.map_eq_some_iff.mp e
    cases h
    rw [strs_of r hm]
    rfl
theorem rd_cnt {a x : Tm} {Q : VK} (h : rdE K C (.cnt a x) σ H Q) : tBM K "list" (rCntS K) (rdE K C a) (tCons (rdE K C x) tNil) σ H Q := by
  obtain ⟨G, da, S, r, d, S', R, E, e, q⟩ := h
  rw [sem] at e
  split at e
  · rename_i xs S1 ea
    split at e
    · rename_i k S2 ex
      obtain ⟨ns, hn, e2⟩ := Option.map_eq_some_iff.mp e
      cases e2
      refine rd1 R E ea fun v H1 G1 da1 g1 R1 h1 => ?_
      have h1 := h1.rd rfl
      cases h1 with
      | @lst A vs _ hA hu =>
        refine ⟨.inl ⟨rfl, vs, same_sql R1.same hA⟩, rd1 R1 (E.mono g1) ex fun y H2 G2 da2 g2 R2 h2 => ?_⟩
        have h2 := h2.rd rfl
        cases h2
        have hv := strs_of hu hn
        subst hv
        exact ⟨A, ns, k, rfl, rfl, same_sql R2.same (same_sql g2.g hA), q _ H2 G2 da2 (g1.trans g2) R2 (.inl (.int _))⟩
    · cases e
  · cases e
end
end AOne
end

section
set_option Elab.async false
set_option linter.all false
set_option maxRecDepth 100000
set_option maxHeartbeats 1000000
set_option autoImplicit false
/-! A11: calls. -/
namespace AOne
open PySem PySem.Spec L2
open PyProof.Rows (envOfC)

abbrev CX0 : CXT := fun _ _ _ _ _ _ => False
abbrev XK0 : XK := fun _ _ _ => False

/-- a def's promise, with nothing guarded around -/
structure FnG (P : Program) (w : World) (K : PySem.W.Frag) (mg : Str → Option Value) (base : Heap) (k : Nat) (f : Addr) (fd : FuncData) (ps : List Str) (sp : List V → Hp → VK → Prop) : Prop where
  run : ∀ (A : Around) (outer : List Env) (s : Shared) (H : Hp) (args : Args) (us : List Value) (vs : List V) (Q : VK), Room k A → A.guards = some [] → Env0 P w K mg base A outer s H → BindsTo s fd args (ps.zip us) → Vals vs us → sp vs H Q →
    codeAny (model P w) A (.call (.ref f) args) (CR CX0 outer P w H s Q XK0) s
/-- THE RULE for a def, by its body -/
theorem fnG_of {P : Program} {w : World} {K : PySem.W.Frag} {mg : Str → Option Value} {base : Heap} {k : Nat} {f : Addr} {x qual : Str} {params : Arguments} {body : List Stmt} {scope : Scope} {dvs : List V} {kws : List (Str × V)} {fd : FuncData}
    {N ps : List Str} {sp : List V → Hp → VK → Prop} (F : FunD K x qual params body scope dvs kws f fd) (S : FnScope N ps scope) (len : ∀ vs H Q, sp vs H Q → vs.length = ps.length)
    (hbody : ∀ (cdv : Value) (A : Around) (outer : List Env) (s : Shared) (H : Hp) (vs : List V) (Q : VK), fd.code = cdv → (∃ oc od osl, K.lookup f = some ⟨oc, od, .func fd, osl⟩) → PySem.W.codeIn K cdv qual = true → Room k (A.deeper (envOfC qual scope s.heap.objs.size f cdv)) → A.guards = some [] → sp vs H Q →
      ∃ t, PSs (cxOf CX0 P w K mg base N qual scope f cdv A outer s H XK0).nox body t ∧ t { nx := fun _ H' => Q .non H', rt := Q } (start N vs) H) : FnG P w K mg base (k + 1) f fd ps sp := by
  obtain ⟨oc, od, dV, kV, doc, pm, an, cdv, ct, osl, rfl, lk, hcd, _, _⟩ := F.ex
  refine ⟨fun A outer s H args us vs Q hr hg e0 hb r hsp => ?_⟩
  have hl := len _ _ _ hsp
  have KX : K.In s.heap := e0.mod.kin.keeps fun b o e => (e0.bs b o e).1
  have lim : s.heap.NoLimit := e0.mod.nolimit.keeps fun b o e => (e0.bs b o e).1
  have hkind : ∀ y ∈ ps.zip us, scope.names.lookup y.1 = some .local ∨ (scope.names.lookup y.1 = some .cell ∧ ((cellsFrom (s.heap.objs.size + 1) scope.names []).lookup y.1).isSome = true) := fun ⟨n, v⟩ hy => by
    rcases S.par n (List.of_mem_zip hy).1 with q | q
    · exact .inl q
    · exact .inr ⟨q, PySem.W.cellsFrom_some _ _ _ (.inl q)⟩
  refine codeAny_call_function hr.depth (KX _ _ lk) rfl S.co S.gen rfl (PySem.W.codeRec_of KX hcd) (hb _ _ _ _ ?_)
  refine wpAny_newFunctionEnv_cells S.kind hkind fun env he s1 x => ?_
  subst he
  refine ⟨lim.keeps x.toInCall.keep, codeAny_func ?_⟩
  obtain ⟨t, ht, hq⟩ := hbody cdv A outer s H vs Q rfl ⟨oc, od, osl, lk⟩ hcd (hr.deeper _) hg hsp
  have ht := PSs.nox ht
  have I : Inv (cxOf CX0 P w K mg base N qual scope f cdv A outer s H XK0) [] (start N vs) H s1 := inv_start S hr.hd e0 hl r x
  refine wpAny_mono (ht.run [] s1 (start N vs) H _ I hq) (fun fl s' hs => ?_) fun e s' hs => hs
  have fin : ∀ {σ' : L2.St} {H' : Hp} {v : V} {u : Value}, Inv (cxOf CX0 P w K mg base N qual scope f cdv A outer s H XK0) [] σ' H' s' → RelV v u → Q v H' → CE outer P w H s Q u s' :=
    fun {σ' H' v u} J rv q => ⟨v, H', J.os, J.bare, J.base, J.hok, rv, q⟩
  cases fl with
  | ret u =>
    obtain ⟨v, σ', H', J, rv, q⟩ := hs
    exact fin J rv q
  | next =>
    obtain ⟨σ', H', J, q⟩ := hs
    exact fin (v := V.non) (u := Value.none) J rfl q
  | brk =>
    obtain ⟨_, _, _, q⟩ := hs
    exact False.elim q
  | cont =>
    obtain ⟨_, _, _, q⟩ := hs
    exact False.elim q
/-- the callee runs -/
theorem run_fnG {X : Cx} {k : Nat} {f : Addr} {fd : FuncData} {ps : List Str} {sp : List V → Hp → VK → Prop} {pins : List (Addr × Obj)} {σ : L2.St} {H : Hp} {s : Shared} {Q : VK} {us : List Value} {kw : List (Str × Value)} {zs : List Value} {vs : List V}
    (F : FnG X.prog X.w X.K X.mg X.base k f fd ps sp) (hr : Room k X.A) (hg : X.A.guards = some []) (hb : BindsTo s fd ⟨us, kw⟩ (ps.zip zs))
    (I : Inv X pins σ H s) (r : Vals vs zs) (h : sp vs H Q) : wpAny (model X.prog X.w) X.A (call (.ref f) us kw) (EP X pins σ Q) X.xe s := by
  refine wpAny_call (codeAny_mono (F.run X.A X.stack s H ⟨us, kw⟩ zs vs Q hr hg I.env0 hb r h) fun r s' hq => ?_)
  cases r with
  | error e => exact False.elim hq
  | ok fl =>
    cases fl with
    | ret u => exact I.after hq
    | next => exact False.elim hq
    | brk => exact False.elim hq
    | cont => exact False.elim hq

/-! ### what a def of the table promises -/
def spF (K : PySem.W.Frag) (C : Call) (k : Nat) : List V → Hp → VK → Prop := fun vs H Q => ∃ G da S ds d S', RelS K G H da S ∧ RTs K G da vs ds ∧ C k ds S = some (d, S') ∧
  ∀ v H' G' da', Grow G H da G' H' da' → RelS K G' H' da' S' → RT K G' da' v d → Q v H'
theorem pick_vals : ∀ {perm : List Nat} {xs : List V} {us zs : List Value}, Vals xs us → pick perm us = some zs → ∃ ys, pick perm xs = some ys ∧ Vals ys zs
  | [], _, _, _, _, e => by simp [pick] at e; subst e; exact ⟨[], rfl, .nil⟩
  | k :: ks, xs, us, zs, r, e => by
    rw [pick] at e
    split at e
    · cases e
    · rename_i u hu
      split at e
      · cases e
      · rename_i rest hr
        cases e
        obtain ⟨ys, e1, e2⟩ := pick_vals r hr
        obtain ⟨v, hv, rv⟩ : ∃ v, xs[k]? = some v ∧ RelV v u := by
          have hl := r.length
          have hk := (List.getElem?_eq_some_iff.mp hu).1
          have hx : k < xs.length := by omega
          obtain ⟨w, hw, rw'⟩ := r.get (List.getElem?_eq_getElem hx)
          rw [hu] at hw
          cases hw
          exact ⟨_, List.getElem?_eq_getElem hx, rw'⟩
        exact ⟨v :: ys, by rw [pick, hv]; simp only [e1], .cons rv e2⟩
theorem pick_rts {K : PySem.W.Frag} {G : Hp} {da : List Addr} : ∀ {perm : List Nat} {xs : List V} {ds zs : List D}, RTs K G da xs ds → pick perm ds = some zs → ∃ ys, pick perm xs = some ys ∧ RTs K G da ys zs
  | [], _, _, _, _, e => by simp [pick] at e; subst e; exact ⟨[], rfl, .nil⟩
  | k :: ks, xs, us, zs, r, e => by
    rw [pick] at e
    split at e
    · cases e
    · rename_i u hu
      split at e
      · cases e
      · rename_i rest hr
        cases e
        obtain ⟨ys, e1, e2⟩ := pick_rts r hr
        obtain ⟨v, hv, rv⟩ := r.get hu
        exact ⟨v :: ys, by rw [pick, hv]; simp only [e1], .cons rv e2⟩
/-- how a call of that form binds -/
def PB (K : PySem.W.Frag) (fd : FuncData) (ps : List Str) (dfl : List D) (p : Pat) : Prop := ∃ (dv : List V) (its : List Value), Vals dv its ∧ (∀ G, RDs K G dv dfl) ∧
  ∀ (s : Shared) (us ws : List Value), K.In s.heap → us.length = p.n → ws.length = p.ks.length → ∃ zs, pick p.perm (us ++ ws ++ its) = some zs ∧ BindsTo s fd ⟨us, p.ks.zip ws⟩ (ps.zip zs)
theorem RDs.rts {K : PySem.W.Frag} {G : Hp} {da : List Addr} : ∀ {vs : List V} {ds : List D}, RDs K G vs ds → RTs K G da vs ds
  | _, _, .nil => .nil
  | _, _, .cons h r => .cons (.inl h) r.rts
/-- a def of the table, at a name -/
def DefOk (X : Cx) (C : Call) (x : Str) (k : Nat) (d : DefI) : Prop := ∃ (n : Nat) (f : Addr) (fd : FuncData) (ps : List Str), X.mg x = some (.ref f) ∧ PySem.W.keepIn X.K (.ref f) = true ∧ Room n X.A ∧
  FnG X.prog X.w X.K X.mg X.base n f fd ps (spF X.K C k) ∧ ∀ p ∈ d.pats, PB X.K fd ps d.dfl p

section
variable {X : Cx} {C : Call}
theorem star_one {e : Expr} {es : List Expr} {env : Env} (h : plainE e = true) : starEach (e :: es) env = (false, eval e env) :: starEach es env := by
  cases e <;> first | rfl | cases h
theorem star_none : ∀ {es : List Expr} {env : Env} {pos : Pos}, es.all plainE = true → (backTo pos (starEach es env)).any (·.1) = false
  | [], _, _, _ => rfl
  | e :: es, env, pos, h => by
    rw [List.all_cons, Bool.and_eq_true] at h
    rw [star_one h.1]
    show (false || _) = false
    exact star_none h.2
theorem star_all : ∀ {es : List Expr} {env : Env} {pos : Pos}, es.all plainE = true → (backTo pos (starEach es env)).all (fun x => !x.1) = true
  | [], _, _, _ => rfl
  | e :: es, env, pos, h => by
    rw [List.all_cons, Bool.and_eq_true] at h
    rw [star_one h.1]
    show (true && _) = true
    exact star_all h.2
theorem kw_all : ∀ {kws : List Keyword} {ks : List Str} {env : Env} {pos : Pos}, kwNames kws = some ks → (backToKw pos (keywordEach kws env)).all (·.1.isSome) = true ∧ (backToKw pos (keywordEach kws env)).filterMap (·.1) = ks ∧ (backToKw pos (keywordEach kws env)).any (·.1.isNone) = false
  | [], ks, _, _, h => by
    simp [kwNames] at h
    subst h
    exact ⟨rfl, rfl, rfl⟩
  | ⟨nm, v, p⟩ :: kws, ks, env, pos, h => by
    unfold kwNames at h
    rw [List.mapM_cons] at h
    cases nm with
    | none => simp at h
    | some a =>
      simp only [Option.bind_eq_bind, Option.bind_some] at h
      cases hk : List.mapM (fun k : Keyword => k.arg) kws with
      | none => rw [hk] at h; simp at h
      | some ks' =>
        rw [hk] at h
        simp at h
        subst h
        obtain ⟨h1, h2, h3⟩ := kw_all (env := env) (pos := pos) (show kwNames kws = some ks' from hk)
        refine ⟨?_, ?_, ?_⟩
        · show (true && _) = true; exact h1
        · show List.filterMap _ ((some a, _) :: _) = _
          rw [List.filterMap_cons]
          exact congrArg (a :: ·) h2
        · show (false || _) = false; exact h3
/-- f(.., k = v, ..) of a def of the table -/
theorem pe_callG {x : Str} {k : Nat} {d : DefI} {p pos : Pos} {args : List Expr} {kws : List Keyword} {a b : Tm} {pt : Pat} (hg : Gl X x) (hgd : X.A.guards = some []) (hd : DefOk X C x k d) (hpl : args.all plainE = true) (hkn : kwNames kws = some pt.ks) (hp : pt ∈ d.pats)
    (hn : pt.n = args.length) (h0 : args = [] → a = .nil) (ha : PA X args (rdA X.K C a)) (hla : ∀ r S ds S', semA C a r S = some (ds, S') → ds.length = args.length) (hlb : ∀ r S ds S', semA C b r S = some (ds, S') → ds.length = kws.length) (hk : PK X kws (rdA X.K C b)) (hdb : (x == ("__debug__" : Str)) = false) :
    PE X (.Call (.Name x p) args kws pos) (rdE X.K C (.call k pt.perm d.dfl a b)) := by
  refine ⟨fun pins s σ H Q I h => ?_⟩
  obtain ⟨n, f, fd, ps, hm, kp, hr, F, B⟩ := hd
  obtain ⟨dv, its, rdv, rdd, hb⟩ := B pt hp
  obtain ⟨k1, k2, k3⟩ := kw_all (env := X.env) (pos := pos) hkn
  have kl : pt.ks.length = kws.length := by
    have : ∀ {kws : List Keyword} {ks : List Str}, kwNames kws = some ks → ks.length = kws.length := by
      intro kws
      induction kws with
      | nil => intro ks h; simp [kwNames] at h; subst h; rfl
      | cons q r ih =>
        intro ks h
        unfold kwNames at h
        rw [List.mapM_cons] at h
        cases hq : q.arg with
        | none => rw [hq] at h; simp at h
        | some z =>
          rw [hq] at h
          simp only [Option.bind_eq_bind, Option.bind_some] at h
          cases hz : List.mapM (fun k : Keyword => k.arg) r with
          | none => rw [hz] at h; simp at h
          | some ks' =>
            rw [hz] at h
            simp at h
            subst h
            simp [ih (show kwNames r = some ks' from hz)]
    exact this hkn
  refine wpAny_Call_Name_kw (ld_glob I hg hm ?_ hdb)
  obtain ⟨G, da, S, r, dd, S', R, E, e, q⟩ := h
  simp only [sem] at e
  split at e
  · cases e
  · rename_i vs S1 ea
    split at e
    · cases e
    · rename_i ws S2 eb
      split at e
      · cases e
      · rename_i zs ez
        have e : C k zs S2 = some (dd, S') := e
        -- behind the arguments
        have fin : ∀ {us ks : List Value} {xs ys : List V} {s2 : Shared} {H2 G2 : Hp} {da2 : List Addr}, Inv X pins σ H2 s2 → Grow G H da G2 H2 da2 → RelS X.K G2 H2 da2 S2 → Vals xs us → RTs X.K G2 da2 xs vs → Vals ys ks → RTs X.K G2 da2 ys ws → wpAny (model X.prog X.w) X.A (call (.ref f) us (pt.ks.zip ks)) (EP X pins σ Q) X.xe s2 := by
          intro us ks xs ys s2 H2 G2 da2 I2 g R2 rx tx ry ty
          obtain ⟨zv, hz, bt⟩ := hb s2 us ks I2.kIn (by rw [← rx.length, tx.length, hla _ _ _ _ ea, hn]) (by rw [← ry.length, ty.length, hlb _ _ _ _ eb, kl])
          obtain ⟨y1, e1, r1⟩ := pick_vals ((rx.append ry).append rdv) hz
          obtain ⟨y2, e2, r2⟩ := pick_rts ((tx.append ty).append (RDs.rts (rdd G2))) ez
          rw [e1] at e2
          cases e2
          exact run_fnG F hr hgd bt I2 r1 ⟨G2, da2, S2, zs, dd, S', R2, r2, e, fun v H' G' da' g' => q v H' G' da' (g.trans g')⟩
        cases args with
        | nil =>
          have hz := h0 rfl
          subst hz
          simp only [semA] at ea
          cases ea
          refine PySem.W.callWith_KW0 (h₀ := X.base) I.ok.mod.kin kp k1 ?_ (by rw [k3] <;> rfl)
          refine thn (hk.run pos pins s σ H _ I (ra1 R E eb fun ys H2 G2 da2 g2 R2 t2 => (⟨G2, da2, g2, R2, t2⟩ : ∃ G2 da2, Grow G H da G2 H2 da2 ∧ RelS X.K G2 H2 da2 S2 ∧ RTs X.K G2 da2 ys ws))) fun ks s2 ⟨ys, H2, I2, r2, G2, da2, g, R2, ty⟩ => ⟨I2.kIn, ?_⟩
          rw [k2]
          exact fin I2 g R2 .nil .nil r2 ty
        | cons e0 es =>
          rw [List.all_cons, Bool.and_eq_true] at hpl
          refine PySem.W.callWith_KW (h₀ := X.base) I.ok.mod.kin kp k1 (thn (ha.run pos pins s σ H _ I (ra1 R E ea fun xs H1 G1 da1 g1 R1 t1 => (?_ : rdA X.K C b σ H1 fun ys H2 => ∃ G2 da2, Grow G H da G2 H2 da2 ∧ RelS X.K G2 H2 da2 S2 ∧ RTs X.K G2 da2 xs vs ∧ RTs X.K G2 da2 ys ws))) fun us s1 ⟨xs, H1, I1, r1, q1⟩ => ?_) ?_ (star_one hpl.1)
          · exact ra1 R1 (E.mono g1) eb fun ys H2 G2 da2 g2 R2 t2 => ⟨G2, da2, g1.trans g2, R2, t1.mono g2, t2⟩
          · refine thn (hk.run pos pins s1 σ H1 _ I1 q1) fun ks s2 ⟨ys, H2, I2, r2, G2, da2, g, R2, tx, ty⟩ => ⟨I2.kIn, ?_⟩
            rw [k2]
            exact fin I2 g R2 r1 tx r2 ty
          · rw [k3, Bool.or_false]
            exact star_none (by rw [List.all_cons, Bool.and_eq_true]; exact hpl)
end
end AOne
end

section
set_option Elab.async false
set_option linter.all false
set_option maxRecDepth 100000
set_option maxHeartbeats 2000000
set_option autoImplicit false
/-! E1: an error of two fields is made: its own def runs. -/
namespace AOne
open PySem PySem.W PySem.Calls PyProof.Rows
section
variable {prog : Program} {w : World} {A : Around} {E : Value → Shared → Prop} {K : Frag}
/-- the bound __init__ of ValueError, called -/
theorem mw_call {C x u t : Addr} {rest : List Value} {s : Shared} {Q : Value → Shared → Prop} (T : L2.OexC K C) (X : K.In s.heap) (hu : s.heap.get? u = some (kxs_mw "ValueError.__init__" x)) (he : s.heap.get? x = some (excObj C t none .none)) (hz : rest.length ≤ sizeLine)
    (h : ∀ t1 h1, (∀ b o, b ≠ x → s.heap.get? b = some o → h1.get? b = some o) → h1.get? x = some (excObj C t1 none .none) → Q .none { s with heap := h1 }) :
    wpAny (model prog w) A (call (.ref u) rest) Q E s := by
  obtain ⟨nm, q, N, bs, bm, sn, sub, ab, col, dd, k0, k1, k2, k3, k5, hC, hbm⟩ := T.cls
  have FB := F.excBase_ValueError
  have hC' := X _ _ hC
  obtain ⟨hh, g, d, tk, os⟩ := s
  refine wpAny_call (codeAny_of_tree ?_)
  show wpAny _ A.in1 (callAny (.ref u) ⟨rest, []⟩) _ _ _
  simp only [callAny]
  refine wpAny_bind (wpAny_load hu ?_)
  simp only [kxs_mw]
  refine KFB.if_so (by decide) ?_
  refine wpAny_bind (check_bound_init FB.toExcCallFacts hC' he rfl ?_)
  refine wpAny_bind (wpAny_pure (wpAny_pure ?_))
  refine ⟨plainId_quiet FB.init.plain _, codeAny_builtin FB.initEntry ?_⟩
  exact exc_init_tree (cls := .ref C) (t0 := t) (dv := none) (c2 := .none) (c3 := .none) (b4 := .bool false) he hz fun h' k e' _ => h _ h' k e'
end
/-- where the name and the call stand in one row -/
theorem callx_line {env : Env} {o : Expr} {m x y : Str} {ap cp p1 p2 : Pos} (h : (ap.endLine == cp.line) = true) : eval (.Call (.Attribute o m ap) [.Name x p1, .Name y p2] [] cp) env = (do
      let ov ← attributeBase o m env (eval o env)
      standAt ap.atName
      let (f, first) ← holding [ov] (getMethod ov m (do return (← importBound o env).getD true))
      callWith cp f first (backTo cp (starEach [.Name x p1, .Name y p2] env)) []) := by
  have e : eval (.Call (.Attribute o m ap) [.Name x p1, .Name y p2] [] cp) env = (do
      let ov ← attributeBase o m env (eval o env)
      standAt ap.atName
      methodCall o m ap cp env ov 2 (backTo cp (starEach [.Name x p1, .Name y p2] env)) (backToKw cp (keywordEach [] env))) := rfl
  have hf : methodCallForm 2 (backTo cp (starEach [.Name x p1, .Name y p2] env)) (backToKw cp (keywordEach [] env)) = true := rfl
  have hp : methodCallPos true o env ap cp = pure cp := by unfold methodCallPos; simp [h]
  rw [e]
  congr 1
  funext ov
  congr 1
  funext _
  unfold methodCall calleeOf
  rw [hf, hp, if_pos rfl]
  congr 1
/-- the text of such a def -/
def xBody (f1 f2 : Str) (p0 p1 p2 p3 p4 p5 p6 p7 p8 p9 p10 p11 p12 p13 p14 : Pos) : List Stmt :=
  [.Expr (.Call (.Attribute (.Call (.Name "super" p0) [] [] p1) "__init__" p2) [.Name f1 p3, .Name f2 p4] [] p5) p6,
   .Assign [.Attribute (.Name "self" p7) f1 p8] (.Name f1 p9) p10,
   .Assign [.Attribute (.Name "self" p11) f2 p12] (.Name f2 p13) p14]
/-- what the written part says of the class, its def, its cell -/
structure XC (prog : Program) (K : Frag) (C fI : Addr) (f1 f2 : Str) : Prop where
  T : L2.OexC K C
  iC : findIn K (.ref C) "__init__" = some (some (.ref fI))
  tI : typeIn K (.ref fI) = some (.type "function")
  fn : ∃ qual params scope dV kV doc pm an cda ct cc oc od osl p0 p1 p2 p3 p4 p5 p6 p7 p8 p9 p10 p11 p12 p13 p14,
    K.lookup fI = some ⟨oc, od, .func (ksFn "__init__" qual params (xBody f1 f2 p0 p1 p2 p3 p4 p5 p6 p7 p8 p9 p10 p11 p12 p13 p14) scope dV kV doc pm an (.ref cda) ct cc), osl⟩ ∧ codeIn K (.ref cda) qual = true ∧
    (∃ ar, (params.posonlyargs ++ params.args).head? = some ar ∧ ar.arg = ("self" : Str)) ∧
    (∃ ccl cdd vs ccs file tf, K.lookup cda = some ⟨ccl, cdd, .fields vs, ccs⟩ ∧ vs[2]? = some (.str file tf) ∧ ((prog.main.file : Str) == file) = true) ∧
    (∃ cl cld csl, K.lookup cc = some ⟨cl, cld, .cell (some (.ref C)), csl⟩) ∧
    scope.names.lookup ("super" : Str) = some .globalImplicit ∧ scope.names.lookup ("__class__" : Str) = some .free ∧ scope.names.lookup ("self" : Str) = some .local ∧ scope.names.lookup f1 = some .local ∧ scope.names.lookup f2 = some .local ∧
    (p2.endLine == p5.line) = true ∧ scope.kind = .function ∧ scope.isCoroutine = false ∧ scope.isGenerator = false ∧ (scope.names.all fun x => !decide (x.2 = .cell)) = true ∧
    ∀ (s : Shared) (a u1 u2 : Value), BindsTo s (ksFn "__init__" qual params (xBody f1 f2 p0 p1 p2 p3 p4 p5 p6 p7 p8 p9 p10 p11 p12 p13 p14) scope dV kV doc pm an (.ref cda) ct cc) ⟨[a, u1, u2], []⟩ [("self", a), (f1, u1), (f2, u2)]
  sup : nsIn K mainGlobals "super" = some none
  top : (prog.main.scope.names.lookup ("super" : Str)).isSome = false
  third : nsIn K cStatics "thirdparty.any" = some none
  hm : ks_superIn K C C "__init__" = some (some (.builtin "ValueError.__init__"))
  hB : subIn K (.ref C) (.type "ValueError") = some true
  hself : mroIn K C (.ref C) = some true
  n1 : findIn K (.ref C) f1 = some none
  n2 : findIn K (.ref C) f2 = some none
  ne : f1 ≠ f2
  s1 : f1 ≠ ("self" : Str)
  s2 : f2 ≠ ("self" : Str)
  d1 : (f1 == ("__debug__" : Str)) = false
  d2 : (f2 == ("__debug__" : Str)) = false
section
variable {prog : Program} {w : World} {A : Around} {K : Frag} {C fI a t0 : Addr} {f1 f2 : Str} {u1 u2 : Value} {R : Result → Shared → Prop} {s : Shared} {mg mb : Str → Option Value}
theorem xinit_run (D : XC prog K C fI f1 f2) (X : K.In s.heap) (hroom : A.depth < recursionLimit) (hlim : s.heap.NoLimit) (hg : s.heap.Ns mainGlobals mg) (hb : s.heap.Ns builtinsNs mb) (hbb : mb "super" = some (.type "super"))
    (ha : s.heap.get? a = some (excObj C t0 none .none)) (hKa : K.lookup a = none)
    (hq : ∀ h' tk' t1 d mA, (∀ b o, b ≠ a → s.heap.get? b = some o → h'.get? b = some o) → h'.get? a = some (excObj C t1 (some d) .none) → h'.Ns1 d mA → mA f1 = some u1 → mA f2 = some u2 → (∀ y, y ≠ f1 → y ≠ f2 → mA y = none) →
      s.heap.objs.size ≤ d → d ≠ a → R (.ok (.ret .none)) { s with heap := h', toks := tk' }) :
    codeAny (model prog w) A (.call (.ref fI) ⟨[.ref a, u1, u2], []⟩) R s := by
  obtain ⟨qual, params, scope, dV, kV, doc, pm, an, cda, ct, cc, oc, od, osl, p0, p1, p2, p3, p4, p5, p6, p7, p8, p9, p10, p11, p12, p13, p14, lk, hcd, ⟨ar, har, ear⟩, ⟨ccl, cdd, vs, ccs, file, tf, hcode, hvs, hfile⟩, ⟨cl, cld, csl, hcell⟩, k1, k2, k3, k4, k5, hpos, hk, hco, hgen, hnc, hbind⟩ := D.fn
  have T := D.T
  obtain ⟨nm, qn, N, bs, bm, sn, sub, ab, col, dd, j0, j1, j2, j3, j5, hC, hbm⟩ := id T.cls
  have hcl : clsIn K C = some { name := nm, bases := bs, mro := .ref C :: bm, ns := N, qualname := qn, hasDict := true, slotNames := sn, subclasses := sub, abstract := ab, collection := col, hasDel := false } := by unfold clsIn; rw [hC] <;> rfl
  refine ks_codeAny_call_defAt (fd := ksFn "__init__" qual params (xBody f1 f2 p0 p1 p2 p3 p4 p5 p6 p7 p8 p9 p10 p11 p12 p13 p14) scope dV kV doc pm an (.ref cda) ct cc) (body := xBody f1 f2 p0 p1 p2 p3 p4 p5 p6 p7 p8 p9 p10 p11 p12 p13 p14)
    (binds := [("self", .ref a), (f1, u1), (f2, u2)]) hroom (X _ _ lk) rfl hlim (codeRec_of X hcd) rfl (hbind s _ _ _) (fun x hx => ?_) (fun x hx => ?_) (fun h0 hns hk0 => ?_) hco hgen hk
  · have := List.all_eq_true.mp hnc x hx
    simpa using this
  · simp only [List.mem_cons, List.not_mem_nil, or_false] at hx
    rcases hx with rfl | rfl | rfl
    · exact k3
    · exact k4
    · exact k5
  · have m0 : (fun x : Str => ([(("self" : Str), Value.ref a), (f1, u1), (f2, u2)] : List (Str × Value)).reverse.lookup x) "self" = some (.ref a) := by
      have e1 : (("self" : Str) == f2) = false := by simpa using Ne.symm D.s2
      have e2 : (("self" : Str) == f1) = false := by simpa using Ne.symm D.s1
      simp [List.lookup, e1, e2]
    have m1 : (fun x : Str => ([(("self" : Str), Value.ref a), (f1, u1), (f2, u2)] : List (Str × Value)).reverse.lookup x) f1 = some u1 := by
      have e1 : (f1 == f2) = false := by simpa using D.ne
      simp [List.lookup, e1]
    have m2 : (fun x : Str => ([(("self" : Str), Value.ref a), (f1, u1), (f2, u2)] : List (Str × Value)).reverse.lookup x) f2 = some u2 := by
      simp [List.lookup]
    generalize (fun x : Str => ([(("self" : Str), Value.ref a), (f1, u1), (f2, u2)] : List (Str × Value)).reverse.lookup x) = m at hns m0 m1 m2
    obtain ⟨hp, g, dr, tk, os⟩ := s
    have Xh : K.In h0 := X.keeps hk0
    obtain ⟨oL, esL, epL, hoL, rL⟩ := id hns
    have aL : a ≠ hp.objs.size := Nat.ne_of_lt (Heap.lt_size ha)
    have Hns : ∀ {h1 : Heap}, (∀ b o, h0.get? b = some o → h1.get? b = some o) → h1.Ns hp.objs.size m := fun {h1} k => ⟨oL, esL, epL, k _ _ hoL, rL⟩
    have hm := D.hm
    unfold ks_superIn at hm
    rw [hcl, Option.bind_some] at hm
    have ha0 : h0.get? a = some (excObj C t0 none .none) := hk0 _ _ ha
    have aC : a ≠ C := fun z => by
      have e := X _ _ hC
      rw [← z, ha] at e
      cases e
    refine ks_wpAt_execs_cons (ks_wpAt_Expr_any (ks_wpAt_MethodCall ?_ (callx_line hpos)) (by unfold interactive; simp [callEnv, newEnv, hk]) (by first | rfl | (unfold swapsWith; simp [callEnv, newEnv, hk])))
    refine ks_wpAt_super_base (f := fI) (cc := cda) k1 k2 (by decide) rfl (Xh _ _ lk) rfl har rfl (Xh _ _ hcode) rfl hvs hfile D.top ?_
    refine ks_loadName_global hk k1 (loadGlobal_builtin (mg := mg) (mb := mb) (hg.keeps hk0) (mg_none_of X hg D.sup) (hb.keeps hk0) hbb ⟨rfl, ?_⟩)
    refine wpAny_loadName_free hk k2 (c := cc) rfl ⟨_, Xh _ _ hcell, rfl⟩ ?_
    rw [ear]
    refine wpAny_loadName_local hk k3 hns m0 ?_
    refine ks_wpAny_isType_cls (Xh _ _ hC) rfl ⟨rfl, ?_⟩
    refine ks_wpAny_call_super (Xh _ _ hC) rfl ha0 rfl (fun c e => by cases e) (looks_mroIn Xh D.hself) fun h1 hso kk1 => ?_
    have X1 : K.In h1 := Xh.keeps kk1
    have I1 : InstAt h1 a (excObj C t0 none .none) C none := ⟨kk1 _ _ ha0, rfl, rfl, trivial⟩
    refine kxs_getMethod kxs_ValueError hso (looks_opaque X1 D.third) (fun A Q E s k q => wpAny_bind ((looks_clsIn X1 hcl) A _ E s k (wpAny_pure q))) rfl X1 hm (I1.type.andThen (looks_subIn X1 D.hB)) aC (by decide) ?_
    have kk2 : ∀ b o, h1.get? b = some o → (h1.push (kxs_mw "ValueError.__init__" a)).get? b = some o := fun b o e => Heap.get?_push_of_some _ e
    have hu : (h1.push (kxs_mw "ValueError.__init__" a)).get? h1.objs.size = some (kxs_mw "ValueError.__init__" a) := Heap.get?_push_at rfl rfl
    generalize h1.push (kxs_mw "ValueError.__init__" a) = h2 at kk2 hu
    have k02 : ∀ b o, h0.get? b = some o → h2.get? b = some o := fun b o e => kk2 b o (kk1 b o e)
    refine kxs_callWith (i := "ValueError.__init__") (x := a) rfl (evalArgs_plain ?_)
    refine spliced_cons (wpAny_Name (wpAny_loadName_local hk k4 (Hns k02) m1 ?_) D.d1)
    refine spliced_cons (wpAny_Name (wpAny_loadName_local hk k5 (Hns k02) m2 ?_) D.d2)
    refine spliced_nil ⟨hu, ?_⟩
    refine mw_call T (Xh.keeps k02) hu (k02 _ _ ha0) (by rw [sizeLine_eq]; simp) fun t1 h3 k3' ha3 => ?_
    have kA : ∀ b o, b ≠ a → h0.get? b = some o → h3.get? b = some o := fun b o hb e => k3' b o hb (k02 b o e)
    have nK : ∀ {b : Addr} {o : Obj}, K.lookup b = some o → b ≠ a := fun {b o} e z => by
      rw [z, hKa] at e
      cases e
    have X3 : K.In h3 := fun b o e => kA b o (nK e) (Xh b o e)
    have L3 : h3.Ns hp.objs.size m := ⟨oL, esL, epL, kA _ _ (Ne.symm aL) hoL, rL⟩
    refine ks_wpAt_execs_cons (wpAt_of_wpAny (plainObj_wpAny_Assign_Attribute ?_))
    refine wpAny_Name (wpAny_loadName_local hk k4 L3 m1 ?_) D.d1
    refine wpAny_Name (wpAny_loadName_local hk k3 L3 m0 ?_) (by decide)
    refine set_plain X3 (ox := excObj C t1 none .none) (od := none) ⟨ha3, rfl, rfl, trivial⟩ T.sa ?_
    refine HandSPX.exc_osa X3 ha3 hcl (show HandSPX.refsVE (.ref C :: bm) = true from hbm) rfl D.n1 fun h4 tk4 dx k4' hdx dne ha4 hn4 => ?_
    have kB : ∀ b o, b ≠ a → h0.get? b = some o → h4.get? b = some o := fun b o hb e => k4' b o hb (kA b o hb e)
    have X4 : K.In h4 := fun b o e => kB b o (nK e) (Xh b o e)
    have L4 : h4.Ns hp.objs.size m := ⟨oL, esL, epL, kB _ _ (Ne.symm aL) hoL, rL⟩
    have lL : hp.objs.size < h3.objs.size := Heap.lt_size (kA _ _ (Ne.symm aL) hoL)
    have hdx : h3.objs.size ≤ dx := hdx
    have hpd : hp.objs.size ≤ dx := by omega
    refine ks_wpAt_execs_cons (wpAt_of_wpAny (plainObj_wpAny_Assign_Attribute ?_))
    refine wpAny_Name (wpAny_loadName_local hk k5 L4 m2 ?_) D.d2
    refine wpAny_Name (wpAny_loadName_local hk k3 L4 m0 ?_) (by decide)
    have hw : Within (fun y => if y = f1 then some u1 else none) [f1] := fun y hy => by
      by_cases e : y = f1
      · rw [e]; simp
      · exact absurd (if_neg e) hy
    obtain ⟨oD, _, _, hoD, _, _⟩ := hn4.count hw
    refine set_plain X4 (ox := excObj C t1 (some dx) .none) (od := some oD) ⟨ha4, rfl, rfl, hoD⟩ T.sa ?_
    refine OEX.osa_old X4 ha4 hn4 hw (by simp) hcl (show HandSPX.refsVE (.ref C :: bm) = true from hbm) rfl D.n2 fun h5 tk5 k5' hn5 => ?_
    refine wpAt_of_wpAny (wpAny_execs_nil ?_)
    refine hq h5 tk5 t1 dx _ (fun b o hb e => ?_) (k5' a _ (Ne.symm dne) ha4) hn5 ?_ ?_ (fun y h1 h2 => ?_) hpd dne
    · have e0 := hk0 b o e
      refine k5' b o (fun z => ?_) (kB b o hb e0)
      have h1 : b < hp.objs.size := Heap.lt_size e
      rw [z] at h1
      exact absurd (Nat.lt_of_lt_of_le h1 hpd) (Nat.lt_irrefl _)
    · rw [if_neg D.ne, if_pos rfl]
    · rw [if_pos rfl]
    · rw [if_neg h2, if_neg h1]
end
end AOne
end

section
set_option Elab.async false
set_option linter.all false
set_option maxRecDepth 100000
set_option maxHeartbeats 2000000
set_option autoImplicit false
/-! E2: raise of such an error. -/
namespace AOne
open PySem PySem.Spec L2
section
variable {X : Cx} {e1 e2 : Expr} {ta : TA} {p pos : Pos}
/-- C(e1, e2) as what is raised -/
def tMkX (C : Addr) (f1 f2 : Str) (ta : TA) : L2.St → Hp → XK → Prop := fun σ H Q => ta σ H fun vs H1 => ∃ v1 v2, vs = [v1, v2] ∧ ∀ d, H1 d = none → Q (.ref C) (some d) (upd H1 d (.xd [(f2, v2), (f1, v1)]))
theorem pmk_x {x f1 f2 : Str} {C fI : Addr} {k : Nat} (D : XC X.prog X.K C fI f1 f2) (hr : Room (k + 1) X.A) (hg : Gl X x) (hm : X.mg x = some (.ref C)) (ha : PA X [e1, e2] ta) (hdb : (x == ("__debug__" : Str)) = false)
    (he : starEach [e1, e2] X.env = (false, eval e1 X.env) :: starEach [e2] X.env) (hpl : (backTo pos (starEach [e2] X.env)).any (·.1) = false) :
    PMk X (.Call (.Name x p) [e1, e2] [] pos) (tMkX C f1 f2 ta) := by
  intro pins s σ H Q I h
  have T := D.T
  obtain ⟨nm, q, N, bs, bm, sn, sub, ab, col, dd, k0, k1, k2, k3, k5, hC, hbm⟩ := id T.cls
  refine wpAny_Call_Name_kw (ld_glob I hg hm ?_ hdb)
  refine PySem.W.callWith_K (h₀ := X.base) I.ok.mod.kin T.kC (thn (ha.run pos pins s σ H _ I h) fun us s1 ⟨vs, H1, I1, r1, v1, v2, ev, q1⟩ => ⟨I1.kIn, ?_⟩) he hpl
  subst ev
  obtain ⟨u1, u2, rfl, ru1, ru2⟩ : ∃ u1 u2, us = [u1, u2] ∧ RelV v1 u1 ∧ RelV v2 u2 := by
    cases r1 with
    | cons a b => cases b with
      | cons c d => cases d with
        | nil => exact ⟨_, _, rfl, a, c⟩
  show wpAny _ _ (call (.ref C) [u1, u2]) _ _ _
  obtain ⟨hp, g, dr, tk, os⟩ := s1
  have hsz : hp.objs.size ≤ hp.objs.size + 1 := Nat.le_succ _
  have hn : H1 (hp.objs.size + 1) = none := I1.hok.fresh hsz
  have kk : ∀ b o, hp.get? b = some o → ((hp.push (PySem.W.kdv_tup [u1, u2])).push (PySem.HandSPX.excO C hp.objs.size)).get? b = some o := fun b o e => Heap.get?_push_of_some _ (Heap.get?_push_of_some _ e)
  have hget : ((hp.push (PySem.W.kdv_tup [u1, u2])).push (PySem.HandSPX.excO C hp.objs.size)).get? (hp.objs.size + 1) = some (PySem.HandSPX.excO C hp.objs.size) := by heap_get
  have KX : X.K.In hp := I1.kIn
  have hKa : X.K.lookup (hp.objs.size + 1) = none := by
    cases z : X.K.lookup (hp.objs.size + 1) with
    | none => rfl
    | some o =>
      have h1 : hp.objs.size + 1 < hp.objs.size := Heap.lt_size (KX _ _ z)
      omega
  obtain ⟨mb, hb, hbb⟩ := I1.ok.mod.blt
  have bk : ∀ b o, X.base.get? b = some o → ((hp.push (PySem.W.kdv_tup [u1, u2])).push (PySem.HandSPX.excO C hp.objs.size)).get? b = some o := fun b o e => kk b o (I1.bk b o e)
  refine wpAny_call (PySem.HandSPX.call_own F.excBase_ValueError (fun Y => PySem.HandSPX.refsVE_contains Y bm hbm) (KX _ _ hC) (PySem.W.looks_findIn KX D.iC) (fun self => PySem.W.bind_fn KX self D.tI) (by rw [sizeLine_eq]; simp)
    (xinit_run (t0 := hp.objs.size) (mg := X.mg) (mb := mb) D (KX.keeps kk) (hr.make C [u1, u2] []).depth (I1.ok.mod.nolimit.keeps bk) (I1.ok.mod.glob.keeps bk) (hb.keeps bk) ((hbb "super" (by decide)).trans PyProof.Rows.Boot.«super») hget hKa
      fun h' tk' t1 d mA k ha' hn' m1 m2 m3 hd dne => ⟨rfl, ?_⟩))
  have hdn : hp.objs.size ≤ d := by
    have : ((hp.push (PySem.W.kdv_tup [u1, u2])).push (PySem.HandSPX.excO C hp.objs.size)).objs.size = hp.objs.size + 2 := by simp [Heap.push]
    have hd' : ((hp.push (PySem.W.kdv_tup [u1, u2])).push (PySem.HandSPX.excO C hp.objs.size)).objs.size ≤ d := hd
    omega
  have nd : H1 d = none := I1.hok.fresh hdn
  obtain ⟨G, g1, g2⟩ := L2.restrict h' fun b => decide (b ≠ hp.objs.size + 1)
  have gk : ∀ b, b ≠ hp.objs.size + 1 → G.get? b = h'.get? b := fun b hb => g1 b (decide_eq_true hb)
  have ge : G.get? (hp.objs.size + 1) = none := g2 _ (by simp)
  have kG : ∀ b o, hp.get? b = some o → G.get? b = some o := fun b o e => by
    have nb : b ≠ hp.objs.size + 1 := fun z => by
      have h1 : b < hp.objs.size := Heap.lt_size e
      rw [z] at h1
      exact absurd h1 (Nat.not_lt.mpr (Nat.le_succ _))
    rw [gk b nb]
    exact k b o nb (kk b o e)
  have okx : ObjOk X.prog X.w (upd H1 d (.xd [(f2, v2), (f1, v1)])) G d (.xd [(f2, v2), (f1, v1)]) := by
    refine ⟨mA, hn'.at fun o y => (gk d dne).trans y, fun f => ?_⟩
    by_cases h2 : f = f2
    · subst h2
      have : ([(f, v2), (f1, v1)] : List (Str × V)).lookup f = some v2 := by simp [List.lookup]
      rw [this, m2]
      exact ru2
    · by_cases h1 : f = f1
      · subst h1
        have e : (f == f2) = false := by simpa using h2
        have : ([(f2, v2), (f, v1)] : List (Str × V)).lookup f = some v1 := by simp [List.lookup, e]
        rw [this, m1]
        exact ru1
      · have e : (f == f2) = false := by simpa using h2
        have e' : (f == f1) = false := by simpa using h1
        have : ([(f2, v2), (f1, v1)] : List (Str × V)).lookup f = none := by simp [List.lookup, e, e']
        rw [this, m3 f h1 h2]
        trivial
  have J : Inv X pins σ (upd H1 d (.xd [(f2, v2), (f1, v1)])) ⟨G, g, dr, tk', os⟩ := I1.laid (t' := tk') (a := d) (o := .xd [(f2, v2), (f1, v1)]) (h' := G) kG hdn okx
  refine ⟨hp.objs.size + 1, _, _, ⟨G, g, dr, tk', os⟩, _, .ref C, some d, rfl, J, fun b o z => ?_, ge, ha', ⟨rfl, rfl⟩, rfl, rfl, ?_, rfl, I1.bare, raises_own T.exC T.tyC, q1 d nd⟩
  · by_cases hb : b = hp.objs.size + 1
    · rw [hb, ge] at z
      cases z
    · exact (gk b hb).symm.trans z
  · rw [upd_ne (Ne.symm dne)]
    exact hn
/-- raise C(e1, e2) -/
theorem ps_raiseX {x f1 f2 : Str} {C fI : Addr} {k : Nat} {W : WX} {rp : Pos} (hc : X.calm = true) (tk : Takes X W) (D : XC X.prog X.K C fI f1 f2) (hr : Room (k + 1) X.A) (hg : Gl X x) (hm : X.mg x = some (.ref C)) (ha : PA X [e1, e2] ta) (hdb : (x == ("__debug__" : Str)) = false)
    (he : starEach [e1, e2] X.env = (false, eval e1 X.env) :: starEach [e2] X.env) (hpl : (backTo pos (starEach [e2] X.env)).any (·.1) = false) :
    PS X (.Raise (some (.Call (.Name x p) [e1, e2] [] pos)) none rp) (fun _ σ H => tMkX C f1 f2 ta σ H fun cls d H' => W cls d σ H') := ps_raise hc tk (pmk_x D hr hg hm ha hdb he hpl)
end
end AOne
end

section
set_option Elab.async false
set_option linter.all false
set_option maxRecDepth 100000
set_option maxHeartbeats 2000000
set_option autoImplicit false
/-! E3: what a handler's suite asks of its error; errors as data. -/
namespace AOne
open PySem PySem.Spec L2
open PyProof.Rows (envOfC)
/-- isinstance of the caught error, its fields laid in the heap -/
def rIsX (K : PySem.W.Frag) (D a dd : Addr) : List V → Hp → VK → Prop := fun xs H Q => ∃ (c : V) (cv : Value) (b : Bool) (fs : List (Str × V)), xs = [.ref a, c] ∧ (∀ u, RelV c u → u = cv) ∧ PySem.W.kitOne K (.ref D) cv = some b ∧ H dd = some (.xd fs) ∧ Q (.bl b) H
theorem call_isX {X : Cx} {a D dd : Addr} {oe : Obj} {pn : List (Addr × Obj)} (T : ExcC X.K D) (hz : Zc (.ref D) (some dd) oe) (hf : ∃ vs, oe.data = .fields vs) : CallR (X.suite a ((a, oe) :: pn)) (.builtin "isinstance") (rIsX X.K D a dd) := by
  intro pins s σ H xs us Q I rr h
  obtain ⟨c, cv, b, fs, rfl, hcv, ek, ed, q⟩ := h
  cases rr with
  | cons r1 r2 =>
    cases r2 with
    | cons r3 r4 =>
      cases r4
      cases r1
      have ec := hcv _ r3
      subst ec
      have hget := (I.pin (a, oe) (List.mem_append_left _ List.mem_cons_self)).1
      obtain ⟨vs, hv⟩ := hf
      have hx : ObjOk X.prog X.w H s.heap dd (.xd fs) := I.hok dd _ ed
      obtain ⟨mA, hns, _⟩ := hx
      obtain ⟨od, ho, _⟩ := lookIn_ns hns
      have J : PySem.W.InstAt s.heap a oe D (some od) := ⟨hget, hz.1, by unfold PySem.W.notCls; rw [hv] <;> rfl, by rw [hz.2]; exact ho⟩
      obtain ⟨cd, hcd, _⟩ := PySem.W.any_some T.hd
      refine PySem.W.kia_one (PySem.W.kitx_exc (by rw [hcd]; rfl) T.hg T.hk T.hs T.ha T.hn T.ht T.hm) I.kIn J ek (fun z => nomatch z) fun tk => ?_
      exact ⟨.bl b, H, I.kept (t' := tk) fun _ _ z => z, rfl, q⟩

/-! errors as data -/
/-- an own class of errors, as the classes of CT stand to it -/
structure KinOk (K : PySem.W.Frag) (CT : List Value) (C : Addr) (kin : List Nat) : Prop where
  is : ∀ (j : Nat) cv, CT[j]? = some cv → PySem.W.kitOne K (.ref C) cv = some (kin.contains j)
  ex : ∀ (j : Nat) c, CT[j]? = some (.ref c) → PySem.W.exmOne K (.ref C) (.ref c) = some (kin.contains j)
  exc : ExcC K C
  xf : XfC K C
structure XO (K : PySem.W.Frag) (CT : List Value) (G : Hp) (da : List Addr) (H0 : Hp) (cls : Value) (d : Option Addr) (H : Hp) (x : D) : Prop where
  ex : ∃ (C dd : Addr) (fl : List (Str × V)), cls = .ref C ∧ d = some dd ∧ H dd = some (.xd fl) ∧ G dd = none ∧ dd ∉ da ∧ H0 dd = none ∧ KinOk K CT C (kinOf x) ∧
    ∀ f e, (fldOf x).lookup f = some e → PySem.W.findIn K (.ref C) f = some none ∧ ∃ v, fl.lookup f = some v ∧ RD K G v e
/-- .. and so it is, seen from further back -/
theorem XO.back {K : PySem.W.Frag} {CT : List Value} {G G0 G1 H0 H1 H : Hp} {da da0 da1 : List Addr} {cls : Value} {d : Option Addr} {x : D} (h : XO K CT G da H1 cls d H x) (g : Grow G0 H0 da0 G1 H1 da1) : XO K CT G da H0 cls d H x := by
  obtain ⟨C, dd, fl, h1, h2, h3, h4, h5, h6, h7⟩ := h.ex
  exact ⟨C, dd, fl, h1, h2, h3, h4, h5, g.none h6, h7⟩
section
variable (K : PySem.W.Frag) (CT : List Value) (C : Call)
/-- an expression, a statement that raises -/
def rxE (t : Tm) (E : XK) : L2.St → Hp → Prop := fun σ H => ∃ G da S r x S', RelS K G H da S ∧ RelE K G da σ r ∧ semX C t r S = some (x, S') ∧
  ∀ cls d H' G' da', Grow G H da G' H' da' → RelS K G' H' da' S' → XO K CT G' da' H cls d H' x → E cls d H'
def rxS (t : Sm) (E : XK) : L2.St → Hp → Prop := fun σ H => ∃ G da S r x S', RelS K G H da S ∧ RelE K G da σ r ∧ exeX C t r S = some (x, S') ∧
  ∀ cls d H' G' da', Grow G H da G' H' da' → RelS K G' H' da' S' → XO K CT G' da' H cls d H' x → E cls d H'
/-- what a def promises that raises -/
def spX (k : Nat) : List V → Hp → XK → Prop := fun vs H E => ∃ G da S ds x S', RelS K G H da S ∧ RTs K G da vs ds ∧ C (XN + k) ds S = some (x, S') ∧
  ∀ cls d H' G' da', Grow G H da G' H' da' → RelS K G' H' da' S' → XO K CT G' da' H cls d H' x → E cls d H'
end
/-- a def's promise of raising -/
structure FnX (P : Program) (w : World) (K : PySem.W.Frag) (mg : Str → Option Value) (base : Heap) (k : Nat) (f : Addr) (fd : FuncData) (ps : List Str) (sp : List V → Hp → XK → Prop) : Prop where
  run : ∀ (A : Around) (outer : List Env) (s : Shared) (H : Hp) (args : Args) (us : List Value) (vs : List V) (E : XK), Room k A → A.guards = some [] → Env0 P w K mg base A outer s H → BindsTo s fd args (ps.zip us) → Vals vs us → sp vs H E →
    codeAny (model P w) A (.call (.ref f) args) (CR (L2.CX P w) outer P w H s (fun _ _ => False) E) s
/-- by its body -/
theorem fnX_of {P : Program} {w : World} {K : PySem.W.Frag} {mg : Str → Option Value} {base : Heap} {k : Nat} {f : Addr} {x qual : Str} {params : Arguments} {body : List Stmt} {scope : Scope} {dvs : List V} {kws : List (Str × V)} {fd : FuncData}
    {N ps : List Str} {sp : List V → Hp → XK → Prop} (F : FunD K x qual params body scope dvs kws f fd) (S : FnScope N ps scope) (len : ∀ vs H E, sp vs H E → vs.length = ps.length)
    (hbody : ∀ (cdv : Value) (A : Around) (outer : List Env) (s : Shared) (H : Hp) (vs : List V) (E : XK), fd.code = cdv → (∃ oc od osl, K.lookup f = some ⟨oc, od, .func fd, osl⟩) → PySem.W.codeIn K cdv qual = true → Room k (A.deeper (envOfC qual scope s.heap.objs.size f cdv)) → A.guards = some [] → sp vs H E →
      ∃ t, PSs (cxOf (L2.CX P w) P w K mg base N qual scope f cdv A outer s H E) body t ∧ t { nx := fun _ _ => False, rt := fun _ _ => False } (L2.start N vs) H) : FnX P w K mg base (k + 1) f fd ps sp := by
  obtain ⟨oc, od, dV, kV, doc, pm, an, cdv, ct, osl, rfl, lk, hcd, _, _⟩ := F.ex
  refine ⟨fun A outer s H args us vs E hr hg e0 hb r hsp => ?_⟩
  exact LamX.run_ofS (Q := fun _ _ => False) (vs := vs) lk hcd S hr e0 hb r (len _ _ _ hsp) fun hr' => hbody cdv A outer s H vs E rfl ⟨oc, od, osl, lk⟩ hcd hr' hg hsp
end AOne
end

section
set_option Elab.async false
set_option linter.all false
set_option maxRecDepth 100000
set_option maxHeartbeats 2000000
set_option autoImplicit false
/-! R1: t[::-1] of a tuple. -/
namespace AOne
open PySem PySem.Spec L2 PyProof.Rows
section
variable {prog : Program} {w : World} {A : Around} {E : Value → Shared → Prop} {s : Shared}
theorem rev_adjust (n : Nat) : Builtin.Slice.sliceAdjust none none (-1) (n : Int) = ((n : Int) - 1, -1) := by
  unfold Builtin.Slice.sliceAdjust
  have h : ((-1 : Int) < 0) := by omega
  simp only [h, if_true]
theorem rev_places (n : Nat) : Builtin.Slice.slicePlaces ((n : Int) - 1) (-1) (-1) = n := by
  unfold Builtin.Slice.slicePlaces
  have h : ¬ ((-1 : Int) > 0) := by omega
  rw [if_neg h]
  by_cases hn : (n : Int) - 1 > -1
  · rw [if_pos hn]
    have e : -(-1 : Int) = 1 := by omega
    rw [e, Int.ediv_one]
    omega
  · rw [if_neg hn]
    omega
theorem rev_applied {sl : Addr} {vs : Value} {n : Nat} {Q : Int × Int × Nat → Shared → Prop} (hs : s.heap.IsSliceOf sl .none .none vs) (ps : IsPart vs (some (-1))) (h : Q ((n : Int) - 1, -1, n) s) : wpAny (model prog w) A (Builtin.Slice.sliceApplied (.ref sl) (pure (n : Int))) Q E s := by
  obtain ⟨os, o1, o2, o3⟩ := id hs
  unfold Builtin.Slice.sliceApplied Builtin.Slice.sliceFields
  refine wpAny_bind (wpAny_bind (wpAny_field o1 o3 (x := .none) rfl (wpAny_bind (wpAny_field o1 o3 (x := .none) rfl (wpAny_bind (wpAny_field o1 o3 (x := vs) rfl (wpAny_pure ?_)))))))
  refine wpAny_bind (HT.slicePart_ ps ?_)
  show wpAny _ _ (if ((-1 : Int) == 0) = true then _ else _) _ _ s
  rw [if_neg (by decide)]
  refine wpAny_bind (HT.slicePart_ .none (wpAny_bind (HT.slicePart_ .none (wpAny_bind (wpAny_pure ?_)))))
  show wpAny _ _ (match Builtin.Slice.sliceAdjust none none (-1) (n : Int) with | (lo, hi) => pure (lo, (-1 : Int), Builtin.Slice.slicePlaces lo hi (-1))) _ _ s
  rw [rev_adjust]
  show wpAny _ _ (pure ((n : Int) - 1, (-1 : Int), Builtin.Slice.slicePlaces ((n : Int) - 1) (-1) (-1))) _ _ s
  rw [rev_places]
  exact wpAny_pure h
theorem rev_pick (xs : Array Value) : ((List.range xs.size).filterMap fun (m : Nat) => xs[((xs.size : Int) - 1 + (m : Int) * (-1)).toNat]?).toArray = xs.toList.reverse.toArray := by
  have e : (fun (m : Nat) => xs[((xs.size : Int) - 1 + (m : Int) * (-1)).toNat]?) = (fun k => xs[k]?) ∘ fun m => xs.size - 1 - m := by
    funext m
    have : ((xs.size : Int) - 1 + (m : Int) * (-1)).toNat = xs.size - 1 - m := by omega
    show xs[_]? = xs[_]?
    rw [this]
  rw [e, ← List.filterMap_map, PySem.W.krv_range, List.filterMap_reverse, PySem.W.krv_all]
theorem getItem_tuple_rev {t sl : Addr} {items : Array Value} {vs : Value} {Q : Value → Shared → Prop} (ht : IsTup s.heap t items) (hs : s.heap.IsSliceOf sl .none .none vs) (ps : IsPart vs (some (-1)))
    (h : Q (.ref s.heap.objs.size) { s with heap := s.heap.push { cls := .type "tuple", data := .seq items.toList.reverse.toArray } }) (hz : items.size ≤ sizeLine) : wpAny (model prog w) A (getItem (.ref t) (.ref sl)) Q E s := by
  have hok : PySem.sizeOk (.seq items.toList.reverse.toArray) := by
    show items.toList.reverse.toArray.size ≤ sizeLine
    rw [List.size_toArray, List.length_reverse, Array.length_toList]
    exact hz
  obtain ⟨os, o1, o2, o3⟩ := id hs
  unfold getItem
  try with_reducible refine wpAny_holding ?_
  first | refine wpAny_bind (wpAny_pure ?_) | skip
  refine wpAny_bind (wpAny_sequenceKey ht.typeIs (by decide) ?_)
  refine wpAny_bind (wpAny_callSpecial?_slot (name := Str.ofString "__getitem__") ht.typeIs PyProof.Rows.slot_tuple_getitem (wpAny_call_entry PyProof.Rows.slot_tuple_getitem ht.typeIs entry_tuple_getitem ?_ (args_tuple_getitem _ _)))
  show wpAny _ _ (Builtin.Tuple.tupleItemsOf (.ref t) >>= _) _ _ s
  refine wpAny_bind (tupleItemsOf_ ht (wpAny_bind (wpAny_typeOf (T := "slice") ⟨os, o1, o2⟩ ?_)))
  rw [if_pos (by decide)]
  refine wpAny_bind (rev_applied hs ps ?_)
  show wpAny _ _ (if (((items.size : Int) - 1 == 0 && (-1 : Int) == 1) && items.size == items.size) = true then _ else _) _ _ s
  rw [if_neg (by rw [show ((-1 : Int) == 1) = false from by decide, Bool.and_false]; simp), rev_pick]
  first
    | exact wpAny_bind (m := Builtin.Tuple.tupleExact _) (wpAny_newObj_type (wpAny_pure ⟨_, rfl, wpAny_pure h⟩) hok)
    | exact wpAny_bind (m := Builtin.Tuple.tupleExact _) (wpAny_newObj_type (wpAny_bind (wpAny_pure (wpAny_pure ⟨_, rfl, wpAny_pure h⟩))) hok)
    | exact wpAny_bind (wpAny_bind (m := Builtin.Tuple.tupleExact _) (wpAny_newObj_type (wpAny_pure (wpAny_pure ⟨_, rfl, wpAny_pure h⟩)) hok))
    | exact wpAny_bind (wpAny_bind (m := Builtin.Tuple.tupleExact _) (wpAny_newObj_type (wpAny_pure ⟨_, rfl, wpAny_pure h⟩) hok))
end
section
variable {X : Cx}
def tRevT (K : PySem.W.Frag) (te : TE) : TE := fun σ H Q => te σ H fun x H1 => ∃ a xs, x = .ref a ∧ SqT K H1 a xs ∧ ∀ p, H1 p = none → Q (.ref p) (upd H1 p (.tup xs.reverse))
theorem pe_revT {e : Expr} {te : TE} {k : Nat} {p1 p2 p3 pos : Pos} (he : PE X e te) : PE X (.Subscript e (.Slice none none (some (.UnaryOp .USub (.Constant (.int 1) k p1) p2)) p3) pos) (tRevT X.K te) := by
  refine ⟨fun pins s σ H Q I h => ?_⟩
  refine Subscript_ (thn (he.run pins s σ H _ I h) fun v s1 ⟨x, H1, I1, r1, a, xs, ex, hx, q⟩ => ?_)
  subst ex
  cases r1
  have st : PO X (some (.UnaryOp .USub (.Constant (.int 1) k p1) p2)) (tPart (tUn (rU fun i => .int (-i)) (tC (.int 1)))) := po_some (pe_un un_neg pe_int)
  refine wpAny_Slice (thn (po_none.run pins s1 σ H1 (fun o H2 => o = none ∧ H2 = H1) I1 ⟨rfl, rfl⟩) fun vl s2 ⟨l, H2, I2, pl, el, e2⟩ => ?_)
  subst el e2
  refine thn (po_none.run pins s2 σ H2 (fun o H3 => o = none ∧ H3 = H2) I2 ⟨rfl, rfl⟩) fun vu s3 ⟨u, H3, I3, pu, eu, e3⟩ => ?_
  subst eu e3
  refine thn (st.run pins s3 σ H3 (fun o H4 => o = some (-1) ∧ H4 = H3) I3 ⟨1, rfl, -1, rfl, rfl, rfl⟩) fun vs s4 ⟨o, H4, I4, ps, eo, e4⟩ => ?_
  subst eo e4
  cases pl
  cases pu
  have J : Inv X pins σ H4 { s4 with heap := s4.heap.push { cls := .type "slice", data := .fields #[.none, .none, vs] } } := I4.kept (t' := s4.toks) fun b ob q => Heap.get?_push_of_some _ q
  obtain ⟨its, r, ht, hz⟩ := J.tuple hx
  have hlen := r.length
  show wpAny (model X.prog X.w) X.A (subscriptTail e (.Slice none none (some (.UnaryOp .USub (.Constant (.int 1) k p1) p2)) p3) (.ref a) (.ref s4.heap.objs.size)) (EP X pins σ Q) X.xe { s4 with heap := s4.heap.push { cls := .type "slice", data := .fields #[.none, .none, vs] } }
  refine tail_any (ops := [.ref a, .ref s4.heap.objs.size]) ht.typeIs (PyProof.Rows.slot_tuple_getitem.lookup) ?_ (by with_unfolding_all rfl)
  refine getItem_tuple_rev ht (Heap.IsSliceOf.new _ .none .none vs) ps ?_ (by rw [List.size_toArray]; omega)
  refine ⟨.ref _, _, J.laid (t' := s4.toks) (o := .tup xs.reverse) (fun b ob q => Heap.get?_push_of_some _ q) (Nat.le_refl _) ?_, rfl, q _ (J.hok.fresh (Nat.le_refl _))⟩
  exact ⟨by rw [List.length_reverse]; exact hz, _, r.reverse, _, Heap.get?_push_size _ rfl, rfl, 0, rfl⟩
end
end AOne
end

section
set_option Elab.async false
set_option linter.all false
set_option maxRecDepth 100000
set_option maxHeartbeats 2000000
set_option autoImplicit false
/-! A12: the compiler is sound (expressions). -/
namespace AOne
open PySem PySem.Spec L2

def bltNames : List Str := ["isinstance", "len", "all", "any", "tuple", "list", "sorted", "int", "min", "repr", "str", "bool", "range", "zip", "enumerate", "set", "max"]

/-- a def of the table that raises, at a name -/
def DefX (X : Cx) (CT : List Value) (C : Call) (x : Str) (k : Nat) (d : DefI) : Prop := ∃ (n : Nat) (f : Addr) (fd : FuncData) (ps : List Str), X.mg x = some (.ref f) ∧ PySem.W.keepIn X.K (.ref f) = true ∧ Room n X.A ∧
  FnX X.prog X.w X.K X.mg X.base n f fd ps (spX X.K CT C k) ∧ ∀ p ∈ d.pats, PB X.K fd ps d.dfl p
/-- what is known where a text of the table runs; rs: the written scope of a comprehension's block -/
structure Fb (c : CC) (C : Call) (X : Cx) (rs : Option Scope) : Prop where
  N : X.N = c.N
  nd : c.N.Nodup
  calm : c.su = false → X.calm = true
  guards : X.A.guards = some []
  un : X.A.units + 200 < cLine
  xe : X.xe = fun _ _ => False
  fn0 : rs = none → ∀ x, X.fn x = true
  fn1 : ∀ s, rs = some s → ∀ x, X.fn x = (s.names.lookup x == some .cell)
  blt : ∀ x, x ∈ bltNames → X.mg x = none
  gl : ∀ x d, c.gl.lookup x = some d → ∃ u v, X.mg x = some u ∧ RelV v u ∧ ∀ G, RD X.K G v d
  defs : c.su = false → ∀ x k d, findDef c.tab x = some (k, d) → DefOk X C x k d
  isx : c.su = true → ∀ (x t : Str) (i j : Nat) (p q p' pos : Pos), x = c.ev → slotOf c x = some i → Vis X.env.scope x → Gl X t → Gl X "isinstance" → c.cl.lookup t = some j → PE X (.Call (.Name "isinstance" p) [.Name x q, .Name t p'] [] pos) (rdE X.K C (.isx i j))
  fld : c.su = true → ∀ (f : Str) (i : Nat) (q pos : Pos), slotOf c c.ev = some i → Vis X.env.scope c.ev → PE X (.Attribute (.Name c.ev q) f pos) (rdE X.K C (.fld i f))
/-- .. and where it may raise, the error being as E wishes -/
structure Rx (c : CC) (C : Call) (X : Cx) (E : XK) : Prop where
  tk : Takes X (fun cls d _ H => E cls d H)
  room : Room 1 X.A
  defsX : ∀ x k d, findDef c.tab x = some (k, d) → DefX X c.ct C x k d
  cls : ∀ x kin fs, c.ki.lookup x = some (kin, fs) → ∃ (D fI : Addr) (f1 f2 : Str), fs = [f1, f2] ∧ XC X.prog X.K D fI f1 f2 ∧ KinOk X.K c.ct D kin ∧ X.mg x = some (.ref D)
/-- .. and where a def is called with a lambda -/
structure Fx (c : CC) (C : Call) (X : Cx) (rs : Option Scope) : Prop extends Fb c C X rs where
  lam : c.su = false → ∀ (f : Str) (h : Nat) (told : Str) (n : Nat) (q : List Str), c.hr.lookup f = some (h, told) → c.lm = some (n, q) → Gl X f → okName f = true → ∀ (params : Arguments) (body : Expr) (scope : Scope) (lp p pos : Pos) (b : Tm), emptyP params = true → LamX.lamSB X.env.scope scope = true → PyData.strOk told = true →
    (∀ (X' : Cx) (E : XK), X'.K = X.K → X'.env.scope = scope → Fb c C X'.nox (some scope) → Rx c C X' E → PE X' body (rdE X.K C b) ∧ PE X' body (fun σ H _ => rxE X.K c.ct C b E σ H)) →
    PE X (.Call (.Name f p) [.Lambda params body scope lp] [] pos) (rdE X.K C (.heard n q told h b))
theorem Fb.nolam {c : CC} {C : Call} {X : Cx} {rs : Option Scope} (F : Fb c C X rs) : Fx c.nolam C X rs :=
  ⟨⟨F.N, F.nd, F.calm, F.guards, F.un, F.xe, F.fn0, F.fn1, F.blt, F.gl, F.defs, F.isx, F.fld⟩, fun _ f h told n q e => by cases e⟩
theorem Fb.blk {c : CC} {C : Call} {X : Cx} {rs : Option Scope} (F : Fb c C X rs) (hsu : c.su = false) (s : Shared) (H : Hp) (scope : Scope) (ce : Env) (fp : List Addr) : Fb c C (X.blk s H scope ce fp) (some scope) :=
  ⟨F.N, F.nd, F.calm, F.guards, F.un, rfl, fun h => (by cases h), fun s h x => (by cases h; rfl), F.blt, F.gl, F.defs, fun h => (by rw [hsu] at h; cases h), fun h => (by rw [hsu] at h; cases h)⟩

/-- sorted(list), sorted(set(..)) keep their words -/
structure Srt : Prop where
  lst : ∀ X : Cx, X.calm = true → X.A.guards = some [] → X.A.units + 200 < cLine → CallR X (.builtin "sorted") (rPrN X.K .sorted)
  set : ∀ (X : Cx) (C : Call) (e : Expr) (t : Tm) (p p' q q' : Pos), X.calm = true → X.A.guards = some [] → X.A.units + 200 < cLine → Gl X "sorted" → Gl X "set" → X.mg "sorted" = none → X.mg "set" = none → plainE e = true → PE X e (rdE X.K C t) →
    PE X (.Call (.Name "sorted" p) [.Call (.Name "set" p') [e] [] q'] [] q) (rdF X.K C (.pr .ssorted (.cons t .nil)))

section
variable {K : PySem.W.Frag} {C : Call} {σ : L2.St} {H : Hp} {Q : VK}
theorem rd_pr {p : Pr} {a : Tm} (h : rdE K C (.pr p a) σ H Q) : tCB (rPr K p) (rdA K C a) σ H Q := by
  obtain ⟨G, da, S, r, d, S', R, E, e, q⟩ := h
  simp only [sem] at e
  split at e
  · cases e
  · rename_i vs S1 ea
    obtain ⟨z, ez, e2⟩ := Option.map_eq_some_iff.mp e
    cases e2
    exact ra1 R E ea fun xs H1 G1 da1 g R1 h1 => ⟨G1, da1, _, vs, _, R1, h1, ez, ends_of g q⟩
theorem rdF_pr {p : Pr} {a : Tm} (h : rdF K C (.pr p a) σ H Q) : tCB (rPrN K p) (rdA K C a) σ H Q := by
  obtain ⟨G, da, S, r, d, S', R, E, e, q⟩ := h
  simp only [sem] at e
  split at e
  · cases e
  · rename_i vs S1 ea
    obtain ⟨z, ez, e2⟩ := Option.map_eq_some_iff.mp e
    cases e2
    exact ra1 R E ea fun xs H1 G1 da1 g R1 h1 => ⟨G1, da1, _, vs, d, R1, h1, ez, fun p us hp hr => q p us _ G1 da1 (g.trans (Grow.lay hp)) (R1.lay hp) (g.none hp) upd_same (R1.gnone hp) (R1.notIn hp) hr⟩
/-- texts whose value is a new list -/
def newN (t : Tm) : Bool := match t with
  | .op .add _ _ => true
  | .lst _ => true
  | .lc _ _ _ _ _ => true
  | .lcc _ _ _ _ _ _ _ _ _ => true
  | .pr .list _ => true
  | .pr .sorted _ => true
  | .pr .ssorted _ => true
  | _ => false
def newE : Tm → Bool
  | .lst _ => true
  | .lc _ _ _ _ _ => true
  | .lcc _ _ _ _ _ _ _ _ _ => true
  | .pr .list _ => true
  | .pr .sorted _ => true
  | .pr .ssorted _ => true
  | _ => false
theorem new_lst {t : Tm} (h : newE t = true) : ∀ r S d S', sem C t r S = some (d, S') → ∃ xs, d = .lst xs := by
  intro r S d S' e
  cases t <;> simp only [newE, Bool.false_eq_true] at h
  · exact lst_new _ _ _ _ e
  · rename_i p a
    simp only [sem] at e
    split at e
    · cases e
    · rename_i vs S1 ea
      obtain ⟨z, ez, e2⟩ := Option.map_eq_some_iff.mp e
      cases e2
      rcases vs with _ | ⟨b, _ | ⟨b', r'⟩⟩ <;> cases p <;> simp only [newE, Bool.false_eq_true] at h <;> simp only [prD, reduceCtorEq] at ez
      all_goals
        repeat' split at ez
        all_goals first | (cases ez; exact ⟨_, rfl⟩) | cases ez
  · simp only [sem] at e
    split at e
    · cases e
    · obtain ⟨z, ez, e2⟩ := Option.map_eq_some_iff.mp e
      cases e2
      exact ⟨_, rfl⟩
  · simp only [sem] at e
    split at e
    · cases e
    · split at e
      · split at e
        · cases e; exact ⟨_, rfl⟩
        · cases e
      · cases e
theorem PE.new {X : Cx} {e : Expr} {t : Tm} (hn : newE t = true) (h : PE X e (rdF X.K C t)) : PE X e (rdE X.K C t) := PE.imp h fun σ H Q z => rdF_E (new_lst hn) σ H Q z
theorem rt_ite {c a b : Tm} {QB : Bool → Hp → Prop} (h : rdT K C (.ite c a b) σ H QB) : rdT K C c σ H fun d H1 => if d = true then rdT K C a σ H1 QB else rdT K C b σ H1 QB := by
  obtain ⟨G, da, S, r, d, S', R, E, e, q⟩ := h
  simp only [sem] at e
  split at e
  · rename_i S1 ea
    refine rdT1 R E ea fun H1 G1 da1 g R1 => ?_
    rw [if_pos rfl]
    exact rdT1 R1 (E.mono g) e fun H' G' da' g' R' => q H' G' da' (g.trans g') R'
  · rename_i S1 ea
    refine rdT1 R E ea fun H1 G1 da1 g R1 => ?_
    rw [if_neg (by decide)]
    exact rdT1 R1 (E.mono g) e fun H' G' da' g' R' => q H' G' da' (g.trans g') R'
  · cases e
end
theorem pt_ite {X : Cx} {c a b : Expr} {pos : Pos} {tc ta tb : TT} (hc : PT X c tc) (ha : PT X a ta) (hb : PT X b tb) : PT X (.IfExp c a b pos) (fun σ H Q => tc σ H fun d H1 => if d = true then ta σ H1 Q else tb σ H1 Q) := by
  refine ⟨fun pins s σ H Q I h => ?_⟩
  show wpAny _ _ (do if ← isTrue c X.env (eval c X.env) then isTrue a X.env (eval a X.env) else isTrue b X.env (eval b X.env)) _ _ s
  refine wpAny_bind (thn (hc.run pins s σ H _ I h) fun d s1 ⟨H1, I1, q1⟩ => ?_)
  cases d with
  | true => exact ha.run pins s1 σ H1 Q I1 q1
  | false => exact hb.run pins s1 σ H1 Q I1 q1

section
variable {c : CC} {C : Call}
theorem slot_ok {x : Str} {i : Nat} (h : slotOf c x = some i) : c.N[i]? = some x := by
  unfold slotOf at h
  rw [List.findIdx?_eq_some_iff_getElem] at h
  obtain ⟨hi, h1, _⟩ := h
  rw [List.getElem?_eq_getElem hi]
  exact congrArg some (of_decide_eq_true h1)
theorem vis_ok {sc : Scope} {x : Str} (h : visB sc x = true) : Vis sc x := by
  unfold visB at h
  split at h <;> first | exact .inl (by assumption) | exact .inr (.inl (by assumption)) | exact .inr (.inr (by assumption)) | cases h
theorem loc_ok {sc : Scope} {x : Str} (h : locB sc x = true) : Loc sc x := by
  unfold locB at h
  split at h <;> first | exact .inl (by assumption) | exact .inr (by assumption) | cases h
theorem gl_ok {X : Cx} {sc : Scope} {x : Str} (hs : X.env.scope = sc) (h : glB sc x = true) : Gl X x := by
  unfold glB at h
  split at h
  · rename_i e
    show X.env.scope.names.lookup x = _
    rw [hs]; exact e
  · cases h
theorem sto_ok {X : Cx} {rs : Option Scope} {sc : Scope} {x : Str} (F : Fb c C X rs) (hs : X.env.scope = sc) (h : stoB sc rs x = true) : X.fn x = true ∨ X.env.scope.names.lookup x = some .local := by
  cases rs with
  | none => exact .inl (F.fn0 rfl x)
  | some s =>
    unfold stoB at h
    simp only [Bool.or_eq_true, decide_eq_true_eq] at h
    rcases h with h | h
    · left
      rw [F.fn1 s rfl x, h]
      rfl
    · right
      rw [hs]; exact h
theorem name_ok {x : Str} (h : okName x = true) : (x == ("__debug__" : Str)) = false ∧ (x == ("__classdict__" : Str)) = false := by
  unfold okName at h
  simpa using h
theorem notSet_fold {e : Expr} {env : Env} (h : notSet e = true) : ∀ x, foldedSetIterable e env x = pure x := by
  intro x
  cases e <;> first | rfl | cases h
theorem notSet_marks {e : Expr} {op : CmpOp} (h : notSet e = true) : behindInMarks op e = false := by
  cases e <;> first | rfl | cases h
theorem notSlice_plain {e : Expr} (h : notSlice e = true) : PlainIx e := by
  intro o i
  cases e <;> first | rfl | cases h
theorem assignEach_one {e : Expr} {es : List Expr} {env : Env} (h : plainE e = true) : assignEach (e :: es) env = (false, assign e env) :: assignEach es env := by
  cases e <;> first | rfl | cases h
theorem assignEach_len : ∀ {es : List Expr} {env : Env}, es.all plainE = true → (assignEach es env).length = es.length ∧ (assignEach es env).findIdx? (·.1) = none
  | [], _, _ => ⟨rfl, rfl⟩
  | e :: es, env, h => by
    rw [List.all_cons, Bool.and_eq_true] at h
    obtain ⟨h1, h2⟩ := assignEach_len (env := env) h.2
    rw [assignEach_one h.1]
    refine ⟨by simp [h1], ?_⟩
    rw [List.findIdx?_cons]
    simp [h2]

/-! targets -/
theorem snd_g (n : Nat) : (∀ (X : Cx) (rs : Option Scope) (sc : Scope) (e : Expr) (g : Tg), Fb c C X rs → X.env.scope = sc → compG c sc rs n e = some g → PG X e (rdG X.K g)) ∧
    (∀ (X : Cx) (rs : Option Scope) (sc : Scope) (es : List Expr) (g : Tg), Fb c C X rs → X.env.scope = sc → compGs c sc rs n es = some g → PGs X es (rdGs X.K g) ∧ es.all plainE = true ∧ ari g = es.length) := by
  induction n with
  | zero => exact ⟨fun X rs sc e g F hs h => by simp [compG] at h, fun X rs sc e g F hs h => by simp [compGs] at h⟩
  | succ n ih =>
    refine ⟨fun X rs sc e g F hs h => ?_, fun X rs sc es g F hs h => ?_⟩
    · cases e <;> simp only [compG, reduceCtorEq] at h
      · rename_i x pos
        split at h
        · rename_i hb
          rw [Bool.and_eq_true] at hb
          obtain ⟨i, hi, rfl⟩ := Option.map_eq_some_iff.mp h
          have hl : Loc X.env.scope x := by rw [hs]; exact loc_ok hb.1
          exact PG.imp (pg_name (by rw [F.N]; exact F.nd) (by rw [F.N]; exact slot_ok hi) hl (sto_ok F hs hb.2)) fun v σ H Q z => rg_name z
        · cases h
      · rename_i es k pos
        split at h
        · cases h
        rename_i hsu
        have hsu : c.su = false := by simpa using hsu
        obtain ⟨g', hg, rfl⟩ := Option.map_eq_some_iff.mp h
        obtain ⟨h1, h2, h3⟩ := ih.2 X rs sc es g' F hs hg
        obtain ⟨k1, k2⟩ := assignEach_len (env := X.env) h2
        exact PG.imp (pg_tup (n := ari g') (F.calm hsu) h1 (by rw [k1, h3]) k2) fun v σ H Q z => rg_tup z
    · cases es with
      | nil =>
        simp only [compGs] at h
        cases h
        exact ⟨PGs.imp pgs_nil fun v σ H Q z => rgs_nil z, rfl, rfl⟩
      | cons e es =>
        simp only [compGs] at h
        split at h
        · rename_i hp
          split at h
          · rename_i a r ha hr
            cases h
            have h1 := ih.1 X rs sc e a F hs ha
            obtain ⟨h2, h3, h4⟩ := ih.2 X rs sc es r F hs hr
            refine ⟨PGs.imp (pgs_cons h1 h2 (by rw [assignEach_one hp] <;> rfl)) fun v σ H Q z => rgs_cons z, by rw [List.all_cons, hp, h3]; rfl, by simp [ari, h4]⟩
          · cases h
        · cases h

/-! expressions -/
structure Snd (c : CC) (C : Call) (n : Nat) : Prop where
  e : ∀ (X : Cx) (rs : Option Scope) (sc : Scope) (ex : Expr) (t : Tm), Fx c C X rs → X.env.scope = sc → comp c n sc ex = some t → PE X ex (rdE X.K C t) ∧ PT X ex (rdT X.K C t) ∧ (newN t = true → PE X ex (rdF X.K C t))
  b : ∀ (X : Cx) (rs : Option Scope) (sc : Scope) (o : BoolOp) (vs : List Expr) (pos : Pos) (t : Tm), Fx c C X rs → X.env.scope = sc → (rc c n).b sc o vs = some t → PE X (.BoolOp o vs pos) (rdE X.K C t) ∧ PW X (.BoolOp o vs pos) (rdT X.K C t) ∧ (newN t = true → PE X (.BoolOp o vs pos) (rdF X.K C t))
  a : ∀ (X : Cx) (rs : Option Scope) (sc : Scope) (es : List Expr) (t : Tm), Fx c C X rs → X.env.scope = sc → (rc c n).a sc es = some t → PA X es (rdA X.K C t) ∧ es.all plainE = true ∧ (∀ r S ds S', semA C t r S = some (ds, S') → ds.length = es.length) ∧ (es = [] → t = .nil)
  k : ∀ (X : Cx) (rs : Option Scope) (sc : Scope) (kws : List Keyword) (t : Tm), Fx c C X rs → X.env.scope = sc → (rc c n).k sc kws = some t → PK X kws (rdA X.K C t) ∧ (∀ r S ds S', semA C t r S = some (ds, S') → ds.length = kws.length)
  o : ∀ (X : Cx) (rs : Option Scope) (sc : Scope) (oe : Option Expr) (t : Tm), Fx c C X rs → X.env.scope = sc → (rc c n).o sc oe = some t → PO X oe (rdO X.K C t)
  ts : ∀ (X : Cx) (rs : Option Scope) (sc : Scope) (ifs : List Expr) (t : Tm), Fx c C X rs → X.env.scope = sc → (rc c n).t sc ifs = some t → PTs X ifs (rdT X.K C t)
  i : ∀ (X : Cx) (rs : Option Scope) (sc : Scope) (tg ex : Expr) (t : Tm), Fx c C X rs → X.env.scope = sc → (rc c n).i sc tg ex = some t → PI X tg ex (rdI X.K C t)
  d : ∀ (X : Cx) (rs : Option Scope) (sc : Scope) (es : List Expr) (t : Tm), Fx c C X rs → X.env.scope = sc → (rc c n).d sc es = some t → PA X es (rdA X.K C t)
  f : ∀ (X : Cx) (rs : Option Scope) (sc : Scope) (es : List Expr) (t : Tm), Fx c C X rs → X.env.scope = sc → (rc c n).f sc es = some t → PA X es (rdA X.K C t) ∧ es.all plainE = true ∧ (∀ r S ds S', semA C t r S = some (ds, S') → ds.length = es.length) ∧ (es = [] → t = .nil)
theorem snd_a {n : Nat} (S : Snd c C n) (X : Cx) (rs : Option Scope) (sc : Scope) (es : List Expr) (t : Tm) (F : Fx c C X rs) (hs : X.env.scope = sc) (h : stepA (rc c n) sc es = some t) : PA X es (rdA X.K C t) ∧ es.all plainE = true ∧ (∀ r S ds S', semA C t r S = some (ds, S') → ds.length = es.length) ∧ (es = [] → t = .nil) := by
  cases es with
  | nil =>
    simp only [stepA] at h
    cases h
    exact ⟨PA.imp pa_nil fun σ H Q z => ra_nil z, rfl, fun r S ds S' e => by simp only [semA] at e; cases e; rfl, fun _ => rfl⟩
  | cons e es =>
    simp only [stepA] at h
    split at h
    · rename_i hp
      split at h
      · rename_i a r ha hr
        cases h
        have h1 := (S.e X rs sc e a F hs ha).1
        obtain ⟨h2, h3, h4, _⟩ := S.a X rs sc es r F hs hr
        refine ⟨PA.imp (pa_cons h1 h2 (star_one hp)) fun σ H Q z => ra_cons z, by rw [List.all_cons, hp, h3]; rfl, fun r1 S1 ds S' e => ?_, fun z => by cases z⟩
        simp only [semA] at e
        split at e
        · cases e
        · split at e
          · cases e
          · rename_i xs S2 eb
            cases e
            simp [h4 _ _ _ _ eb]
      · cases h
    · cases h
theorem pe_frz1 {X : Cx} {e : Expr} {a : Tm} (h : PE X e (rdE X.K C a)) : PE X e (rdE X.K C (frz1 c a)) := by
  unfold frz1
  split
  · split
    · exact PE.imp h fun σ H Q z => rd_frz z
    · exact h
  · exact h
theorem snd_f {n : Nat} (S : Snd c C n) (X : Cx) (rs : Option Scope) (sc : Scope) (es : List Expr) (t : Tm) (F : Fx c C X rs) (hs : X.env.scope = sc) (h : stepF c (rc c n) sc es = some t) : PA X es (rdA X.K C t) ∧ es.all plainE = true ∧ (∀ r S ds S', semA C t r S = some (ds, S') → ds.length = es.length) ∧ (es = [] → t = .nil) := by
  cases es with
  | nil =>
    simp only [stepF] at h
    cases h
    exact ⟨PA.imp pa_nil fun σ H Q z => ra_nil z, rfl, fun r S ds S' e => by simp only [semA] at e; cases e; rfl, fun _ => rfl⟩
  | cons e es =>
    simp only [stepF] at h
    split at h
    · rename_i hp
      split at h
      · rename_i a r ha hr
        cases h
        have h1 := pe_frz1 (c := c) (S.e X rs sc e a F hs ha).1
        obtain ⟨h2, h3, h4, _⟩ := S.f X rs sc es r F hs hr
        refine ⟨PA.imp (pa_cons h1 h2 (star_one hp)) fun σ H Q z => ra_cons z, by rw [List.all_cons, hp, h3]; rfl, fun r1 S1 ds S' e => ?_, fun z => by cases z⟩
        simp only [semA] at e
        split at e
        · cases e
        · split at e
          · cases e
          · rename_i xs S2 eb
            cases e
            simp [h4 _ _ _ _ eb]
      · cases h
    · cases h
theorem snd_k {n : Nat} (S : Snd c C n) (X : Cx) (rs : Option Scope) (sc : Scope) (kws : List Keyword) (t : Tm) (F : Fx c C X rs) (hs : X.env.scope = sc) (h : stepK (rc c n) sc kws = some t) : PK X kws (rdA X.K C t) ∧ (∀ r S ds S', semA C t r S = some (ds, S') → ds.length = kws.length) := by
  cases kws with
  | nil =>
    simp only [stepK] at h
    cases h
    exact ⟨⟨fun pos pins s σ H Q I z => pk_nil.run pos pins s σ H Q I (ra_nil z)⟩, fun r S ds S' e => by simp only [semA] at e; cases e; rfl⟩
  | cons q kws =>
    obtain ⟨nm, v, kp⟩ := q
    simp only [stepK] at h
    split at h
    · rename_i a r ha hr
      cases h
      have h1 := (S.e X rs sc v a F hs ha).1
      obtain ⟨h2, h4⟩ := S.k X rs sc kws r F hs hr
      refine ⟨⟨fun pos pins s σ H Q I z => (pk_cons h1 h2).run pos pins s σ H Q I (ra_cons z)⟩, fun r1 S1 ds S' e => ?_⟩
      simp only [semA] at e
      split at e
      · cases e
      · split at e
        · cases e
        · rename_i xs S2 eb
          cases e
          simp [h4 _ _ _ _ eb]
    · cases h
theorem snd_o {n : Nat} (S : Snd c C n) (X : Cx) (rs : Option Scope) (sc : Scope) (oe : Option Expr) (t : Tm) (F : Fx c C X rs) (hs : X.env.scope = sc) (h : stepO (rc c n) sc oe = some t) : PO X oe (rdO X.K C t) := by
  cases oe with
  | none =>
    simp only [stepO] at h
    cases h
    exact PO.imp po_none fun σ H Q z => ro_nop z
  | some e =>
    simp only [stepO] at h
    obtain ⟨a, ha, rfl⟩ := Option.map_eq_some_iff.mp h
    exact PO.imp (po_some (S.e X rs sc e a F hs ha).1) fun σ H Q z => ro_some z
theorem snd_ts {n : Nat} (S : Snd c C n) (X : Cx) (rs : Option Scope) (sc : Scope) (ifs : List Expr) (t : Tm) (F : Fx c C X rs) (hs : X.env.scope = sc) (h : stepT (rc c n) sc ifs = some t) : PTs X ifs (rdT X.K C t) := by
  cases ifs with
  | nil =>
    simp only [stepT] at h
    cases h
    refine ⟨fun pins s σ H Q I z => pts_nil.run pins s σ H Q I ?_⟩
    obtain ⟨G, da, S, r, b, S', R, E, e, q⟩ := z
    simp only [sem] at e
    cases e
    exact q H G da .refl R
  | cons e es =>
    cases es with
    | nil =>
      simp only [stepT] at h
      exact pts_one (S.e X rs sc e t F hs h).2.1
    | cons _ _ => simp [stepT] at h
theorem snd_b {n : Nat} (S : Snd c C n) (X : Cx) (rs : Option Scope) (sc : Scope) (o : BoolOp) (vs : List Expr) (pos : Pos) (t : Tm) (F : Fx c C X rs) (hs : X.env.scope = sc) (h : stepB (rc c n) sc o vs = some t) : PE X (.BoolOp o vs pos) (rdE X.K C t) ∧ PW X (.BoolOp o vs pos) (rdT X.K C t) ∧ (newN t = true → PE X (.BoolOp o vs pos) (rdF X.K C t)) := by
  cases vs with
  | nil => simp [stepB] at h
  | cons e es =>
    cases es with
    | nil =>
      simp only [stepB] at h
      obtain ⟨h1, h2, h3⟩ := S.e X rs sc e t F hs h
      refine ⟨pe_one h1, ?_, fun hn => pe_one (h3 hn)⟩
      cases o with
      | And => exact pw_and1 h2
      | Or => exact pw_or1 h2
    | cons e' es =>
      simp only [stepB] at h
      split at h
      · rename_i a b ha hb
        cases h
        obtain ⟨h1, h2, _⟩ := S.e X rs sc e a F hs ha
        obtain ⟨k1, k2, _⟩ := S.b X rs sc o (e' :: es) pos b F hs hb
        cases o with
        | And => exact ⟨PE.imp (pe_and h1 k1) fun σ H Q z => rd_and z, PW.imp (pw_and h2 k2) fun σ H Q z => rt_and z, fun hn => by cases hn⟩
        | Or => exact ⟨PE.imp (pe_or h1 k1) fun σ H Q z => rd_or z, PW.imp (pw_or h2 k2) fun σ H Q z => rt_or z, fun hn => by cases hn⟩
      · cases h
end
end AOne
end

section
set_option Elab.async false
set_option linter.all false
set_option maxRecDepth 100000
set_option maxHeartbeats 4000000
set_option autoImplicit false
/-! A13: the compiler is sound (expressions, all). -/
namespace AOne
open PySem PySem.Spec L2

section
variable {c : CC} {C : Call}
theorem blt_ok {X : Cx} {rs : Option Scope} (F : Fx c C X rs) {x : Str} (h : decide (x ∈ bltNames) = true) : X.mg x = none := F.blt x (of_decide_eq_true h)
theorem iterKind_cases {sc : Scope} {f : Str} {kws : List Keyword} : (iterKind c sc f kws = .rng ∧ kws = [] ∧ glB sc f = true ∧ f = ("range" : Str)) ∨ (iterKind c sc f kws = .zip ∧ kws = [] ∧ glB sc f = true ∧ f = ("zip" : Str)) ∨ (iterKind c sc f kws = .enum ∧ kws = [] ∧ glB sc f = true ∧ f = ("enumerate" : Str)) ∨ iterKind c sc f kws = .val := by
  unfold iterKind
  split
  · exact .inr (.inr (.inr rfl))
  · split
    · exact .inr (.inr (.inr rfl))
    · split
      · exact .inr (.inr (.inr rfl))
      · rename_i hg
        have hg : glB sc f = true := by simpa using hg
        split
        · exact .inl ⟨rfl, rfl, hg, by assumption⟩
        · split
          · exact .inr (.inl ⟨rfl, rfl, hg, by assumption⟩)
          · split
            · exact .inr (.inr (.inl ⟨rfl, rfl, hg, by assumption⟩))
            · exact .inr (.inr (.inr rfl))
theorem tup_of {e : Expr} (h : isTupE e = true) : ∃ es k p, e = .Tuple es k p := by
  cases e <;> first | exact ⟨_, _, _, rfl⟩ | cases h
theorem pa_one {X : Cx} {e : Expr} {t : Tm} (hp : plainE e = true) (h : PE X e (rdE X.K C t)) : PA X [e] (rdA X.K C (.cons t .nil)) := PA.imp (pa_cons h (PA.imp pa_nil fun σ H Q z => ra_nil z) (star_one hp)) fun σ H Q z => ra_cons z
theorem snd_i {n : Nat} (S : Snd c C n) (X : Cx) (rs : Option Scope) (sc : Scope) (tg ex : Expr) (t : Tm) (F : Fx c C X rs) (hs : X.env.scope = sc) (h : stepI c (rc c n) sc tg ex = some t) : PI X tg ex (rdI X.K C t) := by
  have other : ∀ {e : Expr} {u : Tm}, ((rc c n).e sc e).map Tm.ival = some u → PI X tg e (rdI X.K C u) := by
    intro e u h
    obtain ⟨a, ha, rfl⟩ := Option.map_eq_some_iff.mp h
    exact pi_ival (S.e X rs sc e a F hs ha).1
  unfold stepI at h
  split at h
  · rename_i fe args kws q
    split at h
    · rename_i f p
      rcases iterKind_cases (c := c) (sc := sc) (f := f) (kws := kws) with ⟨hk, rfl, hg, rfl⟩ | ⟨hk, rfl, hg, rfl⟩ | ⟨hk, rfl, hg, rfl⟩ | hk
      · rw [hk] at h
        replace h : cRng (rc c n) sc args = some t := h
        have hg : Gl X "range" := gl_ok hs hg
        unfold cRng at h
        split at h
        · rename_i a
          obtain ⟨u, hu, rfl⟩ := Option.map_eq_some_iff.mp h
          obtain ⟨h1, h2, h3, _⟩ := S.a X rs sc _ u F hs hu
          simp only [List.all_cons, List.all_nil, Bool.and_true] at h2
          exact PI.imp (pi_irange1 hg (blt_ok F (by decide)) h1 (by rw [star_one h2] <;> rfl)) fun σ H Q z => ⟨z, fun r S' ds S'' e => h3 r S' ds S'' e⟩
        · rename_i a b
          obtain ⟨u, hu, rfl⟩ := Option.map_eq_some_iff.mp h
          obtain ⟨h1, h2, h3, _⟩ := S.a X rs sc _ u F hs hu
          simp only [List.all_cons, List.all_nil, Bool.and_true, Bool.and_eq_true] at h2
          exact PI.imp (pi_irange2 hg (blt_ok F (by decide)) h1 (by rw [star_one h2.1, star_one h2.2] <;> rfl) (by rw [star_one h2.2] <;> rfl)) fun σ H Q z => ⟨z, fun r S' ds S'' e => h3 r S' ds S'' e⟩
        · cases h
      · rw [hk] at h
        replace h : cZip (rc c n) sc tg args = some t := h
        have hg : Gl X "zip" := gl_ok hs hg
        unfold cZip at h
        split at h
        · rename_i a b
          split at h
          · rename_i hp
            rw [Bool.and_eq_true, Bool.and_eq_true] at hp
            obtain ⟨⟨hp1, hp2⟩, ht⟩ := hp
            obtain ⟨es, k, p', rfl⟩ := tup_of ht
            split at h
            · rename_i ta tb ha hb
              cases h
              have h1 := (S.e X rs sc a ta F hs ha).1
              have h2 := (S.e X rs sc b tb F hs hb).1
              have pa : PA X [a, b] (rdA X.K C (.cons ta (.cons tb .nil))) := PA.imp (pa_cons h1 (pa_one hp2 h2) (star_one hp1)) fun σ H Q z => ra_cons z
              exact pi_izip hg (blt_ok F (by decide)) pa (star_one hp1) (star_none (by simpa using hp2))
            · cases h
          · cases h
        · cases h
      · rw [hk] at h
        replace h : cEnum (rc c n) sc tg args = some t := h
        have hg : Gl X "enumerate" := gl_ok hs hg
        unfold cEnum at h
        split at h
        · rename_i a
          split at h
          · rename_i hp
            rw [Bool.and_eq_true] at hp
            obtain ⟨es, k, p', rfl⟩ := tup_of hp.2
            obtain ⟨ta, ha, rfl⟩ := Option.map_eq_some_iff.mp h
            exact pi_ienum hg (blt_ok F (by decide)) (pa_one hp.1 (S.e X rs sc a ta F hs ha).1) (by rw [star_one hp.1] <;> rfl)
          · cases h
        · cases h
      · rw [hk] at h
        exact other h
    · exact other h
  · exact other h
theorem ra_star {K : PySem.W.Frag} {σ : L2.St} {H : Hp} {a b : Tm} {QA : List V → Hp → Prop} (h : rdA K C (.star a b) σ H QA) : StX.tStar K (rdE K C a) (rdA K C b) σ H QA := by
  obtain ⟨G, da, S, r, d, S', R, E, e, q⟩ := h
  simp only [semA] at e
  split at e
  · cases e
  · rename_i x S1 ea
    split at e
    · cases e
    · rename_i ys ey
      split at e
      · cases e
      · rename_i xs S2 eb
        cases e
        refine rd1 R E ea fun v H1 G1 da1 g R1 h1 => ?_
        have fin : ∀ (p : Addr) (us : List V), v = .ref p → (SqT K H1 p us ∨ SqL K H1 p us) → RDs K G1 us ys → ∃ p xs, v = V.ref p ∧ (SqT K H1 p xs ∨ SqL K H1 p xs) ∧ rdA K C b σ H1 fun ys H2 => QA (xs ++ ys) H2 := fun p us hv hq hr => by
          refine ⟨p, us, hv, hq, ra1 R1 (E.mono g) eb fun vs H2 G2 da2 g2 R2 h2 => ?_⟩
          exact q _ H2 G2 da2 (g.trans g2) R2 ((hr.mono g2.g).rts.append h2)
        revert ey
        generalize ed : look S1 x = dd
        intro ey
        cases dd <;> simp only [seqD, reduceCtorEq] at ey
        · cases ey
          obtain ⟨p, us, hv, k1, _, k2⟩ := look_tup R1 h1 ed
          exact fin p us hv (.inl k1) k2
        · cases ey
          obtain ⟨p, us, hv, k1, k2⟩ := look_lst R1 h1 ed
          exact fin p us hv (.inr k1) k2
theorem snd_d {n : Nat} (S : Snd c C n) (X : Cx) (rs : Option Scope) (sc : Scope) (es : List Expr) (t : Tm) (F : Fx c C X rs) (hs : X.env.scope = sc) (h : stepD (rc c n) sc es = some t) : PA X es (rdA X.K C t) := by
  unfold stepD at h
  split at h
  · cases h
    exact PA.imp pa_nil fun σ H Q z => ra_nil z
  · rename_i e es
    split at h
    · rename_i x hx
      split at h
      · rename_i a r ha hr
        cases h
        cases e <;> simp only [starOf, reduceCtorEq] at hx
        rename_i e' p
        cases hx
        exact PA.imp (StX.pa_star (S.e X rs sc _ a F hs ha).1 (S.d X rs sc es r F hs hr)) fun σ H Q z => ra_star z
      · cases h
    · rename_i hx
      have hp : plainE e = true := by cases e <;> first | rfl | (simp [starOf] at hx; done)
      split at h
      · rename_i a r ha hr
        cases h
        exact PA.imp (pa_cons (S.e X rs sc e a F hs ha).1 (S.d X rs sc es r F hs hr) (star_one hp)) fun σ H Q z => ra_cons z
      · cases h
/-- a value as a test, where the text is no test of its own -/
def plainT : Expr → Bool
  | .UnaryOp .Not _ _ => false
  | .BoolOp _ _ _ => false
  | .IfExp _ _ _ _ => false
  | .Compare _ _ _ _ => false
  | _ => true
theorem pt_plain {X : Cx} {e : Expr} {t : Tm} (hp : plainT e = true) (h : PE X e (rdE X.K C t)) : PT X e (rdT X.K C t) := by
  refine PT.imp (pt_val h fun whole => ?_) fun σ H Q z => rt_val z
  cases e <;> first
    | rfl
    | (rename_i o _ _; cases o <;> first | rfl | cases hp)
    | cases hp
theorem opS_of {o : Operator} {p : Op2} (h : opOf o = some p) : opS p = o := by
  cases o <;> simp only [opOf, reduceCtorEq, Option.some.injEq] at h <;> subst h <;> rfl
theorem cpS_of {o : CmpOp} {p : Cp} (h : cpOf o = some p) : cpS p = o := by
  cases o <;> simp only [cpOf, reduceCtorEq, Option.some.injEq] at h <;> subst h <;> rfl
theorem rd_test {K : PySem.W.Frag} {t : Tm} {te : TE} (h : ∀ σ H Q, rdE K C t σ H Q → te σ H Q) (σ : L2.St) (H : Hp) (Q : Bool → Hp → Prop) (z : rdT K C t σ H Q) : tTest te σ H Q := h σ H _ (rt_val z)
theorem comp3 {X : Cx} {e : Expr} {t : Tm} (hp : plainT e = true) (hn : newN t = false) (h : PE X e (rdE X.K C t)) : PE X e (rdE X.K C t) ∧ PT X e (rdT X.K C t) ∧ (newN t = true → PE X e (rdF X.K C t)) :=
  ⟨h, pt_plain hp h, fun z => by rw [hn] at z; cases z⟩
theorem comp3n {X : Cx} {e : Expr} {t : Tm} (hp : plainT e = true) (hn : newE t = true) (h : PE X e (rdF X.K C t)) : PE X e (rdE X.K C t) ∧ PT X e (rdT X.K C t) ∧ (newN t = true → PE X e (rdF X.K C t)) :=
  ⟨PE.new hn h, pt_plain hp (PE.new hn h), fun _ => h⟩
theorem prOf_some {f : Str} {p : Pr} (h : prOf f = some p) : (f = ("len" : Str) ∧ p = .len) ∨ (f = ("all" : Str) ∧ p = .all) ∨ (f = ("any" : Str) ∧ p = .any) ∨ (f = ("tuple" : Str) ∧ p = .tuple) ∨ (f = ("list" : Str) ∧ p = .list) ∨ (f = ("sorted" : Str) ∧ p = .sorted) ∨ (f = ("int" : Str) ∧ p = .int) ∨ (f = ("min" : Str) ∧ p = .min2) ∨ (f = ("repr" : Str) ∧ p = .repr) ∨ (f = ("max" : Str) ∧ p = .max2) := by
  unfold prOf at h
  split at h
  · cases h; exact .inl ⟨by assumption, rfl⟩
  · split at h
    · cases h; exact .inr (.inl ⟨by assumption, rfl⟩)
    · split at h
      · cases h; exact .inr (.inr (.inl ⟨by assumption, rfl⟩))
      · split at h
        · cases h; exact .inr (.inr (.inr (.inl ⟨by assumption, rfl⟩)))
        · split at h
          · cases h; exact .inr (.inr (.inr (.inr (.inl ⟨by assumption, rfl⟩))))
          · split at h
            · cases h; exact .inr (.inr (.inr (.inr (.inr (.inl ⟨by assumption, rfl⟩)))))
            · split at h
              · cases h; exact .inr (.inr (.inr (.inr (.inr (.inr (.inl ⟨by assumption, rfl⟩))))))
              · split at h
                · cases h; exact .inr (.inr (.inr (.inr (.inr (.inr (.inr (.inl ⟨by assumption, rfl⟩)))))))
                · split at h
                  · cases h; exact .inr (.inr (.inr (.inr (.inr (.inr (.inr (.inr (.inl ⟨by assumption, rfl⟩))))))))
                  · split at h
                    · cases h; exact .inr (.inr (.inr (.inr (.inr (.inr (.inr (.inr (.inr ⟨by assumption, rfl⟩))))))))
                    · cases h
/-- a built-in function or type, called -/
theorem pe_prim {X : Cx} {rs : Option Scope} (Z : Srt) (F : Fx c C X rs) (hsu : c.su = false) {f : Str} {pr : Pr} {p pos : Pos} {e : Expr} {es : List Expr} {a : Tm} (hf : prOf f = some pr) (hg : Gl X f) (ha : PA X (e :: es) (rdA X.K C a)) (hpl : (e :: es).all plainE = true) :
    PE X (.Call (.Name f p) (e :: es) [] pos) (rdE X.K C (.pr pr a)) ∧ (newN (.pr pr a) = true → PE X (.Call (.Name f p) (e :: es) [] pos) (rdF X.K C (.pr pr a))) := by
  rw [List.all_cons, Bool.and_eq_true] at hpl
  have s1 := star_one (es := es) (env := X.env) hpl.1
  have s2 : (backTo pos (starEach es X.env)).any (·.1) = false := star_none hpl.2
  have un := F.un
  rcases prOf_some hf with ⟨rfl, rfl⟩ | ⟨rfl, rfl⟩ | ⟨rfl, rfl⟩ | ⟨rfl, rfl⟩ | ⟨rfl, rfl⟩ | ⟨rfl, rfl⟩ | ⟨rfl, rfl⟩ | ⟨rfl, rfl⟩ | ⟨rfl, rfl⟩ | ⟨rfl, rfl⟩
  · exact ⟨PE.imp (pe_callB cr_len hg (blt_ok F (by decide)) (by decide +kernel) ha (by decide) (by decide) s1 s2) fun σ H Q z => rd_pr z, fun z => by cases z⟩
  · exact ⟨PE.imp (pe_callB (cr_allP (F.calm hsu)) hg (blt_ok F (by decide)) (by decide +kernel) ha (by decide) (by decide) s1 s2) fun σ H Q z => rd_pr z, fun z => by cases z⟩
  · exact ⟨PE.imp (pe_callB (cr_anyP (F.calm hsu)) hg (blt_ok F (by decide)) (by decide +kernel) ha (by decide) (by decide) s1 s2) fun σ H Q z => rd_pr z, fun z => by cases z⟩
  · exact ⟨PE.imp (pe_callTy cr_tupleP hg (blt_ok F (by decide)) (by decide +kernel) ha (by decide) (by decide) s1 s2) fun σ H Q z => rd_pr z, fun z => by cases z⟩
  · have h : PE X (.Call (.Name "list" p) (e :: es) [] pos) (rdF X.K C (.pr .list a)) := PE.imp (pe_callTy cr_listN hg (blt_ok F (by decide)) (by decide +kernel) ha (by decide) (by decide) s1 s2) fun σ H Q z => rdF_pr z
    exact ⟨PE.new rfl h, fun _ => h⟩
  · have h : PE X (.Call (.Name "sorted" p) (e :: es) [] pos) (rdF X.K C (.pr .sorted a)) := PE.imp (pe_callB (Z.lst X (F.calm hsu) F.guards F.un) hg (blt_ok F (by decide)) (by decide +kernel) ha (by decide) (by decide) s1 s2) fun σ H Q z => rdF_pr z
    exact ⟨PE.new rfl h, fun _ => h⟩
  · exact ⟨PE.imp (pe_callTy cr_intP hg (blt_ok F (by decide)) (by decide +kernel) ha (by decide) (by decide) s1 s2) fun σ H Q z => rd_pr z, fun z => by cases z⟩
  · exact ⟨PE.imp (pe_callB (cr_min2P (F.calm hsu)) hg (blt_ok F (by decide)) (by decide +kernel) ha (by decide) (by decide) s1 s2) fun σ H Q z => rd_pr z, fun z => by cases z⟩
  · exact ⟨PE.imp (pe_callB (cr_reprP F.guards (by omega)) hg (blt_ok F (by decide)) (by decide +kernel) ha (by decide) (by decide) s1 s2) fun σ H Q z => rd_pr z, fun z => by cases z⟩
  · exact ⟨PE.imp (pe_callB (cr_max2P (F.calm hsu)) hg (blt_ok F (by decide)) (by decide +kernel) ha (by decide) (by decide) s1 s2) fun σ H Q z => rd_pr z, fun z => by cases z⟩
theorem tyOf_some {x : Str} {t : Ty} (h : tyOf x = some t) : x ∈ bltNames ∧ bootBuiltins x = some (.type (tyStr t)) ∧ x ≠ "__name__" ∧ (x == ("__debug__" : Str)) = false := by
  unfold tyOf at h
  split at h
  · rename_i e; cases h; subst e; exact ⟨by decide, by decide +kernel, by decide, by decide⟩
  · split at h
    · rename_i e; cases h; subst e; exact ⟨by decide, by decide +kernel, by decide, by decide⟩
    · split at h
      · rename_i e; cases h; subst e; exact ⟨by decide, by decide +kernel, by decide, by decide⟩
      · split at h
        · rename_i e; cases h; subst e; exact ⟨by decide, by decide +kernel, by decide, by decide⟩
        · split at h
          · rename_i e; cases h; subst e; exact ⟨by decide, by decide +kernel, by decide, by decide⟩
          · cases h
theorem snd_name {X : Cx} {rs : Option Scope} {sc : Scope} {x : Str} {p : Pos} {t : Tm} (F : Fx c C X rs) (hs : X.env.scope = sc) (h : cName c sc x = some t) : PE X (.Name x p) (rdE X.K C t) ∧ newN t = false := by
  unfold cName at h
  split at h
  · cases h
  · rename_i ho
    obtain ⟨o1, o2⟩ := name_ok (by simpa using ho)
    split at h
    · rename_i hv
      obtain ⟨i, hi, rfl⟩ := Option.map_eq_some_iff.mp h
      exact ⟨PE.imp (pe_var (by rw [F.N]; exact slot_ok hi) (by rw [hs]; exact vis_ok hv) o1 o2) fun σ H Q z => rd_var z, rfl⟩
    · split at h
      · rename_i hg
        obtain ⟨d, hd, rfl⟩ := Option.map_eq_some_iff.mp h
        obtain ⟨u, v, k1, k2, k3⟩ := F.gl x d hd
        exact ⟨PE.imp (pe_glob (gl_ok hs hg) k1 k2 o1) fun σ H Q z => rd_cst k3 z, rfl⟩
      · cases h
theorem snd_const {X : Cx} {k : Const} {j : Nat} {p : Pos} {t : Tm} (h : cConst k = some t) : PE X (.Constant k j p) (rdE X.K C t) ∧ newN t = false := by
  unfold cConst at h
  split at h
  · cases h; exact ⟨PE.imp pe_int fun σ H Q z => rd_cst (fun G => .int _) z, rfl⟩
  · cases h; exact ⟨PE.imp pe_bl fun σ H Q z => rd_cst (fun G => .bl _) z, rfl⟩
  · cases h; exact ⟨PE.imp pe_non fun σ H Q z => rd_cst (fun G => .non) z, rfl⟩
  · split at h
    · rename_i hx
      cases h; exact ⟨PE.imp pe_str fun σ H Q z => rd_cst (fun G => .str _ hx) z, rfl⟩
    · cases h
  · cases h
theorem strKeys_pps {X : Cx} {pos : Pos} {rs : Option Scope} : ∀ {keys : List (Option Expr)} {ks : List Str} {values : List Expr} {a : Tm} {n : Nat} {sc : Scope}, (∀ m, m < n → Snd c C m) → Fx c C X rs → X.env.scope = sc → strKeys keys = some ks → (rc c n).a sc values = some a → ks.length = values.length →
    PPs X pos keys values (trsOf X.K C ks a) ∧ keys.all (·.isSome) = true ∧ keys.length = values.length ∧ flatA a = true
  | [], ks, values, a, n, sc, S, F, hs, h, ha, hl => by
    simp only [strKeys] at h
    cases h
    cases values with
    | nil =>
      cases n with
      | zero => cases ha
      | succ n =>
        replace ha : stepA (rc c n) sc [] = some a := ha
        simp only [stepA] at ha
        cases ha
        exact ⟨pps_nil, rfl, rfl, rfl⟩
    | cons _ _ => simp at hl
  | some (.Constant (.str x) j p) :: r, ks, values, a, n, sc, S, F, hs, h, ha, hl => by
    simp only [strKeys] at h
    split at h
    · rename_i hx
      obtain ⟨ks', hk, rfl⟩ := Option.map_eq_some_iff.mp h
      cases values with
      | nil => simp at hl
      | cons v vs =>
        cases n with
        | zero => cases ha
        | succ n =>
          replace ha : stepA (rc c n) sc (v :: vs) = some a := ha
          simp only [stepA] at ha
          split at ha
          · split at ha
            · rename_i a1 a2 h1 h2
              cases ha
              obtain ⟨k1, k2, k3, k4⟩ := strKeys_pps (fun m hm => S m (Nat.lt_succ_of_lt hm)) F hs hk h2 (by simpa using hl)
              exact ⟨pps_cons pe_str ((S n (Nat.lt_succ_self n)).e X rs sc v a1 F hs h1).1 k1, by rw [List.all_cons, k2]; rfl, by simp [k3], by simpa [flatA] using k4⟩
            · cases ha
          · cases ha
    · cases h
  | none :: _, _, _, _, _, _, _, _, _, h, _, _ => by simp [strKeys] at h
  | some (.Constant (.int _) _ _) :: _, _, _, _, _, _, _, _, _, h, _, _ => by simp [strKeys] at h
  | some e :: r, ks, values, a, n, sc, S, F, hs, h, ha, hl => by
    cases e <;> try (simp [strKeys] at h; done)
    rename_i k j p
    cases k <;> try (simp [strKeys] at h; done)
    rename_i x
    simp only [strKeys] at h
    split at h
    · rename_i hx
      obtain ⟨ks', hk, rfl⟩ := Option.map_eq_some_iff.mp h
      cases values with
      | nil => simp at hl
      | cons v vs =>
        cases n with
        | zero => cases ha
        | succ n =>
          replace ha : stepA (rc c n) sc (v :: vs) = some a := ha
          simp only [stepA] at ha
          split at ha
          · split at ha
            · rename_i a1 a2 h1 h2
              cases ha
              obtain ⟨k1, k2, k3, k4⟩ := strKeys_pps (fun m hm => S m (Nat.lt_succ_of_lt hm)) F hs hk h2 (by simpa using hl)
              exact ⟨pps_cons pe_str ((S n (Nat.lt_succ_self n)).e X rs sc v a1 F hs h1).1 k1, by rw [List.all_cons, k2]; rfl, by simp [k3], by simpa [flatA] using k4⟩
            · cases ha
          · cases ha
    · cases h
end
end AOne
end

section
set_option Elab.async false
set_option linter.all false
set_option maxRecDepth 100000
set_option maxHeartbeats 4000000
set_option autoImplicit false
/-! A14: the compiler is sound: expressions. -/
namespace AOne
open PySem PySem.Spec L2

section
variable {c : CC} {C : Call}
abbrev Three (c : CC) (C : Call) (X : Cx) (ex : Expr) (t : Tm) : Prop := PE X ex (rdE X.K C t) ∧ PT X ex (rdT X.K C t) ∧ (newN t = true → PE X ex (rdF X.K C t))
theorem rdF_add {K : PySem.W.Frag} {a b : Tm} {σ : L2.St} {H : Hp} {Q : VK} (h : rdF K C (.op .add a b) σ H Q) : tOp (fun x y H Q => ∃ l b xs zs, x = .ref l ∧ y = .ref b ∧ SqL K H l xs ∧ SqL K H b zs ∧ xs.length + zs.length ≤ sizeLine ∧ ∀ p, H p = none → Q (.ref p) (upd H p (.lst (xs ++ zs)))) (rdE K C a) (rdE K C b) σ H Q := by
  obtain ⟨G, da, S, r, xs, S', R, E, e, q⟩ := h
  simp only [sem] at e
  split at e
  · cases e
  · rename_i x S1 ea
    split at e
    · cases e
    · rename_i y S2 eb
      obtain ⟨z, ez, e2⟩ := Option.map_eq_some_iff.mp e
      cases e2
      refine rd1 R E ea fun v H1 G1 da1 g1 R1 h1 => rd1 R1 (E.mono g1) eb fun w H2 G2 da2 g2 R2 h2 => ?_
      have h1 := h1.mono g2
      revert ez
      generalize ex : look S' x = x'
      generalize ey : look S' y = y'
      intro ez
      have hxy : ∃ l1 l2, x' = .lst l1 ∧ y' = .lst l2 ∧ sizeOk (l1.length + l2.length) = true ∧ xs = l1 ++ l2 := by
        cases x' <;> cases y' <;> simp only [opD, reduceCtorEq, Option.some.injEq, Option.ite_none_right_eq_some, and_false] at ez
        exact ⟨_, _, rfl, rfl, ez.1, (D.lst.inj ez.2).symm⟩
      obtain ⟨l1, l2, rfl, rfl, hz, rfl⟩ := hxy
      obtain ⟨p1, v1, rfl, s1, r1⟩ := look_lst R2 h1 ex
      obtain ⟨p2, v2, rfl, s2, r2⟩ := look_lst R2 h2 ey
      have hz : l1.length + l2.length ≤ sizeLine := of_decide_eq_true hz
      refine ⟨p1, p2, v1, v2, rfl, rfl, s1, s2, by rw [r1.length, r2.length]; exact hz, fun p hp => ?_⟩
      exact q p _ _ G2 da2 ((g1.trans g2).trans (Grow.lay hp)) (R2.lay hp) ((g1.trans g2).none hp) upd_same (R2.gnone hp) (R2.notIn hp) (r1.append r2)
theorem rds_rep {K : PySem.W.Frag} {G : Hp} {vs : List V} {ds : List D} (h : RDs K G vs ds) : ∀ n : Nat, RDs K G (List.replicate n vs).flatten (List.replicate n ds).flatten
  | 0 => .nil
  | n + 1 => by
    rw [List.replicate_succ, List.replicate_succ, List.flatten_cons, List.flatten_cons]
    exact h.append (rds_rep h n)
theorem rd_rep {K : PySem.W.Frag} {a : Tm} {n : Nat} {σ : L2.St} {H : Hp} {Q : VK} (h : rdE K C (.rep a n) σ H Q) : tOp rRep (rdF K C a) (tC (.int (n : Nat))) σ H Q := by
  obtain ⟨G, da, S, r, d, S', R, E, e, q⟩ := h
  simp only [sem] at e
  split at e
  · rename_i xs S1 ea
    split at e
    · rename_i hb
      cases e
      rw [Bool.and_eq_true, decide_eq_true_eq, decide_eq_true_eq] at hb
      refine ⟨G, da, S, r, xs, _, R, E, ea, fun p vs H1 G1 da1 g R1 h1 h2 h3 h4 h5 => ?_⟩
      refine ⟨p, (n : Nat), vs, rfl, rfl, h2, by omega, by omega, ?_, fun p2 hp2 => ?_⟩
      · rw [Int.toNat_natCast, h5.length, sizeLine_eq]
        omega
      · rw [Int.toNat_natCast]
        have en : Ends1 K G1 H1 da1 _ (.lst (List.replicate n xs).flatten) Q := fun v' H' G' g' R' t' => q v' H' G' da1 (g.trans g') R' t'
        exact en.lst R1 (rds_rep h5 n) hp2
    · cases e
  · cases e
theorem snd_bin {n : Nat} (S : Snd c C n) {X : Cx} {rs : Option Scope} {sc : Scope} {a b : Expr} {o : Operator} {p : Pos} {t : Tm} (F : Fx c C X rs) (hs : X.env.scope = sc) (h : cBin (rc c n) sc a o b = some t) : Three c C X (.BinOp a o b p) t := by
  unfold cBin at h
  split at h
  · rename_i k hk
    unfold repOf at hk
    split at hk
    · rename_i m j1 cp
      split at hk
      · rename_i hb
        cases hk
        rw [Bool.and_eq_true, decide_eq_true_eq] at hb
        split at h
        · rename_i t0 ha
          cases h
          have h3 := (S.e X rs sc a _ F hs ha).2.2 rfl
          refine comp3 rfl rfl (PE.imp (pe_op (pos := p) op_rep h3 pe_int) fun σ H Q z => ?_)
          have := rd_rep z
          rw [Int.toNat_of_nonneg hb.2] at this
          exact this
        · cases h
      · cases hk
    · cases hk
  split at h
  · rename_i op ta tb ho ha hb
    cases h
    have k1 := (S.e X rs sc a ta F hs ha).1
    have k2 := (S.e X rs sc b tb F hs hb).1
    have := pe_op (pos := p) (op_all (X := X) op) k1 k2
    rw [opS_of ho] at this
    have h1 : PE X (.BinOp a o b p) (rdE X.K C (.op op ta tb)) := PE.imp this fun σ H Q z => rd_op z
    refine ⟨h1, pt_plain rfl h1, fun hn => ?_⟩
    cases op <;> first | (cases hn; done) | skip
    have eo : o = .Add := by rw [← opS_of ho]; rfl
    subst eo
    exact PE.imp (pe_op (pos := p) op_catS k1 k2) fun σ H Q z => rdF_add z
  · cases h
theorem snd_un {n : Nat} (S : Snd c C n) {X : Cx} {rs : Option Scope} {sc : Scope} {a : Expr} {o : UnaryOp} {p : Pos} {t : Tm} (F : Fx c C X rs) (hs : X.env.scope = sc) (h : cUn (rc c n) sc o a = some t) : Three c C X (.UnaryOp o a p) t := by
  unfold cUn at h
  split at h
  · rename_i ta ha
    cases h
    obtain ⟨h1, h2, _⟩ := S.e X rs sc a ta F hs ha
    exact ⟨PE.imp (pe_not h1) fun σ H Q z => rd_not z, PT.imp (pt_not h2) fun σ H Q z => rt_not z, fun z => by cases z⟩
  · rename_i ta ha
    cases h
    exact comp3 rfl rfl (PE.imp (pe_un un_neg (S.e X rs sc a ta F hs ha).1) fun σ H Q z => rd_neg z)
  · cases h
theorem snd_if {n : Nat} (S : Snd c C n) {X : Cx} {rs : Option Scope} {sc : Scope} {d a b : Expr} {p : Pos} {t : Tm} (F : Fx c C X rs) (hs : X.env.scope = sc) (h : cIf (rc c n) sc d a b = some t) : Three c C X (.IfExp d a b p) t := by
  unfold cIf at h
  split at h
  · rename_i td ta tb hd ha hb
    cases h
    obtain ⟨a1, a2, _⟩ := S.e X rs sc a ta F hs ha
    obtain ⟨b1, b2, _⟩ := S.e X rs sc b tb F hs hb
    obtain ⟨_, d2, _⟩ := S.e X rs sc d td F hs hd
    exact ⟨PE.imp (pe_ifExp d2 a1 b1) fun σ H Q z => rd_ite z, PT.imp (pt_ite d2 a2 b2) fun σ H Q z => rt_ite z, fun z => by cases z⟩
  · cases h
theorem snd_cmp {n : Nat} (S : Snd c C n) {X : Cx} {rs : Option Scope} {sc : Scope} {a : Expr} {ops : List CmpOp} {bs : List Expr} {p : Pos} {t : Tm} (F : Fx c C X rs) (hs : X.env.scope = sc) (h : cCmp (rc c n) sc a ops bs = some t) : Three c C X (.Compare a ops bs p) t := by
  have hu : X.A.units + 65 < cLine := by have := F.un; omega
  unfold cCmp at h
  split at h
  · rename_i o b
    unfold cCmp1 at h
    split at h
    · cases h
    · rename_i hb0
      have hm : behindInMarks o b = false := notSet_marks (by simpa using hb0)
      split at h
      · rename_i op ta tb ho ha hb
        cases h
        have ho := cpS_of ho
        subst ho
        have h1 := (S.e X rs sc a ta F hs ha).1
        have h2 := (S.e X rs sc b tb F hs hb).1
        exact ⟨PE.imp (pe_cmpR (cp_all op hu) h1 h2 hm) fun σ H Q z => rd_cmp z, PT.imp (pt_cmpR (cp_all op hu) h1 h2 hm) (rd_test fun σ H Q z => rd_cmp z), fun z => by cases z⟩
      · cases h
  · rename_i o p' b d
    unfold cCmp2 at h
    split at h
    · cases h
    · rename_i hb0
      have hb0 : notSet b = true ∧ notSet d = true := by simpa using hb0
      have hm : lastMarks [o, p'] [b, d] = false := by
        show behindInMarks p' d = false
        exact notSet_marks hb0.2
      split at h
      · rename_i op op' ta tb td ho ho' ha hb hd
        cases h
        have ho := cpS_of ho
        have ho' := cpS_of ho'
        subst ho ho'
        have h1 := (S.e X rs sc a ta F hs ha).1
        have h2 := (S.e X rs sc b tb F hs hb).1
        have h3 := (S.e X rs sc d td F hs hd).1
        exact ⟨PE.imp (pe_chain (cp_all op hu) (cp_all op' hu) h1 h2 h3 hm) fun σ H Q z => rd_chain z, PT.imp (pt_chain (cp_all op hu) (cp_all op' hu) h1 h2 h3 hm) (rd_test fun σ H Q z => rd_chain z), fun z => by cases z⟩
      · cases h
  · cases h
theorem rd_rev {K : PySem.W.Frag} {a : Tm} {σ : L2.St} {H : Hp} {Q : VK} (h : rdE K C (.rev a) σ H Q) : tRevT K (rdE K C a) σ H Q := by
  obtain ⟨G, da, S, r, d, S', R, E, e, q⟩ := h
  simp only [sem] at e
  split at e
  · rename_i x S1 ea
    split at e
    · rename_i xs hx
      cases e
      refine rd1 R E ea fun v H1 G1 da1 g1 R1 h1 => ?_
      obtain ⟨p, vs, rfl, k1, k2, k3⟩ := look_tup R1 h1 hx
      refine ⟨p, vs, rfl, k1, fun l hl => ?_⟩
      have en : Ends1 K G1 H1 da1 _ (.tup xs.reverse) Q := fun v' H' G' g' R' t' => q v' H' G' da1 (g1.trans g') R' t'
      exact en.tup R1 k3.reverse hl
    · cases e
  · cases e
theorem snd_sub {n : Nat} (S : Snd c C n) {X : Cx} {rs : Option Scope} {sc : Scope} {v i : Expr} {p : Pos} {t : Tm} (F : Fx c C X rs) (hs : X.env.scope = sc) (h : cSub (rc c n) sc v i = some t) : Three c C X (.Subscript v i p) t := by
  have hu : X.A.units + 1 < cLine := by have := F.un; omega
  unfold cSub at h
  split at h
  · obtain ⟨tv, hv, rfl⟩ := Option.map_eq_some_iff.mp h
    exact comp3 rfl rfl (PE.imp (pe_revT (S.e X rs sc v tv F hs hv).1) fun σ H Q z => rd_rev z)
  · rename_i lo hi p2
    unfold cSlc at h
    split at h
    · rename_i tv l u hv hl hh
      cases h
      exact comp3 rfl rfl (PE.imp (pe_slice (sl_list.or sl_tupA) (S.e X rs sc v tv F hs hv).1 (S.o X rs sc lo l F hs hl) (S.o X rs sc hi u F hs hh)) fun σ H Q z => rd_slc z)
    · cases h
  · rename_i es k0 p2
    split at h
    · rename_i tv ta hv ha
      cases h
      exact comp3 rfl rfl (PE.imp (pe_dget hu (S.e X rs sc v tv F hs hv).1 (pe_tup (S.a X rs sc es ta F hs ha).1) (notSlice_plain rfl)) fun σ H Q z => rd_ixt z)
    · cases h
  · unfold cIx at h
    split at h
    · cases h
    · rename_i hn
      have hn : PlainIx i := notSlice_plain (by simpa using hn)
      split at h
      · rename_i tv ti hv hi
        cases h
        have h1 := (S.e X rs sc v tv F hs hv).1
        have h2 := (S.e X rs sc i ti F hs hi).1
        exact comp3 rfl rfl (PE.imp (PE.or (pe_ix ix_seq h1 h2 hn) (pe_dget hu h1 h2 hn)) fun σ H Q z => rd_ix z)
      · cases h
/-- what is known of the bodies of lambdas -/
def SndL (c : CC) (C : Call) (n : Nat) : Prop := ∀ (X : Cx) (E : XK) (sc : Scope) (ex : Expr) (t : Tm), X.env.scope = sc → Fb c C X.nox (some sc) → Rx c C X E → comp c.nolam n sc ex = some t → PE X ex (rdE X.K C t) ∧ PE X ex (fun σ H _ => rxE X.K c.ct C t E σ H)
/-- the calls of defs -/
theorem snd_def {n : Nat} (S : Snd c C n) {X : Cx} {rs : Option Scope} {sc : Scope} {f : Str} {fp p : Pos} {args : List Expr} {kws : List Keyword} {k : Nat} {d : DefI} {t : Tm} (F : Fx c C X rs) (hs : X.env.scope = sc) (hsu : c.su = false) (hg0 : glB sc f = true ∧ okName f = true) (hd : findDef c.tab f = some (k, d)) (h : cDef (rc c n) sc k d args kws = some t) : PE X (.Call (.Name f fp) args kws p) (rdE X.K C t) ∧ newN t = false := by
  have hg : Gl X f := gl_ok hs hg0.1
  unfold cDef at h
  split at h
  · cases h
  · rename_i ks hk
    split at h
    · cases h
    · rename_i pt hp
      split at h
      · rename_i a b ha hb
        cases h
        obtain ⟨a1, a2, a3, a4⟩ := S.f X rs sc args a F hs ha
        obtain ⟨b1, b2⟩ := S.k X rs sc kws b F hs hb
        have hpp := List.find?_some hp
        rw [Bool.and_eq_true] at hpp
        have e1 : pt.n = args.length := of_decide_eq_true hpp.1
        have e2 : pt.ks = ks := of_decide_eq_true hpp.2
        subst e2
        exact ⟨pe_callG hg F.guards (F.defs hsu f k d hd) a2 hk (List.mem_of_find?_eq_some hp) e1 a4 a1 a3 b2 b1 (name_ok hg0.2).1, rfl⟩
      · cases h
theorem snd_call {n : Nat} (Z : Srt) (S : Snd c C n) (SL : c.hr = [] ∨ SndL c C n) {X : Cx} {rs : Option Scope} {sc : Scope} {f : Str} {fp p : Pos} {args : List Expr} {kws : List Keyword} {t : Tm} (F : Fx c C X rs) (hs : X.env.scope = sc) (h : cCall c (rc c n) (rc c.nolam n) sc f args kws = some t) : Three c C X (.Call (.Name f fp) args kws p) t := by
  unfold cCall at h
  split at h
  · cases h
  · rename_i hg0
    have hg0 : glB sc f = true ∧ okName f = true := by simpa using hg0
    have hg : Gl X f := gl_ok hs hg0.1
    split at h
    · rename_i k d hd
      split at h
      · cases h
      · rename_i hsu
        obtain ⟨h1, h2⟩ := snd_def S F hs (by simpa using hsu) hg0 hd h
        exact comp3 rfl h2 h1
    · split at h
      · cases h
      split at h
      · rename_i hsu
        split at h
        · rename_i hf
          subst hf
          unfold cIsx at h
          split at h
          · rename_i x q tn tp
            split at h
            · rename_i hb
              simp only [Bool.and_eq_true, decide_eq_true_eq] at hb
              split at h
              · rename_i i j hi hj
                cases h
                exact comp3 rfl rfl (F.isx hsu x tn i j fp q tp p hb.1.1 hi (by rw [hs]; exact vis_ok hb.1.2) (gl_ok hs hb.2) hg hj)
              · cases h
            · cases h
          · cases h
        · cases h
      rename_i hsu
      have hsu : c.su = false := by simpa using hsu
      cases hl : cLam c (rc c.nolam n) sc f args with
      | some t' =>
        rw [hl] at h
        cases h
        unfold cLam at hl
        split at hl
        · rename_i params body scope lp
          split at hl
          · rename_i hh told nn q e1 e2
            split at hl
            · rename_i hb
              simp only [Bool.and_eq_true] at hb
              obtain ⟨b, hbd, rfl⟩ := Option.map_eq_some_iff.mp hl
              rcases SL with SL | SL
              · rw [SL] at e1; cases e1
              · refine comp3 rfl rfl (F.lam hsu f hh told nn q e1 e2 hg hg0.2 params body scope lp fp p b hb.1.1.2 (by rw [hs]; exact hb.1.2) hb.2 fun X' E ek es Fb' rx => ?_)
                obtain ⟨h1, h2⟩ := SL X' E scope body b es Fb' rx hbd
                rw [ek] at h1 h2
                exact ⟨h1, h2⟩
            · cases hl
          · cases hl
        · cases hl
      | none =>
        rw [hl] at h
        replace h : cBlt (rc c n) sc f args = some t := h
        have prim : cPrim (rc c n) sc f args = some t → Three c C X (.Call (.Name f fp) args [] p) t := by
          intro h
          unfold cPrim at h
          split at h
          · cases h
          · rename_i e es
            split at h
            · rename_i pr a hpr ha
              cases h
              obtain ⟨a1, a2, a3, a4⟩ := S.a X rs sc _ a F hs ha
              obtain ⟨h1, h2⟩ := pe_prim (p := fp) (pos := p) Z F hsu hpr hg a1 a2
              exact ⟨h1, pt_plain rfl h1, h2⟩
            · cases h
        unfold cBlt at h
        split at h
        · rename_i hf
          subst hf
          unfold cIsi at h
          split at h
          · rename_i e tn tp
            split at h
            · rename_i hb
              rw [Bool.and_eq_true] at hb
              split at h
              · rename_i ty te hty he
                cases h
                obtain ⟨t1, t2, t3, t4⟩ := tyOf_some hty
                have h1 := (S.e X rs sc e te F hs he).1
                have h2 : PE X (.Name tn tp) (tC (.ty (tyStr ty))) := pe_bltn (gl_ok hs hb.1) (F.blt tn t1) t2 rfl t3 t4
                have pa : PA X [e, .Name tn tp] (tCons (rdE X.K C te) (tCons (tC (.ty (tyStr ty))) tNil)) := pa_cons h1 (pa_cons h2 pa_nil) (star_one hb.2)
                refine comp3 rfl rfl (PE.imp (pe_callB call_isi hg (blt_ok F (by decide)) (by decide +kernel) pa (by decide) (by decide) (star_one hb.2) rfl) fun σ H Q z => rd_isi z)
              · cases h
            · cases h
          · cases h
        · split at h
          · rename_i hf
            subst hf
            split at h
            · rename_i e hse
              unfold isSetCall at hse
              split at hse
              · rename_i g gp e' cp
                split at hse
                · rename_i hge
                  subst hge
                  cases hse
                  unfold cSS at h
                  split at h
                  · rename_i hb
                    rw [Bool.and_eq_true] at hb
                    obtain ⟨te, he, rfl⟩ := Option.map_eq_some_iff.mp h
                    exact comp3n rfl rfl (Z.set X C e te fp gp p cp (F.calm hsu) F.guards F.un hg (gl_ok hs hb.1) (blt_ok F (by decide)) (blt_ok F (by decide)) hb.2 (S.e X rs sc e te F hs he).1)
                  · cases h
                · cases hse
              · cases hse
            · exact prim h
          · exact prim h
theorem blk_scope {X : Cx} {sc scope : Scope} (hs : X.env.scope = sc) (cl : List (Str × Addr)) (A : Addr) : (compEnvC scope cl A X.env).scope = relS scope sc := by
  subst hs; rfl
theorem snd_lc {n : Nat} (S : Snd c.nolam C n) {X : Cx} {rs : Option Scope} {sc scope : Scope} {elt : Expr} {gens : List Comprehension} {p : Pos} {t : Tm} (F : Fx c C X rs) (hs : X.env.scope = sc) (h : cLc c n (rc c.nolam n) sc scope elt gens = some t) : Three c C X (.ListComp elt gens scope p) t := by
  unfold cLc at h
  split at h
  · rename_i tg iter ifs
    unfold cLc1 at h
    split at h
    · cases h
    · rename_i hb
      have hb : (c.su = false ∧ notSet iter = true) ∧ blkC c.N sc scope (ownOf c scope) = true := by simpa using hb
      split at h
      · rename_i it g tt te hi hg ht he
        split at h
        · rename_i hsl
          cases h
          have ok : BlkOk X.N X.env.scope scope (ownOf c scope) := by rw [F.N, hs]; exact blkOk_by hb.2
          have sl : ∀ i ∈ slots g, i ∈ (ownOf c scope).map (·.2) := fun i hi => of_decide_eq_true (List.all_eq_true.mp hsl i hi)
          refine comp3n rfl rfl (PE.imp (pe_lc (F.calm hb.1.1) (by rw [F.N]; exact F.nd) (S.i X rs sc tg iter it F.toFb.nolam hs hi) ok (fun s H A cl fp => ?_) (fun s H A cl fp => ?_) (fun s H A cl fp => ?_) (notSet_fold hb.1.2)) fun σ H Q z => rdF_lc sl z)
          · exact (snd_g n).1 _ (some scope) _ tg g (F.toFb.blk hb.1.1 s H scope _ fp) (blk_scope hs cl A) hg
          · exact S.ts _ (some scope) _ ifs tt (F.toFb.blk hb.1.1 s H scope _ fp).nolam (blk_scope hs cl A) ht
          · exact (S.e _ (some scope) _ elt te (F.toFb.blk hb.1.1 s H scope _ fp).nolam (blk_scope hs cl A) he).1
        · cases h
      · cases h
  · rename_i tg iter ifs tg' iter' ifs'
    unfold cLc2 at h
    split at h
    · cases h
    · rename_i hb
      have hb : ((c.su = false ∧ notSet iter = true) ∧ notSet iter' = true) ∧ blkC c.N sc scope (ownOf c scope) = true := by simpa using hb
      split at h
      · rename_i it g tt it' g' tt' te hi hg ht hi' hg' ht' he
        split at h
        · rename_i hsl
          cases h
          rw [Bool.and_eq_true] at hsl
          have ok : BlkOk X.N X.env.scope scope (ownOf c scope) := by rw [F.N, hs]; exact blkOk_by hb.2
          have sl : ∀ i ∈ slots g, i ∈ (ownOf c scope).map (·.2) := fun i hi => of_decide_eq_true (List.all_eq_true.mp hsl.1 i hi)
          have sl' : ∀ i ∈ slots g', i ∈ (ownOf c scope).map (·.2) := fun i hi => of_decide_eq_true (List.all_eq_true.mp hsl.2 i hi)
          refine comp3n rfl rfl (PE.imp (pe_lc2 (F.calm hb.1.1.1) (by rw [F.N]; exact F.nd) (S.i X rs sc tg iter it F.toFb.nolam hs hi) ok sl' (fun s H A cl fp => ?_) (fun s H A cl fp => ?_) (fun s H A cl fp => ?_) (fun s H A cl fp => ?_) (fun s H A cl fp => ?_) (fun s H A cl fp => ?_) (notSet_fold hb.1.1.2) (fun env => notSet_fold hb.1.2)) fun σ H Q z => rdF_lcc sl (fun i hi => hi) z)
          · exact (snd_g n).1 _ (some scope) _ tg g (F.toFb.blk hb.1.1.1 s H scope _ fp) (blk_scope hs cl A) hg
          · exact S.ts _ (some scope) _ ifs tt (F.toFb.blk hb.1.1.1 s H scope _ fp).nolam (blk_scope hs cl A) ht
          · exact S.i _ (some scope) _ tg' iter' it' (F.toFb.blk hb.1.1.1 s H scope _ fp).nolam (blk_scope hs cl A) hi'
          · exact (snd_g n).1 _ (some scope) _ tg' g' (F.toFb.blk hb.1.1.1 s H scope _ fp) (blk_scope hs cl A) hg'
          · exact S.ts _ (some scope) _ ifs' tt' (F.toFb.blk hb.1.1.1 s H scope _ fp).nolam (blk_scope hs cl A) ht'
          · exact (S.e _ (some scope) _ elt te (F.toFb.blk hb.1.1.1 s H scope _ fp).nolam (blk_scope hs cl A) he).1
        · cases h
      · cases h
  · cases h
theorem snd_dct {n : Nat} (S : ∀ m, m < n → Snd c C m) {X : Cx} {rs : Option Scope} {sc : Scope} {keys : List (Option Expr)} {values : List Expr} {p : Pos} {t : Tm} (F : Fx c C X rs) (hs : X.env.scope = sc) (h : cDct (rc c n) sc keys values = some t) : Three c C X (.Dict keys values p) t := by
  unfold cDct at h
  split at h
  · rename_i hemp
    cases h
    simp only [Bool.and_eq_true, List.isEmpty_iff] at hemp
    obtain ⟨rfl, rfl⟩ := hemp
    exact comp3 rfl rfl (PE.imp pe_dnewT fun σ H Q z => rd_dnt z)
  split at h
  · rename_i ks a hk ha
    split at h
    · rename_i hb
      cases h
      simp only [Bool.and_eq_true, decide_eq_true_eq] at hb
      obtain ⟨⟨⟨b1, b2⟩, b3⟩, b4⟩ := hb
      obtain ⟨k1, k2, k3, k4⟩ := strKeys_pps (pos := p) S F hs hk ha b1
      refine comp3 rfl rfl (PE.imp (pe_disp k1 k2 k3 (by rintro rfl; simp at k3; omega) (by omega)) fun σ H Q z => rd_dct k4 b4 b3 z)
    · cases h
  · cases h
theorem name_pe {X : Cx} {rs : Option Scope} {sc : Scope} {x : Str} {i : Nat} {px : Pos} (F : Fx c C X rs) (hs : X.env.scope = sc) (hi : slotOf c x = some i) (hv : Vis sc x) (ho : okName x = true) : PE X (.Name x px) (tVar i) := by
  obtain ⟨o1, o2⟩ := name_ok ho
  exact pe_var (by rw [F.N]; exact slot_ok hi) (by rw [hs]; exact hv) o1 o2
theorem few_1 {a : Expr} {env : Env} {cp : Pos} (h : plainE a = true) : ((backTo cp (starEach [a] env)).all (fun x => !x.1) && (backToKw cp (keywordEach [] env)).all (fun x => x.1.isSome)
      && decide (([a] : List Expr).length + ([] : List Keyword).length + (if ([] : List Keyword).isEmpty then 0 else 1) < 30)) = true := by
  rw [star_all (by simpa using h)]
  rfl
theorem snd_cmeth {n : Nat} (S : Snd c C n) {X : Cx} {rs : Option Scope} {sc : Scope} {o : Expr} {m : Str} {ap cp : Pos} {args : List Expr} {kws : List Keyword} {t : Tm} (F : Fx c C X rs) (hs : X.env.scope = sc) (h : cMeth c (rc c n) sc o m ap args kws cp = some t) : Three c C X (.Call (.Attribute o m ap) args kws cp) t := by
  unfold cMeth at h
  split at h
  · rename_i x px
    split at h
    · cases h
    · rename_i hb
      have hb : (visB sc x = true ∧ okName x = true) ∧ (ap.endLine == cp.line) = true := by simpa using hb
      split at h
      · cases h
      · rename_i i hi
        have h1 : PE X (.Name x px) (rdE X.K C (.var i)) := PE.imp (name_pe F hs hi (vis_ok hb.1.1) hb.1.2) fun σ H Q z => rd_var z
        split at h
        · split at h
          · rename_i hm
            subst hm
            cases h
            exact comp3 rfl rfl (PE.imp (pe_bm0 PySem.F.plainAttrs_list PySem.F.slot_list_pop PySem.F.type_list_pop (fun pins s σ H x xs v us Q I r1 r2 q => mt_pop pins s σ H x xs v us Q I r1 r2 q) h1 rfl hb.2) fun σ H Q z => rd_popl z)
          · cases h
        · rename_i a
          split at h
          · rename_i hm
            rw [Bool.and_eq_true, decide_eq_true_eq] at hm
            obtain ⟨rfl, hp⟩ := hm
            obtain ⟨ta, hta, rfl⟩ := Option.map_eq_some_iff.mp h
            exact comp3 rfl rfl (PE.imp (pe_bm PySem.F.plainAttrs_list PySem.F.slot_list_count PySem.F.type_list_count mt_scount h1 (pa_cons (S.e X rs sc a ta F hs hta).1 pa_nil (star_one hp)) rfl (few_1 hp) hb.2 (star_one hp) rfl) fun σ H Q z => rd_cnt z)
          · cases h
        · rename_i a b
          split at h
          · rename_i hm
            simp only [Bool.and_eq_true, decide_eq_true_eq] at hm
            obtain ⟨⟨rfl, hp⟩, he⟩ := hm
            obtain ⟨ta, hta, rfl⟩ := Option.map_eq_some_iff.mp h
            unfold emptyL at he
            split at he
            · rename_i lp
              have hst : starEach [a, Expr.List [] lp] X.env = [(false, eval a X.env), (false, eval (Expr.List [] lp) X.env)] := (star_one hp).trans rfl
              exact comp3 rfl rfl (PE.imp (pe_dget2 (by have := F.un; omega) h1 (S.e X rs sc a ta F hs hta).1 (pe_lst pa_nil) ⟨rfl, by rw [hst]; rfl, hb.2, by rw [hst]; rfl⟩) fun σ H Q z => rd_gett z)
            · cases he
          · cases h
        · cases h
  · cases h
theorem snd_e {n : Nat} (Z : Srt) (S' : ∀ m, m < n + 1 → Snd c C m) (S0 : Snd c.nolam C n) (SL : c.hr = [] ∨ SndL c C n) (X : Cx) (rs : Option Scope) (sc : Scope) (ex : Expr) (t : Tm) (F : Fx c C X rs) (hs : X.env.scope = sc) (h : stepE c n (rc c n) (rc c.nolam n) sc ex = some t) : Three c C X ex t := by
  have S := S' n (Nat.lt_succ_self n)
  unfold stepE at h
  split at h
  · obtain ⟨h1, h2⟩ := snd_name (C := C) F hs h
    exact comp3 rfl h2 h1
  · obtain ⟨h1, h2⟩ := snd_const (C := C) h
    exact comp3 rfl h2 h1
  · exact snd_bin S F hs h
  · exact snd_un S F hs h
  · split at h
    · obtain ⟨h1, h2, h3⟩ := S.b X rs sc _ _ _ t F hs h
      exact ⟨h1, h2.pt, h3⟩
    · cases h
  · exact snd_if S F hs h
  · exact snd_cmp S F hs h
  · obtain ⟨a, ha, rfl⟩ := Option.map_eq_some_iff.mp h
    exact comp3 rfl rfl (PE.imp (pe_tup (S.d X rs sc _ a F hs ha)) fun σ H Q z => rd_tup z)
  · obtain ⟨a, ha, rfl⟩ := Option.map_eq_some_iff.mp h
    exact comp3n rfl rfl (PE.imp (pe_lst (S.d X rs sc _ a F hs ha)) fun σ H Q z => rdF_lst z)
  · exact snd_sub S F hs h
  · split at h
    · exact snd_call Z S SL F hs h
    · exact snd_cmeth S F hs h
    · cases h
  · exact snd_lc S0 F hs h
  · split at h
    · rename_i x q
      split at h
      · rename_i hb
        simp only [Bool.and_eq_true, decide_eq_true_eq] at hb
        obtain ⟨i, hi, rfl⟩ := Option.map_eq_some_iff.mp h
        obtain ⟨⟨hsu, rfl⟩, hv⟩ := hb
        exact comp3 rfl rfl (F.fld hsu _ i q _ hi (by rw [hs]; exact vis_ok hv))
      · cases h
    · cases h
  · exact snd_dct (fun m hm => S' m (Nat.lt_succ_of_lt hm)) F hs h
  · cases h
theorem snd_gen (Z : Srt) (L : ∀ n, Snd c.nolam C n ∧ (c.hr = [] ∨ SndL c C n)) : ∀ n, Snd c C n := by
  intro n
  induction n using Nat.strongRecOn with
  | _ n ih =>
    cases n with
    | zero => exact ⟨fun _ _ _ _ _ _ _ h => (by cases h), fun _ _ _ _ _ _ _ _ _ h => (by cases h), fun _ _ _ _ _ _ _ h => (by cases h), fun _ _ _ _ _ _ _ h => (by cases h), fun _ _ _ _ _ _ _ h => (by cases h), fun _ _ _ _ _ _ _ h => (by cases h), fun _ _ _ _ _ _ _ _ h => (by cases h), fun _ _ _ _ _ _ _ h => (by cases h), fun _ _ _ _ _ _ _ h => (by cases h)⟩
    | succ n =>
      have S := ih n (Nat.lt_succ_self n)
      exact ⟨snd_e Z ih (L n).1 (L n).2, snd_b S, snd_a S, snd_k S, snd_o S, snd_ts S, snd_i S, snd_d S, snd_f S⟩
/-- without lambdas -/
theorem snd_all0 (Z : Srt) (h : c.nolam = c) : ∀ n, Snd c C n := by
  have hr : c.hr = [] := by rw [← h]; rfl
  intro n
  induction n using Nat.strongRecOn with
  | _ n ih =>
    cases n with
    | zero => exact ⟨fun _ _ _ _ _ _ _ h => (by cases h), fun _ _ _ _ _ _ _ _ _ h => (by cases h), fun _ _ _ _ _ _ _ h => (by cases h), fun _ _ _ _ _ _ _ h => (by cases h), fun _ _ _ _ _ _ _ h => (by cases h), fun _ _ _ _ _ _ _ h => (by cases h), fun _ _ _ _ _ _ _ _ h => (by cases h), fun _ _ _ _ _ _ _ h => (by cases h), fun _ _ _ _ _ _ _ h => (by cases h)⟩
    | succ n =>
      have S := ih n (Nat.lt_succ_self n)
      exact ⟨snd_e Z ih (by rw [h]; exact S) (.inl hr), snd_b S, snd_a S, snd_k S, snd_o S, snd_ts S, snd_i S, snd_d S, snd_f S⟩
end
end AOne
end

section
set_option Elab.async false
set_option linter.all false
set_option maxRecDepth 100000
set_option maxHeartbeats 4000000
set_option autoImplicit false
/-! A15: the compiler is sound: statements. -/
namespace AOne
open PySem PySem.Spec L2

section
variable {c : CC} {C : Call}
theorem swaps_plain {v : Expr} {tg : Option Expr} {l : Nat} {env : Env} (h : notComp v = true) : swapsWith v tg l env = pure false := by
  cases v <;> first | rfl | cases h
/-- all texts of the compiler are read rightly -/
structure SA (c : CC) (C : Call) : Prop where
  all : ∀ n, Snd c C n
  lc : ∀ n, Snd c.nolam C n
theorem fresh_new {t : Tm} (h : freshE t = true) : newN t = true := by
  cases t <;> first | rfl | (simp [freshE] at h; done) | (rename_i p a b; cases p <;> first | rfl | (simp [freshE] at h; done)) | (rename_i p a; cases p <;> first | rfl | (simp [freshE] at h; done))
theorem frz1_new {t : Tm} (h : newE t = true) : frz1 c t = t := by
  cases t <;> first | rfl | cases h
theorem snd_wrap {X : Cx} {e : Expr} {t u : Tm} {i : Nat} (h : Three c C X e t) (hw : wrapM c i t = some u) : PE X e (rdE X.K C u) := by
  unfold wrapM at hw
  split at hw
  · split at hw
    · rename_i hf
      cases hw
      exact PE.imp (h.2.2 (fresh_new hf)) fun σ H Q z => rd_fresh z
    · cases hw
  · cases hw
    unfold frz1
    split
    · split
      · exact PE.imp h.1 fun σ H Q z => rd_frz z
      · exact h.1
    · exact h.1
/-- name = [..] where the stores are exchanged -/
theorem snd_lcS {n : Nat} (S : Snd c.nolam C n) {X : Cx} {rs : Option Scope} {sc scope : Scope} {elt : Expr} {gens : List Comprehension} {p py spos : Pos} {t u : Tm} {y : Str} {i j : Nat} (F : Fx c C X rs) (hs : X.env.scope = sc) (h : cLc c n (rc c.nolam n) sc scope elt gens = some t) (hw : wrapM c j t = some u)
    (hi : c.N[i]? = some y) (hy : sc.names.lookup y = some .local) (hsw : swapsWith (.ListComp elt gens scope p) (some (.Name y py)) spos.line X.env = pure true) : PS X (.Assign [.Name y py] (.ListComp elt gens scope p) spos) (tAsg (rdE X.K C u) (gName i)) := by
  have fin : ∀ {t : Tm} {te : TE}, newE t = true → (∀ σ H Q, rdF X.K C t σ H Q → te σ H Q) → wrapM c j t = some u → PS X (.Assign [.Name y py] (.ListComp elt gens scope p) spos) (tAsg te (gName i)) → PS X (.Assign [.Name y py] (.ListComp elt gens scope p) spos) (tAsg (rdE X.K C u) (gName i)) := by
    intro t te hn hr hw hp
    refine PS.imp hp fun Z σ H z => hr _ _ _ ?_
    unfold wrapM at hw
    split at hw
    · split at hw
      · cases hw
        exact rd_fresh z
      · cases hw
    · rw [frz1_new hn] at hw
      cases hw
      exact rdF_E (new_lst hn) _ _ _ z
  have hN : X.N[i]? = some y := by rw [F.N]; exact hi
  have hl : X.env.scope.names.lookup y = some .local := by rw [hs]; exact hy
  unfold cLc at h
  split at h
  · rename_i tg iter ifs
    unfold cLc1 at h
    split at h
    · cases h
    · rename_i hb
      have hb : (c.su = false ∧ notSet iter = true) ∧ blkC c.N sc scope (ownOf c scope) = true := by simpa using hb
      split at h
      · rename_i it g tt te hi' hg ht he
        split at h
        · rename_i hsl
          cases h
          have ok : BlkOk X.N X.env.scope scope (ownOf c scope) := by rw [F.N, hs]; exact blkOk_by hb.2
          have sl : ∀ i ∈ slots g, i ∈ (ownOf c scope).map (·.2) := fun i hi => of_decide_eq_true (List.all_eq_true.mp hsl i hi)
          refine fin rfl (fun σ H Q z => rdF_lc sl z) hw (ps_setLc (F.calm hb.1.1) (by rw [F.N]; exact F.nd) hN hl hsw (S.i X rs sc tg iter it F.toFb.nolam hs hi') ok (fun s H A cl fp => ?_) (fun s H A cl fp => ?_) (fun s H A cl fp => ?_) (notSet_fold hb.1.2))
          · exact (snd_g n).1 _ (some scope) _ tg g (F.toFb.blk hb.1.1 s H scope _ fp) (blk_scope hs cl A) hg
          · exact S.ts _ (some scope) _ ifs tt (F.toFb.blk hb.1.1 s H scope _ fp).nolam (blk_scope hs cl A) ht
          · exact (S.e _ (some scope) _ elt te (F.toFb.blk hb.1.1 s H scope _ fp).nolam (blk_scope hs cl A) he).1
        · cases h
      · cases h
  · rename_i tg iter ifs tg' iter' ifs'
    unfold cLc2 at h
    split at h
    · cases h
    · rename_i hb
      have hb : ((c.su = false ∧ notSet iter = true) ∧ notSet iter' = true) ∧ blkC c.N sc scope (ownOf c scope) = true := by simpa using hb
      split at h
      · rename_i it g tt it' g' tt' te hi0 hg ht hi' hg' ht' he
        split at h
        · rename_i hsl
          cases h
          rw [Bool.and_eq_true] at hsl
          have ok : BlkOk X.N X.env.scope scope (ownOf c scope) := by rw [F.N, hs]; exact blkOk_by hb.2
          have sl : ∀ i ∈ slots g, i ∈ (ownOf c scope).map (·.2) := fun i hi => of_decide_eq_true (List.all_eq_true.mp hsl.1 i hi)
          have sl' : ∀ i ∈ slots g', i ∈ (ownOf c scope).map (·.2) := fun i hi => of_decide_eq_true (List.all_eq_true.mp hsl.2 i hi)
          refine fin rfl (fun σ H Q z => rdF_lcc sl (fun i hi => hi) z) hw (ps_setLc2 (F.calm hb.1.1.1) (by rw [F.N]; exact F.nd) hN hl hsw (S.i X rs sc tg iter it F.toFb.nolam hs hi0) ok sl' (fun s H A cl fp => ?_) (fun s H A cl fp => ?_) (fun s H A cl fp => ?_) (fun s H A cl fp => ?_) (fun s H A cl fp => ?_) (fun s H A cl fp => ?_) (notSet_fold hb.1.1.2) (fun env => notSet_fold hb.1.2))
          · exact (snd_g n).1 _ (some scope) _ tg g (F.toFb.blk hb.1.1.1 s H scope _ fp) (blk_scope hs cl A) hg
          · exact S.ts _ (some scope) _ ifs tt (F.toFb.blk hb.1.1.1 s H scope _ fp).nolam (blk_scope hs cl A) ht
          · exact S.i _ (some scope) _ tg' iter' it' (F.toFb.blk hb.1.1.1 s H scope _ fp).nolam (blk_scope hs cl A) hi'
          · exact (snd_g n).1 _ (some scope) _ tg' g' (F.toFb.blk hb.1.1.1 s H scope _ fp) (blk_scope hs cl A) hg'
          · exact S.ts _ (some scope) _ ifs' tt' (F.toFb.blk hb.1.1.1 s H scope _ fp).nolam (blk_scope hs cl A) ht'
          · exact (S.e _ (some scope) _ elt te (F.toFb.blk hb.1.1.1 s H scope _ fp).nolam (blk_scope hs cl A) he).1
        · cases h
      · cases h
  · cases h
theorem snd_setN (Z : SA c C) {n : Nat} {X : Cx} {sc : Scope} {x : Str} {v : Expr} {px pos : Pos} {s : Sm} (F : Fx c C X none) (hs : X.env.scope = sc) (h : cSetN c n sc x v = some s) : PS X (.Assign [.Name x px] v pos) (rdS X.K C s) := by
  unfold cSetN at h
  split at h
  · cases h
  · rename_i hl0
    have hl : Loc sc x := loc_ok (by simpa using hl0)
    split at h
    · rename_i i t hi ht
      obtain ⟨u, hu, rfl⟩ := Option.map_eq_some_iff.mp h
      have S := Z.all n
      have T := S.e X none sc v t F hs ht
      have hN : X.N[i]? = some x := by rw [F.N]; exact slot_ok hi
      have hL : Loc X.env.scope x := by rw [hs]; exact hl
      have hf : X.fn x = true ∨ X.env.scope.names.lookup x = some .local := .inl (F.fn0 rfl x)
      have key : PS X (.Assign [.Name x px] v pos) (tAsg (rdE X.K C u) (gName i)) := by
        have plain : swapsWith v (some (.Name x px)) pos.line X.env = pure false → PS X (.Assign [.Name x px] v pos) (tAsg (rdE X.K C u) (gName i)) := fun hsw => ps_set (by rw [F.N]; exact F.nd) hN hL (snd_wrap T hu) hsw hf
        by_cases hc : notComp v = true
        · exact plain (swaps_plain hc)
        · cases v <;> try (exact absurd rfl hc)
          · rename_i elt gens scope p
            generalize hb : (X.env.blockKind == .function && X.env.kindOf x == some .local && px.line == (Expr.ListComp elt gens scope p).pos.line && !(scope.names.any fun (n, k) => n == x && (k == .local || k == .cell))) = b
            have hsw : swapsWith (.ListComp elt gens scope p) (some (.Name x px)) pos.line X.env = pure b := by rw [← hb]; rfl
            cases b with
            | false => exact plain hsw
            | true =>
              cases n with
              | zero => cases ht
              | succ n =>
                have ht : cLc c n (rc c.nolam n) sc scope elt gens = some t := ht
                have hy : sc.names.lookup x = some .local := by
                  simp only [Bool.and_eq_true] at hb
                  have := hb.1.1.2
                  rw [← hs]
                  simpa [Env.kindOf] using this
                exact snd_lcS (Z.lc n) F hs ht hu (slot_ok hi) hy hsw
          · cases n with
            | zero => cases ht
            | succ n => cases ht
          · cases n with
            | zero => cases ht
            | succ n => cases ht
      exact PS.imp key fun Z σ H z => by
        have z := rs_asg z
        obtain ⟨G, da, S, r, d, S', R, E, e, q⟩ := z
        exact ⟨G, da, S, r, d, S', R, E, e, fun v H' G' da' g R' h' => rg_name (q v H' G' da' g R' h')⟩
    · cases h
theorem snd_ann (Z : SA c C) {n : Nat} {X : Cx} {sc : Scope} {x : Str} {v ann : Expr} {px pos : Pos} {simple : Int} {s : Sm} (F : Fx c C X none) (hs : X.env.scope = sc) (hc : notComp v = true) (h : cSetN c n sc x v = some s) : PS X (.AnnAssign (.Name x px) ann (some v) simple pos) (rdS X.K C s) := by
  unfold cSetN at h
  split at h
  · cases h
  · rename_i hl0
    have hl : Loc sc x := loc_ok (by simpa using hl0)
    split at h
    · rename_i i t hi ht
      obtain ⟨u, hu, rfl⟩ := Option.map_eq_some_iff.mp h
      have S := Z.all n
      have T := S.e X none sc v t F hs ht
      have hN : X.N[i]? = some x := by rw [F.N]; exact slot_ok hi
      have hL : Loc X.env.scope x := by rw [hs]; exact hl
      have hf : X.fn x = true ∨ X.env.scope.names.lookup x = some .local := .inl (F.fn0 rfl x)
      have key : PS X (.AnnAssign (.Name x px) ann (some v) simple pos) (tAsg (rdE X.K C u) (gName i)) := ps_ann (snd_wrap T hu) (pg_name (by rw [F.N]; exact F.nd) hN hL hf) (swaps_plain hc)
      exact PS.imp key fun Z σ H z => by
        have z := rs_asg z
        obtain ⟨G, da, S, r, d, S', R, E, e, q⟩ := z
        exact ⟨G, da, S, r, d, S', R, E, e, fun v H' G' da' g R' h' => rg_name (q v H' G' da' g R' h')⟩
    · cases h
/-! a, b = x, y -/
theorem names_of : ∀ {ts : List Expr} {xs : List Str}, namesOf ts = some xs → ∃ ps : List Pos, ts = List.zipWith (fun x p => Expr.Name x p) xs ps ∧ ps.length = xs.length
  | [], xs, h => by simp only [namesOf] at h; cases h; exact ⟨[], rfl, rfl⟩
  | e :: r, xs, h => by
    cases e <;> try (simp [namesOf] at h; done)
    rename_i x p
    simp only [namesOf] at h
    obtain ⟨ys, hy, rfl⟩ := Option.map_eq_some_iff.mp h
    obtain ⟨ps, e1, e2⟩ := names_of hy
    exact ⟨p :: ps, by simp [e1], by simp [e2]⟩
theorem kind_fun {X : Cx} {sc : Scope} (hs : X.env.scope = sc) (hk : sc.kind = .function) : (X.env.blockKind != .function) = false := by
  unfold Env.blockKind
  rw [hs, hk]
  rfl
theorem swap_ff {X : Cx} {sc : Scope} {ts vs : List Expr} {k k' : Nat} {p p' : Pos} (hs : X.env.scope = sc) (hk : sc.kind = .function) (h : swapB sc ts vs = some false) : swappedStores [.Tuple ts k p] (.Tuple vs k' p') X.env = pure none := by
  unfold swapB at h
  unfold swappedStores
  simp only [kind_fun hs hk, Bool.or_false]
  have ek : ∀ x, X.env.kindOf x = sc.names.lookup x := fun x => by unfold Env.kindOf; rw [hs]
  simp only [ek]
  split at h
  · rename_i c1
    exact if_pos c1
  · rename_i c1
    refine (if_neg c1).trans ?_
    split at h
    · rename_i c2
      exact if_pos c2
    · rename_i c2
      refine (if_neg c2).trans ?_
      dsimp only at h
      split at h
      · rename_i c3
        exact if_pos c3
      · rename_i c3
        refine (if_neg c3).trans ?_
        split at h
        · rename_i c4
          exact if_pos c4
        · split at h
          · cases h
          · cases h
theorem swap_tt {X : Cx} {sc : Scope} {ts vs : List Expr} {k k' : Nat} {p p' : Pos} (hs : X.env.scope = sc) (hk : sc.kind = .function) (h : swapB sc ts vs = some true) :
    ∃ names, swappedStores [.Tuple ts k p] (.Tuple vs k' p') X.env = pure (some names) ∧ (ts.length = 2 ∨ ts.length = 3) ∧ vs.length = ts.length ∧ names.length = ts.length ∧ names = ts.filterMap (fun
      | .Name id pos => if sc.names.lookup id == some .local && pos.line == (ts.head?.map (·.pos.line)).getD 0 then some id else none
      | _ => none) := by
  unfold swapB at h
  unfold swappedStores
  simp only [kind_fun hs hk, Bool.or_false]
  have ek : ∀ x, X.env.kindOf x = sc.names.lookup x := fun x => by unfold Env.kindOf; rw [hs]
  simp only [ek]
  split at h
  · cases h
  · rename_i c1
    split at h
    · cases h
    · rename_i c2
      dsimp only at h
      split at h
      · cases h
      · rename_i c3
        split at h
        · cases h
        · rename_i c4
          split at h
          · cases h
          · rename_i c5
            have c1' : (!(ts.length == 2 || ts.length == 3)) = false ∧ (vs.length != ts.length) = false := by
              cases z1 : (!(ts.length == 2 || ts.length == 3)) <;> cases z2 : (vs.length != ts.length) <;> first | exact ⟨rfl, rfl⟩ | exact absurd (by rw [z1, z2] <;> rfl) c1
            have c3' := fun z => c3 (by rw [Bool.or_eq_true]; exact .inl z)
            refine ⟨_, (if_neg c1).trans ((if_neg c2).trans ((if_neg c3).trans ((if_neg c4).trans (if_neg c5)))), ?_, by simpa using c1'.2, ?_, rfl⟩
            · by_cases h2 : ts.length = 2
              · exact .inl h2
              · right
                have := c1'.1
                simpa [h2] using this
            · exact Classical.not_not.mp fun z => c3' (bne_iff_ne.mpr z)
theorem wrap_pa (Z : SA c C) {n : Nat} {X : Cx} {sc : Scope} {rs : Option Scope} (F : Fx c C X rs) (hs : X.env.scope = sc) : ∀ {is : List Nat} {es : List Expr} {a : Tm}, compAM c n sc is es = some a → PA X es (rdA X.K C a) ∧ es.all plainE = true ∧ es.length = is.length
  | [], [], a, h => by
    simp only [compAM] at h
    cases h
    exact ⟨PA.imp pa_nil fun σ H Q z => ra_nil z, rfl, rfl⟩
  | i :: is, e :: es, a, h => by
    simp only [compAM] at h
    split at h
    · rename_i hp
      split at h
      · cases h
      · rename_i t ht
        split at h
        · rename_i u r hu hr
          cases h
          obtain ⟨h1, h2, h3⟩ := wrap_pa Z F hs hr
          refine ⟨PA.imp (pa_cons (snd_wrap ((Z.all n).e X rs sc e t F hs ht) hu) h1 (star_one hp)) fun σ H Q z => ra_cons z, by rw [List.all_cons, hp, h2]; rfl, by simp [h3]⟩
        · cases h
    · cases h
  | [], _ :: _, _, h => by simp [compAM] at h
  | _ :: _, [], _, h => by simp [compAM] at h
theorem mapM_slots : ∀ {xs : List Str} {is : List Nat}, xs.mapM (slotOf c) = some is → is.length = xs.length ∧ ∀ (k i : Nat), is[k]? = some i → ∃ x, xs[k]? = some x ∧ c.N[i]? = some x
  | [], is, h => by
    simp at h
    subst h
    exact ⟨rfl, fun k i hk => by simp at hk⟩
  | x :: xs, is, h => by
    rw [List.mapM_cons] at h
    cases hx : slotOf c x with
    | none => rw [hx] at h; simp at h
    | some i =>
      rw [hx] at h
      cases hr : xs.mapM (slotOf c) with
      | none => rw [hr] at h; simp at h
      | some js =>
        rw [hr] at h
        simp at h
        subst h
        obtain ⟨h1, h2⟩ := mapM_slots hr
        refine ⟨by simp [h1], fun k j hk => ?_⟩
        cases k with
        | zero => simp at hk; subst hk; exact ⟨x, rfl, slot_ok hx⟩
        | succ k =>
          obtain ⟨y, k1, k2⟩ := h2 k j (by simpa using hk)
          exact ⟨y, by simpa using k1, k2⟩
theorem pgs_names {X : Cx} {rs : Option Scope} (F : Fx c C X rs) (hr : rs = none) : ∀ {xs : List Str} {ps : List Pos} {is : List Nat}, xs.mapM (slotOf c) = some is → (∀ x ∈ xs, Loc X.env.scope x) → ps.length = xs.length → PGs X (List.zipWith (fun x p => Expr.Name x p) xs ps) (gNames is) ∧ (assignEach (List.zipWith (fun x p => Expr.Name x p) xs ps) X.env).length = is.length ∧ (assignEach (List.zipWith (fun x p => Expr.Name x p) xs ps) X.env).findIdx? (·.1) = none
  | [], [], is, h, _, _ => by
    simp at h
    subst h
    exact ⟨pgs_nil, rfl, rfl⟩
  | x :: xs, p :: ps, is, h, hl, hp => by
    rw [List.mapM_cons] at h
    cases hx : slotOf c x with
    | none => rw [hx] at h; simp at h
    | some i =>
      rw [hx] at h
      cases hr' : xs.mapM (slotOf c) with
      | none => rw [hr'] at h; simp at h
      | some js =>
        rw [hr'] at h
        simp at h
        subst h
        obtain ⟨h1, h2, h3⟩ := pgs_names F hr hr' (fun y hy => hl y (List.mem_cons_of_mem _ hy)) (by simpa using hp)
        refine ⟨pgs_cons (pg_name (by rw [F.N]; exact F.nd) (by rw [F.N]; exact slot_ok hx) (hl x List.mem_cons_self) (.inl (F.fn0 hr x))) h1, by simpa [assignEach] using h2, ?_⟩
        show List.findIdx? _ ((false, _) :: _) = none
        rw [List.findIdx?_cons]
        simp [h3]
  | [], _ :: _, _, _, _, h => by simp at h
  | _ :: _, [], _, _, _, h => by simp at h
theorem snd_par (Z : SA c C) {n : Nat} {X : Cx} {sc : Scope} {ts vs : List Expr} {k k' : Nat} {p p' pos : Pos} {s : Sm} (F : Fx c C X none) (hs : X.env.scope = sc) (hk : sc.kind = .function) (h : cPar c n sc ts vs = some s) : PS X (.Assign [.Tuple ts k p] (.Tuple vs k' p') pos) (rdS X.K C s) := by
  unfold cPar at h
  split at h
  · cases h
  · rename_i xs hxs
    split at h
    · cases h
    · rename_i is his
      split at h
      · cases h
      · rename_i hb
        simp only [Bool.not_eq_true', Bool.not_eq_false, Bool.and_eq_true, decide_eq_true_eq] at hb
        obtain ⟨⟨⟨hsu, hb1⟩, hb2⟩, hb3⟩ := hb
        have hl : ∀ x ∈ xs, Loc X.env.scope x := fun x hx => by rw [hs]; exact loc_ok (List.all_eq_true.mp hb1 x hx)
        obtain ⟨ps, rfl, hps⟩ := names_of hxs
        obtain ⟨m1, m2⟩ := mapM_slots his
        split at h
        · rename_i b a hsw ha
          cases h
          obtain ⟨pa, pp, pl⟩ := wrap_pa Z F hs ha
          cases b with
          | false =>
            obtain ⟨g1, g2, g3⟩ := pgs_names F rfl his hl hps
            exact PS.imp (ps_asg (pe_tup pa) (pg_tup (n := is.length) (F.calm hsu) g1 g2 g3) rfl (swap_ff hs hk hsw) rfl) fun Z σ H z => rs_parT hb3 z
          | true =>
            obtain ⟨names, w1, w2, w3, w4, w5⟩ := swap_tt (k := k) (k' := k') (p := p) (p' := p') hs hk hsw
            have lx : (List.zipWith (fun x p => Expr.Name x p) xs ps).length = xs.length := by simp [hps]
            rw [lx] at w2 w3 w4
            have hN : X.N.Nodup := by rw [F.N]; exact F.nd
            rcases w2 with w2 | w2
            · match xs, ps, is, vs, w2, hps, m1, w3 with
              | [x, y], [px, py], [i, j], [a1, a2], _, _, _, _ =>
                simp only [List.zipWith_cons_cons, List.zipWith_nil_left, List.filterMap_cons, List.filterMap_nil, List.head?_cons, Option.map_some, Option.getD_some] at w5 w1 ⊢
                have key : sc.names.lookup x = some .local ∧ sc.names.lookup y = some .local ∧ names = [x, y] := by
                  by_cases c1 : (sc.names.lookup x == some .local && px.line == (Expr.Name x px).pos.line) = true
                  · by_cases c2 : (sc.names.lookup y == some .local && py.line == (Expr.Name x px).pos.line) = true
                    · simp only [c1, c2, if_true] at w5
                      rw [Bool.and_eq_true] at c1 c2
                      exact ⟨by simpa using c1.1, by simpa using c2.1, w5⟩
                    · simp only [c1, c2] at w5; rw [w5] at w4; simp at w4
                  · by_cases c2 : (sc.names.lookup y == some .local && py.line == (Expr.Name x px).pos.line) = true
                    · simp only [c1, c2] at w5; rw [w5] at w4; simp at w4
                    · simp only [c1, c2] at w5; rw [w5] at w4; simp at w4
                obtain ⟨k1, k2, rfl⟩ := key
                obtain ⟨_, e1, hi⟩ := m2 0 i rfl
                obtain ⟨_, e2, hj⟩ := m2 1 j rfl
                cases e1; cases e2
                have hij : i ≠ j := by rintro rfl; simp at hb2
                refine PS.imp (ps_par (F.calm hsu) hN (by rw [F.N]; exact hi) (by rw [F.N]; exact hj) hij (by rw [hs]; exact k1) (by rw [hs]; exact k2) pa w1) fun D σ H z => ?_
                obtain ⟨G, da, S, r, ds, S', R, E, e, q⟩ := rs_par z
                refine ⟨G, da, S, r, ds, S', R, E, e, fun vs H' G' da' g R' h' => ?_⟩
                obtain ⟨q1, q2⟩ := q vs H' G' da' g R' h'
                match vs, q1 with
                | [v, w], _ => exact ⟨v, w, rfl, q2⟩
            · match xs, ps, is, vs, w2, hps, m1, w3 with
              | [x, y, w], [px, py, pw], [i, j, l], [a1, a2, a3], _, _, _, _ =>
                simp only [List.zipWith_cons_cons, List.zipWith_nil_left, List.filterMap_cons, List.filterMap_nil, List.head?_cons, Option.map_some, Option.getD_some] at w5 w1 ⊢
                have key : sc.names.lookup x = some .local ∧ sc.names.lookup y = some .local ∧ sc.names.lookup w = some .local ∧ names = [x, y, w] := by
                  by_cases c1 : (sc.names.lookup x == some .local && px.line == (Expr.Name x px).pos.line) = true <;> by_cases c2 : (sc.names.lookup y == some .local && py.line == (Expr.Name x px).pos.line) = true <;> by_cases c3 : (sc.names.lookup w == some .local && pw.line == (Expr.Name x px).pos.line) = true
                  all_goals first
                    | (simp only [c1, c2, c3, if_true] at w5
                       rw [Bool.and_eq_true] at c1 c2 c3
                       exact ⟨by simpa using c1.1, by simpa using c2.1, by simpa using c3.1, w5⟩)
                    | (simp only [c1, c2, c3] at w5; rw [w5] at w4; simp at w4; done)
                obtain ⟨k1, k2, k3, rfl⟩ := key
                obtain ⟨_, e1, hi⟩ := m2 0 i rfl
                obtain ⟨_, e2, hj⟩ := m2 1 j rfl
                obtain ⟨_, e3, hl'⟩ := m2 2 l rfl
                cases e1; cases e2; cases e3
                have hij : i ≠ j := by rintro rfl; simp at hb2
                have hil : i ≠ l := by rintro rfl; simp at hb2
                have hjl : j ≠ l := by rintro rfl; simp at hb2
                refine PS.imp (ps_par3 (F.calm hsu) hN (by rw [F.N]; exact hi) (by rw [F.N]; exact hj) (by rw [F.N]; exact hl') hij hil hjl (by rw [hs]; exact k1) (by rw [hs]; exact k2) (by rw [hs]; exact k3) pa w1) fun D σ H z => ?_
                obtain ⟨G, da, S, r, ds, S', R, E, e, q⟩ := rs_par z
                refine ⟨G, da, S, r, ds, S', R, E, e, fun vs H' G' da' g R' h' => ?_⟩
                obtain ⟨q1, q2⟩ := q vs H' G' da' g R' h'
                match vs, q1 with
                | [u, v, w], _ => exact ⟨u, v, w, rfl, q2⟩
        · cases h
theorem snd_setT (Z : SA c C) {n : Nat} {X : Cx} {sc : Scope} {ts : List Expr} {v : Expr} {k : Nat} {p pos : Pos} {s : Sm} (F : Fx c C X none) (hs : X.env.scope = sc) (hv : isTupV v = none) (h : cSetT c n sc (.Tuple ts k p) v = some s) : PS X (.Assign [.Tuple ts k p] v pos) (rdS X.K C s) := by
  unfold cSetT at h
  split at h
  · cases h
  · rename_i hc
    have hc : notComp v = true := by simpa using hc
    split at h
    · rename_i g t hg ht
      cases h
      refine PS.imp (ps_asg ((Z.all n).e X none sc v t F hs ht).1 ((snd_g n).1 X none sc _ g F.toFb hs hg) (by unfold swapsWithSole; exact swaps_plain hc) ?_ rfl) fun Z σ H z => rs_asg z
      cases v <;> first | rfl | cases hv
    · cases h
theorem snd_setK (Z : SA c C) {n : Nat} {X : Cx} {sc : Scope} {o k v : Expr} {p pos : Pos} {s : Sm} (F : Fx c C X none) (hs : X.env.scope = sc) (h : cSetK c n sc o k v = some s) : PS X (.Assign [.Subscript o k p] v pos) (rdS X.K C s) := by
  unfold cSetK at h
  split at h
  · rename_i es hes
    unfold isTupV at hes
    split at hes
    · cases hes
      unfold cSetKT at h
      split at h
      · cases h
      · rename_i hc
        have hc : notComp v = true := by simpa using hc
        split at h
        · rename_i tv to tk hv ho hk
          cases h
          have S := Z.all n
          exact PS.imp (ps_dput (by have := F.un; omega) (S.e X none sc o to F hs ho).1 (pe_tup (S.a X none sc es tk F hs hk).1) (S.e X none sc v tv F hs hv).1 (swaps_plain hc)) fun Z σ H z => rs_setkt z
        · cases h
    · cases hes
  split at h
  · cases h
  · rename_i hc
    have hc : notComp v = true ∧ notSlice k = true := by simpa using hc
    split at h
    · rename_i tv to tk hv ho hk
      cases h
      have S := Z.all n
      exact PS.imp (ps_dput (by have := F.un; omega) (S.e X none sc o to F hs ho).1 (S.e X none sc k tk F hs hk).1 (S.e X none sc v tv F hs hv).1 (swaps_plain hc.1)) fun Z σ H z => rs_setk z
    · cases h
theorem meth_of {m : Str} {sc : Scope} {e a : Expr} {x : Str} (h : methOf m sc e = some (x, a)) : ∃ px ap cp, e = .Call (.Attribute (.Name x px) m ap) [a] [] cp ∧ Vis sc x ∧ okName x = true ∧ plainE a = true ∧ (ap.endLine == cp.line) = true := by
  unfold methOf at h
  split at h
  · rename_i x' px m' ap a' cp
    split at h
    · rename_i hb
      cases h
      simp only [Bool.and_eq_true, decide_eq_true_eq] at hb
      obtain ⟨⟨⟨⟨rfl, b2⟩, b3⟩, b4⟩, b5⟩ := hb
      exact ⟨px, ap, cp, rfl, vis_ok b2, b3, b4, b5⟩
    · cases h
  · cases h
theorem few1 {a : Expr} {env : Env} {cp : Pos} (h : plainE a = true) : ((backTo cp (starEach [a] env)).all (fun x => !x.1) && (backToKw cp (keywordEach [] env)).all (fun x => x.1.isSome)
      && decide (([a] : List Expr).length + ([] : List Keyword).length + (if ([] : List Keyword).isEmpty then 0 else 1) < 30)) = true := by
  rw [star_all (by simpa using h)]
  rfl
theorem snd_meth {X : Cx} {sc : Scope} {x : Str} {i : Nat} {px ap cp : Pos} {a : Expr} {ta : TA} {m : Str} {id : String} {r : V → List V → Hp → VK → Prop} (F : Fx c C X none) (hs : X.env.scope = sc) (slot : Slot "list" m id) (hty : typeOf (.builtin id) = pure (.type "method_descriptor")) (hm : MtR X id r)
    (hi : slotOf c x = some i) (hv : Vis sc x) (ho : okName x = true) (hp : plainE a = true) (hl : (ap.endLine == cp.line) = true) (ha : PA X [a] ta) : PE X (.Call (.Attribute (.Name x px) m ap) [a] [] cp) (tBM X.K "list" r (rdE X.K C (.var i)) ta) := by
  obtain ⟨o1, o2⟩ := name_ok ho
  have h1 : PE X (.Name x px) (rdE X.K C (.var i)) := PE.imp (pe_var (by rw [F.N]; exact slot_ok hi) (by rw [hs]; exact hv) o1 o2) fun σ H Q z => rd_var z
  exact pe_bm PySem.F.plainAttrs_list slot hty hm h1 ha rfl (few1 hp) hl (star_one hp) rfl
theorem snd_expr (Z : SA c C) {n : Nat} {X : Cx} {sc : Scope} {e : Expr} {pos : Pos} {s : Sm} (F : Fx c C X none) (hs : X.env.scope = sc) (h : cExpr c n sc e = some s) : PS X (.Expr e pos) (rdS X.K C s) := by
  have S := Z.all n
  unfold cExpr at h
  split at h
  · rename_i x a hm
    obtain ⟨px, ap, cp, rfl, hv, ho, hp, hl⟩ := meth_of hm
    unfold cApp at h
    split at h
    · cases h
    · rename_i i hi
      split at h
      · rename_i y b hm2
        obtain ⟨px2, ap2, cp2, rfl, hv2, ho2, hp2, hl2⟩ := meth_of hm2
        split at h
        · rename_i j tb hj hb
          cases h
          have pb : PA X [b] (tCons (rdE X.K C tb) tNil) := pa_cons (S.e X none sc b tb F hs hb).1 pa_nil (star_one hp2)
          have inner := snd_meth (C := C) (px := px2) (ap := ap2) (cp := cp2) F hs PySem.F.slot_list_pop PySem.F.type_list_pop (fun pins s σ H x xs v us Q I r1 r2 q => mt_popAt pins s σ H x xs v us Q I r1 r2 q) hj hv2 ho2 hp2 hl2 pb
          exact PS.imp (ps_expr (snd_meth (C := C) F hs PySem.F.slot_list_append PySem.F.type_list_append (fun pins s σ H x xs v us Q I r1 r2 q => mt_append pins s σ H x xs v us Q I r1 r2 q) hi hv ho hp hl (pa_cons inner pa_nil (star_one hp))) rfl) fun Z σ H z => rs_popapp z
        · cases h
      · obtain ⟨ta, hta, rfl⟩ := Option.map_eq_some_iff.mp h
        have pa : PA X [a] (tCons (rdE X.K C ta) tNil) := pa_cons (S.e X none sc a ta F hs hta).1 pa_nil (star_one hp)
        exact PS.imp (ps_expr (snd_meth (C := C) F hs PySem.F.slot_list_append PySem.F.type_list_append (fun pins s σ H x xs v us Q I r1 r2 q => mt_append pins s σ H x xs v us Q I r1 r2 q) hi hv ho hp hl pa) rfl) fun Z σ H z => rs_app z
  · split at h
    · rename_i x a hm
      obtain ⟨px, ap, cp, rfl, hv, ho, hp, hl⟩ := meth_of hm
      unfold cExt at h
      split at h
      · rename_i i ta hi hta
        split at h
        · rename_i hf
          cases h
          have pa : PA X [a] (tCons (rdF X.K C ta) tNil) := pa_cons ((S.e X none sc a ta F hs hta).2.2 (fresh_new hf)) pa_nil (star_one hp)
          exact PS.imp (ps_expr (snd_meth (C := C) F hs PySem.F.slot_list_extend PySem.F.type_list_extend (fun pins s σ H x xs v us Q I r1 r2 q => mt_extend pins s σ H x xs v us Q I r1 r2 q) hi hv ho hp hl pa) rfl) fun Z σ H z => rs_ext z
        · cases h
      · cases h
    · unfold cExprS at h
      split at h
      · obtain ⟨t, ht, rfl⟩ := Option.map_eq_some_iff.mp h
        exact PS.imp (ps_expr (S.e X none sc _ t F hs ht).1 rfl) fun Z σ H z => rs_drop z
      · cases h
theorem snd_s (Z : SA c C) {n : Nat} (IH : ∀ (X : Cx) (sc : Scope) (sts : List Stmt) (s : Sm), Fx c C X none → X.env.scope = sc → sc.kind = .function → (rsc c n).ss sc sts = some s → PSs X sts (rdS X.K C s)) (X : Cx) (sc : Scope) (st : Stmt) (s : Sm) (F : Fx c C X none) (hs : X.env.scope = sc) (hk : sc.kind = .function)
    (h : stepS c n (rsc c n).ss sc st = some s) : PS X st (rdS X.K C s) := by
  have S := Z.all n
  unfold stepS at h
  split at h
  · cases h; exact PS.imp ps_pass fun Z σ H z => rs_skip z
  · cases h; exact PS.imp ps_break fun Z σ H z => rs_brk z
  · cases h; exact PS.imp ps_continue fun Z σ H z => rs_cont z
  · have nv : ∀ {oe ca : Option Expr} {pp : Pos} {s : Sm}, (∀ r S, exe C s r S = none) → PS X (.Raise oe ca pp) (rdS X.K C s) := fun hn => PS.imp ps_never fun Z σ H z => by
      obtain ⟨G, da, S, r, f, S', R, E, e, q⟩ := rdS_iff.mp z
      rw [hn] at e
      cases e
    repeat' split at h
    all_goals
      cases h
      exact nv fun r S => by simp only [exe]
  · split at h
    · split at h
      · cases h
      · obtain ⟨t, ht, rfl⟩ := Option.map_eq_some_iff.mp h
        refine PS.imp (ps_try_never (fun e s => by rw [F.xe]; exact id) (IH X sc _ t F hs hk ht) pss_nil) fun Z σ H z => ?_
        obtain ⟨G, da, S, r, f, S', R, E, e, q⟩ := rdS_iff.mp z
        simp only [exe] at e
        exact rdS_iff.mpr ⟨G, da, S, r, f, S', R, E, e, q⟩
    · cases h
  · split at h
    · obtain ⟨t, ht, rfl⟩ := Option.map_eq_some_iff.mp h
      exact PS.imp (ps_ret (S.e X none sc _ t F hs ht).1) fun Z σ H z => rs_ret z
    · cases h; exact PS.imp ps_retN fun Z σ H z => rs_retn z
  · split at h
    · rename_i t a b ht ha hb
      cases h
      exact PS.imp (ps_if (S.e X none sc _ t F hs ht).2.1 (IH X sc _ a F hs hk ha) (IH X sc _ b F hs hk hb)) fun Z σ H z => rs_ite z
    · cases h
  · split at h
    · split at h
      · cases h
      · rename_i hn
        simp only [Bool.not_eq_true', Bool.not_eq_false, Bool.and_eq_true] at hn
        split at h
        · rename_i i g b hi hg hb
          cases h
          refine PS.imp (ps_for ?_ (F.calm hn.1) (S.i X none sc _ _ i F hs hi) ((snd_g n).1 X none sc _ g F.toFb hs hg) (IH X sc _ b F hs hk hb) (notSet_fold hn.2)) fun Z σ H z => rs_for z
          rw [F.xe]
          exact PassesOwn.never
        · cases h
    · cases h
  · exact snd_expr Z F hs h
  · split at h
    · split at h
      · rename_i hc
        exact snd_ann Z F hs hc h
      · cases h
    · cases h
  · split at h
    · split at h
      · rename_i t b ht hb
        cases h
        refine PS.imp (ps_while ?_ (S.e X none sc _ t F hs ht).2.1 (IH X sc _ b F hs hk hb)) fun Z σ H z => rs_whl z
        rw [F.xe]
        exact PassesOwn.never
      · cases h
    · cases h
  · split at h
    · unfold cAsg at h
      split at h
      · exact snd_setN Z F hs h
      · split at h
        · rename_i vs hv
          unfold isTupV at hv
          split at hv
          · cases hv
            exact snd_par Z F hs hk h
          · cases hv
        · rename_i hv
          exact snd_setT Z F hs hv h
      · exact snd_setK Z F hs h
      · cases h
    · cases h
  · cases h
theorem foe1_ok {X : Cx} {sc : Scope} {v a b : Str} {st : Stmt} {i j l : Nat} (F : Fx c C X none) (hs : X.env.scope = sc) (h : foe1 v a b st = true) (hv : slotOf c v = some i) (ha : slotOf c a = some j) (hb : slotOf c b = some l) (lv : Vis sc v) (la : Vis sc a) (lb : Vis sc b)
    (ov : okName v = true) (oa : okName a = true) (ob : okName b = true) : PS X st (tFoe1 X.K i j l) := by
  unfold foe1 at h
  split at h
  · rename_i x px m ap y py lp cp m2 ap2 z pz cp2 pos
    simp only [Bool.and_eq_true, decide_eq_true_eq] at h
    obtain ⟨⟨⟨⟨⟨⟨rfl, rfl⟩, rfl⟩, rfl⟩, rfl⟩, h1⟩, h2⟩ := h
    have hu : X.A.units + 1 < cLine := by have := F.un; omega
    have hst : starEach [Expr.Name y py, Expr.List [] lp] X.env = [(false, eval (Expr.Name y py) X.env), (false, eval (Expr.List [] lp) X.env)] := rfl
    have inner : PE X (.Call (.Attribute (.Name x px) "setdefault" ap) [.Name y py, .List [] lp] [] cp) (tDSetD (tVar i) (tVar j) (tLst tNil)) :=
      pe_dsetd hu (name_pe F hs hv lv ov) (name_pe F hs ha la oa) (pe_lst pa_nil) ⟨rfl, by rw [hst]; rfl, h1, by rw [hst]; rfl⟩
    exact ps_expr (pe_bm PySem.F.plainAttrs_list PySem.F.slot_list_append PySem.F.type_list_append (fun pins s σ H x xs v us Q I r1 r2 q => mt_append pins s σ H x xs v us Q I r1 r2 q) inner (pa_cons (name_pe F hs hb lb ob) pa_nil (star_one rfl)) rfl (few1 rfl) h2 (star_one rfl) rfl) rfl
  · cases h
theorem loc_vis {sc : Scope} {x : Str} (h : Loc sc x) : Vis sc x := by
  rcases h with h | h
  · exact .inl h
  · exact .inr (.inl h)
theorem snd_foes (Z : SA c C) {n : Nat} {X : Cx} {sc : Scope} {s1 s2 : Stmt} {rest : List Stmt} {s : Sm} {u : TS} (F : Fx c C X none) (hs : X.env.scope = sc) (h : cFoes c n sc s1 s2 = some s) (hr : PSs X rest u) : PSs X (s1 :: s2 :: rest) (tSeq (rdS X.K C s) u) := by
  unfold cFoes at h
  split at h
  · rename_i v pv dp pos1 a pa b pb k pt it e1 e2 pos2
    split at h
    · cases h
    · rename_i hb
      have hb : (((((((((c.su = false ∧ notSet it = true) ∧ foe1 v a b e1 = true) ∧ foe1 v b a e2 = true) ∧ locB sc v = true) ∧ locB sc a = true) ∧ locB sc b = true) ∧ okName v = true) ∧ okName a = true) ∧ okName b = true) := by simpa using hb
      obtain ⟨⟨⟨⟨⟨⟨⟨⟨⟨hsu, b1⟩, b2⟩, b3⟩, b4⟩, b5⟩, b6⟩, b7⟩, b8⟩, b9⟩ := hb
      split at h
      · rename_i i j l t hi hj hl ht
        cases h
        have lv := loc_ok b4
        have la := loc_ok b5
        have lb := loc_ok b6
        have hN : X.N.Nodup := by rw [F.N]; exact F.nd
        have nx : ∀ {x : Str} {i : Nat}, slotOf c x = some i → X.N[i]? = some x := fun h => by rw [F.N]; exact slot_ok h
        have p1 : PS X (.Assign [.Name v pv] (.Dict [] [] dp) pos1) (tAsg tDNewT (gName i)) := ps_set hN (nx hi) (by rw [hs]; exact lv) pe_dnewT (swaps_plain rfl) (.inl (F.fn0 rfl v))
        have pg : PG X (.Tuple [.Name a pa, .Name b pb] k pt) (gTup X.K 2 (gCons (gName j) (gCons (gName l) gNil))) :=
          pg_tup (F.calm hsu) (pgs_cons (pg_name hN (nx hj) (by rw [hs]; exact la) (.inl (F.fn0 rfl a))) (pgs_cons (pg_name hN (nx hl) (by rw [hs]; exact lb) (.inl (F.fn0 rfl b))) pgs_nil))
        have pbd : PSs X [e1, e2] (tSeq (tFoe1 X.K i j l) (tSeq (tFoe1 X.K i l j) tNext)) :=
          pss_cons (foe1_ok F hs b2 hi hj hl (loc_vis lv) (loc_vis la) (loc_vis lb) b7 b8 b9) (pss_cons (foe1_ok F hs b3 hi hl hj (loc_vis lv) (loc_vis lb) (loc_vis la) b7 b9 b8) pss_nil)
        have p2 : PS X (.For (.Tuple [.Name a pa, .Name b pb] k pt) it [e1, e2] [] pos2) (tFor (rdI X.K C t) (gTup X.K 2 (gCons (gName j) (gCons (gName l) gNil))) (tSeq (tFoe1 X.K i j l) (tSeq (tFoe1 X.K i l j) tNext))) := by
          refine ps_for ?_ (F.calm hsu) ((Z.all n).i X none sc _ _ t F hs ht) pg pbd (notSet_fold b1)
          rw [F.xe]
          exact PassesOwn.never
        exact PSs.imp (pss_cons p1 (pss_cons p2 hr)) fun D σ H z => rs_foes z
      · cases h
  · cases h
theorem snd_ss (Z : SA c C) : ∀ (n : Nat) (X : Cx) (sc : Scope) (sts : List Stmt) (s : Sm), Fx c C X none → X.env.scope = sc → sc.kind = .function → (rsc c n).ss sc sts = some s → PSs X sts (rdS X.K C s) := by
  intro n
  induction n using Nat.strongRecOn with
  | _ n ih =>
    intro X sc sts s F hs hk h
    cases n with
    | zero => cases h
    | succ n =>
      replace h : stepSs c n (rsc c n) sc sts = some s := h
      unfold stepSs at h
      split at h
      · cases h; exact PSs.imp pss_nil fun Z σ H z => rs_skip z
      · rename_i st rest
        split at h
        · rename_i a ha
          split at ha
          · cases ha
          · rename_i st2 rest2
            obtain ⟨b, hb, rfl⟩ := Option.map_eq_some_iff.mp h
            exact PSs.imp (snd_foes Z F hs ha (ih n (Nat.lt_succ_self n) X sc rest2 b F hs hk hb)) fun Z σ H z => rs_seq z
        · split at h
          · rename_i a b ha hb
            cases h
            refine PSs.imp (pss_cons ?_ (ih n (Nat.lt_succ_self n) X sc rest b F hs hk hb)) fun Z σ H z => rs_seq z
            cases n with
            | zero => cases ha
            | succ n => exact snd_s Z (ih n (by omega)) X sc st a F hs hk ha
          · cases h
end
end AOne
end

section
set_option Elab.async false
set_option linter.all false
set_option maxRecDepth 100000
set_option maxHeartbeats 4000000
set_option autoImplicit false
/-! E4: what raises is read rightly. -/
namespace AOne
open PySem PySem.Spec L2
open PyProof.Rows (envOfC)
section
variable {X : Cx}
theorem PA.nox {es : List Expr} {t : TA} (h : PA X.nox es t) : PA X es t := ⟨fun pos pins s σ H Q I z =>
  wpAny_mono (h.run pos pins s σ H Q (I.wish _) z) (fun us s' ⟨vs, H', I', rr, qq⟩ => ⟨vs, H', I'.unwish, rr, qq⟩) fun e s' no => no.elim⟩
theorem PK.nox {es : List Keyword} {t : TA} (h : PK X.nox es t) : PK X es t := ⟨fun pos pins s σ H Q I z =>
  wpAny_mono (h.run pos pins s σ H Q (I.wish _) z) (fun us s' ⟨vs, H', I', rr, qq⟩ => ⟨vs, H', I'.unwish, rr, qq⟩) fun e s' no => no.elim⟩
theorem PS.nox {st : Stmt} {t : TS} (h : PS X.nox st t) : PS X st t := ⟨fun pins s σ H D I z =>
  wpAny_mono (h.run pins s σ H D (I.wish _) z) (fun f s' qq => qq.unwish) fun e s' no => no.elim⟩
theorem PS.both {st : Stmt} {t u : TS} (h : PS X st t) (k : PS X st u) : PS X st (fun D σ H => t D σ H ∨ u D σ H) := ⟨fun pins s σ H D I z => z.elim (h.run pins s σ H D I) (k.run pins s σ H D I)⟩
theorem PS.no {st : Stmt} {t : TS} (h : ∀ D σ H, ¬ t D σ H) : PS X st t := ⟨fun pins s σ H D I z => (h D σ H z).elim⟩
theorem PE.no {e : Expr} {t : TE} (h : ∀ σ H Q, ¬ t σ H Q) : PE X e t := ⟨fun pins s σ H Q I z => (h σ H Q z).elim⟩
end
/-- the callee runs and raises -/
theorem run_fnX {X : Cx} {k : Nat} {f : Addr} {fd : FuncData} {ps : List Str} {sp : List V → Hp → XK → Prop} {pins : List (Addr × Obj)} {σ : L2.St} {H : Hp} {s : Shared} {Q : VK} {E : XK} {us : List Value} {kw : List (Str × Value)} {zs : List Value} {vs : List V}
    (F : FnX X.prog X.w X.K X.mg X.base k f fd ps sp) (hr : Room k X.A) (hg : X.A.guards = some []) (tk : Takes X (fun cls d _ H => E cls d H)) (hb : BindsTo s fd ⟨us, kw⟩ (ps.zip zs))
    (I : Inv X pins σ H s) (r : Vals vs zs) (h : sp vs H E) : wpAny (model X.prog X.w) X.A (call (.ref f) us kw) (EP X pins σ Q) X.xe s := by
  refine wpAny_call (codeAny_mono (F.run X.A X.stack s H ⟨us, kw⟩ zs vs E hr hg I.env0 hb r h) fun rr s' hq => ?_)
  cases rr with
  | error e => exact passes_call (W := fun cls d _ H => E cls d H) tk (fun _ _ _ _ z => z) pins σ H s e s' I hq
  | ok fl =>
    cases fl with
    | ret u =>
      obtain ⟨_, _, _, _, _, _, _, z⟩ := hq
      exact False.elim z
    | next => exact False.elim hq
    | brk => exact False.elim hq
    | cont => exact False.elim hq
section
variable {X : Cx} {C : Call} {CT : List Value} {E : XK}
theorem kwn_len : ∀ {kws : List Keyword} {ks : List Str}, kwNames kws = some ks → ks.length = kws.length
  | [], ks, h => by simp [kwNames] at h; subst h; rfl
  | q :: r, ks, h => by
    unfold kwNames at h
    rw [List.mapM_cons] at h
    cases hq : q.arg with
    | none => rw [hq] at h; simp at h
    | some z =>
      rw [hq] at h
      simp only [Option.bind_eq_bind, Option.bind_some] at h
      cases hz : List.mapM (fun k : Keyword => k.arg) r with
      | none => rw [hz] at h; simp at h
      | some ks' =>
        rw [hz] at h
        simp at h
        subst h
        simp [kwn_len (show kwNames r = some ks' from hz)]
/-- f(.., k = v, ..) of a def of the table, which raises -/
theorem pe_callX {x : Str} {k : Nat} {d : DefI} {p pos : Pos} {args : List Expr} {kws : List Keyword} {a b : Tm} {pt : Pat} (hg : Gl X x) (hgd : X.A.guards = some []) (tk : Takes X (fun cls d _ H => E cls d H)) (hd : DefX X CT C x k d) (hpl : args.all plainE = true) (hkn : kwNames kws = some pt.ks) (hp : pt ∈ d.pats)
    (hn : pt.n = args.length) (h0 : args = [] → a = .nil) (ha : PA X args (rdA X.K C a)) (hla : ∀ r S ds S', semA C a r S = some (ds, S') → ds.length = args.length) (hlb : ∀ r S ds S', semA C b r S = some (ds, S') → ds.length = kws.length) (hk : PK X kws (rdA X.K C b)) (hdb : (x == ("__debug__" : Str)) = false) :
    PE X (.Call (.Name x p) args kws pos) (fun σ H _ => rxE X.K CT C (.call k pt.perm d.dfl a b) E σ H) := by
  refine ⟨fun pins s σ H Q I h => ?_⟩
  obtain ⟨n, f, fd, ps, hm, kp, hr, F, B⟩ := hd
  obtain ⟨dv, its, rdv, rdd, hb⟩ := B pt hp
  obtain ⟨k1, k2, k3⟩ := kw_all (env := X.env) (pos := pos) hkn
  have kl : pt.ks.length = kws.length := kwn_len hkn
  refine wpAny_Call_Name_kw (ld_glob I hg hm ?_ hdb)
  obtain ⟨G, da, S, r, x', S', R, Er, e, q⟩ := h
  simp only [semX] at e
  split at e
  · cases e
  · rename_i vs S1 ea
    split at e
    · cases e
    · rename_i ws S2 eb
      split at e
      · cases e
      · rename_i zs ez
        have fin : ∀ {us ks : List Value} {xs ys : List V} {s2 : Shared} {H2 G2 : Hp} {da2 : List Addr}, Inv X pins σ H2 s2 → Grow G H da G2 H2 da2 → RelS X.K G2 H2 da2 S2 → Vals xs us → RTs X.K G2 da2 xs vs → Vals ys ks → RTs X.K G2 da2 ys ws → wpAny (model X.prog X.w) X.A (call (.ref f) us (pt.ks.zip ks)) (EP X pins σ Q) X.xe s2 := by
          intro us ks xs ys s2 H2 G2 da2 I2 g R2 rx tx ry ty
          obtain ⟨zv, hz, bt⟩ := hb s2 us ks I2.kIn (by rw [← rx.length, tx.length, hla _ _ _ _ ea, hn]) (by rw [← ry.length, ty.length, hlb _ _ _ _ eb, kl])
          obtain ⟨y1, e1, r1⟩ := pick_vals ((rx.append ry).append rdv) hz
          obtain ⟨y2, e2, r2⟩ := pick_rts ((tx.append ty).append (RDs.rts (rdd G2))) ez
          rw [e1] at e2
          cases e2
          exact run_fnX F hr hgd tk bt I2 r1 ⟨G2, da2, S2, zs, x', S', R2, r2, e, fun cls d H' G' da' g' R' xo => q cls d H' G' da' (g.trans g') R' (xo.back g)⟩
        cases args with
        | nil =>
          have hz := h0 rfl
          subst hz
          simp only [semA] at ea
          cases ea
          refine PySem.W.callWith_KW0 (h₀ := X.base) I.ok.mod.kin kp k1 ?_ (by rw [k3] <;> rfl)
          refine thn (hk.run pos pins s σ H _ I (ra1 R Er eb fun ys H2 G2 da2 g2 R2 t2 => (⟨G2, da2, g2, R2, t2⟩ : ∃ G2 da2, Grow G H da G2 H2 da2 ∧ RelS X.K G2 H2 da2 S2 ∧ RTs X.K G2 da2 ys ws))) fun ks s2 ⟨ys, H2, I2, r2, G2, da2, g, R2, ty⟩ => ⟨I2.kIn, ?_⟩
          rw [k2]
          exact fin I2 g R2 .nil .nil r2 ty
        | cons e0 es =>
          rw [List.all_cons, Bool.and_eq_true] at hpl
          refine PySem.W.callWith_KW (h₀ := X.base) I.ok.mod.kin kp k1 (thn (ha.run pos pins s σ H _ I (ra1 R Er ea fun xs H1 G1 da1 g1 R1 t1 => (?_ : rdA X.K C b σ H1 fun ys H2 => ∃ G2 da2, Grow G H da G2 H2 da2 ∧ RelS X.K G2 H2 da2 S2 ∧ RTs X.K G2 da2 xs vs ∧ RTs X.K G2 da2 ys ws))) fun us s1 ⟨xs, H1, I1, r1, q1⟩ => ?_) ?_ (star_one hpl.1)
          · exact ra1 R1 (Er.mono g1) eb fun ys H2 G2 da2 g2 R2 t2 => ⟨G2, da2, g1.trans g2, R2, t1.mono g2, t2⟩
          · refine thn (hk.run pos pins s1 σ H1 _ I1 q1) fun ks s2 ⟨ys, H2, I2, r2, G2, da2, g, R2, tx, ty⟩ => ⟨I2.kIn, ?_⟩
            rw [k2]
            exact fin I2 g R2 r1 tx r2 ty
          · rw [k3, Bool.or_false]
            exact star_none (by rw [List.all_cons, Bool.and_eq_true]; exact hpl)
end

/-! which texts may raise -/
def isCallT : Tm → Bool
  | .call _ _ _ _ _ => true
  | _ => false
theorem semX_none {C : Call} {t : Tm} (h : isCallT t = false) (r : Ev) (S : Sto) : semX C t r S = none := by
  cases t <;> first | (simp only [semX]; done) | cases h
theorem rxE_no {K : PySem.W.Frag} {CT : List Value} {C : Call} {t : Tm} {E : XK} (h : isCallT t = false) (σ : L2.St) (H : Hp) : ¬ rxE K CT C t E σ H := by
  rintro ⟨G, da, S, r, x, S', _, _, e, _⟩
  rw [semX_none h] at e
  cases e
section
variable {c : CC} {C : Call}
theorem cCall_x {n : Nat} {R RL : Rc} {sc : Scope} {f : Str} {args : List Expr} {kws : List Keyword} {t : Tm} (h : cCall c R RL sc f args kws = some t) :
    (∃ k d, findDef c.tab f = some (k, d) ∧ c.su = false ∧ (glB sc f = true ∧ okName f = true) ∧ cDef R sc k d args kws = some t) ∨ isCallT t = false := by
  unfold cCall at h
  split at h
  · cases h
  · rename_i hg
    split at h
    · rename_i k d hd
      split at h
      · cases h
      · rename_i hsu
        exact .inl ⟨k, d, hd, by simpa using hsu, by simpa using hg, h⟩
    · right
      split at h
      · cases h
      · split at h
        · split at h
          · unfold cIsx at h
            split at h
            · split at h
              · split at h
                · cases h; rfl
                · cases h
              · cases h
            · cases h
          · cases h
        · cases hl : cLam c RL sc f args with
          | some t' =>
            rw [hl] at h
            cases h
            unfold cLam at hl
            split at hl
            · split at hl
              · split at hl
                · obtain ⟨b, _, rfl⟩ := Option.map_eq_some_iff.mp hl
                  rfl
                · cases hl
              · cases hl
            · cases hl
          | none =>
            rw [hl] at h
            replace h : cBlt R sc f args = some t := h
            have prim : cPrim R sc f args = some t → isCallT t = false := fun h => by
              unfold cPrim at h
              split at h
              · cases h
              · split at h
                · cases h; rfl
                · cases h
            unfold cBlt at h
            split at h
            · unfold cIsi at h
              split at h
              · split at h
                · split at h
                  · cases h; rfl
                  · cases h
                · cases h
              · cases h
            · split at h
              · cases hs : isSetCall args with
                | some e =>
                  rw [hs] at h
                  replace h : cSS R sc e = some t := h
                  unfold cSS at h
                  split at h
                  · obtain ⟨b, _, rfl⟩ := Option.map_eq_some_iff.mp h
                    rfl
                  · cases h
                | none =>
                  rw [hs] at h
                  exact prim h
              · exact prim h
theorem bool_x {R : Rc} {sc : Scope} {o : BoolOp} {e1 e2 : Expr} {es : List Expr} {t : Tm} (h : stepB R sc o (e1 :: e2 :: es) = some t) : isCallT t = false := by
  simp only [stepB] at h
  split at h
  · cases h
    cases o <;> rfl
  · cases h
theorem comp_x {n : Nat} {sc : Scope} {ex : Expr} {t : Tm} (h : comp c n sc ex = some t) : (∃ f fp args kws p, ex = .Call (.Name f fp) args kws p) ∨ isCallT t = false := by
  cases n with
  | zero => cases h
  | succ n =>
    replace h : stepE c n (rc c n) (rc c.nolam n) sc ex = some t := h
    unfold stepE at h
    split at h
    · right
      unfold cName at h
      repeat' split at h
      all_goals first | (cases h; done) | (obtain ⟨_, _, rfl⟩ := Option.map_eq_some_iff.mp h; rfl)
    · right
      unfold cConst at h
      repeat' split at h
      all_goals first | (cases h; done) | (cases h; rfl)
    · right
      unfold cBin at h
      split at h
      · split at h
        · cases h; rfl
        · cases h
      · split at h
        · cases h; rfl
        · cases h
    · right
      unfold cUn at h
      split at h
      · cases h; rfl
      · cases h; rfl
      · cases h
    · right
      split at h
      · cases n with
        | zero => cases h
        | succ n => exact bool_x (R := rc c n) h
      · cases h
    · right
      unfold cIf at h
      split at h
      · cases h; rfl
      · cases h
    · right
      unfold cCmp at h
      split at h
      · unfold cCmp1 at h
        split at h
        · cases h
        · split at h
          · cases h; rfl
          · cases h
      · unfold cCmp2 at h
        split at h
        · cases h
        · split at h
          · cases h; rfl
          · cases h
      · cases h
    · right
      obtain ⟨_, _, rfl⟩ := Option.map_eq_some_iff.mp h
      rfl
    · right
      obtain ⟨_, _, rfl⟩ := Option.map_eq_some_iff.mp h
      rfl
    · right
      unfold cSub at h
      split at h
      · obtain ⟨_, _, rfl⟩ := Option.map_eq_some_iff.mp h
        rfl
      · unfold cSlc at h
        split at h
        · cases h; rfl
        · cases h
      · split at h
        · cases h; rfl
        · cases h
      · unfold cIx at h
        split at h
        · cases h
        · split at h
          · cases h; rfl
          · cases h
    · split at h
      · exact .inl ⟨_, _, _, _, _, rfl⟩
      · right
        unfold cMeth at h
        split at h
        · split at h
          · cases h
          · split at h
            · cases h
            · split at h
              · split at h
                · cases h; rfl
                · cases h
              · split at h
                · obtain ⟨_, _, rfl⟩ := Option.map_eq_some_iff.mp h
                  rfl
                · cases h
              · split at h
                · obtain ⟨_, _, rfl⟩ := Option.map_eq_some_iff.mp h
                  rfl
                · cases h
              · cases h
        · cases h
      · cases h
    · right
      unfold cLc at h
      split at h
      · unfold cLc1 at h
        split at h
        · cases h
        · split at h
          · split at h
            · cases h; rfl
            · cases h
          · cases h
      · unfold cLc2 at h
        split at h
        · cases h
        · split at h
          · split at h
            · cases h; rfl
            · cases h
          · cases h
      · cases h
    · right
      split at h
      · split at h
        · obtain ⟨_, _, rfl⟩ := Option.map_eq_some_iff.mp h
          rfl
        · cases h
      · cases h
    · right
      unfold cDct at h
      split at h
      · cases h; rfl
      · split at h
        · split at h
          · cases h; rfl
          · cases h
        · cases h
    · cases h
end
end AOne
end

section
set_option Elab.async false
set_option linter.all false
set_option maxRecDepth 100000
set_option maxHeartbeats 4000000
set_option autoImplicit false
/-! E5: expressions, statements, suites that raise. -/
namespace AOne
open PySem PySem.Spec L2
open PyProof.Rows (envOfC)
section
variable {c : CC} {C : Call}
theorem sndX_e (SA' : ∀ n, Snd c C n) {n : Nat} {X : Cx} {rs : Option Scope} {sc : Scope} {ex : Expr} {t : Tm} {E : XK} (F : Fx c C X.nox rs) (rx : Rx c C X E) (hs : X.env.scope = sc) (h : comp c n sc ex = some t) : PE X ex (fun σ H _ => rxE X.K c.ct C t E σ H) := by
  rcases comp_x h with ⟨f, fp, args, kws, p, rfl⟩ | hn
  · cases n with
    | zero => cases h
    | succ n =>
      have h' : cCall c (rc c n) (rc c.nolam n) sc f args kws = some t := h
      rcases cCall_x (n := n) h' with ⟨k, d, hd, hsu, hg0, hc⟩ | hn
      · have S := SA' n
        have hg : Gl X.nox f := gl_ok (X := X.nox) hs hg0.1
        unfold cDef at hc
        split at hc
        · cases hc
        · rename_i ks hk
          split at hc
          · cases hc
          · rename_i pt hp
            split at hc
            · rename_i a b ha hb
              cases hc
              obtain ⟨a1, a2, a3, a4⟩ := S.f X.nox rs sc args a F hs ha
              obtain ⟨b1, b2⟩ := S.k X.nox rs sc kws b F hs hb
              have hpp := List.find?_some hp
              rw [Bool.and_eq_true] at hpp
              have e1 : pt.n = args.length := of_decide_eq_true hpp.1
              have e2 : pt.ks = ks := of_decide_eq_true hpp.2
              subst e2
              exact pe_callX hg F.guards rx.tk (rx.defsX f k d hd) a2 hk (List.mem_of_find?_eq_some hp) e1 a4 (PA.nox a1) a3 b2 (PK.nox b1) (name_ok hg0.2).1
            · cases hc
      · exact PE.no fun σ H _ => rxE_no hn σ H
  · exact PE.no fun σ H _ => rxE_no hn σ H
/-- the bodies of lambdas -/
theorem sndL (Z : Srt) (n : Nat) : SndL c C n := fun X E sc ex t hs F rx h => by
  have S0 : ∀ n, Snd c.nolam C n := snd_all0 Z rfl
  have rx' : Rx c.nolam C X E := ⟨rx.tk, rx.room, rx.defsX, rx.cls⟩
  exact ⟨PE.nox ((S0 n).e X.nox (some sc) sc ex t F.nolam hs h).1, sndX_e S0 F.nolam rx' hs h⟩
theorem sa_of (Z : Srt) : SA c C := ⟨snd_gen Z fun n => ⟨snd_all0 Z rfl n, .inr (sndL Z n)⟩, snd_all0 Z rfl⟩

/-! errors as data -/
theorem kin_err {kin : List Nat} {fs : List Str} {vs : List D} : kinOf (errD kin fs vs) = kin := by
  unfold errD kinOf
  simp only [List.filterMap_map]
  induction kin with
  | nil => rfl
  | cons k r ih => rw [List.filterMap_cons_some (b := k) (by simp [Function.comp]), ih]
theorem fld_err {kin : List Nat} {fs : List Str} {vs : List D} : fldOf (errD kin fs vs) = fs.zip vs := by
  unfold errD fldOf
  simp only [List.filterMap_map]
  generalize fs.zip vs = l
  induction l with
  | nil => rfl
  | cons k r ih => rw [List.filterMap_cons_some (b := k) (by simp [Function.comp]), ih]
theorem xo_new {K : PySem.W.Frag} {CT : List Value} {prog : Program} {G H : Hp} {D fI d : Addr} {f1 f2 : Str} {kin : List Nat} {v1 v2 : V} {e1 e2 : AOne.D} (T : XC prog K D fI f1 f2) (k : KinOk K CT D kin) (h1 : RD K G v1 e1) (h2 : RD K G v2 e2) {da : List Addr} (hd : H d = none) (hg : G d = none) (hn : d ∉ da) :
    XO K CT G da H (.ref D) (some d) (upd H d (.xd [(f2, v2), (f1, v1)])) (errD kin [f1, f2] [e1, e2]) := by
  refine ⟨D, d, _, rfl, rfl, upd_same, hg, hn, hd, by rw [kin_err]; exact k, fun f e hf => ?_⟩
  rw [fld_err] at hf
  simp only [List.zip_cons_cons, List.zip_nil_right, List.lookup] at hf
  by_cases q1 : f = f1
  · subst q1
    rw [show (f == f) = true from by simp] at hf
    cases hf
    have e : (f == f2) = false := by simpa using T.ne
    exact ⟨T.n1, v1, by simp [List.lookup, e], h1⟩
  · have e1 : (f == f1) = false := by simpa using q1
    rw [e1] at hf
    by_cases q2 : f = f2
    · subst q2
      rw [show (f == f) = true from by simp] at hf
      cases hf
      exact ⟨T.n2, v2, by simp [List.lookup], h2⟩
    · have e2 : (f == f2) = false := by simpa using q2
      rw [e2] at hf
      cases hf
section
variable {X : Cx} {E : XK}
theorem rx_raise {K : PySem.W.Frag} {CT : List Value} {prog : Program} {D fI : Addr} {f1 f2 : Str} {kin : List Nat} {a : Tm} {σ : L2.St} {H : Hp} (T : XC prog K D fI f1 f2) (k : KinOk K CT D kin) (h : rxS K CT C (.raise kin [f1, f2] a) E σ H) : tMkX D f1 f2 (rdA K C a) σ H fun cls d H' => E cls d H' := by
  obtain ⟨G, da, S, r, x, S', R, Er, e, q⟩ := h
  simp only [exeX] at e
  split at e
  · cases e
  · rename_i vs S1 ea
    split at e
    · rename_i hb
      cases e
      rw [Bool.and_eq_true, decide_eq_true_eq] at hb
      refine ra1 R Er ea fun us H1 G1 da1 g1 R1 t1 => ?_
      have t1 := t1.rds hb.1
      match vs, hb.2, us, t1, q with
      | [w1, w2], _, _, .cons (v := v1) r1 (.cons (v := v2) r2 .nil), q =>
        exact ⟨v1, v2, rfl, fun d hd => q (.ref D) (some d) _ G1 da1 (g1.trans (Grow.lay hd)) (R1.lay hd) ((xo_new T k r1 r2 hd (R1.gnone hd) (R1.notIn hd)).back g1)⟩
    · cases e
theorem rx_if {K : PySem.W.Frag} {CT : List Value} {t : Tm} {a b : Sm} {D : Ends} {σ : L2.St} {H : Hp} (h : rxS K CT C (.ite t a b) E σ H) : tIfS (rdT K C t) (fun _ σ H => rxS K CT C a E σ H) (fun _ σ H => rxS K CT C b E σ H) D σ H := by
  obtain ⟨G, da, S, r, x, S', R, Er, e, q⟩ := h
  simp only [exeX] at e
  split at e
  · rename_i S1 ea
    refine rdT1 R Er ea fun H1 G1 da1 g R1 => ?_
    rw [if_pos rfl]
    exact ⟨G1, da1, S1, r, x, S', R1, Er.mono g, e, fun cls d H' G' da' g' R' xo => q cls d H' G' da' (g.trans g') R' (xo.back g)⟩
  · rename_i S1 ea
    refine rdT1 R Er ea fun H1 G1 da1 g R1 => ?_
    rw [if_neg (by decide)]
    exact ⟨G1, da1, S1, r, x, S', R1, Er.mono g, e, fun cls d H' G' da' g' R' xo => q cls d H' G' da' (g.trans g') R' (xo.back g)⟩
  · cases e
theorem rxS_no {K : PySem.W.Frag} {CT : List Value} {t : Sm} (h : ∀ r S, exeX C t r S = none) (σ : L2.St) (H : Hp) : ¬ rxS K CT C t E σ H := by
  rintro ⟨G, da, S, r, x, S', _, _, e, _⟩
  rw [h] at e
  cases e
theorem sndX_s (Z : SA c C) {n : Nat} (IH : ∀ (sc : Scope) (sts : List Stmt) (s : Sm), X.env.scope = sc → sc.kind = .function → (rsc c n).ss sc sts = some s → PSs X sts (fun _ σ H => rxS X.K c.ct C s E σ H)) {sc : Scope} {st : Stmt} {s : Sm} (hsu : c.su = false) (F : Fx c C X.nox none) (rx : Rx c C X E) (hs : X.env.scope = sc) (hk : sc.kind = .function)
    (h : stepS c n (rsc c n).ss sc st = some s) : PS X st (fun _ σ H => rxS X.K c.ct C s E σ H) := by
  have no : ∀ {st : Stmt} {s : Sm}, (∀ r S, exeX C s r S = none) → PS X st (fun _ σ H => rxS X.K c.ct C s E σ H) := fun hn => PS.no fun D σ H => rxS_no hn σ H
  have drop : ∀ {e : Expr} {t : Tm} {σ : L2.St} {H : Hp}, rxS X.K c.ct C (.drop t) E σ H → rxE X.K c.ct C t E σ H := by
    rintro e t σ H ⟨G, da, S, r, x, S', R, Er, e, q⟩
    exact ⟨G, da, S, r, x, S', R, Er, e, q⟩
  unfold stepS at h
  split at h
  · cases h; exact no fun r S => by simp only [exeX]
  · cases h; exact no fun r S => by simp only [exeX]
  · cases h; exact no fun r S => by simp only [exeX]
  · split at h
    · rename_i x px e1 e2 cp
      split at h
      · rename_i kin fs hki
        split at h
        · cases h; exact no fun r S => by simp only [exeX]
        · rename_i hb
          split at h
          · rename_i a ha
            cases h
            simp only [Bool.or_eq_true, Bool.not_eq_true', Bool.and_eq_false_iff, not_or, Bool.not_eq_true, Bool.not_eq_false, decide_eq_false_iff_not, Decidable.not_not] at hb
            obtain ⟨_, ⟨⟨⟨b1, b2⟩, b3⟩, b4⟩, b5⟩ := hb
            obtain ⟨D, fI, f1, f2, rfl, T, k, hm⟩ := rx.cls x kin fs hki
            obtain ⟨a1, a2, a3, _⟩ := (Z.all n).a X.nox none sc _ a F hs ha
            have hst : starEach [e1, e2] X.env = (false, eval e1 X.env) :: starEach [e2] X.env := star_one b3
            refine ⟨fun pins s σ H Dn I z => (ps_raiseX (X := X) (k := 0) (W := fun cls d _ H => E cls d H) (show X.calm = true from F.calm hsu) rx.tk T rx.room (gl_ok (X := X.nox) hs b1) hm (PA.nox a1) (name_ok b2).1 hst (by rw [star_one b4] <;> rfl)).run pins s σ H Dn I (rx_raise T k z)⟩
          · cases h; exact no fun r S => by simp only [exeX]
      · cases h; exact no fun r S => by simp only [exeX]
    · cases h; exact no fun r S => by simp only [exeX]
  · split at h
    · split at h
      · cases h
      · obtain ⟨t, ht, rfl⟩ := Option.map_eq_some_iff.mp h
        exact no fun r S => by simp only [exeX]
    · cases h
  · split at h
    · obtain ⟨t, ht, rfl⟩ := Option.map_eq_some_iff.mp h
      exact ⟨fun pins s σ H Dn I z => (ps_ret (sndX_e Z.all F rx hs ht)).run pins s σ H Dn I (drop (e := .Constant .none 0 default) z)⟩
    · cases h; exact no fun r S => by simp only [exeX]
  · split at h
    · rename_i t a b ht ha hb
      cases h
      exact ⟨fun pins s σ H Dn I z => (ps_if (PT.nox ((Z.all n).e X.nox none sc _ t F hs ht).2.1) (IH sc _ a hs hk ha) (IH sc _ b hs hk hb)).run pins s σ H Dn I (rx_if z)⟩
    · cases h
  · split at h
    · split at h
      · cases h
      · split at h
        · cases h; exact no fun r S => by simp only [exeX]
        · cases h
    · cases h
  · rename_i e pp
    unfold cExpr at h
    split at h
    · unfold cApp at h
      split at h
      · cases h
      · split at h
        · split at h
          · cases h; exact no fun r S => by simp only [exeX]
          · cases h
        · obtain ⟨t, ht, rfl⟩ := Option.map_eq_some_iff.mp h
          exact no fun r S => by simp only [exeX]
    · split at h
      · unfold cExt at h
        split at h
        · split at h
          · cases h; exact no fun r S => by simp only [exeX]
          · cases h
        · cases h
      · unfold cExprS at h
        split at h
        · obtain ⟨t, ht, rfl⟩ := Option.map_eq_some_iff.mp h
          exact ⟨fun pins s σ H Dn I z => (ps_expr (sndX_e Z.all F rx hs ht) rfl).run pins s σ H Dn I (drop (e := .Constant .none 0 default) z)⟩
        · cases h
  · split at h
    · split at h
      · unfold cSetN at h
        split at h
        · cases h
        · split at h
          · obtain ⟨t, ht, rfl⟩ := Option.map_eq_some_iff.mp h
            exact no fun r S => by simp only [exeX]
          · cases h
      · cases h
    · cases h
  · split at h
    · split at h
      · cases h; exact no fun r S => by simp only [exeX]
      · cases h
    · cases h
  · split at h
    · unfold cAsg at h
      split at h
      · unfold cSetN at h
        split at h
        · cases h
        · split at h
          · obtain ⟨t, ht, rfl⟩ := Option.map_eq_some_iff.mp h
            exact no fun r S => by simp only [exeX]
          · cases h
      · split at h
        · unfold cPar at h
          split at h
          · cases h
          · split at h
            · cases h
            · split at h
              · cases h
              · split at h
                · cases h; exact no fun r S => by simp only [exeX]
                · cases h
        · unfold cSetT at h
          split at h
          · cases h
          · split at h
            · cases h; exact no fun r S => by simp only [exeX]
            · cases h
      · unfold cSetK at h
        split at h
        · unfold cSetKT at h
          split at h
          · cases h
          · split at h
            · cases h; exact no fun r S => by simp only [exeX]
            · cases h
        · split at h
          · cases h
          · split at h
            · cases h; exact no fun r S => by simp only [exeX]
            · cases h
      · cases h
    · cases h
  · cases h
theorem rx_seq {K : PySem.W.Frag} {CT : List Value} {a b : Sm} {D : Ends} {σ : L2.St} {H : Hp} (h : rxS K CT C (.seq a b) E σ H) : tSeq (fun D σ H => rxS K CT C a E σ H ∨ rdS K C a D σ H) (fun _ σ H => rxS K CT C b E σ H) D σ H := by
  obtain ⟨G, da, S, r, x, S', R, Er, e, q⟩ := h
  have key : exeX C a r S = some (x, S') ∨ ∃ r1 S1, exe C a r S = some (.nx r1, S1) ∧ exeX C b r1 S1 = some (x, S') := by
    unfold exeX at e
    split at e <;> rename_i hx <;> try (cases hx; done)
    all_goals first | (cases e; done) | skip
    all_goals
      cases hx
      split at e
      · rename_i y hy
        cases e
        exact .inl hy
      · split at e
        · rename_i r1 S1 hy
          exact .inr ⟨r1, S1, hy, e⟩
        · cases e
  rcases key with h | ⟨r1, S1, h1, h2⟩
  · exact .inl ⟨G, da, S, r, x, S', R, Er, h, q⟩
  · exact .inr (rdS_iff.mpr ⟨G, da, S, r, _, S1, R, Er, h1, fun σ' H' G' da' g R' E' => ⟨G', da', S1, r1, x, S', R', E', h2, fun cls d H2 G2 da2 g2 R2 xo => q cls d H2 G2 da2 (g.trans g2) R2 (xo.back g)⟩⟩)
theorem foes_form {n : Nat} {sc : Scope} {s1 s2 : Stmt} {s : Sm} (h : cFoes c n sc s1 s2 = some s) : ∃ i j l t, s = .foes i j l t := by
  unfold cFoes at h
  split at h
  · split at h
    · cases h
    · split at h
      · cases h; exact ⟨_, _, _, _, rfl⟩
      · cases h
  · cases h
theorem sndX_ss (Z : SA c C) (hsu : c.su = false) (F : Fx c C X.nox none) (rx : Rx c C X E) : ∀ (n : Nat) (sc : Scope) (sts : List Stmt) (s : Sm), X.env.scope = sc → sc.kind = .function → (rsc c n).ss sc sts = some s → PSs X sts (fun _ σ H => rxS X.K c.ct C s E σ H) := by
  intro n
  induction n using Nat.strongRecOn with
  | _ n ih =>
    intro sc sts s hs hk h
    cases n with
    | zero => cases h
    | succ n =>
      replace h : stepSs c n (rsc c n) sc sts = some s := h
      unfold stepSs at h
      split at h
      · cases h
        exact ⟨fun pins s σ H D I z => (rxS_no (fun r S => by simp only [exeX]) σ H z).elim⟩
      · rename_i st rest
        split at h
        · rename_i a ha
          split at ha
          · cases ha
          · rename_i st2 rest2
            obtain ⟨b, hb, rfl⟩ := Option.map_eq_some_iff.mp h
            obtain ⟨i, j, l, t, rfl⟩ := foes_form ha
            exact ⟨fun pins s σ H D I z => (rxS_no (fun r S => by simp only [exeX]) σ H z).elim⟩
        · split at h
          · rename_i a b ha hb
            cases h
            cases n with
            | zero => cases ha
            | succ n =>
              have h1 : PS X st (fun _ σ H => rxS X.K c.ct C a E σ H) := sndX_s Z (fun sc sts s => ih n (by omega) sc sts s) hsu F rx hs hk ha
              have h2 : PS X st (rdS X.K C a) := PS.nox (snd_s Z (snd_ss Z n) X.nox sc st a F hs hk ha)
              exact ⟨fun pins s σ H D I z => (pss_cons (PS.both h1 h2) (ih (n + 1) (by omega) sc rest b hs hk hb)).run pins s σ H D I (rx_seq z)⟩
          · cases h
end
end
end AOne
end

section
set_option Elab.async false
set_option linter.all false
set_option maxRecDepth 100000
set_option maxHeartbeats 4000000
set_option autoImplicit false
/-! E6: a handler's suite is read rightly. -/
namespace AOne
open PySem PySem.Spec L2
open PyProof.Rows (envOfC)
/-- a name of a class of errors, the j-th of CT -/
def ClsAt (mg : Str → Option Value) (CT : List Value) (t : Str) (j : Nat) : Prop := (t == ("__debug__" : Str)) = false ∧
  ((∃ C, mg t = some (.ref C) ∧ CT[j]? = some (.ref C)) ∨ ∃ ty, mg t = none ∧ bootBuiltins t = some (.type ty) ∧ t ≠ ("__name__" : Str) ∧ CT[j]? = some (.type ty))
theorem excC_is {x : D} {a0 d0 m0 : Nat} {o : D} {j : Nat} {S S' : Sto} {b : Bool} (h : excC x a0 d0 m0 isN [o, .int (j : Nat)] S = some (.bl b, S')) : o = .obj a0 d0 m0 ∧ (∃ fs, S[m0]? = some (.xdc fs)) ∧ b = (kinOf x).contains j := by
  unfold excC at h
  split at h
  · rename_i a d m y e
    injection e with e1 e2
    injection e2 with e2 e3
    subst e2
    subst e1
    split at h
    · rename_i hb
      simp only [Bool.and_eq_true, decide_eq_true_eq] at hb
      obtain ⟨⟨rfl, rfl⟩, rfl⟩ := hb
      split at h
      · rename_i fs j' hS hj
        injection hj with hj
        subst hj
        rw [if_pos rfl] at h
        cases h
        exact ⟨rfl, ⟨fs, hS⟩, by rw [Int.toNat_natCast]⟩
      · rename_i hj
        cases hj
      · cases h
    · cases h
  · cases h
theorem excC_fld {x : D} {a0 d0 m0 : Nat} {o : D} {f : Str} {S S' : Sto} {d : D} (h : excC x a0 d0 m0 fldN [o, .str f] S = some (d, S')) : o = .obj a0 d0 m0 ∧ ∃ fs, S[m0]? = some (.xdc fs) ∧ fs.lookup f = some d ∧ ((fldOf x).lookup f).isSome = true := by
  unfold excC at h
  split at h
  · rename_i a dd m y e
    injection e with e1 e2
    injection e2 with e2 e3
    subst e2
    subst e1
    split at h
    · rename_i hb
      simp only [Bool.and_eq_true, decide_eq_true_eq] at hb
      obtain ⟨⟨rfl, rfl⟩, rfl⟩ := hb
      split at h
      · rename_i hj
        cases hj
      · rename_i fs n hS hj
        injection hj with hj
        subst hj
        split at h
        · rename_i hc
          simp only [Bool.and_eq_true] at hc
          obtain ⟨v, hv, e⟩ := Option.map_eq_some_iff.mp h
          cases e
          exact ⟨rfl, fs, hS, hv, hc.2⟩
        · cases h
      · cases h
    · cases h
  · cases h
section
variable {X : Cx} {a C0 dd : Addr} {oe : Obj} {pn : List (Addr × Obj)} {x : D} {m i j : Nat} {CT : List Value}
/-- the slot of the error, and its fields' cell -/
theorem slot_obj {K : PySem.W.Frag} {G H : Hp} {da : List Addr} {S : Sto} {σ : L2.St} {r : Ev} (R : RelS K G H da S) (E : RelE K G da σ r) (h : r[i]? = some (some (.obj a dd m))) {fs : List (Str × D)} (hS : S[m]? = some (.xdc fs)) :
    σ[i]? = some (some (.ref a)) ∧ ∃ fl : List (Str × V), H dd = some (.xd fl) ∧ ∀ f e, fs.lookup f = some e → ∃ v, fl.lookup f = some v ∧ RD K G v e := by
  obtain ⟨v, e1, e2⟩ := E.val i _ h
  rcases e2 with e2 | ⟨_, _, e2, _⟩ | ⟨a', dd', m', e2, rfl, e3⟩
  · cases e2
  · cases e2
  · cases e2
    obtain ⟨_, c, h2, h3⟩ := R.cell m dd e3
    rw [hS] at h2
    cases h2
    exact ⟨e1, h3⟩
theorem pe_isx (hk : KinOk X.K CT C0 (kinOf x)) (hz : Zc (.ref C0) (some dd) oe) (hf : ∃ vs, oe.data = .fields vs) {ev t : Str} {p q p' pos : Pos} (hi : X.N[i]? = some ev) (hv : Vis X.env.scope ev) (ho : okName ev = true) (hg : Gl X t) (hgi : Gl X "isinstance") (hmi : X.mg "isinstance" = none) (hc : ClsAt X.mg CT t j) :
    PE (X.suite a ((a, oe) :: pn)) (.Call (.Name "isinstance" p) [.Name ev q, .Name t p'] [] pos) (rdE X.K (excC x a dd m) (.isx i j)) := by
  obtain ⟨o1, o2⟩ := name_ok ho
  have h1 : PE (X.suite a ((a, oe) :: pn)) (.Name ev q) (tVar i) := pe_var hi hv o1 o2
  obtain ⟨hd, hc⟩ := hc
  obtain ⟨v, cv, h2, hu, hct⟩ : ∃ (v : V) (cv : Value), PE (X.suite a ((a, oe) :: pn)) (.Name t p') (tC v) ∧ (∀ u, RelV v u → u = cv) ∧ CT[j]? = some cv := by
    rcases hc with ⟨C, h1, h2⟩ | ⟨ty, h1, h2, h3, h4⟩
    · exact ⟨.ref C, .ref C, pe_glob hg h1 rfl hd, fun u r => r, h2⟩
    · exact ⟨.ty ty, .type ty, pe_bltn hg h1 h2 rfl h3 hd, fun u r => r, h4⟩
  have pa : PA (X.suite a ((a, oe) :: pn)) [.Name ev q, .Name t p'] (tCons (tVar i) (tCons (tC v) tNil)) := pa_cons h1 (pa_cons h2 pa_nil)
  refine PE.imp (pe_callB (call_isX (dd := dd) hk.exc hz hf) hgi hmi (by decide +kernel) pa) fun σ H Q z => ?_
  obtain ⟨G, da, S, r, d, S', R, E, e, qq⟩ := z
  simp only [sem] at e
  split at e
  · rename_i o ho'
    split at e
    · rename_i b S1 hx
      cases e
      obtain ⟨rfl, ⟨fs, hS⟩, rfl⟩ := excC_is hx
      obtain ⟨k1, fl, k2, k3⟩ := slot_obj R E ho' hS
      exact ⟨.ref a, k1, v, cv, _, fl, rfl, hu, hk.is j cv hct, k2, qq _ H G da .refl R (.inl (.bl _))⟩
    · cases e
  · cases e
theorem pe_fldx (hk : KinOk X.K CT C0 (kinOf x)) (hz : Zc (.ref C0) (some dd) oe) (hf : ∃ vs, oe.data = .fields vs) (hno : ∀ f e, (fldOf x).lookup f = some e → PySem.W.findIn X.K (.ref C0) f = some none) {ev f : Str} {q pos : Pos} (hi : X.N[i]? = some ev) (hv : Vis X.env.scope ev) (ho : okName ev = true) :
    PE (X.suite a ((a, oe) :: pn)) (.Attribute (.Name ev q) f pos) (rdE X.K (excC x a dd m) (.fld i f)) := by
  obtain ⟨o1, o2⟩ := name_ok ho
  cases hl : (fldOf x).lookup f with
  | none =>
    refine PE.no fun σ H Q z => ?_
    obtain ⟨G, da, S, r, d, S', R, E, e, qq⟩ := z
    simp only [sem] at e
    split at e
    · split at e
      · rename_i hx
        obtain ⟨_, _, _, _, k⟩ := excC_fld hx
        rw [hl] at k
        cases k
      · cases e
    · cases e
  | some e0 =>
    refine PE.imp (pe_xf hk.xf (hno f e0 hl) hz hf (pe_var hi hv o1 o2)) fun σ H Q z => ?_
    obtain ⟨G, da, S, r, d, S', R, E, e, qq⟩ := z
    simp only [sem] at e
    split at e
    · rename_i o ho'
      split at e
      · rename_i d1 S1 hx
        split at e
        · cases e
        · cases e
          obtain ⟨rfl, fs, hS, hfs, _⟩ := excC_fld hx
          obtain ⟨k1, fl, k2, k3⟩ := slot_obj R E ho' hS
          obtain ⟨v, k4, k5⟩ := k3 f _ hfs
          exact ⟨.ref a, k1, rfl, rfl, dd, fl, v, rfl, k2, k4, qq v H G da .refl R (.inl k5)⟩
      · cases e
    · cases e
end
/-- what is known in a handler's suite -/
theorem fx_suite {c : CC} {X : Cx} {a C0 dd : Addr} {oe : Obj} {pn : List (Addr × Obj)} {x : D} {m : Nat} (hsu : c.su = true) (hN : X.N = c.N) (nd : c.N.Nodup) (hg : X.A.guards = some []) (hu : X.A.units + 200 < cLine) (hfn : ∀ y, X.fn y = true) (hb : ∀ y, y ∈ bltNames → X.mg y = none) (hgl : c.gl = [])
    (hev : okName c.ev = true) (hcl : ∀ t j, c.cl.lookup t = some j → ClsAt X.mg c.ct t j)
    (hk : KinOk X.K c.ct C0 (kinOf x)) (hz : Zc (.ref C0) (some dd) oe) (hf : ∃ vs, oe.data = .fields vs) (hno : ∀ f e, (fldOf x).lookup f = some e → PySem.W.findIn X.K (.ref C0) f = some none) :
    Fx c (excC x a dd m) (X.suite a ((a, oe) :: pn)) none :=
  ⟨⟨hN, nd, fun h => (by rw [hsu] at h; cases h), hg, hu, rfl, fun _ => hfn, fun s h => (by cases h), hb, fun y d h => (by rw [hgl] at h; cases h), fun h => (by rw [hsu] at h; cases h),
    fun _ y t i j p q p' pos e hi hv hgt hgi hj => by subst e; exact pe_isx hk hz hf (by rw [hN]; exact slot_ok hi) hv hev hgt hgi (hb _ (by decide)) (hcl t j hj),
    fun _ f i q pos hi hv => pe_fldx hk hz hf hno (by rw [hN]; exact slot_ok hi) hv hev⟩, fun h => (by rw [hsu] at h; cases h)⟩

/-! what a suite reckons does not hang on where its error lies -/
def offT (i : Nat) : Tm → Bool
  | .var j => decide (j ≠ i)
  | .cst _ => true
  | .nil => true
  | .cons a r => offT i a && offT i r
  | .tup r => offT i r
  | .lst r => offT i r
  | .op _ a b => offT i a && offT i b
  | .neg a => offT i a
  | .cmp _ a b => offT i a && offT i b
  | .andd a b => offT i a && offT i b
  | .orr a b => offT i a && offT i b
  | .nott a => offT i a
  | .ite c a b => offT i c && (offT i a && offT i b)
  | .ix a b => offT i a && offT i b
  | .isx j _ => decide (j = i)
  | .fld j _ => decide (j = i)
  | _ => false
def offS (i : Nat) : Sm → Bool
  | .skip => true
  | .asg (.name j) e => decide (j ≠ i) && offT i e
  | .ret e => offT i e
  | .retn => true
  | .ite c a b => offT i c && (offS i a && offS i b)
  | .seq a b => offS i a && offS i b
  | _ => false
structure Two (i : Nat) (x : D) (a d m : Nat) (r r' : Ev) : Prop where
  len : r.length = r'.length
  one : r[i]? = some (some (.obj 0 0 m))
  two : r'[i]? = some (some (.obj a d m))
  off : ∀ j, j ≠ i → r[j]? = r'[j]?
theorem exc_two {x : D} {a d m f : Nat} {y : D} {S : Sto} : excC x 0 0 m f [.obj 0 0 m, y] S = excC x a d m f [.obj a d m, y] S := by
  unfold excC
  simp
theorem sem_two {i : Nat} {x : D} {a d m : Nat} {r r' : Ev} (T : Two i x a d m r r') : ∀ (t : Tm) (S : Sto), offT i t = true → sem (excC x 0 0 m) t r S = sem (excC x a d m) t r' S ∧ semA (excC x 0 0 m) t r S = semA (excC x a d m) t r' S := by
  intro t
  induction t with
  | var j =>
    intro S h
    have := T.off j (of_decide_eq_true h)
    exact ⟨by simp only [sem, this], by simp only [semA]⟩
  | cst d => intro S h; exact ⟨by simp only [sem], by simp only [semA]⟩
  | nil => intro S h; exact ⟨by simp only [sem], by simp only [semA]⟩
  | cons a r iha ihr =>
    intro S h
    rw [offT, Bool.and_eq_true] at h
    refine ⟨by simp only [sem], ?_⟩
    simp only [semA, (iha S h.1).1]
    split
    · rfl
    · rename_i S1 _; rw [(ihr S1 h.2).2]
  | tup r ih => intro S h; exact ⟨by simp only [sem, (ih S h).2], by simp only [semA]⟩
  | lst r ih => intro S h; exact ⟨by simp only [sem, (ih S h).2], by simp only [semA]⟩
  | op o a b iha ihb =>
    intro S h
    rw [offT, Bool.and_eq_true] at h
    refine ⟨?_, by simp only [semA]⟩
    simp only [sem, (iha S h.1).1]
    split
    · rfl
    · rename_i S1 _; rw [(ihb S1 h.2).1]
  | neg a ih => intro S h; exact ⟨by simp only [sem, (ih S h).1], by simp only [semA]⟩
  | cmp o a b iha ihb =>
    intro S h
    rw [offT, Bool.and_eq_true] at h
    refine ⟨?_, by simp only [semA]⟩
    simp only [sem, (iha S h.1).1]
    split
    · rfl
    · rename_i S1 _; rw [(ihb S1 h.2).1]
  | andd a b iha ihb =>
    intro S h
    rw [offT, Bool.and_eq_true] at h
    refine ⟨?_, by simp only [semA]⟩
    simp only [sem, (iha S h.1).1]
    split
    · rename_i S1 _; rw [(ihb S1 h.2).1]
    · rfl
    · rfl
  | orr a b iha ihb =>
    intro S h
    rw [offT, Bool.and_eq_true] at h
    refine ⟨?_, by simp only [semA]⟩
    simp only [sem, (iha S h.1).1]
    split
    · rename_i S1 _; rw [(ihb S1 h.2).1]
    · rfl
    · rfl
  | nott a ih => intro S h; exact ⟨by simp only [sem, (ih S h).1], by simp only [semA]⟩
  | ite c a b ihc iha ihb =>
    intro S h
    rw [offT, Bool.and_eq_true, Bool.and_eq_true] at h
    refine ⟨?_, by simp only [semA]⟩
    simp only [sem, (ihc S h.1).1]
    split
    · rename_i S1 _; rw [(iha S1 h.2.1).1]
    · rename_i S1 _; rw [(ihb S1 h.2.2).1]
    · rfl
  | ix a b iha ihb =>
    intro S h
    rw [offT, Bool.and_eq_true] at h
    refine ⟨?_, by simp only [semA]⟩
    simp only [sem, (iha S h.1).1]
    split
    · rfl
    · rename_i S1 _; rw [(ihb S1 h.2).1]
  | isx j k =>
    intro S h
    have e : j = i := of_decide_eq_true h
    subst e
    exact ⟨by simp only [sem, T.one, T.two]; rw [exc_two], by simp only [semA]⟩
  | fld j f =>
    intro S h
    have e : j = i := of_decide_eq_true h
    subst e
    exact ⟨by simp only [sem, T.one, T.two]; rw [exc_two], by simp only [semA]⟩
  | _ => intro S h; cases h
inductive FlT (i : Nat) (x : D) (a d m : Nat) : Fl → Fl → Prop
  | nx {r r' : Ev} : Two i x a d m r r' → FlT i x a d m (.nx r) (.nx r')
  | rt (e : D) : FlT i x a d m (.rt e) (.rt e)
theorem exe_two {i : Nat} {x : D} {a d m : Nat} : ∀ (s : Sm) (r r' : Ev) (S : Sto) (f : Fl) (S1 : Sto), Two i x a d m r r' → offS i s = true → exe (excC x 0 0 m) s r S = some (f, S1) → ∃ f', exe (excC x a d m) s r' S = some (f', S1) ∧ FlT i x a d m f f' := by
  intro s
  induction s with
  | skip =>
    intro r r' S f S1 T h e
    simp only [exe] at e
    cases e
    exact ⟨.nx r', by simp only [exe], .nx T⟩
  | asg g e =>
    intro r r' S f S1 T h e'
    cases g <;> try (cases h; done)
    rename_i j
    rw [offS, Bool.and_eq_true, decide_eq_true_eq] at h
    simp only [exe, (sem_two T e S h.2).1] at e' ⊢
    split at e'
    · cases e'
    · rename_i v S2 he
      simp only [setG] at e' ⊢
      by_cases hj : j < r.length
      · rw [if_pos hj] at e'
        cases e'
        rw [if_pos (by rw [← T.len]; exact hj)]
        refine ⟨_, rfl, .nx ⟨by simp [T.len], ?_, ?_, fun k hk => ?_⟩⟩
        · rw [List.getElem?_set_ne h.1]; exact T.one
        · rw [List.getElem?_set_ne h.1]; exact T.two
        · by_cases q : j = k
          · subst q; rw [List.getElem?_set_self hj, List.getElem?_set_self (by rw [← T.len]; exact hj)]
          · rw [List.getElem?_set_ne q, List.getElem?_set_ne q]; exact T.off k hk
      · rw [if_neg hj] at e'
        cases e'
  | ret e =>
    intro r r' S f S1 T h e'
    simp only [exe, (sem_two T e S h).1] at e' ⊢
    split at e'
    · cases e'
    · cases e'
      exact ⟨_, rfl, .rt _⟩
  | retn =>
    intro r r' S f S1 T h e
    simp only [exe] at e ⊢
    cases e
    exact ⟨_, rfl, .rt _⟩
  | ite c p q ihp ihq =>
    intro r r' S f S1 T h e
    rw [offS, Bool.and_eq_true, Bool.and_eq_true] at h
    simp only [exe, (sem_two T c S h.1).1] at e ⊢
    split at e
    · rename_i S2 _
      exact ihp r r' S2 f S1 T h.2.1 e
    · rename_i S2 _
      exact ihq r r' S2 f S1 T h.2.2 e
    · cases e
  | seq p q ihp ihq =>
    intro r r' S f S1 T h e
    rw [offS, Bool.and_eq_true] at h
    simp only [exe] at e ⊢
    cases hp : exe (excC x 0 0 m) p r S with
    | none => rw [hp] at e; cases e
    | some y =>
      obtain ⟨f1, S2⟩ := y
      rw [hp] at e
      obtain ⟨f2, h2, ft⟩ := ihp r r' S f1 S2 T h.1 hp
      rw [h2]
      cases ft with
      | nx T2 => exact ihq _ _ S2 f S1 T2 h.2 e
      | rt v =>
        cases e
        exact ⟨_, rfl, .rt _⟩
  | _ => intro r r' S f S1 T h e; cases h
end AOne
end

section
set_option Elab.async false
set_option linter.all false
set_option maxRecDepth 100000
set_option maxHeartbeats 4000000
set_option autoImplicit false
/-! E7: the tables of a law's lambdas; a def that hears a lambda. -/
namespace AOne
open PySem PySem.Spec L2
open PyProof.Rows (envOfC)
open LamX (Tabs TabS ExtN CodeO)
/-- all tables of the law -/
def tabL (K : PySem.W.Frag) (lt : List Str) : List (Addr × Str) := lt.map fun y => ((He.cT K (y, none)).2, y ++ ".<locals>." ++ "<lambda>")
theorem tabs_get : ∀ {lt : List Str} {S : Sto}, tabsB lt S = true → (∀ (k : Nat) y, lt[k]? = some y → S[k]? = some (.tab y)) ∧ ∀ (k : Nat) y, S[k]? = some (.tab y) → lt[k]? = some y
  | [], S, h => by
    refine ⟨fun k y e => by simp at e, fun k y e => ?_⟩
    have := List.all_eq_true.mp (show S.all _ = true from h) _ (List.mem_of_getElem? e)
    cases this
  | x :: lt, [], h => by cases h
  | x :: lt, c :: S, h => by
    cases c with
    | tab y0 =>
      rw [tabsB, Bool.and_eq_true, decide_eq_true_eq] at h
      obtain ⟨rfl, h⟩ := h
      obtain ⟨h1, h2⟩ := tabs_get h
      refine ⟨fun k y e => ?_, fun k y e => ?_⟩
      · cases k with
        | zero => simpa using e
        | succ k => simpa using h1 k y (by simpa using e)
      · cases k with
        | zero => simpa using e
        | succ k => simpa using h2 k y (by simpa using e)
    | _ => cases h
section
variable {K : PySem.W.Frag} {G H H1 : Hp} {da : List Addr} {S : Sto} {lt : List Str}
theorem tabs_of (R : RelS K G H da S) (hT : tabsB lt S = true) : Tabs (tabL K lt) H := by
  intro p hp
  obtain ⟨y, hy, rfl⟩ := List.mem_map.mp hp
  obtain ⟨k, hk, e⟩ := List.mem_iff_getElem.mp hy
  have hS := (tabs_get hT).1 k y (by rw [List.getElem?_eq_getElem hk, e])
  have hl : k < da.length := by rw [R.len]; exact (List.getElem?_eq_some_iff.mp hS).1
  obtain ⟨_, c, h2, h3⟩ := R.cell k _ (List.getElem?_eq_getElem hl)
  rw [hS] at h2
  cases h2
  obtain ⟨e1, ps, e2, e3, e4⟩ := h3
  rw [e1] at e2
  exact ⟨ps, e2, e3, fun pos cv hc => let ⟨c, k1, k2⟩ := e4 pos cv hc; ⟨c, k1, R.same _ _ k2⟩⟩
/-- behind the making of a lambda: the store as it was, the own table grown -/
theorem ext_tab (R : RelS K G H da S) {k : Nat} {y : Str} {ps more : Array Value} {c : Addr} (hS : S[k]? = some (.tab y)) (hP : H (He.cT K (y, none)).2 = some (.tbl ps)) (hc : H c = none)
    (ho : ∀ pos cv, codeAmong pos ps.toList = some cv → ∃ c0, cv = .ref c0 ∧ G c0 = some (CodeO c0 (y ++ ".<locals>." ++ "<lambda>")))
    (ht : TriplesOk (ps ++ more).toList) (hm : ∀ pos cv, codeAmong pos (ps ++ more).toList = some cv → codeAmong pos ps.toList = some cv ∨ cv = .ref c) (hk : da[k]? = some (He.cT K (y, none)).2) :
    Grow G H da (upd G c (CodeO c (y ++ ".<locals>." ++ "<lambda>"))) (upd (upd H (He.cT K (y, none)).2 (.tbl (ps ++ more))) c (CodeO c (y ++ ".<locals>." ++ "<lambda>"))) da ∧
      RelS K (upd G c (CodeO c (y ++ ".<locals>." ++ "<lambda>"))) (upd (upd H (He.cT K (y, none)).2 (.tbl (ps ++ more))) c (CodeO c (y ++ ".<locals>." ++ "<lambda>"))) da S := by
  generalize hPP : (He.cT K (y, none)).2 = P at hP hk ⊢
  have gP : G P = none := (R.cell k P hk).1.elim id fun ⟨xs, z⟩ => by rw [hS] at z; cases z
  have gc : G c = none := R.gnone hc
  have nc : c ∉ da := R.notIn hc
  have at1 : ∀ b, b ≠ c → b ≠ P → upd (upd H P (.tbl (ps ++ more))) c (CodeO c (y ++ ".<locals>." ++ "<lambda>")) b = H b := fun b h1 h2 => by rw [upd_ne h1, upd_ne h2]
  have nP : P ≠ c := ne_of_none hP hc
  refine ⟨⟨same_fresh gc, fun b h1 h0 h2 h3 => ?_, fun b o e hb n => ?_, fun b hb => ?_, ⟨[], by simp⟩, fun _ h => .inl h⟩, ⟨fun b o e => ?_, R.len, R.nd, fun n a e => ?_, fun b qs z => ?_⟩⟩
  · rw [upd_ne (fun z => h1 (by rw [z]; exact hc))]; exact h2
  · rw [at1 b (ne_of_none e hc) (fun z => hb (by rw [z]; exact List.mem_of_getElem? hk))]; exact e
  · by_cases q1 : b = c
    · rw [q1, upd_same]; simp
    · by_cases q2 : b = P
      · rw [upd_ne q1, q2, upd_same]; simp
      · rw [at1 b q1 q2]; exact hb
  · by_cases q1 : b = c
    · subst q1; rw [upd_same] at e ⊢; exact e
    · rw [upd_ne q1] at e
      rw [at1 b q1 (fun z => by rw [z, gP] at e; cases e)]
      exact R.same b o e
  · obtain ⟨h1, c1, h2, h3⟩ := R.cell n a e
    have nac : a ≠ c := fun z => nc (by rw [← z]; exact List.mem_of_getElem? e)
    refine ⟨h1.imp (fun z => by rw [upd_ne nac]; exact z) id, c1, h2, ?_⟩
    by_cases hn : n = k
    · subst hn
      rw [hk] at e
      cases e
      rw [hS] at h2
      cases h2
      refine ⟨hPP.symm, ps ++ more, by rw [upd_ne nac, upd_same], ht, fun pos cv hcv => ?_⟩
      rcases hm pos cv hcv with z | z
      · obtain ⟨c0, k1, k2⟩ := ho pos cv z
        exact ⟨c0, k1, same_fresh gc _ _ k2⟩
      · exact ⟨c, z, upd_same⟩
    · have naP : a ≠ P := fun z => by
        subst z
        have l1 := List.getElem?_eq_some_iff.mp e
        have l2 := List.getElem?_eq_some_iff.mp hk
        exact hn ((List.getElem_inj R.nd).mp (l1.2.trans l2.2.symm))
      exact h3.mono (same_fresh gc) (at1 a nac naP)
  · by_cases q1 : b = c
    · subst q1; rw [upd_same] at z; exact LamX.codeO_ne qs (Option.some.inj z)
    · rw [upd_ne q1] at z; exact R.nt b qs z
end
/-! the lambda is made, called -/
section
variable {X : Cx} {pins : List (Addr × Obj)} {σ : L2.St} {H : Hp} {s : Shared}
/-- where a lambda's code lies behind its making: in the old table, or in the grown one -/
def Made (H : Hp) (P c : Addr) (q : Str) (ps : Array Value) (H1 : Hp) : Prop := H1 = H ∨ ∃ more : Array Value, H c = none ∧ TriplesOk (ps ++ more).toList ∧ (∀ pos cv, codeAmong pos (ps ++ more).toList = some cv → codeAmong pos ps.toList = some cv ∨ cv = .ref c) ∧ H1 = upd (upd H P (.tbl (ps ++ more))) c (CodeO c q)
theorem lam_new {cd P : Addr} {ps : Array Value} {pars : Arguments} {bd : Expr} {sc1 : Scope} {lpos : Pos} {E0 : Value → Shared → Prop} {Q0 : Value → Shared → Prop} (I : Inv X pins σ H s) (B : LamX.TabB X.base X.mg cd P) (hcd : X.env.code = .ref cd) (hP : H P = some (.tbl ps)) (h3 : TriplesOk ps.toList)
    (hall : ∀ pos cv, codeAmong pos ps.toList = some cv → ∃ c, cv = .ref c ∧ H c = some (CodeO c (X.env.qual ++ "<lambda>"))) (hno : defaultsOf pars X.env = ([], [])) (hfr : ∀ y ∈ sc1.names, y.2 = .free → ∃ c, X.env.cells.lookup y.1 = some c)
    (fin : ∀ (f c : Addr) (pm ct : Value) (H1 : Hp) (s1 : Shared), Inv X pins σ H1 s1 → Made H P c (X.env.qual ++ "<lambda>") ps H1 →
      s1.heap.get? f = some (PySem.W.kla_obj "<lambda>" (X.env.qual ++ "<lambda>") pars bd sc1 (cloFrom X.env.cells sc1.names []) pm c ct) → H1 f = none → f ∉ frs X.stack → H1 c = some (CodeO c (X.env.qual ++ "<lambda>")) → Q0 (.ref f) s1) :
    wpAny (model X.prog X.w) X.A (eval (.Lambda pars bd sc1 lpos) X.env) Q0 E0 s := by
  refine PySem.W.kla_eval hno ?_
  have hob : s.heap.get? P = some { cls := .none, data := .fields ps } := I.hok P _ hP
  have out : ∀ z, s.heap.objs.size ≤ z → z ∉ frs X.stack := fun z hz hm => by
    rcases List.mem_cons.mp (I.stkSub _ hm) with e | e
    · exact absurd I.lt (by rw [← e]; exact Nat.not_lt.mpr hz)
    · exact I.nofs hz e
  cases hca : codeAmong lpos ps.toList with
  | some cv =>
    obtain ⟨c, rfl, hc⟩ := hall lpos cv hca
    refine PySem.W.kla_makeFunctionHit (c := cd) (P := P) (ps := ps) (mg := X.mg) (closure_ok hfr) I.ok.glob (I.mod.glob.keeps I.bk) hcd (B.code.keeps I.bk) hob h3 hca (B.bm.keeps I.bk) fun ct h1 tk hk hsz => ?_
    exact fin h1.objs.size c _ ct H _ (I.kept fun b o e => Heap.get?_push_of_some _ (hk b o e)) (.inl rfl) (Heap.get?_push_size _ rfl) (I.hok.fresh hsz) (out _ hsz) hc
  | none =>
    refine PySem.W.kla_makeFunction (c := cd) (P := P) (ps := ps) (mg := X.mg) (closure_ok hfr) I.ok.glob (I.mod.glob.keeps I.bk) hcd (B.code.keeps I.bk) hob h3 hca B.gP (B.bm.keeps I.bk) fun c ct h1 tk hk hge hlt hrec htb => ?_
    obtain ⟨c2, oc, vs, t, e2, k1, k2, k3⟩ := hrec
    cases e2
    have big : s.heap.objs.size ≤ h1.objs.size := Nat.le_trans hge (Nat.le_of_lt hlt)
    have cn : H c = none := I.hok.fresh hge
    have J := LamX.inv_table (q := X.env.qual ++ "<lambda>") (t' := tk) (more := #[rawInt lpos.line, rawInt lpos.col, .ref c]) (h' := h1.push (PySem.W.kla_obj "<lambda>" (X.env.qual ++ "<lambda>") pars bd sc1 (cloFrom X.env.cells sc1.names []) ((X.mg "__name__").getD .none) c ct)) I hP
      (fun b o hb e => Heap.get?_push_of_some _ (hk b o hb e)) (Heap.get?_push_of_some _ htb) hge ⟨oc, vs, t, Heap.get?_push_of_some _ k1, k2, k3⟩
    have el : (ps ++ #[rawInt lpos.line, rawInt lpos.col, .ref c]).toList = ps.toList ++ [rawInt lpos.line, rawInt lpos.col, .ref c] := by simp
    refine fin h1.objs.size c _ ct _ _ J (.inr ⟨_, cn, by rw [el]; exact PySem.TriplesOk_snoc _ _ _ _ h3, fun pos cv hz => ?_, rfl⟩) (Heap.get?_push_size _ rfl) ?_ (out _ big) upd_same
    · rw [el] at hz
      exact LamX.among_app _ h3 hz
    · rw [upd_ne (Nat.ne_of_gt hlt), upd_ne (Nat.ne_of_gt (Nat.lt_of_lt_of_le (Heap.lt_size hob) big))]
      exact I.hok.fresh big
end
end AOne
end

section
set_option Elab.async false
set_option linter.all false
set_option maxRecDepth 100000
set_option maxHeartbeats 4000000
set_option autoImplicit false
/-! E8: a def is called with a lambda. -/
namespace AOne
open PySem PySem.Spec L2
open PyProof.Rows (envOfC)
open LamX (CodeO lamEnv lamCx LamS GivesTo)
section
variable {X : Cx} {pins : List (Addr × Obj)} {σ : L2.St} {H : Hp} {s : Shared}
/-- the lambda is called by the def that got it -/
theorem act_of {X1 : CXT} {E1 : XK} {N1 : List Str} {q1 : Str} {sg : Scope} {g f c : Addr} {cdg pm ct : Value} {pars : Arguments} {bd : Expr} {sc1 : Scope} {k i : Nat} {a : Str} {pn : List (Addr × Obj)} {xe : Value → Shared → Prop} {W : WX} {E : XK} {tb : TE} {p1 p2 : Pos}
    (I : Inv X pins σ H s) (L : LamS X.env.scope sc1) (ho : s.heap.get? f = some (PySem.W.kla_obj "<lambda>" (X.env.qual ++ "<lambda>") pars bd sc1 (cloFrom X.env.cells sc1.names []) pm c ct)) (hfn : H f = none) (hfr : f ∉ frs X.stack)
    (hba : bindArgs (PySem.W.kla_fn "<lambda>" (X.env.qual ++ "<lambda>") pars bd sc1 (cloFrom X.env.cells sc1.names []) pm (.ref c) ct) ⟨[], []⟩ = pure [])
    (tk : Takes ((cxOf X1 X.prog X.w X.K X.mg X.base N1 q1 sg g cdg X.A X.stack s H E1).tr pn xe) W) (hW : ∀ cls d σ1 H1, E cls d H1 → W cls d σ1 H1) (hr : Room (k + 1) (X.A.deeper (envOfC q1 sg s.heap.objs.size g cdg)))
    (hb : ∀ (l : List Env) (s1 : Shared) (H1 : Hp), Room k ((X.A.deeper (envOfC q1 sg s.heap.objs.size g cdg)).deeper (lamEnv X sc1 s1.heap.objs.size f c)) → PE (lamCx X (X.A.deeper (envOfC q1 sg s.heap.objs.size g cdg)) l s1 H1 E sc1 f c) bd tb)
    (hi : N1[i]? = some a) (hv : Vis sg a) (hd : (a == ("__debug__" : Str)) = false) (hcd : (a == ("__classdict__" : Str)) = false) :
    PE ((cxOf X1 X.prog X.w X.K X.mg X.base N1 q1 sg g cdg X.A X.stack s H E1).tr pn xe) (.Call (.Name a p1) [] [] p2)
      (fun τ H2 Q => τ[i]? = some (some (.ref f)) ∧ H2 c = some (CodeO c (X.env.qual ++ "<lambda>")) ∧ tb σ H2 Q) := by
  refine ⟨fun pz s2 τ H2 Q J ⟨h1, h2, h3⟩ => ?_⟩
  refine wpAny_Call_Name_kw (thn ((pe_var (pos := p1) (i := i) hi hv hd hcd).run pz s2 τ H2 (fun v H3 => v = .ref f ∧ H3 = H2) J ⟨.ref f, h1, rfl, rfl⟩) fun u s3 ⟨v, H3, J3, r3, ev, eh⟩ => ?_)
  subst ev
  rw [eh] at J3
  have eu : u = Value.ref f := r3
  subst eu
  have o3 := J3.base.keep f _ ho hfn hfr (fun z => nomatch (show f ∈ ([] : List Addr) from z))
  refine PySem.W.callWith_F0 ⟨_, _, _, _, o3⟩ ?_
  have un : Un (frs X.stack) [] H H2 s.heap s3.heap := J3.base
  obtain ⟨⟨oc, vs, t, c1, c2, c3⟩, _, _⟩ := J3.hok c _ h2
  have run : codeAny (model X.prog X.w) (X.A.deeper (envOfC q1 sg s.heap.objs.size g cdg)) (.call (.ref f) ⟨[], []⟩) (CR (L2.CX X.prog X.w) (envOfC q1 sg s.heap.objs.size g cdg :: X.stack) X.prog X.w H2 s3 Q E) s3 := by
    refine PySem.W.kla_callFunE hr.depth o3 rfl L.co L.gen rfl ⟨c, oc, vs, t, rfl, c1, c2, c3⟩ ?_
    rw [hba]
    refine wpAny_pure (wpAny_newFunctionEnv (fun y hy => (L.own y hy).2) (fun y hy => absurd hy (by simp)) (fun h4 n4 k4 => ⟨J3.nolimit.fresh _ k4, ?_⟩) L.kind)
    show codeAny _ _ (.expr bd (lamEnv X sc1 s3.heap.objs.size f c)) _ _
    have kp : ∀ b o, s3.heap.get? b = some o → h4.get? b = some o := fun b o e => k4.extBut b o (Nat.ne_of_lt (Heap.lt_size e)) (Heap.get?_push_of_some _ e)
    have Y := LamX.lam_start2 (E := E) (f := f) (c' := c) (tk := s3.toks + ([] : List (Str × Value)).length) I L J3.env0 hr.hd un n4 kp
    refine PySem.W.kla_codeExpr (wpAny_mono ((hb _ s3 H2 (hr.deeper _)).run [] _ _ H2 Q Y h3) (fun v s5 ⟨w, H5, Y5, rv, q5⟩ => ⟨w, H5, Y5.os, Y5.bare, Y5.base, Y5.hok, rv, q5⟩) fun e s5 z => z)
  refine wpAny_call (codeAny_mono run fun res s5 hq => ?_)
  cases res with
  | error e => exact passes_call tk hW pz τ H2 s3 e s5 J3 hq
  | ok fl => cases fl <;> first | exact J3.after hq | exact False.elim hq
/-- x(lambda: ..) -/
theorem lam_call {TT : (XK → Hp → VK → Prop) → Hp → VK → Prop} {x a : Str} {g cd P : Addr} {k : Nat} {pg pars : Arguments} {bg : List Stmt} {sg sc1 : Scope} {fd : FuncData} {N1 : List Str} {bd : Expr} {t : XK → TE} {p lp pos : Pos}
    (hg : Gl X x) (hm : X.mg x = some (.ref g)) (F : FunD X.K x x pg bg sg [] [] g fd) (hbi : ∀ s u, X.K.In s.heap → BindsTo s fd ⟨[u], []⟩ [(a, u)]) (Sg : FnScope N1 [a] sg) (h0 : N1[0]? = some a) (hv : Vis sg a)
    (hG : ∀ cdv, GivesTo X N1 x sg g cdv bg a (X.env.qual ++ "<lambda>") TT) (B : LamX.TabB X.base X.mg cd P) (hcd : X.env.code = .ref cd) (hr : Room (k + 2) X.A) (L : LamS X.env.scope sc1) (hno : defaultsOf pars X.env = ([], []))
    (hba : ∀ (q : Str) (cl : List (Str × Addr)) (pm cv ct : Value), bindArgs (PySem.W.kla_fn "<lambda>" q pars bd sc1 cl pm cv ct) ⟨[], []⟩ = pure [])
    (hb : ∀ (A : Around) (l : List Env) (s1 : Shared) (H1 : Hp) (E : XK) (f c : Addr), A.guards = X.A.guards → Room k (A.deeper (lamEnv X sc1 s1.heap.objs.size f c)) → PE (lamCx X A l s1 H1 E sc1 f c) bd (t E))
    (hdx : (x == ("__debug__" : Str)) = false) (hd : (a == ("__debug__" : Str)) = false) (hcl : (a == ("__classdict__" : Str)) = false) :
    PE X (.Call (.Name x p) [.Lambda pars bd sc1 lp] [] pos) (fun σ H Q => ∃ ps : Array Value, H P = some (.tbl ps) ∧ TriplesOk ps.toList ∧ (∀ pos cv, codeAmong pos ps.toList = some cv → ∃ c, cv = .ref c ∧ H c = some (CodeO c (X.env.qual ++ "<lambda>"))) ∧
      ∀ c H1, Made H P c (X.env.qual ++ "<lambda>") ps H1 → TT (fun E H2 Q2 => t E σ H2 Q2) H1 Q) := by
  refine ⟨fun pins s σ H Q I ⟨ps, hP, h3, hall, h⟩ => ?_⟩
  obtain ⟨oc, od, dV, kV, doc, pm, an, cdv, ct, osl, rfl, lk, hcv, _, _⟩ := id F.ex
  refine wpAny_Call_Name_kw (ld_glob I hg hm ?_ hdx)
  refine PySem.W.callWith_K (h₀ := X.base) I.ok.mod.kin F.kp ?_ (by rfl) (by rfl)
  show wpAny _ _ (spliced ((false, eval (.Lambda pars bd sc1 lp) X.env) :: backTo pos (starEach [] X.env))) _ _ s
  refine Calls.spliced_cons (lam_new I B hcd hP h3 hall hno (L.has I.ok) fun f c pm1 ct1 H1 s1 I1 md of fn fr co => ?_)
  refine Calls.spliced_nil ⟨I1.kIn, ?_⟩
  have run : codeAny (model X.prog X.w) X.A (.call (.ref g) ⟨[.ref f], []⟩) (CR C8.CX0 X.stack X.prog X.w H1 s1 Q C8.E0) s1 := by
    refine LamX.run_ofS (N := N1) (ps := [a]) (us := [.ref f]) (vs := [.ref f]) lk hcv Sg hr I1.env0 (hbi s1 (.ref f) I1.kIn) (.cons rfl .nil) rfl fun hr1 => ?_
    obtain ⟨t1, k1, k2⟩ := hG cdv f c s1 H1 Q (fun E H2 Q2 => t E σ H2 Q2) (fun W pn xe E p1 p2 tk hW => act_of (i := 0) I1 L of fn fr (hba _ _ _ _ _) tk hW hr1 (fun l s2 H2 hr2 => hb _ l s2 H2 E f c rfl hr2) h0 hv hd hcl) co (h c H1 md)
    exact ⟨t1, k1.nox, k2⟩
  refine wpAny_call (codeAny_mono run fun res s2 hq => ?_)
  cases res with
  | error e => exact (show False from hq).elim
  | ok fl => cases fl <;> first | exact I1.after hq | exact False.elim hq
end
/-! the def that hears: try: return (told, a()) / except e as ev: suite -/
structure HearOk (K : PySem.W.Frag) (mg : Str → Option Value) (CT : List Value) (T : List Df) (x : Str) (h : Nat) (told : Str) : Prop where
  ex : ∃ (g : Addr) (fd : FuncData) (pg : Arguments) (sg : Scope) (N1 : List Str) (a e ev : Str) (CS : Addr) (ie j fuel : Nat) (cl : List (Str × Nat)) (b0 : Stmt) (suite : List Stmt) (su : Sm) (j1 k1 : Nat) (p1 p2 p3 p4 p5 p6 p7 p8 : Pos),
    FunD K x x pg [.Try [.Return (some (.Tuple [.Constant (.str told) j1 p1, .Call (.Name a p2) [] [] p3] k1 p4)) p5] [.ExceptHandler (some (.Name e p6)) (some ev) (b0 :: suite) p7] [] [] p8] sg [] [] g fd ∧ mg x = some (.ref g) ∧
    (∀ s u, K.In s.heap → BindsTo s fd ⟨[u], []⟩ [(a, u)]) ∧ FnScope N1 [a] sg ∧ N1[0]? = some a ∧ Vis sg a ∧ okName a = true ∧ N1[ie]? = some ev ∧ sg.names.lookup ev = some .local ∧ okName ev = true ∧
    sg.names.lookup e = some .globalImplicit ∧ (e == ("__debug__" : Str)) = false ∧ mg e = some (.ref CS) ∧ CT[j]? = some (.ref CS) ∧ T[h]? = some ⟨N1.length, 1, .tryr j ie su⟩ ∧
    (rsc ⟨N1, [], [], [], true, ev, cl, [], [], none, CT⟩ fuel).ss sg (b0 :: suite) = some su ∧ offS ie su = true ∧ ∀ t j, cl.lookup t = some j → ClsAt mg CT t j
/-- what the suite must do with an error -/
def TS0 (K : PySem.W.Frag) (CT : List Value) (su : Sm) (a : Addr) (cls : Value) (d : Option Addr) : TS := fun D σ H => ∃ (x : AOne.D) (C0 dd : Addr) (m : Nat), cls = .ref C0 ∧ d = some dd ∧ KinOk K CT C0 (kinOf x) ∧ (∀ f e, (fldOf x).lookup f = some e → PySem.W.findIn K (.ref C0) f = some none) ∧ rdS K (excC x a dd m) su D σ H
def EXh (K : PySem.W.Frag) (CT : List Value) (su : Sm) (CS : Addr) (n ie : Nat) (Q : VK) : XK := fun cls d H => PySem.W.exmOne K cls (.ref CS) = some true ∧ ∀ (a : Addr) (σ : L2.St), H a = none → σ.length = n → σ[ie]? = some (some (.ref a)) → TS0 K CT su a cls d { nx := fun _ H2 => Q .non H2, rt := Q } σ H
def TTh (K : PySem.W.Frag) (CT : List Value) (su : Sm) (CS : Addr) (n ie : Nat) (told : Str) : (XK → Hp → VK → Prop) → Hp → VK → Prop := fun tl H Q => tl (EXh K CT su CS n ie Q) H (fun v H2 => ∀ p, H2 p = none → Q (.ref p) (upd H2 p (.tup [.str told, v])))
theorem hear_gives (Z : Srt) {X : Cx} {x a e ev q told : Str} {sg : Scope} {g CS : Addr} {cdg : Value} {N1 : List Str} {CT : List Value} {ie fuel : Nat} {cl : List (Str × Nat)} {b0 : Stmt} {suite : List Stmt} {su : Sm} {j1 k1 : Nat} {p1 p2 p3 p4 p5 p6 p7 p8 : Pos}
    (Sg : FnScope N1 [a] sg) (hie : N1[ie]? = some ev) (hev : sg.names.lookup ev = some .local) (oev : okName ev = true) (hge : sg.names.lookup e = some .globalImplicit) (hde : (e == ("__debug__" : Str)) = false) (hme : X.mg e = some (.ref CS)) (h0 : N1[0]? = some a)
    (hc : (rsc ⟨N1, [], [], [], true, ev, cl, [], [], none, CT⟩ fuel).ss sg (b0 :: suite) = some su) (hcl : ∀ t j, cl.lookup t = some j → ClsAt X.mg CT t j) (hgd : X.A.guards = some []) (hun : X.A.units + 210 < cLine) (hbl : ∀ y, y ∈ bltNames → X.mg y = none) :
    GivesTo X N1 x sg g cdg [.Try [.Return (some (.Tuple [.Constant (.str told) j1 p1, .Call (.Name a p2) [] [] p3] k1 p4)) p5] [.ExceptHandler (some (.Name e p6)) (some ev) (b0 :: suite) p7] [] [] p8] a q (TTh X.K CT su CS N1.length ie told) := by
  intro f c s H Q tl act hco h
  have hn : ie < N1.length := (List.getElem?_eq_some_iff.mp hie).1
  have hgl : Gl (cxOf C8.CX0 X.prog X.w X.K X.mg X.base N1 x sg g cdg X.A X.stack s H C8.E0).nox e := hge
  refine ⟨_, pss_one (ps_try_as (X := (cxOf C8.CX0 X.prog X.w X.K X.mg X.base N1 x sg g cdg X.A X.stack s H C8.E0).nox) (x := e) (n := ev) (c := .ref CS) (i := ie)
      (tb := fun W D σ H => ∃ Ec : XK, (∀ cls d σ1 H1, Ec cls d H1 → W cls d σ1 H1) ∧ σ[0]? = some (some (.ref f)) ∧ H c = some (CodeO c q) ∧ tl Ec H (fun v H2 => ∀ p, H2 p = none → D.rt (.ref p) (upd H2 p (.tup [.str told, v]))))
      (ts := fun a cls d D σ H => σ.length = N1.length → TS0 X.K CT su a cls d D σ H)
      rfl rfl Sg.nd hie hev ⟨hgl, hde, .inl hme⟩ LamX.takes0 (fun W pn xe tk _ => ?_) (fun a oe cls d pn hz hf => ?_)), ?_⟩
  · refine ⟨fun pins s1 σ H1 D I ⟨Ec, hW, h1, h2, h3⟩ => ?_⟩
    have hp := act W pn xe Ec p2 p3 tk hW
    have pt := pe_tup (x1 := k1) (pos := p4) (pa_cons (pe_str (x := told) (j := j1) (pos := p1)) (pa_cons hp pa_nil))
    exact (pss_one (ps_ret (pos := p5) pt)).run pins s1 σ H1 D I ⟨h1, h2, by
      refine cast (congrArg (fun R => tl Ec H1 R) ?_) h3
      funext v H2
      refine propext ⟨fun z => ⟨by rw [sizeLine_eq]; simp, z⟩, fun z => z.2⟩⟩
  · refine ⟨fun pins s1 σ H1 D I z => ?_⟩
    obtain ⟨y, C0, dd, m, rfl, rfl, hk, hno, hr⟩ := z I.len
    have F := fx_suite (c := ⟨N1, [], [], [], true, ev, cl, [], [], none, CT⟩) (X := (cxOf C8.CX0 X.prog X.w X.K X.mg X.base N1 x sg g cdg X.A X.stack s H C8.E0).nox) (a := a) (pn := pn) (m := m) rfl rfl Sg.nd hgd (by show (X.A.deeper _).units + 200 < cLine; show X.A.units + 3 + 200 < cLine; omega) (fun _ => rfl) hbl rfl oev hcl hk hz hf hno
    exact (snd_ss (sa_of Z) fuel _ sg (b0 :: suite) su F rfl Sg.kind hc).run pins s1 σ H1 D I hr
  · refine ⟨EXh X.K CT su CS N1.length ie Q, fun cls d σ1 H1 ⟨k1, k2⟩ => ⟨true, k1, fun _ b hb hl => k2 b _ hb hl ?_, fun z => by cases z⟩, ?_, hco, h⟩
    · rw [List.length_set] at hl
      rw [List.getElem?_set_self (by rw [hl]; exact hn)]
    · unfold L2.start
      rfl
end AOne
end

section
set_option Elab.async false
set_option linter.all false
set_option maxRecDepth 100000
set_option maxHeartbeats 4000000
set_option autoImplicit false
/-! A16: the defs of a table keep their promises, level by level. -/
namespace AOne
open PySem PySem.Spec L2
open PyProof.Rows (envOfC)

section
variable {K : PySem.W.Frag} {G H G' H' : Hp} {da da' : List Addr} {S S' : Sto}
theorem RelS.pre (R : RelS K G' H' (da ++ da') S') : RelS K G' H' da (S'.take da.length) := by
  have hl := R.len
  rw [List.length_append] at hl
  refine ⟨R.same, by rw [List.length_take]; omega, (List.nodup_append.mp R.nd).1, fun n a e => ?_, R.nt⟩
  have hn := (List.getElem?_eq_some_iff.mp e).1
  obtain ⟨h1, c, h2, h3⟩ := R.cell n a (by rw [List.getElem?_append_left hn]; exact e)
  exact ⟨h1.imp id (fun ⟨xs0, z⟩ => ⟨xs0, by rw [List.getElem?_take_of_lt hn]; exact z⟩), c, by rw [List.getElem?_take_of_lt hn]; exact h2, h3⟩
theorem Grow.cut {r : List Addr} (x : Grow G H da G' H' (da ++ r)) : Grow G H da G' H' da := ⟨x.g, x.old, x.keep, x.there, ⟨[], by simp⟩, fun a h => .inl h⟩
/-- behind a call: its own cells go -/
theorem fix_ok {d d' : D} {S1 : Sto} {v : V} {Q : VK} (R0 : RelS K G H da S) (g : Grow G H da G' H' da') (R : RelS K G' H' da' S1) (hv : RT K G' da' v d) (e : fixR S.length d S1 = some (d', S'))
    (q : ∀ v H' G' da', Grow G H da G' H' da' → RelS K G' H' da' S' → RT K G' da' v d' → Q v H') : Q v H' := by
  obtain ⟨r, rfl⟩ := g.pre
  have hl : S.length = da.length := R0.len.symm
  rw [hl] at e
  unfold fixR at e
  split at e
  · rename_i m
    obtain ⟨a, rfl, ha⟩ := rd_cell R hv
    split at e
    · rename_i hm
      cases e
      rw [List.getElem?_append_left hm] at ha
      exact q _ H' G' da g.cut R.pre (.inr (.inl ⟨m, a, rfl, rfl, ha⟩))
    · rename_i hm
      have hnin : a ∉ da := fun z => by
        rw [List.getElem?_append_right (by omega)] at ha
        exact (List.nodup_append.mp R.nd).2.2 a z a (List.mem_of_getElem? ha) rfl
      have hH : H a = none := by
        rcases g.new a (List.mem_of_getElem? ha) with z | z
        · exact absurd z hnin
        · exact z
      obtain ⟨h1, c, h2, h3⟩ := R.cell m a ha
      split at e
      · rename_i xs hx
        cases e
        rw [hx] at h2
        cases h2
        obtain ⟨vs, k1, k2⟩ := h3
        have h1 : G' a = none := h1.elim id fun ⟨x0, z⟩ => by rw [hx] at z; cases z
        exact q _ H' (upd G' a (.lst vs)) da (g.cut.freeze hH h1) (R.pre.freeze k1 h1 hnin) (.inl (.lst (SqL.of upd_same) (k2.mono (same_fresh h1))))
      · rename_i kvs hx
        cases e
        rw [hx] at h2
        cases h2
        have R2 := R.pre
        have l2 : (S1.take da.length).length = da.length := R2.len.symm
        refine q _ H' G' (da ++ [a]) ⟨g.g, g.old, g.keep, g.there, ⟨[a], rfl⟩, fun b hb => ?_⟩ ⟨R2.same, by rw [List.length_append, List.length_append, l2]; rfl, ?_, fun n b eb => ?_, R2.nt⟩ (.inr (.inl ⟨da.length, a, rfl, rfl, by simp⟩))
        · rcases List.mem_append.mp hb with z | z
          · exact .inl z
          · rw [List.mem_singleton.mp z]; exact .inr hH
        · rw [List.nodup_append]
          exact ⟨R2.nd, by simp, fun x hx y hy e => hnin (by rw [← List.mem_singleton.mp hy, ← e]; exact hx)⟩
        · by_cases hn : n < da.length
          · rw [List.getElem?_append_left hn] at eb
            obtain ⟨k1, c, k2, k3⟩ := R2.cell n b eb
            exact ⟨k1.imp id (fun ⟨xs0, z⟩ => ⟨xs0, by rw [List.getElem?_append_left (by rw [l2]; exact hn)]; exact z⟩), c, by rw [List.getElem?_append_left (by rw [l2]; exact hn)]; exact k2, k3⟩
          · rw [List.getElem?_append_right (by omega)] at eb
            have hn' : n = da.length := by
              rcases Nat.lt_or_ge (n - da.length) 1 with z | z
              · omega
              · rw [List.getElem?_eq_none (by simpa using z)] at eb; cases eb
            subst hn'
            simp at eb
            subst eb
            have h1 : G' a = none := h1.elim id fun ⟨x0, z⟩ => by rw [hx] at z; cases z
            refine ⟨.inl h1, .dct kvs, ?_, h3⟩
            rw [List.getElem?_append_right (by rw [l2]; exact Nat.le_refl _), l2]
            simp
      · rename_i kvs hx
        cases e
        rw [hx] at h2
        cases h2
        have R2 := R.pre
        have l2 : (S1.take da.length).length = da.length := R2.len.symm
        refine q _ H' G' (da ++ [a]) ⟨g.g, g.old, g.keep, g.there, ⟨[a], rfl⟩, fun b hb => ?_⟩ ⟨R2.same, by rw [List.length_append, List.length_append, l2]; rfl, ?_, fun n b eb => ?_, R2.nt⟩ (.inr (.inl ⟨da.length, a, rfl, rfl, by simp⟩))
        · rcases List.mem_append.mp hb with z | z
          · exact .inl z
          · rw [List.mem_singleton.mp z]; exact .inr hH
        · rw [List.nodup_append]
          exact ⟨R2.nd, by simp, fun x hx y hy e => hnin (by rw [← List.mem_singleton.mp hy, ← e]; exact hx)⟩
        · by_cases hn : n < da.length
          · rw [List.getElem?_append_left hn] at eb
            obtain ⟨k1, c, k2, k3⟩ := R2.cell n b eb
            exact ⟨k1.imp id (fun ⟨xs0, z⟩ => ⟨xs0, by rw [List.getElem?_append_left (by rw [l2]; exact hn)]; exact z⟩), c, by rw [List.getElem?_append_left (by rw [l2]; exact hn)]; exact k2, k3⟩
          · rw [List.getElem?_append_right (by omega)] at eb
            have hn' : n = da.length := by
              rcases Nat.lt_or_ge (n - da.length) 1 with z | z
              · omega
              · rw [List.getElem?_eq_none (by simpa using z)] at eb; cases eb
            subst hn'
            simp at eb
            subst eb
            have h1 : G' a = none := h1.elim id fun ⟨x0, z⟩ => by rw [hx] at z; cases z
            refine ⟨.inl h1, .dtt kvs, ?_, h3⟩
            rw [List.getElem?_append_right (by rw [l2]; exact Nat.le_refl _), l2]
            simp
      · cases e
  · cases e
  · rename_i hne hno
    cases e
    refine q v H' G' da g.cut R.pre ?_
    rcases hv with hv | ⟨m, a, e1, _⟩ | ⟨a, dd, m, e1, _⟩
    · exact .inl hv
    · exact absurd e1 (hne m)
    · exact absurd e1 (hno a dd m)
theorem RelE.start {N : List Str} {vs : List V} {ds : List D} {n : Nat} (h : RTs K G da vs ds) (hn : n = N.length) : RelE K G da (start N vs) (startE n ds) := by
  subst hn
  have hl := h.length
  refine ⟨by simp [L2.start, startE, hl], fun i d e => ?_⟩
  unfold startE at e
  by_cases hi : i < ds.length
  · rw [List.getElem?_append_left (by simpa using hi), List.getElem?_map] at e
    obtain ⟨d', e1, e2⟩ := Option.map_eq_some_iff.mp e
    cases e2
    obtain ⟨v, k1, k2⟩ := h.get e1
    refine ⟨v, ?_, k2⟩
    unfold L2.start
    rw [List.getElem?_append_left (by simpa [hl] using hi), List.getElem?_map, k1]
    rfl
  · rw [List.getElem?_append_right (by simpa using hi), List.getElem?_replicate] at e
    split at e <;> cases e
end

theorem findDef_ok {tab : List DefI} {x : Str} {k : Nat} {d : DefI} (h : findDef tab x = some (k, d)) : tab[k]? = some d ∧ d.name = x := by
  unfold findDef at h
  split at h
  · rename_i i hi
    obtain ⟨d', e1, e2⟩ := Option.map_eq_some_iff.mp h
    cases e2
    rw [List.findIdx?_eq_some_iff_getElem] at hi
    obtain ⟨hlt, h1, _⟩ := hi
    rw [List.getElem?_eq_getElem hlt] at e1
    cases e1
    exact ⟨List.getElem?_eq_getElem hlt, of_decide_eq_true h1⟩
  · cases h
end AOne
end

section
set_option Elab.async false
set_option linter.all false
set_option maxRecDepth 100000
set_option maxHeartbeats 4000000
set_option autoImplicit false
/-! E9: what is heard. -/
namespace AOne
open PySem PySem.Spec L2
open PyProof.Rows (envOfC)
open LamX (CodeO lamEnv lamCx LamS GivesTo)
section
variable {K : PySem.W.Frag} {G H G2 H2 : Hp} {da da2 : List Addr} {S S1 : Sto}
/-- the heap without the error's fields -/
def offH (H : Hp) (d : Addr) : Hp := fun b => if b = d then none else H b
theorem offH_ne {H : Hp} {d b : Addr} (h : b ≠ d) : offH H d b = H b := if_neg h
theorem grow_off {d : Addr} (g : Grow G H da G2 H2 da2) (hd : H d = none) : Grow G H da G2 (offH H2 d) da2 :=
  ⟨g.g, g.old, fun b o e hb n => by rw [offH_ne (ne_of_none e hd)]; exact g.keep b o e hb n, fun b hb => by
    rw [offH_ne (fun z => hb (by rw [z]; exact hd))]; exact g.there b hb, g.pre, g.new⟩
theorem rel_off {d : Addr} (R : RelS K G2 H2 da2 S1) (hg : G2 d = none) (hd : d ∉ da2) : RelS K G2 (offH H2 d) da2 S1 := R.off fun b hb => offH_ne fun z => by
  subst z
  exact hb.elim hd (fun q => q hg)
theorem off_grow {d : Addr} {G3 H3 : Hp} {da3 : List Addr} (g : Grow G2 H2 (da2 ++ [d]) G3 H3 da3) : Grow G2 (offH H2 d) da2 G3 H3 da3 := by
  have ne : ∀ {b : Addr}, offH H2 d b ≠ none → b ≠ d := fun {b} h z => h (by rw [z]; exact if_pos rfl)
  refine ⟨g.g, fun b h1 h0 h2 h3 => ?_, fun b o e hb n => ?_, fun b hb => ?_, ?_, fun a ha => ?_⟩
  · have q := ne h1
    rw [offH_ne q] at h1
    refine g.old b h1 (fun o e => h0 o (by rw [offH_ne q]; exact e)) h2 fun z => ?_
    rcases List.mem_append.mp z with z | z
    · exact h3 z
    · exact q (List.mem_singleton.mp z)
  · have q := ne (b := b) (by rw [e]; simp)
    rw [offH_ne q] at e
    refine g.keep b o e (fun z => ?_) n
    rcases List.mem_append.mp z with z | z
    · exact hb z
    · exact q (List.mem_singleton.mp z)
  · have q := ne hb
    rw [offH_ne q] at hb
    exact g.there b hb
  · obtain ⟨r, e⟩ := g.pre
    exact ⟨[d] ++ r, by rw [e, List.append_assoc]⟩
  · rcases g.new a ha with z | z
    · rcases List.mem_append.mp z with z | z
      · exact .inl z
      · rw [List.mem_singleton.mp z]; exact .inr (if_pos rfl)
    · by_cases q : a = d
      · rw [q]; exact .inr (if_pos rfl)
      · right; rw [offH_ne q]; exact z
end
/-- an error is caught: the suite reckons what is heard -/
theorem caught {K : PySem.W.Frag} {CT : List Value} {T : List Df} {nn h j ie : Nat} {su : Sm} {N1 : List Str} {CS : Addr} {G H : Hp} {da : List Addr} {xx d : D} {S1 S' : Sto} {Q : VK} (hL : T.length ≤ LN) (hT : T[h]? = some ⟨N1.length, 1, .tryr j ie su⟩) (hj : CT[j]? = some (.ref CS)) (hie : ie < N1.length) (hoff : offS ie su = true)
    (e : callD T nn (LN + h) [xx] S1 = some (d, S')) {cls : Value} {od : Option Addr} {G2 H2 : Hp} {da2 : List Addr} (g : Grow G H da G2 H2 da2) (R : RelS K G2 H2 da2 S1) (xo : XO K CT G2 da2 H cls od H2 xx)
    (q : ∀ v H' G' da', Grow G H da G' H' da' → RelS K G' H' da' S' → RT K G' da' v d → Q v H') : EXh K CT su CS N1.length ie Q cls od H2 := by
  obtain ⟨C0, dd, fl, rfl, rfl, x1, x2, x3, x4, x5, x6⟩ := xo.ex
  cases nn with
  | zero => simp [callD] at e
  | succ nn =>
    have hn : T[LN + h]? = none := List.getElem?_eq_none (by omega)
    have h1 : LN + h - LN = h := by omega
    simp only [callD, hn, if_pos (Nat.le_add_right LN h), h1, hT] at e
    split at e
    · rename_i hk
      refine ⟨by rw [x5.ex j CS hj, hk], fun a σ ha hl hs => ⟨xx, C0, dd, S1.length, rfl, rfl, x5, fun f e hf => (x6 f e hf).1, ?_⟩⟩
      have tw : Two ie xx a dd S1.length ((List.replicate N1.length none).set ie (some (.obj 0 0 S1.length))) ((List.replicate N1.length none).set ie (some (.obj a dd S1.length))) :=
        ⟨by simp, by rw [List.getElem?_set_self (by simpa using hie)], by rw [List.getElem?_set_self (by simpa using hie)], fun k hk => by rw [List.getElem?_set_ne (Ne.symm hk), List.getElem?_set_ne (Ne.symm hk)]⟩
      have R3 := R.push (c := .xdc (fldOf xx)) x3 x2 ⟨fl, x1, fun f e hf => (x6 f e hf).2⟩
      have E3 : RelE K G2 (da2 ++ [dd]) σ ((List.replicate N1.length none).set ie (some (.obj a dd S1.length))) := by
        refine ⟨by simp [hl], fun i v hv => ?_⟩
        by_cases hi : ie = i
        · subst hi
          rw [List.getElem?_set_self (by simpa using hie)] at hv
          cases hv
          exact ⟨.ref a, hs, .inr (.inr ⟨a, dd, S1.length, rfl, rfl, by rw [← R.len]; simp⟩)⟩
        · rw [List.getElem?_set_ne hi, List.getElem?_replicate] at hv
          split at hv <;> cases hv
      have gb := grow_off g x4
      have Rb := rel_off R x2 x3
      split at e
      · rename_i v S2 he
        obtain ⟨f', h2, ft⟩ := exe_two su _ _ _ _ _ tw hoff he
        cases ft
        exact rdS_iff.mpr ⟨G2, da2 ++ [dd], _, _, _, S2, R3, E3, h2, fun v' H' G' da' g' R' hv => fix_ok Rb (off_grow g') R' hv e fun v H' G' da' g'' => q v H' G' da' (gb.trans g'')⟩
      · rename_i r1 S2 he
        obtain ⟨f', h2, ft⟩ := exe_two su _ _ _ _ _ tw hoff he
        cases ft
        exact rdS_iff.mpr ⟨G2, da2 ++ [dd], _, _, _, S2, R3, E3, h2, fun σ' H' G' da' g' R' _ => fix_ok (v := .non) Rb (off_grow g') R' (.inl .non) e fun v H' G' da' g'' => q v H' G' da' (gb.trans g'')⟩
      · cases e
    · cases e
/-- the reading of x(lambda: b) -/
theorem rd_heard {K : PySem.W.Frag} {CT : List Value} {T : List Df} {nn h j ie k : Nat} {su : Sm} {N1 lt : List Str} {CS : Addr} {told y : Str} {b : Tm} {σ : L2.St} {H : Hp} {Q : VK} (hL : T.length ≤ LN) (hT : T[h]? = some ⟨N1.length, 1, .tryr j ie su⟩) (hj : CT[j]? = some (.ref CS)) (hie : ie < N1.length) (hoff : offS ie su = true) (hst : PyData.strOk told = true) (hk : lt[k]? = some y)
    (z : rdE K (callD T nn) (.heard k lt told h b) σ H Q) : ∃ ps : Array Value, H (He.cT K (y, none)).2 = some (.tbl ps) ∧ TriplesOk ps.toList ∧ (∀ pos cv, codeAmong pos ps.toList = some cv → ∃ c, cv = .ref c ∧ H c = some (CodeO c (y ++ ".<locals>." ++ "<lambda>"))) ∧
      ∀ c H1, Made H (He.cT K (y, none)).2 c (y ++ ".<locals>." ++ "<lambda>") ps H1 → TTh K CT su CS N1.length ie told (fun E H2 Q2 => rdE K (callD T nn) b σ H2 Q2 ∨ rxE K CT (callD T nn) b E σ H2) H1 Q := by
  obtain ⟨G, da, S, r, d, S', R, E, e, q⟩ := z
  simp only [sem] at e
  split at e
  · rename_i hB
    have hS := (tabs_get hB).1 k y hk
    have hl : k < da.length := by rw [R.len]; exact (List.getElem?_eq_some_iff.mp hS).1
    have hda := List.getElem?_eq_getElem hl
    obtain ⟨_, c1, h2, h3⟩ := R.cell k _ hda
    rw [hS] at h2
    cases h2
    obtain ⟨e1, ps, e2, e3, e4⟩ := h3
    rw [e1] at e2 hda
    refine ⟨ps, e2, e3, fun pos cv hc => let ⟨c, z1, z2⟩ := e4 pos cv hc; ⟨c, z1, R.same _ _ z2⟩, fun c H1 md => ?_⟩
    obtain ⟨G1, g1, R1⟩ : ∃ G1, Grow G H da G1 H1 da ∧ RelS K G1 H1 da S := by
      rcases md with rfl | ⟨more, hc, ht, hm, rfl⟩
      · exact ⟨G, .refl, R⟩
      · obtain ⟨g, R'⟩ := ext_tab R hS e2 hc e4 ht hm hda
        exact ⟨_, g, R'⟩
    split at e
    · rename_i xx S1 hx
      exact .inr ⟨G1, da, S, r, xx, S1, R1, E.mono g1, hx, fun cls od H2 G2 da2 g2 R2 xo => caught hL hT hj hie hoff e (g1.trans g2) R2 (xo.back g1) q⟩
    · split at e
      · rename_i d0 S1 hs
        split at e
        · cases e
        · rename_i hr
          cases e
          refine .inl ⟨G1, da, S, r, d0, _, R1, E.mono g1, hs, fun v H2 G2 da2 g2 R2 hv p hp => ?_⟩
          have en : Ends1 K G2 H2 da2 _ (.tup [.str told, d0]) Q := fun v' H' G' g' R' t' => q v' H' G' da2 ((g1.trans g2).trans g') R' t'
          exact en.tup R2 (.cons (.str told hst) (.cons (hv.rd (by simpa using hr)) .nil)) hp
      · cases e
  · cases e
end AOne
end

section
set_option Elab.async false
set_option linter.all false
set_option maxRecDepth 100000
set_option maxHeartbeats 4000000
set_option autoImplicit false
/-! E10: the defs of a table keep their promises, level by level. -/
namespace AOne
open PySem PySem.Spec L2
open PyProof.Rows (envOfC)
open LamX (CodeO lamEnv lamCx LamS GivesTo)
/-- what all defs of a law share: the table, constants, classes of errors (made by name; hearers; the classes themselves), the defs that make lambdas -/
structure GC where
  tab : List DefI
  gl : List (Str × D)
  ki : List (Str × (List Nat × List Str))
  hr : List (Str × (Nat × Str))
  ct : List Value
  lt : List Str
/-- a def of the program's text -/
structure DD where
  name : Str
  qual : Str
  params : Arguments
  body : List Stmt
  scope : Scope
  N : List Str
  ps : List Str
  mu : List Nat
  fuel : Nat
  dvs : List V
  f : Addr
  fd : FuncData
  lm : Option Nat
def ccOf (g : GC) (N : List Str) (mu : List Nat) (lm : Option Nat) : CC := ⟨N, g.tab, g.gl, mu, false, "", [], g.ki, g.hr, lm.map fun n => (n, g.lt), g.ct⟩
structure DDok (K : PySem.W.Frag) (mg : Str → Option Value) (g : GC) (dd : DD) (t : Df) (d : DefI) : Prop where
  fn : FunD K dd.name dd.qual dd.params dd.body dd.scope dd.dvs [] dd.f dd.fd
  sc : FnScope dd.N dd.ps dd.scope
  n : t.n = dd.N.length
  k : t.k = dd.ps.length
  comp : (rsc (ccOf g dd.N dd.mu dd.lm) dd.fuel).ss dd.scope dd.body = some t.b
  mg : mg d.name = some (.ref dd.f)
  pb : ∀ p ∈ d.pats, PB K dd.fd dd.ps d.dfl p
  lam : ∀ n, dd.lm = some n → g.lt[n]? = some dd.qual ∧ dd.f = He.fAd K (dd.qual, none)
/-- the whole table -/
structure TabOk (P : Program) (K : PySem.W.Frag) (mg : Str → Option Value) (T : List Df) (g : GC) : Prop where
  all : ∀ (k : Nat) d, g.tab[k]? = some d → ∃ dd t, T[k]? = some t ∧ DDok K mg g dd t d
  blt : ∀ x, x ∈ bltNames → mg x = none
  gl : ∀ x d, g.gl.lookup x = some d → ∃ u v, mg x = some u ∧ RelV v u ∧ ∀ G, RD K G v d
  hr : ∀ f h told, g.hr.lookup f = some (h, told) → HearOk K mg g.ct T f h told
  ki : ∀ x kin fs, g.ki.lookup x = some (kin, fs) → ∃ (D fI : Addr) (f1 f2 : Str), fs = [f1, f2] ∧ XC P K D fI f1 f2 ∧ KinOk K g.ct D kin ∧ mg x = some (.ref D)
  len : T.length ≤ 1000000
theorem empty_of {p : Arguments} (h : emptyP p = true) : p = ⟨[], [], none, [], [], none, []⟩ := by
  obtain ⟨p1, p2, p3, p4, p5, p6, p7⟩ := p
  unfold emptyP at h
  simp only [Bool.and_eq_true, List.isEmpty_iff, Option.isNone_iff_eq_none] at h
  obtain ⟨⟨⟨⟨⟨⟨rfl, rfl⟩, rfl⟩, rfl⟩, rfl⟩, rfl⟩, rfl⟩ := h
  rfl
section
variable {P : Program} {w : World} {K : PySem.W.Frag} {mg : Str → Option Value} {base : Heap} {T : List Df} {g : GC}
/-- the promises of one level -/
structure Lev (P : Program) (w : World) (K : PySem.W.Frag) (mg : Str → Option Value) (base : Heap) (T : List Df) (g : GC) (n : Nat) : Prop where
  fn : ∀ (k : Nat) (d : DefI) (dd : DD) (t : Df), g.tab[k]? = some d → T[k]? = some t → DDok K mg g dd t d → FnG P w K mg base (3 * n + 1) dd.f dd.fd dd.ps (spF K (callD T n) k)
  fx : ∀ (k : Nat) (d : DefI) (dd : DD) (t : Df), g.tab[k]? = some d → T[k]? = some t → DDok K mg g dd t d → FnX P w K mg base (3 * n + 1) dd.f dd.fd dd.ps (spX K g.ct (callD T n) k)
theorem Lev.defs (B : TabOk P K mg T g) {n : Nat} (L : Lev P w K mg base T g n) {X : Cx} (e1 : X.prog = P) (e2 : X.w = w) (e3 : X.K = K) (e4 : X.mg = mg) (e5 : X.base = base) (hr : Room (3 * n + 1) X.A) {x : Str} {k : Nat} {d : DefI} (h : findDef g.tab x = some (k, d)) : DefOk X (callD T n) x k d ∧ DefX X g.ct (callD T n) x k d := by
  subst e1 e2 e3 e4 e5
  obtain ⟨f1, f2⟩ := findDef_ok h
  obtain ⟨dd, t, g1, g2⟩ := B.all k d f1
  exact ⟨⟨_, dd.f, dd.fd, dd.ps, by rw [← f2]; exact g2.mg, g2.fn.kp, hr, L.fn k d dd t f1 g1 g2, g2.pb⟩, ⟨_, dd.f, dd.fd, dd.ps, by rw [← f2]; exact g2.mg, g2.fn.kp, hr, L.fx k d dd t f1 g1 g2, g2.pb⟩⟩
theorem noP_def (env : Env) : defaultsOf ⟨[], [], none, [], [], none, []⟩ env = ([], []) := rfl
theorem noP_bind (q : Str) (bd : Expr) (sc : Scope) (cl : List (Str × Addr)) (pm cv ct : Value) : bindArgs (PySem.W.kla_fn "<lambda>" q ⟨[], [], none, [], [], none, []⟩ bd sc cl pm cv ct) ⟨[], []⟩ = pure [] := rfl
/-- lambdas that are heard -/
theorem lam_abs (Z : Srt) {X : Cx} {n : Nat} {c : CC} {lk : Option Nat} (B : TabOk X.prog X.K X.mg T g) (L : Lev X.prog X.w X.K X.mg X.base T g n) (hc : c = ccOf g c.N c.mu lk) (hN : X.N = c.N) (nd : c.N.Nodup) (hg : X.A.guards = some []) (hr : Room (3 * n + 3) X.A)
    (TB : ∀ y ∈ g.lt, LamX.TabB X.base X.mg (He.cT X.K (y, none)).1 (He.cT X.K (y, none)).2) (hl : ∀ m, lk = some m → ∃ y, g.lt[m]? = some y ∧ X.env.qual = y ++ ".<locals>." ∧ X.env.code = .ref (He.cT X.K (y, none)).1)
    (f : Str) (h : Nat) (told : Str) (m : Nat) (q : List Str) (hhr : c.hr.lookup f = some (h, told)) (hlm : c.lm = some (m, q)) (hgf : Gl X f) (hof : okName f = true) (params : Arguments) (body : Expr) (scope : Scope) (lp p pos : Pos) (b : Tm) (he : emptyP params = true) (hls : LamX.lamSB X.env.scope scope = true) (hst : PyData.strOk told = true)
    (hbod : ∀ (X' : Cx) (E : XK), X'.K = X.K → X'.env.scope = scope → Fb c (callD T n) X'.nox (some scope) → Rx c (callD T n) X' E → PE X' body (rdE X.K (callD T n) b) ∧ PE X' body (fun σ H _ => rxE X.K c.ct (callD T n) b E σ H)) :
    PE X (.Call (.Name f p) [.Lambda params body scope lp] [] pos) (rdE X.K (callD T n) (.heard m q told h b)) := by
  rw [hc] at hhr hlm
  obtain ⟨m', hm', e⟩ := Option.map_eq_some_iff.mp (show (lk.map fun n => (n, g.lt)) = some (m, q) from hlm)
  cases e
  obtain ⟨y, ltk, hq, hcd⟩ := hl m hm'
  obtain ⟨gg, fd, pg, sg, N1, a, e, ev, CS, ie, j, fuel, cl, b0, suite, su, j1, k1, p1, p2, p3, p4, p5, p6, p7, p8, F, hmx, hbi, Sg, h0, hv, oa, hie, hev, oev, hge, hde, hme, hj, hT, hcomp, hoff, hcl⟩ := (B.hr f h told hhr).ex
  have tb := TB y (List.mem_of_getElem? ltk)
  have ep := empty_of he
  subst ep
  have LS : LamS X.env.scope scope := LamX.lamS_by hls
  have oa := name_ok oa
  have hun : X.A.units + 210 < cLine := by
    have := hr.un
    omega
  have ect : c.ct = g.ct := by rw [hc]; rfl
  have etab : c.tab = g.tab := by rw [hc]; rfl
  have egl : c.gl = g.gl := by rw [hc]; rfl
  have eki : c.ki = g.ki := by rw [hc]; rfl
  have esu : c.su = false := by rw [hc]; rfl
  have key := lam_call (X := X) (k := 3 * n + 1) (TT := TTh X.K g.ct su CS N1.length ie told) (t := fun E σ H Q => rdE X.K (callD T n) b σ H Q ∨ rxE X.K g.ct (callD T n) b E σ H) (P := (He.cT X.K (y, none)).2) (cd := (He.cT X.K (y, none)).1) (p := p) (lp := lp) (pos := pos) (sc1 := scope) (bd := body)
    hgf hmx F hbi Sg h0 hv (fun cdv' => hear_gives Z Sg hie hev oev hge hde hme h0 hcomp hcl hg hun B.blt) tb hcd hr LS (noP_def _) (fun q cl pm cv ct => noP_bind q body scope cl pm cv ct) (fun A' l s1 H1 E f' c' gA hr' => ?_) (name_ok hof).1 oa.1 oa.2
  · rw [hq] at key
    exact PE.imp key fun σ H Q z => rd_heard (Nat.le_trans B.len (by decide)) hT hj (List.getElem?_eq_some_iff.mp hie).1 hoff hst ltk z
  · have fb : Fb c (callD T n) (lamCx X A' l s1 H1 E scope f' c').nox (some scope) := by
      refine ⟨hN, nd, fun _ => rfl, gA.trans hg, by have := hr'.un; show (A'.deeper _).units + 200 < cLine; omega, rfl, fun h => (by cases h), fun s' h x => ?_, B.blt, by rw [egl]; exact B.gl, fun _ x k d hf => ?_, fun h => (by rw [esu] at h; cases h), fun h => (by rw [esu] at h; cases h)⟩
      · cases h
        show false = _
        cases hl : scope.names.lookup x with
        | none => rfl
        | some kd =>
          have hm := PySem.mem_of_lookup hl
          cases kd <;> first | rfl | exact absurd rfl (LS.own _ hm).2
      · rw [etab] at hf
        exact (L.defs B (X := (lamCx X A' l s1 H1 E scope f' c').nox) rfl rfl rfl rfl rfl hr' hf).1
    have rx : Rx c (callD T n) (lamCx X A' l s1 H1 E scope f' c') E := by
      refine ⟨takes_of rfl rfl rfl rfl, hr'.mono (by omega), fun x k d hf => ?_, ?_⟩
      · rw [etab] at hf
        rw [ect]
        exact (L.defs B (X := lamCx X A' l s1 H1 E scope f' c') rfl rfl rfl rfl rfl hr' hf).2
      · rw [eki, ect]; exact B.ki
    obtain ⟨h1, h2⟩ := hbod (lamCx X A' l s1 H1 E scope f' c') E rfl rfl fb rx
    rw [ect] at h2
    exact ⟨fun pins s σ H Q I z => z.elim (h1.run pins s σ H Q I) (h2.run pins s σ H Q I)⟩
/-- what is known in a def's body, one level up -/
theorem fx_body (Z : Srt) (B : TabOk P K mg T g) (TB : ∀ y ∈ g.lt, LamX.TabB base mg (He.cT K (y, none)).1 (He.cT K (y, none)).2) {n : Nat} (L : Lev P w K mg base T g n) {dd : DD} {t : Df} {d : DefI} (ok : DDok K mg g dd t d) {cdv : Value} {A : Around} {outer : List Env} {s : Shared} {H : Hp}
    (hc1 : dd.fd.code = cdv) (hc2 : ∃ oc od osl, K.lookup dd.f = some ⟨oc, od, .func dd.fd, osl⟩) (hc3 : PySem.W.codeIn K cdv dd.qual = true) (hr : Room (3 * n + 3) (A.deeper (envOfC dd.qual dd.scope s.heap.objs.size dd.f cdv))) (hg : A.guards = some []) :
    Fx (ccOf g dd.N dd.mu dd.lm) (callD T n) (cxOf CX0 P w K mg base dd.N dd.qual dd.scope dd.f cdv A outer s H XK0).nox none := by
  refine ⟨⟨rfl, ok.sc.nd, fun _ => rfl, hg, by have := hr.un; show (A.deeper _).units + 200 < cLine; omega, rfl, fun _ _ => rfl, fun _ h => (by cases h), B.blt, B.gl, fun _ x k d hf => (L.defs B (X := (cxOf CX0 P w K mg base dd.N dd.qual dd.scope dd.f cdv A outer s H XK0).nox) rfl rfl rfl rfl rfl (hr.mono (by omega)) hf).1, fun h => (by cases h), fun h => (by cases h)⟩, ?_⟩
  intro _
  refine lam_abs Z (X := (cxOf CX0 P w K mg base dd.N dd.qual dd.scope dd.f cdv A outer s H XK0).nox) (c := ccOf g dd.N dd.mu dd.lm) (lk := dd.lm) B L rfl rfl ok.sc.nd hg hr TB fun m hm => ?_
  obtain ⟨ltk, hfa⟩ := ok.lam m hm
  refine ⟨dd.qual, ltk, rfl, ?_⟩
  obtain ⟨cd, hcd⟩ := He.codeIn_ref hc3
  obtain ⟨oc, od, osl, lk⟩ := hc2
  rw [hfa] at lk
  have ec : (He.cT K (dd.qual, none)).1 = cd := He.codeOf_eq lk (hc1.trans hcd)
  show cdv = .ref (He.cT K (dd.qual, none)).1
  rw [ec, hcd]
theorem lev_ok (Z : Srt) (B : TabOk P K mg T g) (TB : ∀ y ∈ g.lt, LamX.TabB base mg (He.cT K (y, none)).1 (He.cT K (y, none)).2) : ∀ n, Lev P w K mg base T g n := by
  intro n
  induction n with
  | zero =>
    refine ⟨fun k d dd t _ _ _ => ⟨fun A outer s H args us vs Q hr hg e0 hb r hsp => ?_⟩, fun k d dd t _ _ _ => ⟨fun A outer s H args us vs Q hr hg e0 hb r hsp => ?_⟩⟩
    · obtain ⟨G, da, S, ds, d', S', _, _, e, _⟩ := hsp
      simp [callD] at e
    · obtain ⟨G, da, S, ds, d', S', _, _, e, _⟩ := hsp
      simp [callD] at e
  | succ n ih =>
    refine ⟨fun k d dd t htab hT ok => ?_, fun k d dd t htab hT ok => ?_⟩
    · refine fnG_of (k := 3 * n + 3) (sp := spF K (callD T (n + 1)) k) ok.fn ok.sc (fun vs H Q hsp => ?_) fun cdv A outer s H vs Q c1 c2 c3 hr hg hsp => ?_
      · obtain ⟨G, da, S, ds, d', S', _, r, e, _⟩ := hsp
        simp only [callD, hT] at e
        split at e
        · rename_i hl
          rw [r.length, hl, ok.k]
        · cases e
      · obtain ⟨G, da, S, ds, d', S', R, r, e, q⟩ := hsp
        simp only [callD, hT] at e
        split at e
        · rename_i hl
          refine ⟨_, snd_ss (sa_of Z) dd.fuel _ dd.scope dd.body t.b (fx_body Z B TB ih ok c1 c2 c3 hr hg) rfl ok.sc.kind ok.comp, ?_⟩
          have E : RelE K G da (start dd.N vs) (startE t.n ds) := RelE.start r ok.n
          split at e
          · rename_i d1 S1 ex
            exact rdS_iff.mpr ⟨G, da, S, _, _, S1, R, E, ex, fun v H' G' da' g R' hv => fix_ok R g R' hv e q⟩
          · rename_i r1 S1 ex
            exact rdS_iff.mpr ⟨G, da, S, _, _, S1, R, E, ex, fun σ' H' G' da' g R' _ => fix_ok (v := .non) R g R' (.inl .non) e q⟩
          · cases e
        · cases e
    · have kl : k < T.length := (List.getElem?_eq_some_iff.mp hT).1
      have hl := B.len
      have x1 : T[XN + k]? = none := List.getElem?_eq_none (by unfold XN; omega)
      have x2 : ¬ LN ≤ XN + k := by unfold LN XN; omega
      have x3 : XN + k - XN = k := by omega
      have x4 : XN ≤ XN + k := Nat.le_add_right _ _
      refine fnX_of (k := 3 * n + 3) (sp := spX K g.ct (callD T (n + 1)) k) ok.fn ok.sc (fun vs H E hsp => ?_) fun cdv A outer s H vs E c1 c2 c3 hr hg hsp => ?_
      · obtain ⟨G, da, S, ds, d', S', _, r, e, _⟩ := hsp
        simp only [callD, x1, if_neg x2, if_pos x4, x3, hT] at e
        split at e
        · rename_i hl
          rw [r.length, hl, ok.k]
        · cases e
      · obtain ⟨G, da, S, ds, d', S', R, r, e, q⟩ := hsp
        simp only [callD, x1, if_neg x2, if_pos x4, x3, hT] at e
        split at e
        · have F : Fx (ccOf g dd.N dd.mu dd.lm) (callD T n) (cxOf (L2.CX P w) P w K mg base dd.N dd.qual dd.scope dd.f cdv A outer s H E).nox none := fx_body Z B TB ih ok c1 c2 c3 hr hg
          have rx : Rx (ccOf g dd.N dd.mu dd.lm) (callD T n) (cxOf (L2.CX P w) P w K mg base dd.N dd.qual dd.scope dd.f cdv A outer s H E) E :=
            ⟨takes_of rfl rfl rfl rfl, hr.mono (by omega), fun x k d hf => (ih.defs B rfl rfl rfl rfl rfl (hr.mono (by omega)) hf).2, B.ki⟩
          refine ⟨_, sndX_ss (sa_of Z) rfl F rx dd.fuel dd.scope dd.body t.b rfl ok.sc.kind ok.comp, ?_⟩
          have E' : RelE K G da (start dd.N vs) (startE t.n ds) := RelE.start r ok.n
          split at e
          · rename_i xx S1 ex
            cases e
            refine ⟨G, da, S, _, _, S1, R, E', ex, fun cls d H' G' da' g' R' xo => ?_⟩
            obtain ⟨rr, rfl⟩ := g'.pre
            refine q cls d H' G' da g'.cut (by rw [← R.len]; exact R'.pre) ?_
            obtain ⟨C, dd', fl, h1, h2, h3, h4, h5, h6, h7⟩ := xo.ex
            exact ⟨C, dd', fl, h1, h2, h3, h4, fun z => h5 (List.mem_append_left _ z), h6, h7⟩
          · cases e
        · cases e
end
end AOne
end

section
set_option Elab.async false
set_option linter.all false
set_option maxRecDepth 100000
set_option maxHeartbeats 4000000
set_option autoImplicit false
/-! E11: from a law's def to the row's end, tables of lambdas at the start. -/
namespace AOne
open PySem PySem.Spec L2 PyProof.Rows
/-- the heap of the start: the script, the tables -/
def H0 (a : Addr) (ts : List Addr) (so : Option HO) : Hp := fun b => if b = a then so else if b ∈ ts then some (.tbl #[]) else none
theorem law_callT {P : Program} {w : World} {K : PySem.W.Frag} {mg mb : Str → Option Value} {k : Nat} {fa a : Addr} {cs : List (Addr × Addr)} {fd : FuncData} {x : Str} {sp : List V → Hp → VK → Prop} {s1 : Shared} {vs : List Value} {ns : List Int}
    (KX : K.In s1.heap) (hns : s1.heap.Ns mainGlobals mg) (hb : s1.heap.Ns builtinsNs mb) (hbb : ∀ x : Str, x ≠ "__name__" → mb x = bootBuiltins x) (hlim : s1.heap.NoLimit) (hg : s1.gens = #[])
    (tE : ∀ p ∈ cs, s1.heap.get? p.2 = some { cls := .none, data := .fields #[] }) (tK : ∀ p ∈ cs, K.lookup p.2 = none) (tC : ∀ p ∈ cs, PySem.W.CodeHd s1.heap p.1 p.2)
    (hbm : ∃ (bm : Addr) (ob : Obj), mg "__builtins__" = some (.ref bm) ∧ bm ≠ builtinsNs ∧ s1.heap.get? bm = some ob ∧ ob.cls = .type "module" ∧ ob.dict = some builtinsNs ∧ ob.data = .plain)
    (ha : s1.heap.get? a = some { cls := .type "list", data := .seq vs.toArray }) (hi : IntsAre vs ns) (hl : ns.length ≤ sizeLine) (hr : Room k callerA)
    (F : ∀ base : Heap, K.In base → base.Ns mainGlobals mg → (∀ p ∈ cs, LamX.TabB base mg p.1 p.2) → FnG P w K mg base k fa fd [x] sp) (hbind : ∀ (s : Shared) (u : Value), BindsTo s fd ⟨[u], []⟩ [(x, u)])
    (hsp : ∀ H : Hp, (∀ p ∈ cs, H p.2 = some (.tbl #[])) → SqL K H a (ns.map V.int) → sp [.ref a] H (fun v _ => v = .bl true)) :
    codeAny (model P w) callerA (.call (.ref fa) ⟨[.ref a], []⟩) (fun r s' => r = .ok (.ret (.bool true)) ∧ OldK s1.heap s'.heap ∧ s'.os = s1.os ∧ AllBare s'.gens) s1 := by
  have rv := vals_ints hi
  have lenV := hi.length
  obtain ⟨ts, hts⟩ : ∃ ts : List Addr, ts = cs.map (·.2) := ⟨_, rfl⟩
  have tE' : ∀ b ∈ ts, s1.heap.get? b = some { cls := .none, data := .fields #[] } := fun b hb => by
    rw [hts] at hb
    obtain ⟨p, hp, rfl⟩ := List.mem_map.mp hb
    exact tE p hp
  have tK' : ∀ b ∈ ts, K.lookup b = none := fun b hb => by
    rw [hts] at hb
    obtain ⟨p, hp, rfl⟩ := List.mem_map.mp hb
    exact tK p hp
  have nat : a ∉ ts := fun z => by
    have e := tE' a z
    rw [ha] at e
    cases e
  have tin : ∀ p ∈ cs, p.2 ∈ ts := fun p hp => by rw [hts]; exact List.mem_map.mpr ⟨p, hp, rfl⟩
  have main : ∀ so : Option HO, (so = none ∨ ∃ o xs, so = some (.frz o (.lst xs))) → SqL K (H0 a ts so) a (ns.map V.int) → HOk P w (H0 a ts so) s1.heap → (so ≠ none → K.lookup a = none) →
      codeAny (model P w) callerA (.call (.ref fa) ⟨[.ref a], []⟩) (fun r s' => r = .ok (.ret (.bool true)) ∧ OldK s1.heap s'.heap ∧ s'.os = s1.os ∧ AllBare s'.gens) s1 := by
    intro so hso hS hok hK
    have at0 : H0 a ts so a = so := if_pos rfl
    have atT : ∀ b ∈ ts, H0 a ts so b = some (.tbl #[]) := fun b hb => by
      unfold H0
      rw [if_neg (fun z => nat (by rw [← z]; exact hb)), if_pos hb]
    have atN : ∀ b, b ≠ a → b ∉ ts → H0 a ts so b = none := fun b h1 h2 => by
      unfold H0
      rw [if_neg h1, if_neg h2]
    have free : ∀ {b : Addr} {o : Obj}, s1.heap.get? b = some o → (∀ us n, o.data ≠ .seq us n) → o.data ≠ .fields #[] → H0 a ts so b = none := fun {b o} e n1 n2 => by
      refine atN b (fun z => ?_) fun z => ?_
      · rw [z, ha] at e
        cases e
        exact n1 _ _ rfl
      · rw [tE' b z] at e
        cases e
        exact n2 rfl
    have inB : ∀ {b : Addr} {o : Obj}, s1.heap.get? b = some o → (∀ us n, o.data ≠ .seq us n) → o.data ≠ .fields #[] → (hidT s1.heap (H0 a ts so)).get? b = some o := fun e n1 n2 => hidT_get e (free e n1 n2)
    have nsB : ∀ {b : Addr} {m : Str → Option Value}, s1.heap.Ns b m → (hidT s1.heap (H0 a ts so)).Ns b m := by
      rintro b m ⟨o, es, ep, e, d, r⟩
      exact ⟨o, es, ep, inB e (fun us n z => by rw [d] at z; cases z) (fun z => by rw [d] at z; cases z), d, r⟩
    have KB : K.In (hidT s1.heap (H0 a ts so)) := by
      intro b o e
      refine hidT_get (KX b o e) ?_
      by_cases q1 : b = a
      · subst q1
        rw [at0]
        cases hs : so with
        | none => rfl
        | some u => rw [hK (by rw [hs]; simp)] at e; cases e
      · exact atN b q1 fun z => by rw [tK' b z] at e; cases e
    have MB : Mod K mg (hidT s1.heap (H0 a ts so)) := by
      obtain ⟨mc, l1, l2⟩ := hlim
      exact ⟨KB, nsB hns, ⟨mb, nsB hb, hbb⟩, ⟨mc, nsB l1, l2⟩⟩
    have TB : ∀ p ∈ cs, LamX.TabB (hidT s1.heap (H0 a ts so)) mg p.1 p.2 := by
      intro p hp
      have eT := tE p hp
      refine ⟨?_, ?_, fun z => ?_⟩
      · obtain ⟨o, us, file, tf, flags, tg, inF, text, tt, e1, r1, r2, r3, rest⟩ := tC p hp
        exact ⟨o, us, file, tf, flags, tg, inF, text, tt, inB e1 (fun vs n z => by rw [r2] at z; cases z) (fun z => by rw [r2] at z; cases z; simp at r3), r1, r2, r3, rest⟩
      · obtain ⟨bm, ob, b1, b2, b3, b4, b5, b6⟩ := hbm
        refine ⟨bm, ob, b1, b2, fun z => ?_, fun z => ?_, inB b3 (fun vs n z => by rw [b6] at z; cases z) (fun z => by rw [b6] at z; cases z), b4, b5, b6⟩
        · obtain ⟨o, es, ep, e, d, _⟩ := hns
          rw [z, e] at b3
          cases b3
          rw [d] at b6
          cases b6
        · rw [z, eT] at b3
          cases b3
          cases b6
      · obtain ⟨o, es, ep, e, d, _⟩ := hns
        rw [z, eT] at e
        cases e
        cases d
    have e0 : Env0 P w K mg (hidT s1.heap (H0 a ts so)) callerA [] s1 (H0 a ts so) := ⟨rfl, MB, fun b o e => of_hidT e, Nat.le_of_eq (hidT_size _ _), trivial, fun b z => absurd z List.not_mem_nil, hok, .of_eq hg⟩
    have run := (F _ KB (nsB hns) TB).run callerA [] s1 (H0 a ts so) ⟨[.ref a], []⟩ [.ref a] [.ref a] _ hr rfl e0 (hbind s1 (.ref a)) (.cons rfl .nil) (hsp _ (fun p hp => atT _ (tin p hp)) hS)
    refine codeAny_mono run fun r s' h => ?_
    match r, h with
    | .ok (.ret u), h =>
      obtain ⟨v, H', os, bare, un, hok', r', q⟩ := h
      have q' : v = .bl true := q
      subst q'
      obtain rfl : u = Value.bool true := r'
      have same : ∀ b o, b ∉ ts → s1.heap.get? b = some o → s'.heap.get? b = some o := by
        intro b o nb e
        by_cases q1 : b = a
        · subst q1
          rcases hso with z | ⟨ob, xs, z⟩
          · exact un.keep b o e (by rw [at0, z]) (fun y => absurd y List.not_mem_nil) List.not_mem_nil
          · have z1 : H0 b ts so b = some (.frz ob (.lst xs)) := by rw [at0, z]
            obtain ⟨e1, _⟩ := hok b _ z1
            obtain ⟨e2, _⟩ := hok' b _ (un.frzs b ob _ z1)
            rw [e] at e1
            cases e1
            exact e2
        · exact un.keep b o e (atN b q1 nb) (fun y => absurd y List.not_mem_nil) List.not_mem_nil
      have more : ∀ b ∈ ts, ∃ m : Array Value, s'.heap.get? b = some { cls := .none, data := .fields m } := fun b hb => by
        obtain ⟨m, z⟩ := un.tbls b #[] (atT b hb)
        exact ⟨_, hok' b _ z⟩
      refine ⟨rfl, ⟨fun b o e => ?_, fun b o e => ?_⟩, os, bare⟩
      · by_cases q1 : b ∈ ts
        · obtain ⟨m, hm⟩ := more b q1
          rw [hts] at q1
          obtain ⟨p, hp, rfl⟩ := List.mem_map.mp q1
          rw [tE p hp] at e
          cases e
          exact .inr (.inl ⟨((tC p hp).tab (tE p hp)).isCodeTable, rfl, #[], m, rfl, by rw [Array.empty_append]; exact hm⟩)
        · exact .inl (same b o q1 e)
      · by_cases q1 : b ∈ ts
        · obtain ⟨m, hm⟩ := more b q1
          exact ⟨_, hm⟩
        · exact ⟨o, same b o q1 e⟩
  have tOk : ∀ (so : Option HO) (b : Addr) (u : HO), b ≠ a → H0 a ts so b = some u → ObjOk P w (H0 a ts so) s1.heap b u := fun so b u nb z => by
    unfold H0 at z
    rw [if_neg nb] at z
    split at z
    · rename_i hb
      cases z
      exact tE' b hb
    · cases z
  cases hk : K.lookup a with
  | some o =>
    have e := KX a o hk
    rw [ha] at e
    cases e
    refine main none (.inl rfl) (.inr ⟨_, vs.toArray, _, hk, rfl, rfl, rfl, by rw [List.size_toArray, lenV]; exact hl, by simpa using rv⟩) (fun b u z => ?_) (fun z => absurd rfl z)
    by_cases q : b = a
    · rw [q, show H0 a ts none a = none from if_pos rfl] at z; cases z
    · exact tOk none b u q z
  | none =>
    have es : H0 a ts (some (.frz { cls := .type "list", data := .seq vs.toArray } (.lst (ns.map V.int)))) a = some (.frz { cls := .type "list", data := .seq vs.toArray } (.lst (ns.map V.int))) := if_pos rfl
    refine main (some (.frz { cls := .type "list", data := .seq vs.toArray } (.lst (ns.map V.int)))) (.inr ⟨_, _, rfl⟩) (.inl (.inr ⟨_, es⟩)) (fun b u z => ?_) fun _ => hk
    by_cases q : b = a
    · rw [q, es] at z
      cases z
      rw [q]
      exact ⟨ha, by rw [List.length_map]; exact hl, vs, _, rv, ha⟩
    · exact tOk _ b u q z
theorem walk_ofT {l : PySem.W.OpenLaw} {n k : Nat} {q : Program} {loose : List Str} {XP : (Str → Option Value) → Heap → Prop} {YP : World → Heap → Prop} {d : DefRec} {x : Str}
    (hn : l.most = some n) (hn2 : n ≤ sizeLine) (hdf : d.params.defaults = []) (hr : Room k callerA)
    (F : ∀ (w : World) (mg : Str → Option Value) (fa : Addr) (h : Heap), YP w h → h.Ns mainGlobals mg → mg d.name = some (.ref fa) →
      ∃ (K : PySem.W.Frag) (fd : FuncData) (cs : List (Addr × Addr)) (sp : List V → Hp → VK → Prop), K.In h ∧ (∀ p ∈ cs, h.get? p.2 = some { cls := .none, data := .fields #[] }) ∧ (∀ p ∈ cs, K.lookup p.2 = none) ∧ (∀ p ∈ cs, PySem.W.CodeHd h p.1 p.2) ∧ (∀ (s : Shared) (u : Value), BindsTo s fd ⟨[u], []⟩ [(x, u)]) ∧
        (∀ (H : Hp) (a : Addr) (ns : List Int), ns.length ≤ n → (∀ p ∈ cs, H p.2 = some (.tbl #[])) → SqL K H a (ns.map V.int) → sp [.ref a] H (fun v _ => v = .bl true)) ∧
        ∀ base : Heap, K.In base → base.Ns mainGlobals mg → (∀ p ∈ cs, LamX.TabB base mg p.1 p.2) → FnG l.prog w K mg base k fa fd [x] sp) :
    PySem.W.WalkO q loose XP YP l.row.toRowW d [] (fun f vs => PySem.call f vs) := by
  refine Att.attach_call hn hdf fun w s0 s1 mg mb fa o pm cd doc a vs ns G Y ho hd hcd hmg hobj hints hlen hg => ?_
  obtain ⟨K, fd, cs, sp, KX, c1, c2, c3, hb, hsp, hF⟩ := F w mg fa _ Y G.T.g hmg
  exact law_callT KX G.T.g G.T.b G.T.builtins G.T.nolimit hg c1 c2 c3 G.T.bmain hobj hints (Nat.le_trans hlen hn2) hr hF hb (fun H hT hS => hsp H a ns hlen hT hS)
/-- the script as data -/
theorem rd_ints {K : PySem.W.Frag} {G : Hp} : ∀ ns : List Int, RDs K G (ns.map V.int) (ns.map D.int)
  | [] => .nil
  | n :: ns => .cons (.int n) (rd_ints ns)
/-- the heap without its tables -/
def noTab (H : Hp) : Hp := fun b => match H b with
  | some (.tbl _) => none
  | o => o
theorem noTab_some {H : Hp} {b : Addr} {o : HO} (h : noTab H b = some o) : H b = some o ∧ ∀ ps, o ≠ .tbl ps := by
  unfold noTab at h
  split at h
  · cases h
  · rename_i hn
    exact ⟨h, fun ps z => by subst z; exact hn ps h⟩
theorem noTab_at {H : Hp} {b : Addr} {o : HO} (h : H b = some o) (hn : ∀ ps, o ≠ .tbl ps) : noTab H b = some o := by
  unfold noTab
  rw [h]
  cases o <;> first | rfl | exact absurd rfl (hn _)
theorem sp_lawT {K : PySem.W.Frag} {C : Call} {k : Nat} {H : Hp} {a : Addr} {ns : List Int} {S' : Sto} {lt : List Str} (hT : ∀ p ∈ lt.map fun y => He.cT K (y, none), H p.2 = some (.tbl #[])) (nd : (lt.map fun y => (He.cT K (y, none)).2).Nodup)
    (h : SqL K H a (ns.map V.int)) (e : C k [.lst (ns.map D.int)] (lt.map Cell.tab) = some (.bl true, S')) : spF K C k [.ref a] H (fun v _ => v = .bl true) := by
  have sq : SqL K (noTab H) a (ns.map V.int) := by
    rcases h with h | h
    · rcases h with h | ⟨o, h⟩
      · exact .inl (.inl (noTab_at h fun ps z => by cases z))
      · exact .inl (.inr ⟨o, noTab_at h fun ps z => by cases z⟩)
    · exact .inr h
  refine ⟨noTab H, lt.map fun y => (He.cT K (y, none)).2, lt.map Cell.tab, _, _, S', ⟨fun b o e => (noTab_some e).1, by simp, nd, fun n b eb => ?_, fun b ps z => (noTab_some z).2 ps rfl⟩, .cons (.inl (.lst sq (rd_ints ns))) .nil, e, fun v H' G' da' _ _ t => rt_bl t⟩
  rw [List.getElem?_map] at eb
  obtain ⟨y, hy, rfl⟩ := Option.map_eq_some_iff.mp eb
  have hH := hT _ (List.mem_map.mpr ⟨y, List.mem_of_getElem? hy, rfl⟩)
  refine ⟨.inl (by unfold noTab; rw [hH]), .tab y, by rw [List.getElem?_map, hy]; rfl, rfl, #[], hH, trivial, fun pos cv hc => ?_⟩
  have z : codeAmong pos [] = some cv := hc
  simp [codeAmong] at z
end AOne
end

section
set_option Elab.async false
set_option linter.all false
set_option maxRecDepth 100000
set_option maxHeartbeats 4000000
set_option autoImplicit false
/-! A18: binding by the def's own words. -/
namespace AOne
open PySem PySem.Spec L2
section
variable {K : PySem.W.Frag} {x qual : Str} {params : Arguments} {body : List Stmt} {scope : Scope} {dvs : List V} {f : Addr} {fd : FuncData} {ps : List Str}
theorem pb0 {p : Pat} (F : FunD K x qual params body scope [] [] f fd)
    (h : ∀ (kV doc pm : Value) (an : Option Addr) (cdv ct : Value) (us ws : List Value), us.length = p.n → ws.length = p.ks.length → ∃ zs, pick p.perm (us ++ ws ++ []) = some zs ∧
      bindArgs (PySem.W.fnOf x qual params body scope .none kV doc pm an cdv ct) ⟨us, p.ks.zip ws⟩ = pure (ps.zip zs)) : PB K fd ps [] p := by
  obtain ⟨oc, od, dV, kV, doc, pm, an, cdv, ct, osl, rfl, lk, hcd, hD, hK⟩ := F.ex
  rcases hD with ⟨_, rfl⟩ | ⟨e, _⟩
  · refine ⟨[], [], .nil, fun _ => .nil, fun s us ws _ h1 h2 => ?_⟩
    obtain ⟨zs, e1, e2⟩ := h kV doc pm an cdv ct us ws h1 h2
    exact ⟨zs, e1, .of_eq e2⟩
  · exact absurd rfl e
theorem pb1 {p : Pat} {dfl : List D} (F : FunD K x qual params body scope dvs [] f fd) (hd : dvs ≠ []) (rd : ∀ G, RDs K G dvs dfl)
    (h : ∀ (T : Addr) (kV doc pm : Value) (an : Option Addr) (cdv ct : Value) (us ws its : List Value), us.length = p.n → ws.length = p.ks.length → its.length = dvs.length → ∃ k zs,
      bindArgs (PySem.W.fnOf x qual params body scope (.ref T) kV doc pm an cdv ct) ⟨us, p.ks.zip ws⟩ = seqItems? (.ref T) >>= k ∧ pick p.perm (us ++ ws ++ its) = some zs ∧ k (some its.toArray) = pure (ps.zip zs)) : PB K fd ps dfl p := by
  obtain ⟨oc, od, dV, kV, doc, pm, an, cdv, ct, osl, rfl, lk, hcd, hD, hK⟩ := F.ex
  rcases hD with ⟨e, _⟩ | ⟨_, T, o, its, m, rfl, lT, oT, rT⟩
  · exact absurd e hd
  · refine ⟨dvs, its, rT, rd, fun s us ws X h1 h2 => ?_⟩
    obtain ⟨k, zs, e1, e2, e3⟩ := h T kV doc pm an cdv ct us ws its h1 h2 rT.length.symm
    refine ⟨zs, e2, BindsTo.of_looks fun M => ?_⟩
    rw [e1]
    exact looks_items X lT oT (.of_pure e3)
end
/-- a table's end told place by place -/
theorem tab_nil {α : Type} {P : Nat → α → Prop} {n : Nat} : ∀ (k : Nat) d, ([] : List α)[k]? = some d → P (n + k) d := fun k d h => by simp at h
theorem tab_cons {α : Type} {P : Nat → α → Prop} {n : Nat} {a : α} {l : List α} (h1 : P n a) (h2 : ∀ (k : Nat) d, l[k]? = some d → P (n + 1 + k) d) : ∀ (k : Nat) d, (a :: l)[k]? = some d → P (n + k) d := by
  intro k d h
  cases k with
  | zero => simp at h; subst h; exact h1
  | succ k =>
    have := h2 k d (by simpa using h)
    have e : n + 1 + k = n + (k + 1) := by omega
    rw [e] at this
    exact this
theorem gl_str {K : PySem.W.Frag} {h : Heap} {mg : Str → Option Value} {x z : Str} (X : K.In h) (G : h.Ns mainGlobals mg) (c : (He.Fa.str x z).ok K = true) (hz : PyData.strOk z = true) : ∃ u v, mg x = some u ∧ RelV v u ∧ ∀ G, RD K G v (.str z) := by
  obtain ⟨t, e⟩ := He.str_ok X G c
  exact ⟨_, .str z, e, ⟨t, rfl⟩, fun _ => .str _ hz⟩
theorem gl_int {K : PySem.W.Frag} {h : Heap} {mg : Str → Option Value} {x : Str} {i : Int} (X : K.In h) (G : h.Ns mainGlobals mg) (c : (He.Fa.int x i).ok K = true) : ∃ u v, mg x = some u ∧ RelV v u ∧ ∀ G, RD K G v (.int i) := by
  obtain ⟨t, e⟩ := He.int_ok X G c
  exact ⟨_, .int i, e, ⟨t, rfl⟩, fun _ => .int _⟩
end AOne
end

section
set_option Elab.async false
set_option linter.all false
set_option maxRecDepth 100000
set_option maxHeartbeats 4000000
set_option autoImplicit false
/-! A33: the order of data; sorting by putting in. -/
namespace AOne
open PySem PySem.W
theorem dlt_irrefl (a : D) : dlt a a = false := PyProof.Rows.lex_irrefl _
theorem dlt_trans {a b c : D} (h1 : dlt a b = true) (h2 : dlt b c = true) : dlt a c = true := PyProof.Rows.lex_trans _ _ _ h1 h2
theorem dlt_asymm {a b : D} (h : dlt a b = true) : dlt b a = false := by
  cases e : dlt b a with
  | false => rfl
  | true =>
    have := dlt_trans h e
    rw [dlt_irrefl] at this
    cases this
theorem dle_trans (a b c : D) (h1 : dle a b = true) (h2 : dle b c = true) : dle a c = true := by
  unfold dle at *
  cases e : dlt c a with
  | false => rfl
  | true =>
    rcases PyProof.Rows.lex_negTrans (O := PyProof.Rows.itemOrd) _ (keyToks b.py) _ e with z | z
    · have : dlt c b = true := z
      rw [this] at h2; cases h2
    · have : dlt b a = true := z
      rw [this] at h1; cases h1
theorem dle_total (a b : D) : (dle a b || dle b a) = true := by
  unfold dle
  cases e : dlt b a with
  | false => rfl
  | true => rw [dlt_asymm e]; rfl
theorem ins_split {a : D} {l1 l2 : List D} (h1 : ∀ b ∈ l1, dle a b = false) (h2 : ∀ b ∈ l2, dle a b = true) : insD a (l1 ++ l2) = l1 ++ a :: l2 := by
  induction l1 with
  | nil =>
    cases l2 with
    | nil => rfl
    | cons b r => simp [insD, h2 b List.mem_cons_self]
  | cons b r ih => simp [insD, h1 b List.mem_cons_self, ih fun c hc => h1 c (List.mem_cons_of_mem _ hc)]
theorem sortD_merge : ∀ xs : List D, sortD xs = xs.mergeSort dle
  | [] => by simp [sortD]
  | a :: l => by
    obtain ⟨l1, l2, e1, e2, e3⟩ := List.mergeSort_cons dle_trans dle_total a l
    have hs := List.pairwise_mergeSort dle_trans dle_total (a :: l)
    rw [e1] at hs
    rw [sortD, sortD_merge l, e1, e2]
    refine ins_split (fun b hb => by simpa using e3 b hb) fun b hb => ?_
    exact (List.pairwise_cons.mp (List.pairwise_append.mp hs).2.1).1 b hb
end AOne
end

section
set_option Elab.async false
set_option linter.all false
set_option maxRecDepth 100000
set_option maxHeartbeats 4000000
set_option autoImplicit false
/-! A19: sorted(list), the empty tuple among tuples too. -/
namespace AOne
open PySem PySem.Spec PySem.W PySem.SeqAt L2
open PyProof.Rows (listItems_at keyKind' keyLt' oneLt' oneType' general' tuples' firstOfTuple' oneTypeOnly' SortKind oneLt'_eq keyLt'_oneType oneTypeOnly'_eq)

section
variable {prog : Program} {w : World} {A : Around} {s : Shared}
theorem call_tup_lt {E : Value → Shared → Prop} {Q : Value → Shared → Prop} {l b : Addr} {items items2 : Array Value} {e r : Nat → Bool} (hl : s.heap.IsTuple l items) (hb : s.heap.IsTuple b items2)
    (he : ∀ j (h1 : j < items.size) (h2 : j < items2.size), EqAt A.in1 s items[j] items2[j] (e j)) (hr : ∀ j (h1 : j < items.size) (h2 : j < items2.size), e j = false → RcLt A.in1 s items[j] items2[j] (r j))
    (h : Q (.bool (firstLt e r (decide (items.size < items2.size)) (List.range (min items.size items2.size)))) s) : wpAny (model prog w) A (call (.builtin "tuple.__lt__") [.ref l, .ref b]) Q E s := by
  obtain ⟨⟨c1, d1, t1, z1⟩, ho, hc, n, hd⟩ := id hl
  obtain ⟨⟨c2, d2, t2, z2⟩, ho2, hc2, n2, hd2⟩ := id hb
  simp only at hc hd hc2 hd2
  subst hc hd hc2 hd2
  exact call_meets PySem.F.slot_tuple_lt ⟨_, ho, rfl⟩ PySem.F.entry_tuple_lt (PySem.F.args_tuple_lt_2 _ _) (tuple_ltAt l b items items2 n n2 d1 d2 z1 z2 e r) ⟨ho, ho2, he, hr, h⟩
/-- two tuples, as sorting compares things of one type -/
theorem one_tup {E : Value → Shared → Prop} {xs ys : List PyData} {a b : Value} {as bs : List Addr} {Q : Bool → Shared → Prop} (ra : Reads s.heap a (.tuple xs) as) (rb : Reads s.heap b (.tuple ys) bs) (h : alike (.tuple xs) (.tuple ys) = true)
    (hu : A.units + min (PyData.tuple xs).depth (PyData.tuple ys).depth < cLine) (hq : Q (dataLt (.tuple xs) (.tuple ys)) s) : wpAny (model prog w) A (oneLt' true a b) Q E s := by
  have hal : alikeAll xs ys = true := by simpa [alike] using h
  cases ra with
  | @tuple l o vs n _ _ h1 h2 h3 h4 =>
    cases rb with
    | @tuple l' o' vs' n' _ _ k1 k2 k3 k4 =>
      have n1 : vs.size = xs.length := by simpa using ReadsAll.length _ _ _ h4
      have n2 : vs'.size = ys.length := by simpa using ReadsAll.length _ _ _ k4
      rw [dataLt_tuple, ← firstLt_toks xs ys hal, ← n1, ← n2] at hq
      rw [oneLt'_eq]
      simp only [if_true]
      refine wpAny_bind (wpAny_cRoomFor (room_here hu) ?_)
      refine wpAny_bind (wpAny_callSpecialIfBound?_slot (T := "tuple") ⟨_, h1, h2⟩ PySem.F.slot_tuple_lt (call_tup_lt (e := pairEq xs ys) (r := fun j => dataLt (xs.getD j .none) (ys.getD j .none)) ⟨_, h1, h2, _, h3⟩ ⟨_, k1, k2, _, k3⟩ (fun j j1 j2 => ?_) (fun j j1 j2 hj => ?_) ?_))
      · have z := eqAt_alikeAll xs ys A.in1 s vs.toList vs'.toList _ _ h4 k4 hal (room_in hu) j (by simpa using j1) (by simpa using j2)
        simpa using z
      · have z := rcLt_alikeAll xs ys A.in1 s vs.toList vs'.toList _ _ h4 k4 hal (room_in hu) j (by simpa using j1) (by simpa using j2) hj
        simpa using z
      · exact wpAny_truthy_bool hq
/-- the first items of tuples, where there are any -/
def FstOf (h : Heap) (v : Value) (f : Option Value) : Prop := ∃ a o xs n, v = .ref a ∧ h.get? a = some o ∧ o.cls = .type "tuple" ∧ o.data = .seq xs n ∧ xs[0]? = f
theorem firsts_at {M : Model} {E : Value → Shared → Prop} : ∀ {vs : List Value} {fs : List (Option Value)} {Q : List (Option Value) → Shared → Prop}, EachIs (FstOf s.heap) vs fs → Q fs s → wpAny M A (vs.mapM firstOfTuple') Q E s
  | _, _, _, .nil, h => by rw [List.mapM_nil]; exact wpAny_pure h
  | v :: vs, f :: fs, Q, .cons ⟨a, o, xs, n, e1, ho, hc, hd, hf⟩ t, h => by
    subst e1
    rw [List.mapM_cons]
    refine wpAny_bind ?_
    rw [kas_first_eq]
    refine wpAny_bind (Looks.here (show Looks M s.heap (typeOf (.ref a)) o.cls from (Looks.ld ho).andThen .now) ?_)
    rw [hc, if_neg (by first | decide | simp)]
    refine wpAny_bind (listItems_at ho hd (wpAny_pure ?_))
    rw [hf]
    exact wpAny_bind (firsts_at (Q := fun bs s' => wpAny M A (pure (f :: bs)) Q E s') t (wpAny_pure h))
def neT : PyData → Bool
  | .tuple [] => false
  | _ => true
theorem neT_ok {d : PyData} (h : neT d = true) : d ≠ .tuple [] := by rintro rfl; cases h
theorem firsts_of {h : Heap} : ∀ {vs : List Value} {ds : List PyData}, EachIs (fun v d => ∃ as, Reads h v d as) vs ds → (∀ d ∈ ds, ∃ xs, d = .tuple xs) → ∃ fs, EachIs (FstOf h) vs fs ∧ fs.map (·.isSome) = ds.map neT
  | _, _, .nil, _ => ⟨[], .nil, rfl⟩
  | _, _, .cons (b := d) ⟨as, r⟩ t, ht => by
    obtain ⟨fs, h1, h2⟩ := firsts_of t fun d hd => ht d (List.mem_cons_of_mem _ hd)
    obtain ⟨xs, rfl⟩ := ht d List.mem_cons_self
    cases r with
    | @tuple a o ys n _ _ ho hc hd hr =>
      refine ⟨ys[0]? :: fs, .cons ⟨a, o, ys, n, rfl, ho, hc, hd, rfl⟩ h1, ?_⟩
      rw [List.map_cons, List.map_cons, h2]
      congr 1
      have hl : ys.size = xs.length := by simpa using ReadsAll.length _ _ _ hr
      cases xs with
      | nil => simp at hl; simp [hl, neT]
      | cons x xs => simp at hl; simp [hl, neT]
theorem reads_tup_type {M : Model} {h : Heap} {v : Value} {xs : List PyData} {as : List Addr} (r : Reads h v (.tuple xs) as) : Looks M h (typeOf v) (.type "tuple") := looks_reads r
theorem sorts_tups {vs : List Value} {ds : List PyData} (e : EachIs (fun v d => ∃ as, Reads s.heap v d as) vs ds) (hal : AllAlike ds) (ht : ∀ d ∈ ds, ∃ xs, d = .tuple xs) (hu : ∀ d, d ∈ ds → A.units + d.depth < cLine) : SortsAt prog w A s (dataKind s.heap ds) vs := by
  by_cases hne : ∀ d ∈ ds, d ≠ .tuple []
  · refine SortsAt.data e hal (.inl fun d hd => ?_) hu
    obtain ⟨xs, rfl⟩ := ht d hd
    cases xs with
    | nil => exact absurd rfl (hne _ hd)
    | cons x r => exact ⟨x, r, rfl⟩
  · have room : ∀ {d d' : PyData}, d ∈ ds → A.units + min d.depth d'.depth < cLine := fun {d d'} hd => Nat.lt_of_le_of_lt (Nat.add_le_add_left (Nat.min_le_left _ _) _) (hu d hd)
    refine ⟨fun v hv => ?_, ?_⟩
    · obtain ⟨d, hd, as, r⟩ := e.left v hv
      exact ⟨_, dataKind_some hal hd r⟩
    · obtain ⟨fs, f1, f2⟩ := firsts_of e ht
      have hnall : ¬ (fs.toArray.all fun x => x.isSome) = true := by
        intro z
        apply hne
        intro d hd
        have z1 : ∀ b ∈ fs.map (·.isSome), b = true := by
          intro b hb
          obtain ⟨f, hf, rfl⟩ := List.mem_map.mp hb
          rw [List.all_toArray, List.all_eq_true] at z
          exact z f hf
        rw [f2] at z1
        exact neT_ok (z1 _ (List.mem_map.mpr ⟨d, hd, rfl⟩))
      by_cases h0 : (fs.toArray[0]?.bind id).isSome = true
      · refine ⟨general', ?_, fun h2 E Q hq => ?_⟩
        · intro E x y a b Q ha hb hq
          obtain ⟨d, as, hd, ra, rfl⟩ := dataKind_inv ha
          obtain ⟨d', as', hd', rb, rfl⟩ := dataKind_inv hb
          obtain ⟨xs, rfl⟩ := ht d hd
          show wpAny (model prog w) A (oneLt' false x y) Q E s
          exact oneLt_alike (fun z => by cases z) ra rb (hal _ hd d' hd') (by simp) (room hd) hq
        · rw [PyProof.Rows.kat_kind_eq, List.mapM_toArray, map_eq_pure_bind]
          refine wpAny_bind (wpAny_bind (firsts_at f1 (wpAny_pure ?_)))
          rw [if_neg hnall, if_pos h0]
          exact wpAny_pure hq
      · refine ⟨oneType', ?_, fun h2 E Q hq => ?_⟩
        · intro E x y a b Q ha hb hq
          obtain ⟨d, as, hd, ra, rfl⟩ := dataKind_inv ha
          obtain ⟨d', as', hd', rb, rfl⟩ := dataKind_inv hb
          obtain ⟨xs, rfl⟩ := ht d hd
          obtain ⟨ys, rfl⟩ := ht d' hd'
          rw [keyLt'_oneType]
          exact one_tup ra rb (hal _ hd _ hd') (room hd) hq
        · rw [PyProof.Rows.kat_kind_eq, List.mapM_toArray, map_eq_pure_bind]
          refine wpAny_bind (wpAny_bind (firsts_at f1 (wpAny_pure ?_)))
          rw [if_neg hnall, if_neg h0]
          rw [oneTypeOnly'_eq, List.mapM_toArray, map_eq_pure_bind]
          refine wpAny_bind (wpAny_bind (wpAny_bind (kas_mapM (r := Value.type "tuple") _ (fun v hv Q' hq => ?_) (wpAny_pure ?_))))
          · obtain ⟨d, hd, as, r⟩ := e.left v hv
            obtain ⟨xs, rfl⟩ := ht d hd
            exact (reads_tup_type r).here hq
          · obtain ⟨v, rest, rfl⟩ : ∃ v rest, vs = v :: rest := by
              cases vs with
              | nil => simp at h2
              | cons v r => exact ⟨v, r, rfl⟩
            have hall : ((List.map (fun _ => Value.type "tuple") (v :: rest)).toArray.all fun x => x == Value.type "tuple") = true := by
              simp only [List.all_toArray, List.all_map, List.all_eq_true]
              intro _ _
              rfl
            have h0 : (List.map (fun _ => Value.type "tuple") (v :: rest)).toArray[0]? = some (Value.type "tuple") := by simp
            rw [h0]
            simp only [hall, if_true]
            exact wpAny_pure (wpAny_pure hq)
end
end AOne
end

section
set_option Elab.async false
set_option linter.all false
set_option maxRecDepth 100000
set_option maxHeartbeats 4000000
set_option autoImplicit false
/-! A20: sorted(list) by values. -/
namespace AOne
open PySem PySem.Spec PySem.W PySem.SeqAt L2

def VD (K : PySem.W.Frag) (G : Hp) (u : Value) (d : D) : Prop := ∃ x, RelV x u ∧ RD K G x d
theorem vd_each {K : PySem.W.Frag} {G : Hp} : ∀ {ws : List V} {its : List Value} {xs : List D}, Vals ws its → RDs K G ws xs → EachIs (VD K G) its xs
  | _, _, _, .nil, .nil => .nil
  | _, _, _, .cons r rs, .cons h hs => .cons ⟨_, r, h⟩ (vd_each rs hs)
theorem each_vd {K : PySem.W.Frag} {G : Hp} : ∀ {its : List Value} {xs : List D}, EachIs (VD K G) its xs → ∃ ws, Vals ws its ∧ RDs K G ws xs
  | _, _, .nil => ⟨[], .nil, .nil⟩
  | _, _, .cons ⟨x, r, h⟩ t => by
    obtain ⟨ws, h1, h2⟩ := each_vd t
    exact ⟨x :: ws, .cons r h1, .cons h h2⟩
theorem ltOk_cases {a b : D} (h : ltOk a b = true) : dalike a b = true ∧ shallow a = true ∧ shallow b = true ∧ ((∃ i, a = .int i) ∨ (∃ x, a = .str x) ∨ ∃ xs, a = .tup xs) := by
  unfold ltOk at h
  simp only [Bool.and_eq_true] at h
  obtain ⟨⟨⟨h1, h2⟩, h3⟩, h4⟩ := h
  refine ⟨h1, h2, h3, ?_⟩
  cases a <;> first | exact .inl ⟨_, rfl⟩ | exact .inr (.inl ⟨_, rfl⟩) | exact .inr (.inr ⟨_, rfl⟩) | cases h4
theorem sortOk_all {xs : List D} (h : sortOk xs = true) : ∀ a ∈ xs, ∀ b ∈ xs, ltOk a b = true := by
  unfold sortOk at h
  simp only [List.all_eq_true] at h
  exact h
/-- data that may be sorted can be sorted -/
theorem sorts_data {prog : Program} {w : World} {A : Around} {s : Shared} {vs : List Value} {xs : List D} (e : EachIs (fun v (d : PyData) => ∃ as, Reads s.heap v d as) vs (xs.map D.py)) (h : sortOk xs = true) (hu : A.units + 65 < cLine) : SortsAt prog w A s (dataKind s.heap (xs.map D.py)) vs := by
  have ha := sortOk_all h
  have hal : AllAlike (xs.map D.py) := by
    intro d hd d' hd'
    obtain ⟨a, h1, rfl⟩ := List.mem_map.mp hd
    obtain ⟨b, h2, rfl⟩ := List.mem_map.mp hd'
    exact (ltOk_cases (ha a h1 b h2)).1
  have hroom : ∀ d, d ∈ xs.map D.py → A.units + d.depth < cLine := by
    intro d hd
    obtain ⟨a, h1, rfl⟩ := List.mem_map.mp hd
    have : a.py.depth ≤ 64 := of_decide_eq_true (ltOk_cases (ha a h1 a h1)).2.1
    omega
  by_cases ht : ∀ d ∈ xs.map D.py, ∃ ys, d = .tuple ys
  · exact sorts_tups e hal ht hroom
  · refine SortsAt.data e hal (.inr fun d hd => ?_) hroom
    refine ⟨?_, fun ys z => ht fun d' hd' => ?_⟩
    · obtain ⟨a, h1, rfl⟩ := List.mem_map.mp hd
      rcases (ltOk_cases (ha a h1 a h1)).2.2.2 with ⟨i, rfl⟩ | ⟨x, rfl⟩ | ⟨ys, rfl⟩ <;> simp [D.py]
    · subst z
      have q := hal _ hd _ hd'
      cases d' <;> first | exact ⟨_, rfl⟩ | (simp [alike] at q)
theorem dle_eq : dataLe false D.py = dle := by
  rw [dataLe_eq]
  rfl
theorem each_of {α β γ : Type} {R : α → γ → Prop} (f : β → γ) : ∀ {as : List α} {bs : List β}, EachIs (fun a b => R a (f b)) as bs → EachIs R as (bs.map f)
  | _, _, .nil => .nil
  | _, _, .cons h t => .cons h (each_of f t)
section
variable {X : Cx} {pins : List (Addr × Obj)} {σ : L2.St} {H : Hp} {s : Shared}
theorem reads_each (I : Inv X pins σ H s) {G : Hp} (hs : Same G H) : ∀ {ws : List V} {its : List Value} {xs : List D}, Vals ws its → RDs X.K G ws xs → EachIs (fun v (d : D) => ∃ as, Reads s.heap v d.py as) its xs
  | _, _, _, .nil, .nil => .nil
  | _, _, _, .cons r rs, .cons h t => .cons (Dp.reads I _ _ _ (h.mono hs).dp r) (reads_each I hs rs t)
/-- sorted of a list whose items stand for data -/
theorem sorted_at (I : Inv X pins σ H s) {G : Hp} (hs : Same G H) {l : Addr} {ws : List V} {its : List Value} {xs : List D} {Q : VK} (hu : X.A.units + 200 < cLine) (hl : s.heap.IsList l its.toArray) (hz : its.length ≤ sizeLine) (rv : Vals ws its) (rd : RDs X.K G ws xs) (ok : sortOk xs = true)
    (q : ∀ p vs, H p = none → RDs X.K G vs (sortD xs) → Q (.ref p) (upd H p (.lst vs))) : wpAny (model X.prog X.w) X.A (call (.builtin "sorted") [.ref l]) (EP X pins σ Q) X.xe s := by
  have er := reads_each I hs rv rd
  have er' : EachIs (fun v (d : D) => ∃ as, Reads (sortingHeap (copyHeap s.heap its) (s.heap.objs.size + 1) its) v d.py as) its xs := er.mono fun _ _ ⟨as, r⟩ => ⟨as, PyProof.Rows.Reads.keeps (fun _ _ => sorting_copy_old) r⟩
  have SA : SortsAt X.prog X.w X.A.in1.in1 { s with heap := sortingHeap (copyHeap s.heap its) (s.heap.objs.size + 1) its } (dataKind (sortingHeap (copyHeap s.heap its) (s.heap.objs.size + 1) its) (xs.map D.py)) its :=
    sorts_data (s := { s with heap := sortingHeap (copyHeap s.heap its) (s.heap.objs.size + 1) its }) (each_of D.py er') ok (by show X.A.units + 1 + 1 + 65 < cLine; omega)
  refine sorted_vals hl SA hz ?_
  have out := sortVals_data (R := VD X.K G) (enc := D.py) false (vd_each rv rd) er' (by
    intro d hd d' hd'
    obtain ⟨a, h1, rfl⟩ := List.mem_map.mp hd
    obtain ⟨b, h2, rfl⟩ := List.mem_map.mp hd'
    exact (ltOk_cases (sortOk_all ok a h1 b h2)).1)
  rw [dle_eq, ← sortD_merge] at out
  generalize sortVals (dataKind (sortingHeap (copyHeap s.heap its) (s.heap.objs.size + 1) its) (xs.map D.py)) false its its = o at out
  obtain ⟨vs, h1, h2⟩ := each_vd out
  obtain ⟨ep, he⟩ := PyProof.Rows.sortedAll_at s.heap its o.toArray
  have hlen : vs.length ≤ sizeLine := by
    rw [h2.length]
    have e1 : (sortD xs).length = xs.length := by rw [sortD_merge]; simp
    have e2 := rd.length
    have e3 := rv.length
    rw [sortD_merge, List.length_mergeSort]
    omega
  exact ⟨.ref _, upd H (s.heap.objs.size + 1) (.lst vs), I.laid (t' := s.toks) (fun _ _ => PyProof.Rows.sortedAll_old) (Nat.le_succ _) ⟨hlen, o, ep, h1, by simpa using he⟩, rfl, q _ vs (I.hok.fresh (Nat.le_succ _)) h2⟩
end
theorem sorted_tupT {P : Program} {w : World} {A : Around} {E : Value → Shared → Prop} {s : Shared} {l : Addr} {o : Obj} {vs : List Value} {n : Nat} {Q : Value → Shared → Prop} (ho : s.heap.get? l = some o) (hc : o.cls = .type "tuple") (hd : o.data = .seq vs.toArray n) (hvz : vs.length ≤ sizeLine)
    (hs : ∀ h' : Heap, (∀ b u, s.heap.get? b = some u → h'.get? b = some u) → ∀ s' : Shared, (∀ b u, h'.get? b = some u → s'.heap.get? b = some u) → ∃ κ' : PyProof.Rows.KeyKind, SortsAt P w A.in1.in1 s' κ' vs ∧ ∀ (p : Addr) (c : Nat) (s'' : Shared), (∀ b u, h'.get? b = some u → s''.heap.get? b = some u) → s''.gens = s.gens → s''.os = s.os → h'.objs.size ≤ p → s''.heap.get? p = some (PyProof.Rows.seqObj "list" (sortVals κ' false vs vs).toArray c) → Q (.ref p) s'') :
    wpAny (model P w) A (call (.builtin "sorted") [.ref l]) Q E s := by
  refine Calls.call_function_entry PyProof.Rows.kind_sorted PyProof.Rows.plain_sorted PyProof.Rows.entry_sorted (PyProof.Rows.args_sorted1 _) ?_
  unfold Builtin.«sorted»
  refine wpAny_bind (m := checkCount "sorted" 1 1 _) (wpAny_pure ?_)
  refine wpAny_bind (wpAny_collect_seq (A := A.in1) l (.inr rfl) ho hc hd (fun h' k1 => ?_) (by rw [List.size_toArray]; exact hvz))
  have ev : vs.toArray.toList = vs := by simp
  rw [ev]
  refine wpAny_bind (wpAny_newList ?_ hvz)
  have hoL : (h'.push (PyProof.Rows.seqObj "list" vs.toArray 0)).get? h'.objs.size = some (PyProof.Rows.seqObj "list" vs.toArray 0) := Heap.get?_push_size _ rfl
  have X1 : ∀ b u, h'.get? b = some u → (sortingHeap (h'.push (PyProof.Rows.seqObj "list" vs.toArray 0)) h'.objs.size vs).get? b = some u := fun b u e => sortingHeap_old (Nat.ne_of_lt (Heap.lt_size e)) (Heap.get?_push_of_some _ e)
  obtain ⟨κ', SA, fin⟩ := hs h' k1 { s with heap := sortingHeap (h'.push (PyProof.Rows.seqObj "list" vs.toArray 0)) h'.objs.size vs } X1
  refine wpAny_bind (wpAny_holding (wpAny_call_entry (s := { s with heap := h'.push (PyProof.Rows.seqObj "list" vs.toArray 0) }) PyProof.Rows.slot_list_sort ⟨_, hoL, rfl⟩ PyProof.Rows.entry_list_sort (list_sort_vals (s := { s with heap := h'.push (PyProof.Rows.seqObj "list" vs.toArray 0) }) hoL SA hvz ⟨_, rfl, ?_⟩) (PyProof.Rows.args_list_sort _)))
  obtain ⟨c, hc⟩ := PyProof.Rows.sortedHeap_at (vs := vs) (out := (sortVals κ' false vs vs).toArray) hoL
  refine wpAny_pure ⟨_, rfl, fin h'.objs.size c _ (fun b u e => ?_) rfl rfl (Nat.le_refl _) hc⟩
  have hlt := Heap.lt_size e
  show (PyProof.Rows.sortedHeap (h'.push (PyProof.Rows.seqObj "list" vs.toArray 0)) h'.objs.size vs (sortVals κ' false vs vs).toArray).get? b = some u
  rw [PyProof.Rows.sortedHeap_old (Nat.ne_of_lt hlt) (by rw [PyProof.Rows.size_push']; exact Nat.lt_succ_of_lt hlt)]
  exact Heap.get?_push_of_some _ e
section
variable {X : Cx} {pins : List (Addr × Obj)} {σ : L2.St} {H : Hp} {s : Shared}
theorem sortedT_at (I : Inv X pins σ H s) {G : Hp} (hs : Same G H) {l : Addr} {ws : List V} {its : List Value} {xs : List D} {Q : VK} {o : Obj} {n : Nat} (hu : X.A.units + 200 < cLine) (ho : s.heap.get? l = some o) (hc : o.cls = .type "tuple") (hd : o.data = .seq its.toArray n) (hz : its.length ≤ sizeLine) (rv : Vals ws its) (rd : RDs X.K G ws xs) (ok : sortOk xs = true)
    (q : ∀ p vs, H p = none → RDs X.K G vs (sortD xs) → Q (.ref p) (upd H p (.lst vs))) : wpAny (model X.prog X.w) X.A (call (.builtin "sorted") [.ref l]) (EP X pins σ Q) X.xe s := by
  refine sorted_tupT ho hc hd hz fun h' k1 s' X' => ?_
  have I1 : Inv X pins σ H { s with heap := h' } := I.kept (t' := s.toks) k1
  have er := reads_each I1 hs rv rd
  have er' : EachIs (fun v (d : D) => ∃ as, Reads s'.heap v d.py as) its xs := er.mono fun _ _ ⟨as, r⟩ => ⟨as, PyProof.Rows.Reads.keeps (fun b o e => X' b o e) r⟩
  refine ⟨dataKind s'.heap (xs.map D.py), sorts_data (each_of D.py er') ok (by show X.A.units + 1 + 1 + 65 < cLine; omega), fun p c s2 X2 g2 o2 hp hg => ?_⟩
  have out := sortVals_data (R := VD X.K G) (enc := D.py) false (vd_each rv rd) er' (by
    intro d hd d' hd'
    obtain ⟨a, h1, rfl⟩ := List.mem_map.mp hd
    obtain ⟨b, h2, rfl⟩ := List.mem_map.mp hd'
    exact (ltOk_cases (sortOk_all ok a h1 b h2)).1)
  rw [dle_eq, ← sortD_merge] at out
  generalize sortVals (dataKind s'.heap (xs.map D.py)) false its its = o at out hg
  have out : EachIs (VD X.K G) o (sortD xs) := out
  obtain ⟨vs, h1, h2⟩ := each_vd out
  have hn : H p = none := I1.hok.fresh hp
  have hlen : vs.length ≤ sizeLine := by
    rw [h2.length]
    have e2 := rd.length
    have e3 := rv.length
    rw [sortD_merge, List.length_mergeSort]
    omega
  have J : Inv X pins σ (upd H p (.lst vs)) { ({ s with heap := h' } : Shared) with heap := s2.heap, gens := s2.gens, drawn := s2.drawn, toks := s2.toks } :=
    I1.call (s := { s with heap := h' }) (ch := []) (Un.laid X2 hp hn) (I1.hok.laid X2 hp ⟨hlen, o, c, h1, by simpa [PyProof.Rows.seqObj] using hg⟩) (by rw [g2]; exact I.bare) (fun _ z => nomatch z)
  have e : s2 = { s with heap := s2.heap, gens := s2.gens, drawn := s2.drawn, toks := s2.toks } := by
    cases s2
    cases s
    cases o2
    rfl
  rw [e]
  exact ⟨.ref p, _, J, rfl, q p vs hn h2⟩
end
theorem cr_sortedN {X : Cx} (hu : X.A.units + 200 < cLine) : CallR X (.builtin "sorted") (rPrN X.K .sorted) := by
  intro pins s σ H vs us Q I r h
  obtain ⟨G, da, S, ds, es, R, rt, e, q⟩ := h
  obtain ⟨a, rfl⟩ := pr_one (by simp [prD]) (fun _ _ _ => by simp [prD]) e
  simp only [prD] at e
  obtain ⟨x, rfl, ha⟩ := rt.one
  revert e
  generalize ea : look S a = a'
  intro e
  cases a' <;> simp only [ea, reduceCtorEq] at e
  · split at e
    · rename_i ok
      cases e
      obtain ⟨p, ws, rfl, k1, _, k2⟩ := look_tup R ha ea
      obtain ⟨its, rv, ⟨o, ho, hc, n, hd⟩, hz⟩ := I.tuple k1
      rw [Vals.ref1 r]
      have hz : its.length ≤ sizeLine := by
        have := rv.length
        first | exact hz | (rw [← this]; exact hz) | (rw [this] at hz; exact hz)
      exact sortedT_at I R.same hu ho hc hd hz rv k2 ok fun p' vs' hp hr => q p' vs' hp hr
    · cases e
  split at e
  · rename_i ok
    cases e
    obtain ⟨p, ws, rfl, k1, k2⟩ := look_lst R ha ea
    obtain ⟨its, rv, hl, hz⟩ := I.list k1
    rw [Vals.ref1 r]
    have hz : its.length ≤ sizeLine := by
      have := rv.length
      first | exact hz | (rw [← this]; exact hz) | (rw [this] at hz; exact hz)
    exact sorted_at I R.same hu hl.isList hz rv k2 ok fun p' vs' hp hr => q p' vs' hp hr
  · cases e
end AOne
end

section
set_option Elab.async false
set_option linter.all false
set_option maxRecDepth 100000
set_option maxHeartbeats 4000000
set_option autoImplicit false
/-! A21: sets of things that are hashed and compared by a key (tuples of texts, ..): finding, adding. -/
namespace AOne
open PySem PySem.Spec L2

/-- h keeps what stands in h0 -/
def Ext (h0 h : Heap) : Prop := ∀ b o, h0.get? b = some o → h.get? b = some o
/-- what is asked of the members of a set: U the values, key what tells them apart, hash by the key -/
structure Ky (P : Program) (w : World) (A : Around) (h0 : Heap) {κ : Type} [DecidableEq κ] (U : Value → Prop) (key : Value → κ) (hash : κ → Int) : Prop where
  hashes : ∀ v, U v → ∀ (s : Shared) (E : Value → Shared → Prop) (Q : Int → Shared → Prop), Ext h0 s.heap → (∀ tk, s.toks ≤ tk → Q (hash (key v)) { s with toks := tk }) → wpAny (model P w) A (pyHash v) Q E s
  eqs : ∀ u v, U u → U v → ∀ (s : Shared) (E : Value → Shared → Prop) (Q : Bool → Shared → Prop), Ext h0 s.heap → Q (decide (key u = key v)) s → wpAny (model P w) A (eqBool u v) Q E s
  seen : ∀ v ys, U v → (∀ y ∈ ys, U y) → ∀ (s : Shared) (E : Value → Shared → Prop) (Q : Bool → Shared → Prop), Ext h0 s.heap → Q false s → wpAny (model P w) A (searchCouldBeSeen v ys) Q E s
  byv : ∀ v, U v → ∀ (s : Shared) (E : Value → Shared → Prop) (Q : Bool → Shared → Prop), Ext h0 s.heap → (∀ b, Q b s) → wpAny (model P w) A (hashByValue 8 v) Q E s
  ref : ∀ v, U v → ∃ a, v = .ref a

section
variable {P : Program} {w : World} {A : Around} {h0 : Heap} {κ : Type} [DecidableEq κ] {U : Value → Prop} {key : Value → κ} {hash : κ → Int}
def rowOf (key : Value → κ) (hash : κ → Int) (v : Value) : Int × Value := (hash (key v), v)
/-- the set at a has the members L, each once -/
structure SetR (w : World) (U : Value → Prop) (key : Value → κ) (hash : κ → Int) (h : Heap) (a : Addr) (L : List Value) (es : Array (Int × Value)) (ep : Nat) (t : SetTable) : Prop where
  ob : ∃ o, h.get? a = some o ∧ o.ExactSet ∧ o.data = .set es ep t
  rows : es.toList = L.map (rowOf key hash)
  tab : L2.TabOk t (L.map fun v => hash (key v))
  nd : (L.map key).Nodup
  mem : ∀ v ∈ L, U v
  led : w.params.followText "set-order" = true ∨ t.led = true
  room : L.length * 5 < t.mask * 3
  few : L.length < 64
variable {E : Value → Shared → Prop} {s : Shared} {a : Addr} {L : List Value} {es : Array (Int × Value)} {ep : Nat} {t : SetTable}
theorem SetR.count {h : Heap} (R : SetR w U key hash h a L es ep t) : es.size = L.length := by
  rw [← Array.length_toList, R.rows, List.length_map]
theorem SetR.ok {h : Heap} (R : SetR w U key hash h a L es ep t) : t.fits es.size = true := by
  have h1 := R.tab.sz
  have h2 := R.count
  have h3 := R.room
  simp only [List.length_map] at h1
  simp only [SetTable.fits, SetTable.fill, R.tab.dm, Bool.and_eq_true, beq_iff_eq, decide_eq_true_eq]
  have : (#[] : Array Nat).size = 0 := rfl
  omega
theorem SetR.at_ {h : Heap} (R : SetR w U key hash h a L es ep t) {i : Nat} {v : Value} (e : L[i]? = some v) : es[i]? = some (hash (key v), v) := by
  rw [← Array.getElem?_toList, R.rows, List.getElem?_map, e]
  rfl
theorem SetR.stays {h : Heap} (R : SetR w U key hash h a L es ep t) : ¬ t.gaveWay = true := by
  simp only [SetTable.gaveWay, mask_odd R.tab.mok]
  decide
theorem nth_free (m : Nat) : ∀ (n : Nat) (p : SetTable.Probe), p.dummy = none → (nth m p n).dummy = none
  | 0, _, h => h
  | n + 1, p, h => nth_free m n (adv m p) (by unfold adv; split <;> exact h)
/-- the c-th step of the way of a hash -/
abbrev stp (m : Nat) (h : Int) (c : Nat) : SetTable.Probe := nth m (runAt m (SetTable.bits h % (m + 1)) (SetTable.bits h)) c
theorem stp_add (m : Nat) (h : Int) (c q : Nat) : nth m (stp m h c) q = stp m h (c + q) := (nth_add m c _ q).symm
/-- a member is looked for, from a step of its way on -/
theorem find_from (Y : Ky P w A h0 U key hash) (X : Ext h0 s.heap) (R : SetR w U key hash s.heap a L es ep t) {x : Value} (hx : U x) {K : Nat} (hKf : K < 10 * SetTable.turns t.mask)
    (hK : way t.mask (hash (key x)) K ∉ t.place.toList) (hKb : ∀ c, c < K → way t.mask (hash (key x)) c ∈ t.place.toList) {Q : SetFound → Shared → Prop}
    (hin : key x ∈ L.map key → Q (.there none) s) (hout : key x ∉ L.map key → Q (.free (way t.mask (hash (key x)) K) false) s) :
    ∀ (f c : Nat) (st : Option SetTable.Probe), st.getD (t.probeStart (hash (key x))) = stp t.mask (hash (key x)) c → c ≤ K → K - c < f →
      (∀ (i : Nat) v, L[i]? = some v → key v = key x → ∃ c', c ≤ c' ∧ c' < K ∧ t.place.toList[i]? = some (way t.mask (hash (key x)) c')) →
      wpAny (model P w) A (setSearchFrom a x (hash (key x)) true f st) Q E s := by
  intro f
  induction f with
  | zero => intro c st _ _ hf _; omega
  | succ f ih =>
    intro c st hst hc hf hre
    obtain ⟨o, ho, hex, hd⟩ := R.ob
    generalize hh : hash (key x) = h at *
    have slotw : ∀ q, (nth t.mask (stp t.mask h c) q).j = way t.mask h (c + q) := fun q => congrArg SetTable.Probe.j (stp_add t.mask h c q)
    have hashAt : ∀ (i : Nat) v, L[i]? = some v → (fun i => (es[i]?.map (·.1)).getD 0) i = hash (key v) := fun i v hv => by
      show (es[i]?.map (·.1)).getD 0 = _
      rw [R.at_ hv]
      rfl
    have spec := go_spec t R.tab.ris R.tab.dm (fun i => (es[i]?.map (·.1)).getD 0) h (10 * SetTable.turns t.mask) (K - c) (stp t.mask h c) (nth_free _ _ _ rfl) (by omega)
      (fun q hq => by rw [slotw]; exact hKb (c + q) (by omega)) (by rw [slotw, show c + (K - c) = K by omega]; exact hK)
    rw [setSearchFrom_succ]
    refine wpAny_bind (wpAny_setState_of ho hd R.ok ?_)
    dsimp only
    refine wp_if_neg R.stays ?_
    try refine wpAny_bind (wpAny_pure ?_)
    rcases spec with ⟨q, i, hq, hi, hhi, hno, hpr⟩ | ⟨hno, hpr⟩
    · have hp2 : t.probe (fun i => (es[i]?.map (·.1)).getD 0) h (st.getD (t.probeStart h)) = some (.candidate (way t.mask h (c + q)) i (stp t.mask h (c + (q + 1)))) := by
        rw [hst, ← slotw, ← stp_add]
        exact hpr
      rw [hp2]
      dsimp only
      rw [slotw] at hi
      have hil : i < L.length := by
        have h1 := (List.getElem?_eq_some_iff.mp hi).1
        have h2 := R.tab.sz
        simp only [List.length_map] at h2
        rw [Array.length_toList] at h1
        omega
      obtain ⟨v, hv⟩ : ∃ v, L[i]? = some v := ⟨L[i], List.getElem?_eq_getElem hil⟩
      have hvm : v ∈ L := List.mem_of_getElem? hv
      have hU := R.mem v hvm
      have behind : wpAny (model P w) A (searchRest a x h true f es t (way t.mask h (c + q)) i (stp t.mask h (c + (q + 1)))) Q E s := by
        unfold searchRest
        rw [R.at_ hv]
        dsimp only
        refine wpAny_bind (wpAny_holding (Y.eqs v x hU hx s _ _ X ?_))
        refine wpAny_bind (wpAny_setState_of ho hd R.ok ?_)
        dsimp only
        by_cases hk : key v = key x
        · refine wp_if_pos (by simp [hk]) (wpAny_pure (hin ?_))
          exact List.mem_map.mpr ⟨v, hvm, hk⟩
        · refine wp_if_neg (by simp [hk]) ?_
          try refine wpAny_bind (wpAny_pure ?_)
          rw [sameMem]
          dsimp only
          have hsl : t.slot (way t.mask h (c + q)) = .live i := slot_live R.tab.ris hi
          obtain ⟨b, rfl⟩ := Y.ref v hU
          simp only [if_true, hsl, R.at_ hv]
          refine wpAny_bind (wpAny_isSame_ref_self (wpAny_bind (wpAny_pure ?_)))
          simp only [if_true]
          refine wp_if_neg (by simp [hk]) ?_
          refine ih (c + (q + 1)) _ rfl (by omega) (by omega) fun i' v' hv' hk' => ?_
          obtain ⟨c', a1, a2, a3⟩ := hre i' v' hv' hk'
          refine ⟨c', ?_, a2, a3⟩
          by_cases hlt : c' < c + q
          · refine absurd ?_ (hno (c' - c) i' (by omega) (by rw [slotw, show c + (c' - c) = c' by omega]; exact a3))
            exact (hashAt i' v' hv').trans (by rw [hk', hh])
          · by_cases he : c' = c + q
            · subst he
              have sl := slot_live R.tab.ris a3
              rw [hsl] at sl
              have ei : i = i' := by injection sl
              subst ei
              rw [hv] at hv'
              cases hv'
              exact absurd hk' hk
            · omega
      by_cases hl : t.led = true
      · refine wp_if_neg (by simp [hl]) ?_
        try refine wpAny_bind (wpAny_pure ?_)
        exact behind
      · refine wp_if_pos (by simp [hl]) ?_
        refine wpAny_bind (Y.seen x _ hx (fun y hy => ?_) s _ _ X ?_)
        · obtain ⟨e, he, rfl⟩ := List.mem_map.mp hy
          have he1 : e ∈ es.toList := by
            have : e ∈ es ∧ e.1 = h := by simpa using he
            simpa using this.1
          rw [R.rows] at he1
          obtain ⟨u, hu, rfl⟩ := List.mem_map.mp he1
          exact R.mem u hu
        · refine wp_if_neg (by decide) ?_
          try refine wpAny_bind (wpAny_pure ?_)
          exact behind
    · have hp2 : t.probe (fun i => (es[i]?.map (·.1)).getD 0) h (st.getD (t.probeStart h)) = some (.empty (way t.mask h K) none) := by
        have e2 := slotw (K - c)
        rw [show c + (K - c) = K by omega] at e2
        rw [hst, ← e2]
        exact hpr
      rw [hp2]
      dsimp only
      refine wpAny_pure (hout fun hm => ?_)
      obtain ⟨v, hv, hk⟩ := List.mem_map.mp hm
      obtain ⟨i, hi, e0⟩ := List.getElem_of_mem hv
      have hiv : L[i]? = some v := by rw [List.getElem?_eq_getElem hi, e0]
      obtain ⟨c', a1, a2, a3⟩ := hre i v hiv hk
      refine hno (c' - c) i (by omega) (by rw [slotw, show c + (c' - c) = c' by omega]; exact a3) ?_
      exact (hashAt i v hiv).trans (by rw [hk, hh])
theorem find_in (Y : Ky P w A h0 U key hash) (X : Ext h0 s.heap) (R : SetR w U key hash s.heap a L es ep t) {x : Value} (hx : U x) {Q : SetFound → Shared → Prop}
    (hin : key x ∈ L.map key → Q (.there none) s)
    (hout : ∀ K, key x ∉ L.map key → way t.mask (hash (key x)) K ∉ t.place.toList → (∀ c, c < K → way t.mask (hash (key x)) c ∈ t.place.toList) → Q (.free (way t.mask (hash (key x)) K) false) s) :
    wpAny (model P w) A (setSearch a x (hash (key x)) true) Q E s := by
  have hroom := R.room
  obtain ⟨K, hKf, hK, hKb⟩ := R.tab.first (by simp only [List.length_map]; omega) (hash (key x))
  have hsm : K < 100000 := by
    have hm := R.tab.mok
    unfold SetTable.turns at hKf
    rcases hm with e | e | e <;> omega
  unfold setSearch
  refine find_from Y X R hx hKf hK hKb hin (fun hn => hout K hn hK hKb) 100000 0 none rfl (Nat.zero_le _) (by omega) fun i v hv hk => ?_
  have hi : (L.map fun v => hash (key v))[i]? = some (hash (key x)) := by rw [List.getElem?_map, hv]; show some (hash (key v)) = _; rw [hk]
  have hil : i < t.place.toList.length := by
    have h1 := (List.getElem?_eq_some_iff.mp hv).1
    have h2 := R.tab.sz
    simp only [List.length_map] at h2
    rw [Array.length_toList]
    omega
  obtain ⟨c, hc, e⟩ := R.tab.before hK hi (List.getElem?_eq_getElem hil)
  exact ⟨c, Nat.zero_le _, hc, by rw [List.getElem?_eq_getElem hil, e]⟩
/-- only the table's plain mark turns -/
theorem tab_plain {t : SetTable} {hs : List Int} {b : Bool} (T : L2.TabOk t hs) : L2.TabOk { t with plain := b } hs := ⟨T.ris, T.dm, T.sz, T.mok, T.bd, T.reach⟩
theorem rows_ins (L : List Value) (es : Array (Int × Value)) (he : es.toList = L.map (rowOf key hash)) (p : Nat) (x : Value) : (SetTable.insertAt es p (hash (key x), x)).toList = (L.take p ++ x :: L.drop p).map (rowOf key hash) := by
  rw [SetTable.toList_insertAt, he, List.map_append, List.map_cons, List.map_take, List.map_drop]
  rfl
/-- rows in another order -/
theorem rows_order (L : List Value) (es : Array (Int × Value)) (order : Array Nat) (he : es.toList = L.map (rowOf key hash)) (hp : order.toList.Perm (List.range L.length)) :
    ∃ M : List Value, (order.filterMap (es[·]?)).toList = M.map (rowOf key hash) ∧ M.Perm L ∧ (M.map fun v => hash (key v)) = order.toList.map fun i => (es.map (·.1)).getD i 0 := by
  have hat : ∀ i (h : i < L.length), es[i]? = some (rowOf key hash L[i]) := fun i h => by
    rw [← Array.getElem?_toList, he, List.getElem?_map, List.getElem?_eq_getElem h]
    rfl
  have hlt : ∀ i ∈ order.toList, i < L.length := fun i hi => List.mem_range.mp (hp.mem_iff.mp hi)
  refine ⟨order.toList.filterMap fun i => L[i]?, ?_, ?_, ?_⟩
  · rw [Array.toList_filterMap]
    have key1 : ∀ l : List Nat, (∀ i ∈ l, i < L.length) → l.filterMap (fun i => es[i]?) = (l.filterMap fun i => L[i]?).map (rowOf key hash) := by
      intro l
      induction l with
      | nil => intro _; rfl
      | cons i l ih =>
        intro h
        have hi := h i List.mem_cons_self
        rw [List.filterMap_cons_some (hat i hi), List.filterMap_cons_some (List.getElem?_eq_getElem hi), List.map_cons, ih fun j hj => h j (List.mem_cons_of_mem _ hj)]
    exact key1 _ hlt
  · have e : (List.range L.length).filterMap (fun i => L[i]?) = L := by
      apply List.ext_getElem?
      intro i
      have all : ∀ n, n ≤ L.length → (List.range n).filterMap (fun i => L[i]?) = L.take n := by
        intro n
        induction n with
        | zero => intro _; rfl
        | succ n ih =>
          intro hn
          rw [List.range_succ, List.filterMap_append, ih (by omega), List.take_succ, List.filterMap_cons_some (List.getElem?_eq_getElem (show n < L.length by omega)), List.getElem?_eq_getElem (show n < L.length by omega)]
          rfl
      rw [all L.length (Nat.le_refl _), List.take_length]
    have := hp.filterMap fun i => L[i]?
    rw [e] at this
    exact this
  · have key2 : ∀ l : List Nat, (∀ i ∈ l, i < L.length) → (l.filterMap fun i => L[i]?).map (fun v => hash (key v)) = l.map fun i => (es.map (·.1)).getD i 0 := by
      intro l
      induction l with
      | nil => intro _; rfl
      | cons i l ih =>
        intro h
        have hi := h i List.mem_cons_self
        have e5 : (es.map (·.1))[i]? = some (hash (key L[i])) := by rw [Array.getElem?_map, hat i hi]; rfl
        rw [List.filterMap_cons_some (List.getElem?_eq_getElem hi), List.map_cons, List.map_cons, ih fun j hj => h j (List.mem_cons_of_mem _ hj)]
        congr 1
        simp [Array.getD_eq_getD_getElem?, e5]
    exact key2 _ hlt
/-- the table is laid anew, larger -/
theorem relay_in {o : Obj} (ho : s.heap.get? a = some o) (hex : o.ExactSet) (hd : o.data = .set es ep t) (he : es.toList = L.map (rowOf key hash)) (hsz : t.place.size = es.size) (hdm : t.dummies = #[]) (hfl : es.size ≤ t.mask)
    (nd : (L.map key).Nodup) (mem : ∀ v ∈ L, U v) (ld : w.params.followText "set-order" = true ∨ t.led = true) (few : L.length < 64) {wanted M : Nat} (hw : SetTable.sizeAbove wanted - 1 = M) (hM : MaskOk M) (hw2 : SetTable.sizeAbove wanted ≤ 128) (hn : L.length * 5 < M * 3) {Q : Unit → Shared → Prop}
    (hQ : ∀ h' L' es' ep' t', Heap.SameBut a s.heap h' → SetR w U key hash h' a L' es' ep' t' → L'.Perm L → Q () { s with heap := h' }) : wpAny (model P w) A (setRelay a wanted) Q E s := by
  have hsl : es.size = L.length := by rw [← Array.length_toList, he, List.length_map]
  have hfits : t.fits es.size = true := by
    simp only [SetTable.fits, SetTable.fill, hdm, Bool.and_eq_true, beq_iff_eq, decide_eq_true_eq]
    have : (#[] : Array Nat).size = 0 := rfl
    omega
  obtain ⟨t', order, e, hp, T, em, el, _, ed⟩ := relaid_ok t (hs := es.map (·.1)) (wanted := wanted) hw hM (by rw [Array.size_map, hsl]; omega)
  rw [Array.size_map, hsl] at hp
  obtain ⟨L2, r1, r2, r3⟩ := rows_order (key := key) (hash := hash) L es order he hp
  rw [← r3] at T
  have hs2 : (order.filterMap (es[·]?)).size = es.size := by rw [← Array.length_toList, r1, List.length_map, r2.length_eq, hsl]
  rw [setRelay_eq]
  refine wpAny_bind (wpAny_setState_of ho hd hfits ?_)
  dsimp only
  refine wp_if_neg (by rw [sizeLine_eq]; omega) ?_
  try refine wpAny_bind (wpAny_pure ?_)
  rw [e]
  dsimp only
  refine wpAny_bind ?_
  refine wp_if_neg (by rw [hs2]; simp) ?_
  try refine wpAny_bind (wpAny_pure ?_)
  refine wpAny_pure ?_
  dsimp only
  refine wpAny_storeSet_of ho hd ?_ (by rw [hs2, hsl, sizeLine_eq]; omega)
  have nd2 : (L2.map key).Nodup := (r2.map key).nodup_iff.mpr nd
  refine hQ _ L2 (order.filterMap (es[·]?)) (ep + 1) t' (Heap.SameBut.update ..) ⟨⟨_, store_at ho hd, ⟨hex.1, hex.2.1, hex.2.2⟩, rfl⟩, r1, T, nd2, fun v hv => mem v (r2.mem_iff.mp hv), by rw [el]; exact ld, ?_, by rw [r2.length_eq]; exact few⟩ r2
  rw [r2.length_eq, em]
  exact hn
/-- a member is added -/
theorem add_in (Y : Ky P w A h0 U key hash) (X : Ext h0 s.heap) (R : SetR w U key hash s.heap a L es ep t) {x : Value} (hx : U x) (hfew : key x ∉ L.map key → L.length + 1 < 64) {Q : Bool → Shared → Prop}
    (hQ : ∀ b h' L' es' ep' t', Heap.SameBut a s.heap h' → SetR w U key hash h' a L' es' ep' t' → (key x ∈ L.map key → L' = L) → (key x ∉ L.map key → L'.Perm (x :: L)) → Q b { s with heap := h' }) :
    wpAny (model P w) A (setAddHashed a x (hash (key x))) Q E s := by
  obtain ⟨o, ho, hex, hd⟩ := R.ob
  have hsl := R.count
  have hroom := R.room
  have hns : byScan x es = false := by
    obtain ⟨b, rfl⟩ := Y.ref x hx
    rfl
  unfold setAddHashed
  refine wpAny_holding ?_
  rw [show (100000 : Nat) = 99999 + 1 from rfl, setAddHashedIn_succ]
  refine wpAny_bind (wpAny_setState_of ho hd R.ok ?_)
  dsimp only
  refine wp_if_neg (by rw [hns]; decide) ?_
  try refine wpAny_bind (wpAny_pure ?_)
  refine wpAny_bind (find_in Y X R hx (fun hm => ?_) fun K hm hK hb => ?_)
  · dsimp only
    exact wpAny_pure (hQ false s.heap L es ep t (Heap.SameBut.refl a s.heap) R (fun _ => rfl) fun z => absurd hm z)
  · have hfew := hfew hm
    dsimp only
    refine wpAny_bind (wpAny_setState_of ho hd R.ok ?_)
    dsimp only
    obtain ⟨q1, q2, q3, q4, q5, q6, q7, q8, q9⟩ := R.tab.put hK hb
    generalize hpt : t.put (way t.mask (hash (key x)) K) = pt at q1 q3 q4 q5 q6 q7 q8 q9 ⊢
    obtain ⟨t1, p⟩ := pt
    dsimp only at q1 q3 q4 q5 q6 q7 q8 q9 ⊢
    subst q1
    -- whatever the mark becomes
    have fin : ∀ t2 : SetTable, (∃ b, t2 = { t1 with plain := b }) → wpAny (model P w) A (do
        storeSet a (SetTable.insertAt es (SetTable.below t.place (way t.mask (hash (key x)) K)) (hash (key x), x)) t2
        if !false && t2.tooFull then setRelay a (SetTable.grown (es.size + 1))
        return true) Q E s := by
      rintro t2 ⟨pb, rfl⟩
      generalize SetTable.below t.place (way t.mask (hash (key x)) K) = p at q2 q3 ⊢
      have hin := rows_ins (key := key) (hash := hash) L es R.rows p x
      have pm := put_perm L p x
      have hlen := pm.length_eq
      rw [List.length_cons] at hlen
      have hhs : (L.take p ++ x :: L.drop p).map (fun v => hash (key v)) = (L.map fun v => hash (key v)).take p ++ hash (key x) :: (L.map fun v => hash (key v)).drop p := by
        rw [List.map_append, List.map_cons, List.map_take, List.map_drop]
      rw [← hhs] at q3
      have nd1 : ((L.take p ++ x :: L.drop p).map key).Nodup := by
        refine (pm.map key).nodup_iff.mpr ?_
        rw [List.map_cons]
        exact List.nodup_cons.mpr ⟨hm, R.nd⟩
      have mem1 : ∀ v ∈ L.take p ++ x :: L.drop p, U v := fun v hv => by
        rcases List.mem_cons.mp (pm.mem_iff.mp hv) with e | hv
        · rw [e]; exact hx
        · exact R.mem v hv
      have hes : (SetTable.insertAt es p (hash (key x), x)).size = L.length + 1 := by rw [← Array.length_toList, hin, List.length_map, hlen]
      generalize SetTable.insertAt es p (hash (key x), x) = es1 at hin hes ⊢
      generalize L.take p ++ x :: L.drop p = L1 at pm hlen q3 nd1 hin mem1
      refine wpAny_bind (wpAny_storeSet_of ho hd ?_ (by rw [hes, sizeLine_eq]; omega))
      have sb : Heap.SameBut a s.heap (s.heap.update a (Obj.putSet es1 { t1 with plain := pb })) := Heap.SameBut.update ..
      have ho1 := store_at (es' := es1) (t' := { t1 with plain := pb }) ho hd
      generalize s.heap.update a (Obj.putSet es1 { t1 with plain := pb }) = h1 at sb ho1 ⊢
      have ld1 : w.params.followText "set-order" = true ∨ ({ t1 with plain := pb } : SetTable).led = true := by
        show _ ∨ t1.led = true
        rw [q5]; exact R.led
      have ful : ({ t1 with plain := pb } : SetTable).tooFull = t1.tooFull := rfl
      by_cases hf : t1.tooFull = true
      · first
          | (refine wpAny_bind ?_; refine wp_if_pos (by simp [ful, hf]) ?_)
          | (refine wp_if_pos (by simp [ful, hf]) ?_; refine wpAny_bind ?_)
        have hfull : (L.length + 1) * 5 ≥ t1.mask * 3 := by
          have h := hf
          unfold SetTable.tooFull at h
          rw [decide_eq_true_eq, q9, List.length_map] at h
          exact h
        rw [hsl]
        have hsz1 : t1.place.size = es1.size := by
          have h := q3.sz
          rw [List.length_map, hlen] at h
          rw [h, hes]
        have two : (t.mask = 7 ∧ L.length = 4) ∨ (t.mask = 31 ∧ L.length = 18) := by
          rw [q4] at hfull
          rcases R.tab.mok with e | e | e <;> rw [e] at hfull hroom
          · exact .inl ⟨e, by omega⟩
          · exact .inr ⟨e, by omega⟩
          · omega
        have go : ∀ M, SetTable.sizeAbove (SetTable.grown (L.length + 1)) - 1 = M → MaskOk M → SetTable.sizeAbove (SetTable.grown (L.length + 1)) ≤ 128 → (L.length + 1) * 5 < M * 3 →
            wpAny (model P w) A (setRelay a (SetTable.grown (L.length + 1))) (fun _ s' => wpAny (model P w) A (pure true) Q E s') E { s with heap := h1 } := fun M m1 m2 m3 m4 => by
          refine relay_in (s := { s with heap := h1 }) (t := { t1 with plain := pb }) (key := key) (hash := hash) (U := U) ho1 ⟨hex.1, hex.2.1, hex.2.2⟩ rfl hin hsz1 q3.dm (by show es1.size ≤ t1.mask; rw [hes, q4]; rcases two with ⟨e, e2⟩ | ⟨e, e2⟩ <;> omega) nd1 mem1 ld1 (by omega) m1 m2 m3 (by rw [hlen]; exact m4) ?_
          intro h2 L2 es2 ep2 t2 sb2 R2 pm2
          exact wpAny_pure (hQ true h2 L2 es2 ep2 t2 (sb.trans sb2) R2 (fun z => absurd z hm) fun _ => pm2.trans pm)
        rcases two with ⟨_, e2⟩ | ⟨_, e2⟩
        · exact go 31 (by rw [e2, size_20]) (.inr (.inl rfl)) (by rw [e2, size_20]; decide) (by omega)
        · exact go 127 (by rw [e2, size_76]) (.inr (.inr rfl)) (by rw [e2, size_76]; decide) (by omega)
      · first
          | refine wp_if_neg (by simp [ful, hf]) ?_
          | (refine wpAny_bind ?_; refine wp_if_neg (by simp [ful, hf]) ?_; refine wpAny_pure ?_)
        refine wpAny_pure (hQ true h1 L1 es1 (ep + 1) _ sb ⟨⟨_, ho1, ⟨hex.1, hex.2.1, hex.2.2⟩, rfl⟩, hin, tab_plain q3, nd1, mem1, ld1, ?_, by omega⟩ (fun z => absurd z hm) fun _ => pm)
        show L1.length * 5 < t1.mask * 3
        have h := hf
        unfold SetTable.tooFull at h
        rw [decide_eq_true_eq, q9, List.length_map] at h
        omega
    have mark : ∀ b : Bool, ∃ c, (if b = true then t1 else { t1 with plain := false }) = { t1 with plain := c } := fun b => by
      cases b with
      | true => exact ⟨t1.plain, rfl⟩
      | false => exact ⟨false, rfl⟩
    by_cases hp1 : t1.plain = true
    · first
        | (refine wpAny_bind ?_; refine wp_if_pos hp1 ?_; refine Y.byv x hx s _ _ X fun b => ?_)
        | refine wp_if_pos hp1 (wpAny_bind (Y.byv x hx s _ _ X fun b => ?_))
      exact fin _ (mark b)
    · first
        | (refine wpAny_bind ?_; refine wp_if_neg hp1 ?_; refine wpAny_pure ?_)
        | refine wp_if_neg hp1 (wpAny_bind (wpAny_pure ?_))
      exact fin _ (mark true)
end
end AOne
end

section
set_option Elab.async false
set_option linter.all false
set_option maxRecDepth 100000
set_option maxHeartbeats 4000000
set_option autoImplicit false
/-! A22: set(xs) of a list or a tuple of such things. -/
namespace AOne
open PySem PySem.Spec PyProof.Rows

section
variable {P : Program} {w : World} {A : Around} {h0 : Heap} {κ : Type} [DecidableEq κ] {U : Value → Prop} {key : Value → κ} {hash : κ → Int}
/-- what the set has of the first i values -/
structure Has (key : Value → κ) (vs : List Value) (i : Nat) (L : List Value) : Prop where
  sub : ∀ v ∈ L, v ∈ vs.take i
  all : ∀ v ∈ vs.take i, key v ∈ L.map key
  len : L.length ≤ i
theorem has_zero (vs : List Value) : Has key vs 0 [] := ⟨fun _ h => (by cases h), fun _ h => (by simp at h), Nat.le_refl _⟩
theorem Has.step {vs L L' : List Value} {i : Nat} {x : Value} (g : Has key vs i L) (h : vs[i]? = some x) (c1 : key x ∈ L.map key → L' = L) (c2 : key x ∉ L.map key → L'.Perm (x :: L)) : Has key vs (i + 1) L' := by
  have e : vs.take (i + 1) = vs.take i ++ [x] := by rw [List.take_succ, h]; rfl
  by_cases c : key x ∈ L.map key
  · rw [c1 c]
    refine ⟨fun v hv => ?_, fun v hv => ?_, Nat.le_succ_of_le g.len⟩
    · rw [e]; exact List.mem_append_left _ (g.sub v hv)
    · rw [e] at hv
      rcases List.mem_append.mp hv with z | z
      · exact g.all v z
      · rw [List.mem_singleton.mp z]; exact c
  · have pm := c2 c
    refine ⟨fun v hv => ?_, fun v hv => ?_, by rw [pm.length_eq, List.length_cons]; exact Nat.succ_le_succ g.len⟩
    · rw [e]
      rcases List.mem_cons.mp (pm.mem_iff.mp hv) with z | z
      · rw [z]; exact List.mem_append_right _ (List.mem_singleton.mpr rfl)
      · exact List.mem_append_left _ (g.sub v z)
    · rw [(pm.map key).mem_iff, List.map_cons]
      rw [e] at hv
      rcases List.mem_append.mp hv with z | z
      · exact List.mem_cons_of_mem _ (g.all v z)
      · rw [List.mem_singleton.mp z]; exact List.mem_cons_self
theorem SetR.on {h h' : Heap} {a : Addr} {L : List Value} {es : Array (Int × Value)} {ep : Nat} {t : SetTable} (R : SetR w U key hash h a L es ep t) (ha : ∀ o, h.get? a = some o → h'.get? a = some o) : SetR w U key hash h' a L es ep t := by
  obtain ⟨o, ho, r⟩ := R.ob
  exact ⟨⟨o, ha o ho, r⟩, R.rows, R.tab, R.nd, R.mem, R.led, R.room, R.few⟩
abbrev freshSet (w : World) : Obj := { cls := .type "set", dict := none, data := .set #[] 0 (.fresh 0 0 (!w.params.followText "set-order")) }
theorem setR_fresh {h : Heap} {a : Addr} (ho : h.get? a = some (freshSet w)) : SetR w U key hash h a [] #[] 0 (.fresh 0 0 (!w.params.followText "set-order")) := by
  refine ⟨⟨_, ho, ⟨rfl, rfl, rfl⟩, rfl⟩, rfl, ⟨List.Pairwise.nil, rfl, rfl, .inl rfl, fun x hx => (by cases hx), fun i h j hi => (by simp at hi)⟩, List.nodup_nil, fun v hv => (by cases hv), ?_, ?_, ?_⟩
  · show _ ∨ (!w.params.followText "set-order") = true
    cases w.params.followText "set-order" <;> simp
  · show 0 * 5 < 7 * 3
    decide
  · show 0 < 64
    decide
/-- the loop that takes the values in -/
theorem update_in {I : Addr} {fp wr : List Addr} {G : Array GenState → Array GenState → Prop} {Pv : Nat → Value → Prop} {St : Nat → Shared → Prop} {R : Result → Shared → Prop} {vs : List Value}
    (Y : Ky P w A.in1 h0 U key hash) (W : WalksS P w A.in1 I fp wr G vs.length Pv St) (S : Addr) (hSf : S ∉ fp) (hfew : ∀ L : List Value, (∀ v ∈ L, v ∈ vs) → (L.map key).Nodup → L.length < 64) (hval : ∀ i v, Pv i v → vs[i]? = some v) (hU : ∀ v ∈ vs, U v)
    (hS0 : h0.get? S = none) (hw0 : ∀ b ∈ wr, h0.get? b = none) :
    ∀ (k i : Nat) (s : Shared), vs.length - i = k → i ≤ vs.length → St i s → Ext h0 s.heap → (∃ L es ep t, SetR w U key hash s.heap S L es ep t ∧ Has key vs i L) →
      (∀ s' L es ep t, Moved (S :: wr) G s s' → SetR w U key hash s'.heap S L es ep t → Has key vs vs.length L → Ext h0 s'.heap → R (.ok (.ret .none)) s') →
      codeAny (model P w) A (.builtin "set.update.loop" ⟨[.ref S, .ref I], []⟩) R s := by
  have hSw : S ∉ wr := fun h => hSf (W.sub _ h)
  have hsub : ∀ b ∈ wr, b ∈ S :: wr := fun b hb => List.mem_cons_of_mem _ hb
  have keepM : ∀ {s s' : Shared}, Moved wr G s s' → Ext h0 s.heap → Ext h0 s'.heap := fun hm hkp b o e => hm.heap b o (fun hb => by rw [hw0 b hb] at e; cases e) (hkp b o e)
  intro k
  induction k with
  | zero =>
    rintro i s hk hi hst X ⟨L, es, ep, t, hS, g⟩ hR
    have ei : i = vs.length := by omega
    subst ei
    refine codeAny_builtin F.entry_set_update_loop ?_
    rw [Around.under_plainId F.plain_set_update_loop _]
    show wpAny _ A.in1 (pyNext (.ref I) >>= _) _ _ s
    refine wpAny_bind (W.done s _ _ hst fun s' hm => ?_)
    show wpAny _ A.in1 (ret Value.none) _ _ s'
    exact wpAny_pure (hR s' L es ep t (hm.mono hsub) (hS.on fun o e => hm.heap S o hSw e) g (keepM hm X))
  | succ k ih =>
    rintro i s hk hi hst X ⟨L, es, ep, t, hS, g⟩ hR
    have hlt : i < vs.length := by omega
    refine codeAny_builtin F.entry_set_update_loop ?_
    rw [Around.under_plainId F.plain_set_update_loop _]
    show wpAny _ A.in1 (pyNext (.ref I) >>= _) _ _ s
    refine wpAny_bind (W.item i s _ _ hlt hst fun v s' hP hst' hm => ?_)
    have hv := hval i v hP
    have hx := hU v (List.mem_of_getElem? hv)
    have X' := keepM hm X
    have hS' : SetR w U key hash s'.heap S L es ep t := hS.on fun o e => hm.heap S o hSw e
    show wpAny _ A.in1 (holding [v] (setAdd S v) >>= _) _ _ s'
    refine wpAny_bind (wpAny_holding ?_)
    unfold setAdd
    refine wpAny_holding ?_
    refine wpAny_bind (Y.hashes v hx s' _ _ X' fun tk htk => ?_)
    refine add_in (s := { s' with toks := tk }) Y X' hS' hx (fun hk => by
      have := hfew (v :: L) (fun u hu => by
        rcases List.mem_cons.mp hu with e | hu
        · rw [e]; exact List.mem_of_getElem? hv
        · exact List.mem_of_mem_take (g.sub u hu)) (by rw [List.map_cons]; exact List.nodup_cons.mpr ⟨hk, hS'.nd⟩)
      simpa using this) fun b h' L' es' ep' t' hsb hS2 c1 c2 => ?_
    have X2 : Ext h0 h' := fun b o e => (hsb.2 b (fun z => by rw [z, hS0] at e; cases e)).trans (X' b o e)
    refine wpAny_pure ⟨plainId_quiet F.plain_set_update_loop _, ih (i + 1) _ (by omega) hlt (W.frame _ s' _ _ hst' htk fun b hb o e => ?_) X2 ⟨L', es', ep', t', hS2, g.step hv c1 c2⟩ fun s2 L2 es2 ep2 t2 hm2 hS3 g2 X3 => ?_⟩
    · rw [hsb.2 b (fun h : b = S => hSf (by rw [← h]; exact hb))]; exact e
    · refine hR s2 L2 es2 ep2 t2 (Moved.trans W.gtrans ((hm.mono hsub).then_heap htk fun b o hb e => ?_) hm2) hS3 g2 X3
      rw [hsb.2 b (fun h : b = S => hb (by rw [h]; exact List.mem_cons_self))]; exact e
/-- what set() walks: an object of class c at l with the items vs, whose iterator is the object it -/
structure Src (P : Program) (w : World) (l : Addr) (vs : List Value) (c : String) (it : Obj) (Is : Heap → Prop) : Prop where
  iter : ∀ (A : Around) (s : Shared) (Q : Value → Shared → Prop) (E : Value → Shared → Prop), Is s.heap → Q (.ref s.heap.objs.size) { s with heap := s.heap.push it } → wpAny (model P w) A (pyIter (.ref l)) Q E s
  keep : ∀ h h', Is h → Ext h h' → Is h'
  ob : ∀ h, Is h → ∃ d n sl, h.get? l = some { cls := .type c, dict := d, data := .seq vs.toArray n, slots := sl }
  free : it.isFreed = false
  notSet : isSubtype (.type c) (.type "set") = pure false
  notFro : isSubtype (.type c) (.type "frozenset") = pure false
  notDic : (Value.type c == Value.type "dict") = false
  walk : ∀ (A : Around) (I : Addr), A.handled = none → l ≠ I → ∃ (fp : List Addr) (G : Array GenState → Array GenState → Prop) (Pv : Nat → Value → Prop) (St : Nat → Shared → Prop), WalksS P w A I fp [I] G vs.length Pv St ∧
    (∀ b ∈ fp, b = I ∨ b = l) ∧ (∀ i v, Pv i v → vs[i]? = some v) ∧ (∀ s : Shared, Is s.heap → s.heap.get? I = some it → St 0 s) ∧ (∀ a b, G a b → b = a)
theorem set_call {l : Addr} {vs : List Value} {c : String} {it : Obj} {Is : Heap → Prop} {Q : Value → Shared → Prop} {E : Value → Shared → Prop} {s : Shared} (Z : Src P w l vs c it Is) (hl : Is s.heap) (hh : A.handled = none) (Y : Ky P w A.in1.in1.in1 s.heap U key hash) (hU : ∀ v ∈ vs, U v) (hfew : ∀ L : List Value, (∀ v ∈ L, v ∈ vs) → (L.map key).Nodup → L.length < 64)
    (h : ∀ (h' : Heap) (tk : Nat) L es ep t, SetR w U key hash h' s.heap.objs.size L es ep t → Has key vs vs.length L → Ext s.heap h' → Q (.ref s.heap.objs.size) { s with heap := h', toks := tk }) :
    wpAny (model P w) A (call (.type "set") [.ref l]) Q E s := by
  obtain ⟨c0, tl, hmro⟩ := F.called_set.mro
  have hmade := F.called_set.made
  have hsub := F.called_set.sub
  refine wpAny_call (codeAny_of_tree ?_)
  show wpAny _ _ (callAny (.type "set") _) _ _ _
  refine wpAny_pure ⟨Code.quiet_builtin _ (by decide +kernel), codeAny_builtin F.entry_type_call ?_⟩
  rw [Around.under_plain (weight_type_call_type "set" [.ref l] []) rfl]
  have h1 := F.called_set.notType
  have h2 := F.called_set.canCreate
  have hct := F.typeCall_set_1 (.ref l)
  repeat (any_goals (first | assumption | wp_step))
  refine codeAny_mono (L2.code_set_led1 (.ref l) (E := E) (Q₁ := fun obj s1 => obj = .ref s.heap.objs.size ∧ s1 = { s with heap := s.heap.push (freshSet w) }) ⟨rfl, rfl⟩) fun r s1 hr => ?_
  match r, hr with
  | .error e, hr => exact hr
  | .ok (.ret obj), hr =>
    obtain ⟨rfl, rfl⟩ := hr
    have hS : (s.heap.push (freshSet w)).get? s.heap.objs.size = some (freshSet w) := Heap.get?_push_size _ rfl
    have hT : Shared.TypeIs { s with heap := s.heap.push (freshSet w) } (.ref s.heap.objs.size) "set" := ⟨_, hS, rfl⟩
    have hli := F.called_set.init.lookup
    have hbi := F.called_set.init.bind (.ref s.heap.objs.size)
    repeat (any_goals (first | assumption | wp_step))
    refine codeAny_mono (codeAny_call_builtin (R := wants (fun r s2 => r = .none ∧ ∃ h' tk L es ep t, s2 = { s with heap := h', toks := tk } ∧ SetR w U key hash h' s.heap.objs.size L es ep t ∧ Has key vs vs.length L ∧ Ext s.heap h') E) F.called_set.init.plain F.entry_set_init (check_set_init_1 hT ?_)) fun r2 s2 hr2 => ?_
    · have X1 : Ext s.heap (s.heap.push (freshSet w)) := fun b o e => Heap.get?_push_of_some _ e
      have hl1 := Z.keep _ _ hl X1
      obtain ⟨od, on, osl, hol⟩ := Z.ob _ hl
      have hol' := X1 l _ hol
      have hsls := Z.notSet
      have hslf := Z.notFro
      have hne := Z.notDic
      unfold Builtin.«set.__init__» noKeywords Builtin.Frozenset.updateFrom
      generalize hPI : pyIter = PI
      wp_walk
      subst hPI
      refine Z.iter _ _ _ _ hl1 ?_
      refine wpAny_bind (wpAny_runValue ?_)
      have hlS : l < s.heap.objs.size := Heap.lt_size hol
      have hz1 : (s.heap.push (freshSet w)).objs.size = s.heap.objs.size + 1 := Heap.size_push ..
      have hneI : l ≠ (s.heap.push (freshSet w)).objs.size := by rw [hz1]; exact Nat.ne_of_lt (Nat.lt_succ_of_lt hlS)
      obtain ⟨fp, G, Pv, St, W, hfp, hPv, hSt, hG⟩ := Z.walk A.in1.in1.in1 (s.heap.push (freshSet w)).objs.size (by simpa using hh) hneI
      have none_of : ∀ b, s.heap.objs.size ≤ b → s.heap.get? b = none := fun b hb => by
        cases q : s.heap.get? b with
        | none => rfl
        | some o => exact absurd (Nat.lt_of_lt_of_le (Heap.lt_size q) hb) (Nat.lt_irrefl _)
      have hSf : s.heap.objs.size ∉ fp := fun z => by
        rcases hfp _ z with e | e
        · rw [hz1] at e; exact absurd e (Nat.ne_of_lt (Nat.lt_succ_self _))
        · rw [← e] at hlS; exact absurd hlS (Nat.lt_irrefl _)
      have X2 : Ext s.heap ((s.heap.push (freshSet w)).push it) := fun b o e => Heap.get?_push_of_some _ (Heap.get?_push_of_some _ e)
      refine update_in (R := _) Y W s.heap.objs.size hSf hfew hPv hU (none_of _ (Nat.le_refl _)) (fun b hb => none_of b (by rw [List.mem_singleton.mp hb, hz1]; exact Nat.le_succ _)) (vs.length - 0) 0 _ (by omega) (Nat.zero_le _)
        (hSt _ (Z.keep _ _ hl X2) (Heap.get?_push_size _ Z.free)) X2 ⟨[], #[], 0, _, setR_fresh (Heap.get?_push_of_some _ hS), has_zero vs⟩ ?_
      rintro ⟨h', g2, d', tk', os'⟩ L es ep t hm hS' g' X'
      have eg : g2 = s.gens := hG _ _ hm.gens
      have ed : d' = s.drawn := hm.drawn
      have eo : os' = s.os := hm.os
      subst eg ed eo
      show wpAny _ _ _ _ _ _
      refine wpAny_pure ?_
      show wpAny _ _ (ret Value.none) _ _ _
      exact wpAny_pure ⟨rfl, h', tk', L, es, ep, t, rfl, hS', g', X'⟩
    · match r2, hr2 with
      | .error e, hr2 => exact hr2
      | .ok (.ret r), hr2 =>
        obtain ⟨rfl, h', tk, L, es, ep, t, rfl, hS', g', hk'⟩ := hr2
        repeat (any_goals (first | assumption | wp_step))
        exact h _ _ _ _ _ _ hS' g' hk'
      | .ok .next, hr2 => exact hr2.elim
      | .ok .brk, hr2 => exact hr2.elim
      | .ok .cont, hr2 => exact hr2.elim
  | .ok .next, hr => exact hr.elim
  | .ok .brk, hr => exact hr.elim
  | .ok .cont, hr => exact hr.elim
end
end AOne
end

section
set_option Elab.async false
set_option linter.all false
set_option maxRecDepth 100000
set_option maxHeartbeats 4000000
set_option autoImplicit false
/-! A23: the order of data. -/
namespace AOne
open PySem PySem.W

theorem dle_toks {a b : D} (h1 : dle a b = true) (h2 : dle b a = true) : keyToks a.py = keyToks b.py := by
  unfold dle at *
  refine PyProof.Rows.lex_total (O := PyProof.Rows.itemOrd) _ _ ?_ ?_
  · show dlt a b = false
    cases e : dlt a b with
    | false => rfl
    | true => rw [e] at h2; cases h2
  · show dlt b a = false
    cases e : dlt b a with
    | false => rfl
    | true => rw [e] at h1; cases h1
/-- texts and tuples of texts are told apart by their marks -/
def sts (xs : List Str) : List D := xs.map D.str
def tupS (xs : List Str) : D := .tup (sts xs)
theorem toks_str {x y : Str} (h : keyToks (D.py (.str x)) = keyToks (D.py (.str y))) : x = y := by
  simp only [D.py, keyToks, List.cons.injEq, Sum.inr.injEq, and_true] at h
  exact str_of_cps h
theorem toks_strs : ∀ {xs ys : List Str}, keyToksAll (pys (sts xs)) = keyToksAll (pys (sts ys)) → xs = ys
  | [], [], _ => rfl
  | [], y :: ys, h => by simp [sts, pys, keyToksAll] at h
  | x :: xs, [], h => by simp [sts, pys, keyToksAll] at h
  | x :: xs, y :: ys, h => by
    simp only [sts, List.map_cons, pys, keyToksAll, D.py, keyToks, List.cons_append, List.nil_append, List.cons.injEq, true_and, Sum.inr.injEq] at h
    rw [str_of_cps h.1, toks_strs h.2]
theorem toks_tupS {xs ys : List Str} (h : keyToks (tupS xs).py = keyToks (tupS ys).py) : xs = ys := by
  simp only [tupS, D.py, keyToks] at h
  exact toks_strs h
theorem dle_anti_tupS {xs ys : List Str} (h1 : dle (tupS xs) (tupS ys) = true) (h2 : dle (tupS ys) (tupS xs) = true) : xs = ys := toks_tupS (dle_toks h1 h2)
theorem dle_anti_str {x y : Str} (h1 : dle (.str x) (.str y) = true) (h2 : dle (.str y) (.str x) = true) : x = y := toks_str (dle_toks h1 h2)
/-- a sorted list is told by its members -/
theorem sorted_eq {P : D → Prop} (anti : ∀ a b, P a → P b → dle a b = true → dle b a = true → a = b) : ∀ {l m : List D}, l.Perm m → (∀ a ∈ l, P a) → l.Pairwise (fun a b => dle a b = true) → m.Pairwise (fun a b => dle a b = true) → l = m
  | [], m, hp, _, _, _ => by rw [List.nil_perm.mp hp]
  | a :: l, m, hp, hP, hl, hm => by
    cases m with
    | nil => exact absurd hp.length_eq (by simp)
    | cons b m =>
      obtain ⟨h1, h2⟩ := List.pairwise_cons.mp hl
      obtain ⟨k1, k2⟩ := List.pairwise_cons.mp hm
      have eab : a = b := by
        have ha : a ∈ b :: m := hp.mem_iff.mp List.mem_cons_self
        have hb : b ∈ a :: l := hp.mem_iff.mpr List.mem_cons_self
        rcases List.mem_cons.mp ha with e | ha
        · exact e
        · rcases List.mem_cons.mp hb with e | hb
          · exact e.symm
          · exact anti a b (hP a List.mem_cons_self) (hP b (List.mem_cons_of_mem _ hb)) (h1 b hb) (k1 a ha)
      subst eab
      rw [sorted_eq anti (List.Perm.cons_inv hp) (fun x hx => hP x (List.mem_cons_of_mem _ hx)) h2 k2]
theorem sortD_perm (xs : List D) : (sortD xs).Perm xs := by rw [sortD_merge]; exact List.mergeSort_perm xs dle
theorem sortD_sorted (xs : List D) : (sortD xs).Pairwise (fun a b => dle a b = true) := by rw [sortD_merge]; exact List.pairwise_mergeSort dle_trans dle_total xs
theorem sortD_eq {P : D → Prop} (anti : ∀ a b, P a → P b → dle a b = true → dle b a = true → a = b) {xs ys : List D} (hp : xs.Perm ys) (hP : ∀ a ∈ xs, P a) : sortD xs = sortD ys :=
  sorted_eq anti (((sortD_perm xs).trans hp).trans (sortD_perm ys).symm) (fun a ha => hP a ((sortD_perm xs).mem_iff.mp ha)) (sortD_sorted xs) (sortD_sorted ys)
/-- each once -/
theorem mem_dedup {xs : List D} (heq : ∀ a ∈ xs, ∀ b ∈ xs, deq a b = true → a = b) (hrefl : ∀ a ∈ xs, deq a a = true) : ∀ a, a ∈ dedupD xs ↔ a ∈ xs := by
  induction xs with
  | nil => intro a; rfl
  | cons x r ih =>
    have ih' := ih (fun a ha b hb => heq a (List.mem_cons_of_mem _ ha) b (List.mem_cons_of_mem _ hb)) (fun a ha => hrefl a (List.mem_cons_of_mem _ ha))
    intro a
    rw [dedupD]
    split
    · rename_i hz
      obtain ⟨z, hz1, hz2⟩ := List.any_eq_true.mp hz
      have e : z = x := heq z (List.mem_cons_of_mem _ ((ih' z).mp hz1)) x List.mem_cons_self hz2
      subst e
      constructor
      · intro h; exact List.mem_cons_of_mem _ ((ih' a).mp h)
      · intro h
        rcases List.mem_cons.mp h with rfl | h
        · exact hz1
        · exact (ih' a).mpr h
    · rw [List.mem_cons, List.mem_cons, ih']
theorem nodup_dedup {xs : List D} (hrefl : ∀ a ∈ xs, deq a a = true) (heq : ∀ a ∈ xs, ∀ b ∈ xs, deq a b = true → a = b) : (dedupD xs).Nodup := by
  induction xs with
  | nil => exact List.nodup_nil
  | cons x r ih =>
    have ih' := ih (fun a ha => hrefl a (List.mem_cons_of_mem _ ha)) (fun a ha b hb => heq a (List.mem_cons_of_mem _ ha) b (List.mem_cons_of_mem _ hb))
    rw [dedupD]
    split
    · exact ih'
    · rename_i hz
      refine List.nodup_cons.mpr ⟨fun hx => hz ?_, ih'⟩
      exact List.any_eq_true.mpr ⟨x, hx, hrefl x List.mem_cons_self⟩
end AOne
end

section
set_option Elab.async false
set_option linter.all false
set_option maxRecDepth 100000
set_option maxHeartbeats 4000000
set_option autoImplicit false
/-! A24: sorted(set(..)) of tuples of texts. -/
namespace AOne
open PySem PySem.Spec PySem.W L2
open PyProof.Rows (seqObj sortedHeap sortedHeap_at sortedHeap_old size_push' kind_sorted plain_sorted entry_sorted args_sorted1 slot_list_sort entry_list_sort args_list_sort)

/-! ### lists and tuples as sources -/
theorem src_list {P : Program} {w : World} (l : Addr) (vs : List Value) : Src P w l vs "list" { cls := .type "list_iterator", data := .fields #[.ref l, .int 0 0] } (fun h => h.IsList l vs.toArray) where
  iter := fun A s Q E hl q => wpAny_pyIter_list hl q
  keep := fun h h' x k => x.at fun o e => k l o e
  ob := by
    rintro h ⟨⟨c, d, t, sl⟩, ho, hc, n, hd⟩
    simp only at hc hd
    subst hc hd
    exact ⟨d, n, sl, ho⟩
  free := rfl
  notSet := F.sub_list_set
  notFro := F.sub_list_frozenset
  notDic := by decide
  walk := fun A I hh hne => ⟨[I, l], (fun a b => b = a), (fun i v => vs.toArray[i]? = some v), (fun i s => s.heap.IsListIter I l i ∧ s.heap.IsList l vs.toArray), by
    have W := (Walks.list (prog := P) (w := w) hh I l hne vs.toArray).toS
    simp only [List.size_toArray] at W
    exact W, fun b hb => by simpa using hb, fun i v hv => by simpa using hv, fun s hs hi => ⟨⟨_, hi, rfl, rfl⟩, hs⟩, fun a b e => e⟩
theorem src_tup {P : Program} {w : World} (l : Addr) (vs : List Value) : Src P w l vs "tuple" { cls := .type "tuple_iterator", data := .fields #[.ref l, .int 0 0] } (fun h => h.IsTuple l vs.toArray) where
  iter := fun A s Q E hl q => wpAny_pyIter_tuple hl q
  keep := fun h h' x k => x.at fun o e => k l o e
  ob := by
    rintro h ⟨⟨c, d, t, sl⟩, ho, hc, n, hd⟩
    simp only at hc hd
    subst hc hd
    exact ⟨d, n, sl, ho⟩
  free := rfl
  notSet := F.sub_tuple_set
  notFro := F.sub_tuple_frozenset
  notDic := by decide
  walk := fun A I hh hne => ⟨[I, l], (fun a b => b = a), (fun i v => vs.toArray[i]? = some v), (fun i s => s.heap.IsTupleIter I l i ∧ s.heap.IsTuple l vs.toArray), by
    have W := (Walks.tuple (prog := P) (w := w) hh I l hne vs.toArray).toS
    simp only [List.size_toArray] at W
    exact W, fun b hb => by simpa using hb, fun i v hv => by simpa using hv, fun s hs hi => ⟨⟨_, hi, rfl, rfl⟩, hs⟩, fun a b e => e⟩

/-! ### tuples of texts as members -/
section
variable {P : Program} {w : World}
abbrev IsK (P : Program) (w : World) (h : Heap) (k : List Str) (a : Addr) : Prop := IsTupleKey (strKind P w) h k a
def UK (P : Program) (w : World) (h : Heap) (v : Value) : Prop := ∃ a k, v = .ref a ∧ IsK P w h k a
open Classical in
noncomputable def keyK (P : Program) (w : World) (h : Heap) (v : Value) : List Str := if q : ∃ k a, v = Value.ref a ∧ IsK P w h k a then q.choose else []
theorem keyK_eq {h : Heap} {a : Addr} {k : List Str} (x : IsK P w h k a) : keyK P w h (.ref a) = k := by
  have q : ∃ k' b, Value.ref a = Value.ref b ∧ IsK P w h k' b := ⟨k, a, rfl, x⟩
  unfold keyK
  rw [dif_pos q]
  obtain ⟨b, e, y⟩ := q.choose_spec
  injection e with e
  subst e
  exact IsTupleKey.inj y x
theorem isK_ext {h h' : Heap} {k : List Str} {a : Addr} (x : IsK P w h k a) (X : Ext h h') : IsK P w h' k a := by
  obtain ⟨o, its, n, ho, r⟩ := x
  exact ⟨o, its, n, X a o ho, r⟩
theorem items_str {k : List Str} {vs : List Value} (h : ItemsAre (strKind P w) k vs) : ∀ v ∈ vs, ∃ x t, v = Value.str x t := by
  induction h with
  | nil => intro v hv; cases hv
  | @cons k0 v' ks vs h1 _ ih =>
    intro v hv
    rcases List.mem_cons.mp hv with rfl | hv
    · obtain ⟨t, e⟩ := Value.isStrOf_shape h1
      exact ⟨k0, t, e⟩
    · exact ih v hv
variable {A : Around} {E : Value → Shared → Prop} {s : Shared}
theorem cls_str (n : Nat) (x : Str) (t : Tok) : ofAClassStatement n (.str x t) = pure false := by cases n <;> rfl
theorem byv_str (n : Nat) (x : Str) (t : Tok) : hashByValue n (.str x t) = pure false := by cases n <;> rfl
theorem cls_k {k : List Str} {b : Addr} {Q : Bool → Shared → Prop} (hk : IsK P w s.heap k b) (h : Q false s) : wpAny (model P w) A (ofAClassStatement 8 (.ref b)) Q E s := by
  have hT := hk.typeIs
  obtain ⟨o, items, n, ho, _, hd, hi⟩ := hk
  unfold ofAClassStatement
  refine wpAny_bind (wpAny_typeOf hT ?_)
  dsimp only
  have e : (("tuple" : String) == "tuple") = true := by decide
  simp only [e, if_true]
  try refine wpAny_bind (wpAny_pure ?_)
  simp only [Bool.not_true, Bool.false_eq_true, if_false]
  show wpAny _ _ (seqItems? (.ref b) >>= _) _ _ s
  refine wpAny_bind (wpAny_seqItems ho hd ?_)
  dsimp only
  refine wpAny_bind ?_
  show wpAny _ _ (forIn items _ _) _ _ s
  rw [← Array.forIn_toList]
  refine wpAny_forIn_list _ (fun rest r s' => r.1 = none ∧ s' = s ∧ ∀ v ∈ rest, ∃ x t, v = Value.str x t) _ ?_ ?_ _ _ ⟨rfl, rfl, items_str hi⟩
  · rintro v rest r s' ⟨hr, rfl, hall⟩
    obtain ⟨x, t, rfl⟩ := hall v List.mem_cons_self
    rw [cls_str]
    refine wpAny_bind (wpAny_pure ?_)
    simp only [Bool.false_eq_true, if_false]
    exact wpAny_pure ⟨rfl, rfl, fun u hu => hall u (List.mem_cons_of_mem _ hu)⟩
  · rintro ⟨r1, r2⟩ s' ⟨hr, rfl, _⟩
    simp only at hr
    subst hr
    exact wpAny_pure h
theorem byv_k {k : List Str} {b : Addr} {Q : Bool → Shared → Prop} (hk : IsK P w s.heap k b) (h : ∀ c, Q c s) : wpAny (model P w) A (hashByValue 8 (.ref b)) Q E s := by
  have hT := hk.typeIs
  obtain ⟨o, items, n, ho, _, hd, hi⟩ := hk
  unfold hashByValue
  refine wpAny_bind (wpAny_specialOf hT F.slot_tuple_hash.lookup ?_)
  show wpAny _ _ (seqItems? (.ref b) >>= _) _ _ s
  refine wpAny_bind (wpAny_seqItems ho hd ?_)
  refine wpAny_bind ?_
  show wpAny _ _ (forIn items _ _) _ _ s
  rw [← Array.forIn_toList]
  have hs := items_str hi
  generalize items.toList = l at hs
  cases l with
  | nil =>
    rw [List.forIn_nil]
    exact wpAny_pure (wpAny_pure (h true))
  | cons v l =>
    obtain ⟨x, t, rfl⟩ := hs v List.mem_cons_self
    rw [List.forIn_cons, byv_str]
    refine wpAny_bind (wpAny_bind (wpAny_pure ?_))
    simp only [Bool.not_false, if_true]
    exact wpAny_pure (wpAny_pure (wpAny_pure (h false)))
theorem seen_k {k : List Str} {b : Addr} {Q : Bool → Shared → Prop} (hk : IsK P w s.heap k b) {ys : List Value} (hy : ∀ y ∈ ys, UK P w s.heap y) (h : Q false s) : wpAny (model P w) A (searchCouldBeSeen (.ref b) ys) Q E s := by
  unfold searchCouldBeSeen
  refine wpAny_bind ?_
  refine wpAny_forIn_list _ (fun rest r s' => r.1 = none ∧ s' = s ∧ ∀ y ∈ rest, UK P w s.heap y) _ ?_ ?_ _ _ ⟨rfl, rfl, hy⟩
  · rintro v rest r s' ⟨hr, rfl, hall⟩
    obtain ⟨c, k', rfl, hc⟩ := hall v List.mem_cons_self
    have more : ∀ y ∈ rest, UK P w s'.heap y := fun u hu => hall u (List.mem_cons_of_mem _ hu)
    dsimp only
    by_cases hv : (b == c || (carriedByValue (.ref b) && carriedByValue (.ref c))) = true
    · exact wp_if_pos hv (wpAny_pure ⟨rfl, rfl, more⟩)
    · refine wp_if_neg hv ?_
      refine wpAny_bind (wpAny_eqIsQuiet_tuple hk ?_)
      simp only [Bool.not_true, Bool.false_eq_true, if_false]
      refine wpAny_bind (wpAny_eqIsQuiet_tuple hc ?_)
      simp only [Bool.not_true, Bool.false_eq_true, if_false]
      refine wpAny_bind (cls_k hk ?_)
      simp only [Bool.false_eq_true, if_false]
      refine wpAny_bind (cls_k hc ?_)
      simp only [Bool.false_eq_true, if_false]
      exact wpAny_pure ⟨rfl, rfl, more⟩
  · rintro ⟨r1, r2⟩ s' ⟨hr, rfl, _⟩
    simp only at hr
    subst hr
    exact wpAny_pure h
theorem ky_k {h0 : Heap} (hu : A.units < cLine) : Ky P w A h0 (UK P w h0) (keyK P w h0) (tupleKeyHash (strKind P w)) where
  hashes := by
    rintro v ⟨a, k, rfl, x⟩ s E Q X q
    rw [keyK_eq x] at q
    exact wpAny_pyHash_tuple hu (isK_ext x X) (q _ (Nat.le_add_right _ _))
  eqs := by
    rintro u v ⟨a, k, rfl, x⟩ ⟨b, k', rfl, y⟩ s E Q X q
    rw [keyK_eq x, keyK_eq y] at q
    exact wpAny_eqBool_tuple hu (isK_ext x X) (isK_ext y X) q
  seen := by
    rintro v ys ⟨a, k, rfl, x⟩ hy s E Q X q
    exact seen_k (isK_ext x X) (fun y h => by obtain ⟨b, k', rfl, z⟩ := hy y h; exact ⟨b, k', rfl, isK_ext z X⟩) q
  byv := by
    rintro v ⟨a, k, rfl, x⟩ s E Q X q
    exact byv_k (isK_ext x X) q
  ref := by
    rintro v ⟨a, k, rfl, x⟩
    exact ⟨a, rfl⟩
end
/-! ### sorted(set) -/
theorem sorted_set {P : Program} {w : World} {A : Around} {E : Value → Shared → Prop} {s : Shared} {κ : Type} [DecidableEq κ] {U : Value → Prop} {key : Value → κ} {hash : κ → Int} {a : Addr} {L : List Value} {es : Array (Int × Value)} {ep : Nat} {t : SetTable} {Q : Value → Shared → Prop} (R : SetR w U key hash s.heap a L es ep t) (hh : A.handled = none)
    (hs : ∀ (s' : Shared) (vs : List Value), Ext s.heap s'.heap → vs.Perm L → ∃ κ' : PyProof.Rows.KeyKind, SortsAt P w A.in1.in1 s' κ' vs ∧ ∀ p c s'', Ext s.heap s''.heap → s''.gens = s.gens → s''.os = s.os → s.heap.objs.size ≤ p → s''.heap.get? p = some (seqObj "list" (sortVals κ' false vs vs).toArray c) → Q (.ref p) s'') :
    wpAny (model P w) A (call (.builtin "sorted") [.ref a]) Q E s := by
  obtain ⟨o, ho, hex, hd⟩ := R.ob
  have hsz := R.count
  have hfew := R.few
  refine Calls.call_function_entry kind_sorted plain_sorted entry_sorted (args_sorted1 _) ?_
  unfold Builtin.«sorted»
  refine wpAny_bind (m := checkCount "sorted" 1 1 _) (wpAny_pure ?_)
  refine wpAny_bind (collect_set (A := A.in1) hh ⟨o, ho, hex.1, hd⟩ R.ok (by unfold scanBound; omega) R.tab.ris R.led fun s1 vs k1 hz g1 o1 pm => ?_)
  have pm' : vs.Perm L := by
    rw [R.rows, List.map_map] at pm
    have e : (L.map (Prod.snd ∘ rowOf key hash)) = L := by
      have : (Prod.snd ∘ rowOf key hash : Value → Value) = id := rfl
      rw [this, List.map_id]
    exact pm.trans (by rw [show (L.map ((fun x : Int × Value => x.2) ∘ rowOf key hash)) = L from e])
  have hvl : vs.length < 64 := by rw [pm'.length_eq]; exact hfew
  have hvz : vs.length ≤ sizeLine := by rw [sizeLine_eq]; omega
  refine wpAny_bind (wpAny_newList ?_ hvz)
  have hoL : (s1.heap.push (seqObj "list" vs.toArray 0)).get? s1.heap.objs.size = some (seqObj "list" vs.toArray 0) := Heap.get?_push_size _ rfl
  have X1 : Ext s.heap (sortingHeap (s1.heap.push (seqObj "list" vs.toArray 0)) s1.heap.objs.size vs) := fun b u e => sortingHeap_old (Nat.ne_of_lt (Heap.lt_size (k1 b u e))) (Heap.get?_push_of_some _ (k1 b u e))
  obtain ⟨κ', SA, fin⟩ := hs { s1 with heap := sortingHeap (s1.heap.push (seqObj "list" vs.toArray 0)) s1.heap.objs.size vs } vs X1 pm'
  refine wpAny_bind (wpAny_holding (wpAny_call_entry (s := { s1 with heap := s1.heap.push (seqObj "list" vs.toArray 0) }) slot_list_sort ⟨_, hoL, rfl⟩ entry_list_sort (list_sort_vals (s := { s1 with heap := s1.heap.push (seqObj "list" vs.toArray 0) }) hoL SA hvz ⟨_, rfl, ?_⟩) (args_list_sort _)))
  obtain ⟨c, hc⟩ := sortedHeap_at (vs := vs) (out := (sortVals κ' false vs vs).toArray) hoL
  refine wpAny_pure ⟨_, rfl, fin s1.heap.objs.size c _ (fun b u e => ?_) g1 o1 hz hc⟩
  have hlt := Heap.lt_size (k1 b u e)
  show (sortedHeap (s1.heap.push (seqObj "list" vs.toArray 0)) s1.heap.objs.size vs (sortVals κ' false vs vs).toArray).get? b = some u
  rw [sortedHeap_old (Nat.ne_of_lt hlt) (by rw [size_push']; exact Nat.lt_succ_of_lt hlt)]
  exact Heap.get?_push_of_some _ (k1 b u e)
end AOne
end

section
set_option Elab.async false
set_option linter.all false
set_option maxRecDepth 100000
set_option maxHeartbeats 4000000
set_option autoImplicit false
/-! A25: sorted(set(..)) by values; sorting keeps its words. -/
namespace AOne
open PySem PySem.Spec PySem.W L2

theorem alike_sts : ∀ xs ys : List Str, alikeAll (pys (sts xs)) (pys (sts ys)) = true
  | [], _ => by simp [sts, pys, alikeAll]
  | _ :: _, [] => by simp [sts, pys, alikeAll]
  | x :: xs, y :: ys => by
    show alikeAll (D.py (.str x) :: pys (sts xs)) (D.py (.str y) :: pys (sts ys)) = true
    rw [alikeAll, alike_sts xs ys]
    simp [D.py, alike]
theorem depth_sts : ∀ xs : List Str, PyData.depthAll (pys (sts xs)) = 0
  | [] => by simp [sts, pys, PyData.depthAll]
  | x :: xs => by
    show PyData.depthAll (D.py (.str x) :: pys (sts xs)) = 0
    rw [PyData.depthAll, depth_sts xs]
    simp [D.py, PyData.depth]
theorem shallow_tupS (xs : List Str) : shallow (tupS xs) = true := by
  refine decide_eq_true ?_
  show PyData.depth (D.py (tupS xs)) ≤ 64
  simp only [tupS, D.py, PyData.depth, depth_sts]
  omega
theorem ltOk_tupS (xs ys : List Str) : ltOk (tupS xs) (tupS ys) = true := by
  have h1 : dalike (tupS xs) (tupS ys) = true := by
    show alike (D.py (tupS xs)) (D.py (tupS ys)) = true
    simp only [tupS, D.py, alike, alike_sts]
  unfold ltOk
  rw [h1, shallow_tupS, shallow_tupS]
  rfl
theorem sortOk_tupS {ds : List D} (h : ∀ d ∈ ds, ∃ k, d = tupS k) : sortOk ds = true := by
  unfold sortOk
  simp only [List.all_eq_true]
  intro a ha b hb
  obtain ⟨k, rfl⟩ := h a ha
  obtain ⟨k', rfl⟩ := h b hb
  exact ltOk_tupS k k'
theorem eqv_sts : ∀ xs ys : List Str, PyData.eqvAll (pys (sts xs)) (pys (sts ys)) = decide (xs = ys)
  | [], [] => by simp [sts, pys, PyData.eqvAll]
  | [], _ :: _ => by simp [sts, pys, PyData.eqvAll]
  | _ :: _, [] => by simp [sts, pys, PyData.eqvAll]
  | x :: xs, y :: ys => by
    show PyData.eqvAll (D.py (.str x) :: pys (sts xs)) (D.py (.str y) :: pys (sts ys)) = _
    rw [PyData.eqvAll, eqv_sts xs ys]
    simp only [D.py, PyData.eqv]
    by_cases h : x = y <;> by_cases h' : xs = ys <;> simp [h, h']
theorem deq_tupS (xs ys : List Str) : deq (tupS xs) (tupS ys) = decide (xs = ys) := by
  show PyData.eqv (D.py (tupS xs)) (D.py (tupS ys)) = _
  simp only [tupS, D.py, PyData.eqv, eqv_sts]
/-- tuples of texts, as the meaning asks -/
theorem keys_sts : ∀ {xs : List D}, keysOk xs = true → ∃ k, xs = sts k
  | [], _ => ⟨[], rfl⟩
  | .str x :: r, h => by
    simp only [keysOk] at h
    obtain ⟨k, rfl⟩ := keys_sts h
    exact ⟨x :: k, rfl⟩
  | .non :: _, h => by simp [keysOk] at h
  | .bl _ :: _, h => by simp [keysOk] at h
  | .int _ :: _, h => by simp [keysOk] at h
  | .tup _ :: _, h => by simp [keysOk] at h
  | .lst _ :: _, h => by simp [keysOk] at h
  | .ref _ :: _, h => by simp [keysOk] at h
theorem key_tupS {d : D} (h1 : isTup d = true) (h2 : keyOk d = true) : ∃ k, d = tupS k := by
  cases d <;> simp only [isTup, Bool.false_eq_true] at h1
  simp only [keyOk] at h2
  obtain ⟨k, rfl⟩ := keys_sts h2
  exact ⟨k, rfl⟩
theorem items_vals {K : PySem.W.Frag} {G : Hp} {P : Program} {w : World} : ∀ {k : List Str} {vs : List V} {us : List Value}, RDs K G vs (sts k) → Vals vs us → ItemsAre (strKind P w) k us
  | [], _, _, .nil, .nil => .nil
  | x :: k, _, _, .cons h t, .cons r rs => by
    have h : RD K G _ (.str x) := h
    cases h
    obtain ⟨tk, rfl⟩ := r
    refine .cons ?_ (items_vals t rs)
    show Value.isStrOf x (.str x tk) = true
    simp [Value.isStrOf]
theorem isK_of {X : Cx} {pins : List (Addr × Obj)} {σ : L2.St} {H : Hp} {s : Shared} (I : Inv X pins σ H s) {G : Hp} (hs : Same G H) {x : V} {u : Value} {k : List Str} (h : RD X.K G x (tupS k)) (r : RelV x u) : ∃ a, u = .ref a ∧ IsK X.prog X.w s.heap k a := by
  have h : RD X.K G x (.tup (sts k)) := h
  cases h with
  | @tup a vs _ h1 h2 =>
    cases r
    obtain ⟨its, rv, ⟨o, ho, hc, n, hd⟩, _⟩ := I.tuple (same_sqt hs h1)
    exact ⟨a, rfl, o, its.toArray, n, ho, hc, hd, by simpa using items_vals h2 rv⟩
theorem dedup_len : ∀ xs : List D, (dedupD xs).length ≤ xs.length
  | [] => Nat.le_refl _
  | x :: r => by
    have := dedup_len r
    rw [dedupD]
    split
    · rw [List.length_cons]; omega
    · rw [List.length_cons, List.length_cons]; omega
/-- the set at a holds the data xs, each once -/
def SetK (K : PySem.W.Frag) (G : Hp) (P : Program) (w : World) (xs : List D) (a : Addr) (h : Heap) : Prop := ∃ (h0 : Heap) (L : List Value) (es : Array (Int × Value)) (ep : Nat) (t : SetTable),
  SetR w (UK P w h0) (keyK P w h0) (tupleKeyHash (strKind P w)) h a L es ep t ∧ (∀ u ∈ L, VD K G u (tupS (keyK P w h0 u)) ∧ tupS (keyK P w h0 u) ∈ xs) ∧ ∀ d ∈ xs, ∃ u ∈ L, d = tupS (keyK P w h0 u)
theorem setK_ok {K : PySem.W.Frag} {G : Hp} {P : Program} {w : World} {xs : List D} {a : Addr} {h : Heap} {H : Hp} (z : SetK K G P w xs a h) : ObjOk P w H h a (.ext (SetK K G P w xs a)) := by
  have z' := z
  obtain ⟨h0, L, es, ep, t, R, r⟩ := z'
  obtain ⟨o, ho, q⟩ := R.ob
  refine ⟨z, ⟨o, ho⟩, fun h1 h2 p k => ?_⟩
  have p : SetK K G P w xs a h1 := p
  obtain ⟨h0', L', es', ep', t', R', r'⟩ := p
  exact ⟨h0', L', es', ep', t', R'.on fun o e => k o e, r'⟩
theorem sts_inj0 : ∀ {a b : List Str}, sts a = sts b → a = b
  | [], [], _ => rfl
  | [], _ :: _, h => by simp [sts] at h
  | _ :: _, [], h => by simp [sts] at h
  | x :: a, y :: b, h => by
    simp only [sts, List.map_cons, List.cons.injEq, D.str.injEq] at h
    rw [h.1, sts_inj0 (a := a) (b := b) h.2]
theorem nodup_le {α : Type} [DecidableEq α] : ∀ {l m : List α}, l.Nodup → (∀ x ∈ l, x ∈ m) → l.length ≤ m.length
  | [], _, _, _ => Nat.zero_le _
  | x :: l, m, h, s => by
    obtain ⟨h1, h2⟩ := List.nodup_cons.mp h
    have hx := s x List.mem_cons_self
    have := nodup_le (l := l) (m := m.erase x) h2 fun y hy => (List.mem_erase_of_ne (fun e : y = x => h1 (by rw [← e]; exact hy))).mpr (s y (List.mem_cons_of_mem _ hy))
    rw [List.length_erase_of_mem hx] at this
    have := List.length_pos_of_mem hx
    rw [List.length_cons]
    omega
def setOk (xs : List D) : Bool := xs.all isTup && xs.all keyOk && decide ((dedupD xs).length < 64)
theorem setOk_key {xs : List D} (h : setOk xs = true) : (∀ d ∈ xs, ∃ k, d = tupS k) ∧ (dedupD xs).length < 64 := by
  unfold setOk at h
  simp only [Bool.and_eq_true, List.all_eq_true, decide_eq_true_eq] at h
  exact ⟨fun d hd => key_tupS (h.1.1 d hd) (h.1.2 d hd), h.2⟩
def rSet (K : PySem.W.Frag) (P : Program) (w : World) : List V → Hp → VK → Prop := fun vs H Q => ∃ G da S d xs, RelS K G H da S ∧ RTs K G da vs [d] ∧ (look S d = .lst xs ∨ look S d = .tup xs) ∧ setOk xs = true ∧ ∀ a, H a = none → Q (.ref a) (upd H a (.ext (SetK K G P w xs a)))
def rSortSet (K : PySem.W.Frag) (P : Program) (w : World) : List V → Hp → VK → Prop := fun vs H Q => ∃ a G xs, vs = [.ref a] ∧ H a = some (.ext (SetK K G P w xs a)) ∧ Same G H ∧ setOk xs = true ∧ ∀ p ws, H p = none → RDs K G ws (sortD (dedupD xs)) → Q (.ref p) (upd H p (.lst ws))
section
variable {X : Cx}
theorem cr_set (hc : X.calm = true) (hu : X.A.units + 200 < cLine) : CallR X (.type "set") (rSet X.K X.prog X.w) := by
  intro pins s σ H vs us Q I r h
  obtain ⟨G, da, S, d, xs, R, rt, hl, ok, q⟩ := h
  obtain ⟨x, rfl, hx⟩ := rt.one
  obtain ⟨hkey, h64⟩ := setOk_key ok
  have hn : H s.heap.objs.size = none := I.hok.fresh (Nat.le_refl _)
  -- from the source's items
  have go : ∀ {l : Addr} {ws : List V} {its : List Value} {c : String} {it : Obj} {Is : Heap → Prop}, x = .ref l → Src X.prog X.w l its c it Is → Is s.heap → Vals ws its → RDs X.K G ws xs → wpAny (model X.prog X.w) X.A (call (.type "set") us) (EP X pins σ Q) X.xe s := by
    intro l ws its c it Is e Z hIs rv rd
    subst e
    rw [Vals.ref1 r]
    have each : ∀ {ws : List V} {its : List Value} {xs : List D}, Vals ws its → RDs X.K G ws xs → (∀ d ∈ xs, ∃ k, d = tupS k) → (∀ u ∈ its, UK X.prog X.w s.heap u ∧ VD X.K G u (tupS (keyK X.prog X.w s.heap u)) ∧ tupS (keyK X.prog X.w s.heap u) ∈ xs) ∧ ∀ d ∈ xs, ∃ u ∈ its, d = tupS (keyK X.prog X.w s.heap u) := by
      intro ws its xs rv rd hk
      induction rv generalizing xs with
      | nil => cases rd; exact ⟨fun u hu => (by cases hu), fun d hd => (by cases hd)⟩
      | @cons v u ws its r rs ih =>
        cases rd with
        | @cons _ _ d ds h t =>
          obtain ⟨k, rfl⟩ := hk d List.mem_cons_self
          obtain ⟨a, rfl, z⟩ := isK_of I R.same h r
          obtain ⟨i1, i2⟩ := ih t fun d hd => hk d (List.mem_cons_of_mem _ hd)
          have ek : keyK X.prog X.w s.heap (.ref a) = k := keyK_eq z
          refine ⟨fun u hu => ?_, fun d hd => ?_⟩
          · rcases List.mem_cons.mp hu with rfl | hu
            · rw [ek]; exact ⟨⟨a, k, rfl, z⟩, ⟨v, r, h⟩, List.mem_cons_self⟩
            · obtain ⟨j1, j2, j3⟩ := i1 u hu
              exact ⟨j1, j2, List.mem_cons_of_mem _ j3⟩
          · rcases List.mem_cons.mp hd with rfl | hd
            · exact ⟨.ref a, List.mem_cons_self, by rw [ek]⟩
            · obtain ⟨u, hu, e⟩ := i2 d hd
              exact ⟨u, List.mem_cons_of_mem _ hu, e⟩
    obtain ⟨e1, e2⟩ := each rv rd hkey
    have hlen : ∀ L : List Value, (∀ v ∈ L, v ∈ its) → (L.map (keyK X.prog X.w s.heap)).Nodup → L.length < 64 := fun L hL hnd => by
      classical
      have hd : (L.map fun u => tupS (keyK X.prog X.w s.heap u)).Nodup := by
        have e : (L.map fun u => tupS (keyK X.prog X.w s.heap u)) = (L.map (keyK X.prog X.w s.heap)).map tupS := by rw [List.map_map]; rfl
        rw [e]
        exact List.Pairwise.map _ (fun a b hab hh => hab (sts_inj0 (D.tup.inj hh))) hnd
      have heq : ∀ a ∈ xs, ∀ b ∈ xs, deq a b = true → a = b := fun a ha b hb e => by
        obtain ⟨k, rfl⟩ := hkey a ha
        obtain ⟨k', rfl⟩ := hkey b hb
        rw [deq_tupS] at e
        rw [of_decide_eq_true e]
      have hrf : ∀ a ∈ xs, deq a a = true := fun a ha => by
        obtain ⟨k, rfl⟩ := hkey a ha
        rw [deq_tupS]
        exact decide_eq_true rfl
      have := nodup_le hd (m := dedupD xs) fun d hdm => by
        obtain ⟨u, hu, rfl⟩ := List.mem_map.mp hdm
        exact (mem_dedup heq hrf _).mpr (e1 u (hL u hu)).2.2
      rw [List.length_map] at this
      omega
    refine set_call Z hIs (I.ok.hd hc) (ky_k (by show X.A.units + 1 + 1 + 1 < cLine; omega)) (fun u hu => (e1 u hu).1) hlen fun h' tk L es ep t RR g Xe => ?_
    have hSK : SetK X.K G X.prog X.w xs s.heap.objs.size h' := by
      refine ⟨s.heap, L, es, ep, t, RR, fun u hu => ?_, fun d hd => ?_⟩
      · have := e1 u (List.mem_of_mem_take (g.sub u hu))
        exact ⟨this.2.1, this.2.2⟩
      · obtain ⟨u, hu, e⟩ := e2 d hd
        have hm := g.all u (by rw [List.take_length]; exact hu)
        obtain ⟨v, hv, ev⟩ := List.mem_map.mp hm
        exact ⟨v, hv, by rw [e, ev]⟩
    exact ⟨.ref s.heap.objs.size, _, I.laid (t' := tk) Xe (Nat.le_refl _) (setK_ok hSK), rfl, q _ hn⟩
  rcases hl with hl | hl
  · obtain ⟨l, ws, e, k1, k2⟩ := look_lst R hx hl
    obtain ⟨its, rv, pl, hz⟩ := I.list k1
    exact go e (src_list l its) pl.isList rv k2
  · obtain ⟨l, ws, e, k1, _, k2⟩ := look_tup R hx hl
    obtain ⟨its, rv, pt, hz⟩ := I.tuple k1
    exact go e (src_tup l its) pt rv k2
theorem cr_sortSet (hc : X.calm = true) (hu : X.A.units + 200 < cLine) : CallR X (.builtin "sorted") (rSortSet X.K X.prog X.w) := by
  intro pins s σ H vs us Q I r h
  obtain ⟨a, G, xs, rfl, ha, hs, ok, q⟩ := h
  rw [Vals.ref1 r]
  obtain ⟨hkey, h64⟩ := setOk_key ok
  have z : SetK X.K G X.prog X.w xs a s.heap := (I.hok a _ ha).1
  obtain ⟨h0, L, es, ep, t, R, m1, m2⟩ := z
  refine sorted_set R (I.ok.hd hc) fun s' vs X' pm => ?_
  have hvd : ∀ {vs : List Value}, (∀ u ∈ vs, u ∈ L) → EachIs (VD X.K G) vs (vs.map fun u => tupS (keyK X.prog X.w h0 u)) ∧ EachIs (fun v (d : D) => ∃ as, Reads s'.heap v d.py as) vs (vs.map fun u => tupS (keyK X.prog X.w h0 u)) := by
    intro vs
    induction vs with
    | nil => intro _; exact ⟨.nil, .nil⟩
    | cons u vs ih =>
      intro hu
      obtain ⟨i1, i2⟩ := ih fun v hv => hu v (List.mem_cons_of_mem _ hv)
      have v1 := (m1 u (hu u List.mem_cons_self)).1
      obtain ⟨x, rx, dx⟩ := v1
      obtain ⟨as, rr⟩ := Dp.reads I _ _ _ (dx.mono hs).dp rx
      exact ⟨.cons ⟨x, rx, dx⟩ i1, .cons ⟨as, PyProof.Rows.Reads.keeps (fun b o e => X' b o e) rr⟩ i2⟩
  obtain ⟨d1, d2⟩ := hvd fun u hu => pm.mem_iff.mp hu
  generalize hds : (vs.map fun u => tupS (keyK X.prog X.w h0 u)) = ds at d1 d2
  have hdk : ∀ d ∈ ds, ∃ k, d = tupS k := fun d hd => by
    rw [← hds] at hd
    obtain ⟨u, _, rfl⟩ := List.mem_map.mp hd
    exact ⟨_, rfl⟩
  have hso := sortOk_tupS hdk
  -- the members are the data, each once
  have hperm : ds.Perm (dedupD xs) := by
    have heq : ∀ a ∈ xs, ∀ b ∈ xs, deq a b = true → a = b := fun a ha b hb e => by
      obtain ⟨k, rfl⟩ := hkey a ha
      obtain ⟨k', rfl⟩ := hkey b hb
      rw [deq_tupS] at e
      rw [of_decide_eq_true e]
    have hrf : ∀ a ∈ xs, deq a a = true := fun a ha => by
      obtain ⟨k, rfl⟩ := hkey a ha
      rw [deq_tupS]
      exact decide_eq_true rfl
    have nd1 : ds.Nodup := by
      rw [← hds]
      have : (vs.map (keyK X.prog X.w h0)).Nodup := (pm.map _).nodup_iff.mpr R.nd
      have e : (vs.map fun u => tupS (keyK X.prog X.w h0 u)) = (vs.map (keyK X.prog X.w h0)).map tupS := by rw [List.map_map]; rfl
      rw [e]
      refine List.Pairwise.map _ (fun a b hab z => hab ?_) this
      have z2 := deq_tupS a b
      rw [z, deq_tupS] at z2
      simpa using z2.symm
    refine (List.perm_ext_iff_of_nodup nd1 (nodup_dedup hrf heq)).mpr fun d => ?_
    rw [mem_dedup heq hrf, ← hds]
    constructor
    · intro hd
      obtain ⟨u, hu, rfl⟩ := List.mem_map.mp hd
      exact (m1 u (pm.mem_iff.mp hu)).2
    · intro hd
      obtain ⟨u, hu, rfl⟩ := m2 d hd
      exact List.mem_map.mpr ⟨u, pm.mem_iff.mpr hu, rfl⟩
  have hsort : sortD ds = sortD (dedupD xs) := sortD_eq (P := fun d => ∃ k, d = tupS k) (fun a b ha hb h1 h2 => by
    obtain ⟨k, rfl⟩ := ha
    obtain ⟨k', rfl⟩ := hb
    rw [dle_anti_tupS h1 h2]) hperm hdk
  refine ⟨dataKind s'.heap (ds.map D.py), sorts_data (each_of D.py d2) hso (by show X.A.units + 1 + 1 + 65 < cLine; omega), fun p c s2 X2 g2 o2 hp hg => ?_⟩
  have out := sortVals_data (R := VD X.K G) (enc := D.py) false d1 d2 (by
    intro d hd d' hd'
    obtain ⟨a, h1, rfl⟩ := List.mem_map.mp hd
    obtain ⟨b, h2, rfl⟩ := List.mem_map.mp hd'
    exact (ltOk_cases (sortOk_all hso a h1 b h2)).1)
  rw [dle_eq, ← sortD_merge] at out
  generalize sortVals (dataKind s'.heap (ds.map D.py)) false vs vs = o at out hg
  have out : EachIs (VD X.K G) o (sortD ds) := out
  rw [hsort] at out
  obtain ⟨ws, h1, h2⟩ := each_vd out
  have hn : H p = none := I.hok.fresh hp
  have hlen : ws.length ≤ sizeLine := by
    rw [h2.length, ← hsort, (sortD_perm ds).length_eq, hperm.length_eq]
    have := dedup_len xs
    rw [sizeLine_eq]
    omega
  have J : Inv X pins σ (upd H p (.lst ws)) { s with heap := s2.heap, gens := s2.gens, drawn := s2.drawn, toks := s2.toks } :=
    I.call (ch := []) (Un.laid X2 hp hn) (I.hok.laid X2 hp ⟨hlen, o, c, h1, by simpa [PyProof.Rows.seqObj] using hg⟩) (by rw [g2]; exact I.bare) (fun _ z => nomatch z)
  have e : s2 = { s with heap := s2.heap, gens := s2.gens, drawn := s2.drawn, toks := s2.toks } := by
    cases s2
    cases s
    cases o2
    rfl
  rw [e]
  exact ⟨.ref p, _, J, rfl, q p ws hn h2⟩
end
end AOne
end

section
set_option Elab.async false
set_option linter.all false
set_option maxRecDepth 100000
set_option maxHeartbeats 4000000
set_option autoImplicit false
/-! A26: sets of texts and of ints (members that are scanned). -/
namespace AOne
open PySem PySem.Spec PyProof.Rows L2

/-- members of a kind that the set scans: texts, ints -/
structure Sc (P : Program) (w : World) {κ : Type} [DecidableEq κ] (knd : PySem.KeyKind P w κ) (U : Value → Prop) (key : Value → κ) : Prop where
  is_ : ∀ v, U v → knd.is (key v) v = true
  scan : ∀ v, U v → v.scannable = true
section
variable {P : Program} {w : World} {A : Around} {E : Value → Shared → Prop} {s : Shared} {κ : Type} [DecidableEq κ] {knd : PySem.KeyKind P w κ} {U : Value → Prop} {key : Value → κ}
def rowQ (knd : PySem.KeyKind P w κ) (key : Value → κ) (v : Value) : Int × Value := (knd.hash (key v), v)
structure SetQ (knd : PySem.KeyKind P w κ) (U : Value → Prop) (key : Value → κ) (h : Heap) (a : Addr) (L : List Value) (es : Array (Int × Value)) (ep : Nat) (t : SetTable) : Prop where
  ob : ∃ o, h.get? a = some o ∧ o.ExactSet ∧ o.data = .set es ep t
  rows : es.toList = L.map (rowQ knd key)
  mem : ∀ v ∈ L, U v
  nd : (L.map key).Nodup
  fit : t.fits es.size = true
  ris : L2.Ris t.place.toList
  led : w.params.followText "set-order" = true ∨ t.led = true
  few : L.length < 64
variable {a : Addr} {L : List Value} {es : Array (Int × Value)} {ep : Nat} {t : SetTable}
theorem SetQ.count {h : Heap} (R : SetQ knd U key h a L es ep t) : es.size = L.length := by
  rw [← Array.length_toList, R.rows, List.length_map]
theorem SetQ.on {h h' : Heap} (R : SetQ knd U key h a L es ep t) (ha : ∀ o, h.get? a = some o → h'.get? a = some o) : SetQ knd U key h' a L es ep t := by
  obtain ⟨o, ho, r⟩ := R.ob
  exact ⟨⟨o, ha o ho, r⟩, R.rows, R.mem, R.nd, R.fit, R.ris, R.led, R.few⟩
theorem small_scan {n : Nat} (h : n < 64) : n < scanBound := by unfold scanBound; omega
theorem rows_elems (C : Sc P w knd U key) {L : List Value} (h : ∀ v ∈ L, U v) : ElemsOf knd (L.map (rowQ knd key)) := fun e he => by
  obtain ⟨v, hv, rfl⟩ := List.mem_map.mp he
  exact ⟨⟨key v, C.is_ v (h v hv), rfl⟩, C.scan v (h v hv)⟩
theorem rows_of_perm {es1 es2 : List (Int × Value)} {L1 : List Value} (r1 : es1 = L1.map (rowQ knd key)) (pm : es2.Perm es1) : es2 = (es2.map (·.2)).map (rowQ knd key) ∧ (es2.map (·.2)).Perm L1 := by
  refine ⟨?_, ?_⟩
  · rw [List.map_map]
    conv => lhs; rw [← List.map_id es2]
    refine List.map_congr_left fun e he => ?_
    have := pm.mem_iff.mp he
    rw [r1] at this
    obtain ⟨v, _, rfl⟩ := List.mem_map.mp this
    rfl
  · have := pm.map (·.2)
    rw [r1, List.map_map] at this
    have e : (L1.map ((·.2) ∘ rowQ knd key)) = L1 := by
      have : ((·.2) ∘ rowQ knd key : Value → Value) = id := rfl
      rw [this, List.map_id]
    rw [e] at this
    exact this
theorem tail_q {g : Bool → Sem Unit} (hg : ∀ (b : Bool) (s₁ : Shared) (Q' : Unit → Shared → Prop), Q' () s₁ → wpAny (model P w) A (g b) Q' E s₁)
    {o : Obj} (ho : s.heap.get? a = some o) (hex : o.ExactSet) (hd : o.data = .set es ep t)
    {es1 : Array (Int × Value)} {t2 : SetTable} {L1 : List Value} (r1 : es1.toList = L1.map (rowQ knd key)) (mem1 : ∀ v ∈ L1, U v) (nd1 : (L1.map key).Nodup) (few1 : L1.length < 64)
    (hf2 : t2.fits es1.size = true) (hr : L2.Ris t2.place.toList) (hl : w.params.followText "set-order" = true ∨ t2.led = true) {wasDummy : Bool} {R : Option Bool → Shared → Prop}
    (hR : ∀ h' L' es' ep' t', Heap.SameBut a s.heap h' → SetQ knd U key h' a L' es' ep' t' → L'.Perm L1 → R (some true) { s with heap := h' }) :
    wpAny (model P w) A (do
        storeSet a es1 t2
        if (!wasDummy && t2.tooFull) = true then do
            g (relayAll t2 es1 (SetTable.grown es1.size)).2.2
            storeSet a (relayAll t2 es1 (SetTable.grown es1.size)).1 (relayAll t2 es1 (SetTable.grown es1.size)).2.1
            pure (some true)
          else pure (some true)) R E s := by
  have hb1 : es1.size < scanBound := by
    have : es1.size = L1.length := by rw [← Array.length_toList, r1, List.length_map]
    rw [this]; exact small_scan few1
  refine wpAny_bind (wpAny_storeSet_of ho hd ?_ (fits_of_scanBound hb1))
  have ho1 := store_at (es' := es1) (t' := t2) ho hd
  have sb1 := Heap.SameBut.update s.heap a (Obj.putSet es1 t2)
  split
  · have pm := relayAll_perm t2 es1 (SetTable.grown es1.size)
    have hf3 := relayAll_fits t2 es1 (SetTable.grown es1.size)
    have hr3 := relayAll_ris t2 es1 (SetTable.grown es1.size)
    have hl3 := relayAll_led t2 es1 (SetTable.grown es1.size)
    generalize relayAll t2 es1 (SetTable.grown es1.size) = Z at pm hf3 hr3 hl3 ⊢
    obtain ⟨es2, t3, gave⟩ := Z
    dsimp only at pm hf3 hr3 hl3 ⊢
    have hsz : es2.size = es1.size := by rw [← Array.length_toList, pm.length_eq, Array.length_toList]
    have hb2 : es2.size < scanBound := by rw [hsz]; exact hb1
    refine wpAny_bind (hg _ _ _ ?_)
    refine wpAny_bind (wpAny_storeSet_of ho1 rfl ?_ (fits_of_scanBound hb2))
    have ho2 := store_at (es' := es2) (t' := t3) ho1 rfl
    obtain ⟨k1, k2⟩ := rows_of_perm r1 pm
    refine wpAny_pure (hR _ _ es2 _ t3 (sb1.trans (Heap.SameBut.update _ a _)) ⟨⟨_, ho2, hex, rfl⟩, k1, fun v hv => mem1 v (k2.mem_iff.mp hv), (k2.map key).nodup_iff.mpr nd1, hf3, hr3, hl.imp id fun z => by rw [hl3]; exact z, by rw [k2.length_eq]; exact few1⟩ k2)
  · exact wpAny_pure (hR _ L1 es1 _ t2 sb1 ⟨⟨_, ho1, hex, rfl⟩, r1, mem1, nd1, hf2, hr, hl, few1⟩ (List.Perm.refl _))
theorem add_q (C : Sc P w knd U key) (R : SetQ knd U key s.heap a L es ep t) {x : Value} (hx : U x) (hfew : key x ∉ L.map key → L.length + 1 < 64) {Q : Bool → Shared → Prop}
    (hQ : ∀ b h' L' es' ep' t', Heap.SameBut a s.heap h' → SetQ knd U key h' a L' es' ep' t' → (key x ∈ L.map key → L' = L) → (key x ∉ L.map key → L'.Perm (x :: L)) → Q b { s with heap := h' }) :
    wpAny (model P w) A (setAddHashed a x (knd.hash (key x))) Q E s := by
  obtain ⟨o, ho, hex, hd⟩ := R.ob
  have hkey := C.is_ x hx
  have hsc := C.scan x hx
  have hel : ElemsOf knd es.toList := by rw [R.rows]; exact rows_elems C R.mem
  have hb : es.size < scanBound := by rw [R.count]; exact small_scan R.few
  have memk : (∃ e ∈ es.toList, knd.is (key x) e.2 = true) ↔ key x ∈ L.map key := by
    rw [R.rows]
    constructor
    · rintro ⟨e, he, q⟩
      obtain ⟨v, hv, rfl⟩ := List.mem_map.mp he
      exact List.mem_map.mpr ⟨v, hv, knd.inj v _ _ (C.is_ v (R.mem v hv)) q⟩
    · intro h
      obtain ⟨v, hv, e⟩ := List.mem_map.mp h
      exact ⟨_, List.mem_map_of_mem hv, by show knd.is (key x) v = true; rw [← e]; exact C.is_ v (R.mem v hv)⟩
  unfold setAddHashed setAddHashedIn
  refine wpAny_holding (wpAny_bind (wpAny_setState_of ho hd R.fit ?_))
  dsimp only
  rw [byScan_of hsc hb hel]
  simp only [↓reduceIte]
  unfold setAddByScan
  refine wpAny_bind ?_
  refine wpAny_bind (wpAny_rule ?_)
  refine wpAny_bind (wpAny_setScan_of hkey ho hd R.fit hel ?_)
  cases hfi : List.findIdx? (fun e => knd.is (key x) e.2) es.toList with
  | some j =>
    dsimp only
    obtain ⟨hj, pj, _⟩ := List.findIdx?_eq_some_iff_getElem.mp hfi
    have hm : key x ∈ L.map key := memk.mp ⟨es.toList[j], List.getElem_mem hj, pj⟩
    exact wpAny_pure (wpAny_pure (hQ false s.heap L es ep t (Heap.SameBut.refl a s.heap) R (fun _ => rfl) fun z => absurd hm z))
  | none =>
    dsimp only
    have hnk : key x ∉ L.map key := fun z => by
      obtain ⟨e, he, q⟩ := memk.mpr z
      have c := List.findIdx?_eq_none_iff.mp hfi e he
      rw [q] at c
      cases c
    have hfew := hfew hnk
    have hgw : ∀ (b : Bool) {s₁ : Shared} {Q' : Unit → Shared → Prop}, Q' () s₁ → wpAny (model P w) A (match b with | true => rule "set.scan.the-table-gave-way" | false => pure ()) Q' E s₁ :=
      fun b s₁ Q' q => by cases b <;> first | exact wpAny_pure q | exact wpAny_rule q
    have pm := layNew_perm t es (knd.hash (key x)) x
    have hf1 := layNew_fits t es (knd.hash (key x)) x
    have hr1 := layNew_ris t es (knd.hash (key x)) x R.ris
    have hl1 := layNew_led t es (knd.hash (key x)) x
    generalize layNew t es (knd.hash (key x)) x = Z at pm hf1 hr1 hl1 ⊢
    obtain ⟨es1, t1, wasDummy, gave⟩ := Z
    dsimp only at pm hf1 hr1 hl1 ⊢
    rw [Array.toList_push] at pm
    have pc : es1.toList.Perm ((x :: L).map (rowQ knd key)) := by
      refine pm.trans ((List.perm_append_singleton _ _).trans ?_)
      rw [R.rows]
      exact List.Perm.refl _
    obtain ⟨k1, k2⟩ := rows_of_perm rfl pc
    have mem1 : ∀ v ∈ es1.toList.map (·.2), U v := fun v hv => by
      rcases List.mem_cons.mp (k2.mem_iff.mp hv) with z | z
      · rw [z]; exact hx
      · exact R.mem v z
    have nd1 : ((es1.toList.map (·.2)).map key).Nodup := (k2.map key).nodup_iff.mpr (List.nodup_cons.mpr ⟨hnk, R.nd⟩)
    have few1 : (es1.toList.map (·.2)).length < 64 := by rw [k2.length_eq, List.length_cons]; exact hfew
    have hled : w.params.followText "set-order" = true ∨ t1.led = true := R.led.imp id fun z => by rw [hl1]; exact z
    have fin : ∀ h' L' es' ep' t', Heap.SameBut a s.heap h' → SetQ knd U key h' a L' es' ep' t' → L'.Perm (es1.toList.map (·.2)) → Q true { s with heap := h' } := fun h' L' es' ep' t' sb r p =>
      hQ true h' L' es' ep' t' sb r (fun z => absurd z hnk) fun _ => p.trans k2
    refine wpAny_bind (hgw _ ?_)
    split
    · refine wpAny_bind ?_
      rw [hashByValue_scannable 8 hsc]
      refine wpAny_pure ?_
      refine tail_q ?_ ho hex hd k1 mem1 nd1 few1 ?_ ?_ ?_ ?_
      · intro b s₁ Q' q; cases b <;> first | exact wpAny_pure q | exact wpAny_rule q
      · first | (split <;> first | exact hf1 | exact SetTable.fits_plain_off hf1) | exact hf1
      · first | (split <;> exact hr1) | exact hr1
      · first | (split <;> exact hled) | exact hled
      · intro h' L' es' ep' t' sb r p; dsimp only; exact wpAny_pure (fin h' L' es' ep' t' sb r p)
    · refine wpAny_bind (wpAny_pure ?_)
      simp only [↓reduceIte]
      refine tail_q ?_ ho hex hd k1 mem1 nd1 few1 hf1 hr1 hled ?_
      · intro b s₁ Q' q; cases b <;> first | exact wpAny_pure q | exact wpAny_rule q
      · intro h' L' es' ep' t' sb r p; dsimp only; exact wpAny_pure (fin h' L' es' ep' t' sb r p)
theorem setQ_fresh {h : Heap} {a : Addr} (ho : h.get? a = some (freshSet w)) : SetQ knd U key h a [] #[] 0 (.fresh 0 0 (!w.params.followText "set-order")) := by
  refine ⟨⟨_, ho, ⟨rfl, rfl, rfl⟩, rfl⟩, rfl, fun v hv => (by cases hv), List.nodup_nil, rfl, List.Pairwise.nil, ?_, ?_⟩
  · show _ ∨ (!w.params.followText "set-order") = true
    cases w.params.followText "set-order" <;> simp
  · show 0 < 64
    decide
end
section
variable {P : Program} {w : World} {A : Around} {h0 : Heap} {κ : Type} [DecidableEq κ] {knd : PySem.KeyKind P w κ} {U : Value → Prop} {key : Value → κ}
/-- the loop that takes the values in -/
theorem update_q {I : Addr} {fp wr : List Addr} {G : Array GenState → Array GenState → Prop} {Pv : Nat → Value → Prop} {St : Nat → Shared → Prop} {R : Result → Shared → Prop} {vs : List Value}
    (C : Sc P w knd U key) (W : WalksS P w A.in1 I fp wr G vs.length Pv St) (S : Addr) (hSf : S ∉ fp) (hfew : ∀ L : List Value, (∀ v ∈ L, v ∈ vs) → (L.map key).Nodup → L.length < 64) (hval : ∀ i v, Pv i v → vs[i]? = some v) (hU : ∀ v ∈ vs, U v)
    (hS0 : h0.get? S = none) (hw0 : ∀ b ∈ wr, h0.get? b = none) :
    ∀ (k i : Nat) (s : Shared), vs.length - i = k → i ≤ vs.length → St i s → Ext h0 s.heap → (∃ L es ep t, SetQ knd U key s.heap S L es ep t ∧ Has key vs i L) →
      (∀ s' L es ep t, Moved (S :: wr) G s s' → SetQ knd U key s'.heap S L es ep t → Has key vs vs.length L → Ext h0 s'.heap → R (.ok (.ret .none)) s') →
      codeAny (model P w) A (.builtin "set.update.loop" ⟨[.ref S, .ref I], []⟩) R s := by
  have hSw : S ∉ wr := fun h => hSf (W.sub _ h)
  have hsub : ∀ b ∈ wr, b ∈ S :: wr := fun b hb => List.mem_cons_of_mem _ hb
  have keepM : ∀ {s s' : Shared}, Moved wr G s s' → Ext h0 s.heap → Ext h0 s'.heap := fun hm hkp b o e => hm.heap b o (fun hb => by rw [hw0 b hb] at e; cases e) (hkp b o e)
  intro k
  induction k with
  | zero =>
    rintro i s hk hi hst X ⟨L, es, ep, t, hS, g⟩ hR
    have ei : i = vs.length := by omega
    subst ei
    refine codeAny_builtin F.entry_set_update_loop ?_
    rw [Around.under_plainId F.plain_set_update_loop _]
    show wpAny _ A.in1 (pyNext (.ref I) >>= _) _ _ s
    refine wpAny_bind (W.done s _ _ hst fun s' hm => ?_)
    show wpAny _ A.in1 (ret Value.none) _ _ s'
    exact wpAny_pure (hR s' L es ep t (hm.mono hsub) (hS.on fun o e => hm.heap S o hSw e) g (keepM hm X))
  | succ k ih =>
    rintro i s hk hi hst X ⟨L, es, ep, t, hS, g⟩ hR
    have hlt : i < vs.length := by omega
    refine codeAny_builtin F.entry_set_update_loop ?_
    rw [Around.under_plainId F.plain_set_update_loop _]
    show wpAny _ A.in1 (pyNext (.ref I) >>= _) _ _ s
    refine wpAny_bind (W.item i s _ _ hlt hst fun v s' hP hst' hm => ?_)
    have hv := hval i v hP
    have hx := hU v (List.mem_of_getElem? hv)
    have X' := keepM hm X
    have hS' : SetQ knd U key s'.heap S L es ep t := hS.on fun o e => hm.heap S o hSw e
    show wpAny _ A.in1 (holding [v] (setAdd S v) >>= _) _ _ s'
    refine wpAny_bind (wpAny_holding ?_)
    unfold setAdd
    refine wpAny_holding ?_
    refine wpAny_bind (knd.pyHash (C.is_ v hx) ?_)
    have htk : s'.toks ≤ s'.toks + 1 := Nat.le_succ _
    generalize s'.toks + 1 = tk at htk ⊢
    refine add_q (s := { s' with toks := tk }) C hS' hx (fun hk => by
      have := hfew (v :: L) (fun u hu => by
        rcases List.mem_cons.mp hu with e | hu
        · rw [e]; exact List.mem_of_getElem? hv
        · exact List.mem_of_mem_take (g.sub u hu)) (by rw [List.map_cons]; exact List.nodup_cons.mpr ⟨hk, hS'.nd⟩)
      simpa using this) fun b h' L' es' ep' t' hsb hS2 c1 c2 => ?_
    have X2 : Ext h0 h' := fun b o e => (hsb.2 b (fun z => by rw [z, hS0] at e; cases e)).trans (X' b o e)
    refine wpAny_pure ⟨plainId_quiet F.plain_set_update_loop _, ih (i + 1) _ (by omega) hlt (W.frame _ s' _ _ hst' htk fun b hb o e => ?_) X2 ⟨L', es', ep', t', hS2, g.step hv c1 c2⟩ fun s2 L2 es2 ep2 t2 hm2 hS3 g2 X3 => ?_⟩
    · rw [hsb.2 b (fun h : b = S => hSf (by rw [← h]; exact hb))]; exact e
    · refine hR s2 L2 es2 ep2 t2 (Moved.trans W.gtrans ((hm.mono hsub).then_heap htk fun b o hb e => ?_) hm2) hS3 g2 X3
      rw [hsb.2 b (fun h : b = S => hb (by rw [h]; exact List.mem_cons_self))]; exact e
theorem set_callQ {l : Addr} {vs : List Value} {c : String} {it : Obj} {Is : Heap → Prop} {Q : Value → Shared → Prop} {E : Value → Shared → Prop} {s : Shared} (Z : Src P w l vs c it Is) (hl : Is s.heap) (hh : A.handled = none) (C : Sc P w knd U key) (hU : ∀ v ∈ vs, U v) (hfew : ∀ L : List Value, (∀ v ∈ L, v ∈ vs) → (L.map key).Nodup → L.length < 64)
    (h : ∀ (h' : Heap) (tk : Nat) L es ep t, SetQ knd U key h' s.heap.objs.size L es ep t → Has key vs vs.length L → Ext s.heap h' → Q (.ref s.heap.objs.size) { s with heap := h', toks := tk }) :
    wpAny (model P w) A (call (.type "set") [.ref l]) Q E s := by
  obtain ⟨c0, tl, hmro⟩ := F.called_set.mro
  have hmade := F.called_set.made
  have hsub := F.called_set.sub
  refine wpAny_call (codeAny_of_tree ?_)
  show wpAny _ _ (callAny (.type "set") _) _ _ _
  refine wpAny_pure ⟨Code.quiet_builtin _ (by decide +kernel), codeAny_builtin F.entry_type_call ?_⟩
  rw [Around.under_plain (weight_type_call_type "set" [.ref l] []) rfl]
  have h1 := F.called_set.notType
  have h2 := F.called_set.canCreate
  have hct := F.typeCall_set_1 (.ref l)
  repeat (any_goals (first | assumption | wp_step))
  refine codeAny_mono (L2.code_set_led1 (.ref l) (E := E) (Q₁ := fun obj s1 => obj = .ref s.heap.objs.size ∧ s1 = { s with heap := s.heap.push (freshSet w) }) ⟨rfl, rfl⟩) fun r s1 hr => ?_
  match r, hr with
  | .error e, hr => exact hr
  | .ok (.ret obj), hr =>
    obtain ⟨rfl, rfl⟩ := hr
    have hS : (s.heap.push (freshSet w)).get? s.heap.objs.size = some (freshSet w) := Heap.get?_push_size _ rfl
    have hT : Shared.TypeIs { s with heap := s.heap.push (freshSet w) } (.ref s.heap.objs.size) "set" := ⟨_, hS, rfl⟩
    have hli := F.called_set.init.lookup
    have hbi := F.called_set.init.bind (.ref s.heap.objs.size)
    repeat (any_goals (first | assumption | wp_step))
    refine codeAny_mono (codeAny_call_builtin (R := wants (fun r s2 => r = .none ∧ ∃ h' tk L es ep t, s2 = { s with heap := h', toks := tk } ∧ SetQ knd U key h' s.heap.objs.size L es ep t ∧ Has key vs vs.length L ∧ Ext s.heap h') E) F.called_set.init.plain F.entry_set_init (check_set_init_1 hT ?_)) fun r2 s2 hr2 => ?_
    · have X1 : Ext s.heap (s.heap.push (freshSet w)) := fun b o e => Heap.get?_push_of_some _ e
      have hl1 := Z.keep _ _ hl X1
      obtain ⟨od, on, osl, hol⟩ := Z.ob _ hl
      have hol' := X1 l _ hol
      have hsls := Z.notSet
      have hslf := Z.notFro
      have hne := Z.notDic
      unfold Builtin.«set.__init__» noKeywords Builtin.Frozenset.updateFrom
      generalize hPI : pyIter = PI
      wp_walk
      subst hPI
      refine Z.iter _ _ _ _ hl1 ?_
      refine wpAny_bind (wpAny_runValue ?_)
      have hlS : l < s.heap.objs.size := Heap.lt_size hol
      have hz1 : (s.heap.push (freshSet w)).objs.size = s.heap.objs.size + 1 := Heap.size_push ..
      have hneI : l ≠ (s.heap.push (freshSet w)).objs.size := by rw [hz1]; exact Nat.ne_of_lt (Nat.lt_succ_of_lt hlS)
      obtain ⟨fp, G, Pv, St, W, hfp, hPv, hSt, hG⟩ := Z.walk A.in1.in1.in1 (s.heap.push (freshSet w)).objs.size (by simpa using hh) hneI
      have none_of : ∀ b, s.heap.objs.size ≤ b → s.heap.get? b = none := fun b hb => by
        cases q : s.heap.get? b with
        | none => rfl
        | some o => exact absurd (Nat.lt_of_lt_of_le (Heap.lt_size q) hb) (Nat.lt_irrefl _)
      have hSf : s.heap.objs.size ∉ fp := fun z => by
        rcases hfp _ z with e | e
        · rw [hz1] at e; exact absurd e (Nat.ne_of_lt (Nat.lt_succ_self _))
        · rw [← e] at hlS; exact absurd hlS (Nat.lt_irrefl _)
      have X2 : Ext s.heap ((s.heap.push (freshSet w)).push it) := fun b o e => Heap.get?_push_of_some _ (Heap.get?_push_of_some _ e)
      refine update_q (R := _) C W s.heap.objs.size hSf hfew hPv hU (none_of _ (Nat.le_refl _)) (fun b hb => none_of b (by rw [List.mem_singleton.mp hb, hz1]; exact Nat.le_succ _)) (vs.length - 0) 0 _ (by omega) (Nat.zero_le _)
        (hSt _ (Z.keep _ _ hl X2) (Heap.get?_push_size _ Z.free)) X2 ⟨[], #[], 0, _, setQ_fresh (Heap.get?_push_of_some _ hS), has_zero vs⟩ ?_
      rintro ⟨h', g2, d', tk', os'⟩ L es ep t hm hS' g' X'
      have eg : g2 = s.gens := hG _ _ hm.gens
      have ed : d' = s.drawn := hm.drawn
      have eo : os' = s.os := hm.os
      subst eg ed eo
      show wpAny _ _ _ _ _ _
      refine wpAny_pure ?_
      show wpAny _ _ (ret Value.none) _ _ _
      exact wpAny_pure ⟨rfl, h', tk', L, es, ep, t, rfl, hS', g', X'⟩
    · match r2, hr2 with
      | .error e, hr2 => exact hr2
      | .ok (.ret r), hr2 =>
        obtain ⟨rfl, h', tk, L, es, ep, t, rfl, hS', g', hk'⟩ := hr2
        repeat (any_goals (first | assumption | wp_step))
        exact h _ _ _ _ _ _ hS' g' hk'
      | .ok .next, hr2 => exact hr2.elim
      | .ok .brk, hr2 => exact hr2.elim
      | .ok .cont, hr2 => exact hr2.elim
  | .ok .next, hr => exact hr.elim
  | .ok .brk, hr => exact hr.elim
  | .ok .cont, hr => exact hr.elim
end

end AOne
end

section
set_option Elab.async false
set_option linter.all false
set_option maxRecDepth 100000
set_option maxHeartbeats 4000000
set_option autoImplicit false
/-! A27: sorted(set(..)) of texts, of ints. -/
namespace AOne
open PySem PySem.Spec PySem.W L2
open PyProof.Rows (seqObj sortedHeap sortedHeap_at sortedHeap_old size_push' kind_sorted plain_sorted entry_sorted args_sorted1 slot_list_sort entry_list_sort args_list_sort)
theorem sorted_setQ {P : Program} {w : World} {A : Around} {E : Value → Shared → Prop} {s : Shared} {κ : Type} [DecidableEq κ] {knd : PySem.KeyKind P w κ} {U : Value → Prop} {key : Value → κ} {a : Addr} {L : List Value} {es : Array (Int × Value)} {ep : Nat} {t : SetTable} {Q : Value → Shared → Prop} (R : SetQ knd U key s.heap a L es ep t) (hh : A.handled = none)
    (hs : ∀ (s' : Shared) (vs : List Value), Ext s.heap s'.heap → vs.Perm L → ∃ κ' : PyProof.Rows.KeyKind, SortsAt P w A.in1.in1 s' κ' vs ∧ ∀ p c s'', Ext s.heap s''.heap → s''.gens = s.gens → s''.os = s.os → s.heap.objs.size ≤ p → s''.heap.get? p = some (seqObj "list" (sortVals κ' false vs vs).toArray c) → Q (.ref p) s'') :
    wpAny (model P w) A (call (.builtin "sorted") [.ref a]) Q E s := by
  obtain ⟨o, ho, hex, hd⟩ := R.ob
  have hsz := R.count
  have hfew := R.few
  refine Calls.call_function_entry kind_sorted plain_sorted entry_sorted (args_sorted1 _) ?_
  unfold Builtin.«sorted»
  refine wpAny_bind (m := checkCount "sorted" 1 1 _) (wpAny_pure ?_)
  refine wpAny_bind (collect_set (A := A.in1) hh ⟨o, ho, hex.1, hd⟩ R.fit (by unfold scanBound; omega) R.ris R.led fun s1 vs k1 hz g1 o1 pm => ?_)
  have pm' : vs.Perm L := by
    rw [R.rows, List.map_map] at pm
    have e : (L.map (Prod.snd ∘ rowQ knd key)) = L := by
      have : (Prod.snd ∘ rowQ knd key : Value → Value) = id := rfl
      rw [this, List.map_id]
    exact pm.trans (by rw [show (L.map ((fun x : Int × Value => x.2) ∘ rowQ knd key)) = L from e])
  have hvl : vs.length < 64 := by rw [pm'.length_eq]; exact hfew
  have hvz : vs.length ≤ sizeLine := by rw [sizeLine_eq]; omega
  refine wpAny_bind (wpAny_newList ?_ hvz)
  have hoL : (s1.heap.push (seqObj "list" vs.toArray 0)).get? s1.heap.objs.size = some (seqObj "list" vs.toArray 0) := Heap.get?_push_size _ rfl
  have X1 : Ext s.heap (sortingHeap (s1.heap.push (seqObj "list" vs.toArray 0)) s1.heap.objs.size vs) := fun b u e => sortingHeap_old (Nat.ne_of_lt (Heap.lt_size (k1 b u e))) (Heap.get?_push_of_some _ (k1 b u e))
  obtain ⟨κ', SA, fin⟩ := hs { s1 with heap := sortingHeap (s1.heap.push (seqObj "list" vs.toArray 0)) s1.heap.objs.size vs } vs X1 pm'
  refine wpAny_bind (wpAny_holding (wpAny_call_entry (s := { s1 with heap := s1.heap.push (seqObj "list" vs.toArray 0) }) slot_list_sort ⟨_, hoL, rfl⟩ entry_list_sort (list_sort_vals (s := { s1 with heap := s1.heap.push (seqObj "list" vs.toArray 0) }) hoL SA hvz ⟨_, rfl, ?_⟩) (args_list_sort _)))
  obtain ⟨c, hc⟩ := sortedHeap_at (vs := vs) (out := (sortVals κ' false vs vs).toArray) hoL
  refine wpAny_pure ⟨_, rfl, fin s1.heap.objs.size c _ (fun b u e => ?_) g1 o1 hz hc⟩
  have hlt := Heap.lt_size (k1 b u e)
  show (sortedHeap (s1.heap.push (seqObj "list" vs.toArray 0)) s1.heap.objs.size vs (sortVals κ' false vs vs).toArray).get? b = some u
  rw [sortedHeap_old (Nat.ne_of_lt hlt) (by rw [size_push']; exact Nat.lt_succ_of_lt hlt)]
  exact Heap.get?_push_of_some _ (k1 b u e)

/-- a kind of members, in the core's words -/
structure Kd {P : Program} {w : World} {κ : Type} [DecidableEq κ] (knd : PySem.KeyKind P w κ) (U : Value → Prop) (key : Value → κ) (enc : κ → D) : Prop where
  sc : Sc P w knd U key
  of_ : ∀ (K : PySem.W.Frag) (G : Hp) (v : V) (k : κ) (u : Value), RD K G v (enc k) → RelV v u → U u ∧ key u = k
  deq_ : ∀ a b, deq (enc a) (enc b) = decide (a = b)
  lt_ : ∀ a b, ltOk (enc a) (enc b) = true
  anti : ∀ a b, dle (enc a) (enc b) = true → dle (enc b) (enc a) = true → a = b
section
variable {P : Program} {w : World} {κ : Type} [DecidableEq κ] {knd : PySem.KeyKind P w κ} {U : Value → Prop} {key : Value → κ} {enc : κ → D}
theorem Kd.inj (Z0 : Kd knd U key enc) {a b : κ} (h : enc a = enc b) : a = b := by
  have h1 := Z0.deq_ a b
  have h2 := Z0.deq_ b b
  rw [h, h2] at h1
  simpa using h1.symm
theorem Kd.sortOk (Z0 : Kd knd U key enc) {ds : List D} (h : ∀ d ∈ ds, ∃ k, d = enc k) : AOne.sortOk ds = true := by
  simp only [AOne.sortOk, List.all_eq_true]
  intro a ha b hb
  obtain ⟨k, rfl⟩ := h a ha
  obtain ⟨k', rfl⟩ := h b hb
  exact Z0.lt_ k k'
def SetX (K : PySem.W.Frag) (G : Hp) (knd : PySem.KeyKind P w κ) (U : Value → Prop) (key : Value → κ) (enc : κ → D) (xs : List D) (a : Addr) (h : Heap) : Prop := ∃ (L : List Value) (es : Array (Int × Value)) (ep : Nat) (t : SetTable),
  SetQ knd U key h a L es ep t ∧ (∀ u ∈ L, VD K G u (enc (key u)) ∧ enc (key u) ∈ xs) ∧ ∀ d ∈ xs, ∃ u ∈ L, d = enc (key u)
theorem setX_ok {K : PySem.W.Frag} {G : Hp} {xs : List D} {a : Addr} {h : Heap} {H : Hp} (z : SetX K G knd U key enc xs a h) : ObjOk P w H h a (.ext (SetX K G knd U key enc xs a)) := by
  have z' := z
  obtain ⟨L, es, ep, t, R, r⟩ := z'
  obtain ⟨o, ho, q⟩ := R.ob
  refine ⟨z, ⟨o, ho⟩, fun h1 h2 p k => ?_⟩
  have p : SetX K G knd U key enc xs a h1 := p
  obtain ⟨L', es', ep', t', R', r'⟩ := p
  exact ⟨L', es', ep', t', R'.on fun o e => k o e, r'⟩
def okX (enc : κ → D) (xs : List D) : Prop := (∀ d ∈ xs, ∃ k, d = enc k) ∧ (dedupD xs).length < 64
def rSetX (K : PySem.W.Frag) (knd : PySem.KeyKind P w κ) (U : Value → Prop) (key : Value → κ) (enc : κ → D) : List V → Hp → VK → Prop := fun vs H Q => ∃ G da S d xs, RelS K G H da S ∧ RTs K G da vs [d] ∧ (look S d = .lst xs ∨ look S d = .tup xs) ∧ okX enc xs ∧ ∀ a, H a = none → Q (.ref a) (upd H a (.ext (SetX K G knd U key enc xs a)))
def rSortSetX (K : PySem.W.Frag) (knd : PySem.KeyKind P w κ) (U : Value → Prop) (key : Value → κ) (enc : κ → D) : List V → Hp → VK → Prop := fun vs H Q => ∃ a G xs, vs = [.ref a] ∧ H a = some (.ext (SetX K G knd U key enc xs a)) ∧ Same G H ∧ okX enc xs ∧ ∀ p ws, H p = none → RDs K G ws (sortD (dedupD xs)) → Q (.ref p) (upd H p (.lst ws))
end
section
variable {X : Cx} {κ : Type} [DecidableEq κ] {knd : PySem.KeyKind X.prog X.w κ} {U : Value → Prop} {key : Value → κ} {enc : κ → D}
theorem cr_setX (Z0 : Kd knd U key enc) (hc : X.calm = true) (hu : X.A.units + 200 < cLine) : CallR X (.type "set") (rSetX X.K knd U key enc) := by
  intro pins s σ H vs us Q I r h
  obtain ⟨G, da, S, d, xs, R, rt, hl, ok, q⟩ := h
  obtain ⟨x, rfl, hx⟩ := rt.one
  obtain ⟨hkey, h64⟩ := ok
  have hn : H s.heap.objs.size = none := I.hok.fresh (Nat.le_refl _)
  -- from the source's items
  have go : ∀ {l : Addr} {ws : List V} {its : List Value} {c : String} {it : Obj} {Is : Heap → Prop}, x = .ref l → Src X.prog X.w l its c it Is → Is s.heap → Vals ws its → RDs X.K G ws xs → wpAny (model X.prog X.w) X.A (call (.type "set") us) (EP X pins σ Q) X.xe s := by
    intro l ws its c it Is e Z hIs rv rd
    subst e
    rw [Vals.ref1 r]
    have each : ∀ {ws : List V} {its : List Value} {xs : List D}, Vals ws its → RDs X.K G ws xs → (∀ d ∈ xs, ∃ k, d = enc k) → (∀ u ∈ its, U u ∧ VD X.K G u (enc (key u)) ∧ enc (key u) ∈ xs) ∧ ∀ d ∈ xs, ∃ u ∈ its, d = enc (key u) := by
      intro ws its xs rv rd hk
      induction rv generalizing xs with
      | nil => cases rd; exact ⟨fun u hu => (by cases hu), fun d hd => (by cases hd)⟩
      | @cons v u ws its r rs ih =>
        cases rd with
        | @cons _ _ d ds h t =>
          obtain ⟨k, rfl⟩ := hk d List.mem_cons_self
          obtain ⟨z, ek⟩ := Z0.of_ X.K G _ k _ h r
          obtain ⟨i1, i2⟩ := ih t fun d hd => hk d (List.mem_cons_of_mem _ hd)
          refine ⟨fun u hu => ?_, fun d hd => ?_⟩
          · rcases List.mem_cons.mp hu with rfl | hu
            · rw [ek]; exact ⟨z, ⟨v, r, h⟩, List.mem_cons_self⟩
            · obtain ⟨j1, j2, j3⟩ := i1 u hu
              exact ⟨j1, j2, List.mem_cons_of_mem _ j3⟩
          · rcases List.mem_cons.mp hd with rfl | hd
            · exact ⟨u, List.mem_cons_self, by rw [ek]⟩
            · obtain ⟨u, hu, e⟩ := i2 d hd
              exact ⟨u, List.mem_cons_of_mem _ hu, e⟩
    obtain ⟨e1, e2⟩ := each rv rd hkey
    have hlen : ∀ L : List Value, (∀ v ∈ L, v ∈ its) → (L.map key).Nodup → L.length < 64 := fun L hL hnd => by
      classical
      have hd : (L.map fun u => enc (key u)).Nodup := by
        have e : (L.map fun u => enc (key u)) = (L.map key).map enc := by rw [List.map_map]; rfl
        rw [e]
        exact List.Pairwise.map _ (fun a b hab hh => hab (Z0.inj hh)) hnd
      have heq : ∀ a ∈ xs, ∀ b ∈ xs, deq a b = true → a = b := fun a ha b hb e => by
        obtain ⟨k, rfl⟩ := hkey a ha
        obtain ⟨k', rfl⟩ := hkey b hb
        rw [Z0.deq_] at e
        rw [of_decide_eq_true e]
      have hrf : ∀ a ∈ xs, deq a a = true := fun a ha => by
        obtain ⟨k, rfl⟩ := hkey a ha
        rw [Z0.deq_]
        exact decide_eq_true rfl
      have := nodup_le hd (m := dedupD xs) fun d hdm => by
        obtain ⟨u, hu, rfl⟩ := List.mem_map.mp hdm
        exact (mem_dedup heq hrf _).mpr (e1 u (hL u hu)).2.2
      rw [List.length_map] at this
      omega
    refine set_callQ Z hIs (I.ok.hd hc) Z0.sc (fun u hu => (e1 u hu).1) hlen fun h' tk L es ep t RR g Xe => ?_
    have hSK : SetX X.K G knd U key enc xs s.heap.objs.size h' := by
      refine ⟨L, es, ep, t, RR, fun u hu => ?_, fun d hd => ?_⟩
      · have := e1 u (List.mem_of_mem_take (g.sub u hu))
        exact ⟨this.2.1, this.2.2⟩
      · obtain ⟨u, hu, e⟩ := e2 d hd
        have hm := g.all u (by rw [List.take_length]; exact hu)
        obtain ⟨v, hv, ev⟩ := List.mem_map.mp hm
        exact ⟨v, hv, by rw [e, ev]⟩
    exact ⟨.ref s.heap.objs.size, _, I.laid (t' := tk) Xe (Nat.le_refl _) (setX_ok hSK), rfl, q _ hn⟩
  rcases hl with hl | hl
  · obtain ⟨l, ws, e, k1, k2⟩ := look_lst R hx hl
    obtain ⟨its, rv, pl, hz⟩ := I.list k1
    exact go e (src_list l its) pl.isList rv k2
  · obtain ⟨l, ws, e, k1, _, k2⟩ := look_tup R hx hl
    obtain ⟨its, rv, pt, hz⟩ := I.tuple k1
    exact go e (src_tup l its) pt rv k2
theorem cr_sortSetX (Z0 : Kd knd U key enc) (hc : X.calm = true) (hu : X.A.units + 200 < cLine) : CallR X (.builtin "sorted") (rSortSetX X.K knd U key enc) := by
  intro pins s σ H vs us Q I r h
  obtain ⟨a, G, xs, rfl, ha, hs, ok, q⟩ := h
  rw [Vals.ref1 r]
  obtain ⟨hkey, h64⟩ := ok
  have z : SetX X.K G knd U key enc xs a s.heap := (I.hok a _ ha).1
  obtain ⟨L, es, ep, t, R, m1, m2⟩ := z
  refine sorted_setQ R (I.ok.hd hc) fun s' vs X' pm => ?_
  have hvd : ∀ {vs : List Value}, (∀ u ∈ vs, u ∈ L) → EachIs (VD X.K G) vs (vs.map fun u => enc (key u)) ∧ EachIs (fun v (d : D) => ∃ as, Reads s'.heap v d.py as) vs (vs.map fun u => enc (key u)) := by
    intro vs
    induction vs with
    | nil => intro _; exact ⟨.nil, .nil⟩
    | cons u vs ih =>
      intro hu
      obtain ⟨i1, i2⟩ := ih fun v hv => hu v (List.mem_cons_of_mem _ hv)
      have v1 := (m1 u (hu u List.mem_cons_self)).1
      obtain ⟨x, rx, dx⟩ := v1
      obtain ⟨as, rr⟩ := Dp.reads I _ _ _ (dx.mono hs).dp rx
      exact ⟨.cons ⟨x, rx, dx⟩ i1, .cons ⟨as, PyProof.Rows.Reads.keeps (fun b o e => X' b o e) rr⟩ i2⟩
  obtain ⟨d1, d2⟩ := hvd fun u hu => pm.mem_iff.mp hu
  generalize hds : (vs.map fun u => enc (key u)) = ds at d1 d2
  have hdk : ∀ d ∈ ds, ∃ k, d = enc k := fun d hd => by
    rw [← hds] at hd
    obtain ⟨u, _, rfl⟩ := List.mem_map.mp hd
    exact ⟨_, rfl⟩
  have hso := Z0.sortOk hdk
  -- the members are the data, each once
  have hperm : ds.Perm (dedupD xs) := by
    have heq : ∀ a ∈ xs, ∀ b ∈ xs, deq a b = true → a = b := fun a ha b hb e => by
      obtain ⟨k, rfl⟩ := hkey a ha
      obtain ⟨k', rfl⟩ := hkey b hb
      rw [Z0.deq_] at e
      rw [of_decide_eq_true e]
    have hrf : ∀ a ∈ xs, deq a a = true := fun a ha => by
      obtain ⟨k, rfl⟩ := hkey a ha
      rw [Z0.deq_]
      exact decide_eq_true rfl
    have nd1 : ds.Nodup := by
      rw [← hds]
      have : (vs.map key).Nodup := (pm.map _).nodup_iff.mpr R.nd
      have e : (vs.map fun u => enc (key u)) = (vs.map key).map enc := by rw [List.map_map]; rfl
      rw [e]
      exact List.Pairwise.map _ (fun a b hab z => hab (Z0.inj z)) this
    refine (List.perm_ext_iff_of_nodup nd1 (nodup_dedup hrf heq)).mpr fun d => ?_
    rw [mem_dedup heq hrf, ← hds]
    constructor
    · intro hd
      obtain ⟨u, hu, rfl⟩ := List.mem_map.mp hd
      exact (m1 u (pm.mem_iff.mp hu)).2
    · intro hd
      obtain ⟨u, hu, rfl⟩ := m2 d hd
      exact List.mem_map.mpr ⟨u, pm.mem_iff.mpr hu, rfl⟩
  have hsort : sortD ds = sortD (dedupD xs) := sortD_eq (P := fun d => ∃ k, d = enc k) (fun a b ha hb h1 h2 => by
    obtain ⟨k, rfl⟩ := ha
    obtain ⟨k', rfl⟩ := hb
    rw [Z0.anti _ _ h1 h2]) hperm hdk
  refine ⟨dataKind s'.heap (ds.map D.py), sorts_data (each_of D.py d2) hso (by show X.A.units + 1 + 1 + 65 < cLine; omega), fun p c s2 X2 g2 o2 hp hg => ?_⟩
  have out := sortVals_data (R := VD X.K G) (enc := D.py) false d1 d2 (by
    intro d hd d' hd'
    obtain ⟨a, h1, rfl⟩ := List.mem_map.mp hd
    obtain ⟨b, h2, rfl⟩ := List.mem_map.mp hd'
    exact (ltOk_cases (sortOk_all hso a h1 b h2)).1)
  rw [dle_eq, ← sortD_merge] at out
  generalize sortVals (dataKind s'.heap (ds.map D.py)) false vs vs = o at out hg
  have out : EachIs (VD X.K G) o (sortD ds) := out
  rw [hsort] at out
  obtain ⟨ws, h1, h2⟩ := each_vd out
  have hn : H p = none := I.hok.fresh hp
  have hlen : ws.length ≤ sizeLine := by
    rw [h2.length, ← hsort, (sortD_perm ds).length_eq, hperm.length_eq]
    have := dedup_len xs
    rw [sizeLine_eq]
    omega
  have J : Inv X pins σ (upd H p (.lst ws)) { s with heap := s2.heap, gens := s2.gens, drawn := s2.drawn, toks := s2.toks } :=
    I.call (ch := []) (Un.laid X2 hp hn) (I.hok.laid X2 hp ⟨hlen, o, c, h1, by simpa [PyProof.Rows.seqObj] using hg⟩) (by rw [g2]; exact I.bare) (fun _ z => nomatch z)
  have e : s2 = { s with heap := s2.heap, gens := s2.gens, drawn := s2.drawn, toks := s2.toks } := by
    cases s2
    cases s
    cases o2
    rfl
  rw [e]
  exact ⟨.ref p, _, J, rfl, q p ws hn h2⟩
end
/-! texts -/
def UT (v : Value) : Prop := ∃ x t, v = .str x t
def keyT : Value → Str
  | .str x _ => x
  | _ => ""
theorem kd_str (P : Program) (w : World) : Kd (PySem.strKind P w) UT keyT D.str where
  sc := ⟨fun v h => by obtain ⟨x, t, rfl⟩ := h; exact Froz.is_str x t, fun v h => by obtain ⟨x, t, rfl⟩ := h; rfl⟩
  of_ := fun K G v k u h r => by
    cases h
    obtain ⟨t, rfl⟩ := r
    exact ⟨⟨k, t, rfl⟩, rfl⟩
  deq_ := fun a b => by
    show PyData.eqv (D.py (.str a)) (D.py (.str b)) = _
    simp only [D.py, PyData.eqv]
    by_cases h : a = b <;> simp [h]
  lt_ := fun a b => by
    have h1 : dalike (.str a) (.str b) = true := by
      show alike (D.py (.str a)) (D.py (.str b)) = true
      simp [D.py, alike]
    have h2 : ∀ x : Str, shallow (.str x) = true := fun x => by
      refine decide_eq_true ?_
      show PyData.depth (D.py (.str x)) ≤ 64
      simp [D.py, PyData.depth]
    unfold ltOk
    rw [h1, h2, h2]
    rfl
  anti := fun a b h1 h2 => dle_anti_str h1 h2
/-! ints -/
def UI (v : Value) : Prop := ∃ x t, v = .int x t
def keyI : Value → Int
  | .int x _ => x
  | _ => 0
theorem kd_int (P : Program) (w : World) : Kd (PySem.intKind P w) UI keyI D.int where
  sc := ⟨fun v h => by obtain ⟨x, t, rfl⟩ := h; exact intKind_is P w x t, fun v h => by obtain ⟨x, t, rfl⟩ := h; rfl⟩
  of_ := fun K G v k u h r => by
    cases h
    obtain ⟨t, rfl⟩ := r
    exact ⟨⟨k, t, rfl⟩, rfl⟩
  deq_ := fun a b => by
    show PyData.eqv (D.py (.int a)) (D.py (.int b)) = _
    simp only [D.py, PyData.eqv]
    by_cases h : a = b <;> simp [h]
  lt_ := fun a b => by
    have h1 : dalike (.int a) (.int b) = true := by
      show alike (D.py (.int a)) (D.py (.int b)) = true
      simp [D.py, alike]
    have h2 : ∀ x : Int, shallow (.int x) = true := fun x => by
      refine decide_eq_true ?_
      show PyData.depth (D.py (.int x)) ≤ 64
      simp [D.py, PyData.depth]
    unfold ltOk
    rw [h1, h2, h2]
    rfl
  anti := fun a b h1 h2 => by
    have e : ∀ a b : Int, dlt (.int a) (.int b) = decide (a < b) := fun a b => by
      show dataLt (D.py (.int a)) (D.py (.int b)) = _
      simp only [D.py]
      exact dataLt_int a b
    simp only [dle, e, Bool.not_eq_true', decide_eq_false_iff_not] at h1 h2
    omega
end AOne
end

section
set_option Elab.async false
set_option linter.all false
set_option maxRecDepth 100000
set_option maxHeartbeats 4000000
set_option autoImplicit false
/-! A28: sorting keeps its words. -/
namespace AOne
open PySem PySem.Spec PySem.W L2
theorem setAny_cases {xs : List D} (h : (setAny xs && decide ((dedupD xs).length < 64)) = true) : setOk xs = true ∨ okX D.str xs ∨ okX D.int xs := by
  unfold setAny at h
  simp only [Bool.and_eq_true, Bool.or_eq_true, decide_eq_true_eq] at h
  obtain ⟨(h1 | h1) | h1, h2⟩ := h
  · exact .inl (by unfold setOk; rw [h1.1, h1.2]; simpa using h2)
  · refine .inr (.inl ⟨fun d hd => ?_, h2⟩)
    have := List.all_eq_true.mp h1 d hd
    cases d <;> simp only [isStrD, Bool.false_eq_true] at this
    exact ⟨_, rfl⟩
  · refine .inr (.inr ⟨fun d hd => ?_, h2⟩)
    have := List.all_eq_true.mp h1 d hd
    cases d <;> simp only [isIntD, Bool.false_eq_true] at this
    exact ⟨_, rfl⟩
theorem srt_ok : Srt where
  lst := fun X _ _ hu => cr_sortedN hu
  set := by
    intro X C e t p p' q q' hc hg hu g1 g2 m1 m2 hp he
    have inner : PE X (.Call (.Name "set" p') [e] [] q') (tCB (rSet X.K X.prog X.w) (rdA X.K C (.cons t .nil))) :=
      pe_callTy (cr_set hc hu) g2 m2 (by decide +kernel) (PA.imp (pa_cons he (PA.imp pa_nil fun σ H Q z => ra_nil z) (star_one hp)) fun σ H Q z => ra_cons z) (by decide) (by decide) (star_one hp) rfl
    have outer := pe_callB (p := p) (pos := q) (cr_sortSet hc hu) g1 m1 (by decide +kernel) (pa_cons inner pa_nil rfl) (by decide) (by decide) rfl rfl
    have arg : PA X [e] (rdA X.K C (.cons t .nil)) := PA.imp (pa_cons he (PA.imp pa_nil fun σ H Q z => ra_nil z) (star_one hp)) fun σ H Q z => ra_cons z
    have innerS : PE X (.Call (.Name "set" p') [e] [] q') (tCB (rSetX X.K (PySem.strKind X.prog X.w) UT keyT D.str) (rdA X.K C (.cons t .nil))) :=
      pe_callTy (cr_setX (kd_str X.prog X.w) hc hu) g2 m2 (by decide +kernel) arg (by decide) (by decide) (star_one hp) rfl
    have outerS := pe_callB (p := p) (pos := q) (cr_sortSetX (kd_str X.prog X.w) hc hu) g1 m1 (by decide +kernel) (pa_cons innerS pa_nil rfl) (by decide) (by decide) rfl rfl
    have innerI : PE X (.Call (.Name "set" p') [e] [] q') (tCB (rSetX X.K (PySem.intKind X.prog X.w) UI keyI D.int) (rdA X.K C (.cons t .nil))) :=
      pe_callTy (cr_setX (kd_int X.prog X.w) hc hu) g2 m2 (by decide +kernel) arg (by decide) (by decide) (star_one hp) rfl
    have outerI := pe_callB (p := p) (pos := q) (cr_sortSetX (kd_int X.prog X.w) hc hu) g1 m1 (by decide +kernel) (pa_cons innerI pa_nil rfl) (by decide) (by decide) rfl rfl
    refine PE.imp (PE.or outer (PE.or outerS outerI)) fun σ H Q z => ?_
    obtain ⟨G, da, S, r, es, S', R, E, em, q⟩ := z
    simp only [sem] at em
    split at em
    · cases em
    · rename_i vs S1 ea
      obtain ⟨d0, ez, e2⟩ := Option.map_eq_some_iff.mp em
      have e3 : d0 = .lst es ∧ S1 = S' := by cases e2; exact ⟨rfl, rfl⟩
      obtain ⟨rfl, rfl⟩ := e3
      obtain ⟨d, rfl⟩ := pr_one (by simp [prD]) (fun _ _ _ => by simp [prD]) ez
      have hx : ∃ xs, (look S1 d = .lst xs ∨ look S1 d = .tup xs) ∧ (setOk xs = true ∨ okX D.str xs ∨ okX D.int xs) ∧ es = sortD (dedupD xs) := by
        simp only [prD] at ez
        split at ez
        · rename_i xs hl
          split at ez
          · rename_i hb
            cases ez
            exact ⟨xs, .inl hl, setAny_cases hb, rfl⟩
          · cases ez
        · rename_i xs hl
          split at ez
          · rename_i hb
            cases ez
            exact ⟨xs, .inr hl, setAny_cases hb, rfl⟩
          · cases ez
        · cases ez
      obtain ⟨xs, hl, hb, rfl⟩ := hx
      rcases hb with hb | hb | hb
      · left
        refine ra1 R E ea fun us H1 G1 da1 g R1 t1 => ⟨G1, da1, S1, d, xs, R1, t1, hl, hb, fun a ha => ?_⟩
        refine ⟨a, G1, xs, rfl, upd_same, (R1.lay ha).same, hb, fun p ws hp hr => ?_⟩
        have R2 := R1.lay (o := .ext (SetK X.K G1 X.prog X.w xs a)) ha
        have gg := (g.trans (Grow.lay ha)).trans (Grow.lay (o := .lst ws) hp)
        exact q p ws _ G1 da1 gg (R2.lay hp) ((g.trans (Grow.lay ha)).none hp) upd_same (R2.gnone hp) (R2.notIn hp) hr
      · right; left
        refine ra1 R E ea fun us H1 G1 da1 g R1 t1 => ⟨G1, da1, S1, d, xs, R1, t1, hl, hb, fun a ha => ?_⟩
        refine ⟨a, G1, xs, rfl, upd_same, (R1.lay ha).same, hb, fun p ws hp hr => ?_⟩
        have R2 := R1.lay (o := .ext (SetX X.K G1 (PySem.strKind X.prog X.w) UT keyT D.str xs a)) ha
        have gg := (g.trans (Grow.lay ha)).trans (Grow.lay (o := .lst ws) hp)
        exact q p ws _ G1 da1 gg (R2.lay hp) ((g.trans (Grow.lay ha)).none hp) upd_same (R2.gnone hp) (R2.notIn hp) hr
      · right; right
        refine ra1 R E ea fun us H1 G1 da1 g R1 t1 => ⟨G1, da1, S1, d, xs, R1, t1, hl, hb, fun a ha => ?_⟩
        refine ⟨a, G1, xs, rfl, upd_same, (R1.lay ha).same, hb, fun p ws hp hr => ?_⟩
        have R2 := R1.lay (o := .ext (SetX X.K G1 (PySem.intKind X.prog X.w) UI keyI D.int xs a)) ha
        have gg := (g.trans (Grow.lay ha)).trans (Grow.lay (o := .lst ws) hp)
        exact q p ws _ G1 da1 gg (R2.lay hp) ((g.trans (Grow.lay ha)).none hp) upd_same (R2.gnone hp) (R2.notIn hp) hr
end AOne
end

section
set_option Elab.async false
set_option linter.all false
set_option maxRecDepth 100000
set_option maxHeartbeats 2000000
set_option autoImplicit false
/-! B1: reckoning with the core language: no program in sight. -/
namespace AOne
open PySem

/-! calls -/
theorem call_of {T : List Df} {n f : Nat} {vs : List D} {S S1 : Sto} {t : Df} {d : D} (h1 : T[f]? = some t) (h2 : vs.length = t.k) (h3 : exe (callD T n) t.b (startE t.n vs) S = some (.rt d, S1)) : callD T (n + 1) f vs S = fixR S.length d S1 := by
  simp only [callD, h1, h2, if_true, h3]
theorem call_of0 {T : List Df} {n f : Nat} {vs : List D} {S S1 : Sto} {t : Df} {r : Ev} (h1 : T[f]? = some t) (h2 : vs.length = t.k) (h3 : exe (callD T n) t.b (startE t.n vs) S = some (.nx r, S1)) : callD T (n + 1) f vs S = fixR S.length .non S1 := by
  simp only [callD, h1, h2, if_true, h3]
theorem fix_data {n : Nat} {d : D} {S : Sto} (h : isRef d = false) : fixR n d S = some (d, S.take n) := by
  cases d <;> first | rfl | cases h
theorem fix_same {d : D} {S : Sto} (h : isRef d = false) : fixR S.length d S = some (d, S) := by
  rw [fix_data h, List.take_length]
/-- a def that leaves the store as it was -/
theorem call_pure {T : List Df} {n f : Nat} {vs : List D} {S : Sto} {t : Df} {d : D} (h1 : T[f]? = some t) (h2 : vs.length = t.k) (h3 : exe (callD T n) t.b (startE t.n vs) S = some (.rt d, S)) (h : isRef d = false) : callD T (n + 1) f vs S = some (d, S) := by
  rw [call_of h1 h2 h3, fix_same h]
/-! ### the meaning, step by step (for simp) -/
def bt {α : Type} (p : Option (D × Sto)) (k : Bool → Sto → Option α) : Option α := match p with
  | some (.bl b, S) => k b S
  | _ => none
def it1 {α : Type} (p : Option (D × Sto)) (k : Int → Sto → Option α) : Option α := match p with
  | some (.int i, S) => k i S
  | _ => none
def bd {α β : Type} (p : Option (α × Sto)) (k : α → Sto → Option β) : Option β := match p with
  | some (d, S) => k d S
  | _ => none
def sq (p : Option (Fl × Sto)) (k : Ev → Sto → Option (Fl × Sto)) : Option (Fl × Sto) := match p with
  | some (.nx r, S) => k r S
  | e => e
@[simp] theorem bt_bl {α : Type} {b : Bool} {S : Sto} {k : Bool → Sto → Option α} : bt (some (.bl b, S)) k = k b S := rfl
@[simp] theorem it1_int {α : Type} {i : Int} {S : Sto} {k : Int → Sto → Option α} : it1 (some (.int i, S)) k = k i S := rfl
@[simp] theorem bd_some {α β : Type} {d : α} {S : Sto} {k : α → Sto → Option β} : bd (some (d, S)) k = k d S := rfl
@[simp] theorem sq_nx {r : Ev} {S : Sto} {k : Ev → Sto → Option (Fl × Sto)} : sq (some (.nx r, S)) k = k r S := rfl
@[simp] theorem sq_rt {d : D} {S : Sto} {k : Ev → Sto → Option (Fl × Sto)} : sq (some (.rt d, S)) k = some (.rt d, S) := rfl
@[simp] theorem sq_bk {r : Ev} {S : Sto} {k : Ev → Sto → Option (Fl × Sto)} : sq (some (.bk r, S)) k = some (.bk r, S) := rfl
@[simp] theorem sq_ct {r : Ev} {S : Sto} {k : Ev → Sto → Option (Fl × Sto)} : sq (some (.ct r, S)) k = some (.ct r, S) := rfl
section
variable {C : Call} {r : Ev} {S : Sto}
def gv (r : Ev) (i : Nat) : Option D := match r[i]? with
  | some (some d) => some d
  | _ => none
@[simp] theorem ev_var {i : Nat} : sem C (.var i) r S = (gv r i).map fun d => (d, S) := by
  simp only [sem, gv]
  cases e : r[i]? with
  | none => rfl
  | some o => cases o <;> rfl
@[simp] theorem ev_cst {d : D} : sem C (.cst d) r S = some (d, S) := by simp only [sem]
@[simp] theorem ev_tup {a : Tm} : sem C (.tup a) r S = bd (semA C a r S) fun ds S1 => if ds.all (fun d => !isRef d) && sizeOk ds.length then some (.tup ds, S1) else none := by
  simp only [sem, bd]
  cases semA C a r S <;> rfl
@[simp] theorem ev_lst {a : Tm} : sem C (.lst a) r S = bd (semA C a r S) fun ds S1 => if ds.all (fun d => !isRef d) && sizeOk ds.length then some (.lst ds, S1) else none := by
  simp only [sem, bd]
  cases semA C a r S <;> rfl
@[simp] theorem ev_op {o : Op2} {a b : Tm} : sem C (.op o a b) r S = bd (sem C a r S) fun x S1 => bd (sem C b r S1) fun y S2 => (opD o (look S2 x) (look S2 y)).map fun d => (d, S2) := by
  simp only [sem, bd]
  cases sem C a r S with
  | none => rfl
  | some p => obtain ⟨x, S1⟩ := p; simp only; cases sem C b r S1 <;> rfl
@[simp] theorem ev_neg {a : Tm} : sem C (.neg a) r S = it1 (sem C a r S) fun i S1 => some (.int (-i), S1) := by
  simp only [sem, it1]
  all_goals
    cases sem C a r S with
    | none => rfl
    | some p => obtain ⟨x, S1⟩ := p; cases x <;> rfl
@[simp] theorem ev_cmp {c : Cp} {a b : Tm} : sem C (.cmp c a b) r S = bd (sem C a r S) fun x S1 => bd (sem C b r S1) fun y S2 => (cmpD S2 c x y).map fun d => (.bl d, S2) := by
  simp only [sem, bd]
  cases sem C a r S with
  | none => rfl
  | some p => obtain ⟨x, S1⟩ := p; simp only; cases sem C b r S1 <;> rfl
@[simp] theorem ev_chain {c e : Cp} {x y z : Tm} : sem C (.chain c e x y z) r S = bd (sem C x r S) fun x S1 => bd (sem C y r S1) fun y S2 => (cmpD S2 c x y).bind fun b => if b = true then bd (sem C z r S2) fun z S3 => (cmpD S3 e y z).map fun d => (.bl d, S3) else some (.bl false, S2) := by
  simp only [sem, bd]
  cases sem C x r S with
  | none => rfl
  | some p =>
    obtain ⟨x, S1⟩ := p
    simp only
    cases sem C y r S1 with
    | none => rfl
    | some q =>
      obtain ⟨y, S2⟩ := q
      simp only
      cases cmpD S2 c x y with
      | none => rfl
      | some b =>
        cases b with
        | false => rfl
        | true => simp only [Option.bind_some, if_true]; cases sem C z r S2 <;> rfl
@[simp] theorem ev_and {a b : Tm} : sem C (.andd a b) r S = bt (sem C a r S) fun c S1 => if c = true then sem C b r S1 else some (.bl false, S1) := by
  simp only [sem, bt]
  cases sem C a r S with
  | none => rfl
  | some p =>
    obtain ⟨x, S1⟩ := p
    cases x with
    | bl c => cases c <;> rfl
    | _ => rfl
@[simp] theorem ev_or {a b : Tm} : sem C (.orr a b) r S = bt (sem C a r S) fun c S1 => if c = true then some (.bl true, S1) else sem C b r S1 := by
  simp only [sem, bt]
  cases sem C a r S with
  | none => rfl
  | some p =>
    obtain ⟨x, S1⟩ := p
    cases x with
    | bl c => cases c <;> rfl
    | _ => rfl
@[simp] theorem ev_not {a : Tm} : sem C (.nott a) r S = bt (sem C a r S) fun c S1 => some (.bl (!c), S1) := by
  simp only [sem, bt]
  all_goals
    cases sem C a r S with
    | none => rfl
    | some p => obtain ⟨x, S1⟩ := p; cases x <;> rfl
@[simp] theorem ev_ite {c a b : Tm} : sem C (.ite c a b) r S = bt (sem C c r S) fun c S1 => if c = true then sem C a r S1 else sem C b r S1 := by
  simp only [sem, bt]
  cases sem C c r S with
  | none => rfl
  | some p =>
    obtain ⟨x, S1⟩ := p
    cases x with
    | bl c => cases c <;> rfl
    | _ => rfl
@[simp] theorem ev_ix {a i : Tm} : sem C (.ix a i) r S = bd (sem C a r S) fun x S1 => bd (sem C i r S1) fun y S2 => (ixD S2 x y).map fun d => (d, S2) := by
  simp only [sem, bd]
  cases sem C a r S with
  | none => rfl
  | some p => obtain ⟨x, S1⟩ := p; simp only; cases sem C i r S1 <;> rfl
@[simp] theorem ev_slc {a lo hi : Tm} : sem C (.slc a lo hi) r S = bd (sem C a r S) fun x S1 => bd (semO C lo r S1) fun l S2 => bd (semO C hi r S2) fun h S3 => (slcD S3 x l h).map fun d => (d, S3) := by
  simp only [sem, bd]
  cases sem C a r S with
  | none => rfl
  | some p =>
    obtain ⟨x, S1⟩ := p
    simp only
    cases semO C lo r S1 with
    | none => rfl
    | some q => obtain ⟨l, S2⟩ := q; simp only; cases semO C hi r S2 <;> rfl
@[simp] theorem ev_pr {p : Pr} {a : Tm} : sem C (.pr p a) r S = bd (semA C a r S) fun vs S1 => (prD p S1 vs).map fun d => (d, S1) := by
  simp only [sem, bd]
  cases semA C a r S <;> rfl
@[simp] theorem ev_call {f : Nat} {perm : List Nat} {dfl : List D} {a b : Tm} : sem C (.call f perm dfl a b) r S = bd (semA C a r S) fun vs S1 => bd (semA C b r S1) fun ws S2 => (pick perm (vs ++ ws ++ dfl)).bind fun zs => C f zs S2 := by
  simp only [sem, bd]
  cases semA C a r S with
  | none => rfl
  | some p =>
    obtain ⟨x, S1⟩ := p
    simp only
    cases semA C b r S1 with
    | none => rfl
    | some q => obtain ⟨ws, S2⟩ := q; simp only; cases pick perm (x ++ ws ++ dfl) <;> rfl
@[simp] theorem ev_lc {own : List Nat} {g : Tg} {it c e : Tm} : sem C (.lc own g it c e) r S = bd (semI C it r S) fun xs S1 => (mapL (lcF C own g c e r) xs S1).map fun p => (.lst p.1, p.2) := by
  simp only [sem, bd]
  cases semI C it r S <;> rfl
@[simp] theorem ev_lcc {own vs : List Nat} {g g' : Tg} {it c it' c' e : Tm} : sem C (.lcc own vs g it c g' it' c' e) r S = bd (semI C it r S) fun xs S1 => bd (flatL (lccF C own vs g c g' it' c' e r) xs S1) fun ds S2 => if sizeOk ds.length then some (.lst ds, S2) else none := by
  simp only [sem, bd]
  cases semI C it r S with
  | none => rfl
  | some p =>
    obtain ⟨xs, S1⟩ := p
    have key : ∀ z : Option (List D × Sto), (match z with
      | some (ds, S2) => if sizeOk ds.length then some (D.lst ds, S2) else none
      | none => none) = bd z (fun ds S2 => if sizeOk ds.length then some (D.lst ds, S2) else none) := fun z => by cases z <;> rfl
    exact key _
@[simp] theorem ev_dct {ks : List Str} {a : Tm} : sem C (.dct ks a) r S = bd (semA C a r S) fun ds S1 => if ds.all (fun d => !isRef d) && decide (ds.length = ks.length) then some (.ref S1.length, S1 ++ [.dct (ks.zip ds)]) else none := by
  simp only [sem, bd]
  cases semA C a r S <;> rfl
def lst1 {α : Type} (p : Option (D × Sto)) (k : List D → Sto → Option α) : Option α := match p with
  | some (.lst xs, S) => k xs S
  | _ => none
@[simp] theorem lst1_lst {α : Type} {xs : List D} {S : Sto} {k : List D → Sto → Option α} : lst1 (some (.lst xs, S)) k = k xs S := rfl
@[simp] theorem ev_fresh {a : Tm} : sem C (.fresh a) r S = lst1 (sem C a r S) fun xs S1 => some (.ref S1.length, S1 ++ [.lst xs]) := by
  simp only [sem, lst1]
  all_goals
    cases sem C a r S with
    | none => rfl
    | some p => obtain ⟨x, S1⟩ := p; cases x <;> rfl
def killAt (S : Sto) (n : Nat) : Option (D × Sto) := match S[n]? with
  | some (.lst xs) => some (.lst xs, S.set n (.fro xs))
  | _ => none
@[simp] theorem ev_nil : semA C .nil r S = some ([], S) := by simp only [semA]
@[simp] theorem ev_cons {a b : Tm} : semA C (.cons a b) r S = bd (sem C a r S) fun x S1 => bd (semA C b r S1) fun xs S2 => some (x :: xs, S2) := by
  simp only [semA, bd]
  cases sem C a r S with
  | none => rfl
  | some p => obtain ⟨x, S1⟩ := p; simp only; cases semA C b r S1 <;> rfl
@[simp] theorem ev_star {a b : Tm} : semA C (.star a b) r S = bd (sem C a r S) fun x S1 => (seqD (look S1 x)).bind fun ys => bd (semA C b r S1) fun xs S2 => some (ys ++ xs, S2) := by
  simp only [semA, bd]
  all_goals
    cases sem C a r S with
    | none => rfl
    | some p =>
      obtain ⟨x, S1⟩ := p
      simp only
      cases seqD (look S1 x) with
      | none => rfl
      | some ys => simp only [Option.bind_some]; cases semA C b r S1 <;> rfl
@[simp] theorem ev_nop : semO C .nop r S = some (none, S) := by simp only [semO]
@[simp] theorem ev_opt {a b : Tm} : semO C (.cons a b) r S = it1 (sem C a r S) fun i S1 => some (some i, S1) := by
  simp only [semO, it1]
  all_goals
    cases sem C a r S with
    | none => rfl
    | some p => obtain ⟨x, S1⟩ := p; cases x <;> rfl
@[simp] theorem ev_ival {a : Tm} : semI C (.ival a) r S = bd (sem C a r S) fun x S1 => (itemsD S1 x).map fun xs => (xs, S1) := by
  simp only [semI, bd]
  cases sem C a r S <;> rfl
@[simp] theorem ev_irange {a : Tm} : semI C (.irange a) r S = bd (semA C a r S) fun vs S1 => (rngD vs).map fun xs => (xs, S1) := by
  simp only [semI, bd]
  cases semA C a r S <;> rfl
def zp (x y : D) : Option (List D) := match x, y with
  | .lst xs, .lst ys => some (zipD xs ys)
  | .tup xs, .tup ys => some (zipD xs ys)
  | _, _ => none
@[simp] theorem ev_izip {a b : Tm} : semI C (.izip a b) r S = bd (sem C a r S) fun x S1 => bd (sem C b r S1) fun y S2 => (zp x y).map fun xs => (xs, S2) := by
  simp only [semI, bd, zp]
  cases sem C a r S with
  | none => rfl
  | some p =>
    obtain ⟨x, S1⟩ := p
    simp only
    cases sem C b r S1 with
    | none => rfl
    | some q => obtain ⟨y, S2⟩ := q; cases x <;> cases y <;> rfl
@[simp] theorem ev_ienum {a : Tm} : semI C (.ienum a) r S = bd (sem C a r S) fun x S1 => (seqD x).map fun xs => (enumD 0 xs, S1) := by
  simp only [semI, bd]
  cases sem C a r S <;> rfl
/-! statements -/
@[simp] theorem ex_skip : exe C .skip r S = some (.nx r, S) := by simp only [exe]
@[simp] theorem ex_seq {a b : Sm} : exe C (.seq a b) r S = sq (exe C a r S) fun r1 S1 => exe C b r1 S1 := by
  simp only [exe, sq]
  all_goals
    cases exe C a r S with
    | none => rfl
    | some p => obtain ⟨f, S1⟩ := p; cases f <;> rfl
@[simp] theorem ex_asg {g : Tg} {e : Tm} : exe C (.asg g e) r S = bd (sem C e r S) fun d S1 => (setG g d r).map fun r1 => (.nx r1, S1) := by
  simp only [exe, bd]
  cases sem C e r S with
  | none => rfl
  | some p => obtain ⟨d, S1⟩ := p; simp only; cases setG g d r <;> rfl
@[simp] theorem ex_par {is : List Nat} {a : Tm} : exe C (.par is a) r S = bd (semA C a r S) fun ds S1 => if is.length = ds.length && is.all (fun i => decide (i < r.length)) then some (.nx (setAll is ds r), S1) else none := by
  simp only [exe, bd]
  cases semA C a r S <;> rfl
@[simp] theorem ex_drop {e : Tm} : exe C (.drop e) r S = bd (sem C e r S) fun _ S1 => some (.nx r, S1) := by
  simp only [exe, bd]
  cases sem C e r S <;> rfl
@[simp] theorem ex_ret {e : Tm} : exe C (.ret e) r S = bd (sem C e r S) fun d S1 => some (.rt d, S1) := by
  simp only [exe, bd]
  cases sem C e r S <;> rfl
@[simp] theorem ex_retn : exe C .retn r S = some (.rt .non, S) := by simp only [exe]
@[simp] theorem ex_ite {c : Tm} {a b : Sm} : exe C (.ite c a b) r S = bt (sem C c r S) fun c S1 => if c = true then exe C a r S1 else exe C b r S1 := by
  simp only [exe, bt]
  cases sem C c r S with
  | none => rfl
  | some p =>
    obtain ⟨x, S1⟩ := p
    cases x with
    | bl c => cases c <;> rfl
    | _ => rfl
/-- a turn of a loop -/
def trn (C : Call) (g : Tg) (b : Sm) : D → Ev → Sto → Option (Fl × Sto) := fun x r S => (setG g x r).bind fun r1 => exe C b r1 S
@[simp] theorem ex_for {g : Tg} {it : Tm} {b : Sm} : exe C (.forr g it b) r S = bd (semI C it r S) fun xs S1 => loopL (trn C g b) xs r S1 := by
  simp only [exe, bd]
  cases semI C it r S with
  | none => rfl
  | some p =>
    obtain ⟨xs, S1⟩ := p
    simp only
    congr 1
    funext x r S
    simp only [trn]
    cases setG g x r <;> rfl
def ref1 {α : Type} (p : Option (D × Sto)) (k : Nat → Sto → Option α) : Option α := match p with
  | some (.ref n, S) => k n S
  | _ => none
@[simp] theorem ref1_ref {α : Type} {n : Nat} {S : Sto} {k : Nat → Sto → Option α} : ref1 (some (.ref n, S)) k = k n S := rfl
def str1 {α : Type} (p : Option (D × Sto)) (k : Str → Sto → Option α) : Option α := match p with
  | some (.str x, S) => k x S
  | _ => none
@[simp] theorem str1_str {α : Type} {x : Str} {S : Sto} {k : Str → Sto → Option α} : str1 (some (.str x, S)) k = k x S := rfl
def putAt (S : Sto) (n : Nat) (x : Str) (d : D) : Option Sto := match S[n]? with
  | some (.dct kvs) => if isRef d || !decide (kvs.length < 1000000) then none else some (S.set n (.dct (putK kvs x d)))
  | _ => none
@[simp] theorem ex_setk {o k e : Tm} : exe C (.setk o k e) r S = bd (sem C e r S) fun d S1 => ref1 (sem C o r S1) fun n S2 => str1 (sem C k r S2) fun x S3 => (putAt S3 n x d).map fun S4 => (.nx r, S4) := by
  simp only [exe, bd, ref1, str1, putAt]
  cases sem C e r S with
  | none => rfl
  | some p =>
    obtain ⟨d, S1⟩ := p
    simp only
    cases sem C o r S1 with
    | none => rfl
    | some q =>
      obtain ⟨x, S2⟩ := q
      cases x with
      | ref n =>
        simp only
        cases sem C k r S2 with
        | none => rfl
        | some z =>
          obtain ⟨y, S3⟩ := z
          cases y with
          | str x =>
            simp only
            cases S3[n]? with
            | none => rfl
            | some c =>
              cases c with
              | lst _ => rfl
              | fro _ => rfl
              | dtt _ => rfl
              | tab _ => rfl
              | xdc _ => rfl
              | dct kvs => simp only; split <;> rfl
          | _ => rfl
      | _ => rfl
def appAt (S : Sto) (n : Nat) (d : D) : Option Sto := match S[n]? with
  | some (.lst xs) => if isRef d || !decide (xs.length < 1000000) then none else some (S.set n (.lst (xs ++ [d])))
  | _ => none
@[simp] theorem ex_app {o e : Tm} : exe C (.app o e) r S = ref1 (sem C o r S) fun n S1 => if !isLst S1 n then none else bd (sem C e r S1) fun d S2 => (appAt S2 n d).map fun S3 => (.nx r, S3) := by
  simp only [exe, bd, ref1, appAt]
  cases sem C o r S with
  | none => rfl
  | some q =>
    obtain ⟨x, S1⟩ := q
    cases x with
    | ref n =>
      simp only
      split
      · rfl
      · cases sem C e r S1 with
        | none => rfl
        | some p =>
          obtain ⟨d, S2⟩ := p
          simp only
          cases S2[n]? with
          | none => rfl
          | some c =>
            cases c with
            | dct _ => rfl
            | fro _ => rfl
            | dtt _ => rfl
            | tab _ => rfl
            | xdc _ => rfl
            | lst xs => simp only; split <;> rfl
    | _ => rfl
def extAt (S : Sto) (n : Nat) (ys : List D) : Option Sto := match S[n]? with
  | some (.lst xs) => if xs.length + ys.length < 1000000 then some (S.set n (.lst (xs ++ ys))) else none
  | _ => none
@[simp] theorem ex_ext {o e : Tm} : exe C (.ext o e) r S = ref1 (sem C o r S) fun n S1 => if !isLst S1 n then none else lst1 (sem C e r S1) fun ys S2 => (extAt S2 n ys).map fun S3 => (.nx r, S3) := by
  simp only [exe, lst1, ref1, extAt]
  cases sem C o r S with
  | none => rfl
  | some q =>
    obtain ⟨x, S1⟩ := q
    cases x with
    | ref n =>
      simp only
      split
      · rfl
      · cases sem C e r S1 with
        | none => rfl
        | some p =>
          obtain ⟨d, S2⟩ := p
          cases d with
          | lst ys =>
            simp only
            cases S2[n]? with
            | none => rfl
            | some c =>
              cases c with
              | dct _ => rfl
              | fro _ => rfl
              | dtt _ => rfl
              | tab _ => rfl
              | xdc _ => rfl
              | lst xs => simp only; split <;> rfl
          | _ => rfl
    | _ => rfl
theorem ex_whl {n : Nat} {c : Tm} {b : Sm} : exe C (.whl n c b) r S = whileN (fun r S => sem C c r S) (fun r S => exe C b r S) n r S := by simp only [exe]
@[simp] theorem ev_frz {a : Tm} : sem C (.frz a) r S = ref1 (sem C a r S) fun n S1 => killAt S1 n := by
  rw [sem]
  simp only [ref1, killAt]
  all_goals
    cases sem C a r S with
    | none => rfl
    | some p => obtain ⟨x, S1⟩ := p; cases x <;> rfl
@[simp] theorem ev_dnt : sem C .dnt r S = some (.ref S.length, S ++ [.dtt []]) := by rw [sem]
def getAt (S : Sto) (n : Nat) (ds : List D) : Option (D × Sto) := if ds.all keyD1 && AOne.sizeOk ds.length then match S[n]? with
  | some (.dtt kvs) => (getT kvs ds).map fun d => (d, S)
  | _ => none
  else none
@[simp] theorem ev_ixt {a b : Tm} : sem C (.ixt a b) r S = ref1 (sem C a r S) fun n S1 => bd (semA C b r S1) fun ds S2 => getAt S2 n ds := by
  rw [sem]
  simp only [ref1, getAt, bd]
  all_goals
    cases sem C a r S with
    | none => rfl
    | some p =>
      obtain ⟨x, S1⟩ := p
      cases x with
      | ref n => simp only; cases semA C b r S1 <;> rfl
      | _ => rfl
def putAtT (S : Sto) (n : Nat) (ds : List D) (d : D) : Option Sto := if ds.all keyD1 && AOne.sizeOk ds.length then match S[n]? with
  | some (.dtt kvs) => if isRef d || !decide (kvs.length < 1000000) then none else some (S.set n (.dtt (putT kvs ds d)))
  | _ => none
  else none
@[simp] theorem ex_setkt {o b e : Tm} : exe C (.setkt o b e) r S = bd (sem C e r S) fun d S1 => ref1 (sem C o r S1) fun n S2 => bd (semA C b r S2) fun ds S3 => (putAtT S3 n ds d).map fun S4 => (.nx r, S4) := by
  simp only [exe, bd, ref1, putAtT]
  cases sem C e r S with
  | none => rfl
  | some p =>
    obtain ⟨d, S1⟩ := p
    simp only
    cases sem C o r S1 with
    | none => rfl
    | some q =>
      obtain ⟨x, S2⟩ := q
      cases x with
      | ref n =>
        simp only
        cases semA C b r S2 with
        | none => rfl
        | some z =>
          obtain ⟨ds, S3⟩ := z
          simp only
          split
          · cases S3[n]? with
            | none => rfl
            | some c =>
              cases c with
              | dtt kvs => simp only; split <;> rfl
              | _ => rfl
          · rfl
      | _ => rfl
end
@[simp] theorem lc_eq {C : Call} {own : List Nat} {g : Tg} {c e : Tm} {r : Ev} {x : D} {S : Sto} : lcF C own g c e r x S = (setG g x (wipeE r own)).bind fun r1 => bt (sem C c r1 S) fun b S2 => if b = true then bd (sem C e r1 S2) fun d S3 => if isRef d then none else some (some d, S3) else some (none, S2) := by
  unfold lcF
  cases setG g x (wipeE r own) with
  | none => rfl
  | some r1 =>
    simp only [Option.bind_some, bt, bd]
    cases sem C c r1 S with
    | none => rfl
    | some p =>
      obtain ⟨y, S2⟩ := p
      cases y with
      | bl b =>
        cases b with
        | false => rfl
        | true => simp only [if_true]; cases sem C e r1 S2 <;> rfl
      | _ => rfl
@[simp] theorem lcc_eq {C : Call} {own vs : List Nat} {g g' : Tg} {c it' c' e : Tm} {r : Ev} {x : D} {S : Sto} : lccF C own vs g c g' it' c' e r x S = (setG g x (wipeE r own)).bind fun r1 => bt (sem C c r1 S) fun b S2 => if b = true then bd (semI C it' r1 S2) fun ys S3 => mapL (lcF C vs g' c' e r1) ys S3 else some ([], S2) := by
  unfold lccF
  cases setG g x (wipeE r own) with
  | none => rfl
  | some r1 =>
    simp only [Option.bind_some, bt, bd]
    cases sem C c r1 S with
    | none => rfl
    | some p =>
      obtain ⟨y, S2⟩ := p
      cases y with
      | bl b =>
        cases b with
        | false => rfl
        | true => simp only [if_true]; cases semI C it' r1 S2 <;> rfl
      | _ => rfl
/-! comprehensions -/
theorem mapL_map {f : D → Sto → Option (Option D × Sto)} {S : Sto} (h : D → D) : ∀ {xs : List D}, (∀ x ∈ xs, f x S = some (some (h x), S)) → mapL f xs S = some (xs.map h, S)
  | [], _ => rfl
  | x :: xs, hx => by
    rw [mapL, hx x List.mem_cons_self]
    simp only [mapL_map h fun y hy => hx y (List.mem_cons_of_mem _ hy)]
    rfl
theorem mapL_filter {f : D → Sto → Option (Option D × Sto)} {S : Sto} (p : D → Bool) (h : D → D) : ∀ {xs : List D}, (∀ x ∈ xs, f x S = some (if p x = true then some (h x) else none, S)) → mapL f xs S = some ((xs.filter p).map h, S)
  | [], _ => rfl
  | x :: xs, hx => by
    rw [mapL, hx x List.mem_cons_self]
    simp only [mapL_filter p h fun y hy => hx y (List.mem_cons_of_mem _ hy)]
    cases e : p x <;> simp [e]
theorem sem_lc {C : Call} {own : List Nat} {g : Tg} {it c e : Tm} {r : Ev} {S S1 S2 : Sto} {xs ds : List D} (h1 : semI C it r S = some (xs, S1)) (h2 : mapL (lcF C own g c e r) xs S1 = some (ds, S2)) : sem C (.lc own g it c e) r S = some (.lst ds, S2) := by
  simp only [sem, h1]
  exact congrArg (Option.map fun p : List D × Sto => (D.lst p.1, p.2)) h2
/-- a turn of a comprehension without a test -/
theorem lcF_val {C : Call} {own : List Nat} {g : Tg} {e : Tm} {r r1 : Ev} {x d : D} {S S' : Sto} (h1 : setG g x (wipeE r own) = some r1) (h2 : sem C e r1 S = some (d, S')) (h3 : isRef d = false) : lcF C own g (.cst (.bl true)) e r x S = some (some d, S') := by
  simp only [lcF, h1, sem, h2, h3]
  rfl
theorem lcF_test {C : Call} {own : List Nat} {g : Tg} {c e : Tm} {r r1 : Ev} {x d : D} {S : Sto} {b : Bool} (h1 : setG g x (wipeE r own) = some r1) (h0 : sem C c r1 S = some (.bl b, S)) (h2 : sem C e r1 S = some (d, S)) (h3 : isRef d = false) : lcF C own g c e r x S = some (if b = true then some d else none, S) := by
  cases b <;> simp [lcF, h1, h0, h2, h3]
/-! data -/
theorem deq_str (x y : Str) : deq (.str x) (.str y) = decide (x = y) := by
  show PyData.eqv (D.py (.str x)) (D.py (.str y)) = _
  simp only [D.py, PyData.eqv]
  by_cases h : x = y <;> simp [h]
theorem shallow_str (x : Str) : shallow (.str x) = true := by
  refine decide_eq_true ?_
  show PyData.depth (D.py (.str x)) ≤ 64
  simp [D.py, PyData.depth]
theorem shallow_int (i : Int) : shallow (.int i) = true := by
  refine decide_eq_true ?_
  show PyData.depth (D.py (.int i)) ≤ 64
  simp [D.py, PyData.depth]
theorem shallow_lstS (xs : List Str) : shallow (.lst (sts xs)) = true := by
  refine decide_eq_true ?_
  show PyData.depth (D.py (.lst (sts xs))) ≤ 64
  simp only [D.py, PyData.depth, depth_sts]
  omega
theorem any_sts (x : Str) : ∀ ys : List Str, ((sts ys).any fun z => deq z (.str x)) = decide (x ∈ ys)
  | [] => rfl
  | y :: ys => by
    show (deq (.str y) (.str x) || (sts ys).any fun z => deq z (.str x)) = _
    rw [deq_str, any_sts x ys]
    by_cases h : x = y
    · subst h; simp
    · have : ¬ y = x := fun z => h z.symm
      simp [h, this]
theorem in_tupS (x : Str) (ys : List Str) : inD (.str x) (tupS ys) = some (decide (x ∈ ys)) := by
  unfold tupS
  simp only [inD]
  have h := shallow_tupS ys
  unfold tupS at h
  rw [shallow_str, h, any_sts]
  rfl
theorem in_lstS (x : Str) (ys : List Str) : inD (.str x) (.lst (sts ys)) = some (decide (x ∈ ys)) := by
  simp only [inD]
  rw [shallow_str, shallow_lstS, any_sts]
  rfl
/-- a list of texts, as a list or a tuple -/
def isNames (d : D) (ys : List Str) : Prop := d = tupS ys ∨ d = .lst (sts ys)
theorem look_names {S : Sto} {d : D} {ys : List Str} (h : isNames d ys) : look S d = d ∧ isRef d = false := by
  rcases h with rfl | rfl <;> exact ⟨rfl, rfl⟩
theorem cmp_in {S : Sto} {x : Str} {d : D} {ys : List Str} (h : isNames d ys) : cmpD S .inn (.str x) d = some (decide (x ∈ ys)) := by
  simp only [cmpD, (look_names h).1]
  rcases h with rfl | rfl
  · simp [isRef, in_tupS]
  · simp [isRef, in_lstS]
theorem cmp_nin {S : Sto} {x : Str} {d : D} {ys : List Str} (h : isNames d ys) : cmpD S .nin (.str x) d = some (!decide (x ∈ ys)) := by
  simp only [cmpD, (look_names h).1]
  rcases h with rfl | rfl
  · simp [isRef, in_tupS]
  · simp [isRef, in_lstS]
theorem bools_map {α : Type} (f : α → Bool) : ∀ l : List α, boolsD (l.map fun x => D.bl (f x)) = some (l.map f)
  | [] => rfl
  | x :: l => by simp [boolsD, bools_map f l]
theorem pr_all {α : Type} {S : Sto} (f : α → Bool) (l : List α) : prD .all S [.lst (l.map fun x => D.bl (f x))] = some (.bl (l.all f)) := by
  simp [prD, look, bools_map]
theorem pr_any {α : Type} {S : Sto} (f : α → Bool) (l : List α) : prD .any S [.lst (l.map fun x => D.bl (f x))] = some (.bl (l.any f)) := by
  simp [prD, look, bools_map]
end AOne
end

section
set_option Elab.async false
set_option linter.all false
set_option maxRecDepth 100000
set_option maxHeartbeats 2000000
set_option autoImplicit false
/-! B2: more reckoning: walks, orders, slices. -/
namespace AOne
open PySem PySem.W

theorem mapL_rep {α : Type} {f : D → Sto → Option (Option D × Sto)} {S : Sto} (rep h : α → D) : ∀ {xs : List α}, (∀ x ∈ xs, f (rep x) S = some (some (h x), S)) → mapL f (xs.map rep) S = some (xs.map h, S)
  | [], _ => rfl
  | x :: xs, hx => by
    rw [List.map_cons, mapL, hx x List.mem_cons_self]
    simp only [mapL_rep rep h fun y hy => hx y (List.mem_cons_of_mem _ hy)]
    rfl
theorem mapL_repf {α : Type} {f : D → Sto → Option (Option D × Sto)} {S : Sto} (rep h : α → D) (p : α → Bool) : ∀ {xs : List α}, (∀ x ∈ xs, f (rep x) S = some (if p x = true then some (h x) else none, S)) → mapL f (xs.map rep) S = some ((xs.filter p).map h, S)
  | [], _ => rfl
  | x :: xs, hx => by
    rw [List.map_cons, mapL, hx x List.mem_cons_self]
    simp only [mapL_repf rep h p fun y hy => hx y (List.mem_cons_of_mem _ hy)]
    cases e : p x <;> simp [e]
theorem flatL_rep {α : Type} {f : D → Sto → Option (List D × Sto)} {S : Sto} (rep : α → D) (h : α → List D) : ∀ {xs : List α}, (∀ x ∈ xs, f (rep x) S = some (h x, S)) → flatL f (xs.map rep) S = some (xs.flatMap h, S)
  | [], _ => rfl
  | x :: xs, hx => by
    rw [List.map_cons, flatL, hx x List.mem_cons_self]
    simp only [flatL_rep rep h fun y hy => hx y (List.mem_cons_of_mem _ hy)]
    rfl
/-- a loop by an invariant -/
theorem loop_inv {f : D → Ev → Sto → Option (Fl × Sto)} (P : Nat → Ev → Sto → Prop) : ∀ (xs : List D) (i : Nat) (r : Ev) (S : Sto), P i r S → (∀ j x r S, xs[j]? = some x → P (i + j) r S → ∃ r' S', f x r S = some (.nx r', S') ∧ P (i + j + 1) r' S') → ∃ r' S', loopL f xs r S = some (.nx r', S') ∧ P (i + xs.length) r' S'
  | [], i, r, S, h, _ => ⟨r, S, rfl, h⟩
  | x :: xs, i, r, S, h, hs => by
    obtain ⟨r1, S1, e1, h1⟩ := hs 0 x r S rfl h
    obtain ⟨r2, S2, e2, h2⟩ := loop_inv P xs (i + 1) r1 S1 h1 fun j y r S hy hp => by
      have := hs (j + 1) y r S (by simpa using hy) (by rw [show i + (j + 1) = i + 1 + j by omega]; exact hp)
      rw [show i + (j + 1) + 1 = i + 1 + j + 1 by omega] at this
      exact this
    refine ⟨r2, S2, ?_, by rw [List.length_cons, show i + (xs.length + 1) = i + 1 + xs.length by omega]; exact h2⟩
    rw [loopL, e1]
    exact e2
theorem for_inv {C : Call} {g : Tg} {it : Tm} {b : Sm} {r : Ev} {S S1 : Sto} {xs : List D} (hi : semI C it r S = some (xs, S1)) (Q : Nat → Ev → Sto → Prop) (h0 : Q 0 r S1) (hs : ∀ (j : Nat) (x : D) (r : Ev) (S : Sto), xs[j]? = some x → Q j r S → ∃ r' S', trn C g b x r S = some (.nx r', S') ∧ Q (j + 1) r' S') : ∃ r' S', exe C (.forr g it b) r S = some (.nx r', S') ∧ Q xs.length r' S' := by
  rw [ex_for, hi, bd_some]
  have := loop_inv (f := trn C g b) Q xs 0 r S1 h0 fun j x r S hx hq => by
    have := hs j x r S hx (by rw [Nat.zero_add] at hq; exact hq)
    rw [Nat.zero_add]
    exact this
  rw [Nat.zero_add] at this
  exact this
theorem for_keep {C : Call} {g : Tg} {it : Tm} {b : Sm} {r : Ev} {S : Sto} {xs : List D} (hi : semI C it r S = some (xs, S)) (Q : Ev → Prop) (h0 : Q r) (hs : ∀ (j : Nat) (x : D) (r : Ev), xs[j]? = some x → Q r → ∃ r', trn C g b x r S = some (.nx r', S) ∧ Q r') : ∃ r', exe C (.forr g it b) r S = some (.nx r', S) ∧ Q r' := by
  obtain ⟨r', S', e, rfl, hq⟩ := for_inv (g := g) (b := b) hi (fun _ r S' => S' = S ∧ Q r) ⟨rfl, h0⟩ fun j x r S' hx hq => by
    obtain ⟨rfl, hq⟩ := hq
    obtain ⟨r', e, h⟩ := hs j x r hx hq
    exact ⟨r', _, e, rfl, h⟩
  exact ⟨r', e, hq⟩
theorem seq_of {C : Call} {a b : Sm} {r r1 : Ev} {S S1 : Sto} {z : Option (Fl × Sto)} (h1 : exe C a r S = some (.nx r1, S1)) (h2 : exe C b r1 S1 = z) : exe C (.seq a b) r S = z := by
  rw [ex_seq, h1, sq_nx, h2]
theorem seq_ex {C : Call} {a b : Sm} {r : Ev} {S : Sto} {Q : Ev → Prop} {z : Option (Fl × Sto)} (h1 : ∃ r', exe C a r S = some (.nx r', S) ∧ Q r') (h2 : ∀ r', Q r' → exe C b r' S = z) : exe C (.seq a b) r S = z := by
  obtain ⟨r', e, hq⟩ := h1
  exact seq_of e (h2 r' hq)
@[simp] theorem size_small {n : Nat} (h : n ≤ 100000) : AOne.sizeOk n = true := by
  unfold AOne.sizeOk sizeLine
  simp
  omega
/-! numbers -/
theorem deq_int (a b : Int) : deq (.int a) (.int b) = decide (a = b) := by
  show PyData.eqv (D.py (.int a)) (D.py (.int b)) = _
  simp only [D.py, PyData.eqv]
  by_cases h : a = b <;> simp [h]
theorem dlt_int (a b : Int) : dlt (.int a) (.int b) = decide (a < b) := by
  show dataLt (D.py (.int a)) (D.py (.int b)) = _
  simp only [D.py]
  exact dataLt_int a b
theorem ltOk_int (a b : Int) : ltOk (.int a) (.int b) = true := by
  have h1 : dalike (.int a) (.int b) = true := by
    show alike (D.py (.int a)) (D.py (.int b)) = true
    simp [D.py, alike]
  unfold ltOk
  rw [h1, shallow_int, shallow_int]
  rfl
theorem ltOk_str (a b : Str) : ltOk (.str a) (.str b) = true := by
  have h1 : dalike (.str a) (.str b) = true := by
    show alike (D.py (.str a)) (D.py (.str b)) = true
    simp [D.py, alike]
  unfold ltOk
  rw [h1, shallow_str, shallow_str]
  rfl
@[simp] theorem cmp_int_eq {S : Sto} {a b : Int} : cmpD S .eq (.int a) (.int b) = some (decide (a = b)) := by
  simp [cmpD, look, isRef, shallow_int, deq_int]
@[simp] theorem cmp_int_ne {S : Sto} {a b : Int} : cmpD S .ne (.int a) (.int b) = some (!decide (a = b)) := by
  simp [cmpD, look, isRef, shallow_int, deq_int]
@[simp] theorem cmp_int_lt {S : Sto} {a b : Int} : cmpD S .lt (.int a) (.int b) = some (decide (a < b)) := by
  simp [cmpD, ltOk_int, dlt_int]
@[simp] theorem cmp_int_gt {S : Sto} {a b : Int} : cmpD S .gt (.int a) (.int b) = some (decide (b < a)) := by
  simp [cmpD, ltOk_int, dlt_int]
@[simp] theorem cmp_int_le {S : Sto} {a b : Int} : cmpD S .le (.int a) (.int b) = some (!decide (b < a)) := by
  simp [cmpD, ltOk_int, dlt_int]
@[simp] theorem cmp_int_ge {S : Sto} {a b : Int} : cmpD S .ge (.int a) (.int b) = some (!decide (a < b)) := by
  simp [cmpD, ltOk_int, dlt_int]
@[simp] theorem lk_int {S : Sto} {i : Int} : look S (.int i) = .int i := rfl
@[simp] theorem lk_tup {S : Sto} {x : List D} : look S (.tup x) = .tup x := rfl
@[simp] theorem lk_tupS {S : Sto} {x : List Str} : look S (tupS x) = tupS x := rfl
@[simp] theorem lk_lst {S : Sto} {x : List D} : look S (.lst x) = .lst x := rfl
@[simp] theorem lk_str {S : Sto} {x : Str} : look S (.str x) = .str x := rfl
@[simp] theorem pr_int {S : Sto} {i : Int} : prD .int S [.int i] = some (.int i) := rfl
@[simp] theorem pr_min {S : Sto} {i j : Int} : prD .min2 S [.int i, .int j] = some (.int (if j < i then j else i)) := rfl
@[simp] theorem op_add {a b : Int} : opD .add (.int a) (.int b) = some (.int (a + b)) := rfl
@[simp] theorem op_sub {a b : Int} : opD .sub (.int a) (.int b) = some (.int (a - b)) := rfl
@[simp] theorem op_md {a b : Int} (h : 0 < b) : opD .md (.int a) (.int b) = some (.int (a % b)) := by
  simp [opD, h]
@[simp] theorem op_fdiv {a b : Int} (h : 0 < b) (h2 : b < 1073741824) : opD .fdiv (.int a) (.int b) = some (.int (a / b)) := by
  simp [opD, h, h2]
theorem op_mul {a b : Int} (h : -18446744073709551616 < a) (h2 : a < 18446744073709551616) : opD .mul (.int a) (.int b) = some (.int (a * b)) := by
  simp [opD, h, h2]
@[simp] theorem op_cat {a b : List D} (h : a.length + b.length ≤ 100000) : opD .add (.lst a) (.lst b) = some (.lst (a ++ b)) := by
  have : AOne.sizeOk (a.length + b.length) = true := size_small h
  simp [opD, this]
@[simp] theorem op_catt {a b : List D} (h : a.length + b.length ≤ 100000) : opD .add (.tup a) (.tup b) = some (.tup (a ++ b)) := by
  have : AOne.sizeOk (a.length + b.length) = true := size_small h
  simp [opD, this]
/-! texts -/
@[simp] theorem cmp_str_eq {S : Sto} {a b : Str} : cmpD S .eq (.str a) (.str b) = some (decide (a = b)) := by
  simp [cmpD, look, isRef, shallow_str, deq_str]
@[simp] theorem cmp_str_ne {S : Sto} {a b : Str} : cmpD S .ne (.str a) (.str b) = some (!decide (a = b)) := by
  simp [cmpD, look, isRef, shallow_str, deq_str]
@[simp] theorem cmp_str_lt {S : Sto} {a b : Str} : cmpD S .lt (.str a) (.str b) = some (dlt (.str a) (.str b)) := by
  simp [cmpD, ltOk_str]
@[simp] theorem cmp_str_le {S : Sto} {a b : Str} : cmpD S .le (.str a) (.str b) = some (!dlt (.str b) (.str a)) := by
  simp [cmpD, ltOk_str]
@[simp] theorem cmp_tup_lt {S : Sto} {a b : List Str} : cmpD S .lt (tupS a) (tupS b) = some (dlt (tupS a) (tupS b)) := by
  simp [cmpD, ltOk_tupS]
@[simp] theorem cmp_tup_ne {S : Sto} {a b : List Str} : cmpD S .ne (tupS a) (tupS b) = some (!decide (a = b)) := by
  have h1 : look S (tupS a) = tupS a := rfl
  have h2 : look S (tupS b) = tupS b := rfl
  have h3 : ∀ x, isRef (tupS x) = false := fun x => rfl
  simp [cmpD, h1, h2, h3, shallow_tupS, deq_tupS]
@[simp] theorem cmp_tup_eq {S : Sto} {a b : List Str} : cmpD S .eq (tupS a) (tupS b) = some (decide (a = b)) := by
  have h1 : look S (tupS a) = tupS a := rfl
  have h2 : look S (tupS b) = tupS b := rfl
  have h3 : ∀ x, isRef (tupS x) = false := fun x => rfl
  simp [cmpD, h1, h2, h3, shallow_tupS, deq_tupS]
@[simp] theorem isRef_tupS (x : List Str) : isRef (tupS x) = false := rfl
@[simp] theorem items_tupS {S : Sto} {x : List Str} : itemsD S (tupS x) = some (sts x) := rfl
@[simp] theorem items_tup {S : Sto} {x : List D} : itemsD S (.tup x) = some x := rfl
@[simp] theorem items_lst {S : Sto} {x : List D} : itemsD S (.lst x) = some x := rfl
@[simp] theorem isi_tup {S : Sto} {x : List D} : prD (.isi .ttuple) S [.tup x] = some (.bl true) := rfl
@[simp] theorem isi_tupS {S : Sto} {x : List Str} : prD (.isi .ttuple) S [tupS x] = some (.bl true) := rfl
@[simp] theorem isi_str {S : Sto} {x : Str} : prD (.isi .tstr) S [.str x] = some (.bl true) := rfl
@[simp] theorem len_tup {S : Sto} {x : List D} : prD .len S [.tup x] = some (.int x.length) := rfl
@[simp] theorem len_lst {S : Sto} {x : List D} : prD .len S [.lst x] = some (.int x.length) := rfl
@[simp] theorem len_tupS {S : Sto} {x : List Str} : prD .len S [tupS x] = some (.int x.length) := by
  show some (D.int ((sts x).length : Nat)) = _
  simp [sts]
@[simp] theorem tuple_lst {S : Sto} {x : List D} : prD .tuple S [.lst x] = some (.tup x) := rfl
@[simp] theorem list_tup {S : Sto} {x : List D} : prD .list S [.tup x] = some (.lst x) := rfl
@[simp] theorem ix_tup {S : Sto} {x : List D} {k : Int} : ixD S (.tup x) (.int k) = L2.atI x k := rfl
@[simp] theorem ix_lst {S : Sto} {x : List D} {k : Int} : ixD S (.lst x) (.int k) = L2.atI x k := rfl
theorem at_nat {α : Type} {l : List α} {k : Nat} (h : k < l.length) : L2.atI l (k : Int) = some l[k] := by
  unfold L2.atI L2.ixN
  rw [if_pos (by omega), if_pos (by omega)]
  simp [h]
theorem cut_tail (xs : List D) : cutD xs (some 1) none = xs.drop 1 := by
  unfold cutD
  have e : HT.sIx xs.length 0 (some 1) = min 1 xs.length := HT.sIx_nat xs.length 0 1
  rw [e, HT.sIx_none]
  cases xs with
  | nil => rfl
  | cons x r => simp
/-! rising -/
def Ris (l : List D) : Prop := l.Pairwise fun a b => dlt a b = true
theorem zip_ris : ∀ {l : List D}, Ris l → ∀ p ∈ zipD l (l.drop 1), ∃ a b, p = .tup [a, b] ∧ a ∈ l ∧ b ∈ l ∧ dlt a b = true
  | [], _, p, hp => by simp [zipD] at hp
  | [x], _, p, hp => by simp [zipD] at hp
  | x :: y :: r, h, p, hp => by
    obtain ⟨h1, h2⟩ := List.pairwise_cons.mp h
    simp only [List.drop_succ_cons, List.drop_zero, zipD] at hp
    rcases List.mem_cons.mp hp with rfl | hp
    · exact ⟨x, y, rfl, by simp, by simp, h1 y List.mem_cons_self⟩
    · obtain ⟨a, b, e, k1, k2, k3⟩ := zip_ris h2 p (by simpa using hp)
      exact ⟨a, b, e, List.mem_cons_of_mem _ k1, List.mem_cons_of_mem _ k2, k3⟩
theorem bools_true : ∀ {l : List D}, (∀ x ∈ l, x = .bl true) → ∃ bs, boolsD l = some bs ∧ bs.all id = true
  | [], _ => ⟨[], rfl, rfl⟩
  | x :: l, h => by
    obtain ⟨bs, e1, e2⟩ := bools_true fun y hy => h y (List.mem_cons_of_mem _ hy)
    have := h x List.mem_cons_self
    subst this
    exact ⟨true :: bs, by simp [boolsD, e1], by simpa using e2⟩
theorem mapL_true {f : D → Sto → Option (Option D × Sto)} {S : Sto} : ∀ {xs : List D}, (∀ x ∈ xs, f x S = some (some (.bl true), S)) → ∃ ds, mapL f xs S = some (ds, S) ∧ prD .all S [.lst ds] = some (.bl true)
  | [], _ => ⟨[], rfl, rfl⟩
  | x :: xs, h => by
    obtain ⟨ds, e1, e2⟩ := mapL_true fun y hy => h y (List.mem_cons_of_mem _ hy)
    refine ⟨.bl true :: ds, by rw [mapL, h x List.mem_cons_self]; simp [e1], ?_⟩
    simp only [prD, look, boolsD] at e2 ⊢
    obtain ⟨bs, h1, h2⟩ := Option.map_eq_some_iff.mp e2
    rw [h1]
    simpa using h2
end AOne
end

section
set_option Elab.async false
set_option linter.all false
set_option maxRecDepth 100000
set_option maxHeartbeats 4000000
set_option autoImplicit false
/-! X1: facts of classes of errors, by Bools over the written part. -/
namespace AOne
open PySem PySem.Spec L2 PyProof.Rows
/-! the def __init__ of an error of two fields -/
theorem sup1_ok {f1 f2 : Str} {st : Stmt} (h : sup1 f1 f2 st = true) : ∃ p0 p1 p2 p3 p4 p5 p6, st = .Expr (.Call (.Attribute (.Call (.Name "super" p0) [] [] p1) "__init__" p2) [.Name f1 p3, .Name f2 p4] [] p5) p6 ∧ (p2.endLine == p5.line) = true := by
  unfold sup1 at h
  split at h
  · rename_i n0 p0 p1 n1 p2 n2 p3 n3 p4 p5 p6
    simp only [Bool.and_eq_true, decide_eq_true_eq] at h
    obtain ⟨⟨⟨⟨rfl, rfl⟩, rfl⟩, rfl⟩, h⟩ := h
    exact ⟨p0, p1, p2, p3, p4, p5, p6, rfl, h⟩
  · cases h
theorem set1_ok {f : Str} {st : Stmt} (h : set1 f st = true) : ∃ p7 p8 p9 p10, st = .Assign [.Attribute (.Name "self" p7) f p8] (.Name f p9) p10 := by
  unfold set1 at h
  split at h
  · rename_i n4 p7 n5 p8 n6 p9 p10
    simp only [Bool.and_eq_true, decide_eq_true_eq] at h
    obtain ⟨⟨rfl, rfl⟩, rfl⟩ := h
    exact ⟨p7, p8, p9, p10, rfl⟩
  · cases h
theorem bodyB_ok {f1 f2 : Str} {b : List Stmt} (h : bodyB f1 f2 b = true) : ∃ p0 p1 p2 p3 p4 p5 p6 p7 p8 p9 p10 p11 p12 p13 p14, b = xBody f1 f2 p0 p1 p2 p3 p4 p5 p6 p7 p8 p9 p10 p11 p12 p13 p14 ∧ (p2.endLine == p5.line) = true := by
  unfold bodyB at h
  split at h
  · rename_i s1 s2 s3
    rw [Bool.and_eq_true, Bool.and_eq_true] at h
    obtain ⟨p0, p1, p2, p3, p4, p5, p6, rfl, hp⟩ := sup1_ok h.1
    obtain ⟨p7, p8, p9, p10, rfl⟩ := set1_ok h.2.1
    obtain ⟨p11, p12, p13, p14, rfl⟩ := set1_ok h.2.2
    exact ⟨p0, p1, p2, p3, p4, p5, p6, p7, p8, p9, p10, p11, p12, p13, p14, rfl, hp⟩
  · cases h
theorem parB_ok {f1 f2 : Str} {p : Arguments} (h : parB f1 f2 p = true) : ∃ a0 b0 a1 b1 a2 b2, p = ⟨[], [⟨"self", a0, b0⟩, ⟨f1, a1, b1⟩, ⟨f2, a2, b2⟩], none, [], [], none, []⟩ := by
  unfold parB at h
  split at h
  · rename_i x0 a0 b0 x1 a1 b1 x2 a2 b2
    simp only [Bool.and_eq_true, decide_eq_true_eq] at h
    obtain ⟨⟨rfl, rfl⟩, rfl⟩ := h
    exact ⟨a0, b0, a1, b1, a2, b2, rfl⟩
  · cases h
/-- how such a def binds; for texts f1, f2 that are written out it is plain -/
def ParBinds (f1 f2 : Str) : Prop := ∀ (a0 a1 a2 : Option Expr) (b0 b1 b2 : Pos) (nm qual : Str) (body : List Stmt) (scope : Scope) (cl : List (Str × Addr)) (doc pm cdv ct : Value) (an : Option Addr) (a u1 u2 : Value),
    bindArgs (PySem.W.fnX nm qual ⟨[], [⟨"self", a0, b0⟩, ⟨f1, a1, b1⟩, ⟨f2, a2, b2⟩], none, [], [], none, []⟩ body scope cl .none .none doc pm an cdv ct) ⟨[a, u1, u2], []⟩ = pure [(("self" : Str), a), (f1, u1), (f2, u2)]
/-! the class -/
theorem oexB_ok {K : PySem.W.Frag} {C : Addr} (h : oexB K C = true) : ∃ nm q N bs bm sn sub ab col dd k0 k1 k2 k3 k5, K.lookup C = some (excClassObj nm q C N bs bm true sn sub ab col dd k0 k1 k2 k3 k5 "ValueError.__new__") ∧ PySem.HandSPX.refsVE bm = true := by
  unfold oexB at h
  split at h
  · rename_i t dd cd sl hl
    simp only [Bool.and_eq_true, decide_eq_true_eq, Bool.not_eq_true'] at h
    obtain ⟨⟨⟨⟨rfl, h1⟩, h2⟩, h3⟩, h4⟩ := h
    obtain ⟨nm, bs, mro, N, q, hd, sn, sub, ab, col, del⟩ := cd
    simp only at h1 h2 h3
    subst h2
    subst h3
    split at h1
    · rename_i c0 bm
      simp only [Bool.and_eq_true, decide_eq_true_eq] at h1
      obtain ⟨rfl, h1⟩ := h1
      split at h4
      · rename_i k0 k1 k2 k3 nid k5 e
        have e4 := of_decide_eq_true h4
        subst e4
        have es : sl = #[k0, k1, k2, k3, some (.builtin "ValueError.__new__"), k5] := by
          apply Array.ext'
          rw [e]
        subst es
        exact ⟨nm, q, N, bs, bm, sn, sub, ab, col, dd, k0, k1, k2, k3, k5, hl, h1⟩
      · cases h4
    · cases h1
  · cases h
theorem xcB_ok {prog : Program} {K : PySem.W.Frag} {C : Addr} {f1 f2 : Str} (hb : ParBinds f1 f2) (hne : f1 ≠ f2) (s1 : f1 ≠ ("self" : Str)) (s2 : f2 ≠ ("self" : Str)) (d1 : (f1 == ("__debug__" : Str)) = false) (d2 : (f2 == ("__debug__" : Str)) = false) (h : xcB prog K C f1 f2 = true) : XC prog K C (initOf K C) f1 f2 := by
  unfold xcB at h
  simp only [Bool.and_eq_true, decide_eq_true_eq, Bool.not_eq_true'] at h
  obtain ⟨⟨⟨⟨⟨⟨⟨⟨⟨⟨⟨⟨⟨⟨⟨h0, h1⟩, h2⟩, h3⟩, h4⟩, h5⟩, h6⟩, h7⟩, h8⟩, h9⟩, h10⟩, h11⟩, h12⟩, h13⟩, h14⟩, h15⟩ := h
  refine ⟨⟨oexB_ok h0, h1, h2, h3, h4⟩, h5, h6, ?_, h8, h9, h10, h11, h12, h13, h14, h15, hne, s1, s2, d1, d2⟩
  split at h7
  · rename_i oc od fd osl hl
    obtain ⟨nm, qual, params, body, scope, glo, clo, dV, kV, doc, pm, an, code, ct, blt⟩ := fd
    unfold funB at h7
    simp only [Bool.and_eq_true, decide_eq_true_eq] at h7
    obtain ⟨⟨⟨⟨⟨⟨⟨rfl, rfl, rfl⟩, k1⟩, k2⟩, rfl⟩, rfl⟩, k3⟩, k4⟩ := h7
    split at k2
    · rename_i b
      split at k3
      · rename_i n cc cda
        simp only [Bool.and_eq_true, decide_eq_true_eq] at k3
        obtain ⟨⟨⟨rfl, m1⟩, m2⟩, m3⟩ := k3
        obtain ⟨a0, b0, a1, b1, a2, b2, rfl⟩ := parB_ok k1
        obtain ⟨p0, p1, p2, p3, p4, p5, p6, p7, p8, p9, p10, p11, p12, p13, p14, rfl, hp⟩ := bodyB_ok k2
        unfold scB at k4
        simp only [Bool.and_eq_true, decide_eq_true_eq, Bool.not_eq_true'] at k4
        obtain ⟨⟨⟨⟨⟨⟨⟨⟨c1, c2⟩, c3⟩, c4⟩, c5⟩, c6⟩, c7⟩, c8⟩, c9⟩ := k4
        refine ⟨qual, _, scope, .none, .none, doc, pm, an, cda, ct, cc, oc, od, osl, p0, p1, p2, p3, p4, p5, p6, p7, p8, p9, p10, p11, p12, p13, p14, hl, m1, ⟨_, rfl, rfl⟩, ?_, ?_, c1, c2, c3, c4, c5, hp, c6, c7, c8, c9, fun s a u1 u2 => BindsTo.of_eq (hb _ _ _ _ _ _ _ _ _ _ _ _ _ _ _ _ _ _ _)⟩
        · unfold fileB at m2
          split at m2
          · rename_i ccl cdd vs ccs hv
            split at m2
            · rename_i file tf hvs
              exact ⟨ccl, cdd, vs, ccs, file, tf, hv, hvs, m2⟩
            · cases m2
          · cases m2
        · unfold cellB at m3
          split at m3
          · rename_i cl cld c csl hv
            have e := of_decide_eq_true m3
            subst e
            exact ⟨cl, cld, csl, hv⟩
          · cases m3
      · cases k3
    · cases k2
  · cases h7
/-! how classes stand to one another -/
theorem kinB_ok {K : PySem.W.Frag} {C : Addr} {kin : List Nat} : ∀ {CT : List Value} {j : Nat}, kinB K C kin j CT = true → ∀ (i : Nat) cv, CT[i]? = some cv → PySem.W.kitOne K (.ref C) cv = some (kin.contains (j + i)) ∧ ∀ c, cv = .ref c → PySem.W.exmOne K (.ref C) (.ref c) = some (kin.contains (j + i))
  | [], _, _, i, cv, e => by simp at e
  | c0 :: r, j, h, i, cv, e => by
    unfold kinB at h
    simp only [Bool.and_eq_true, decide_eq_true_eq] at h
    obtain ⟨⟨h1, h2⟩, h3⟩ := h
    cases i with
    | zero =>
      have e : c0 = cv := by simpa using e
      subst e
      refine ⟨h1, fun c hc => ?_⟩
      subst hc
      exact of_decide_eq_true h2
    | succ i =>
      have := kinB_ok h3 i cv (by simpa using e)
      rw [show j + 1 + i = j + (i + 1) from by omega] at this
      exact this
theorem kin_of {K : PySem.W.Frag} {C : Addr} {kin : List Nat} {CT : List Value} (h1 : kinB K C kin 0 CT = true) (h2 : excB K C = true) (h3 : xfB K C = true) : KinOk K CT C kin := by
  have x := xfB_ok h3
  unfold excB at h2
  simp only [Bool.and_eq_true, decide_eq_true_eq] at h2
  obtain ⟨⟨⟨e1, e2⟩, e3⟩, e4⟩ := h2
  refine ⟨fun j cv hj => ?_, fun j c hj => ?_, ⟨x.ga, x.gg, x.exC, x.hdC, e1, e2, e3, e4⟩, x⟩
  · have := (kinB_ok h1 j cv hj).1
    rw [Nat.zero_add] at this
    exact this
  · have := (kinB_ok h1 j _ hj).2 c rfl
    rw [Nat.zero_add] at this
    exact this
theorem binds_word_at : ParBinds "word" "at" := fun _ _ _ _ _ _ _ _ _ _ _ _ _ _ _ _ _ _ _ => rfl
theorem binds_ring_total : ParBinds "ring" "total" := fun _ _ _ _ _ _ _ _ _ _ _ _ _ _ _ _ _ _ _ => rfl
theorem binds_line_field : ParBinds "line" "field" := fun _ _ _ _ _ _ _ _ _ _ _ _ _ _ _ _ _ _ _ => rfl
theorem binds_event_reason : ParBinds "event" "reason" := fun _ _ _ _ _ _ _ _ _ _ _ _ _ _ _ _ _ _ _ => rfl
end AOne
end

section
set_option Elab.async false
set_option linter.all false
set_option maxRecDepth 100000
set_option maxHeartbeats 0
set_option autoImplicit false
/-! K12: the table of the defs (printed by gen2.py). -/
namespace K12
open PySem PySem.Spec L2 AOne
def b0 : Sm := (.seq (.ret (.andd (.pr (.isi .tint) (.cons (.var 0) .nil)) (.nott (.pr (.isi .tbool) (.cons (.var 0) .nil))))) .skip)
def b1 : Sm := (.seq (.ret (.andd (.call 0 [0] [] (.cons (.var 0) .nil) .nil) (.cmp .ge (.var 0) (.cst (.int 0))))) .skip)
def b2 : Sm := (.seq (.ret (.andd (.call 1 [0] [] (.cons (.var 0) .nil) .nil) (.cmp .lt (.var 0) (.var 1)))) .skip)
def b3 : Sm := (.seq (.ret (.andd (.pr (.isi .tstr) (.cons (.var 0) .nil)) (.cmp .inn (.var 0) (.var 1)))) .skip)
def b4 : Sm := (.seq (.ite (.orr (.nott (.pr (.isi .tstr) (.cons (.var 0) .nil))) (.cmp .eq (.var 0) (.cst (.str "any")))) (.seq (.ret (.cst (.bl false))) .skip) .skip) (.seq (.ret (.andd (.chain .le .le (.cst (.int 1)) (.pr .len (.cons (.var 0) .nil)) (.cst (.int 8))) (.pr .all (.cons (.lc [1] (.name 1) (.ival (.var 0)) (.cst (.bl true)) (.cmp .inn (.var 1) (.cst (.str "abcdefghijklmnopqrstuvwxyz")))) .nil)))) .skip))
def b5 : Sm := (.seq (.ret (.andd (.pr (.isi .ttuple) (.cons (.var 0) .nil)) (.cmp .eq (.pr .len (.cons (.var 0) .nil)) (.var 1)))) .skip)
def b6 : Sm := (.seq (.ret (.call 5 [0, 1] [] (.cons (.var 0) (.cons (.cst (.int 2)) .nil)) .nil)) .skip)
def b7 : Sm := (.seq (.ret (.pr .all (.cons (.lc [1, 2] (.tup (.cons (.name 1) (.cons (.name 2) .nil))) (.izip (.var 0) (.slc (.var 0) (.cons (.cst (.int 1)) .nil) .nop)) (.cst (.bl true)) (.cmp .lt (.var 1) (.var 2))) .nil))) .skip)
def b8 : Sm := (.seq (.ret (.andd (.pr (.isi .ttuple) (.cons (.var 0) .nil)) (.andd (.pr .all (.cons (.lc [1] (.name 1) (.ival (.var 0)) (.cst (.bl true)) (.call 4 [0] [] (.cons (.var 1) .nil) .nil)) .nil)) (.call 7 [0] [] (.cons (.var 0) .nil) .nil)))) .skip)
def b9 : Sm := (.seq (.ret (.andd (.call 8 [0] [] (.cons (.var 0) .nil) .nil) (.pr .all (.cons (.lc [2] (.name 2) (.ival (.var 0)) (.cst (.bl true)) (.cmp .inn (.var 2) (.var 1))) .nil)))) .skip)
def b10 : Sm := (.seq (.ite (.orr (.nott (.pr (.isi .ttuple) (.cons (.var 0) .nil))) (.cmp .eq (.pr .len (.cons (.var 0) .nil)) (.cst (.int 0)))) (.seq (.ret (.cst (.bl false))) .skip) .skip) (.seq (.ret (.andd (.pr .all (.cons (.lc [2] (.name 2) (.ival (.var 0)) (.cst (.bl true)) (.call 9 [0, 1] [] (.cons (.var 2) (.cons (.var 1) .nil)) .nil)) .nil)) (.call 7 [0] [] (.cons (.var 0) .nil) .nil))) .skip))
def b11 : Sm := (.seq (.ret (.andd (.call 5 [0, 1] [] (.cons (.var 0) (.cons (.cst (.int 3)) .nil)) .nil) (.call 4 [0] [] (.cons (.ix (.var 0) (.cst (.int 0))) .nil) .nil))) .skip)
def b12 : Sm := (.seq (.ite (.orr (.nott (.pr (.isi .ttuple) (.cons (.var 0) .nil))) (.cmp .eq (.pr .len (.cons (.var 0) .nil)) (.cst (.int 0)))) (.seq (.ret (.tup (.cons (.cst (.str "shape")) (.cons (.neg (.cst (.int 1))) .nil)))) .skip) .skip) (.seq (.forr (.tup (.cons (.name 1) (.cons (.name 2) .nil))) (.ienum (.var 0)) (.seq (.ite (.orr (.nott (.call 11 [0] [] (.cons (.var 2) .nil) .nil)) (.andd (.cmp .gt (.var 1) (.cst (.int 0))) (.cmp .le (.ix (.var 2) (.cst (.int 0))) (.ix (.ix (.var 0) (.op .sub (.var 1) (.cst (.int 1)))) (.cst (.int 0)))))) (.seq (.ret (.tup (.cons (.cst (.str "house")) (.cons (.var 1) .nil)))) .skip) .skip) .skip)) (.seq (.asg (.name 3) (.lc [2] (.name 2) (.ival (.var 0)) (.cst (.bl true)) (.ix (.var 2) (.cst (.int 0))))) (.seq (.forr (.tup (.cons (.name 1) (.cons (.tup (.cons (.name 4) (.cons (.name 5) (.cons (.name 6) .nil)))) .nil))) (.ienum (.var 0)) (.seq (.ite (.orr (.nott (.call 10 [0, 1] [] (.cons (.var 5) (.cons (.var 3) .nil)) .nil)) (.cmp .inn (.tup .nil) (.var 5))) (.seq (.ret (.tup (.cons (.cst (.str "lots")) (.cons (.var 1) .nil)))) .skip) .skip) (.seq (.ite (.nott (.call 10 [0, 1] [] (.cons (.var 6) (.cons (.lc [7] (.name 7) (.ival (.var 3)) (.cmp .ne (.var 7) (.var 4)) (.var 7)) .nil)) .nil)) (.seq (.ret (.tup (.cons (.cst (.str "fears")) (.cons (.var 1) .nil)))) .skip) .skip) .skip))) (.seq (.ret (.cst .non)) .skip)))))
def b13 : Sm := (.seq (.ret (.cmp .isn (.call 12 [0] [] (.cons (.var 0) .nil) .nil) (.cst .non))) .skip)
def b14 : Sm := (.seq (.ret (.pr .tuple (.cons (.lc [2] (.name 2) (.ival (.var 0)) (.cmp .inn (.var 2) (.var 1)) (.var 2)) .nil))) .skip)
def b15 : Sm := (.seq (.ret (.pr .tuple (.cons (.lc [1] (.name 1) (.ival (.var 0)) (.cst (.bl true)) (.ix (.var 1) (.cst (.int 0)))) .nil))) .skip)
def b16 : Sm := (.seq (.ret (.ix (.ix (.lc [2] (.name 2) (.ival (.var 0)) (.cmp .eq (.ix (.var 2) (.cst (.int 0))) (.var 1)) (.var 2)) (.cst (.int 0))) (.cst (.int 1)))) .skip)
def b17 : Sm := (.seq (.ret (.ix (.ix (.lc [2] (.name 2) (.ival (.var 0)) (.cmp .eq (.ix (.var 2) (.cst (.int 0))) (.var 1)) (.var 2)) (.cst (.int 0))) (.cst (.int 2)))) .skip)
def b18 : Sm := (.seq (.ret (.pr .all (.cons (.lc [2] (.name 2) (.ival (.var 0)) (.cst (.bl true)) (.cmp .inn (.var 2) (.var 1))) .nil))) .skip)
def b19 : Sm := (.seq (.ret (.pr .tuple (.cons (.lc [2] (.name 2) (.ival (.var 0)) (.cmp .nin (.var 2) (.var 1)) (.var 2)) .nil))) .skip)
def b20 : Sm := (.seq (.asg (.name 1) (.pr .ssorted (.cons (.var 0) .nil))) (.seq (.asg (.name 2) (.lc [4] (.name 4) (.ival (.var 1)) (.nott (.pr .any (.cons (.lc [3] (.name 3) (.ival (.var 1)) (.cst (.bl true)) (.andd (.cmp .ne (.var 3) (.var 4)) (.call 18 [0, 1] [] (.cons (.var 3) (.cons (.var 4) .nil)) .nil))) .nil))) (.var 4))) (.seq (.ret (.pr .tuple (.cons (.var 2) .nil))) .skip)))
def b21 : Sm := (.seq (.asg (.name 1) (.pr .ssorted (.cons (.var 0) .nil))) (.seq (.asg (.name 2) (.lc [4] (.name 4) (.ival (.var 1)) (.nott (.pr .any (.cons (.lc [3] (.name 3) (.ival (.var 1)) (.cst (.bl true)) (.andd (.cmp .ne (.var 3) (.var 4)) (.call 18 [0, 1] [] (.cons (.var 4) (.cons (.var 3) .nil)) .nil))) .nil))) (.var 4))) (.seq (.ret (.pr .tuple (.cons (.var 2) .nil))) .skip)))
def b22 : Sm := (.seq (.ret (.andd (.cmp .nin (.var 1) (.var 2)) (.pr .any (.cons (.lc [3] (.name 3) (.ival (.call 17 [0, 1] [] (.cons (.var 0) (.cons (.var 1) .nil)) .nil)) (.cst (.bl true)) (.call 18 [0, 1] [] (.cons (.var 2) (.cons (.var 3) .nil)) .nil)) .nil)))) .skip)
def b23 : Sm := (.seq (.ret (.pr .tuple (.cons (.lc [2] (.name 2) (.ival (.call 15 [0] [] (.cons (.var 0) .nil) .nil)) (.call 22 [0, 1, 2] [] (.cons (.var 0) (.cons (.var 2) (.cons (.var 1) .nil))) .nil) (.var 2)) .nil))) .skip)
def b24 : Sm := (.seq (.ite (.cmp .eq (.var 1) (.var 2)) (.seq (.ret (.call 21 [0] [] (.cons (.call 17 [0, 1] [] (.cons (.var 0) (.cons (.var 1) .nil)) .nil) .nil) .nil)) .skip) .skip) (.seq (.asg (.name 3) (.lcc [4, 5] [5] (.name 4) (.ival (.call 17 [0, 1] [] (.cons (.var 0) (.cons (.var 1) .nil)) .nil)) (.cst (.bl true)) (.name 5) (.ival (.call 17 [0, 1] [] (.cons (.var 0) (.cons (.var 2) .nil)) .nil)) (.cst (.bl true)) (.call 14 [0, 1] [] (.cons (.var 4) (.cons (.var 5) .nil)) .nil))) (.seq (.ret (.call 21 [0] [] (.cons (.var 3) .nil) .nil)) .skip)))
def b25 : Sm := (.seq (.ret (.lcc [1, 2, 3, 4] [4] (.tup (.cons (.name 1) (.cons (.name 2) (.cons (.name 3) .nil)))) (.ival (.var 0)) (.cst (.bl true)) (.name 4) (.irange (.cons (.pr .len (.cons (.var 2) .nil)) .nil)) (.cst (.bl true)) (.tup (.cons (.var 1) (.cons (.var 4) .nil))))) .skip)
def b26 : Sm := (.seq (.ret (.ix (.call 16 [0, 1] [] (.cons (.var 0) (.cons (.ix (.var 1) (.cst (.int 0))) .nil)) .nil) (.ix (.var 1) (.cst (.int 1))))) .skip)
def b27 : Sm := (.seq (.asg (.name 3) (.call 14 [0, 1] [] (.cons (.call 26 [0, 1] [] (.cons (.var 0) (.cons (.var 1) .nil)) .nil) (.cons (.call 26 [0, 1] [] (.cons (.var 0) (.cons (.var 2) .nil)) .nil) .nil)) .nil)) (.seq (.forr (.name 4) (.ival (.call 24 [0, 1, 2] [] (.cons (.var 0) (.cons (.ix (.var 1) (.cst (.int 0))) (.cons (.ix (.var 2) (.cst (.int 0))) .nil))) .nil)) (.seq (.ite (.call 18 [0, 1] [] (.cons (.var 3) (.cons (.var 4) .nil)) .nil) (.seq (.ret (.var 4)) .skip) .skip) .skip)) (.seq (.ret (.cst .non)) .skip)))
def b28 : Sm := (.seq (.asg (.name 1) (.call 25 [0] [] (.cons (.var 0) .nil) .nil)) (.seq (.asg (.name 2) (.fresh (.lst .nil))) (.seq (.forr (.tup (.cons (.name 3) (.cons (.name 4) .nil))) (.ienum (.var 1)) (.seq (.ext (.var 2) (.lc [5] (.name 5) (.ival (.slc (.var 1) (.cons (.var 3) .nil) .nop)) (.cmp .notn (.call 27 [0, 1, 2] [] (.cons (.var 0) (.cons (.var 4) (.cons (.var 5) .nil))) .nil) (.cst .non)) (.tup (.cons (.var 4) (.cons (.var 5) .nil))))) .skip)) (.seq (.ret (.var 2)) .skip))))
def b29 : Sm := (.seq (.asg (.name 2) (.fresh (.lst .nil))) (.seq (.forr (.name 3) (.ival (.call 25 [0] [] (.cons (.var 0) .nil) .nil)) (.seq (.ite (.cmp .ne (.ix (.var 3) (.cst (.int 0))) (.var 1)) (.seq (.ext (.var 2) (.lc [4] (.name 4) (.ival (.call 24 [0, 1, 2] [] (.cons (.var 0) (.cons (.var 1) (.cons (.ix (.var 3) (.cst (.int 0))) .nil))) .nil)) (.cst (.bl true)) (.call 19 [0, 1] [] (.cons (.call 26 [0, 1] [] (.cons (.var 0) (.cons (.var 3) .nil)) .nil) (.cons (.var 4) .nil)) .nil))) .skip) .skip) .skip)) (.seq (.ret (.call 20 [0] [] (.cons (.frz (.var 2)) .nil) .nil)) .skip)))
def b30 : Sm := (.seq (.forr (.name 2) (.ival (.var 0)) (.seq (.ite (.cmp .eq (.pr .len (.cons (.call 14 [0, 1] [] (.cons (.var 2) (.cons (.var 1) .nil)) .nil) .nil)) (.cst (.int 0))) (.seq (.ret (.var 2)) .skip) .skip) .skip)) (.seq (.ret (.cst .non)) .skip))
def b31 : Sm := (.seq (.ret (.cmp .isn (.call 30 [0, 1] [] (.cons (.var 0) (.cons (.var 1) .nil)) .nil) (.cst .non))) .skip)
def b32 : Sm := (.seq (.asg (.name 1) (.lst (.cons (.tup .nil) .nil))) (.seq (.forr (.name 2) (.ival (.var 0)) (.seq (.asg (.name 3) (.fresh (.lst .nil))) (.seq (.forr (.name 4) (.ival (.var 1)) (.seq (.ite (.cmp .gt (.pr .len (.cons (.call 14 [0, 1] [] (.cons (.var 2) (.cons (.var 4) .nil)) .nil) .nil)) (.cst (.int 0))) (.seq (.app (.var 3) (.var 4)) .skip) (.seq (.ext (.var 3) (.lc [5] (.name 5) (.ival (.var 2)) (.cst (.bl true)) (.pr .tuple (.cons (.pr .sorted (.cons (.lst (.star (.var 4) (.cons (.var 5) .nil))) .nil)) .nil)))) .skip)) .skip)) (.seq (.asg (.name 1) (.pr .list (.cons (.call 20 [0] [] (.cons (.frz (.var 3)) .nil) .nil) .nil))) .skip)))) (.seq (.ret (.pr .tuple (.cons (.var 1) .nil))) .skip)))
def b33 : Sm := (.seq (.ret (.call 3 [0, 1] [] (.cons (.var 1) (.cons (.call 15 [0] [] (.cons (.var 0) .nil) .nil) .nil)) .nil)) .skip)
def b34 : Sm := (.seq (.ret (.call 9 [0, 1] [] (.cons (.var 1) (.cons (.call 15 [0] [] (.cons (.var 0) .nil) .nil) .nil)) .nil)) .skip)
def b35 : Sm := (.seq (.ite (.orr (.nott (.call 6 [0] [] (.cons (.var 1) .nil) .nil)) (.nott (.call 33 [0, 1] [] (.cons (.var 0) (.cons (.ix (.var 1) (.cst (.int 0))) .nil)) .nil))) (.seq (.ret (.cst (.bl false))) .skip) .skip) (.seq (.ret (.call 2 [0, 1] [] (.cons (.ix (.var 1) (.cst (.int 1))) (.cons (.pr .len (.cons (.call 16 [0, 1] [] (.cons (.var 0) (.cons (.ix (.var 1) (.cst (.int 0))) .nil)) .nil) .nil)) .nil)) .nil)) .skip))
def b36 : Sm := (.seq (.ret (.andd (.pr (.isi .ttuple) (.cons (.var 1) .nil)) (.andd (.pr .all (.cons (.lc [2] (.name 2) (.ival (.var 1)) (.cst (.bl true)) (.call 35 [0, 1] [] (.cons (.var 0) (.cons (.var 2) .nil)) .nil)) .nil)) (.call 7 [0] [] (.cons (.var 1) .nil) .nil)))) .skip)
def b37 : Sm := (.seq (.ite (.nott (.var 0)) (.seq (.raise [0, 2, 6, 7] ["word", "at"] (.cons (.var 1) (.cons (.var 2) .nil))) .skip) .skip) .skip)
def b38 : Sm := (.seq (.drop (.call 37 [0, 1, 2] [.int (-1)] (.cons (.call 13 [0] [] (.cons (.var 0) .nil) .nil) (.cons (.var 1) .nil)) .nil)) .skip)
def b39 : Sm := (.seq (.drop (.call 37 [0, 1, 2] [.int (-1)] (.cons (.call 33 [0, 1] [] (.cons (.var 0) (.cons (.var 1) .nil)) .nil) (.cons (.var 2) .nil)) .nil)) .skip)
def b40 : Sm := (.seq (.drop (.call 37 [0, 1, 2] [.int (-1)] (.cons (.call 34 [0, 1] [] (.cons (.var 0) (.cons (.var 1) .nil)) .nil) (.cons (.var 2) .nil)) .nil)) .skip)
def b41 : Sm := (.seq (.drop (.call 37 [0, 1, 2] [.int (-1)] (.cons (.call 35 [0, 1] [] (.cons (.var 0) (.cons (.var 1) .nil)) .nil) (.cons (.var 2) .nil)) .nil)) .skip)
def b42 : Sm := (.seq (.drop (.call 38 [0, 1] [.str "trust"] (.cons (.var 0) .nil) .nil)) (.seq (.drop (.call 39 [0, 1, 2] [.str "house"] (.cons (.var 0) (.cons (.var 1) .nil)) .nil)) (.seq (.drop (.call 40 [0, 1, 2] [.str "lot"] (.cons (.var 0) (.cons (.var 2) (.cons (.cst (.str "fall")) .nil))) .nil)) (.seq (.ret (.call 22 [0, 1, 2] [] (.cons (.var 0) (.cons (.var 1) (.cons (.var 2) .nil))) .nil)) .skip))))
def b43 : Sm := (.seq (.drop (.call 38 [0, 1] [.str "trust"] (.cons (.var 0) .nil) .nil)) (.seq (.drop (.call 40 [0, 1, 2] [.str "lot"] (.cons (.var 0) (.cons (.var 1) (.cons (.cst (.str "fall")) .nil))) .nil)) (.seq (.ret (.call 23 [0, 1] [] (.cons (.var 0) (.cons (.var 1) .nil)) .nil)) .skip)))
def b44 : Sm := (.seq (.drop (.call 38 [0, 1] [.str "trust"] (.cons (.var 0) .nil) .nil)) (.seq (.drop (.call 39 [0, 1, 2] [.str "house"] (.cons (.var 0) (.cons (.var 1) .nil)) .nil)) (.seq (.ret (.call 24 [0, 1, 2] [] (.cons (.var 0) (.cons (.var 1) (.cons (.var 1) .nil))) .nil)) .skip)))
def b45 : Sm := (.seq (.drop (.call 38 [0, 1] [.str "trust"] (.cons (.var 0) .nil) .nil)) (.seq (.drop (.call 39 [0, 1, 2] [.str "house"] (.cons (.var 0) (.cons (.var 1) .nil)) .nil)) (.seq (.drop (.call 39 [0, 1, 2] [.str "house"] (.cons (.var 0) (.cons (.var 2) (.cons (.cst (.str "other")) .nil))) .nil)) (.seq (.ret (.call 24 [0, 1, 2] [] (.cons (.var 0) (.cons (.var 1) (.cons (.var 2) .nil))) .nil)) .skip))))
def b46 : Sm := (.seq (.drop (.call 38 [0, 1] [.str "trust"] (.cons (.var 0) .nil) .nil)) (.seq (.drop (.call 39 [0, 1, 2] [.str "house"] (.cons (.var 0) (.cons (.var 1) .nil)) .nil)) (.seq (.ret (.call 29 [0, 1] [] (.cons (.var 0) (.cons (.var 1) .nil)) .nil)) .skip)))
def b47 : Sm := (.seq (.drop (.call 38 [0, 1] [.str "trust"] (.cons (.var 0) .nil) .nil)) (.seq (.drop (.call 39 [0, 1, 2] [.str "house"] (.cons (.var 0) (.cons (.var 1) .nil)) .nil)) (.seq (.drop (.call 40 [0, 1, 2] [.str "lot"] (.cons (.var 0) (.cons (.var 2) .nil)) .nil)) (.seq (.ret (.call 31 [0, 1] [] (.cons (.call 29 [0, 1] [] (.cons (.var 0) (.cons (.var 1) .nil)) .nil) (.cons (.var 2) .nil)) .nil)) .skip))))
def b48 : Sm := (.seq (.drop (.call 38 [0, 1] [.str "trust"] (.cons (.var 0) .nil) .nil)) (.seq (.drop (.call 39 [0, 1, 2] [.str "house"] (.cons (.var 0) (.cons (.var 1) .nil)) .nil)) (.seq (.drop (.call 40 [0, 1, 2] [.str "lot"] (.cons (.var 0) (.cons (.var 2) .nil)) .nil)) (.seq (.ret (.call 30 [0, 1] [] (.cons (.call 29 [0, 1] [] (.cons (.var 0) (.cons (.var 1) .nil)) .nil) (.cons (.var 2) .nil)) .nil)) .skip))))
def b49 : Sm := (.seq (.drop (.call 38 [0, 1] [.str "trust"] (.cons (.var 0) .nil) .nil)) (.seq (.drop (.call 39 [0, 1, 2] [.str "house"] (.cons (.var 0) (.cons (.var 1) .nil)) .nil)) (.seq (.ret (.call 32 [0] [] (.cons (.call 29 [0, 1] [] (.cons (.var 0) (.cons (.var 1) .nil)) .nil) .nil) .nil)) .skip)))
def b50 : Sm := (.seq (.drop (.call 38 [0, 1] [.str "trust"] (.cons (.var 0) .nil) .nil)) (.seq (.drop (.call 39 [0, 1, 2] [.str "house"] (.cons (.var 0) (.cons (.var 1) .nil)) .nil)) (.seq (.asg (.name 2) (.call 32 [0] [] (.cons (.call 29 [0, 1] [] (.cons (.var 0) (.cons (.var 1) .nil)) .nil) .nil) .nil)) (.seq (.ite (.cmp .eq (.pr .len (.cons (.var 2) .nil)) (.cst (.int 0))) (.seq (.ret (.cst .non)) .skip) .skip) (.seq (.asg (.name 3) (.pr .min2 (.cons (.lc [4] (.name 4) (.ival (.var 2)) (.cst (.bl true)) (.pr .len (.cons (.var 4) .nil))) .nil))) (.seq (.ret (.ix (.lc [4] (.name 4) (.ival (.var 2)) (.cmp .eq (.pr .len (.cons (.var 4) .nil)) (.var 3)) (.var 4)) (.cst (.int 0)))) .skip))))))
def b51 : Sm := (.seq (.foes 1 2 3 (.ival (.call 28 [0] [] (.cons (.var 0) .nil) .nil))) (.seq (.ret (.var 1)) .skip))
def b52 : Sm := (.seq (.asg (.name 3) (.gett (.var 0) (.var 2))) (.seq (.ret (.andd (.cmp .nin (.var 2) (.var 3)) (.nott (.pr .any (.cons (.lc [4] (.name 4) (.ival (.var 1)) (.cst (.bl true)) (.cmp .inn (.var 4) (.var 3))) .nil))))) .skip))
def b53 : Sm := (.seq (.ret (.orr (.cmp .eq (.op .add (.var 1) (.cst (.int 1))) (.pr .len (.cons (.var 0) .nil))) (.cmp .ne (.ix (.ix (.var 0) (.op .add (.var 1) (.cst (.int 1)))) (.cst (.int 0))) (.ix (.ix (.var 0) (.var 1)) (.cst (.int 0)))))) .skip)
def b54 : Sm := (.seq (.ret (.orr (.nott (.call 53 [0, 1] [] (.cons (.var 0) (.cons (.var 2) .nil)) .nil)) (.pr .any (.cons (.lc [3] (.name 3) (.ival (.var 1)) (.cst (.bl true)) (.cmp .eq (.ix (.var 3) (.cst (.int 0))) (.ix (.ix (.var 0) (.var 2)) (.cst (.int 0))))) .nil)))) .skip)
def b55 : Sm := (.seq (.par [1, 2, 3] (.cons (.call 25 [0] [] (.cons (.var 0) .nil) .nil) (.cons (.call 51 [0] [] (.cons (.var 0) .nil) .nil) (.cons (.cst .non) .nil)))) (.seq (.asg (.name 4) (.fresh (.lst (.cons (.tup (.cons (.tup .nil) (.cons (.tup .nil) .nil))) .nil)))) (.seq (.whl 200000 (.cmp .gt (.pr .len (.cons (.var 4) .nil)) (.cst (.int 0))) (.seq (.asg (.tup (.cons (.name 5) (.cons (.name 6) .nil))) (.popl (.var 4))) (.seq (.asg (.name 7) (.op .add (.pr .len (.cons (.var 5) .nil)) (.pr .len (.cons (.var 6) .nil)))) (.seq (.ite (.andd (.cmp .notn (.var 3) (.cst .non)) (.cmp .ge (.pr .len (.cons (.var 6) .nil)) (.pr .len (.cons (.var 3) .nil)))) (.seq .cont .skip) .skip) (.seq (.ite (.cmp .eq (.var 7) (.pr .len (.cons (.var 1) .nil))) (.seq (.asg (.name 3) (.var 6)) (.seq .cont .skip)) .skip) (.seq (.ite (.call 54 [0, 1, 2] [] (.cons (.var 1) (.cons (.var 5) (.cons (.var 7) .nil))) .nil) (.seq (.app (.var 4) (.tup (.cons (.var 5) (.cons (.tup (.star (.var 6) (.cons (.ix (.var 1) (.var 7)) .nil))) .nil)))) .skip) .skip) (.seq (.ite (.call 52 [0, 1, 2] [] (.cons (.var 2) (.cons (.var 5) (.cons (.ix (.var 1) (.var 7)) .nil))) .nil) (.seq (.app (.var 4) (.tup (.cons (.tup (.star (.var 5) (.cons (.ix (.var 1) (.var 7)) .nil))) (.cons (.var 6) .nil)))) .skip) .skip) .skip))))))) (.seq (.ret (.var 3)) .skip))))
def b56 : Sm := (.seq (.drop (.call 38 [0, 1] [.str "trust"] (.cons (.var 0) .nil) .nil)) (.seq (.drop (.call 41 [0, 1, 2] [] (.cons (.var 0) (.cons (.var 1) (.cons (.cst (.str "one")) .nil))) .nil)) (.seq (.drop (.call 41 [0, 1, 2] [] (.cons (.var 0) (.cons (.var 2) (.cons (.cst (.str "other")) .nil))) .nil)) (.seq (.ret (.call 27 [0, 1, 2] [] (.cons (.var 0) (.cons (.var 1) (.cons (.var 2) .nil))) .nil)) .skip))))
def b57 : Sm := (.seq (.drop (.call 38 [0, 1] [.str "trust"] (.cons (.var 0) .nil) .nil)) (.seq (.ret (.pr .tuple (.cons (.call 28 [0] [] (.cons (.var 0) .nil) .nil) .nil))) .skip))
def b58 : Sm := (.seq (.ret (.pr .tuple (.cons (.lc [2, 3] (.tup (.cons (.name 2) (.cons (.name 3) .nil))) (.ienum (.ix (.var 0) (.cst (.int 1)))) (.cmp .nin (.tup (.cons (.ix (.var 0) (.cst (.int 0))) (.cons (.var 2) .nil))) (.var 1)) (.var 3)) .nil))) .skip)
def b59 : Sm := (.seq (.drop (.call 38 [0, 1] [.str "trust"] (.cons (.var 0) .nil) .nil)) (.seq (.drop (.call 37 [0, 1, 2] [.int (-1)] (.cons (.call 36 [0, 1] [] (.cons (.var 0) (.cons (.var 1) .nil)) .nil) (.cons (.cst (.str "pairs")) .nil)) .nil)) (.seq (.drop (.call 37 [0, 1, 2] [.int (-1)] (.cons (.pr .all (.cons (.lc [2] (.name 2) (.ival (.var 0)) (.cst (.bl true)) (.cmp .gt (.pr .len (.cons (.call 58 [0, 1] [] (.cons (.var 2) (.cons (.var 1) .nil)) .nil) .nil)) (.cst (.int 0)))) .nil)) (.cons (.cst (.str "pairs")) .nil)) .nil)) (.seq (.ret (.pr .tuple (.cons (.lc [2] (.name 2) (.ival (.var 0)) (.cst (.bl true)) (.tup (.cons (.ix (.var 2) (.cst (.int 0))) (.cons (.call 58 [0, 1] [] (.cons (.var 2) (.cons (.var 1) .nil)) .nil) (.cons (.ix (.var 2) (.cst (.int 2))) .nil))))) .nil))) .skip))))
def b60 : Sm := (.seq (.drop (.call 38 [0, 1] [.str "trust"] (.cons (.var 0) .nil) .nil)) (.seq (.ret (.call 55 [0] [] (.cons (.var 0) .nil) .nil)) .skip))
def b61 : Sm := (.seq (.ret (.dct ["cells", "spot", "rest", "turn"] (.cons (.lc [1] (.name 1) (.ival (.slc (.var 0) .nop (.cons (.cst (.int 61)) .nil))) (.cst (.bl true)) (.pr .int (.cons (.var 1) .nil))) (.cons (.cst (.int 0)) (.cons (.cst (.int 0)) (.cons (.cst (.int 0)) .nil)))))) .skip)
def b62 : Sm := (.seq (.setk (.var 0) (.cst (.str "turn")) (.op .add (.ix (.var 0) (.cst (.str "turn"))) (.cst (.int 1)))) (.seq (.ite (.cmp .gt (.ix (.var 0) (.cst (.str "rest"))) (.cst (.int 0))) (.seq (.asg (.name 2) (.op .md (.pr .int (.cons (.ix (.var 0) (.cst (.str "rest"))) .nil)) (.var 1))) (.seq (.setk (.var 0) (.cst (.str "rest")) (.op .fdiv (.ix (.var 0) (.cst (.str "rest"))) (.var 1))) (.seq (.ret (.var 2)) .skip))) .skip) (.seq (.par [3, 4] (.cons (.ix (.var 0) (.cst (.str "spot"))) (.cons (.ix (.var 0) (.cst (.str "cells"))) .nil))) (.seq (.setk (.var 0) (.cst (.str "spot")) (.op .add (.var 3) (.cst (.int 1)))) (.seq (.asg (.name 5) (.ite (.cmp .ne (.var 4) (.lst .nil)) (.ix (.var 4) (.op .md (.pr .int (.cons (.var 3) .nil)) (.pr .len (.cons (.var 4) .nil)))) (.cst (.int 601201)))) (.seq (.ite (.andd (.cmp .ge (.var 5) (.op .pw (.cst (.int 10)) (.cst (.int 18)))) (.cmp .lt (.var 3) (.pr .len (.cons (.var 4) .nil)))) (.seq (.setk (.var 0) (.cst (.str "rest")) (.op .fdiv (.var 5) (.var 1))) (.seq (.ret (.op .md (.pr .int (.cons (.var 5) .nil)) (.var 1))) .skip)) .skip) (.seq (.asg (.name 6) (.op .md (.pr .int (.cons (.op .add (.op .add (.op .md (.pr .int (.cons (.var 5) .nil)) (.cst (.int 1000000123))) (.op .mul (.cst (.int 50021)) (.ix (.var 0) (.cst (.str "turn"))))) (.cst (.int 311))) .nil)) (.cst (.int 2147483059)))) (.seq (.asg (.name 6) (.op .md (.pr .int (.cons (.op .add (.op .mul (.var 6) (.var 6)) (.op .mul (.cst (.int 60013)) (.ix (.var 0) (.cst (.str "turn"))))) .nil)) (.cst (.int 2147482951)))) (.seq (.ret (.op .md (.pr .int (.cons (.op .fdiv (.op .md (.pr .int (.cons (.op .add (.op .mul (.var 6) (.var 6)) (.op .mul (.cst (.int 127)) (.var 6))) .nil)) (.cst (.int 2147482811))) (.cst (.int 16))) .nil)) (.var 1))) .skip)))))))))
def b63 : Sm := (.seq (.ret (.cmp .eq (.pr .repr (.cons (.var 0) .nil)) (.pr .repr (.cons (.var 1) .nil)))) .skip)
def b64 : Sm := (.seq (.par [1, 2] (.cons (.tup (.cons (.tup (.cons (.cst (.str "a")) (.cons (.cst (.str "b")) .nil))) (.cons (.tup (.cons (.cst (.str "a")) (.cons (.cst (.str "c")) .nil))) (.cons (.tup (.cons (.cst (.str "b")) (.cons (.cst (.str "c")) .nil))) .nil)))) (.cons (.fresh (.lst .nil)) .nil))) (.seq (.forr (.name 3) (.ival (.cst (.str "abc"))) (.seq (.asg (.name 4) (.pr .tuple (.cons (.lc [5] (.name 5) (.ival (.cst (.str "abc"))) (.cmp .ne (.var 5) (.var 3)) (.tup (.cons (.var 5) .nil))) .nil))) (.seq (.app (.var 2) (.tup (.cons (.var 3) (.cons (.var 1) (.cons (.ite (.var 0) (.var 4) (.tup (.cons (.tup .nil) .nil))) .nil))))) .skip))) (.seq (.ret (.pr .tuple (.cons (.var 2) .nil))) .skip)))
def b65 : Sm := (.seq (.par [0, 1] (.cons (.tup (.cons (.tup (.cons (.cst (.str "a")) (.cons (.cst (.str "b")) (.cons (.cst (.str "c")) .nil)))) (.cons (.tup (.cons (.cst (.str "a")) (.cons (.cst (.str "b")) (.cons (.cst (.str "d")) .nil)))) (.cons (.tup (.cons (.cst (.str "a")) (.cons (.cst (.str "c")) (.cons (.cst (.str "d")) .nil)))) (.cons (.tup (.cons (.cst (.str "b")) (.cons (.cst (.str "c")) (.cons (.cst (.str "d")) .nil)))) .nil))))) (.cons (.fresh (.lst .nil)) .nil))) (.seq (.forr (.name 2) (.ival (.cst (.str "abcd"))) (.seq (.app (.var 1) (.tup (.cons (.var 2) (.cons (.var 0) (.cons (.pr .tuple (.cons (.lc [3] (.name 3) (.ival (.cst (.str "abcd"))) (.cmp .ne (.var 3) (.var 2)) (.tup (.cons (.var 3) .nil))) .nil)) .nil))))) .skip)) (.seq (.ret (.pr .tuple (.cons (.var 1) .nil))) .skip)))
def b66 : Sm := (.seq (.ret (.tup (.cons (.tup (.cons (.cst (.str "a")) (.cons (.tup (.cons (.tup (.cons (.cst (.str "b")) .nil)) .nil)) (.cons (.tup (.cons (.tup (.cons (.cst (.str "b")) .nil)) .nil)) .nil)))) (.cons (.tup (.cons (.cst (.str "b")) (.cons (.tup (.cons (.tup (.cons (.cst (.str "b")) .nil)) .nil)) (.cons (.tup (.cons (.tup .nil) .nil)) .nil)))) .nil)))) .skip)
def b67 : Sm := (.seq (.par [0, 1, 2] (.cons (.call 64 [0] [] (.cons (.cst (.bl true)) .nil) .nil) (.cons (.call 64 [0] [] (.cons (.cst (.bl false)) .nil) .nil) (.cons (.call 65 [] [] .nil .nil) .nil)))) (.seq (.asg (.name 3) (.tup (.cons (.tup (.cons (.cst (.str "a")) (.cons (.tup (.cons (.tup (.cons (.cst (.str "a")) .nil)) .nil)) (.cons (.tup (.cons (.tup .nil) .nil)) .nil)))) .nil))) (.seq (.asg (.name 4) (.tup (.cons (.tup (.cons (.cst (.str "a")) (.cons (.tup (.cons (.tup (.cons (.cst (.str "a")) .nil)) .nil)) (.cons (.tup (.cons (.tup .nil) (.cons (.tup (.cons (.cst (.str "b")) (.cons (.cst (.str "c")) .nil))) (.cons (.tup (.cons (.cst (.str "c")) .nil)) .nil)))) .nil)))) (.cons (.tup (.cons (.cst (.str "b")) (.cons (.tup (.cons (.tup (.cons (.cst (.str "b")) .nil)) .nil)) (.cons (.tup (.cons (.tup (.cons (.cst (.str "a")) .nil)) (.cons (.tup (.cons (.cst (.str "c")) .nil)) .nil))) .nil)))) (.cons (.tup (.cons (.cst (.str "c")) (.cons (.tup (.cons (.tup (.cons (.cst (.str "c")) .nil)) .nil)) (.cons (.tup (.cons (.tup .nil) .nil)) .nil)))) .nil))))) (.seq (.asg (.name 5) (.fresh (.lst (.cons (.call 42 [0, 1, 2] [] (.cons (.var 0) (.cons (.cst (.str "a")) (.cons (.tup (.cons (.cst (.str "b")) .nil)) .nil))) .nil) (.cons (.call 42 [0, 1, 2] [] (.cons (.var 0) (.cons (.cst (.str "a")) (.cons (.tup (.cons (.cst (.str "b")) (.cons (.cst (.str "c")) .nil))) .nil))) .nil) .nil))))) (.seq (.asg (.name 5) (.fresh (.op .add (.var 5) (.lst (.cons (.call 42 [0, 1, 2] [] (.cons (.var 0) (.cons (.cst (.str "a")) (.cons (.tup (.cons (.cst (.str "a")) .nil)) .nil))) .nil) .nil))))) (.seq (.asg (.name 5) (.fresh (.op .add (.var 5) (.lst (.cons (.call 42 [0, 1, 2] [] (.cons (.var 1) (.cons (.cst (.str "b")) (.cons (.tup .nil) .nil))) .nil) (.cons (.call 42 [2, 1, 0] [] .nil (.cons (.tup (.cons (.cst (.str "c")) .nil)) (.cons (.cst (.str "b")) (.cons (.var 0) .nil)))) .nil)))))) (.seq (.asg (.name 5) (.fresh (.op .add (.var 5) (.lst (.cons (.call 42 [0, 1, 2] [] (.cons (.var 1) (.cons (.cst (.str "a")) (.cons (.tup (.cons (.cst (.str "b")) .nil)) .nil))) .nil) .nil))))) (.seq (.asg (.name 6) (.lst (.cons (.cst (.bl true)) (.cons (.cst (.bl false)) (.cons (.cst (.bl false)) (.cons (.cst (.bl true)) (.cons (.cst (.bl true)) (.cons (.cst (.bl false)) .nil)))))))) (.seq (.asg (.name 5) (.fresh (.op .add (.var 5) (.lst (.cons (.call 42 [0, 1, 2] [] (.cons (.var 4) (.cons (.cst (.str "a")) (.cons (.tup (.cons (.cst (.str "b")) (.cons (.cst (.str "c")) .nil))) .nil))) .nil) (.cons (.call 42 [0, 1, 2] [] (.cons (.var 4) (.cons (.cst (.str "c")) (.cons (.tup .nil) .nil))) .nil) .nil)))))) (.seq (.asg (.name 5) (.fresh (.op .add (.var 5) (.lst (.cons (.call 42 [0, 1, 2] [] (.cons (.var 4) (.cons (.cst (.str "a")) (.cons (.tup (.cons (.cst (.str "a")) (.cons (.cst (.str "b")) .nil))) .nil))) .nil) .nil))))) (.seq (.asg (.name 6) (.op .add (.var 6) (.lst (.cons (.cst (.bl true)) (.cons (.cst (.bl true)) (.cons (.cst (.bl false)) .nil)))))) (.seq (.asg (.name 5) (.fresh (.op .add (.var 5) (.lst (.cons (.call 43 [0, 1] [] (.cons (.var 0) (.cons (.tup .nil) .nil)) .nil) (.cons (.call 43 [0, 1] [] (.cons (.var 1) (.cons (.tup (.cons (.cst (.str "a")) .nil)) .nil)) .nil) .nil)))))) (.seq (.asg (.name 5) (.fresh (.op .add (.var 5) (.lst (.cons (.call 43 [1, 0] [] .nil (.cons (.tup (.cons (.cst (.str "c")) .nil)) (.cons (.var 0) .nil))) .nil))))) (.seq (.asg (.name 6) (.op .add (.var 6) (.lst (.cons (.tup (.cons (.cst (.str "a")) (.cons (.cst (.str "b")) (.cons (.cst (.str "c")) .nil)))) (.cons (.tup .nil) (.cons (.tup (.cons (.cst (.str "a")) (.cons (.cst (.str "b")) .nil))) .nil)))))) (.seq (.asg (.name 5) (.fresh (.op .add (.var 5) (.lst (.cons (.call 43 [0, 1] [] (.cons (.var 0) (.cons (.tup (.cons (.cst (.str "a")) (.cons (.cst (.str "b")) .nil))) .nil)) .nil) (.cons (.call 43 [0, 1] [] (.cons (.var 4) (.cons (.tup (.cons (.cst (.str "b")) (.cons (.cst (.str "c")) .nil))) .nil)) .nil) .nil)))))) (.seq (.asg (.name 5) (.fresh (.op .add (.var 5) (.lst (.cons (.call 43 [0, 1] [] (.cons (.var 4) (.cons (.tup (.cons (.cst (.str "c")) .nil)) .nil)) .nil) .nil))))) (.seq (.asg (.name 6) (.op .add (.var 6) (.lst (.cons (.tup .nil) (.cons (.tup (.cons (.cst (.str "a")) .nil)) (.cons (.tup (.cons (.cst (.str "a")) (.cons (.cst (.str "b")) .nil))) .nil)))))) (.seq (.asg (.name 5) (.fresh (.op .add (.var 5) (.lst (.cons (.call 44 [0, 1] [] (.cons (.var 0) (.cons (.cst (.str "a")) .nil)) .nil) (.cons (.call 44 [0, 1] [] (.cons (.var 4) (.cons (.cst (.str "a")) .nil)) .nil) .nil)))))) (.seq (.asg (.name 5) (.fresh (.op .add (.var 5) (.lst (.cons (.call 44 [1, 0] [] .nil (.cons (.cst (.str "c")) (.cons (.var 4) .nil))) .nil))))) (.seq (.asg (.name 6) (.op .add (.var 6) (.lst (.cons (.tup (.cons (.tup (.cons (.cst (.str "b")) .nil)) (.cons (.tup (.cons (.cst (.str "c")) .nil)) .nil))) (.cons (.tup (.cons (.tup (.cons (.cst (.str "b")) (.cons (.cst (.str "c")) .nil))) .nil)) (.cons (.tup (.cons (.tup .nil) .nil)) .nil)))))) (.seq (.asg (.name 5) (.fresh (.op .add (.var 5) (.lst (.cons (.call 44 [0, 1] [] (.cons (.var 3) (.cons (.cst (.str "a")) .nil)) .nil) (.cons (.call 45 [0, 1, 2] [] (.cons (.var 0) (.cons (.cst (.str "a")) (.cons (.cst (.str "b")) .nil))) .nil) .nil)))))) (.seq (.asg (.name 5) (.fresh (.op .add (.var 5) (.lst (.cons (.call 45 [0, 1, 2] [] (.cons (.var 1) (.cons (.cst (.str "a")) (.cons (.cst (.str "b")) .nil))) .nil) .nil))))) (.seq (.asg (.name 6) (.op .add (.var 6) (.lst (.cons (.tup (.cons (.tup .nil) .nil)) (.cons (.tup (.cons (.tup (.cons (.cst (.str "c")) .nil)) .nil)) (.cons (.tup (.cons (.tup .nil) .nil)) .nil)))))) (.seq (.asg (.name 5) (.fresh (.op .add (.var 5) (.lst (.cons (.call 45 [0, 1, 2] [] (.cons (.var 2) (.cons (.cst (.str "a")) (.cons (.cst (.str "b")) .nil))) .nil) (.cons (.call 45 [0, 1, 2] [] (.cons (.var 2) (.cons (.cst (.str "d")) (.cons (.cst (.str "d")) .nil))) .nil) .nil)))))) (.seq (.asg (.name 5) (.fresh (.op .add (.var 5) (.lst (.cons (.call 45 [0, 1, 2] [] (.cons (.var 4) (.cons (.cst (.str "a")) (.cons (.cst (.str "b")) .nil))) .nil) .nil))))) (.seq (.asg (.name 6) (.op .add (.var 6) (.lst (.cons (.tup (.cons (.tup (.cons (.cst (.str "c")) .nil)) (.cons (.tup (.cons (.cst (.str "d")) .nil)) .nil))) (.cons (.tup (.cons (.tup (.cons (.cst (.str "a")) .nil)) (.cons (.tup (.cons (.cst (.str "b")) .nil)) (.cons (.tup (.cons (.cst (.str "c")) .nil)) .nil)))) (.cons (.tup (.cons (.tup (.cons (.cst (.str "c")) .nil)) .nil)) .nil)))))) (.seq (.app (.var 5) (.call 45 [2, 1, 0] [] .nil (.cons (.cst (.str "a")) (.cons (.cst (.str "c")) (.cons (.var 4) .nil))))) (.seq (.ret (.call 63 [0, 1] [] (.cons (.frz (.var 5)) (.cons (.op .add (.var 6) (.lst (.cons (.tup (.cons (.tup .nil) .nil)) .nil))) .nil)) .nil)) .skip))))))))))))))))))))))))))))
def b68 : Sm := (.seq (.par [0, 1] (.cons (.call 64 [0] [] (.cons (.cst (.bl true)) .nil) .nil) (.cons (.call 64 [0] [] (.cons (.cst (.bl false)) .nil) .nil) .nil))) (.seq (.par [2, 3] (.cons (.call 65 [] [] .nil .nil) (.cons (.call 66 [] [] .nil .nil) .nil))) (.seq (.asg (.name 4) (.tup (.cons (.tup (.cons (.cst (.str "a")) (.cons (.tup (.cons (.tup (.cons (.cst (.str "a")) .nil)) .nil)) (.cons (.tup (.cons (.tup .nil) .nil)) .nil)))) (.cons (.tup (.cons (.cst (.str "b")) (.cons (.tup (.cons (.tup (.cons (.cst (.str "a")) (.cons (.cst (.str "b")) .nil))) (.cons (.tup (.cons (.cst (.str "b")) .nil)) .nil))) (.cons (.tup (.cons (.tup .nil) .nil)) .nil)))) .nil)))) (.seq (.asg (.name 5) (.lst (.cons (.call 56 [0, 1, 2] [] (.cons (.var 0) (.cons (.tup (.cons (.cst (.str "a")) (.cons (.cst (.int 1)) .nil))) (.cons (.tup (.cons (.cst (.str "b")) (.cons (.cst (.int 2)) .nil))) .nil))) .nil) (.cons (.call 56 [0, 1, 2] [] (.cons (.var 0) (.cons (.tup (.cons (.cst (.str "a")) (.cons (.cst (.int 0)) .nil))) (.cons (.tup (.cons (.cst (.str "a")) (.cons (.cst (.int 2)) .nil))) .nil))) .nil) .nil)))) (.seq (.asg (.name 5) (.op .add (.var 5) (.lst (.cons (.call 56 [0, 1, 2] [] (.cons (.var 0) (.cons (.tup (.cons (.cst (.str "a")) (.cons (.cst (.int 0)) .nil))) (.cons (.tup (.cons (.cst (.str "b")) (.cons (.cst (.int 0)) .nil))) .nil))) .nil) .nil)))) (.seq (.asg (.name 6) (.lst (.cons (.tup (.cons (.cst (.str "c")) .nil)) (.cons (.tup (.cons (.cst (.str "b")) .nil)) (.cons (.cst .non) .nil))))) (.seq (.asg (.name 5) (.op .add (.var 5) (.lst (.cons (.call 56 [2, 1, 0] [] .nil (.cons (.tup (.cons (.cst (.str "a")) (.cons (.cst (.int 0)) .nil))) (.cons (.tup (.cons (.cst (.str "a")) (.cons (.cst (.int 0)) .nil))) (.cons (.var 3) .nil)))) .nil)))) (.seq (.asg (.name 5) (.op .add (.var 5) (.lst (.cons (.call 56 [0, 1, 2] [] (.cons (.var 3) (.cons (.tup (.cons (.cst (.str "b")) (.cons (.cst (.int 0)) .nil))) (.cons (.tup (.cons (.cst (.str "b")) (.cons (.cst (.int 0)) .nil))) .nil))) .nil) .nil)))) (.seq (.asg (.name 6) (.op .add (.var 6) (.lst (.cons (.tup (.cons (.cst (.str "b")) .nil)) (.cons (.cst .non) .nil))))) (.seq (.asg (.name 5) (.op .add (.var 5) (.lst (.cons (.call 56 [0, 1, 2] [] (.cons (.var 4) (.cons (.tup (.cons (.cst (.str "a")) (.cons (.cst (.int 0)) .nil))) (.cons (.tup (.cons (.cst (.str "b")) (.cons (.cst (.int 1)) .nil))) .nil))) .nil) (.cons (.call 56 [0, 1, 2] [] (.cons (.var 4) (.cons (.tup (.cons (.cst (.str "b")) (.cons (.cst (.int 0)) .nil))) (.cons (.tup (.cons (.cst (.str "a")) (.cons (.cst (.int 0)) .nil))) .nil))) .nil) .nil))))) (.seq (.asg (.name 5) (.op .add (.var 5) (.lst (.cons (.pr .len (.cons (.call 57 [0] [] (.cons (.var 0) .nil) .nil) .nil)) .nil)))) (.seq (.asg (.name 6) (.op .add (.var 6) (.lst (.cons (.tup .nil) (.cons (.cst .non) (.cons (.cst (.int 12)) .nil)))))) (.seq (.asg (.name 5) (.op .add (.var 5) (.lst (.cons (.call 57 [0] [] (.cons (.var 1) .nil) .nil) (.cons (.call 57 [0] [] (.cons (.var 2) .nil) .nil) (.cons (.call 60 [0] [] (.cons (.var 2) .nil) .nil) .nil)))))) (.seq (.asg (.name 5) (.op .add (.var 5) (.lst (.cons (.call 57 [0] [] (.cons (.var 3) .nil) .nil) (.cons (.call 60 [0] [] (.cons (.var 3) .nil) .nil) .nil))))) (.seq (.asg (.name 6) (.op .add (.var 6) (.lst (.cons (.tup .nil) (.cons (.tup .nil) (.cons (.tup .nil) (.cons (.tup (.cons (.tup (.cons (.tup (.cons (.cst (.str "a")) (.cons (.cst (.int 0)) .nil))) (.cons (.tup (.cons (.cst (.str "a")) (.cons (.cst (.int 0)) .nil))) .nil))) .nil)) (.cons (.cst .non) .nil)))))))) (.seq (.asg (.name 5) (.op .add (.var 5) (.lst (.cons (.call 57 [0] [] .nil (.cons (.var 4) .nil)) (.cons (.call 60 [0] [] (.cons (.var 4) .nil) .nil) .nil))))) (.seq (.asg (.name 5) (.op .add (.var 5) (.lst (.cons (.ix (.call 59 [0, 1] [] (.cons (.var 0) (.cons (.tup (.cons (.tup (.cons (.cst (.str "a")) (.cons (.cst (.int 0)) .nil))) (.cons (.tup (.cons (.cst (.str "a")) (.cons (.cst (.int 2)) .nil))) .nil))) .nil)) .nil) (.cst (.int 0))) .nil)))) (.seq (.asg (.name 6) (.op .add (.var 6) (.lst (.cons (.tup (.cons (.tup (.cons (.tup (.cons (.cst (.str "a")) (.cons (.cst (.int 0)) .nil))) (.cons (.tup (.cons (.cst (.str "b")) (.cons (.cst (.int 1)) .nil))) .nil))) .nil)) (.cons (.tup (.cons (.tup (.cons (.cst (.str "b")) (.cons (.cst (.int 1)) .nil))) .nil)) (.cons (.tup (.cons (.cst (.str "a")) (.cons (.tup (.cons (.tup (.cons (.cst (.str "a")) (.cons (.cst (.str "c")) .nil))) .nil)) (.cons (.tup (.cons (.tup (.cons (.cst (.str "b")) .nil)) (.cons (.tup (.cons (.cst (.str "c")) .nil)) .nil))) .nil)))) .nil)))))) (.seq (.asg (.name 5) (.op .add (.var 5) (.lst (.cons (.call 59 [1, 0] [] .nil (.cons (.tup .nil) (.cons (.var 3) .nil))) (.cons (.call 59 [0, 1] [] (.cons (.var 4) (.cons (.tup (.cons (.tup (.cons (.cst (.str "b")) (.cons (.cst (.int 1)) .nil))) .nil)) .nil)) .nil) .nil))))) (.seq (.ret (.call 63 [0, 1] [] (.cons (.var 5) (.cons (.op .add (.var 6) (.lst (.cons (.var 3) (.cons (.tup (.cons (.ix (.var 4) (.cst (.int 0))) (.cons (.tup (.cons (.cst (.str "b")) (.cons (.tup (.cons (.tup (.cons (.cst (.str "a")) (.cons (.cst (.str "b")) .nil))) .nil)) (.cons (.tup (.cons (.tup .nil) .nil)) .nil)))) .nil))) .nil)))) .nil)) .nil)) .skip))))))))))))))))))))
def b69 : Sm := (.seq (.asg (.name 1) (.fresh (.lst (.cons (.heard 0 ["_law_of_trust", "_law_of_house", "_law_are_sets_refused", "_law_are_refused"] "told" 74 (.call 42 [0, 1, 2] [] (.cons (.var 0) (.cons (.cst .non) (.cons (.cst .non) .nil))) .nil)) .nil)))) (.seq (.app (.var 1) (.heard 0 ["_law_of_trust", "_law_of_house", "_law_are_sets_refused", "_law_are_refused"] "told" 74 (.call 43 [1, 0] [] .nil (.cons (.cst .non) (.cons (.var 0) .nil))))) (.seq (.app (.var 1) (.heard 0 ["_law_of_trust", "_law_of_house", "_law_are_sets_refused", "_law_are_refused"] "told" 74 (.call 44 [0, 1] [] (.cons (.var 0) (.cons (.cst .non) .nil)) .nil))) (.seq (.app (.var 1) (.heard 0 ["_law_of_trust", "_law_of_house", "_law_are_sets_refused", "_law_are_refused"] "told" 74 (.call 45 [0, 1, 2] [] (.cons (.var 0) (.cons (.cst .non) (.cons (.cst .non) .nil))) .nil))) (.seq (.app (.var 1) (.heard 0 ["_law_of_trust", "_law_of_house", "_law_are_sets_refused", "_law_are_refused"] "told" 74 (.call 56 [0, 1, 2] [] (.cons (.var 0) (.cons (.cst .non) (.cons (.cst .non) .nil))) .nil))) (.seq (.app (.var 1) (.heard 0 ["_law_of_trust", "_law_of_house", "_law_are_sets_refused", "_law_are_refused"] "told" 74 (.call 57 [0] [] .nil (.cons (.var 0) .nil)))) (.seq (.app (.var 1) (.heard 0 ["_law_of_trust", "_law_of_house", "_law_are_sets_refused", "_law_are_refused"] "told" 74 (.call 59 [0, 1] [] (.cons (.var 0) (.cons (.cst .non) .nil)) .nil))) (.seq (.app (.var 1) (.heard 0 ["_law_of_trust", "_law_of_house", "_law_are_sets_refused", "_law_are_refused"] "told" 74 (.call 60 [0] [] (.cons (.var 0) .nil) .nil))) (.seq (.app (.var 1) (.heard 0 ["_law_of_trust", "_law_of_house", "_law_are_sets_refused", "_law_are_refused"] "told" 74 (.call 46 [0, 1] [] (.cons (.var 0) (.cons (.cst .non) .nil)) .nil))) (.seq (.app (.var 1) (.heard 0 ["_law_of_trust", "_law_of_house", "_law_are_sets_refused", "_law_are_refused"] "told" 74 (.call 47 [0, 1, 2] [] (.cons (.var 0) (.cons (.cst .non) (.cons (.cst .non) .nil))) .nil))) (.seq (.app (.var 1) (.heard 0 ["_law_of_trust", "_law_of_house", "_law_are_sets_refused", "_law_are_refused"] "told" 74 (.call 48 [2, 1, 0] [] .nil (.cons (.cst .non) (.cons (.cst .non) (.cons (.var 0) .nil)))))) (.seq (.app (.var 1) (.heard 0 ["_law_of_trust", "_law_of_house", "_law_are_sets_refused", "_law_are_refused"] "told" 74 (.call 49 [0, 1] [] (.cons (.var 0) (.cons (.cst .non) .nil)) .nil))) (.seq (.app (.var 1) (.heard 0 ["_law_of_trust", "_law_of_house", "_law_are_sets_refused", "_law_are_refused"] "told" 74 (.call 50 [0, 1] [] (.cons (.var 0) (.cons (.cst .non) .nil)) .nil))) (.seq (.ret (.var 1)) .skip))))))))))))))
def b70 : Sm := (.seq (.asg (.name 2) (.fresh (.lst (.cons (.heard 1 ["_law_of_trust", "_law_of_house", "_law_are_sets_refused", "_law_are_refused"] "told" 74 (.call 42 [0, 1, 2] [] (.cons (.var 0) (.cons (.var 1) (.cons (.cst .non) .nil))) .nil)) .nil)))) (.seq (.app (.var 2) (.heard 1 ["_law_of_trust", "_law_of_house", "_law_are_sets_refused", "_law_are_refused"] "told" 74 (.call 44 [0, 1] [] (.cons (.var 0) (.cons (.var 1) .nil)) .nil))) (.seq (.app (.var 2) (.heard 1 ["_law_of_trust", "_law_of_house", "_law_are_sets_refused", "_law_are_refused"] "told" 74 (.call 45 [0, 1, 2] [] (.cons (.var 0) (.cons (.var 1) (.cons (.cst .non) .nil))) .nil))) (.seq (.app (.var 2) (.heard 1 ["_law_of_trust", "_law_of_house", "_law_are_sets_refused", "_law_are_refused"] "told" 74 (.call 46 [1, 0] [] .nil (.cons (.var 1) (.cons (.var 0) .nil))))) (.seq (.app (.var 2) (.heard 1 ["_law_of_trust", "_law_of_house", "_law_are_sets_refused", "_law_are_refused"] "told" 74 (.call 47 [0, 1, 2] [] (.cons (.var 0) (.cons (.var 1) (.cons (.cst .non) .nil))) .nil))) (.seq (.app (.var 2) (.heard 1 ["_law_of_trust", "_law_of_house", "_law_are_sets_refused", "_law_are_refused"] "told" 74 (.call 48 [0, 1, 2] [] (.cons (.var 0) (.cons (.var 1) (.cons (.cst .non) .nil))) .nil))) (.seq (.app (.var 2) (.heard 1 ["_law_of_trust", "_law_of_house", "_law_are_sets_refused", "_law_are_refused"] "told" 74 (.call 49 [0, 1] [] (.cons (.var 0) (.cons (.var 1) .nil)) .nil))) (.seq (.app (.var 2) (.heard 1 ["_law_of_trust", "_law_of_house", "_law_are_sets_refused", "_law_are_refused"] "told" 74 (.call 50 [1, 0] [] .nil (.cons (.var 1) (.cons (.var 0) .nil))))) (.seq (.ret (.var 2)) .skip)))))))))
def b71 : Sm := (.seq (.forr (.name 4) (.ival (.lst (.cons (.cst .non) (.cons (.cst (.int 0)) (.cons (.cst (.str "a")) (.cons (.lst (.cons (.cst (.str "a")) .nil)) (.cons (.tup (.cons (.cst (.str "b")) (.cons (.cst (.str "a")) .nil))) (.cons (.tup (.cons (.cst (.str "a")) (.cons (.cst (.str "a")) .nil))) (.cons (.tup (.cons (.cst (.str "d")) .nil)) (.cons (.tup (.cons (.cst (.int 1)) .nil)) (.cons (.tup (.cons (.tup (.cons (.cst (.str "a")) .nil)) .nil)) (.cons (.tup (.cons (.cst (.str "")) .nil)) (.cons (.tup (.cons (.cst (.str "A")) .nil)) (.cons (.tup (.cons (.cst (.str "a")) (.cons (.cst .non) .nil))) .nil)))))))))))))) (.seq (.asg (.name 1) (.fresh (.lst (.cons (.heard 2 ["_law_of_trust", "_law_of_house", "_law_are_sets_refused", "_law_are_refused"] "told" 74 (.call 42 [0, 1, 2] [] (.cons (.var 0) (.cons (.cst (.str "a")) (.cons (.var 4) .nil))) .nil)) .nil)))) (.seq (.app (.var 1) (.heard 2 ["_law_of_trust", "_law_of_house", "_law_are_sets_refused", "_law_are_refused"] "told" 74 (.call 43 [0, 1] [] (.cons (.var 0) (.cons (.var 4) .nil)) .nil))) (.seq (.app (.var 1) (.heard 2 ["_law_of_trust", "_law_of_house", "_law_are_sets_refused", "_law_are_refused"] "told" 74 (.call 47 [0, 1, 2] [] (.cons (.var 0) (.cons (.cst (.str "a")) (.cons (.var 4) .nil))) .nil))) (.seq (.app (.var 1) (.heard 2 ["_law_of_trust", "_law_of_house", "_law_are_sets_refused", "_law_are_refused"] "told" 74 (.call 48 [2, 1, 0] [] .nil (.cons (.var 4) (.cons (.cst (.str "b")) (.cons (.var 0) .nil)))))) (.seq (.asg (.name 2) (.op .add (.rep (.lst (.cons (.tup (.cons (.cst (.str "use")) (.cons (.cst (.str "fall")) (.cons (.neg (.cst (.int 1))) .nil)))) .nil)) 2) (.rep (.lst (.cons (.tup (.cons (.cst (.str "use")) (.cons (.cst (.str "lot")) (.cons (.neg (.cst (.int 1))) .nil)))) .nil)) 2))) (.seq (.ite (.nott (.call 63 [0, 1] [] (.cons (.frz (.var 1)) (.cons (.var 2) .nil)) .nil)) (.seq (.ret (.cst (.bl false))) .skip) .skip) .skip))))))) (.seq (.forr (.name 4) (.ival (.lst (.cons (.cst .non) (.cons (.cst (.str "a")) (.cons (.tup (.cons (.cst (.str "a")) .nil)) (.cons (.tup (.cons (.cst (.str "a")) (.cons (.cst (.int 3)) .nil))) (.cons (.tup (.cons (.cst (.str "a")) (.cons (.neg (.cst (.int 1))) .nil))) (.cons (.tup (.cons (.cst (.str "a")) (.cons (.cst (.bl true)) .nil))) (.cons (.tup (.cons (.cst (.str "d")) (.cons (.cst (.int 0)) .nil))) (.cons (.lst (.cons (.cst (.str "a")) (.cons (.cst (.int 0)) .nil))) (.cons (.tup (.cons (.cst (.str "a")) (.cons (.cst (.int 0)) (.cons (.cst (.int 0)) .nil)))) (.cons (.tup (.cons (.cst (.int 0)) (.cons (.cst (.str "a")) .nil))) (.cons (.tup .nil) .nil))))))))))))) (.seq (.asg (.name 1) (.fresh (.lst (.cons (.heard 2 ["_law_of_trust", "_law_of_house", "_law_are_sets_refused", "_law_are_refused"] "told" 74 (.call 56 [0, 1, 2] [] (.cons (.var 0) (.cons (.var 4) (.cons (.cst .non) .nil))) .nil)) .nil)))) (.seq (.app (.var 1) (.heard 2 ["_law_of_trust", "_law_of_house", "_law_are_sets_refused", "_law_are_refused"] "told" 74 (.call 56 [0, 1, 2] [] (.cons (.var 0) (.cons (.tup (.cons (.cst (.str "a")) (.cons (.cst (.int 0)) .nil))) (.cons (.var 4) .nil))) .nil))) (.seq (.app (.var 1) (.heard 2 ["_law_of_trust", "_law_of_house", "_law_are_sets_refused", "_law_are_refused"] "told" 74 (.call 59 [0, 1] [] (.cons (.var 0) (.cons (.tup (.cons (.var 4) .nil)) .nil)) .nil))) (.seq (.ite (.nott (.call 63 [0, 1] [] (.cons (.frz (.var 1)) (.cons (.lst (.cons (.tup (.cons (.cst (.str "use")) (.cons (.cst (.str "one")) (.cons (.neg (.cst (.int 1))) .nil)))) (.cons (.tup (.cons (.cst (.str "use")) (.cons (.cst (.str "other")) (.cons (.neg (.cst (.int 1))) .nil)))) (.cons (.tup (.cons (.cst (.str "use")) (.cons (.cst (.str "pairs")) (.cons (.neg (.cst (.int 1))) .nil)))) .nil)))) .nil)) .nil)) (.seq (.ret (.cst (.bl false))) .skip) .skip) .skip))))) (.seq (.asg (.name 3) (.tup (.cons (.tup (.cons (.cst (.str "b")) (.cons (.cst (.int 0)) .nil))) (.cons (.tup (.cons (.cst (.str "b")) (.cons (.cst (.int 1)) .nil))) (.cons (.tup (.cons (.cst (.str "b")) (.cons (.cst (.int 2)) .nil))) .nil))))) (.seq (.forr (.name 4) (.ival (.lst (.cons (.cst .non) (.cons (.cst (.int 0)) (.cons (.lst (.cons (.tup (.cons (.cst (.str "a")) (.cons (.cst (.int 0)) .nil))) .nil)) (.cons (.tup (.cons (.tup (.cons (.cst (.str "a")) (.cons (.cst (.int 1)) .nil))) (.cons (.tup (.cons (.cst (.str "a")) (.cons (.cst (.int 0)) .nil))) .nil))) (.cons (.tup (.cons (.tup (.cons (.cst (.str "a")) (.cons (.cst (.int 0)) .nil))) (.cons (.tup (.cons (.cst (.str "a")) (.cons (.cst (.int 0)) .nil))) .nil))) (.cons (.var 3) (.cons (.op .add (.tup (.cons (.tup (.cons (.cst (.str "a")) (.cons (.cst (.int 0)) .nil))) .nil)) (.var 3)) .nil))))))))) (.seq (.ite (.nott (.call 63 [0, 1] [] (.cons (.heard 2 ["_law_of_trust", "_law_of_house", "_law_are_sets_refused", "_law_are_refused"] "told" 74 (.call 59 [0, 1] [] (.cons (.var 0) (.cons (.var 4) .nil)) .nil)) (.cons (.tup (.cons (.cst (.str "use")) (.cons (.cst (.str "pairs")) (.cons (.neg (.cst (.int 1))) .nil)))) .nil)) .nil)) (.seq (.ret (.cst (.bl false))) .skip) .skip) .skip)) (.seq (.ret (.cst (.bl true))) .skip)))))
def b72 : Sm := (.seq (.asg (.name 5) (.call 64 [0] [] (.cons (.cst (.bl true)) .nil) .nil)) (.seq (.asg (.name 1) (.lst (.cons (.cst .non) (.cons (.cst (.int 0)) (.cons (.cst (.bl true)) (.cons (.cst (.str "a")) (.cons (.tup .nil) (.cons (.tup (.cons (.cst (.str "a")) .nil)) (.cons (.pr .list (.cons (.var 5) .nil)) (.cons (.rev (.var 5)) (.cons (.slc (.var 5) .nop (.cons (.cst (.int 2)) .nil)) .nil))))))))))) (.seq (.asg (.name 1) (.op .add (.var 1) (.lst (.cons (.tup (.cons (.tup (.cons (.cst (.str "a")) (.cons (.tup .nil) (.cons (.tup (.cons (.tup .nil) .nil)) .nil)))) .nil)) (.cons (.tup (.cons (.tup .nil) .nil)) .nil))))) (.seq (.asg (.name 1) (.op .add (.var 1) (.lst (.cons (.tup (.cons (.tup (.cons (.cst (.str "a")) (.cons (.tup (.cons (.tup (.cons (.cst (.str "a")) .nil)) .nil)) (.cons (.tup (.cons (.tup (.cons (.cst (.str "a")) .nil)) .nil)) .nil)))) .nil)) (.cons (.tup (.cons (.tup (.cons (.cst (.str "a")) (.cons (.tup (.cons (.tup (.cons (.cst (.str "b")) .nil)) .nil)) (.cons (.tup (.cons (.tup .nil) .nil)) .nil)))) .nil)) .nil))))) (.seq (.asg (.name 1) (.op .add (.var 1) (.lst (.cons (.tup (.cons (.tup (.cons (.cst (.str "a")) (.cons (.tup (.cons (.tup (.cons (.cst (.str "a")) .nil)) (.cons (.tup (.cons (.cst (.str "a")) .nil)) .nil))) (.cons (.tup (.cons (.tup .nil) .nil)) .nil)))) .nil)) .nil)))) (.seq (.asg (.name 1) (.op .add (.var 1) (.lst (.cons (.tup (.cons (.tup (.cons (.cst (.str "A")) (.cons (.tup (.cons (.tup (.cons (.cst (.str "A")) .nil)) .nil)) (.cons (.tup (.cons (.tup .nil) .nil)) .nil)))) .nil)) (.cons (.tup (.cons (.tup (.cons (.cst (.str "a")) (.cons (.tup (.cons (.tup (.cons (.cst (.str "a")) .nil)) .nil)) (.cons (.tup .nil) .nil)))) .nil)) (.cons (.tup (.cons (.tup (.cons (.cst (.str "a")) (.cons (.lst (.cons (.tup (.cons (.cst (.str "a")) .nil)) .nil)) (.cons (.tup (.cons (.tup .nil) .nil)) .nil)))) .nil)) .nil)))))) (.seq (.asg (.name 1) (.op .add (.var 1) (.lst (.cons (.op .add (.var 5) (.slc (.var 5) .nop (.cons (.cst (.int 1)) .nil))) .nil)))) (.seq (.asg (.name 2) (.call 62 [0, 1] [] (.cons (.var 0) (.cons (.pr .len (.cons (.var 1) .nil)) .nil)) .nil)) (.seq (.forr (.name 4) (.ival (.op .add (.slc (.var 1) (.cons (.var 2) .nil) .nop) (.slc (.var 1) .nop (.cons (.var 2) .nil)))) (.seq (.ite (.nott (.call 63 [0, 1] [] (.cons (.call 69 [0] [] (.cons (.var 4) .nil) .nil) (.cons (.rep (.lst (.cons (.tup (.cons (.cst (.str "use")) (.cons (.cst (.str "trust")) (.cons (.neg (.cst (.int 1))) .nil)))) .nil)) 13) .nil)) .nil)) (.seq (.ret (.cst (.bl false))) .skip) .skip) .skip)) (.seq (.forr (.name 4) (.ival (.lst (.cons (.cst .non) (.cons (.cst (.int 0)) (.cons (.cst (.bl true)) (.cons (.cst (.str "d")) (.cons (.cst (.str "")) (.cons (.cst (.str "A")) (.cons (.cst (.str "ab")) (.cons (.tup (.cons (.cst (.str "a")) .nil)) (.cons (.lst (.cons (.cst (.str "a")) .nil)) (.cons (.tup .nil) .nil)))))))))))) (.seq (.ite (.nott (.call 63 [0, 1] [] (.cons (.call 70 [0, 1] [] (.cons (.var 5) (.cons (.var 4) .nil)) .nil) (.cons (.rep (.lst (.cons (.tup (.cons (.cst (.str "use")) (.cons (.cst (.str "house")) (.cons (.neg (.cst (.int 1))) .nil)))) .nil)) 8) .nil)) .nil)) (.seq (.ret (.cst (.bl false))) .skip) .skip) (.seq (.asg (.name 3) (.heard 3 ["_law_of_trust", "_law_of_house", "_law_are_sets_refused", "_law_are_refused"] "told" 74 (.call 45 [2, 1, 0] [] .nil (.cons (.var 4) (.cons (.cst (.str "a")) (.cons (.var 5) .nil)))))) (.seq (.ite (.nott (.call 63 [0, 1] [] (.cons (.var 3) (.cons (.tup (.cons (.cst (.str "use")) (.cons (.cst (.str "other")) (.cons (.neg (.cst (.int 1))) .nil)))) .nil)) .nil)) (.seq (.ret (.cst (.bl false))) .skip) .skip) .skip)))) (.seq (.ret (.call 71 [0] [] (.cons (.var 5) .nil) .nil)) .skip)))))))))))
def b73 : Sm := (.seq (.asg (.name 1) (.call 61 [0] [] (.cons (.var 0) .nil) .nil)) (.seq (.ite (.nott (.call 72 [0] [] (.cons (.var 1) .nil) .nil)) (.seq (.ret (.cst (.bl false))) .skip) .skip) (.seq (.asg (.name 2) (.call 62 [0, 1] [] (.cons (.var 1) (.cons (.cst (.int 2)) .nil)) .nil)) (.seq (.forr (.name 3) (.irange (.cons (.cst (.int 2)) .nil)) (.seq (.asg (.name 4) (.op .md (.pr .int (.cons (.op .add (.var 2) (.var 3)) .nil)) (.cst (.int 2)))) (.seq (.ite (.orr (.andd (.cmp .eq (.var 4) (.cst (.int 0))) (.nott (.call 67 [] [] .nil .nil))) (.andd (.cmp .eq (.var 4) (.cst (.int 1))) (.nott (.call 68 [] [] .nil .nil)))) (.seq (.ret (.cst (.bl false))) .skip) .skip) .skip))) (.seq (.ret (.cst (.bl true))) .skip)))))
def b74 : Sm := (.seq (.asg (.name 2) (.lst (.cons (.isx 1 1) (.cons (.isx 1 2) .nil)))) (.seq (.asg (.name 2) (.op .add (.var 2) (.lst (.cons (.isx 1 3) (.cons (.isx 1 4) .nil))))) (.seq (.asg (.name 2) (.op .add (.var 2) (.lst (.cons (.isx 1 7) .nil)))) (.seq (.ite (.andd (.isx 1 5) (.cmp .eq (.var 2) (.lst (.cons (.cst (.bl true)) (.cons (.cst (.bl false)) (.cons (.cst (.bl false)) (.cons (.cst (.bl false)) (.cons (.cst (.bl true)) .nil)))))))) (.seq (.ret (.tup (.cons (.cst (.str "paper")) (.cons (.fld 1 "word") (.cons (.fld 1 "at") .nil))))) .skip) .skip) (.seq (.ite (.andd (.isx 1 6) (.cmp .eq (.var 2) (.lst (.cons (.cst (.bl false)) (.cons (.cst (.bl true)) (.cons (.cst (.bl false)) (.cons (.cst (.bl false)) (.cons (.cst (.bl true)) .nil)))))))) (.seq (.ret (.tup (.cons (.cst (.str "use")) (.cons (.fld 1 "word") (.cons (.fld 1 "at") .nil))))) .skip) .skip) (.seq (.ret (.tup (.cons (.cst (.str "odd")) .nil))) .skip))))))
def gl : List (Str × D) := [("ALPHABET", .str "abcdefghijklmnopqrstuvwxyz"), ("MOST_SIGNS", .int 8), ("ANY", .str "any")]
def N0 : List Str := ["thing"]
def d0 : DefI := ⟨"is_integer", ["thing"], [], [⟨1, [], [0]⟩]⟩
def t0 : Df := ⟨1, 1, b0⟩
def N1 : List Str := ["thing"]
def d1 : DefI := ⟨"is_number", ["thing"], [], [⟨1, [], [0]⟩]⟩
def t1 : Df := ⟨1, 1, b1⟩
def N2 : List Str := ["thing", "many"]
def d2 : DefI := ⟨"is_index", ["thing", "many"], [], [⟨2, [], [0, 1]⟩]⟩
def t2 : Df := ⟨2, 2, b2⟩
def N3 : List Str := ["thing", "names"]
def d3 : DefI := ⟨"is_among", ["thing", "names"], [], [⟨2, [], [0, 1]⟩]⟩
def t3 : Df := ⟨2, 2, b3⟩
def N4 : List Str := ["thing", "sign"]
def d4 : DefI := ⟨"is_name", ["thing"], [], [⟨1, [], [0]⟩]⟩
def t4 : Df := ⟨2, 1, b4⟩
def N5 : List Str := ["thing", "many"]
def d5 : DefI := ⟨"is_tuple_of", ["thing", "many"], [], [⟨2, [], [0, 1]⟩]⟩
def t5 : Df := ⟨2, 2, b5⟩
def N6 : List Str := ["thing"]
def d6 : DefI := ⟨"is_pair", ["thing"], [], [⟨1, [], [0]⟩]⟩
def t6 : Df := ⟨1, 1, b6⟩
def N7 : List Str := ["parts", "one", "other"]
def d7 : DefI := ⟨"are_rising", ["parts"], [], [⟨1, [], [0]⟩]⟩
def t7 : Df := ⟨3, 1, b7⟩
def N8 : List Str := ["thing", "name"]
def d8 : DefI := ⟨"is_names", ["thing"], [], [⟨1, [], [0]⟩]⟩
def t8 : Df := ⟨2, 1, b8⟩
def N9 : List Str := ["thing", "names", "name"]
def d9 : DefI := ⟨"is_names_among", ["thing", "names"], [], [⟨2, [], [0, 1]⟩]⟩
def t9 : Df := ⟨3, 2, b9⟩
def N10 : List Str := ["thing", "names", "one"]
def d10 : DefI := ⟨"are_sets_among", ["thing", "names"], [], [⟨2, [], [0, 1]⟩]⟩
def t10 : Df := ⟨3, 2, b10⟩
def N11 : List Str := ["thing"]
def d11 : DefI := ⟨"is_triple_from", ["thing"], [], [⟨1, [], [0]⟩]⟩
def t11 : Df := ⟨1, 1, b11⟩
def N12 : List Str := ["thing", "k", "one", "houses", "house", "lots", "fears", "other"]
def d12 : DefI := ⟨"trust_fault", ["thing"], [], [⟨1, [], [0]⟩]⟩
def t12 : Df := ⟨8, 1, b12⟩
def N13 : List Str := ["thing"]
def d13 : DefI := ⟨"is_trust", ["thing"], [], [⟨1, [], [0]⟩]⟩
def t13 : Df := ⟨1, 1, b13⟩
def N14 : List Str := ["one", "other", "name"]
def d14 : DefI := ⟨"joint_in", ["one", "other"], [], [⟨2, [], [0, 1]⟩]⟩
def t14 : Df := ⟨3, 2, b14⟩
def N15 : List Str := ["trust", "triple"]
def d15 : DefI := ⟨"houses_in", ["trust"], [], [⟨1, [], [0]⟩]⟩
def t15 : Df := ⟨2, 1, b15⟩
def N16 : List Str := ["trust", "house", "row"]
def d16 : DefI := ⟨"lots_of", ["trust", "house"], [], [⟨2, [], [0, 1]⟩]⟩
def t16 : Df := ⟨3, 2, b16⟩
def N17 : List Str := ["trust", "house", "row"]
def d17 : DefI := ⟨"fears_of", ["trust", "house"], [], [⟨2, [], [0, 1]⟩]⟩
def t17 : Df := ⟨3, 2, b17⟩
def N18 : List Str := ["one", "other", "house"]
def d18 : DefI := ⟨"is_within", ["one", "other"], [], [⟨2, [], [0, 1]⟩]⟩
def t18 : Df := ⟨3, 2, b18⟩
def N19 : List Str := ["lot", "fall", "house"]
def d19 : DefI := ⟨"less_by", ["lot", "fall"], [], [⟨2, [], [0, 1]⟩]⟩
def t19 : Df := ⟨3, 2, b19⟩
def N20 : List Str := ["sets", "some", "found", "late", "one"]
def d20 : DefI := ⟨"least_of", ["sets"], [], [⟨1, [], [0]⟩]⟩
def t20 : Df := ⟨5, 1, b20⟩
def N21 : List Str := ["sets", "some", "found", "late", "one"]
def d21 : DefI := ⟨"greatest_of", ["sets"], [], [⟨1, [], [0]⟩]⟩
def t21 : Df := ⟨5, 1, b21⟩
def N22 : List Str := ["trust", "house", "fall", "fear"]
def d22 : DefI := ⟨"is_safe_by", ["trust", "house", "fall"], [], [⟨3, [], [0, 1, 2]⟩]⟩
def t22 : Df := ⟨4, 3, b22⟩
def N23 : List Str := ["trust", "fall", "house"]
def d23 : DefI := ⟨"safe_by", ["trust", "fall"], [], [⟨2, [], [0, 1]⟩]⟩
def t23 : Df := ⟨3, 2, b23⟩
def N24 : List Str := ["trust", "house", "other", "found", "one", "late"]
def d24 : DefI := ⟨"falls_by", ["trust", "house", "other"], [], [⟨3, [], [0, 1, 2]⟩]⟩
def t24 : Df := ⟨6, 3, b24⟩
def N25 : List Str := ["trust", "house", "lots", "fears", "k"]
def d25 : DefI := ⟨"pairs_in", ["trust"], [], [⟨1, [], [0]⟩]⟩
def t25 : Df := ⟨5, 1, b25⟩
def N26 : List Str := ["trust", "pair"]
def d26 : DefI := ⟨"lot_at", ["trust", "pair"], [], [⟨2, [], [0, 1]⟩]⟩
def t26 : Df := ⟨2, 2, b26⟩
def N27 : List Str := ["trust", "one", "other", "common", "fall"]
def d27 : DefI := ⟨"odds_by", ["trust", "one", "other"], [], [⟨3, [], [0, 1, 2]⟩]⟩
def t27 : Df := ⟨5, 3, b27⟩
def N28 : List Str := ["trust", "pairs", "found", "k", "one", "other"]
def d28 : DefI := ⟨"all_odds_by", ["trust"], [], [⟨1, [], [0]⟩]⟩
def t28 : Df := ⟨6, 1, b28⟩
def N29 : List Str := ["trust", "house", "found", "pair", "fall"]
def d29 : DefI := ⟨"needs_by", ["trust", "house"], [], [⟨2, [], [0, 1]⟩]⟩
def t29 : Df := ⟨5, 2, b29⟩
def N30 : List Str := ["needs", "lot", "need"]
def d30 : DefI := ⟨"first_missed_by", ["needs", "lot"], [], [⟨2, [], [0, 1]⟩]⟩
def t30 : Df := ⟨3, 2, b30⟩
def N31 : List Str := ["needs", "lot"]
def d31 : DefI := ⟨"is_met", ["needs", "lot"], [], [⟨2, [], [0, 1]⟩]⟩
def t31 : Df := ⟨2, 2, b31⟩
def N32 : List Str := ["needs", "found", "need", "late", "lot", "house"]
def d32 : DefI := ⟨"crossings_by", ["needs"], [], [⟨1, [], [0]⟩]⟩
def t32 : Df := ⟨6, 1, b32⟩
def N33 : List Str := ["trust", "thing"]
def d33 : DefI := ⟨"is_house_of", ["trust", "thing"], [], [⟨2, [], [0, 1]⟩]⟩
def t33 : Df := ⟨2, 2, b33⟩
def N34 : List Str := ["trust", "thing"]
def d34 : DefI := ⟨"are_houses_of", ["trust", "thing"], [], [⟨2, [], [0, 1]⟩]⟩
def t34 : Df := ⟨2, 2, b34⟩
def N35 : List Str := ["trust", "thing"]
def d35 : DefI := ⟨"is_pair_of", ["trust", "thing"], [], [⟨2, [], [0, 1]⟩]⟩
def t35 : Df := ⟨2, 2, b35⟩
def N36 : List Str := ["trust", "thing", "one"]
def d36 : DefI := ⟨"are_pairs_of", ["trust", "thing"], [], [⟨2, [], [0, 1]⟩]⟩
def t36 : Df := ⟨3, 2, b36⟩
def N37 : List Str := ["is_fit", "name", "at"]
def d37 : DefI := ⟨"want", ["is_fit", "name", "at"], [(.int (-1))], [⟨2, [], [0, 1, 2]⟩]⟩
def t37 : Df := ⟨3, 3, b37⟩
def N38 : List Str := ["trust", "name"]
def d38 : DefI := ⟨"want_trust", ["trust", "name"], [(.str "trust")], [⟨1, [], [0, 1]⟩]⟩
def t38 : Df := ⟨2, 2, b38⟩
def N39 : List Str := ["trust", "house", "name"]
def d39 : DefI := ⟨"want_house", ["trust", "house", "name"], [(.str "house")], [⟨2, [], [0, 1, 2]⟩, ⟨3, [], [0, 1, 2]⟩]⟩
def t39 : Df := ⟨3, 3, b39⟩
def N40 : List Str := ["trust", "lot", "name"]
def d40 : DefI := ⟨"want_lot", ["trust", "lot", "name"], [(.str "lot")], [⟨3, [], [0, 1, 2]⟩, ⟨2, [], [0, 1, 2]⟩]⟩
def t40 : Df := ⟨3, 3, b40⟩
def N41 : List Str := ["trust", "pair", "name"]
def d41 : DefI := ⟨"want_pair", ["trust", "pair", "name"], [], [⟨3, [], [0, 1, 2]⟩]⟩
def t41 : Df := ⟨3, 3, b41⟩
def N42 : List Str := ["trust", "house", "fall"]
def d42 : DefI := ⟨"is_safe", ["trust", "house", "fall"], [], [⟨3, [], [0, 1, 2]⟩, ⟨0, ["fall", "house", "trust"], [2, 1, 0]⟩]⟩
def t42 : Df := ⟨3, 3, b42⟩
def N43 : List Str := ["trust", "fall"]
def d43 : DefI := ⟨"safe_houses", ["trust", "fall"], [], [⟨2, [], [0, 1]⟩, ⟨0, ["fall", "trust"], [1, 0]⟩]⟩
def t43 : Df := ⟨2, 2, b43⟩
def N44 : List Str := ["trust", "house"]
def d44 : DefI := ⟨"greatest_falls", ["trust", "house"], [], [⟨2, [], [0, 1]⟩, ⟨0, ["house", "trust"], [1, 0]⟩]⟩
def t44 : Df := ⟨2, 2, b44⟩
def N45 : List Str := ["trust", "house", "other"]
def d45 : DefI := ⟨"common_falls", ["trust", "house", "other"], [], [⟨3, [], [0, 1, 2]⟩, ⟨0, ["other", "house", "trust"], [2, 1, 0]⟩]⟩
def t45 : Df := ⟨3, 3, b45⟩
def N46 : List Str := ["trust", "house"]
def d46 : DefI := ⟨"needs_of", ["trust", "house"], [], [⟨2, [], [0, 1]⟩, ⟨0, ["house", "trust"], [1, 0]⟩]⟩
def t46 : Df := ⟨2, 2, b46⟩
def N47 : List Str := ["trust", "house", "lot"]
def d47 : DefI := ⟨"meets_needs", ["trust", "house", "lot"], [], [⟨3, [], [0, 1, 2]⟩]⟩
def t47 : Df := ⟨3, 3, b47⟩
def N48 : List Str := ["trust", "house", "lot"]
def d48 : DefI := ⟨"first_missed", ["trust", "house", "lot"], [], [⟨0, ["lot", "house", "trust"], [2, 1, 0]⟩, ⟨3, [], [0, 1, 2]⟩]⟩
def t48 : Df := ⟨3, 3, b48⟩
def N49 : List Str := ["trust", "house"]
def d49 : DefI := ⟨"least_lots", ["trust", "house"], [], [⟨2, [], [0, 1]⟩]⟩
def t49 : Df := ⟨2, 2, b49⟩
def N50 : List Str := ["trust", "house", "lots", "fewest", "lot"]
def d50 : DefI := ⟨"fewest_lot", ["trust", "house"], [], [⟨2, [], [0, 1]⟩, ⟨0, ["house", "trust"], [1, 0]⟩]⟩
def t50 : Df := ⟨5, 2, b50⟩
def N51 : List Str := ["trust", "found", "one", "other"]
def d51 : DefI := ⟨"foes_by", ["trust"], [], [⟨1, [], [0]⟩]⟩
def t51 : Df := ⟨4, 1, b51⟩
def N52 : List Str := ["foes", "kept", "pair", "some", "one"]
def d52 : DefI := ⟨"can_stay", ["foes", "kept", "pair"], [], [⟨3, [], [0, 1, 2]⟩]⟩
def t52 : Df := ⟨5, 3, b52⟩
def N53 : List Str := ["pairs", "k"]
def d53 : DefI := ⟨"is_last", ["pairs", "k"], [], [⟨2, [], [0, 1]⟩]⟩
def t53 : Df := ⟨2, 2, b53⟩
def N54 : List Str := ["pairs", "kept", "k", "one"]
def d54 : DefI := ⟨"can_go", ["pairs", "kept", "k"], [], [⟨3, [], [0, 1, 2]⟩]⟩
def t54 : Df := ⟨4, 3, b54⟩
def N55 : List Str := ["trust", "pairs", "foes", "best", "open_ones", "kept", "gone", "k"]
def d55 : DefI := ⟨"fewest_dropped", ["trust"], [], [⟨1, [], [0]⟩]⟩
def t55 : Df := ⟨8, 1, b55⟩
def N56 : List Str := ["trust", "one", "other"]
def d56 : DefI := ⟨"odds_fall", ["trust", "one", "other"], [], [⟨3, [], [0, 1, 2]⟩, ⟨0, ["other", "one", "trust"], [2, 1, 0]⟩]⟩
def t56 : Df := ⟨3, 3, b56⟩
def N57 : List Str := ["trust"]
def d57 : DefI := ⟨"all_odds", ["trust"], [], [⟨1, [], [0]⟩, ⟨0, ["trust"], [0]⟩]⟩
def t57 : Df := ⟨1, 1, b57⟩
def N58 : List Str := ["row", "pairs", "k", "lot"]
def d58 : DefI := ⟨"lots_without", ["row", "pairs"], [], [⟨2, [], [0, 1]⟩]⟩
def t58 : Df := ⟨4, 2, b58⟩
def N59 : List Str := ["trust", "pairs", "row"]
def d59 : DefI := ⟨"without_pairs", ["trust", "pairs"], [], [⟨2, [], [0, 1]⟩, ⟨0, ["pairs", "trust"], [1, 0]⟩]⟩
def t59 : Df := ⟨3, 2, b59⟩
def N60 : List Str := ["trust"]
def d60 : DefI := ⟨"least_dropped", ["trust"], [], [⟨1, [], [0]⟩]⟩
def t60 : Df := ⟨1, 1, b60⟩
def N61 : List Str := ["_law_script", "_law_cell"]
def d61 : DefI := ⟨"_law_feed", ["_law_script"], [], [⟨1, [], [0]⟩]⟩
def t61 : Df := ⟨2, 1, b61⟩
def N62 : List Str := ["_law_feed_here", "_law_many", "_law_figure", "_law_spot", "_law_cells", "_law_cell", "_law_mixed"]
def d62 : DefI := ⟨"_law_draw", ["_law_feed_here", "_law_many"], [], [⟨2, [], [0, 1]⟩]⟩
def t62 : Df := ⟨7, 2, b62⟩
def N63 : List Str := ["_law_told", "_law_due"]
def d63 : DefI := ⟨"_law_same", ["_law_told", "_law_due"], [], [⟨2, [], [0, 1]⟩]⟩
def t63 : Df := ⟨2, 2, b63⟩
def N64 : List Str := ["_law_fears", "_law_ends", "_law_found", "_law_x", "_law_others", "_law_y"]
def d64 : DefI := ⟨"_law_three", ["_law_fears"], [], [⟨1, [], [0]⟩]⟩
def t64 : Df := ⟨6, 1, b64⟩
def N65 : List Str := ["_law_lots", "_law_found", "_law_x", "_law_y"]
def d65 : DefI := ⟨"_law_four_houses", [], [], [⟨0, [], []⟩]⟩
def t65 : Df := ⟨4, 0, b65⟩
def N66 : List Str := []
def d66 : DefI := ⟨"_law_lone", [], [], [⟨0, [], []⟩]⟩
def t66 : Df := ⟨0, 0, b66⟩
def N67 : List Str := ["_law_three_here", "_law_calm", "_law_four", "_law_alone", "_law_nested", "_law_told", "_law_due"]
def d67 : DefI := ⟨"_law_are_falls_told", [], [], [⟨0, [], []⟩]⟩
def t67 : Df := ⟨7, 0, b67⟩
def N68 : List Str := ["_law_three_here", "_law_calm", "_law_four", "_law_lone_here", "_law_parted", "_law_told", "_law_due"]
def d68 : DefI := ⟨"_law_are_odds_told", [], [], [⟨0, [], []⟩]⟩
def t68 : Df := ⟨7, 0, b68⟩
def N69 : List Str := ["_law_odd", "_law_heard_here"]
def d69 : DefI := ⟨"_law_of_trust", ["_law_odd"], [], [⟨1, [], [0]⟩]⟩
def t69 : Df := ⟨2, 1, b69⟩
def N70 : List Str := ["_law_band", "_law_odd", "_law_heard_here"]
def d70 : DefI := ⟨"_law_of_house", ["_law_band", "_law_odd"], [], [⟨2, [], [0, 1]⟩]⟩
def t70 : Df := ⟨3, 2, b70⟩
def N71 : List Str := ["_law_band", "_law_heard_here", "_law_due", "_law_whole", "_law_odd"]
def d71 : DefI := ⟨"_law_are_sets_refused", ["_law_band"], [], [⟨1, [], [0]⟩]⟩
def t71 : Df := ⟨5, 1, b71⟩
def N72 : List Str := ["_law_feed_here", "_law_some", "_law_spot", "_law_heard_here", "_law_odd", "_law_three_here"]
def d72 : DefI := ⟨"_law_are_refused", ["_law_feed_here"], [], [⟨1, [], [0]⟩]⟩
def t72 : Df := ⟨6, 1, b72⟩
def N73 : List Str := ["_law_script", "_law_feed_here", "_law_first", "_law_lap", "_law_sort_in"]
def d73 : DefI := ⟨"law", ["_law_script"], [], []⟩
def t73 : Df := ⟨5, 1, b73⟩
def N74 : List Str := ["_law_ask", "error", "_law_kin"]
def t74 : Df := ⟨3, 1, .tryr 0 1 b74⟩
def tab : List DefI := [d0, d1, d2, d3, d4, d5, d6, d7, d8, d9, d10, d11, d12, d13, d14, d15, d16, d17, d18, d19, d20, d21, d22, d23, d24, d25, d26, d27, d28, d29, d30, d31, d32, d33, d34, d35, d36, d37, d38, d39, d40, d41, d42, d43, d44, d45, d46, d47, d48, d49, d50, d51, d52, d53, d54, d55, d56, d57, d58, d59, d60, d61, d62, d63, d64, d65, d66, d67, d68, d69, d70, d71, d72, d73]
def T : List Df := [t0, t1, t2, t3, t4, t5, t6, t7, t8, t9, t10, t11, t12, t13, t14, t15, t16, t17, t18, t19, t20, t21, t22, t23, t24, t25, t26, t27, t28, t29, t30, t31, t32, t33, t34, t35, t36, t37, t38, t39, t40, t41, t42, t43, t44, t45, t46, t47, t48, t49, t50, t51, t52, t53, t54, t55, t56, t57, t58, t59, t60, t61, t62, t63, t64, t65, t66, t67, t68, t69, t70, t71, t72, t73, t74]
def ki : List (Str × (List Nat × List Str)) := [("NotUsable", ([0, 2, 6, 7], ["word", "at"]))]
def hr : List (Str × (Nat × Str)) := [("_law_heard", (74, "told"))]
def cl : List (Str × Nat) := [("CopyError", 0), ("PaperError", 1), ("BookError", 2), ("LiveError", 3), ("TextError", 4), ("InvalidPaper", 5), ("NotUsable", 6), ("ValueError", 7)]
def gc (K : PySem.W.Frag) : GC := ⟨tab, gl, ki, hr, ct K, lt⟩
theorem c0 (K : PySem.W.Frag) : (rsc (ccOf (gc K) N0 [] none) 60).ss (defScope (top 4)) (defBody (top 4)) = some b0 := by kernel_rfl
theorem c1 (K : PySem.W.Frag) : (rsc (ccOf (gc K) N1 [] none) 60).ss (defScope (top 5)) (defBody (top 5)) = some b1 := by kernel_rfl
theorem c2 (K : PySem.W.Frag) : (rsc (ccOf (gc K) N2 [] none) 60).ss (defScope (top 6)) (defBody (top 6)) = some b2 := by kernel_rfl
theorem c3 (K : PySem.W.Frag) : (rsc (ccOf (gc K) N3 [] none) 60).ss (defScope (top 7)) (defBody (top 7)) = some b3 := by kernel_rfl
theorem c4 (K : PySem.W.Frag) : (rsc (ccOf (gc K) N4 [] none) 60).ss (defScope (top 8)) (defBody (top 8)) = some b4 := by kernel_rfl
theorem c5 (K : PySem.W.Frag) : (rsc (ccOf (gc K) N5 [] none) 60).ss (defScope (top 9)) (defBody (top 9)) = some b5 := by kernel_rfl
theorem c6 (K : PySem.W.Frag) : (rsc (ccOf (gc K) N6 [] none) 60).ss (defScope (top 10)) (defBody (top 10)) = some b6 := by kernel_rfl
theorem c7 (K : PySem.W.Frag) : (rsc (ccOf (gc K) N7 [] none) 60).ss (defScope (top 11)) (defBody (top 11)) = some b7 := by kernel_rfl
theorem c8 (K : PySem.W.Frag) : (rsc (ccOf (gc K) N8 [] none) 60).ss (defScope (top 12)) (defBody (top 12)) = some b8 := by kernel_rfl
theorem c9 (K : PySem.W.Frag) : (rsc (ccOf (gc K) N9 [] none) 60).ss (defScope (top 13)) (defBody (top 13)) = some b9 := by kernel_rfl
theorem c10 (K : PySem.W.Frag) : (rsc (ccOf (gc K) N10 [] none) 60).ss (defScope (top 14)) (defBody (top 14)) = some b10 := by kernel_rfl
theorem c11 (K : PySem.W.Frag) : (rsc (ccOf (gc K) N11 [] none) 60).ss (defScope (top 15)) (defBody (top 15)) = some b11 := by kernel_rfl
theorem c12 (K : PySem.W.Frag) : (rsc (ccOf (gc K) N12 [] none) 60).ss (defScope (top 16)) (defBody (top 16)) = some b12 := by kernel_rfl
theorem c13 (K : PySem.W.Frag) : (rsc (ccOf (gc K) N13 [] none) 60).ss (defScope (top 17)) (defBody (top 17)) = some b13 := by kernel_rfl
theorem c14 (K : PySem.W.Frag) : (rsc (ccOf (gc K) N14 [] none) 60).ss (defScope (top 19)) (defBody (top 19)) = some b14 := by kernel_rfl
theorem c15 (K : PySem.W.Frag) : (rsc (ccOf (gc K) N15 [] none) 60).ss (defScope (top 20)) (defBody (top 20)) = some b15 := by kernel_rfl
theorem c16 (K : PySem.W.Frag) : (rsc (ccOf (gc K) N16 [] none) 60).ss (defScope (top 22)) (defBody (top 22)) = some b16 := by kernel_rfl
theorem c17 (K : PySem.W.Frag) : (rsc (ccOf (gc K) N17 [] none) 60).ss (defScope (top 23)) (defBody (top 23)) = some b17 := by kernel_rfl
theorem c18 (K : PySem.W.Frag) : (rsc (ccOf (gc K) N18 [] none) 60).ss (defScope (top 24)) (defBody (top 24)) = some b18 := by kernel_rfl
theorem c19 (K : PySem.W.Frag) : (rsc (ccOf (gc K) N19 [] none) 60).ss (defScope (top 25)) (defBody (top 25)) = some b19 := by kernel_rfl
theorem c20 (K : PySem.W.Frag) : (rsc (ccOf (gc K) N20 [] none) 60).ss (defScope (top 26)) (defBody (top 26)) = some b20 := by kernel_rfl
theorem c21 (K : PySem.W.Frag) : (rsc (ccOf (gc K) N21 [] none) 60).ss (defScope (top 27)) (defBody (top 27)) = some b21 := by kernel_rfl
theorem c22 (K : PySem.W.Frag) : (rsc (ccOf (gc K) N22 [] none) 60).ss (defScope (top 28)) (defBody (top 28)) = some b22 := by kernel_rfl
theorem c23 (K : PySem.W.Frag) : (rsc (ccOf (gc K) N23 [] none) 60).ss (defScope (top 29)) (defBody (top 29)) = some b23 := by kernel_rfl
theorem c24 (K : PySem.W.Frag) : (rsc (ccOf (gc K) N24 [] none) 60).ss (defScope (top 30)) (defBody (top 30)) = some b24 := by kernel_rfl
theorem c25 (K : PySem.W.Frag) : (rsc (ccOf (gc K) N25 [] none) 60).ss (defScope (top 31)) (defBody (top 31)) = some b25 := by kernel_rfl
theorem c26 (K : PySem.W.Frag) : (rsc (ccOf (gc K) N26 [] none) 60).ss (defScope (top 32)) (defBody (top 32)) = some b26 := by kernel_rfl
theorem c27 (K : PySem.W.Frag) : (rsc (ccOf (gc K) N27 [] none) 60).ss (defScope (top 33)) (defBody (top 33)) = some b27 := by kernel_rfl
theorem c28 (K : PySem.W.Frag) : (rsc (ccOf (gc K) N28 [2] none) 60).ss (defScope (top 34)) (defBody (top 34)) = some b28 := by kernel_rfl
theorem c29 (K : PySem.W.Frag) : (rsc (ccOf (gc K) N29 [2] none) 60).ss (defScope (top 35)) (defBody (top 35)) = some b29 := by kernel_rfl
theorem c30 (K : PySem.W.Frag) : (rsc (ccOf (gc K) N30 [] none) 60).ss (defScope (top 36)) (defBody (top 36)) = some b30 := by kernel_rfl
theorem c31 (K : PySem.W.Frag) : (rsc (ccOf (gc K) N31 [] none) 60).ss (defScope (top 37)) (defBody (top 37)) = some b31 := by kernel_rfl
theorem c32 (K : PySem.W.Frag) : (rsc (ccOf (gc K) N32 [3] none) 60).ss (defScope (top 38)) (defBody (top 38)) = some b32 := by kernel_rfl
theorem c33 (K : PySem.W.Frag) : (rsc (ccOf (gc K) N33 [] none) 60).ss (defScope (top 40)) (defBody (top 40)) = some b33 := by kernel_rfl
theorem c34 (K : PySem.W.Frag) : (rsc (ccOf (gc K) N34 [] none) 60).ss (defScope (top 41)) (defBody (top 41)) = some b34 := by kernel_rfl
theorem c35 (K : PySem.W.Frag) : (rsc (ccOf (gc K) N35 [] none) 60).ss (defScope (top 42)) (defBody (top 42)) = some b35 := by kernel_rfl
theorem c36 (K : PySem.W.Frag) : (rsc (ccOf (gc K) N36 [] none) 60).ss (defScope (top 43)) (defBody (top 43)) = some b36 := by kernel_rfl
theorem c37 (K : PySem.W.Frag) : (rsc (ccOf (gc K) N37 [] none) 60).ss (defScope (top 53)) (defBody (top 53)) = some b37 := by kernel_rfl
theorem c38 (K : PySem.W.Frag) : (rsc (ccOf (gc K) N38 [] none) 60).ss (defScope (top 55)) (defBody (top 55)) = some b38 := by kernel_rfl
theorem c39 (K : PySem.W.Frag) : (rsc (ccOf (gc K) N39 [] none) 60).ss (defScope (top 56)) (defBody (top 56)) = some b39 := by kernel_rfl
theorem c40 (K : PySem.W.Frag) : (rsc (ccOf (gc K) N40 [] none) 60).ss (defScope (top 57)) (defBody (top 57)) = some b40 := by kernel_rfl
theorem c41 (K : PySem.W.Frag) : (rsc (ccOf (gc K) N41 [] none) 60).ss (defScope (top 58)) (defBody (top 58)) = some b41 := by kernel_rfl
theorem c42 (K : PySem.W.Frag) : (rsc (ccOf (gc K) N42 [] none) 60).ss (defScope (top 60)) (defBody (top 60)) = some b42 := by kernel_rfl
theorem c43 (K : PySem.W.Frag) : (rsc (ccOf (gc K) N43 [] none) 60).ss (defScope (top 61)) (defBody (top 61)) = some b43 := by kernel_rfl
theorem c44 (K : PySem.W.Frag) : (rsc (ccOf (gc K) N44 [] none) 60).ss (defScope (top 62)) (defBody (top 62)) = some b44 := by kernel_rfl
theorem c45 (K : PySem.W.Frag) : (rsc (ccOf (gc K) N45 [] none) 60).ss (defScope (top 63)) (defBody (top 63)) = some b45 := by kernel_rfl
theorem c46 (K : PySem.W.Frag) : (rsc (ccOf (gc K) N46 [] none) 60).ss (defScope (top 65)) (defBody (top 65)) = some b46 := by kernel_rfl
theorem c47 (K : PySem.W.Frag) : (rsc (ccOf (gc K) N47 [] none) 60).ss (defScope (top 66)) (defBody (top 66)) = some b47 := by kernel_rfl
theorem c48 (K : PySem.W.Frag) : (rsc (ccOf (gc K) N48 [] none) 60).ss (defScope (top 67)) (defBody (top 67)) = some b48 := by kernel_rfl
theorem c49 (K : PySem.W.Frag) : (rsc (ccOf (gc K) N49 [] none) 60).ss (defScope (top 68)) (defBody (top 68)) = some b49 := by kernel_rfl
theorem c50 (K : PySem.W.Frag) : (rsc (ccOf (gc K) N50 [] none) 60).ss (defScope (top 69)) (defBody (top 69)) = some b50 := by kernel_rfl
theorem c51 (K : PySem.W.Frag) : (rsc (ccOf (gc K) N51 [] none) 60).ss (defScope (top 71)) (defBody (top 71)) = some b51 := by kernel_rfl
theorem c52 (K : PySem.W.Frag) : (rsc (ccOf (gc K) N52 [] none) 60).ss (defScope (top 72)) (defBody (top 72)) = some b52 := by kernel_rfl
theorem c53 (K : PySem.W.Frag) : (rsc (ccOf (gc K) N53 [] none) 60).ss (defScope (top 73)) (defBody (top 73)) = some b53 := by kernel_rfl
theorem c54 (K : PySem.W.Frag) : (rsc (ccOf (gc K) N54 [] none) 60).ss (defScope (top 74)) (defBody (top 74)) = some b54 := by kernel_rfl
theorem c55 (K : PySem.W.Frag) : (rsc (ccOf (gc K) N55 [4] none) 60).ss (defScope (top 75)) (defBody (top 75)) = some b55 := by kernel_rfl
theorem c56 (K : PySem.W.Frag) : (rsc (ccOf (gc K) N56 [] none) 60).ss (defScope (top 77)) (defBody (top 77)) = some b56 := by kernel_rfl
theorem c57 (K : PySem.W.Frag) : (rsc (ccOf (gc K) N57 [] none) 60).ss (defScope (top 78)) (defBody (top 78)) = some b57 := by kernel_rfl
theorem c58 (K : PySem.W.Frag) : (rsc (ccOf (gc K) N58 [] none) 60).ss (defScope (top 79)) (defBody (top 79)) = some b58 := by kernel_rfl
theorem c59 (K : PySem.W.Frag) : (rsc (ccOf (gc K) N59 [] none) 60).ss (defScope (top 80)) (defBody (top 80)) = some b59 := by kernel_rfl
theorem c60 (K : PySem.W.Frag) : (rsc (ccOf (gc K) N60 [] none) 60).ss (defScope (top 81)) (defBody (top 81)) = some b60 := by kernel_rfl
theorem c61 (K : PySem.W.Frag) : (rsc (ccOf (gc K) N61 [] none) 60).ss (defScope (top 83)) (defBody (top 83)) = some b61 := by kernel_rfl
theorem c62 (K : PySem.W.Frag) : (rsc (ccOf (gc K) N62 [] none) 60).ss (defScope (top 84)) (defBody (top 84)) = some b62 := by kernel_rfl
theorem c63 (K : PySem.W.Frag) : (rsc (ccOf (gc K) N63 [] none) 60).ss (defScope (top 85)) (defBody (top 85)) = some b63 := by kernel_rfl
theorem c64 (K : PySem.W.Frag) : (rsc (ccOf (gc K) N64 [2] none) 60).ss (defScope (top 86)) (defBody (top 86)) = some b64 := by kernel_rfl
theorem c65 (K : PySem.W.Frag) : (rsc (ccOf (gc K) N65 [1] none) 60).ss (defScope (top 87)) (defBody (top 87)) = some b65 := by kernel_rfl
theorem c66 (K : PySem.W.Frag) : (rsc (ccOf (gc K) N66 [] none) 60).ss (defScope (top 88)) (defBody (top 88)) = some b66 := by kernel_rfl
theorem c67 (K : PySem.W.Frag) : (rsc (ccOf (gc K) N67 [5] none) 60).ss (defScope (top 89)) (defBody (top 89)) = some b67 := by kernel_rfl
theorem c68 (K : PySem.W.Frag) : (rsc (ccOf (gc K) N68 [] none) 60).ss (defScope (top 90)) (defBody (top 90)) = some b68 := by kernel_rfl
theorem c69 (K : PySem.W.Frag) : (rsc (ccOf (gc K) N69 [1] (some 0)) 60).ss (defScope (top 92)) (defBody (top 92)) = some b69 := by kernel_rfl
theorem c70 (K : PySem.W.Frag) : (rsc (ccOf (gc K) N70 [2] (some 1)) 60).ss (defScope (top 93)) (defBody (top 93)) = some b70 := by kernel_rfl
theorem c71 (K : PySem.W.Frag) : (rsc (ccOf (gc K) N71 [1] (some 2)) 60).ss (defScope (top 94)) (defBody (top 94)) = some b71 := by kernel_rfl
theorem c72 (K : PySem.W.Frag) : (rsc (ccOf (gc K) N72 [] (some 3)) 60).ss (defScope (top 95)) (defBody (top 95)) = some b72 := by kernel_rfl
theorem c73 (K : PySem.W.Frag) : (rsc (ccOf (gc K) N73 [] none) 60).ss (defScope (top 96)) (defBody (top 96)) = some b73 := by kernel_rfl
theorem s0 : FnScope N0 ["thing"] (defScope (top 4)) := ⟨by kernel_rfl, by kernel_rfl, by kernel_rfl, by decide +kernel, by kernel_rfl, by decide +kernel, by decide +kernel⟩
theorem s1 : FnScope N1 ["thing"] (defScope (top 5)) := ⟨by kernel_rfl, by kernel_rfl, by kernel_rfl, by decide +kernel, by kernel_rfl, by decide +kernel, by decide +kernel⟩
theorem s2 : FnScope N2 ["thing", "many"] (defScope (top 6)) := ⟨by kernel_rfl, by kernel_rfl, by kernel_rfl, by decide +kernel, by kernel_rfl, by decide +kernel, by decide +kernel⟩
theorem s3 : FnScope N3 ["thing", "names"] (defScope (top 7)) := ⟨by kernel_rfl, by kernel_rfl, by kernel_rfl, by decide +kernel, by kernel_rfl, by decide +kernel, by decide +kernel⟩
theorem s4 : FnScope N4 ["thing"] (defScope (top 8)) := ⟨by kernel_rfl, by kernel_rfl, by kernel_rfl, by decide +kernel, by kernel_rfl, by decide +kernel, by decide +kernel⟩
theorem s5 : FnScope N5 ["thing", "many"] (defScope (top 9)) := ⟨by kernel_rfl, by kernel_rfl, by kernel_rfl, by decide +kernel, by kernel_rfl, by decide +kernel, by decide +kernel⟩
theorem s6 : FnScope N6 ["thing"] (defScope (top 10)) := ⟨by kernel_rfl, by kernel_rfl, by kernel_rfl, by decide +kernel, by kernel_rfl, by decide +kernel, by decide +kernel⟩
theorem s7 : FnScope N7 ["parts"] (defScope (top 11)) := ⟨by kernel_rfl, by kernel_rfl, by kernel_rfl, by decide +kernel, by kernel_rfl, by decide +kernel, by decide +kernel⟩
theorem s8 : FnScope N8 ["thing"] (defScope (top 12)) := ⟨by kernel_rfl, by kernel_rfl, by kernel_rfl, by decide +kernel, by kernel_rfl, by decide +kernel, by decide +kernel⟩
theorem s9 : FnScope N9 ["thing", "names"] (defScope (top 13)) := ⟨by kernel_rfl, by kernel_rfl, by kernel_rfl, by decide +kernel, by kernel_rfl, by decide +kernel, by decide +kernel⟩
theorem s10 : FnScope N10 ["thing", "names"] (defScope (top 14)) := ⟨by kernel_rfl, by kernel_rfl, by kernel_rfl, by decide +kernel, by kernel_rfl, by decide +kernel, by decide +kernel⟩
theorem s11 : FnScope N11 ["thing"] (defScope (top 15)) := ⟨by kernel_rfl, by kernel_rfl, by kernel_rfl, by decide +kernel, by kernel_rfl, by decide +kernel, by decide +kernel⟩
theorem s12 : FnScope N12 ["thing"] (defScope (top 16)) := ⟨by kernel_rfl, by kernel_rfl, by kernel_rfl, by decide +kernel, by kernel_rfl, by decide +kernel, by decide +kernel⟩
theorem s13 : FnScope N13 ["thing"] (defScope (top 17)) := ⟨by kernel_rfl, by kernel_rfl, by kernel_rfl, by decide +kernel, by kernel_rfl, by decide +kernel, by decide +kernel⟩
theorem s14 : FnScope N14 ["one", "other"] (defScope (top 19)) := ⟨by kernel_rfl, by kernel_rfl, by kernel_rfl, by decide +kernel, by kernel_rfl, by decide +kernel, by decide +kernel⟩
theorem s15 : FnScope N15 ["trust"] (defScope (top 20)) := ⟨by kernel_rfl, by kernel_rfl, by kernel_rfl, by decide +kernel, by kernel_rfl, by decide +kernel, by decide +kernel⟩
theorem s16 : FnScope N16 ["trust", "house"] (defScope (top 22)) := ⟨by kernel_rfl, by kernel_rfl, by kernel_rfl, by decide +kernel, by kernel_rfl, by decide +kernel, by decide +kernel⟩
theorem s17 : FnScope N17 ["trust", "house"] (defScope (top 23)) := ⟨by kernel_rfl, by kernel_rfl, by kernel_rfl, by decide +kernel, by kernel_rfl, by decide +kernel, by decide +kernel⟩
theorem s18 : FnScope N18 ["one", "other"] (defScope (top 24)) := ⟨by kernel_rfl, by kernel_rfl, by kernel_rfl, by decide +kernel, by kernel_rfl, by decide +kernel, by decide +kernel⟩
theorem s19 : FnScope N19 ["lot", "fall"] (defScope (top 25)) := ⟨by kernel_rfl, by kernel_rfl, by kernel_rfl, by decide +kernel, by kernel_rfl, by decide +kernel, by decide +kernel⟩
theorem s20 : FnScope N20 ["sets"] (defScope (top 26)) := ⟨by kernel_rfl, by kernel_rfl, by kernel_rfl, by decide +kernel, by kernel_rfl, by decide +kernel, by decide +kernel⟩
theorem s21 : FnScope N21 ["sets"] (defScope (top 27)) := ⟨by kernel_rfl, by kernel_rfl, by kernel_rfl, by decide +kernel, by kernel_rfl, by decide +kernel, by decide +kernel⟩
theorem s22 : FnScope N22 ["trust", "house", "fall"] (defScope (top 28)) := ⟨by kernel_rfl, by kernel_rfl, by kernel_rfl, by decide +kernel, by kernel_rfl, by decide +kernel, by decide +kernel⟩
theorem s23 : FnScope N23 ["trust", "fall"] (defScope (top 29)) := ⟨by kernel_rfl, by kernel_rfl, by kernel_rfl, by decide +kernel, by kernel_rfl, by decide +kernel, by decide +kernel⟩
theorem s24 : FnScope N24 ["trust", "house", "other"] (defScope (top 30)) := ⟨by kernel_rfl, by kernel_rfl, by kernel_rfl, by decide +kernel, by kernel_rfl, by decide +kernel, by decide +kernel⟩
theorem s25 : FnScope N25 ["trust"] (defScope (top 31)) := ⟨by kernel_rfl, by kernel_rfl, by kernel_rfl, by decide +kernel, by kernel_rfl, by decide +kernel, by decide +kernel⟩
theorem s26 : FnScope N26 ["trust", "pair"] (defScope (top 32)) := ⟨by kernel_rfl, by kernel_rfl, by kernel_rfl, by decide +kernel, by kernel_rfl, by decide +kernel, by decide +kernel⟩
theorem s27 : FnScope N27 ["trust", "one", "other"] (defScope (top 33)) := ⟨by kernel_rfl, by kernel_rfl, by kernel_rfl, by decide +kernel, by kernel_rfl, by decide +kernel, by decide +kernel⟩
theorem s28 : FnScope N28 ["trust"] (defScope (top 34)) := ⟨by kernel_rfl, by kernel_rfl, by kernel_rfl, by decide +kernel, by kernel_rfl, by decide +kernel, by decide +kernel⟩
theorem s29 : FnScope N29 ["trust", "house"] (defScope (top 35)) := ⟨by kernel_rfl, by kernel_rfl, by kernel_rfl, by decide +kernel, by kernel_rfl, by decide +kernel, by decide +kernel⟩
theorem s30 : FnScope N30 ["needs", "lot"] (defScope (top 36)) := ⟨by kernel_rfl, by kernel_rfl, by kernel_rfl, by decide +kernel, by kernel_rfl, by decide +kernel, by decide +kernel⟩
theorem s31 : FnScope N31 ["needs", "lot"] (defScope (top 37)) := ⟨by kernel_rfl, by kernel_rfl, by kernel_rfl, by decide +kernel, by kernel_rfl, by decide +kernel, by decide +kernel⟩
theorem s32 : FnScope N32 ["needs"] (defScope (top 38)) := ⟨by kernel_rfl, by kernel_rfl, by kernel_rfl, by decide +kernel, by kernel_rfl, by decide +kernel, by decide +kernel⟩
theorem s33 : FnScope N33 ["trust", "thing"] (defScope (top 40)) := ⟨by kernel_rfl, by kernel_rfl, by kernel_rfl, by decide +kernel, by kernel_rfl, by decide +kernel, by decide +kernel⟩
theorem s34 : FnScope N34 ["trust", "thing"] (defScope (top 41)) := ⟨by kernel_rfl, by kernel_rfl, by kernel_rfl, by decide +kernel, by kernel_rfl, by decide +kernel, by decide +kernel⟩
theorem s35 : FnScope N35 ["trust", "thing"] (defScope (top 42)) := ⟨by kernel_rfl, by kernel_rfl, by kernel_rfl, by decide +kernel, by kernel_rfl, by decide +kernel, by decide +kernel⟩
theorem s36 : FnScope N36 ["trust", "thing"] (defScope (top 43)) := ⟨by kernel_rfl, by kernel_rfl, by kernel_rfl, by decide +kernel, by kernel_rfl, by decide +kernel, by decide +kernel⟩
theorem s37 : FnScope N37 ["is_fit", "name", "at"] (defScope (top 53)) := ⟨by kernel_rfl, by kernel_rfl, by kernel_rfl, by decide +kernel, by kernel_rfl, by decide +kernel, by decide +kernel⟩
theorem s38 : FnScope N38 ["trust", "name"] (defScope (top 55)) := ⟨by kernel_rfl, by kernel_rfl, by kernel_rfl, by decide +kernel, by kernel_rfl, by decide +kernel, by decide +kernel⟩
theorem s39 : FnScope N39 ["trust", "house", "name"] (defScope (top 56)) := ⟨by kernel_rfl, by kernel_rfl, by kernel_rfl, by decide +kernel, by kernel_rfl, by decide +kernel, by decide +kernel⟩
theorem s40 : FnScope N40 ["trust", "lot", "name"] (defScope (top 57)) := ⟨by kernel_rfl, by kernel_rfl, by kernel_rfl, by decide +kernel, by kernel_rfl, by decide +kernel, by decide +kernel⟩
theorem s41 : FnScope N41 ["trust", "pair", "name"] (defScope (top 58)) := ⟨by kernel_rfl, by kernel_rfl, by kernel_rfl, by decide +kernel, by kernel_rfl, by decide +kernel, by decide +kernel⟩
theorem s42 : FnScope N42 ["trust", "house", "fall"] (defScope (top 60)) := ⟨by kernel_rfl, by kernel_rfl, by kernel_rfl, by decide +kernel, by kernel_rfl, by decide +kernel, by decide +kernel⟩
theorem s43 : FnScope N43 ["trust", "fall"] (defScope (top 61)) := ⟨by kernel_rfl, by kernel_rfl, by kernel_rfl, by decide +kernel, by kernel_rfl, by decide +kernel, by decide +kernel⟩
theorem s44 : FnScope N44 ["trust", "house"] (defScope (top 62)) := ⟨by kernel_rfl, by kernel_rfl, by kernel_rfl, by decide +kernel, by kernel_rfl, by decide +kernel, by decide +kernel⟩
theorem s45 : FnScope N45 ["trust", "house", "other"] (defScope (top 63)) := ⟨by kernel_rfl, by kernel_rfl, by kernel_rfl, by decide +kernel, by kernel_rfl, by decide +kernel, by decide +kernel⟩
theorem s46 : FnScope N46 ["trust", "house"] (defScope (top 65)) := ⟨by kernel_rfl, by kernel_rfl, by kernel_rfl, by decide +kernel, by kernel_rfl, by decide +kernel, by decide +kernel⟩
theorem s47 : FnScope N47 ["trust", "house", "lot"] (defScope (top 66)) := ⟨by kernel_rfl, by kernel_rfl, by kernel_rfl, by decide +kernel, by kernel_rfl, by decide +kernel, by decide +kernel⟩
theorem s48 : FnScope N48 ["trust", "house", "lot"] (defScope (top 67)) := ⟨by kernel_rfl, by kernel_rfl, by kernel_rfl, by decide +kernel, by kernel_rfl, by decide +kernel, by decide +kernel⟩
theorem s49 : FnScope N49 ["trust", "house"] (defScope (top 68)) := ⟨by kernel_rfl, by kernel_rfl, by kernel_rfl, by decide +kernel, by kernel_rfl, by decide +kernel, by decide +kernel⟩
theorem s50 : FnScope N50 ["trust", "house"] (defScope (top 69)) := ⟨by kernel_rfl, by kernel_rfl, by kernel_rfl, by decide +kernel, by kernel_rfl, by decide +kernel, by decide +kernel⟩
theorem s51 : FnScope N51 ["trust"] (defScope (top 71)) := ⟨by kernel_rfl, by kernel_rfl, by kernel_rfl, by decide +kernel, by kernel_rfl, by decide +kernel, by decide +kernel⟩
theorem s52 : FnScope N52 ["foes", "kept", "pair"] (defScope (top 72)) := ⟨by kernel_rfl, by kernel_rfl, by kernel_rfl, by decide +kernel, by kernel_rfl, by decide +kernel, by decide +kernel⟩
theorem s53 : FnScope N53 ["pairs", "k"] (defScope (top 73)) := ⟨by kernel_rfl, by kernel_rfl, by kernel_rfl, by decide +kernel, by kernel_rfl, by decide +kernel, by decide +kernel⟩
theorem s54 : FnScope N54 ["pairs", "kept", "k"] (defScope (top 74)) := ⟨by kernel_rfl, by kernel_rfl, by kernel_rfl, by decide +kernel, by kernel_rfl, by decide +kernel, by decide +kernel⟩
theorem s55 : FnScope N55 ["trust"] (defScope (top 75)) := ⟨by kernel_rfl, by kernel_rfl, by kernel_rfl, by decide +kernel, by kernel_rfl, by decide +kernel, by decide +kernel⟩
theorem s56 : FnScope N56 ["trust", "one", "other"] (defScope (top 77)) := ⟨by kernel_rfl, by kernel_rfl, by kernel_rfl, by decide +kernel, by kernel_rfl, by decide +kernel, by decide +kernel⟩
theorem s57 : FnScope N57 ["trust"] (defScope (top 78)) := ⟨by kernel_rfl, by kernel_rfl, by kernel_rfl, by decide +kernel, by kernel_rfl, by decide +kernel, by decide +kernel⟩
theorem s58 : FnScope N58 ["row", "pairs"] (defScope (top 79)) := ⟨by kernel_rfl, by kernel_rfl, by kernel_rfl, by decide +kernel, by kernel_rfl, by decide +kernel, by decide +kernel⟩
theorem s59 : FnScope N59 ["trust", "pairs"] (defScope (top 80)) := ⟨by kernel_rfl, by kernel_rfl, by kernel_rfl, by decide +kernel, by kernel_rfl, by decide +kernel, by decide +kernel⟩
theorem s60 : FnScope N60 ["trust"] (defScope (top 81)) := ⟨by kernel_rfl, by kernel_rfl, by kernel_rfl, by decide +kernel, by kernel_rfl, by decide +kernel, by decide +kernel⟩
theorem s61 : FnScope N61 ["_law_script"] (defScope (top 83)) := ⟨by kernel_rfl, by kernel_rfl, by kernel_rfl, by decide +kernel, by kernel_rfl, by decide +kernel, by decide +kernel⟩
theorem s62 : FnScope N62 ["_law_feed_here", "_law_many"] (defScope (top 84)) := ⟨by kernel_rfl, by kernel_rfl, by kernel_rfl, by decide +kernel, by kernel_rfl, by decide +kernel, by decide +kernel⟩
theorem s63 : FnScope N63 ["_law_told", "_law_due"] (defScope (top 85)) := ⟨by kernel_rfl, by kernel_rfl, by kernel_rfl, by decide +kernel, by kernel_rfl, by decide +kernel, by decide +kernel⟩
theorem s64 : FnScope N64 ["_law_fears"] (defScope (top 86)) := ⟨by kernel_rfl, by kernel_rfl, by kernel_rfl, by decide +kernel, by kernel_rfl, by decide +kernel, by decide +kernel⟩
theorem s65 : FnScope N65 [] (defScope (top 87)) := ⟨by kernel_rfl, by kernel_rfl, by kernel_rfl, by decide +kernel, by kernel_rfl, by decide +kernel, by decide +kernel⟩
theorem s66 : FnScope N66 [] (defScope (top 88)) := ⟨by kernel_rfl, by kernel_rfl, by kernel_rfl, by decide +kernel, by kernel_rfl, by decide +kernel, by decide +kernel⟩
theorem s67 : FnScope N67 [] (defScope (top 89)) := ⟨by kernel_rfl, by kernel_rfl, by kernel_rfl, by decide +kernel, by kernel_rfl, by decide +kernel, by decide +kernel⟩
theorem s68 : FnScope N68 [] (defScope (top 90)) := ⟨by kernel_rfl, by kernel_rfl, by kernel_rfl, by decide +kernel, by kernel_rfl, by decide +kernel, by decide +kernel⟩
theorem s69 : FnScope N69 ["_law_odd"] (defScope (top 92)) := ⟨by kernel_rfl, by kernel_rfl, by kernel_rfl, by decide +kernel, by kernel_rfl, by decide +kernel, by decide +kernel⟩
theorem s70 : FnScope N70 ["_law_band", "_law_odd"] (defScope (top 93)) := ⟨by kernel_rfl, by kernel_rfl, by kernel_rfl, by decide +kernel, by kernel_rfl, by decide +kernel, by decide +kernel⟩
theorem s71 : FnScope N71 ["_law_band"] (defScope (top 94)) := ⟨by kernel_rfl, by kernel_rfl, by kernel_rfl, by decide +kernel, by kernel_rfl, by decide +kernel, by decide +kernel⟩
theorem s72 : FnScope N72 ["_law_feed_here"] (defScope (top 95)) := ⟨by kernel_rfl, by kernel_rfl, by kernel_rfl, by decide +kernel, by kernel_rfl, by decide +kernel, by decide +kernel⟩
theorem s73 : FnScope N73 ["_law_script"] (defScope (top 96)) := ⟨by kernel_rfl, by kernel_rfl, by kernel_rfl, by decide +kernel, by kernel_rfl, by decide +kernel, by decide +kernel⟩
def suiteOf (b : List Stmt) : List Stmt := match b with
  | [.Try _ [.ExceptHandler _ _ s _] _ _ _] => s
  | _ => []
def h74 : Stmt := (suiteOf (defBody (top 91))).headD (.Pass ⟨0, 0, 0, 0⟩)
def hs74 : List Stmt := (suiteOf (defBody (top 91))).tail
theorem hb74 : defBody (top 91) = [.Try [.Return (some (.Tuple [.Constant (.str "told") 0 ⟨346, 16, 346, 22⟩, .Call (.Name "_law_ask" ⟨346, 24, 346, 32⟩) [] [] ⟨346, 24, 346, 34⟩] 0 ⟨346, 15, 346, 35⟩)) ⟨346, 8, 346, 35⟩] [.ExceptHandler (some (.Name "CopyError" ⟨347, 11, 347, 20⟩)) (some "error") (h74 :: hs74) ⟨347, 4, 355, 23⟩] [] [] ⟨345, 4, 355, 23⟩] := by kernel_rfl
theorem c74 (K : PySem.W.Frag) : (rsc ⟨N74, [], [], [], true, "error", cl, [], [], none, ct K⟩ 60).ss (defScope (top 91)) (h74 :: hs74) = some b74 := by kernel_rfl
theorem s74 : FnScope N74 ["_law_ask"] (defScope (top 91)) := ⟨by kernel_rfl, by kernel_rfl, by kernel_rfl, by decide +kernel, by kernel_rfl, by decide +kernel, by decide +kernel⟩
end K12
end

section
set_option Elab.async false
set_option linter.all false
set_option maxRecDepth 100000
set_option maxHeartbeats 0
set_option autoImplicit false
/-! K12: the head, the defs in place (printed by gen.py). -/
namespace K12
open PySem PySem.Spec L2 AOne
section
variable {K : PySem.W.Frag} {h : Heap} {mg : Str → Option Value}
theorem o0 (X : K.In h) (G : h.Ns mainGlobals mg) (c : He.SaysD fa fn K) : ∃ dd t, T[0]? = some t ∧ DDok K mg (gc K) dd t d0 := by
  obtain ⟨fd, F⟩ := c.def_ 0 (d := e0) rfl
  have g := He.glo_ok X G (c.fact 0 (f := .glo "is_integer") rfl)
  replace F : FunD K "is_integer" "is_integer" (defArgs (top 4)) (defBody (top 4)) (defScope (top 4)) [] [] (He.ga K "is_integer") fd := F
  refine ⟨⟨"is_integer", "is_integer", defArgs (top 4), defBody (top 4), defScope (top 4), N0, ["thing"], [], 60, [], He.ga K "is_integer", fd, none⟩, t0, rfl, ⟨F, s0, rfl, rfl, c0 K, g, fun p hp => ?_, fun n hn => by cases hn⟩⟩
  rcases List.mem_cons.mp hp with rfl | hp
  · exact pb0 F (fun _ _ _ _ _ _ us ws h1 h2 => match us, ws, h1, h2 with | [_], [], _, _ => ⟨_, rfl, rfl⟩)
  cases hp
theorem o1 (X : K.In h) (G : h.Ns mainGlobals mg) (c : He.SaysD fa fn K) : ∃ dd t, T[1]? = some t ∧ DDok K mg (gc K) dd t d1 := by
  obtain ⟨fd, F⟩ := c.def_ 1 (d := e1) rfl
  have g := He.glo_ok X G (c.fact 1 (f := .glo "is_number") rfl)
  replace F : FunD K "is_number" "is_number" (defArgs (top 5)) (defBody (top 5)) (defScope (top 5)) [] [] (He.ga K "is_number") fd := F
  refine ⟨⟨"is_number", "is_number", defArgs (top 5), defBody (top 5), defScope (top 5), N1, ["thing"], [], 60, [], He.ga K "is_number", fd, none⟩, t1, rfl, ⟨F, s1, rfl, rfl, c1 K, g, fun p hp => ?_, fun n hn => by cases hn⟩⟩
  rcases List.mem_cons.mp hp with rfl | hp
  · exact pb0 F (fun _ _ _ _ _ _ us ws h1 h2 => match us, ws, h1, h2 with | [_], [], _, _ => ⟨_, rfl, rfl⟩)
  cases hp
theorem o2 (X : K.In h) (G : h.Ns mainGlobals mg) (c : He.SaysD fa fn K) : ∃ dd t, T[2]? = some t ∧ DDok K mg (gc K) dd t d2 := by
  obtain ⟨fd, F⟩ := c.def_ 2 (d := e2) rfl
  have g := He.glo_ok X G (c.fact 2 (f := .glo "is_index") rfl)
  replace F : FunD K "is_index" "is_index" (defArgs (top 6)) (defBody (top 6)) (defScope (top 6)) [] [] (He.ga K "is_index") fd := F
  refine ⟨⟨"is_index", "is_index", defArgs (top 6), defBody (top 6), defScope (top 6), N2, ["thing", "many"], [], 60, [], He.ga K "is_index", fd, none⟩, t2, rfl, ⟨F, s2, rfl, rfl, c2 K, g, fun p hp => ?_, fun n hn => by cases hn⟩⟩
  rcases List.mem_cons.mp hp with rfl | hp
  · exact pb0 F (fun _ _ _ _ _ _ us ws h1 h2 => match us, ws, h1, h2 with | [_, _], [], _, _ => ⟨_, rfl, rfl⟩)
  cases hp
theorem o3 (X : K.In h) (G : h.Ns mainGlobals mg) (c : He.SaysD fa fn K) : ∃ dd t, T[3]? = some t ∧ DDok K mg (gc K) dd t d3 := by
  obtain ⟨fd, F⟩ := c.def_ 3 (d := e3) rfl
  have g := He.glo_ok X G (c.fact 3 (f := .glo "is_among") rfl)
  replace F : FunD K "is_among" "is_among" (defArgs (top 7)) (defBody (top 7)) (defScope (top 7)) [] [] (He.ga K "is_among") fd := F
  refine ⟨⟨"is_among", "is_among", defArgs (top 7), defBody (top 7), defScope (top 7), N3, ["thing", "names"], [], 60, [], He.ga K "is_among", fd, none⟩, t3, rfl, ⟨F, s3, rfl, rfl, c3 K, g, fun p hp => ?_, fun n hn => by cases hn⟩⟩
  rcases List.mem_cons.mp hp with rfl | hp
  · exact pb0 F (fun _ _ _ _ _ _ us ws h1 h2 => match us, ws, h1, h2 with | [_, _], [], _, _ => ⟨_, rfl, rfl⟩)
  cases hp
theorem o4 (X : K.In h) (G : h.Ns mainGlobals mg) (c : He.SaysD fa fn K) : ∃ dd t, T[4]? = some t ∧ DDok K mg (gc K) dd t d4 := by
  obtain ⟨fd, F⟩ := c.def_ 4 (d := e4) rfl
  have g := He.glo_ok X G (c.fact 4 (f := .glo "is_name") rfl)
  replace F : FunD K "is_name" "is_name" (defArgs (top 8)) (defBody (top 8)) (defScope (top 8)) [] [] (He.ga K "is_name") fd := F
  refine ⟨⟨"is_name", "is_name", defArgs (top 8), defBody (top 8), defScope (top 8), N4, ["thing"], [], 60, [], He.ga K "is_name", fd, none⟩, t4, rfl, ⟨F, s4, rfl, rfl, c4 K, g, fun p hp => ?_, fun n hn => by cases hn⟩⟩
  rcases List.mem_cons.mp hp with rfl | hp
  · exact pb0 F (fun _ _ _ _ _ _ us ws h1 h2 => match us, ws, h1, h2 with | [_], [], _, _ => ⟨_, rfl, rfl⟩)
  cases hp
theorem o5 (X : K.In h) (G : h.Ns mainGlobals mg) (c : He.SaysD fa fn K) : ∃ dd t, T[5]? = some t ∧ DDok K mg (gc K) dd t d5 := by
  obtain ⟨fd, F⟩ := c.def_ 5 (d := e5) rfl
  have g := He.glo_ok X G (c.fact 5 (f := .glo "is_tuple_of") rfl)
  replace F : FunD K "is_tuple_of" "is_tuple_of" (defArgs (top 9)) (defBody (top 9)) (defScope (top 9)) [] [] (He.ga K "is_tuple_of") fd := F
  refine ⟨⟨"is_tuple_of", "is_tuple_of", defArgs (top 9), defBody (top 9), defScope (top 9), N5, ["thing", "many"], [], 60, [], He.ga K "is_tuple_of", fd, none⟩, t5, rfl, ⟨F, s5, rfl, rfl, c5 K, g, fun p hp => ?_, fun n hn => by cases hn⟩⟩
  rcases List.mem_cons.mp hp with rfl | hp
  · exact pb0 F (fun _ _ _ _ _ _ us ws h1 h2 => match us, ws, h1, h2 with | [_, _], [], _, _ => ⟨_, rfl, rfl⟩)
  cases hp
theorem o6 (X : K.In h) (G : h.Ns mainGlobals mg) (c : He.SaysD fa fn K) : ∃ dd t, T[6]? = some t ∧ DDok K mg (gc K) dd t d6 := by
  obtain ⟨fd, F⟩ := c.def_ 6 (d := e6) rfl
  have g := He.glo_ok X G (c.fact 6 (f := .glo "is_pair") rfl)
  replace F : FunD K "is_pair" "is_pair" (defArgs (top 10)) (defBody (top 10)) (defScope (top 10)) [] [] (He.ga K "is_pair") fd := F
  refine ⟨⟨"is_pair", "is_pair", defArgs (top 10), defBody (top 10), defScope (top 10), N6, ["thing"], [], 60, [], He.ga K "is_pair", fd, none⟩, t6, rfl, ⟨F, s6, rfl, rfl, c6 K, g, fun p hp => ?_, fun n hn => by cases hn⟩⟩
  rcases List.mem_cons.mp hp with rfl | hp
  · exact pb0 F (fun _ _ _ _ _ _ us ws h1 h2 => match us, ws, h1, h2 with | [_], [], _, _ => ⟨_, rfl, rfl⟩)
  cases hp
theorem o7 (X : K.In h) (G : h.Ns mainGlobals mg) (c : He.SaysD fa fn K) : ∃ dd t, T[7]? = some t ∧ DDok K mg (gc K) dd t d7 := by
  obtain ⟨fd, F⟩ := c.def_ 7 (d := e7) rfl
  have g := He.glo_ok X G (c.fact 7 (f := .glo "are_rising") rfl)
  replace F : FunD K "are_rising" "are_rising" (defArgs (top 11)) (defBody (top 11)) (defScope (top 11)) [] [] (He.ga K "are_rising") fd := F
  refine ⟨⟨"are_rising", "are_rising", defArgs (top 11), defBody (top 11), defScope (top 11), N7, ["parts"], [], 60, [], He.ga K "are_rising", fd, none⟩, t7, rfl, ⟨F, s7, rfl, rfl, c7 K, g, fun p hp => ?_, fun n hn => by cases hn⟩⟩
  rcases List.mem_cons.mp hp with rfl | hp
  · exact pb0 F (fun _ _ _ _ _ _ us ws h1 h2 => match us, ws, h1, h2 with | [_], [], _, _ => ⟨_, rfl, rfl⟩)
  cases hp
theorem o8 (X : K.In h) (G : h.Ns mainGlobals mg) (c : He.SaysD fa fn K) : ∃ dd t, T[8]? = some t ∧ DDok K mg (gc K) dd t d8 := by
  obtain ⟨fd, F⟩ := c.def_ 8 (d := e8) rfl
  have g := He.glo_ok X G (c.fact 8 (f := .glo "is_names") rfl)
  replace F : FunD K "is_names" "is_names" (defArgs (top 12)) (defBody (top 12)) (defScope (top 12)) [] [] (He.ga K "is_names") fd := F
  refine ⟨⟨"is_names", "is_names", defArgs (top 12), defBody (top 12), defScope (top 12), N8, ["thing"], [], 60, [], He.ga K "is_names", fd, none⟩, t8, rfl, ⟨F, s8, rfl, rfl, c8 K, g, fun p hp => ?_, fun n hn => by cases hn⟩⟩
  rcases List.mem_cons.mp hp with rfl | hp
  · exact pb0 F (fun _ _ _ _ _ _ us ws h1 h2 => match us, ws, h1, h2 with | [_], [], _, _ => ⟨_, rfl, rfl⟩)
  cases hp
theorem o9 (X : K.In h) (G : h.Ns mainGlobals mg) (c : He.SaysD fa fn K) : ∃ dd t, T[9]? = some t ∧ DDok K mg (gc K) dd t d9 := by
  obtain ⟨fd, F⟩ := c.def_ 9 (d := e9) rfl
  have g := He.glo_ok X G (c.fact 9 (f := .glo "is_names_among") rfl)
  replace F : FunD K "is_names_among" "is_names_among" (defArgs (top 13)) (defBody (top 13)) (defScope (top 13)) [] [] (He.ga K "is_names_among") fd := F
  refine ⟨⟨"is_names_among", "is_names_among", defArgs (top 13), defBody (top 13), defScope (top 13), N9, ["thing", "names"], [], 60, [], He.ga K "is_names_among", fd, none⟩, t9, rfl, ⟨F, s9, rfl, rfl, c9 K, g, fun p hp => ?_, fun n hn => by cases hn⟩⟩
  rcases List.mem_cons.mp hp with rfl | hp
  · exact pb0 F (fun _ _ _ _ _ _ us ws h1 h2 => match us, ws, h1, h2 with | [_, _], [], _, _ => ⟨_, rfl, rfl⟩)
  cases hp
theorem o10 (X : K.In h) (G : h.Ns mainGlobals mg) (c : He.SaysD fa fn K) : ∃ dd t, T[10]? = some t ∧ DDok K mg (gc K) dd t d10 := by
  obtain ⟨fd, F⟩ := c.def_ 10 (d := e10) rfl
  have g := He.glo_ok X G (c.fact 10 (f := .glo "are_sets_among") rfl)
  replace F : FunD K "are_sets_among" "are_sets_among" (defArgs (top 14)) (defBody (top 14)) (defScope (top 14)) [] [] (He.ga K "are_sets_among") fd := F
  refine ⟨⟨"are_sets_among", "are_sets_among", defArgs (top 14), defBody (top 14), defScope (top 14), N10, ["thing", "names"], [], 60, [], He.ga K "are_sets_among", fd, none⟩, t10, rfl, ⟨F, s10, rfl, rfl, c10 K, g, fun p hp => ?_, fun n hn => by cases hn⟩⟩
  rcases List.mem_cons.mp hp with rfl | hp
  · exact pb0 F (fun _ _ _ _ _ _ us ws h1 h2 => match us, ws, h1, h2 with | [_, _], [], _, _ => ⟨_, rfl, rfl⟩)
  cases hp
theorem o11 (X : K.In h) (G : h.Ns mainGlobals mg) (c : He.SaysD fa fn K) : ∃ dd t, T[11]? = some t ∧ DDok K mg (gc K) dd t d11 := by
  obtain ⟨fd, F⟩ := c.def_ 11 (d := e11) rfl
  have g := He.glo_ok X G (c.fact 11 (f := .glo "is_triple_from") rfl)
  replace F : FunD K "is_triple_from" "is_triple_from" (defArgs (top 15)) (defBody (top 15)) (defScope (top 15)) [] [] (He.ga K "is_triple_from") fd := F
  refine ⟨⟨"is_triple_from", "is_triple_from", defArgs (top 15), defBody (top 15), defScope (top 15), N11, ["thing"], [], 60, [], He.ga K "is_triple_from", fd, none⟩, t11, rfl, ⟨F, s11, rfl, rfl, c11 K, g, fun p hp => ?_, fun n hn => by cases hn⟩⟩
  rcases List.mem_cons.mp hp with rfl | hp
  · exact pb0 F (fun _ _ _ _ _ _ us ws h1 h2 => match us, ws, h1, h2 with | [_], [], _, _ => ⟨_, rfl, rfl⟩)
  cases hp
theorem o12 (X : K.In h) (G : h.Ns mainGlobals mg) (c : He.SaysD fa fn K) : ∃ dd t, T[12]? = some t ∧ DDok K mg (gc K) dd t d12 := by
  obtain ⟨fd, F⟩ := c.def_ 12 (d := e12) rfl
  have g := He.glo_ok X G (c.fact 12 (f := .glo "trust_fault") rfl)
  replace F : FunD K "trust_fault" "trust_fault" (defArgs (top 16)) (defBody (top 16)) (defScope (top 16)) [] [] (He.ga K "trust_fault") fd := F
  refine ⟨⟨"trust_fault", "trust_fault", defArgs (top 16), defBody (top 16), defScope (top 16), N12, ["thing"], [], 60, [], He.ga K "trust_fault", fd, none⟩, t12, rfl, ⟨F, s12, rfl, rfl, c12 K, g, fun p hp => ?_, fun n hn => by cases hn⟩⟩
  rcases List.mem_cons.mp hp with rfl | hp
  · exact pb0 F (fun _ _ _ _ _ _ us ws h1 h2 => match us, ws, h1, h2 with | [_], [], _, _ => ⟨_, rfl, rfl⟩)
  cases hp
theorem o13 (X : K.In h) (G : h.Ns mainGlobals mg) (c : He.SaysD fa fn K) : ∃ dd t, T[13]? = some t ∧ DDok K mg (gc K) dd t d13 := by
  obtain ⟨fd, F⟩ := c.def_ 13 (d := e13) rfl
  have g := He.glo_ok X G (c.fact 13 (f := .glo "is_trust") rfl)
  replace F : FunD K "is_trust" "is_trust" (defArgs (top 17)) (defBody (top 17)) (defScope (top 17)) [] [] (He.ga K "is_trust") fd := F
  refine ⟨⟨"is_trust", "is_trust", defArgs (top 17), defBody (top 17), defScope (top 17), N13, ["thing"], [], 60, [], He.ga K "is_trust", fd, none⟩, t13, rfl, ⟨F, s13, rfl, rfl, c13 K, g, fun p hp => ?_, fun n hn => by cases hn⟩⟩
  rcases List.mem_cons.mp hp with rfl | hp
  · exact pb0 F (fun _ _ _ _ _ _ us ws h1 h2 => match us, ws, h1, h2 with | [_], [], _, _ => ⟨_, rfl, rfl⟩)
  cases hp
theorem o14 (X : K.In h) (G : h.Ns mainGlobals mg) (c : He.SaysD fa fn K) : ∃ dd t, T[14]? = some t ∧ DDok K mg (gc K) dd t d14 := by
  obtain ⟨fd, F⟩ := c.def_ 14 (d := e14) rfl
  have g := He.glo_ok X G (c.fact 14 (f := .glo "joint_in") rfl)
  replace F : FunD K "joint_in" "joint_in" (defArgs (top 19)) (defBody (top 19)) (defScope (top 19)) [] [] (He.ga K "joint_in") fd := F
  refine ⟨⟨"joint_in", "joint_in", defArgs (top 19), defBody (top 19), defScope (top 19), N14, ["one", "other"], [], 60, [], He.ga K "joint_in", fd, none⟩, t14, rfl, ⟨F, s14, rfl, rfl, c14 K, g, fun p hp => ?_, fun n hn => by cases hn⟩⟩
  rcases List.mem_cons.mp hp with rfl | hp
  · exact pb0 F (fun _ _ _ _ _ _ us ws h1 h2 => match us, ws, h1, h2 with | [_, _], [], _, _ => ⟨_, rfl, rfl⟩)
  cases hp
theorem o15 (X : K.In h) (G : h.Ns mainGlobals mg) (c : He.SaysD fa fn K) : ∃ dd t, T[15]? = some t ∧ DDok K mg (gc K) dd t d15 := by
  obtain ⟨fd, F⟩ := c.def_ 15 (d := e15) rfl
  have g := He.glo_ok X G (c.fact 15 (f := .glo "houses_in") rfl)
  replace F : FunD K "houses_in" "houses_in" (defArgs (top 20)) (defBody (top 20)) (defScope (top 20)) [] [] (He.ga K "houses_in") fd := F
  refine ⟨⟨"houses_in", "houses_in", defArgs (top 20), defBody (top 20), defScope (top 20), N15, ["trust"], [], 60, [], He.ga K "houses_in", fd, none⟩, t15, rfl, ⟨F, s15, rfl, rfl, c15 K, g, fun p hp => ?_, fun n hn => by cases hn⟩⟩
  rcases List.mem_cons.mp hp with rfl | hp
  · exact pb0 F (fun _ _ _ _ _ _ us ws h1 h2 => match us, ws, h1, h2 with | [_], [], _, _ => ⟨_, rfl, rfl⟩)
  cases hp
theorem o16 (X : K.In h) (G : h.Ns mainGlobals mg) (c : He.SaysD fa fn K) : ∃ dd t, T[16]? = some t ∧ DDok K mg (gc K) dd t d16 := by
  obtain ⟨fd, F⟩ := c.def_ 16 (d := e16) rfl
  have g := He.glo_ok X G (c.fact 16 (f := .glo "lots_of") rfl)
  replace F : FunD K "lots_of" "lots_of" (defArgs (top 22)) (defBody (top 22)) (defScope (top 22)) [] [] (He.ga K "lots_of") fd := F
  refine ⟨⟨"lots_of", "lots_of", defArgs (top 22), defBody (top 22), defScope (top 22), N16, ["trust", "house"], [], 60, [], He.ga K "lots_of", fd, none⟩, t16, rfl, ⟨F, s16, rfl, rfl, c16 K, g, fun p hp => ?_, fun n hn => by cases hn⟩⟩
  rcases List.mem_cons.mp hp with rfl | hp
  · exact pb0 F (fun _ _ _ _ _ _ us ws h1 h2 => match us, ws, h1, h2 with | [_, _], [], _, _ => ⟨_, rfl, rfl⟩)
  cases hp
theorem o17 (X : K.In h) (G : h.Ns mainGlobals mg) (c : He.SaysD fa fn K) : ∃ dd t, T[17]? = some t ∧ DDok K mg (gc K) dd t d17 := by
  obtain ⟨fd, F⟩ := c.def_ 17 (d := e17) rfl
  have g := He.glo_ok X G (c.fact 17 (f := .glo "fears_of") rfl)
  replace F : FunD K "fears_of" "fears_of" (defArgs (top 23)) (defBody (top 23)) (defScope (top 23)) [] [] (He.ga K "fears_of") fd := F
  refine ⟨⟨"fears_of", "fears_of", defArgs (top 23), defBody (top 23), defScope (top 23), N17, ["trust", "house"], [], 60, [], He.ga K "fears_of", fd, none⟩, t17, rfl, ⟨F, s17, rfl, rfl, c17 K, g, fun p hp => ?_, fun n hn => by cases hn⟩⟩
  rcases List.mem_cons.mp hp with rfl | hp
  · exact pb0 F (fun _ _ _ _ _ _ us ws h1 h2 => match us, ws, h1, h2 with | [_, _], [], _, _ => ⟨_, rfl, rfl⟩)
  cases hp
theorem o18 (X : K.In h) (G : h.Ns mainGlobals mg) (c : He.SaysD fa fn K) : ∃ dd t, T[18]? = some t ∧ DDok K mg (gc K) dd t d18 := by
  obtain ⟨fd, F⟩ := c.def_ 18 (d := e18) rfl
  have g := He.glo_ok X G (c.fact 18 (f := .glo "is_within") rfl)
  replace F : FunD K "is_within" "is_within" (defArgs (top 24)) (defBody (top 24)) (defScope (top 24)) [] [] (He.ga K "is_within") fd := F
  refine ⟨⟨"is_within", "is_within", defArgs (top 24), defBody (top 24), defScope (top 24), N18, ["one", "other"], [], 60, [], He.ga K "is_within", fd, none⟩, t18, rfl, ⟨F, s18, rfl, rfl, c18 K, g, fun p hp => ?_, fun n hn => by cases hn⟩⟩
  rcases List.mem_cons.mp hp with rfl | hp
  · exact pb0 F (fun _ _ _ _ _ _ us ws h1 h2 => match us, ws, h1, h2 with | [_, _], [], _, _ => ⟨_, rfl, rfl⟩)
  cases hp
theorem o19 (X : K.In h) (G : h.Ns mainGlobals mg) (c : He.SaysD fa fn K) : ∃ dd t, T[19]? = some t ∧ DDok K mg (gc K) dd t d19 := by
  obtain ⟨fd, F⟩ := c.def_ 19 (d := e19) rfl
  have g := He.glo_ok X G (c.fact 19 (f := .glo "less_by") rfl)
  replace F : FunD K "less_by" "less_by" (defArgs (top 25)) (defBody (top 25)) (defScope (top 25)) [] [] (He.ga K "less_by") fd := F
  refine ⟨⟨"less_by", "less_by", defArgs (top 25), defBody (top 25), defScope (top 25), N19, ["lot", "fall"], [], 60, [], He.ga K "less_by", fd, none⟩, t19, rfl, ⟨F, s19, rfl, rfl, c19 K, g, fun p hp => ?_, fun n hn => by cases hn⟩⟩
  rcases List.mem_cons.mp hp with rfl | hp
  · exact pb0 F (fun _ _ _ _ _ _ us ws h1 h2 => match us, ws, h1, h2 with | [_, _], [], _, _ => ⟨_, rfl, rfl⟩)
  cases hp
theorem o20 (X : K.In h) (G : h.Ns mainGlobals mg) (c : He.SaysD fa fn K) : ∃ dd t, T[20]? = some t ∧ DDok K mg (gc K) dd t d20 := by
  obtain ⟨fd, F⟩ := c.def_ 20 (d := e20) rfl
  have g := He.glo_ok X G (c.fact 20 (f := .glo "least_of") rfl)
  replace F : FunD K "least_of" "least_of" (defArgs (top 26)) (defBody (top 26)) (defScope (top 26)) [] [] (He.ga K "least_of") fd := F
  refine ⟨⟨"least_of", "least_of", defArgs (top 26), defBody (top 26), defScope (top 26), N20, ["sets"], [], 60, [], He.ga K "least_of", fd, none⟩, t20, rfl, ⟨F, s20, rfl, rfl, c20 K, g, fun p hp => ?_, fun n hn => by cases hn⟩⟩
  rcases List.mem_cons.mp hp with rfl | hp
  · exact pb0 F (fun _ _ _ _ _ _ us ws h1 h2 => match us, ws, h1, h2 with | [_], [], _, _ => ⟨_, rfl, rfl⟩)
  cases hp
theorem o21 (X : K.In h) (G : h.Ns mainGlobals mg) (c : He.SaysD fa fn K) : ∃ dd t, T[21]? = some t ∧ DDok K mg (gc K) dd t d21 := by
  obtain ⟨fd, F⟩ := c.def_ 21 (d := e21) rfl
  have g := He.glo_ok X G (c.fact 21 (f := .glo "greatest_of") rfl)
  replace F : FunD K "greatest_of" "greatest_of" (defArgs (top 27)) (defBody (top 27)) (defScope (top 27)) [] [] (He.ga K "greatest_of") fd := F
  refine ⟨⟨"greatest_of", "greatest_of", defArgs (top 27), defBody (top 27), defScope (top 27), N21, ["sets"], [], 60, [], He.ga K "greatest_of", fd, none⟩, t21, rfl, ⟨F, s21, rfl, rfl, c21 K, g, fun p hp => ?_, fun n hn => by cases hn⟩⟩
  rcases List.mem_cons.mp hp with rfl | hp
  · exact pb0 F (fun _ _ _ _ _ _ us ws h1 h2 => match us, ws, h1, h2 with | [_], [], _, _ => ⟨_, rfl, rfl⟩)
  cases hp
theorem o22 (X : K.In h) (G : h.Ns mainGlobals mg) (c : He.SaysD fa fn K) : ∃ dd t, T[22]? = some t ∧ DDok K mg (gc K) dd t d22 := by
  obtain ⟨fd, F⟩ := c.def_ 22 (d := e22) rfl
  have g := He.glo_ok X G (c.fact 22 (f := .glo "is_safe_by") rfl)
  replace F : FunD K "is_safe_by" "is_safe_by" (defArgs (top 28)) (defBody (top 28)) (defScope (top 28)) [] [] (He.ga K "is_safe_by") fd := F
  refine ⟨⟨"is_safe_by", "is_safe_by", defArgs (top 28), defBody (top 28), defScope (top 28), N22, ["trust", "house", "fall"], [], 60, [], He.ga K "is_safe_by", fd, none⟩, t22, rfl, ⟨F, s22, rfl, rfl, c22 K, g, fun p hp => ?_, fun n hn => by cases hn⟩⟩
  rcases List.mem_cons.mp hp with rfl | hp
  · exact pb0 F (fun _ _ _ _ _ _ us ws h1 h2 => match us, ws, h1, h2 with | [_, _, _], [], _, _ => ⟨_, rfl, rfl⟩)
  cases hp
theorem o23 (X : K.In h) (G : h.Ns mainGlobals mg) (c : He.SaysD fa fn K) : ∃ dd t, T[23]? = some t ∧ DDok K mg (gc K) dd t d23 := by
  obtain ⟨fd, F⟩ := c.def_ 23 (d := e23) rfl
  have g := He.glo_ok X G (c.fact 23 (f := .glo "safe_by") rfl)
  replace F : FunD K "safe_by" "safe_by" (defArgs (top 29)) (defBody (top 29)) (defScope (top 29)) [] [] (He.ga K "safe_by") fd := F
  refine ⟨⟨"safe_by", "safe_by", defArgs (top 29), defBody (top 29), defScope (top 29), N23, ["trust", "fall"], [], 60, [], He.ga K "safe_by", fd, none⟩, t23, rfl, ⟨F, s23, rfl, rfl, c23 K, g, fun p hp => ?_, fun n hn => by cases hn⟩⟩
  rcases List.mem_cons.mp hp with rfl | hp
  · exact pb0 F (fun _ _ _ _ _ _ us ws h1 h2 => match us, ws, h1, h2 with | [_, _], [], _, _ => ⟨_, rfl, rfl⟩)
  cases hp
theorem o24 (X : K.In h) (G : h.Ns mainGlobals mg) (c : He.SaysD fa fn K) : ∃ dd t, T[24]? = some t ∧ DDok K mg (gc K) dd t d24 := by
  obtain ⟨fd, F⟩ := c.def_ 24 (d := e24) rfl
  have g := He.glo_ok X G (c.fact 24 (f := .glo "falls_by") rfl)
  replace F : FunD K "falls_by" "falls_by" (defArgs (top 30)) (defBody (top 30)) (defScope (top 30)) [] [] (He.ga K "falls_by") fd := F
  refine ⟨⟨"falls_by", "falls_by", defArgs (top 30), defBody (top 30), defScope (top 30), N24, ["trust", "house", "other"], [], 60, [], He.ga K "falls_by", fd, none⟩, t24, rfl, ⟨F, s24, rfl, rfl, c24 K, g, fun p hp => ?_, fun n hn => by cases hn⟩⟩
  rcases List.mem_cons.mp hp with rfl | hp
  · exact pb0 F (fun _ _ _ _ _ _ us ws h1 h2 => match us, ws, h1, h2 with | [_, _, _], [], _, _ => ⟨_, rfl, rfl⟩)
  cases hp
theorem o25 (X : K.In h) (G : h.Ns mainGlobals mg) (c : He.SaysD fa fn K) : ∃ dd t, T[25]? = some t ∧ DDok K mg (gc K) dd t d25 := by
  obtain ⟨fd, F⟩ := c.def_ 25 (d := e25) rfl
  have g := He.glo_ok X G (c.fact 25 (f := .glo "pairs_in") rfl)
  replace F : FunD K "pairs_in" "pairs_in" (defArgs (top 31)) (defBody (top 31)) (defScope (top 31)) [] [] (He.ga K "pairs_in") fd := F
  refine ⟨⟨"pairs_in", "pairs_in", defArgs (top 31), defBody (top 31), defScope (top 31), N25, ["trust"], [], 60, [], He.ga K "pairs_in", fd, none⟩, t25, rfl, ⟨F, s25, rfl, rfl, c25 K, g, fun p hp => ?_, fun n hn => by cases hn⟩⟩
  rcases List.mem_cons.mp hp with rfl | hp
  · exact pb0 F (fun _ _ _ _ _ _ us ws h1 h2 => match us, ws, h1, h2 with | [_], [], _, _ => ⟨_, rfl, rfl⟩)
  cases hp
theorem o26 (X : K.In h) (G : h.Ns mainGlobals mg) (c : He.SaysD fa fn K) : ∃ dd t, T[26]? = some t ∧ DDok K mg (gc K) dd t d26 := by
  obtain ⟨fd, F⟩ := c.def_ 26 (d := e26) rfl
  have g := He.glo_ok X G (c.fact 26 (f := .glo "lot_at") rfl)
  replace F : FunD K "lot_at" "lot_at" (defArgs (top 32)) (defBody (top 32)) (defScope (top 32)) [] [] (He.ga K "lot_at") fd := F
  refine ⟨⟨"lot_at", "lot_at", defArgs (top 32), defBody (top 32), defScope (top 32), N26, ["trust", "pair"], [], 60, [], He.ga K "lot_at", fd, none⟩, t26, rfl, ⟨F, s26, rfl, rfl, c26 K, g, fun p hp => ?_, fun n hn => by cases hn⟩⟩
  rcases List.mem_cons.mp hp with rfl | hp
  · exact pb0 F (fun _ _ _ _ _ _ us ws h1 h2 => match us, ws, h1, h2 with | [_, _], [], _, _ => ⟨_, rfl, rfl⟩)
  cases hp
theorem o27 (X : K.In h) (G : h.Ns mainGlobals mg) (c : He.SaysD fa fn K) : ∃ dd t, T[27]? = some t ∧ DDok K mg (gc K) dd t d27 := by
  obtain ⟨fd, F⟩ := c.def_ 27 (d := e27) rfl
  have g := He.glo_ok X G (c.fact 27 (f := .glo "odds_by") rfl)
  replace F : FunD K "odds_by" "odds_by" (defArgs (top 33)) (defBody (top 33)) (defScope (top 33)) [] [] (He.ga K "odds_by") fd := F
  refine ⟨⟨"odds_by", "odds_by", defArgs (top 33), defBody (top 33), defScope (top 33), N27, ["trust", "one", "other"], [], 60, [], He.ga K "odds_by", fd, none⟩, t27, rfl, ⟨F, s27, rfl, rfl, c27 K, g, fun p hp => ?_, fun n hn => by cases hn⟩⟩
  rcases List.mem_cons.mp hp with rfl | hp
  · exact pb0 F (fun _ _ _ _ _ _ us ws h1 h2 => match us, ws, h1, h2 with | [_, _, _], [], _, _ => ⟨_, rfl, rfl⟩)
  cases hp
theorem o28 (X : K.In h) (G : h.Ns mainGlobals mg) (c : He.SaysD fa fn K) : ∃ dd t, T[28]? = some t ∧ DDok K mg (gc K) dd t d28 := by
  obtain ⟨fd, F⟩ := c.def_ 28 (d := e28) rfl
  have g := He.glo_ok X G (c.fact 28 (f := .glo "all_odds_by") rfl)
  replace F : FunD K "all_odds_by" "all_odds_by" (defArgs (top 34)) (defBody (top 34)) (defScope (top 34)) [] [] (He.ga K "all_odds_by") fd := F
  refine ⟨⟨"all_odds_by", "all_odds_by", defArgs (top 34), defBody (top 34), defScope (top 34), N28, ["trust"], [2], 60, [], He.ga K "all_odds_by", fd, none⟩, t28, rfl, ⟨F, s28, rfl, rfl, c28 K, g, fun p hp => ?_, fun n hn => by cases hn⟩⟩
  rcases List.mem_cons.mp hp with rfl | hp
  · exact pb0 F (fun _ _ _ _ _ _ us ws h1 h2 => match us, ws, h1, h2 with | [_], [], _, _ => ⟨_, rfl, rfl⟩)
  cases hp
theorem o29 (X : K.In h) (G : h.Ns mainGlobals mg) (c : He.SaysD fa fn K) : ∃ dd t, T[29]? = some t ∧ DDok K mg (gc K) dd t d29 := by
  obtain ⟨fd, F⟩ := c.def_ 29 (d := e29) rfl
  have g := He.glo_ok X G (c.fact 29 (f := .glo "needs_by") rfl)
  replace F : FunD K "needs_by" "needs_by" (defArgs (top 35)) (defBody (top 35)) (defScope (top 35)) [] [] (He.ga K "needs_by") fd := F
  refine ⟨⟨"needs_by", "needs_by", defArgs (top 35), defBody (top 35), defScope (top 35), N29, ["trust", "house"], [2], 60, [], He.ga K "needs_by", fd, none⟩, t29, rfl, ⟨F, s29, rfl, rfl, c29 K, g, fun p hp => ?_, fun n hn => by cases hn⟩⟩
  rcases List.mem_cons.mp hp with rfl | hp
  · exact pb0 F (fun _ _ _ _ _ _ us ws h1 h2 => match us, ws, h1, h2 with | [_, _], [], _, _ => ⟨_, rfl, rfl⟩)
  cases hp
theorem o30 (X : K.In h) (G : h.Ns mainGlobals mg) (c : He.SaysD fa fn K) : ∃ dd t, T[30]? = some t ∧ DDok K mg (gc K) dd t d30 := by
  obtain ⟨fd, F⟩ := c.def_ 30 (d := e30) rfl
  have g := He.glo_ok X G (c.fact 30 (f := .glo "first_missed_by") rfl)
  replace F : FunD K "first_missed_by" "first_missed_by" (defArgs (top 36)) (defBody (top 36)) (defScope (top 36)) [] [] (He.ga K "first_missed_by") fd := F
  refine ⟨⟨"first_missed_by", "first_missed_by", defArgs (top 36), defBody (top 36), defScope (top 36), N30, ["needs", "lot"], [], 60, [], He.ga K "first_missed_by", fd, none⟩, t30, rfl, ⟨F, s30, rfl, rfl, c30 K, g, fun p hp => ?_, fun n hn => by cases hn⟩⟩
  rcases List.mem_cons.mp hp with rfl | hp
  · exact pb0 F (fun _ _ _ _ _ _ us ws h1 h2 => match us, ws, h1, h2 with | [_, _], [], _, _ => ⟨_, rfl, rfl⟩)
  cases hp
theorem o31 (X : K.In h) (G : h.Ns mainGlobals mg) (c : He.SaysD fa fn K) : ∃ dd t, T[31]? = some t ∧ DDok K mg (gc K) dd t d31 := by
  obtain ⟨fd, F⟩ := c.def_ 31 (d := e31) rfl
  have g := He.glo_ok X G (c.fact 31 (f := .glo "is_met") rfl)
  replace F : FunD K "is_met" "is_met" (defArgs (top 37)) (defBody (top 37)) (defScope (top 37)) [] [] (He.ga K "is_met") fd := F
  refine ⟨⟨"is_met", "is_met", defArgs (top 37), defBody (top 37), defScope (top 37), N31, ["needs", "lot"], [], 60, [], He.ga K "is_met", fd, none⟩, t31, rfl, ⟨F, s31, rfl, rfl, c31 K, g, fun p hp => ?_, fun n hn => by cases hn⟩⟩
  rcases List.mem_cons.mp hp with rfl | hp
  · exact pb0 F (fun _ _ _ _ _ _ us ws h1 h2 => match us, ws, h1, h2 with | [_, _], [], _, _ => ⟨_, rfl, rfl⟩)
  cases hp
theorem o32 (X : K.In h) (G : h.Ns mainGlobals mg) (c : He.SaysD fa fn K) : ∃ dd t, T[32]? = some t ∧ DDok K mg (gc K) dd t d32 := by
  obtain ⟨fd, F⟩ := c.def_ 32 (d := e32) rfl
  have g := He.glo_ok X G (c.fact 32 (f := .glo "crossings_by") rfl)
  replace F : FunD K "crossings_by" "crossings_by" (defArgs (top 38)) (defBody (top 38)) (defScope (top 38)) [] [] (He.ga K "crossings_by") fd := F
  refine ⟨⟨"crossings_by", "crossings_by", defArgs (top 38), defBody (top 38), defScope (top 38), N32, ["needs"], [3], 60, [], He.ga K "crossings_by", fd, none⟩, t32, rfl, ⟨F, s32, rfl, rfl, c32 K, g, fun p hp => ?_, fun n hn => by cases hn⟩⟩
  rcases List.mem_cons.mp hp with rfl | hp
  · exact pb0 F (fun _ _ _ _ _ _ us ws h1 h2 => match us, ws, h1, h2 with | [_], [], _, _ => ⟨_, rfl, rfl⟩)
  cases hp
theorem o33 (X : K.In h) (G : h.Ns mainGlobals mg) (c : He.SaysD fa fn K) : ∃ dd t, T[33]? = some t ∧ DDok K mg (gc K) dd t d33 := by
  obtain ⟨fd, F⟩ := c.def_ 33 (d := e33) rfl
  have g := He.glo_ok X G (c.fact 33 (f := .glo "is_house_of") rfl)
  replace F : FunD K "is_house_of" "is_house_of" (defArgs (top 40)) (defBody (top 40)) (defScope (top 40)) [] [] (He.ga K "is_house_of") fd := F
  refine ⟨⟨"is_house_of", "is_house_of", defArgs (top 40), defBody (top 40), defScope (top 40), N33, ["trust", "thing"], [], 60, [], He.ga K "is_house_of", fd, none⟩, t33, rfl, ⟨F, s33, rfl, rfl, c33 K, g, fun p hp => ?_, fun n hn => by cases hn⟩⟩
  rcases List.mem_cons.mp hp with rfl | hp
  · exact pb0 F (fun _ _ _ _ _ _ us ws h1 h2 => match us, ws, h1, h2 with | [_, _], [], _, _ => ⟨_, rfl, rfl⟩)
  cases hp
theorem o34 (X : K.In h) (G : h.Ns mainGlobals mg) (c : He.SaysD fa fn K) : ∃ dd t, T[34]? = some t ∧ DDok K mg (gc K) dd t d34 := by
  obtain ⟨fd, F⟩ := c.def_ 34 (d := e34) rfl
  have g := He.glo_ok X G (c.fact 34 (f := .glo "are_houses_of") rfl)
  replace F : FunD K "are_houses_of" "are_houses_of" (defArgs (top 41)) (defBody (top 41)) (defScope (top 41)) [] [] (He.ga K "are_houses_of") fd := F
  refine ⟨⟨"are_houses_of", "are_houses_of", defArgs (top 41), defBody (top 41), defScope (top 41), N34, ["trust", "thing"], [], 60, [], He.ga K "are_houses_of", fd, none⟩, t34, rfl, ⟨F, s34, rfl, rfl, c34 K, g, fun p hp => ?_, fun n hn => by cases hn⟩⟩
  rcases List.mem_cons.mp hp with rfl | hp
  · exact pb0 F (fun _ _ _ _ _ _ us ws h1 h2 => match us, ws, h1, h2 with | [_, _], [], _, _ => ⟨_, rfl, rfl⟩)
  cases hp
theorem o35 (X : K.In h) (G : h.Ns mainGlobals mg) (c : He.SaysD fa fn K) : ∃ dd t, T[35]? = some t ∧ DDok K mg (gc K) dd t d35 := by
  obtain ⟨fd, F⟩ := c.def_ 35 (d := e35) rfl
  have g := He.glo_ok X G (c.fact 35 (f := .glo "is_pair_of") rfl)
  replace F : FunD K "is_pair_of" "is_pair_of" (defArgs (top 42)) (defBody (top 42)) (defScope (top 42)) [] [] (He.ga K "is_pair_of") fd := F
  refine ⟨⟨"is_pair_of", "is_pair_of", defArgs (top 42), defBody (top 42), defScope (top 42), N35, ["trust", "thing"], [], 60, [], He.ga K "is_pair_of", fd, none⟩, t35, rfl, ⟨F, s35, rfl, rfl, c35 K, g, fun p hp => ?_, fun n hn => by cases hn⟩⟩
  rcases List.mem_cons.mp hp with rfl | hp
  · exact pb0 F (fun _ _ _ _ _ _ us ws h1 h2 => match us, ws, h1, h2 with | [_, _], [], _, _ => ⟨_, rfl, rfl⟩)
  cases hp
theorem o36 (X : K.In h) (G : h.Ns mainGlobals mg) (c : He.SaysD fa fn K) : ∃ dd t, T[36]? = some t ∧ DDok K mg (gc K) dd t d36 := by
  obtain ⟨fd, F⟩ := c.def_ 36 (d := e36) rfl
  have g := He.glo_ok X G (c.fact 36 (f := .glo "are_pairs_of") rfl)
  replace F : FunD K "are_pairs_of" "are_pairs_of" (defArgs (top 43)) (defBody (top 43)) (defScope (top 43)) [] [] (He.ga K "are_pairs_of") fd := F
  refine ⟨⟨"are_pairs_of", "are_pairs_of", defArgs (top 43), defBody (top 43), defScope (top 43), N36, ["trust", "thing"], [], 60, [], He.ga K "are_pairs_of", fd, none⟩, t36, rfl, ⟨F, s36, rfl, rfl, c36 K, g, fun p hp => ?_, fun n hn => by cases hn⟩⟩
  rcases List.mem_cons.mp hp with rfl | hp
  · exact pb0 F (fun _ _ _ _ _ _ us ws h1 h2 => match us, ws, h1, h2 with | [_, _], [], _, _ => ⟨_, rfl, rfl⟩)
  cases hp
theorem o37 (X : K.In h) (G : h.Ns mainGlobals mg) (c : He.SaysD fa fn K) : ∃ dd t, T[37]? = some t ∧ DDok K mg (gc K) dd t d37 := by
  obtain ⟨fd, F⟩ := c.def_ 37 (d := e37) rfl
  have g := He.glo_ok X G (c.fact 37 (f := .glo "want") rfl)
  replace F : FunD K "want" "want" (defArgs (top 53)) (defBody (top 53)) (defScope (top 53)) [V.int (-1)] [] (He.ga K "want") fd := F
  refine ⟨⟨"want", "want", defArgs (top 53), defBody (top 53), defScope (top 53), N37, ["is_fit", "name", "at"], [], 60, [V.int (-1)], He.ga K "want", fd, none⟩, t37, rfl, ⟨F, s37, rfl, rfl, c37 K, g, fun p hp => ?_, fun n hn => by cases hn⟩⟩
  rcases List.mem_cons.mp hp with rfl | hp
  · exact pb1 F (by simp) (fun _ => .cons (.int _) (.nil)) (fun _ _ _ _ _ _ _ us ws its h1 h2 h3 => match us, ws, its, h1, h2, h3 with | [_, _], [], [_], _, _, _ => ⟨_, _, rfl, rfl, rfl⟩)
  cases hp
theorem o38 (X : K.In h) (G : h.Ns mainGlobals mg) (c : He.SaysD fa fn K) : ∃ dd t, T[38]? = some t ∧ DDok K mg (gc K) dd t d38 := by
  obtain ⟨fd, F⟩ := c.def_ 38 (d := e38) rfl
  have g := He.glo_ok X G (c.fact 38 (f := .glo "want_trust") rfl)
  replace F : FunD K "want_trust" "want_trust" (defArgs (top 55)) (defBody (top 55)) (defScope (top 55)) [V.str "trust"] [] (He.ga K "want_trust") fd := F
  refine ⟨⟨"want_trust", "want_trust", defArgs (top 55), defBody (top 55), defScope (top 55), N38, ["trust", "name"], [], 60, [V.str "trust"], He.ga K "want_trust", fd, none⟩, t38, rfl, ⟨F, s38, rfl, rfl, c38 K, g, fun p hp => ?_, fun n hn => by cases hn⟩⟩
  rcases List.mem_cons.mp hp with rfl | hp
  · exact pb1 F (by simp) (fun _ => .cons (.str _ (by decide +kernel)) (.nil)) (fun _ _ _ _ _ _ _ us ws its h1 h2 h3 => match us, ws, its, h1, h2, h3 with | [_], [], [_], _, _, _ => ⟨_, _, rfl, rfl, rfl⟩)
  cases hp
theorem o39 (X : K.In h) (G : h.Ns mainGlobals mg) (c : He.SaysD fa fn K) : ∃ dd t, T[39]? = some t ∧ DDok K mg (gc K) dd t d39 := by
  obtain ⟨fd, F⟩ := c.def_ 39 (d := e39) rfl
  have g := He.glo_ok X G (c.fact 39 (f := .glo "want_house") rfl)
  replace F : FunD K "want_house" "want_house" (defArgs (top 56)) (defBody (top 56)) (defScope (top 56)) [V.str "house"] [] (He.ga K "want_house") fd := F
  refine ⟨⟨"want_house", "want_house", defArgs (top 56), defBody (top 56), defScope (top 56), N39, ["trust", "house", "name"], [], 60, [V.str "house"], He.ga K "want_house", fd, none⟩, t39, rfl, ⟨F, s39, rfl, rfl, c39 K, g, fun p hp => ?_, fun n hn => by cases hn⟩⟩
  rcases List.mem_cons.mp hp with rfl | hp
  · exact pb1 F (by simp) (fun _ => .cons (.str _ (by decide +kernel)) (.nil)) (fun _ _ _ _ _ _ _ us ws its h1 h2 h3 => match us, ws, its, h1, h2, h3 with | [_, _], [], [_], _, _, _ => ⟨_, _, rfl, rfl, rfl⟩)
  rcases List.mem_cons.mp hp with rfl | hp
  · exact pb1 F (by simp) (fun _ => .cons (.str _ (by decide +kernel)) (.nil)) (fun _ _ _ _ _ _ _ us ws its h1 h2 h3 => match us, ws, its, h1, h2, h3 with | [_, _, _], [], [_], _, _, _ => ⟨_, _, rfl, rfl, rfl⟩)
  cases hp
theorem o40 (X : K.In h) (G : h.Ns mainGlobals mg) (c : He.SaysD fa fn K) : ∃ dd t, T[40]? = some t ∧ DDok K mg (gc K) dd t d40 := by
  obtain ⟨fd, F⟩ := c.def_ 40 (d := e40) rfl
  have g := He.glo_ok X G (c.fact 40 (f := .glo "want_lot") rfl)
  replace F : FunD K "want_lot" "want_lot" (defArgs (top 57)) (defBody (top 57)) (defScope (top 57)) [V.str "lot"] [] (He.ga K "want_lot") fd := F
  refine ⟨⟨"want_lot", "want_lot", defArgs (top 57), defBody (top 57), defScope (top 57), N40, ["trust", "lot", "name"], [], 60, [V.str "lot"], He.ga K "want_lot", fd, none⟩, t40, rfl, ⟨F, s40, rfl, rfl, c40 K, g, fun p hp => ?_, fun n hn => by cases hn⟩⟩
  rcases List.mem_cons.mp hp with rfl | hp
  · exact pb1 F (by simp) (fun _ => .cons (.str _ (by decide +kernel)) (.nil)) (fun _ _ _ _ _ _ _ us ws its h1 h2 h3 => match us, ws, its, h1, h2, h3 with | [_, _, _], [], [_], _, _, _ => ⟨_, _, rfl, rfl, rfl⟩)
  rcases List.mem_cons.mp hp with rfl | hp
  · exact pb1 F (by simp) (fun _ => .cons (.str _ (by decide +kernel)) (.nil)) (fun _ _ _ _ _ _ _ us ws its h1 h2 h3 => match us, ws, its, h1, h2, h3 with | [_, _], [], [_], _, _, _ => ⟨_, _, rfl, rfl, rfl⟩)
  cases hp
theorem o41 (X : K.In h) (G : h.Ns mainGlobals mg) (c : He.SaysD fa fn K) : ∃ dd t, T[41]? = some t ∧ DDok K mg (gc K) dd t d41 := by
  obtain ⟨fd, F⟩ := c.def_ 41 (d := e41) rfl
  have g := He.glo_ok X G (c.fact 41 (f := .glo "want_pair") rfl)
  replace F : FunD K "want_pair" "want_pair" (defArgs (top 58)) (defBody (top 58)) (defScope (top 58)) [] [] (He.ga K "want_pair") fd := F
  refine ⟨⟨"want_pair", "want_pair", defArgs (top 58), defBody (top 58), defScope (top 58), N41, ["trust", "pair", "name"], [], 60, [], He.ga K "want_pair", fd, none⟩, t41, rfl, ⟨F, s41, rfl, rfl, c41 K, g, fun p hp => ?_, fun n hn => by cases hn⟩⟩
  rcases List.mem_cons.mp hp with rfl | hp
  · exact pb0 F (fun _ _ _ _ _ _ us ws h1 h2 => match us, ws, h1, h2 with | [_, _, _], [], _, _ => ⟨_, rfl, rfl⟩)
  cases hp
theorem o42 (X : K.In h) (G : h.Ns mainGlobals mg) (c : He.SaysD fa fn K) : ∃ dd t, T[42]? = some t ∧ DDok K mg (gc K) dd t d42 := by
  obtain ⟨fd, F⟩ := c.def_ 42 (d := e42) rfl
  have g := He.glo_ok X G (c.fact 42 (f := .glo "is_safe") rfl)
  replace F : FunD K "is_safe" "is_safe" (defArgs (top 60)) (defBody (top 60)) (defScope (top 60)) [] [] (He.ga K "is_safe") fd := F
  refine ⟨⟨"is_safe", "is_safe", defArgs (top 60), defBody (top 60), defScope (top 60), N42, ["trust", "house", "fall"], [], 60, [], He.ga K "is_safe", fd, none⟩, t42, rfl, ⟨F, s42, rfl, rfl, c42 K, g, fun p hp => ?_, fun n hn => by cases hn⟩⟩
  rcases List.mem_cons.mp hp with rfl | hp
  · exact pb0 F (fun _ _ _ _ _ _ us ws h1 h2 => match us, ws, h1, h2 with | [_, _, _], [], _, _ => ⟨_, rfl, rfl⟩)
  rcases List.mem_cons.mp hp with rfl | hp
  · exact pb0 F (fun _ _ _ _ _ _ us ws h1 h2 => match us, ws, h1, h2 with | [], [_, _, _], _, _ => ⟨_, rfl, rfl⟩)
  cases hp
theorem o43 (X : K.In h) (G : h.Ns mainGlobals mg) (c : He.SaysD fa fn K) : ∃ dd t, T[43]? = some t ∧ DDok K mg (gc K) dd t d43 := by
  obtain ⟨fd, F⟩ := c.def_ 43 (d := e43) rfl
  have g := He.glo_ok X G (c.fact 43 (f := .glo "safe_houses") rfl)
  replace F : FunD K "safe_houses" "safe_houses" (defArgs (top 61)) (defBody (top 61)) (defScope (top 61)) [] [] (He.ga K "safe_houses") fd := F
  refine ⟨⟨"safe_houses", "safe_houses", defArgs (top 61), defBody (top 61), defScope (top 61), N43, ["trust", "fall"], [], 60, [], He.ga K "safe_houses", fd, none⟩, t43, rfl, ⟨F, s43, rfl, rfl, c43 K, g, fun p hp => ?_, fun n hn => by cases hn⟩⟩
  rcases List.mem_cons.mp hp with rfl | hp
  · exact pb0 F (fun _ _ _ _ _ _ us ws h1 h2 => match us, ws, h1, h2 with | [_, _], [], _, _ => ⟨_, rfl, rfl⟩)
  rcases List.mem_cons.mp hp with rfl | hp
  · exact pb0 F (fun _ _ _ _ _ _ us ws h1 h2 => match us, ws, h1, h2 with | [], [_, _], _, _ => ⟨_, rfl, rfl⟩)
  cases hp
theorem o44 (X : K.In h) (G : h.Ns mainGlobals mg) (c : He.SaysD fa fn K) : ∃ dd t, T[44]? = some t ∧ DDok K mg (gc K) dd t d44 := by
  obtain ⟨fd, F⟩ := c.def_ 44 (d := e44) rfl
  have g := He.glo_ok X G (c.fact 44 (f := .glo "greatest_falls") rfl)
  replace F : FunD K "greatest_falls" "greatest_falls" (defArgs (top 62)) (defBody (top 62)) (defScope (top 62)) [] [] (He.ga K "greatest_falls") fd := F
  refine ⟨⟨"greatest_falls", "greatest_falls", defArgs (top 62), defBody (top 62), defScope (top 62), N44, ["trust", "house"], [], 60, [], He.ga K "greatest_falls", fd, none⟩, t44, rfl, ⟨F, s44, rfl, rfl, c44 K, g, fun p hp => ?_, fun n hn => by cases hn⟩⟩
  rcases List.mem_cons.mp hp with rfl | hp
  · exact pb0 F (fun _ _ _ _ _ _ us ws h1 h2 => match us, ws, h1, h2 with | [_, _], [], _, _ => ⟨_, rfl, rfl⟩)
  rcases List.mem_cons.mp hp with rfl | hp
  · exact pb0 F (fun _ _ _ _ _ _ us ws h1 h2 => match us, ws, h1, h2 with | [], [_, _], _, _ => ⟨_, rfl, rfl⟩)
  cases hp
theorem o45 (X : K.In h) (G : h.Ns mainGlobals mg) (c : He.SaysD fa fn K) : ∃ dd t, T[45]? = some t ∧ DDok K mg (gc K) dd t d45 := by
  obtain ⟨fd, F⟩ := c.def_ 45 (d := e45) rfl
  have g := He.glo_ok X G (c.fact 45 (f := .glo "common_falls") rfl)
  replace F : FunD K "common_falls" "common_falls" (defArgs (top 63)) (defBody (top 63)) (defScope (top 63)) [] [] (He.ga K "common_falls") fd := F
  refine ⟨⟨"common_falls", "common_falls", defArgs (top 63), defBody (top 63), defScope (top 63), N45, ["trust", "house", "other"], [], 60, [], He.ga K "common_falls", fd, none⟩, t45, rfl, ⟨F, s45, rfl, rfl, c45 K, g, fun p hp => ?_, fun n hn => by cases hn⟩⟩
  rcases List.mem_cons.mp hp with rfl | hp
  · exact pb0 F (fun _ _ _ _ _ _ us ws h1 h2 => match us, ws, h1, h2 with | [_, _, _], [], _, _ => ⟨_, rfl, rfl⟩)
  rcases List.mem_cons.mp hp with rfl | hp
  · exact pb0 F (fun _ _ _ _ _ _ us ws h1 h2 => match us, ws, h1, h2 with | [], [_, _, _], _, _ => ⟨_, rfl, rfl⟩)
  cases hp
theorem o46 (X : K.In h) (G : h.Ns mainGlobals mg) (c : He.SaysD fa fn K) : ∃ dd t, T[46]? = some t ∧ DDok K mg (gc K) dd t d46 := by
  obtain ⟨fd, F⟩ := c.def_ 46 (d := e46) rfl
  have g := He.glo_ok X G (c.fact 46 (f := .glo "needs_of") rfl)
  replace F : FunD K "needs_of" "needs_of" (defArgs (top 65)) (defBody (top 65)) (defScope (top 65)) [] [] (He.ga K "needs_of") fd := F
  refine ⟨⟨"needs_of", "needs_of", defArgs (top 65), defBody (top 65), defScope (top 65), N46, ["trust", "house"], [], 60, [], He.ga K "needs_of", fd, none⟩, t46, rfl, ⟨F, s46, rfl, rfl, c46 K, g, fun p hp => ?_, fun n hn => by cases hn⟩⟩
  rcases List.mem_cons.mp hp with rfl | hp
  · exact pb0 F (fun _ _ _ _ _ _ us ws h1 h2 => match us, ws, h1, h2 with | [_, _], [], _, _ => ⟨_, rfl, rfl⟩)
  rcases List.mem_cons.mp hp with rfl | hp
  · exact pb0 F (fun _ _ _ _ _ _ us ws h1 h2 => match us, ws, h1, h2 with | [], [_, _], _, _ => ⟨_, rfl, rfl⟩)
  cases hp
theorem o47 (X : K.In h) (G : h.Ns mainGlobals mg) (c : He.SaysD fa fn K) : ∃ dd t, T[47]? = some t ∧ DDok K mg (gc K) dd t d47 := by
  obtain ⟨fd, F⟩ := c.def_ 47 (d := e47) rfl
  have g := He.glo_ok X G (c.fact 47 (f := .glo "meets_needs") rfl)
  replace F : FunD K "meets_needs" "meets_needs" (defArgs (top 66)) (defBody (top 66)) (defScope (top 66)) [] [] (He.ga K "meets_needs") fd := F
  refine ⟨⟨"meets_needs", "meets_needs", defArgs (top 66), defBody (top 66), defScope (top 66), N47, ["trust", "house", "lot"], [], 60, [], He.ga K "meets_needs", fd, none⟩, t47, rfl, ⟨F, s47, rfl, rfl, c47 K, g, fun p hp => ?_, fun n hn => by cases hn⟩⟩
  rcases List.mem_cons.mp hp with rfl | hp
  · exact pb0 F (fun _ _ _ _ _ _ us ws h1 h2 => match us, ws, h1, h2 with | [_, _, _], [], _, _ => ⟨_, rfl, rfl⟩)
  cases hp
theorem o48 (X : K.In h) (G : h.Ns mainGlobals mg) (c : He.SaysD fa fn K) : ∃ dd t, T[48]? = some t ∧ DDok K mg (gc K) dd t d48 := by
  obtain ⟨fd, F⟩ := c.def_ 48 (d := e48) rfl
  have g := He.glo_ok X G (c.fact 48 (f := .glo "first_missed") rfl)
  replace F : FunD K "first_missed" "first_missed" (defArgs (top 67)) (defBody (top 67)) (defScope (top 67)) [] [] (He.ga K "first_missed") fd := F
  refine ⟨⟨"first_missed", "first_missed", defArgs (top 67), defBody (top 67), defScope (top 67), N48, ["trust", "house", "lot"], [], 60, [], He.ga K "first_missed", fd, none⟩, t48, rfl, ⟨F, s48, rfl, rfl, c48 K, g, fun p hp => ?_, fun n hn => by cases hn⟩⟩
  rcases List.mem_cons.mp hp with rfl | hp
  · exact pb0 F (fun _ _ _ _ _ _ us ws h1 h2 => match us, ws, h1, h2 with | [], [_, _, _], _, _ => ⟨_, rfl, rfl⟩)
  rcases List.mem_cons.mp hp with rfl | hp
  · exact pb0 F (fun _ _ _ _ _ _ us ws h1 h2 => match us, ws, h1, h2 with | [_, _, _], [], _, _ => ⟨_, rfl, rfl⟩)
  cases hp
theorem o49 (X : K.In h) (G : h.Ns mainGlobals mg) (c : He.SaysD fa fn K) : ∃ dd t, T[49]? = some t ∧ DDok K mg (gc K) dd t d49 := by
  obtain ⟨fd, F⟩ := c.def_ 49 (d := e49) rfl
  have g := He.glo_ok X G (c.fact 49 (f := .glo "least_lots") rfl)
  replace F : FunD K "least_lots" "least_lots" (defArgs (top 68)) (defBody (top 68)) (defScope (top 68)) [] [] (He.ga K "least_lots") fd := F
  refine ⟨⟨"least_lots", "least_lots", defArgs (top 68), defBody (top 68), defScope (top 68), N49, ["trust", "house"], [], 60, [], He.ga K "least_lots", fd, none⟩, t49, rfl, ⟨F, s49, rfl, rfl, c49 K, g, fun p hp => ?_, fun n hn => by cases hn⟩⟩
  rcases List.mem_cons.mp hp with rfl | hp
  · exact pb0 F (fun _ _ _ _ _ _ us ws h1 h2 => match us, ws, h1, h2 with | [_, _], [], _, _ => ⟨_, rfl, rfl⟩)
  cases hp
theorem o50 (X : K.In h) (G : h.Ns mainGlobals mg) (c : He.SaysD fa fn K) : ∃ dd t, T[50]? = some t ∧ DDok K mg (gc K) dd t d50 := by
  obtain ⟨fd, F⟩ := c.def_ 50 (d := e50) rfl
  have g := He.glo_ok X G (c.fact 50 (f := .glo "fewest_lot") rfl)
  replace F : FunD K "fewest_lot" "fewest_lot" (defArgs (top 69)) (defBody (top 69)) (defScope (top 69)) [] [] (He.ga K "fewest_lot") fd := F
  refine ⟨⟨"fewest_lot", "fewest_lot", defArgs (top 69), defBody (top 69), defScope (top 69), N50, ["trust", "house"], [], 60, [], He.ga K "fewest_lot", fd, none⟩, t50, rfl, ⟨F, s50, rfl, rfl, c50 K, g, fun p hp => ?_, fun n hn => by cases hn⟩⟩
  rcases List.mem_cons.mp hp with rfl | hp
  · exact pb0 F (fun _ _ _ _ _ _ us ws h1 h2 => match us, ws, h1, h2 with | [_, _], [], _, _ => ⟨_, rfl, rfl⟩)
  rcases List.mem_cons.mp hp with rfl | hp
  · exact pb0 F (fun _ _ _ _ _ _ us ws h1 h2 => match us, ws, h1, h2 with | [], [_, _], _, _ => ⟨_, rfl, rfl⟩)
  cases hp
theorem o51 (X : K.In h) (G : h.Ns mainGlobals mg) (c : He.SaysD fa fn K) : ∃ dd t, T[51]? = some t ∧ DDok K mg (gc K) dd t d51 := by
  obtain ⟨fd, F⟩ := c.def_ 51 (d := e51) rfl
  have g := He.glo_ok X G (c.fact 51 (f := .glo "foes_by") rfl)
  replace F : FunD K "foes_by" "foes_by" (defArgs (top 71)) (defBody (top 71)) (defScope (top 71)) [] [] (He.ga K "foes_by") fd := F
  refine ⟨⟨"foes_by", "foes_by", defArgs (top 71), defBody (top 71), defScope (top 71), N51, ["trust"], [], 60, [], He.ga K "foes_by", fd, none⟩, t51, rfl, ⟨F, s51, rfl, rfl, c51 K, g, fun p hp => ?_, fun n hn => by cases hn⟩⟩
  rcases List.mem_cons.mp hp with rfl | hp
  · exact pb0 F (fun _ _ _ _ _ _ us ws h1 h2 => match us, ws, h1, h2 with | [_], [], _, _ => ⟨_, rfl, rfl⟩)
  cases hp
theorem o52 (X : K.In h) (G : h.Ns mainGlobals mg) (c : He.SaysD fa fn K) : ∃ dd t, T[52]? = some t ∧ DDok K mg (gc K) dd t d52 := by
  obtain ⟨fd, F⟩ := c.def_ 52 (d := e52) rfl
  have g := He.glo_ok X G (c.fact 52 (f := .glo "can_stay") rfl)
  replace F : FunD K "can_stay" "can_stay" (defArgs (top 72)) (defBody (top 72)) (defScope (top 72)) [] [] (He.ga K "can_stay") fd := F
  refine ⟨⟨"can_stay", "can_stay", defArgs (top 72), defBody (top 72), defScope (top 72), N52, ["foes", "kept", "pair"], [], 60, [], He.ga K "can_stay", fd, none⟩, t52, rfl, ⟨F, s52, rfl, rfl, c52 K, g, fun p hp => ?_, fun n hn => by cases hn⟩⟩
  rcases List.mem_cons.mp hp with rfl | hp
  · exact pb0 F (fun _ _ _ _ _ _ us ws h1 h2 => match us, ws, h1, h2 with | [_, _, _], [], _, _ => ⟨_, rfl, rfl⟩)
  cases hp
theorem o53 (X : K.In h) (G : h.Ns mainGlobals mg) (c : He.SaysD fa fn K) : ∃ dd t, T[53]? = some t ∧ DDok K mg (gc K) dd t d53 := by
  obtain ⟨fd, F⟩ := c.def_ 53 (d := e53) rfl
  have g := He.glo_ok X G (c.fact 53 (f := .glo "is_last") rfl)
  replace F : FunD K "is_last" "is_last" (defArgs (top 73)) (defBody (top 73)) (defScope (top 73)) [] [] (He.ga K "is_last") fd := F
  refine ⟨⟨"is_last", "is_last", defArgs (top 73), defBody (top 73), defScope (top 73), N53, ["pairs", "k"], [], 60, [], He.ga K "is_last", fd, none⟩, t53, rfl, ⟨F, s53, rfl, rfl, c53 K, g, fun p hp => ?_, fun n hn => by cases hn⟩⟩
  rcases List.mem_cons.mp hp with rfl | hp
  · exact pb0 F (fun _ _ _ _ _ _ us ws h1 h2 => match us, ws, h1, h2 with | [_, _], [], _, _ => ⟨_, rfl, rfl⟩)
  cases hp
theorem o54 (X : K.In h) (G : h.Ns mainGlobals mg) (c : He.SaysD fa fn K) : ∃ dd t, T[54]? = some t ∧ DDok K mg (gc K) dd t d54 := by
  obtain ⟨fd, F⟩ := c.def_ 54 (d := e54) rfl
  have g := He.glo_ok X G (c.fact 54 (f := .glo "can_go") rfl)
  replace F : FunD K "can_go" "can_go" (defArgs (top 74)) (defBody (top 74)) (defScope (top 74)) [] [] (He.ga K "can_go") fd := F
  refine ⟨⟨"can_go", "can_go", defArgs (top 74), defBody (top 74), defScope (top 74), N54, ["pairs", "kept", "k"], [], 60, [], He.ga K "can_go", fd, none⟩, t54, rfl, ⟨F, s54, rfl, rfl, c54 K, g, fun p hp => ?_, fun n hn => by cases hn⟩⟩
  rcases List.mem_cons.mp hp with rfl | hp
  · exact pb0 F (fun _ _ _ _ _ _ us ws h1 h2 => match us, ws, h1, h2 with | [_, _, _], [], _, _ => ⟨_, rfl, rfl⟩)
  cases hp
theorem o55 (X : K.In h) (G : h.Ns mainGlobals mg) (c : He.SaysD fa fn K) : ∃ dd t, T[55]? = some t ∧ DDok K mg (gc K) dd t d55 := by
  obtain ⟨fd, F⟩ := c.def_ 55 (d := e55) rfl
  have g := He.glo_ok X G (c.fact 55 (f := .glo "fewest_dropped") rfl)
  replace F : FunD K "fewest_dropped" "fewest_dropped" (defArgs (top 75)) (defBody (top 75)) (defScope (top 75)) [] [] (He.ga K "fewest_dropped") fd := F
  refine ⟨⟨"fewest_dropped", "fewest_dropped", defArgs (top 75), defBody (top 75), defScope (top 75), N55, ["trust"], [4], 60, [], He.ga K "fewest_dropped", fd, none⟩, t55, rfl, ⟨F, s55, rfl, rfl, c55 K, g, fun p hp => ?_, fun n hn => by cases hn⟩⟩
  rcases List.mem_cons.mp hp with rfl | hp
  · exact pb0 F (fun _ _ _ _ _ _ us ws h1 h2 => match us, ws, h1, h2 with | [_], [], _, _ => ⟨_, rfl, rfl⟩)
  cases hp
theorem o56 (X : K.In h) (G : h.Ns mainGlobals mg) (c : He.SaysD fa fn K) : ∃ dd t, T[56]? = some t ∧ DDok K mg (gc K) dd t d56 := by
  obtain ⟨fd, F⟩ := c.def_ 56 (d := e56) rfl
  have g := He.glo_ok X G (c.fact 56 (f := .glo "odds_fall") rfl)
  replace F : FunD K "odds_fall" "odds_fall" (defArgs (top 77)) (defBody (top 77)) (defScope (top 77)) [] [] (He.ga K "odds_fall") fd := F
  refine ⟨⟨"odds_fall", "odds_fall", defArgs (top 77), defBody (top 77), defScope (top 77), N56, ["trust", "one", "other"], [], 60, [], He.ga K "odds_fall", fd, none⟩, t56, rfl, ⟨F, s56, rfl, rfl, c56 K, g, fun p hp => ?_, fun n hn => by cases hn⟩⟩
  rcases List.mem_cons.mp hp with rfl | hp
  · exact pb0 F (fun _ _ _ _ _ _ us ws h1 h2 => match us, ws, h1, h2 with | [_, _, _], [], _, _ => ⟨_, rfl, rfl⟩)
  rcases List.mem_cons.mp hp with rfl | hp
  · exact pb0 F (fun _ _ _ _ _ _ us ws h1 h2 => match us, ws, h1, h2 with | [], [_, _, _], _, _ => ⟨_, rfl, rfl⟩)
  cases hp
theorem o57 (X : K.In h) (G : h.Ns mainGlobals mg) (c : He.SaysD fa fn K) : ∃ dd t, T[57]? = some t ∧ DDok K mg (gc K) dd t d57 := by
  obtain ⟨fd, F⟩ := c.def_ 57 (d := e57) rfl
  have g := He.glo_ok X G (c.fact 57 (f := .glo "all_odds") rfl)
  replace F : FunD K "all_odds" "all_odds" (defArgs (top 78)) (defBody (top 78)) (defScope (top 78)) [] [] (He.ga K "all_odds") fd := F
  refine ⟨⟨"all_odds", "all_odds", defArgs (top 78), defBody (top 78), defScope (top 78), N57, ["trust"], [], 60, [], He.ga K "all_odds", fd, none⟩, t57, rfl, ⟨F, s57, rfl, rfl, c57 K, g, fun p hp => ?_, fun n hn => by cases hn⟩⟩
  rcases List.mem_cons.mp hp with rfl | hp
  · exact pb0 F (fun _ _ _ _ _ _ us ws h1 h2 => match us, ws, h1, h2 with | [_], [], _, _ => ⟨_, rfl, rfl⟩)
  rcases List.mem_cons.mp hp with rfl | hp
  · exact pb0 F (fun _ _ _ _ _ _ us ws h1 h2 => match us, ws, h1, h2 with | [], [_], _, _ => ⟨_, rfl, rfl⟩)
  cases hp
theorem o58 (X : K.In h) (G : h.Ns mainGlobals mg) (c : He.SaysD fa fn K) : ∃ dd t, T[58]? = some t ∧ DDok K mg (gc K) dd t d58 := by
  obtain ⟨fd, F⟩ := c.def_ 58 (d := e58) rfl
  have g := He.glo_ok X G (c.fact 58 (f := .glo "lots_without") rfl)
  replace F : FunD K "lots_without" "lots_without" (defArgs (top 79)) (defBody (top 79)) (defScope (top 79)) [] [] (He.ga K "lots_without") fd := F
  refine ⟨⟨"lots_without", "lots_without", defArgs (top 79), defBody (top 79), defScope (top 79), N58, ["row", "pairs"], [], 60, [], He.ga K "lots_without", fd, none⟩, t58, rfl, ⟨F, s58, rfl, rfl, c58 K, g, fun p hp => ?_, fun n hn => by cases hn⟩⟩
  rcases List.mem_cons.mp hp with rfl | hp
  · exact pb0 F (fun _ _ _ _ _ _ us ws h1 h2 => match us, ws, h1, h2 with | [_, _], [], _, _ => ⟨_, rfl, rfl⟩)
  cases hp
theorem o59 (X : K.In h) (G : h.Ns mainGlobals mg) (c : He.SaysD fa fn K) : ∃ dd t, T[59]? = some t ∧ DDok K mg (gc K) dd t d59 := by
  obtain ⟨fd, F⟩ := c.def_ 59 (d := e59) rfl
  have g := He.glo_ok X G (c.fact 59 (f := .glo "without_pairs") rfl)
  replace F : FunD K "without_pairs" "without_pairs" (defArgs (top 80)) (defBody (top 80)) (defScope (top 80)) [] [] (He.ga K "without_pairs") fd := F
  refine ⟨⟨"without_pairs", "without_pairs", defArgs (top 80), defBody (top 80), defScope (top 80), N59, ["trust", "pairs"], [], 60, [], He.ga K "without_pairs", fd, none⟩, t59, rfl, ⟨F, s59, rfl, rfl, c59 K, g, fun p hp => ?_, fun n hn => by cases hn⟩⟩
  rcases List.mem_cons.mp hp with rfl | hp
  · exact pb0 F (fun _ _ _ _ _ _ us ws h1 h2 => match us, ws, h1, h2 with | [_, _], [], _, _ => ⟨_, rfl, rfl⟩)
  rcases List.mem_cons.mp hp with rfl | hp
  · exact pb0 F (fun _ _ _ _ _ _ us ws h1 h2 => match us, ws, h1, h2 with | [], [_, _], _, _ => ⟨_, rfl, rfl⟩)
  cases hp
theorem o60 (X : K.In h) (G : h.Ns mainGlobals mg) (c : He.SaysD fa fn K) : ∃ dd t, T[60]? = some t ∧ DDok K mg (gc K) dd t d60 := by
  obtain ⟨fd, F⟩ := c.def_ 60 (d := e60) rfl
  have g := He.glo_ok X G (c.fact 60 (f := .glo "least_dropped") rfl)
  replace F : FunD K "least_dropped" "least_dropped" (defArgs (top 81)) (defBody (top 81)) (defScope (top 81)) [] [] (He.ga K "least_dropped") fd := F
  refine ⟨⟨"least_dropped", "least_dropped", defArgs (top 81), defBody (top 81), defScope (top 81), N60, ["trust"], [], 60, [], He.ga K "least_dropped", fd, none⟩, t60, rfl, ⟨F, s60, rfl, rfl, c60 K, g, fun p hp => ?_, fun n hn => by cases hn⟩⟩
  rcases List.mem_cons.mp hp with rfl | hp
  · exact pb0 F (fun _ _ _ _ _ _ us ws h1 h2 => match us, ws, h1, h2 with | [_], [], _, _ => ⟨_, rfl, rfl⟩)
  cases hp
theorem o61 (X : K.In h) (G : h.Ns mainGlobals mg) (c : He.SaysD fa fn K) : ∃ dd t, T[61]? = some t ∧ DDok K mg (gc K) dd t d61 := by
  obtain ⟨fd, F⟩ := c.def_ 61 (d := e61) rfl
  have g := He.glo_ok X G (c.fact 61 (f := .glo "_law_feed") rfl)
  replace F : FunD K "_law_feed" "_law_feed" (defArgs (top 83)) (defBody (top 83)) (defScope (top 83)) [] [] (He.ga K "_law_feed") fd := F
  refine ⟨⟨"_law_feed", "_law_feed", defArgs (top 83), defBody (top 83), defScope (top 83), N61, ["_law_script"], [], 60, [], He.ga K "_law_feed", fd, none⟩, t61, rfl, ⟨F, s61, rfl, rfl, c61 K, g, fun p hp => ?_, fun n hn => by cases hn⟩⟩
  rcases List.mem_cons.mp hp with rfl | hp
  · exact pb0 F (fun _ _ _ _ _ _ us ws h1 h2 => match us, ws, h1, h2 with | [_], [], _, _ => ⟨_, rfl, rfl⟩)
  cases hp
theorem o62 (X : K.In h) (G : h.Ns mainGlobals mg) (c : He.SaysD fa fn K) : ∃ dd t, T[62]? = some t ∧ DDok K mg (gc K) dd t d62 := by
  obtain ⟨fd, F⟩ := c.def_ 62 (d := e62) rfl
  have g := He.glo_ok X G (c.fact 62 (f := .glo "_law_draw") rfl)
  replace F : FunD K "_law_draw" "_law_draw" (defArgs (top 84)) (defBody (top 84)) (defScope (top 84)) [] [] (He.ga K "_law_draw") fd := F
  refine ⟨⟨"_law_draw", "_law_draw", defArgs (top 84), defBody (top 84), defScope (top 84), N62, ["_law_feed_here", "_law_many"], [], 60, [], He.ga K "_law_draw", fd, none⟩, t62, rfl, ⟨F, s62, rfl, rfl, c62 K, g, fun p hp => ?_, fun n hn => by cases hn⟩⟩
  rcases List.mem_cons.mp hp with rfl | hp
  · exact pb0 F (fun _ _ _ _ _ _ us ws h1 h2 => match us, ws, h1, h2 with | [_, _], [], _, _ => ⟨_, rfl, rfl⟩)
  cases hp
theorem o63 (X : K.In h) (G : h.Ns mainGlobals mg) (c : He.SaysD fa fn K) : ∃ dd t, T[63]? = some t ∧ DDok K mg (gc K) dd t d63 := by
  obtain ⟨fd, F⟩ := c.def_ 63 (d := e63) rfl
  have g := He.glo_ok X G (c.fact 63 (f := .glo "_law_same") rfl)
  replace F : FunD K "_law_same" "_law_same" (defArgs (top 85)) (defBody (top 85)) (defScope (top 85)) [] [] (He.ga K "_law_same") fd := F
  refine ⟨⟨"_law_same", "_law_same", defArgs (top 85), defBody (top 85), defScope (top 85), N63, ["_law_told", "_law_due"], [], 60, [], He.ga K "_law_same", fd, none⟩, t63, rfl, ⟨F, s63, rfl, rfl, c63 K, g, fun p hp => ?_, fun n hn => by cases hn⟩⟩
  rcases List.mem_cons.mp hp with rfl | hp
  · exact pb0 F (fun _ _ _ _ _ _ us ws h1 h2 => match us, ws, h1, h2 with | [_, _], [], _, _ => ⟨_, rfl, rfl⟩)
  cases hp
theorem o64 (X : K.In h) (G : h.Ns mainGlobals mg) (c : He.SaysD fa fn K) : ∃ dd t, T[64]? = some t ∧ DDok K mg (gc K) dd t d64 := by
  obtain ⟨fd, F⟩ := c.def_ 64 (d := e64) rfl
  have g := He.glo_ok X G (c.fact 64 (f := .glo "_law_three") rfl)
  replace F : FunD K "_law_three" "_law_three" (defArgs (top 86)) (defBody (top 86)) (defScope (top 86)) [] [] (He.ga K "_law_three") fd := F
  refine ⟨⟨"_law_three", "_law_three", defArgs (top 86), defBody (top 86), defScope (top 86), N64, ["_law_fears"], [2], 60, [], He.ga K "_law_three", fd, none⟩, t64, rfl, ⟨F, s64, rfl, rfl, c64 K, g, fun p hp => ?_, fun n hn => by cases hn⟩⟩
  rcases List.mem_cons.mp hp with rfl | hp
  · exact pb0 F (fun _ _ _ _ _ _ us ws h1 h2 => match us, ws, h1, h2 with | [_], [], _, _ => ⟨_, rfl, rfl⟩)
  cases hp
theorem o65 (X : K.In h) (G : h.Ns mainGlobals mg) (c : He.SaysD fa fn K) : ∃ dd t, T[65]? = some t ∧ DDok K mg (gc K) dd t d65 := by
  obtain ⟨fd, F⟩ := c.def_ 65 (d := e65) rfl
  have g := He.glo_ok X G (c.fact 65 (f := .glo "_law_four_houses") rfl)
  replace F : FunD K "_law_four_houses" "_law_four_houses" (defArgs (top 87)) (defBody (top 87)) (defScope (top 87)) [] [] (He.ga K "_law_four_houses") fd := F
  refine ⟨⟨"_law_four_houses", "_law_four_houses", defArgs (top 87), defBody (top 87), defScope (top 87), N65, [], [1], 60, [], He.ga K "_law_four_houses", fd, none⟩, t65, rfl, ⟨F, s65, rfl, rfl, c65 K, g, fun p hp => ?_, fun n hn => by cases hn⟩⟩
  rcases List.mem_cons.mp hp with rfl | hp
  · exact pb0 F (fun _ _ _ _ _ _ us ws h1 h2 => match us, ws, h1, h2 with | [], [], _, _ => ⟨_, rfl, rfl⟩)
  cases hp
theorem o66 (X : K.In h) (G : h.Ns mainGlobals mg) (c : He.SaysD fa fn K) : ∃ dd t, T[66]? = some t ∧ DDok K mg (gc K) dd t d66 := by
  obtain ⟨fd, F⟩ := c.def_ 66 (d := e66) rfl
  have g := He.glo_ok X G (c.fact 66 (f := .glo "_law_lone") rfl)
  replace F : FunD K "_law_lone" "_law_lone" (defArgs (top 88)) (defBody (top 88)) (defScope (top 88)) [] [] (He.ga K "_law_lone") fd := F
  refine ⟨⟨"_law_lone", "_law_lone", defArgs (top 88), defBody (top 88), defScope (top 88), N66, [], [], 60, [], He.ga K "_law_lone", fd, none⟩, t66, rfl, ⟨F, s66, rfl, rfl, c66 K, g, fun p hp => ?_, fun n hn => by cases hn⟩⟩
  rcases List.mem_cons.mp hp with rfl | hp
  · exact pb0 F (fun _ _ _ _ _ _ us ws h1 h2 => match us, ws, h1, h2 with | [], [], _, _ => ⟨_, rfl, rfl⟩)
  cases hp
theorem o67 (X : K.In h) (G : h.Ns mainGlobals mg) (c : He.SaysD fa fn K) : ∃ dd t, T[67]? = some t ∧ DDok K mg (gc K) dd t d67 := by
  obtain ⟨fd, F⟩ := c.def_ 67 (d := e67) rfl
  have g := He.glo_ok X G (c.fact 67 (f := .glo "_law_are_falls_told") rfl)
  replace F : FunD K "_law_are_falls_told" "_law_are_falls_told" (defArgs (top 89)) (defBody (top 89)) (defScope (top 89)) [] [] (He.ga K "_law_are_falls_told") fd := F
  refine ⟨⟨"_law_are_falls_told", "_law_are_falls_told", defArgs (top 89), defBody (top 89), defScope (top 89), N67, [], [5], 60, [], He.ga K "_law_are_falls_told", fd, none⟩, t67, rfl, ⟨F, s67, rfl, rfl, c67 K, g, fun p hp => ?_, fun n hn => by cases hn⟩⟩
  rcases List.mem_cons.mp hp with rfl | hp
  · exact pb0 F (fun _ _ _ _ _ _ us ws h1 h2 => match us, ws, h1, h2 with | [], [], _, _ => ⟨_, rfl, rfl⟩)
  cases hp
theorem o68 (X : K.In h) (G : h.Ns mainGlobals mg) (c : He.SaysD fa fn K) : ∃ dd t, T[68]? = some t ∧ DDok K mg (gc K) dd t d68 := by
  obtain ⟨fd, F⟩ := c.def_ 68 (d := e68) rfl
  have g := He.glo_ok X G (c.fact 68 (f := .glo "_law_are_odds_told") rfl)
  replace F : FunD K "_law_are_odds_told" "_law_are_odds_told" (defArgs (top 90)) (defBody (top 90)) (defScope (top 90)) [] [] (He.ga K "_law_are_odds_told") fd := F
  refine ⟨⟨"_law_are_odds_told", "_law_are_odds_told", defArgs (top 90), defBody (top 90), defScope (top 90), N68, [], [], 60, [], He.ga K "_law_are_odds_told", fd, none⟩, t68, rfl, ⟨F, s68, rfl, rfl, c68 K, g, fun p hp => ?_, fun n hn => by cases hn⟩⟩
  rcases List.mem_cons.mp hp with rfl | hp
  · exact pb0 F (fun _ _ _ _ _ _ us ws h1 h2 => match us, ws, h1, h2 with | [], [], _, _ => ⟨_, rfl, rfl⟩)
  cases hp
theorem o69 (X : K.In h) (G : h.Ns mainGlobals mg) (c : He.SaysD fa fn K) : ∃ dd t, T[69]? = some t ∧ DDok K mg (gc K) dd t d69 := by
  obtain ⟨fd, F⟩ := c.def_ 69 (d := e69) rfl
  have g := He.glo_ok X G (c.fact 69 (f := .glo "_law_of_trust") rfl)
  replace F : FunD K "_law_of_trust" "_law_of_trust" (defArgs (top 92)) (defBody (top 92)) (defScope (top 92)) [] [] (He.ga K "_law_of_trust") fd := F
  refine ⟨⟨"_law_of_trust", "_law_of_trust", defArgs (top 92), defBody (top 92), defScope (top 92), N69, ["_law_odd"], [1], 60, [], He.ga K "_law_of_trust", fd, (some 0)⟩, t69, rfl, ⟨F, s69, rfl, rfl, c69 K, g, fun p hp => ?_, fun n hn => by cases hn; exact ⟨rfl, rfl⟩⟩⟩
  rcases List.mem_cons.mp hp with rfl | hp
  · exact pb0 F (fun _ _ _ _ _ _ us ws h1 h2 => match us, ws, h1, h2 with | [_], [], _, _ => ⟨_, rfl, rfl⟩)
  cases hp
theorem o70 (X : K.In h) (G : h.Ns mainGlobals mg) (c : He.SaysD fa fn K) : ∃ dd t, T[70]? = some t ∧ DDok K mg (gc K) dd t d70 := by
  obtain ⟨fd, F⟩ := c.def_ 70 (d := e70) rfl
  have g := He.glo_ok X G (c.fact 70 (f := .glo "_law_of_house") rfl)
  replace F : FunD K "_law_of_house" "_law_of_house" (defArgs (top 93)) (defBody (top 93)) (defScope (top 93)) [] [] (He.ga K "_law_of_house") fd := F
  refine ⟨⟨"_law_of_house", "_law_of_house", defArgs (top 93), defBody (top 93), defScope (top 93), N70, ["_law_band", "_law_odd"], [2], 60, [], He.ga K "_law_of_house", fd, (some 1)⟩, t70, rfl, ⟨F, s70, rfl, rfl, c70 K, g, fun p hp => ?_, fun n hn => by cases hn; exact ⟨rfl, rfl⟩⟩⟩
  rcases List.mem_cons.mp hp with rfl | hp
  · exact pb0 F (fun _ _ _ _ _ _ us ws h1 h2 => match us, ws, h1, h2 with | [_, _], [], _, _ => ⟨_, rfl, rfl⟩)
  cases hp
theorem o71 (X : K.In h) (G : h.Ns mainGlobals mg) (c : He.SaysD fa fn K) : ∃ dd t, T[71]? = some t ∧ DDok K mg (gc K) dd t d71 := by
  obtain ⟨fd, F⟩ := c.def_ 71 (d := e71) rfl
  have g := He.glo_ok X G (c.fact 71 (f := .glo "_law_are_sets_refused") rfl)
  replace F : FunD K "_law_are_sets_refused" "_law_are_sets_refused" (defArgs (top 94)) (defBody (top 94)) (defScope (top 94)) [] [] (He.ga K "_law_are_sets_refused") fd := F
  refine ⟨⟨"_law_are_sets_refused", "_law_are_sets_refused", defArgs (top 94), defBody (top 94), defScope (top 94), N71, ["_law_band"], [1], 60, [], He.ga K "_law_are_sets_refused", fd, (some 2)⟩, t71, rfl, ⟨F, s71, rfl, rfl, c71 K, g, fun p hp => ?_, fun n hn => by cases hn; exact ⟨rfl, rfl⟩⟩⟩
  rcases List.mem_cons.mp hp with rfl | hp
  · exact pb0 F (fun _ _ _ _ _ _ us ws h1 h2 => match us, ws, h1, h2 with | [_], [], _, _ => ⟨_, rfl, rfl⟩)
  cases hp
theorem o72 (X : K.In h) (G : h.Ns mainGlobals mg) (c : He.SaysD fa fn K) : ∃ dd t, T[72]? = some t ∧ DDok K mg (gc K) dd t d72 := by
  obtain ⟨fd, F⟩ := c.def_ 72 (d := e72) rfl
  have g := He.glo_ok X G (c.fact 72 (f := .glo "_law_are_refused") rfl)
  replace F : FunD K "_law_are_refused" "_law_are_refused" (defArgs (top 95)) (defBody (top 95)) (defScope (top 95)) [] [] (He.ga K "_law_are_refused") fd := F
  refine ⟨⟨"_law_are_refused", "_law_are_refused", defArgs (top 95), defBody (top 95), defScope (top 95), N72, ["_law_feed_here"], [], 60, [], He.ga K "_law_are_refused", fd, (some 3)⟩, t72, rfl, ⟨F, s72, rfl, rfl, c72 K, g, fun p hp => ?_, fun n hn => by cases hn; exact ⟨rfl, rfl⟩⟩⟩
  rcases List.mem_cons.mp hp with rfl | hp
  · exact pb0 F (fun _ _ _ _ _ _ us ws h1 h2 => match us, ws, h1, h2 with | [_], [], _, _ => ⟨_, rfl, rfl⟩)
  cases hp
theorem o73 (X : K.In h) (G : h.Ns mainGlobals mg) (c : He.SaysD fa fn K) : ∃ dd t, T[73]? = some t ∧ DDok K mg (gc K) dd t d73 := by
  obtain ⟨fd, F⟩ := c.def_ 73 (d := e73) rfl
  have g := He.glo_ok X G (c.fact 73 (f := .glo "law") rfl)
  replace F : FunD K "law" "law" (defArgs (top 96)) (defBody (top 96)) (defScope (top 96)) [] [] (He.ga K "law") fd := F
  refine ⟨⟨"law", "law", defArgs (top 96), defBody (top 96), defScope (top 96), N73, ["_law_script"], [], 60, [], He.ga K "law", fd, none⟩, t73, rfl, ⟨F, s73, rfl, rfl, c73 K, g, fun p hp => ?_, fun n hn => by cases hn⟩⟩
  cases hp
theorem ho74 (X : K.In h) (G : h.Ns mainGlobals mg) (c : He.SaysD fa fn K) (hcl : ∀ t j, cl.lookup t = some j → ClsAt mg (ct K) t j) : HearOk K mg (ct K) T "_law_heard" 74 "told" := by
  obtain ⟨fd, F⟩ := c.def_ 74 (d := e74) rfl
  have g := He.glo_ok X G (c.fact 74 (f := .glo "_law_heard") rfl)
  replace F : FunD K "_law_heard" "_law_heard" (defArgs (top 91)) (defBody (top 91)) (defScope (top 91)) [] [] (He.ga K "_law_heard") fd := F
  have bd : ∀ s u, K.In s.heap → BindsTo s fd ⟨[u], []⟩ [("_law_ask", u)] := fun s u _ => FunD.bindsA (ps := ["_law_ask"]) F (fun _ _ _ _ _ _ us hl => match us, hl with | [_], _ => rfl) s [u] rfl
  rw [hb74] at F
  exact ⟨He.ga K "_law_heard", fd, defArgs (top 91), defScope (top 91), N74, "_law_ask", "CopyError", "error", He.ga K "CopyError", 1, 0, 60, cl, h74, hs74, b74, _, _, _, _, _, _, _, _, _, _, F, g, bd, s74, rfl, .inl (by kernel_rfl), by decide +kernel, rfl, by kernel_rfl, by decide +kernel, by kernel_rfl, by decide +kernel, He.glo_ok X G (c.fact 95 (f := .glo "CopyError") rfl), rfl, rfl, c74 K, by kernel_rfl, hcl⟩
theorem clsOk (X : K.In h) (G : h.Ns mainGlobals mg) (c : He.SaysD fa fn K) : ∀ t j, cl.lookup t = some j → ClsAt mg (ct K) t j := by
  intro t j hx
  unfold cl at hx
  rw [List.lookup_cons] at hx
  split at hx
  · rename_i hb
    cases hx
    rw [eq_of_beq hb]
    exact ⟨by decide +kernel, .inl ⟨_, He.glo_ok X G (c.fact 95 (f := .glo "CopyError") rfl), rfl⟩⟩
  rw [List.lookup_cons] at hx
  split at hx
  · rename_i hb
    cases hx
    rw [eq_of_beq hb]
    exact ⟨by decide +kernel, .inl ⟨_, He.glo_ok X G (c.fact 96 (f := .glo "PaperError") rfl), rfl⟩⟩
  rw [List.lookup_cons] at hx
  split at hx
  · rename_i hb
    cases hx
    rw [eq_of_beq hb]
    exact ⟨by decide +kernel, .inl ⟨_, He.glo_ok X G (c.fact 97 (f := .glo "BookError") rfl), rfl⟩⟩
  rw [List.lookup_cons] at hx
  split at hx
  · rename_i hb
    cases hx
    rw [eq_of_beq hb]
    exact ⟨by decide +kernel, .inl ⟨_, He.glo_ok X G (c.fact 98 (f := .glo "LiveError") rfl), rfl⟩⟩
  rw [List.lookup_cons] at hx
  split at hx
  · rename_i hb
    cases hx
    rw [eq_of_beq hb]
    exact ⟨by decide +kernel, .inl ⟨_, He.glo_ok X G (c.fact 99 (f := .glo "TextError") rfl), rfl⟩⟩
  rw [List.lookup_cons] at hx
  split at hx
  · rename_i hb
    cases hx
    rw [eq_of_beq hb]
    exact ⟨by decide +kernel, .inl ⟨_, He.glo_ok X G (c.fact 100 (f := .glo "InvalidPaper") rfl), rfl⟩⟩
  rw [List.lookup_cons] at hx
  split at hx
  · rename_i hb
    cases hx
    rw [eq_of_beq hb]
    exact ⟨by decide +kernel, .inl ⟨_, He.glo_ok X G (c.fact 101 (f := .glo "NotUsable") rfl), rfl⟩⟩
  rw [List.lookup_cons] at hx
  split at hx
  · rename_i hb
    cases hx
    rw [eq_of_beq hb]
    exact ⟨by decide +kernel, .inr ⟨"ValueError", He.free_ok X G (c.fact 102 (f := .free "ValueError") rfl), by decide +kernel, by decide +kernel, rfl⟩⟩
  cases hx
theorem k_NotUsable (X : K.In h) (G : h.Ns mainGlobals mg) (c : He.SaysD fa fn K) (hx : x_NotUsable K = true) : ∃ (D fI : Addr) (f1 f2 : Str), (["word", "at"] : List Str) = [f1, f2] ∧ XC PySem.Challenge.pw_actasone_k12_falls_and_odds_told K D fI f1 f2 ∧ KinOk K (ct K) D [0, 2, 6, 7] ∧ mg "NotUsable" = some (.ref D) := by
  unfold x_NotUsable at hx
  rw [Bool.and_eq_true, Bool.and_eq_true, Bool.and_eq_true] at hx
  exact ⟨_, _, _, _, rfl, xcB_ok binds_word_at (by decide +kernel) (by decide +kernel) (by decide +kernel) (by decide +kernel) (by decide +kernel) hx.1, kin_of hx.2.1 hx.2.2.1 hx.2.2.2, He.glo_ok X G (c.fact 101 (f := .glo "NotUsable") rfl)⟩
theorem tabOk (X : K.In h) (G : h.Ns mainGlobals mg) (c : He.SaysD fa fn K) (hx : ex K = true) : TabOk PySem.Challenge.pw_actasone_k12_falls_and_odds_told K mg T (gc K) := by
  refine ⟨fun k d hk => ?_, fun x hx => ?_, fun x d hx => ?_, fun f h told hf => ?_, fun x kin fs hf => ?_, by decide⟩
  · match k, hk with
    | 0, hk => exact (Option.some.inj hk : d0 = d) ▸ o0 X G c
    | 1, hk => exact (Option.some.inj hk : d1 = d) ▸ o1 X G c
    | 2, hk => exact (Option.some.inj hk : d2 = d) ▸ o2 X G c
    | 3, hk => exact (Option.some.inj hk : d3 = d) ▸ o3 X G c
    | 4, hk => exact (Option.some.inj hk : d4 = d) ▸ o4 X G c
    | 5, hk => exact (Option.some.inj hk : d5 = d) ▸ o5 X G c
    | 6, hk => exact (Option.some.inj hk : d6 = d) ▸ o6 X G c
    | 7, hk => exact (Option.some.inj hk : d7 = d) ▸ o7 X G c
    | 8, hk => exact (Option.some.inj hk : d8 = d) ▸ o8 X G c
    | 9, hk => exact (Option.some.inj hk : d9 = d) ▸ o9 X G c
    | 10, hk => exact (Option.some.inj hk : d10 = d) ▸ o10 X G c
    | 11, hk => exact (Option.some.inj hk : d11 = d) ▸ o11 X G c
    | 12, hk => exact (Option.some.inj hk : d12 = d) ▸ o12 X G c
    | 13, hk => exact (Option.some.inj hk : d13 = d) ▸ o13 X G c
    | 14, hk => exact (Option.some.inj hk : d14 = d) ▸ o14 X G c
    | 15, hk => exact (Option.some.inj hk : d15 = d) ▸ o15 X G c
    | 16, hk => exact (Option.some.inj hk : d16 = d) ▸ o16 X G c
    | 17, hk => exact (Option.some.inj hk : d17 = d) ▸ o17 X G c
    | 18, hk => exact (Option.some.inj hk : d18 = d) ▸ o18 X G c
    | 19, hk => exact (Option.some.inj hk : d19 = d) ▸ o19 X G c
    | 20, hk => exact (Option.some.inj hk : d20 = d) ▸ o20 X G c
    | 21, hk => exact (Option.some.inj hk : d21 = d) ▸ o21 X G c
    | 22, hk => exact (Option.some.inj hk : d22 = d) ▸ o22 X G c
    | 23, hk => exact (Option.some.inj hk : d23 = d) ▸ o23 X G c
    | 24, hk => exact (Option.some.inj hk : d24 = d) ▸ o24 X G c
    | 25, hk => exact (Option.some.inj hk : d25 = d) ▸ o25 X G c
    | 26, hk => exact (Option.some.inj hk : d26 = d) ▸ o26 X G c
    | 27, hk => exact (Option.some.inj hk : d27 = d) ▸ o27 X G c
    | 28, hk => exact (Option.some.inj hk : d28 = d) ▸ o28 X G c
    | 29, hk => exact (Option.some.inj hk : d29 = d) ▸ o29 X G c
    | 30, hk => exact (Option.some.inj hk : d30 = d) ▸ o30 X G c
    | 31, hk => exact (Option.some.inj hk : d31 = d) ▸ o31 X G c
    | 32, hk => exact (Option.some.inj hk : d32 = d) ▸ o32 X G c
    | 33, hk => exact (Option.some.inj hk : d33 = d) ▸ o33 X G c
    | 34, hk => exact (Option.some.inj hk : d34 = d) ▸ o34 X G c
    | 35, hk => exact (Option.some.inj hk : d35 = d) ▸ o35 X G c
    | 36, hk => exact (Option.some.inj hk : d36 = d) ▸ o36 X G c
    | 37, hk => exact (Option.some.inj hk : d37 = d) ▸ o37 X G c
    | 38, hk => exact (Option.some.inj hk : d38 = d) ▸ o38 X G c
    | 39, hk => exact (Option.some.inj hk : d39 = d) ▸ o39 X G c
    | 40, hk => exact (Option.some.inj hk : d40 = d) ▸ o40 X G c
    | 41, hk => exact (Option.some.inj hk : d41 = d) ▸ o41 X G c
    | 42, hk => exact (Option.some.inj hk : d42 = d) ▸ o42 X G c
    | 43, hk => exact (Option.some.inj hk : d43 = d) ▸ o43 X G c
    | 44, hk => exact (Option.some.inj hk : d44 = d) ▸ o44 X G c
    | 45, hk => exact (Option.some.inj hk : d45 = d) ▸ o45 X G c
    | 46, hk => exact (Option.some.inj hk : d46 = d) ▸ o46 X G c
    | 47, hk => exact (Option.some.inj hk : d47 = d) ▸ o47 X G c
    | 48, hk => exact (Option.some.inj hk : d48 = d) ▸ o48 X G c
    | 49, hk => exact (Option.some.inj hk : d49 = d) ▸ o49 X G c
    | 50, hk => exact (Option.some.inj hk : d50 = d) ▸ o50 X G c
    | 51, hk => exact (Option.some.inj hk : d51 = d) ▸ o51 X G c
    | 52, hk => exact (Option.some.inj hk : d52 = d) ▸ o52 X G c
    | 53, hk => exact (Option.some.inj hk : d53 = d) ▸ o53 X G c
    | 54, hk => exact (Option.some.inj hk : d54 = d) ▸ o54 X G c
    | 55, hk => exact (Option.some.inj hk : d55 = d) ▸ o55 X G c
    | 56, hk => exact (Option.some.inj hk : d56 = d) ▸ o56 X G c
    | 57, hk => exact (Option.some.inj hk : d57 = d) ▸ o57 X G c
    | 58, hk => exact (Option.some.inj hk : d58 = d) ▸ o58 X G c
    | 59, hk => exact (Option.some.inj hk : d59 = d) ▸ o59 X G c
    | 60, hk => exact (Option.some.inj hk : d60 = d) ▸ o60 X G c
    | 61, hk => exact (Option.some.inj hk : d61 = d) ▸ o61 X G c
    | 62, hk => exact (Option.some.inj hk : d62 = d) ▸ o62 X G c
    | 63, hk => exact (Option.some.inj hk : d63 = d) ▸ o63 X G c
    | 64, hk => exact (Option.some.inj hk : d64 = d) ▸ o64 X G c
    | 65, hk => exact (Option.some.inj hk : d65 = d) ▸ o65 X G c
    | 66, hk => exact (Option.some.inj hk : d66 = d) ▸ o66 X G c
    | 67, hk => exact (Option.some.inj hk : d67 = d) ▸ o67 X G c
    | 68, hk => exact (Option.some.inj hk : d68 = d) ▸ o68 X G c
    | 69, hk => exact (Option.some.inj hk : d69 = d) ▸ o69 X G c
    | 70, hk => exact (Option.some.inj hk : d70 = d) ▸ o70 X G c
    | 71, hk => exact (Option.some.inj hk : d71 = d) ▸ o71 X G c
    | 72, hk => exact (Option.some.inj hk : d72 = d) ▸ o72 X G c
    | 73, hk => exact (Option.some.inj hk : d73 = d) ▸ o73 X G c
    | n + 74, hk => have z : (none : Option DefI) = some d := hk; cases z
  · have key : ∀ (j : Nat) y, bltNames[j]? = some y → mg y = none := by
      intro j y hj
      match j, hj with
      | 0, hj => exact (Option.some.inj hj : ("isinstance" : Str) = y) ▸ He.free_ok X G (c.fact 75 (f := .free "isinstance") rfl)
      | 1, hj => exact (Option.some.inj hj : ("len" : Str) = y) ▸ He.free_ok X G (c.fact 76 (f := .free "len") rfl)
      | 2, hj => exact (Option.some.inj hj : ("all" : Str) = y) ▸ He.free_ok X G (c.fact 77 (f := .free "all") rfl)
      | 3, hj => exact (Option.some.inj hj : ("any" : Str) = y) ▸ He.free_ok X G (c.fact 78 (f := .free "any") rfl)
      | 4, hj => exact (Option.some.inj hj : ("tuple" : Str) = y) ▸ He.free_ok X G (c.fact 79 (f := .free "tuple") rfl)
      | 5, hj => exact (Option.some.inj hj : ("list" : Str) = y) ▸ He.free_ok X G (c.fact 80 (f := .free "list") rfl)
      | 6, hj => exact (Option.some.inj hj : ("sorted" : Str) = y) ▸ He.free_ok X G (c.fact 81 (f := .free "sorted") rfl)
      | 7, hj => exact (Option.some.inj hj : ("int" : Str) = y) ▸ He.free_ok X G (c.fact 82 (f := .free "int") rfl)
      | 8, hj => exact (Option.some.inj hj : ("min" : Str) = y) ▸ He.free_ok X G (c.fact 83 (f := .free "min") rfl)
      | 9, hj => exact (Option.some.inj hj : ("repr" : Str) = y) ▸ He.free_ok X G (c.fact 84 (f := .free "repr") rfl)
      | 10, hj => exact (Option.some.inj hj : ("str" : Str) = y) ▸ He.free_ok X G (c.fact 85 (f := .free "str") rfl)
      | 11, hj => exact (Option.some.inj hj : ("bool" : Str) = y) ▸ He.free_ok X G (c.fact 86 (f := .free "bool") rfl)
      | 12, hj => exact (Option.some.inj hj : ("range" : Str) = y) ▸ He.free_ok X G (c.fact 87 (f := .free "range") rfl)
      | 13, hj => exact (Option.some.inj hj : ("zip" : Str) = y) ▸ He.free_ok X G (c.fact 88 (f := .free "zip") rfl)
      | 14, hj => exact (Option.some.inj hj : ("enumerate" : Str) = y) ▸ He.free_ok X G (c.fact 89 (f := .free "enumerate") rfl)
      | 15, hj => exact (Option.some.inj hj : ("set" : Str) = y) ▸ He.free_ok X G (c.fact 90 (f := .free "set") rfl)
      | 16, hj => exact (Option.some.inj hj : ("max" : Str) = y) ▸ He.free_ok X G (c.fact 91 (f := .free "max") rfl)
      | n + 17, hj => have z : (none : Option Str) = some y := hj; cases z
    obtain ⟨j, hj, e⟩ := List.getElem_of_mem hx
    exact key j x (by rw [List.getElem?_eq_getElem hj, e])
  · replace hx : gl.lookup x = some d := hx
    unfold gl at hx
    rw [List.lookup_cons] at hx
    split at hx
    · rename_i hb
      cases hx
      rw [eq_of_beq hb]
      exact gl_str X G (c.fact 92 (f := .str "ALPHABET" "abcdefghijklmnopqrstuvwxyz") rfl) (by decide +kernel)
    rw [List.lookup_cons] at hx
    split at hx
    · rename_i hb
      cases hx
      rw [eq_of_beq hb]
      exact gl_int X G (c.fact 93 (f := .int "MOST_SIGNS" (8)) rfl)
    rw [List.lookup_cons] at hx
    split at hx
    · rename_i hb
      cases hx
      rw [eq_of_beq hb]
      exact gl_str X G (c.fact 94 (f := .str "ANY" "any") rfl) (by decide +kernel)
    cases hx
  · replace hf : hr.lookup f = some (h, told) := hf
    unfold hr at hf
    rw [List.lookup_cons] at hf
    split at hf
    · rename_i hb
      cases hf
      rw [eq_of_beq hb]
      exact ho74 X G c (clsOk X G c)
    cases hf
  · replace hf : ki.lookup x = some (kin, fs) := hf
    unfold ki at hf
    unfold ex at hx
    simp only [Bool.and_eq_true] at hx
    rw [List.lookup_cons] at hf
    split at hf
    · rename_i hb
      cases hf
      rw [eq_of_beq hb]
      exact k_NotUsable X G c hx.1
    cases hf
end
/-- the law's def binds its script -/
theorem lawBinds {K : PySem.W.Frag} {f : Addr} {fd : FuncData} (F : FunD K "law" "law" (defArgs (top 96)) (defBody (top 96)) (defScope (top 96)) [] [] f fd) (s : Shared) (v : Value) : BindsTo s fd ⟨[v], []⟩ [("_law_script", v)] :=
  FunD.bindsA (ps := ["_law_script"]) F (fun _ _ _ _ _ _ us hl => match us, hl with | [_], _ => rfl) s [v] rfl
end K12
open PySem PySem.W PySem.Calls PyProof.Rows AOne
theorem K12.holds_of (Z : Srt) (law : ∀ ns : List Int, ns.length ≤ 63 → ∃ S, callD K12.T 24 73 [.lst (ns.map D.int)] (K12.lt.map Cell.tab) = some (.bl true, S)) : PySem.Challenge.rw_actasone_k12_falls_and_odds_told.Holds := by
  w_on; o_law
  refine HandSHeadRun.head_any (r := OpenLaw.row PySem.Challenge.rw_actasone_k12_falls_and_odds_told) (q := view (OpenLaw.row PySem.Challenge.rw_actasone_k12_falls_and_odds_told).prog [96]) (H := K12.hk) (ob := K12.ob) (M := 6000) (loose := K12.lo) (d := HandSHeadRun.topDef (OpenLaw.row PySem.Challenge.rw_actasone_k12_falls_and_odds_told).prog 96) (kwd := []) K12.ob_eq
    (by kernel_rfl) (fun s => by kernel_rfl) K12.run (by kernel_rfl) (by kernel_rfl) (by kernel_rfl) (by rfl) (by first | assumption | decide +kernel) (by decide +kernel) ⟨rfl, rfl, rfl, rfl, rfl, by decide +kernel⟩ ?hw ?hc
  case hw => w_witness2
  case hc =>
    refine AOne.walk_ofT (l := PySem.Challenge.rw_actasone_k12_falls_and_odds_told) (n := 63) (k := 73) (x := "_law_script") rfl (by decide) (by kernel_rfl) ⟨rfl, by decide, by decide⟩ ?F
    intro w mg fa h Y G hmg0
    obtain ⟨K, KX, c⟩ := Y
    have B := K12.tabOk KX G c.t.d c.more
    have hmg : mg ("law" : PySem.Str) = some (.ref fa) := by
      have e : (HandSHeadRun.topDef (OpenLaw.row PySem.Challenge.rw_actasone_k12_falls_and_odds_told).prog 96).name = ("law" : PySem.Str) := by kernel_rfl
      rw [← e]
      exact hmg0
    obtain ⟨fd, F⟩ := c.t.d.def_ 73 (d := K12.e73) rfl
    have g := He.glo_ok KX G (c.t.d.fact 73 (f := .glo "law") rfl)
    have e := hmg.symm.trans g
    cases e
    have ok : DDok K mg (K12.gc K) ⟨"law", "law", L2.defArgs (K12.top 96), L2.defBody (K12.top 96), L2.defScope (K12.top 96), K12.N73, ["_law_script"], [], 60, [], He.ga K "law", fd, none⟩ K12.t73 K12.d73 := ⟨F, K12.s73, rfl, rfl, K12.c73 K, g, fun p hp => (by cases hp), fun n hn => (by cases hn)⟩
    have nd : (K12.lt.map fun y => (He.cT K (y, none)).2).Nodup := by
      have hx := c.more
      unfold K12.ex at hx
      simp only [Bool.and_eq_true, decide_eq_true_eq] at hx
      exact hx.2
    have tfm : ∀ p ∈ K12.lt.map (fun y => He.cT K (y, none)), ∃ q ∈ K12.tf, He.cT K q = p := fun p hp => by
      obtain ⟨y, hy, rfl⟩ := List.mem_map.mp hp
      exact ⟨(y, none), List.mem_map.mpr ⟨y, hy, rfl⟩, rfl⟩
    refine ⟨K, fd, K12.lt.map (fun y => He.cT K (y, none)), spF K (callD K12.T 24) 73, KX, fun p hp => ?_, fun p hp => ?_, fun p hp => ?_, K12.lawBinds F, fun H a ns hl hT hS => ?_, fun base _ _ TB => ?_⟩
    · obtain ⟨q, hq, rfl⟩ := tfm p hp
      exact c.empty q hq
    · obtain ⟨q, hq, rfl⟩ := tfm p hp
      exact c.out q hq
    · obtain ⟨q, hq, rfl⟩ := tfm p hp
      exact PySem.W.codeHd_of_K KX (c.hd q hq)
    · obtain ⟨S, e⟩ := law ns hl
      exact sp_lawT hT nd hS e
    · exact (lev_ok Z B (fun y hy => TB _ (List.mem_map.mpr ⟨y, hy, rfl⟩)) 24).fn 73 K12.d73 _ K12.t73 rfl rfl ok
end

section
set_option Elab.async false
set_option linter.all false
set_option maxRecDepth 100000
set_option maxHeartbeats 2000000
set_option autoImplicit false
/-! P12a: the law's own defs: the feed and what is drawn from it. -/
namespace K12
open PySem AOne
structure Fd where
  cs : List Int
  p : Int
  q : Int
  t : Int
def fcell (F : Fd) : Cell := .dct [("cells", .lst (F.cs.map D.int)), ("spot", .int F.p), ("rest", .int F.q), ("turn", .int F.t)]
def fd (F : Fd) : Sto := [.tab "_law_of_trust", .tab "_law_of_house", .tab "_law_are_sets_refused", .tab "_law_are_refused", fcell F]
@[simp] theorem fd_cells {F : Fd} : ixD (fd F) (.ref 4) (.str "cells") = some (.lst (F.cs.map D.int)) := by kernel_rfl
@[simp] theorem fd_spot {F : Fd} : ixD (fd F) (.ref 4) (.str "spot") = some (.int F.p) := by kernel_rfl
@[simp] theorem fd_rest {F : Fd} : ixD (fd F) (.ref 4) (.str "rest") = some (.int F.q) := by kernel_rfl
@[simp] theorem fd_turn {F : Fd} : ixD (fd F) (.ref 4) (.str "turn") = some (.int F.t) := by kernel_rfl
@[simp] theorem put_spot {F : Fd} {i : Int} : putAt (fd F) 4 "spot" (.int i) = some (fd { F with p := i }) := by kernel_rfl
@[simp] theorem put_rest {F : Fd} {i : Int} : putAt (fd F) 4 "rest" (.int i) = some (fd { F with q := i }) := by kernel_rfl
@[simp] theorem put_turn {F : Fd} {i : Int} : putAt (fd F) 4 "turn" (.int i) = some (fd { F with t := i }) := by kernel_rfl
theorem deq_nil (xs : List D) : deq (.lst xs) (.lst []) = xs.isEmpty := by
  show PyData.eqv (D.py (.lst xs)) (D.py (.lst [])) = _
  cases xs <;> simp [D.py, pys, PyData.eqv, PyData.eqvAll]
theorem depth_ints : ∀ xs : List Int, PyData.depthAll (pys (xs.map D.int)) = 0
  | [] => by simp [pys, PyData.depthAll]
  | x :: xs => by simp [pys, PyData.depthAll, D.py, PyData.depth, depth_ints xs]
theorem shallow_ints (xs : List Int) : shallow (.lst (xs.map D.int)) = true := by
  refine decide_eq_true ?_
  show PyData.depth (D.py (.lst (xs.map D.int))) ≤ 64
  simp only [D.py, PyData.depth, depth_ints]
  omega
theorem shallow_nil : shallow (.lst []) = true := shallow_ints []
theorem ne_nil {S : Sto} {xs : List D} (h : shallow (.lst xs) = true) : cmpD S .ne (.lst xs) (.lst []) = some (!xs.isEmpty) := by
  simp [cmpD, look, isRef, h, shallow_nil, deq_nil]
theorem eq_nil {S : Sto} {xs : List D} (h : shallow (.lst xs) = true) : cmpD S .eq (.lst xs) (.lst []) = some xs.isEmpty := by
  simp [cmpD, look, isRef, h, shallow_nil, deq_nil]
theorem at_mod {l : List D} {k : Int} (h0 : 0 ≤ k) (h1 : k < l.length) : ∃ d ∈ l, L2.atI l k = some d := by
  obtain ⟨j, rfl⟩ := Int.eq_ofNat_of_zero_le h0
  exact ⟨_, List.getElem_mem (by omega), at_nat (by omega)⟩
theorem call_feed {n f : Nat} {vs : List D} {F F' : Fd} {t : Df} {d : D} (h1 : T[f]? = some t) (h2 : vs.length = t.k) (h3 : exe (callD T n) t.b (startE t.n vs) (fd F) = some (.rt d, fd F')) (h : isRef d = false) : callD T (n + 1) f vs (fd F) = some (d, fd F') := by
  rw [call_of h1 h2 h3, fix_data h]
  simp [fd]
theorem f62 {n : Nat} {F : Fd} {m : Int} (h1 : 0 < m) (h2 : m < 1073741824) : ∃ x F', callD T (n + 1) 62 [.ref 4, .int m] (fd F) = some (.int x, fd F') ∧ 0 ≤ x ∧ x < m := by
  have key : ∃ x F', exe (callD T n) b62 [some (.ref 4), some (.int m), none, none, none, none, none] (fd F) = some (.rt (.int x), fd F') ∧ 0 ≤ x ∧ x < m := by
    have hm0 : ∀ a : Int, 0 ≤ a % m := fun a => Int.emod_nonneg a (by omega)
    have hm1 : ∀ a : Int, a % m < m := fun a => Int.emod_lt_of_pos a h1
    by_cases hq : 0 < F.q
    · refine ⟨F.q % m, { F with t := F.t + 1, q := F.q / m }, ?_, hm0 _, hm1 _⟩
      simp [b62, gv, hq, h1, h2, setG]
    · have hc : ∃ c : Int, sem (callD T n) (.ite (.cmp .ne (.var 4) (.lst .nil)) (.ix (.var 4) (.op .md (.pr .int (.cons (.var 3) .nil)) (.pr .len (.cons (.var 4) .nil)))) (.cst (.int 601201))) [some (.ref 4), some (.int m), none, some (.int F.p), some (.lst (F.cs.map D.int)), none, none] (fd { F with t := F.t + 1, p := F.p + 1 }) = some (.int c, fd { F with t := F.t + 1, p := F.p + 1 }) := by
        by_cases he : F.cs = []
        · exact ⟨601201, by simp [gv, he, ne_nil shallow_nil]⟩
        · have hl : 0 < (F.cs.length : Int) := by
            have := List.length_pos_iff.mpr he
            omega
          obtain ⟨d, hd, e⟩ := at_mod (l := F.cs.map D.int) (k := F.p % (F.cs.length : Int)) (Int.emod_nonneg _ (by omega)) (by simpa using Int.emod_lt_of_pos _ hl)
          obtain ⟨c, _, rfl⟩ := List.mem_map.mp hd
          refine ⟨c, ?_⟩
          have hl' : 0 < F.cs.length := by omega
          simp [gv, he, ne_nil (shallow_ints _), hl', e]
      obtain ⟨c, hc⟩ := hc
      have key2 : ∃ x F', exe (callD T n) (.seq (.ite (.andd (.cmp .ge (.var 5) (.op .pw (.cst (.int 10)) (.cst (.int 18)))) (.cmp .lt (.var 3) (.pr .len (.cons (.var 4) .nil)))) (.seq (.setk (.var 0) (.cst (.str "rest")) (.op .fdiv (.var 5) (.var 1))) (.seq (.ret (.op .md (.pr .int (.cons (.var 5) .nil)) (.var 1))) .skip)) .skip) (.seq (.asg (.name 6) (.op .md (.pr .int (.cons (.op .add (.op .add (.op .md (.pr .int (.cons (.var 5) .nil)) (.cst (.int 1000000123))) (.op .mul (.cst (.int 50021)) (.ix (.var 0) (.cst (.str "turn"))))) (.cst (.int 311))) .nil)) (.cst (.int 2147483059)))) (.seq (.asg (.name 6) (.op .md (.pr .int (.cons (.op .add (.op .mul (.var 6) (.var 6)) (.op .mul (.cst (.int 60013)) (.ix (.var 0) (.cst (.str "turn"))))) .nil)) (.cst (.int 2147482951)))) (.seq (.ret (.op .md (.pr .int (.cons (.op .fdiv (.op .md (.pr .int (.cons (.op .add (.op .mul (.var 6) (.var 6)) (.op .mul (.cst (.int 127)) (.var 6))) .nil)) (.cst (.int 2147482811))) (.cst (.int 16))) .nil)) (.var 1))) .skip)))) [some (.ref 4), some (.int m), none, some (.int F.p), some (.lst (F.cs.map D.int)), some (.int c), none] (fd { F with t := F.t + 1, p := F.p + 1 }) = some (.rt (.int x), fd F') ∧ 0 ≤ x ∧ x < m := by
        have hpw : opD .pw (.int 10) (.int 18) = some (.int 1000000000000000000) := by kernel_rfl
        by_cases hb : 1000000000000000000 ≤ c ∧ F.p < (F.cs.length : Int)
        · obtain ⟨hb1, hb2⟩ := hb
          have hb1' : ¬ c < 1000000000000000000 := by omega
          refine ⟨c % m, { F with t := F.t + 1, p := F.p + 1, q := c / m }, ?_, hm0 _, hm1 _⟩
          simp [gv, hpw, hb1', hb2, h1, h2]
        · have hi : exe (callD T n) (.ite (.andd (.cmp .ge (.var 5) (.op .pw (.cst (.int 10)) (.cst (.int 18)))) (.cmp .lt (.var 3) (.pr .len (.cons (.var 4) .nil)))) (.seq (.setk (.var 0) (.cst (.str "rest")) (.op .fdiv (.var 5) (.var 1))) (.seq (.ret (.op .md (.pr .int (.cons (.var 5) .nil)) (.var 1))) .skip)) .skip) [some (.ref 4), some (.int m), none, some (.int F.p), some (.lst (F.cs.map D.int)), some (.int c), none] (fd { F with t := F.t + 1, p := F.p + 1 }) = some (.nx [some (.ref 4), some (.int m), none, some (.int F.p), some (.lst (F.cs.map D.int)), some (.int c), none], fd { F with t := F.t + 1, p := F.p + 1 }) := by
            by_cases hb1 : c < 1000000000000000000
            · simp [gv, hpw, hb1]
            · have hb2 : ¬ F.p < (F.cs.length : Int) := fun z => hb ⟨by omega, z⟩
              simp [gv, hpw, hb1, hb2]
          obtain ⟨v, hv⟩ : ∃ v, v = (c % 1000000123 + 50021 * (F.t + 1) + 311) % 2147483059 := ⟨_, rfl⟩
          obtain ⟨w, hw⟩ : ∃ w, w = (v * v + 60013 * (F.t + 1)) % 2147482951 := ⟨_, rfl⟩
          have v0 : 0 ≤ v := by rw [hv]; exact Int.emod_nonneg _ (by omega)
          have v1 : v < 2147483059 := by rw [hv]; exact Int.emod_lt_of_pos _ (by omega)
          have w0 : 0 ≤ w := by rw [hw]; exact Int.emod_nonneg _ (by omega)
          have w1 : w < 2147482951 := by rw [hw]; exact Int.emod_lt_of_pos _ (by omega)
          have va : -18446744073709551616 < v := by omega
          have vb : v < 18446744073709551616 := by omega
          have wa : -18446744073709551616 < w := by omega
          have wb : w < 18446744073709551616 := by omega
          refine ⟨_, { F with t := F.t + 1, p := F.p + 1 }, seq_of hi (seq_of (r1 := [some (.ref 4), some (.int m), none, some (.int F.p), some (.lst (F.cs.map D.int)), some (.int c), some (.int v)]) (S1 := fd { F with t := F.t + 1, p := F.p + 1 }) (by simp [gv, op_mul, setG, ← hv]) (seq_of (r1 := [some (.ref 4), some (.int m), none, some (.int F.p), some (.lst (F.cs.map D.int)), some (.int c), some (.int w)]) (S1 := fd { F with t := F.t + 1, p := F.p + 1 }) (by simp [gv, op_mul, setG, va, vb, ← hw]) (by simp [gv, op_mul, wa, wb, h1]; rfl))), hm0 _, hm1 _⟩
      obtain ⟨x, F', e, k1, k2⟩ := key2
      refine ⟨x, F', ?_, k1, k2⟩
      unfold b62
      refine seq_of (r1 := [some (.ref 4), some (.int m), none, none, none, none, none]) (S1 := fd { F with t := F.t + 1 }) (by simp [gv]) ?_
      refine seq_of (r1 := [some (.ref 4), some (.int m), none, none, none, none, none]) (S1 := fd { F with t := F.t + 1 }) (by simp [gv, hq]) ?_
      refine seq_of (r1 := [some (.ref 4), some (.int m), none, some (.int F.p), some (.lst (F.cs.map D.int)), none, none]) (S1 := fd { F with t := F.t + 1 }) (by simp [gv, setAll]) ?_
      refine seq_of (r1 := [some (.ref 4), some (.int m), none, some (.int F.p), some (.lst (F.cs.map D.int)), none, none]) (S1 := fd { F with t := F.t + 1, p := F.p + 1 }) (by simp [gv]) ?_
      refine seq_of (r1 := [some (.ref 4), some (.int m), none, some (.int F.p), some (.lst (F.cs.map D.int)), some (.int c), none]) (S1 := fd { F with t := F.t + 1, p := F.p + 1 }) (by rw [ex_asg, hc]; simp [setG]) ?_
      exact e
  obtain ⟨x, F', e, k1, k2⟩ := key
  exact ⟨x, F', call_feed (t := t62) rfl rfl e rfl, k1, k2⟩
end K12
end

section
set_option Elab.async false
set_option linter.all false
set_option maxRecDepth 1000000
set_option maxHeartbeats 0
set_option autoImplicit false
/-! P12b: the values by hand (printed by mk12.py). -/
namespace K12
open PySem AOne
def three : D := (.tup [(.tup [(.str "a"), (.tup [(.tup [(.str "a"), (.str "b")]), (.tup [(.str "a"), (.str "c")]), (.tup [(.str "b"), (.str "c")])]), (.tup [(.tup [(.str "b")]), (.tup [(.str "c")])])]), (.tup [(.str "b"), (.tup [(.tup [(.str "a"), (.str "b")]), (.tup [(.str "a"), (.str "c")]), (.tup [(.str "b"), (.str "c")])]), (.tup [(.tup [(.str "a")]), (.tup [(.str "c")])])]), (.tup [(.str "c"), (.tup [(.tup [(.str "a"), (.str "b")]), (.tup [(.str "a"), (.str "c")]), (.tup [(.str "b"), (.str "c")])]), (.tup [(.tup [(.str "a")]), (.tup [(.str "b")])])])])
def od0 : D := .non
def od1 : D := (.int 0)
def od2 : D := (.bl true)
def od3 : D := (.str "a")
def od4 : D := (.tup [])
def od5 : D := (.tup [(.str "a")])
def od6 : D := (.lst [(.tup [(.str "a"), (.tup [(.tup [(.str "a"), (.str "b")]), (.tup [(.str "a"), (.str "c")]), (.tup [(.str "b"), (.str "c")])]), (.tup [(.tup [(.str "b")]), (.tup [(.str "c")])])]), (.tup [(.str "b"), (.tup [(.tup [(.str "a"), (.str "b")]), (.tup [(.str "a"), (.str "c")]), (.tup [(.str "b"), (.str "c")])]), (.tup [(.tup [(.str "a")]), (.tup [(.str "c")])])]), (.tup [(.str "c"), (.tup [(.tup [(.str "a"), (.str "b")]), (.tup [(.str "a"), (.str "c")]), (.tup [(.str "b"), (.str "c")])]), (.tup [(.tup [(.str "a")]), (.tup [(.str "b")])])])])
def od7 : D := (.tup [(.tup [(.str "c"), (.tup [(.tup [(.str "a"), (.str "b")]), (.tup [(.str "a"), (.str "c")]), (.tup [(.str "b"), (.str "c")])]), (.tup [(.tup [(.str "a")]), (.tup [(.str "b")])])]), (.tup [(.str "b"), (.tup [(.tup [(.str "a"), (.str "b")]), (.tup [(.str "a"), (.str "c")]), (.tup [(.str "b"), (.str "c")])]), (.tup [(.tup [(.str "a")]), (.tup [(.str "c")])])]), (.tup [(.str "a"), (.tup [(.tup [(.str "a"), (.str "b")]), (.tup [(.str "a"), (.str "c")]), (.tup [(.str "b"), (.str "c")])]), (.tup [(.tup [(.str "b")]), (.tup [(.str "c")])])])])
def od8 : D := (.tup [(.tup [(.str "a"), (.tup [(.tup [(.str "a"), (.str "b")]), (.tup [(.str "a"), (.str "c")]), (.tup [(.str "b"), (.str "c")])]), (.tup [(.tup [(.str "b")]), (.tup [(.str "c")])])]), (.tup [(.str "b"), (.tup [(.tup [(.str "a"), (.str "b")]), (.tup [(.str "a"), (.str "c")]), (.tup [(.str "b"), (.str "c")])]), (.tup [(.tup [(.str "a")]), (.tup [(.str "c")])])])])
def od9 : D := (.tup [(.tup [(.str "a"), (.tup []), (.tup [(.tup [])])])])
def od10 : D := (.tup [(.tup [])])
def od11 : D := (.tup [(.tup [(.str "a"), (.tup [(.tup [(.str "a")])]), (.tup [(.tup [(.str "a")])])])])
def od12 : D := (.tup [(.tup [(.str "a"), (.tup [(.tup [(.str "b")])]), (.tup [(.tup [])])])])
def od13 : D := (.tup [(.tup [(.str "a"), (.tup [(.tup [(.str "a")]), (.tup [(.str "a")])]), (.tup [(.tup [])])])])
def od14 : D := (.tup [(.tup [(.str "A"), (.tup [(.tup [(.str "A")])]), (.tup [(.tup [])])])])
def od15 : D := (.tup [(.tup [(.str "a"), (.tup [(.tup [(.str "a")])]), (.tup [])])])
def od16 : D := (.tup [(.tup [(.str "a"), (.lst [(.tup [(.str "a")])]), (.tup [(.tup [])])])])
def od17 : D := (.tup [(.tup [(.str "a"), (.tup [(.tup [(.str "a"), (.str "b")]), (.tup [(.str "a"), (.str "c")]), (.tup [(.str "b"), (.str "c")])]), (.tup [(.tup [(.str "b")]), (.tup [(.str "c")])])]), (.tup [(.str "b"), (.tup [(.tup [(.str "a"), (.str "b")]), (.tup [(.str "a"), (.str "c")]), (.tup [(.str "b"), (.str "c")])]), (.tup [(.tup [(.str "a")]), (.tup [(.str "c")])])]), (.tup [(.str "c"), (.tup [(.tup [(.str "a"), (.str "b")]), (.tup [(.str "a"), (.str "c")]), (.tup [(.str "b"), (.str "c")])]), (.tup [(.tup [(.str "a")]), (.tup [(.str "b")])])]), (.tup [(.str "a"), (.tup [(.tup [(.str "a"), (.str "b")]), (.tup [(.str "a"), (.str "c")]), (.tup [(.str "b"), (.str "c")])]), (.tup [(.tup [(.str "b")]), (.tup [(.str "c")])])])])
def oddL : List D := [od0, od1, od2, od3, od4, od5, od6, od7, od8, od9, od10, od11, od12, od13, od14, od15, od16, od17]
def it1 : Tm := (.ival (.op .add (.slc (.var 1) (.cons (.var 2) .nil) .nop) (.slc (.var 1) .nop (.cons (.var 2) .nil))))
def L1 : Sm := (.seq (.ite (.nott (.call 63 [0, 1] [] (.cons (.call 69 [0] [] (.cons (.var 4) .nil) .nil) (.cons (.rep (.lst (.cons (.tup (.cons (.cst (.str "use")) (.cons (.cst (.str "trust")) (.cons (.neg (.cst (.int 1))) .nil)))) .nil)) 13) .nil)) .nil)) (.seq (.ret (.cst (.bl false))) .skip) .skip) .skip)
def fr2 : Sm := (.forr (.name 4) (.ival (.lst (.cons (.cst .non) (.cons (.cst (.int 0)) (.cons (.cst (.bl true)) (.cons (.cst (.str "d")) (.cons (.cst (.str "")) (.cons (.cst (.str "A")) (.cons (.cst (.str "ab")) (.cons (.tup (.cons (.cst (.str "a")) .nil)) (.cons (.lst (.cons (.cst (.str "a")) .nil)) (.cons (.tup .nil) .nil)))))))))))) (.seq (.ite (.nott (.call 63 [0, 1] [] (.cons (.call 70 [0, 1] [] (.cons (.var 5) (.cons (.var 4) .nil)) .nil) (.cons (.rep (.lst (.cons (.tup (.cons (.cst (.str "use")) (.cons (.cst (.str "house")) (.cons (.neg (.cst (.int 1))) .nil)))) .nil)) 8) .nil)) .nil)) (.seq (.ret (.cst (.bl false))) .skip) .skip) (.seq (.asg (.name 3) (.heard 3 ["_law_of_trust", "_law_of_house", "_law_are_sets_refused", "_law_are_refused"] "told" 74 (.call 45 [2, 1, 0] [] .nil (.cons (.var 4) (.cons (.cst (.str "a")) (.cons (.var 5) .nil)))))) (.seq (.ite (.nott (.call 63 [0, 1] [] (.cons (.var 3) (.cons (.tup (.cons (.cst (.str "use")) (.cons (.cst (.str "other")) (.cons (.neg (.cst (.int 1))) .nil)))) .nil)) .nil)) (.seq (.ret (.cst (.bl false))) .skip) .skip) .skip))))
def q72 : Sm := (.seq (.asg (.name 2) (.call 62 [0, 1] [] (.cons (.var 0) (.cons (.pr .len (.cons (.var 1) .nil)) .nil)) .nil)) (.seq (.forr (.name 4) (.ival (.op .add (.slc (.var 1) (.cons (.var 2) .nil) .nop) (.slc (.var 1) .nop (.cons (.var 2) .nil)))) (.seq (.ite (.nott (.call 63 [0, 1] [] (.cons (.call 69 [0] [] (.cons (.var 4) .nil) .nil) (.cons (.rep (.lst (.cons (.tup (.cons (.cst (.str "use")) (.cons (.cst (.str "trust")) (.cons (.neg (.cst (.int 1))) .nil)))) .nil)) 13) .nil)) .nil)) (.seq (.ret (.cst (.bl false))) .skip) .skip) .skip)) (.seq (.forr (.name 4) (.ival (.lst (.cons (.cst .non) (.cons (.cst (.int 0)) (.cons (.cst (.bl true)) (.cons (.cst (.str "d")) (.cons (.cst (.str "")) (.cons (.cst (.str "A")) (.cons (.cst (.str "ab")) (.cons (.tup (.cons (.cst (.str "a")) .nil)) (.cons (.lst (.cons (.cst (.str "a")) .nil)) (.cons (.tup .nil) .nil)))))))))))) (.seq (.ite (.nott (.call 63 [0, 1] [] (.cons (.call 70 [0, 1] [] (.cons (.var 5) (.cons (.var 4) .nil)) .nil) (.cons (.rep (.lst (.cons (.tup (.cons (.cst (.str "use")) (.cons (.cst (.str "house")) (.cons (.neg (.cst (.int 1))) .nil)))) .nil)) 8) .nil)) .nil)) (.seq (.ret (.cst (.bl false))) .skip) .skip) (.seq (.asg (.name 3) (.heard 3 ["_law_of_trust", "_law_of_house", "_law_are_sets_refused", "_law_are_refused"] "told" 74 (.call 45 [2, 1, 0] [] .nil (.cons (.var 4) (.cons (.cst (.str "a")) (.cons (.var 5) .nil)))))) (.seq (.ite (.nott (.call 63 [0, 1] [] (.cons (.var 3) (.cons (.tup (.cons (.cst (.str "use")) (.cons (.cst (.str "other")) (.cons (.neg (.cst (.int 1))) .nil)))) .nil)) .nil)) (.seq (.ret (.cst (.bl false))) .skip) .skip) .skip)))) (.seq (.ret (.call 71 [0] [] (.cons (.var 5) .nil) .nil)) .skip))))
def ev72 (x : Int) (o : Option D) : Ev := [some (.ref 4), some (.lst oddL), some (.int x), none, o, some three]
theorem th (F : Fd) : callD T 22 64 [.bl true] (fd F) = some (three, fd F) := by kernel_rfl
theorem rot0 (C : Call) (F : Fd) : semI C it1 (ev72 0 none) (fd F) = some (oddL.drop 0 ++ oddL.take 0, fd F) := by kernel_rfl
theorem rot1 (C : Call) (F : Fd) : semI C it1 (ev72 1 none) (fd F) = some (oddL.drop 1 ++ oddL.take 1, fd F) := by kernel_rfl
theorem rot2 (C : Call) (F : Fd) : semI C it1 (ev72 2 none) (fd F) = some (oddL.drop 2 ++ oddL.take 2, fd F) := by kernel_rfl
theorem rot3 (C : Call) (F : Fd) : semI C it1 (ev72 3 none) (fd F) = some (oddL.drop 3 ++ oddL.take 3, fd F) := by kernel_rfl
theorem rot4 (C : Call) (F : Fd) : semI C it1 (ev72 4 none) (fd F) = some (oddL.drop 4 ++ oddL.take 4, fd F) := by kernel_rfl
theorem rot5 (C : Call) (F : Fd) : semI C it1 (ev72 5 none) (fd F) = some (oddL.drop 5 ++ oddL.take 5, fd F) := by kernel_rfl
theorem rot6 (C : Call) (F : Fd) : semI C it1 (ev72 6 none) (fd F) = some (oddL.drop 6 ++ oddL.take 6, fd F) := by kernel_rfl
theorem rot7 (C : Call) (F : Fd) : semI C it1 (ev72 7 none) (fd F) = some (oddL.drop 7 ++ oddL.take 7, fd F) := by kernel_rfl
theorem rot8 (C : Call) (F : Fd) : semI C it1 (ev72 8 none) (fd F) = some (oddL.drop 8 ++ oddL.take 8, fd F) := by kernel_rfl
theorem rot9 (C : Call) (F : Fd) : semI C it1 (ev72 9 none) (fd F) = some (oddL.drop 9 ++ oddL.take 9, fd F) := by kernel_rfl
theorem rot10 (C : Call) (F : Fd) : semI C it1 (ev72 10 none) (fd F) = some (oddL.drop 10 ++ oddL.take 10, fd F) := by kernel_rfl
theorem rot11 (C : Call) (F : Fd) : semI C it1 (ev72 11 none) (fd F) = some (oddL.drop 11 ++ oddL.take 11, fd F) := by kernel_rfl
theorem rot12 (C : Call) (F : Fd) : semI C it1 (ev72 12 none) (fd F) = some (oddL.drop 12 ++ oddL.take 12, fd F) := by kernel_rfl
theorem rot13 (C : Call) (F : Fd) : semI C it1 (ev72 13 none) (fd F) = some (oddL.drop 13 ++ oddL.take 13, fd F) := by kernel_rfl
theorem rot14 (C : Call) (F : Fd) : semI C it1 (ev72 14 none) (fd F) = some (oddL.drop 14 ++ oddL.take 14, fd F) := by kernel_rfl
theorem rot15 (C : Call) (F : Fd) : semI C it1 (ev72 15 none) (fd F) = some (oddL.drop 15 ++ oddL.take 15, fd F) := by kernel_rfl
theorem rot16 (C : Call) (F : Fd) : semI C it1 (ev72 16 none) (fd F) = some (oddL.drop 16 ++ oddL.take 16, fd F) := by kernel_rfl
theorem rot17 (C : Call) (F : Fd) : semI C it1 (ev72 17 none) (fd F) = some (oddL.drop 17 ++ oddL.take 17, fd F) := by kernel_rfl
end K12
end

section
set_option Elab.async false
set_option linter.all false
set_option maxRecDepth 1000000
set_option maxHeartbeats 0
set_option autoImplicit false
/-! P12q0: one odd value as trust is refused (printed by mk12.py). -/
namespace K12
open PySem AOne
theorem st0 (F : Fd) (x : Int) : exe (callD T 22) L1 (ev72 x (some od0)) (fd F) = some (.nx (ev72 x (some od0)), fd F) := by kernel_rfl
end K12
end

section
set_option Elab.async false
set_option linter.all false
set_option maxRecDepth 1000000
set_option maxHeartbeats 0
set_option autoImplicit false
/-! P12q1: one odd value as trust is refused (printed by mk12.py). -/
namespace K12
open PySem AOne
theorem st1 (F : Fd) (x : Int) : exe (callD T 22) L1 (ev72 x (some od1)) (fd F) = some (.nx (ev72 x (some od1)), fd F) := by kernel_rfl
end K12
end

section
set_option Elab.async false
set_option linter.all false
set_option maxRecDepth 1000000
set_option maxHeartbeats 0
set_option autoImplicit false
/-! P12q2: one odd value as trust is refused (printed by mk12.py). -/
namespace K12
open PySem AOne
theorem st2 (F : Fd) (x : Int) : exe (callD T 22) L1 (ev72 x (some od2)) (fd F) = some (.nx (ev72 x (some od2)), fd F) := by kernel_rfl
end K12
end

section
set_option Elab.async false
set_option linter.all false
set_option maxRecDepth 1000000
set_option maxHeartbeats 0
set_option autoImplicit false
/-! P12q3: one odd value as trust is refused (printed by mk12.py). -/
namespace K12
open PySem AOne
theorem st3 (F : Fd) (x : Int) : exe (callD T 22) L1 (ev72 x (some od3)) (fd F) = some (.nx (ev72 x (some od3)), fd F) := by kernel_rfl
end K12
end

section
set_option Elab.async false
set_option linter.all false
set_option maxRecDepth 1000000
set_option maxHeartbeats 0
set_option autoImplicit false
/-! P12q4: one odd value as trust is refused (printed by mk12.py). -/
namespace K12
open PySem AOne
theorem st4 (F : Fd) (x : Int) : exe (callD T 22) L1 (ev72 x (some od4)) (fd F) = some (.nx (ev72 x (some od4)), fd F) := by kernel_rfl
end K12
end

section
set_option Elab.async false
set_option linter.all false
set_option maxRecDepth 1000000
set_option maxHeartbeats 0
set_option autoImplicit false
/-! P12q5: one odd value as trust is refused (printed by mk12.py). -/
namespace K12
open PySem AOne
theorem st5 (F : Fd) (x : Int) : exe (callD T 22) L1 (ev72 x (some od5)) (fd F) = some (.nx (ev72 x (some od5)), fd F) := by kernel_rfl
end K12
end

section
set_option Elab.async false
set_option linter.all false
set_option maxRecDepth 1000000
set_option maxHeartbeats 0
set_option autoImplicit false
/-! P12q6: one odd value as trust is refused (printed by mk12.py). -/
namespace K12
open PySem AOne
theorem st6 (F : Fd) (x : Int) : exe (callD T 22) L1 (ev72 x (some od6)) (fd F) = some (.nx (ev72 x (some od6)), fd F) := by kernel_rfl
end K12
end

section
set_option Elab.async false
set_option linter.all false
set_option maxRecDepth 1000000
set_option maxHeartbeats 0
set_option autoImplicit false
/-! P12q7: one odd value as trust is refused (printed by mk12.py). -/
namespace K12
open PySem AOne
theorem st7 (F : Fd) (x : Int) : exe (callD T 22) L1 (ev72 x (some od7)) (fd F) = some (.nx (ev72 x (some od7)), fd F) := by kernel_rfl
end K12
end

section
set_option Elab.async false
set_option linter.all false
set_option maxRecDepth 1000000
set_option maxHeartbeats 0
set_option autoImplicit false
/-! P12q8: one odd value as trust is refused (printed by mk12.py). -/
namespace K12
open PySem AOne
theorem st8 (F : Fd) (x : Int) : exe (callD T 22) L1 (ev72 x (some od8)) (fd F) = some (.nx (ev72 x (some od8)), fd F) := by kernel_rfl
end K12
end

section
set_option Elab.async false
set_option linter.all false
set_option maxRecDepth 1000000
set_option maxHeartbeats 0
set_option autoImplicit false
/-! P12q9: one odd value as trust is refused (printed by mk12.py). -/
namespace K12
open PySem AOne
theorem st9 (F : Fd) (x : Int) : exe (callD T 22) L1 (ev72 x (some od9)) (fd F) = some (.nx (ev72 x (some od9)), fd F) := by kernel_rfl
end K12
end

section
set_option Elab.async false
set_option linter.all false
set_option maxRecDepth 1000000
set_option maxHeartbeats 0
set_option autoImplicit false
/-! P12q10: one odd value as trust is refused (printed by mk12.py). -/
namespace K12
open PySem AOne
theorem st10 (F : Fd) (x : Int) : exe (callD T 22) L1 (ev72 x (some od10)) (fd F) = some (.nx (ev72 x (some od10)), fd F) := by kernel_rfl
end K12
end

section
set_option Elab.async false
set_option linter.all false
set_option maxRecDepth 1000000
set_option maxHeartbeats 0
set_option autoImplicit false
/-! P12q11: one odd value as trust is refused (printed by mk12.py). -/
namespace K12
open PySem AOne
theorem st11 (F : Fd) (x : Int) : exe (callD T 22) L1 (ev72 x (some od11)) (fd F) = some (.nx (ev72 x (some od11)), fd F) := by kernel_rfl
end K12
end

section
set_option Elab.async false
set_option linter.all false
set_option maxRecDepth 1000000
set_option maxHeartbeats 0
set_option autoImplicit false
/-! P12q12: one odd value as trust is refused (printed by mk12.py). -/
namespace K12
open PySem AOne
theorem st12 (F : Fd) (x : Int) : exe (callD T 22) L1 (ev72 x (some od12)) (fd F) = some (.nx (ev72 x (some od12)), fd F) := by kernel_rfl
end K12
end

section
set_option Elab.async false
set_option linter.all false
set_option maxRecDepth 1000000
set_option maxHeartbeats 0
set_option autoImplicit false
/-! P12q13: one odd value as trust is refused (printed by mk12.py). -/
namespace K12
open PySem AOne
theorem st13 (F : Fd) (x : Int) : exe (callD T 22) L1 (ev72 x (some od13)) (fd F) = some (.nx (ev72 x (some od13)), fd F) := by kernel_rfl
end K12
end

section
set_option Elab.async false
set_option linter.all false
set_option maxRecDepth 1000000
set_option maxHeartbeats 0
set_option autoImplicit false
/-! P12q14: one odd value as trust is refused (printed by mk12.py). -/
namespace K12
open PySem AOne
theorem st14 (F : Fd) (x : Int) : exe (callD T 22) L1 (ev72 x (some od14)) (fd F) = some (.nx (ev72 x (some od14)), fd F) := by kernel_rfl
end K12
end

section
set_option Elab.async false
set_option linter.all false
set_option maxRecDepth 1000000
set_option maxHeartbeats 0
set_option autoImplicit false
/-! P12q15: one odd value as trust is refused (printed by mk12.py). -/
namespace K12
open PySem AOne
theorem st15 (F : Fd) (x : Int) : exe (callD T 22) L1 (ev72 x (some od15)) (fd F) = some (.nx (ev72 x (some od15)), fd F) := by kernel_rfl
end K12
end

section
set_option Elab.async false
set_option linter.all false
set_option maxRecDepth 1000000
set_option maxHeartbeats 0
set_option autoImplicit false
/-! P12q16: one odd value as trust is refused (printed by mk12.py). -/
namespace K12
open PySem AOne
theorem st16 (F : Fd) (x : Int) : exe (callD T 22) L1 (ev72 x (some od16)) (fd F) = some (.nx (ev72 x (some od16)), fd F) := by kernel_rfl
end K12
end

section
set_option Elab.async false
set_option linter.all false
set_option maxRecDepth 1000000
set_option maxHeartbeats 0
set_option autoImplicit false
/-! P12q17: one odd value as trust is refused (printed by mk12.py). -/
namespace K12
open PySem AOne
theorem st17 (F : Fd) (x : Int) : exe (callD T 22) L1 (ev72 x (some od17)) (fd F) = some (.nx (ev72 x (some od17)), fd F) := by kernel_rfl
end K12
end

section
set_option Elab.async false
set_option linter.all false
set_option maxRecDepth 1000000
set_option maxHeartbeats 0
set_option autoImplicit false
/-! P12r0: printed by mk12s.py. -/
namespace K12
open PySem AOne
def it2 : Tm := (.ival (.lst (.cons (.cst .non) (.cons (.cst (.int 0)) (.cons (.cst (.bl true)) (.cons (.cst (.str "d")) (.cons (.cst (.str "")) (.cons (.cst (.str "A")) (.cons (.cst (.str "ab")) (.cons (.tup (.cons (.cst (.str "a")) .nil)) (.cons (.lst (.cons (.cst (.str "a")) .nil)) (.cons (.tup .nil) .nil))))))))))))
def L2 : Sm := (.seq (.ite (.nott (.call 63 [0, 1] [] (.cons (.call 70 [0, 1] [] (.cons (.var 5) (.cons (.var 4) .nil)) .nil) (.cons (.rep (.lst (.cons (.tup (.cons (.cst (.str "use")) (.cons (.cst (.str "house")) (.cons (.neg (.cst (.int 1))) .nil)))) .nil)) 8) .nil)) .nil)) (.seq (.ret (.cst (.bl false))) .skip) .skip) (.seq (.asg (.name 3) (.heard 3 ["_law_of_trust", "_law_of_house", "_law_are_sets_refused", "_law_are_refused"] "told" 74 (.call 45 [2, 1, 0] [] .nil (.cons (.var 4) (.cons (.cst (.str "a")) (.cons (.var 5) .nil)))))) (.seq (.ite (.nott (.call 63 [0, 1] [] (.cons (.var 3) (.cons (.tup (.cons (.cst (.str "use")) (.cons (.cst (.str "other")) (.cons (.neg (.cst (.int 1))) .nil)))) .nil)) .nil)) (.seq (.ret (.cst (.bl false))) .skip) .skip) .skip)))
def hu0 : D := .non
def hu1 : D := (.int 0)
def hu2 : D := (.bl true)
def hu3 : D := (.str "d")
def hu4 : D := (.str "")
def hu5 : D := (.str "A")
def hu6 : D := (.str "ab")
def hu7 : D := (.tup [(.str "a")])
def hu8 : D := (.lst [(.str "a")])
def hu9 : D := (.tup [])
def houseL : List D := [hu0, hu1, hu2, hu3, hu4, hu5, hu6, hu7, hu8, hu9]
def eh (x : Int) (p : Option D × Option D) : Ev := [some (.ref 4), some (.lst oddL), some (.int x), p.1, p.2, some three]
theorem hI2 (C : Call) (F : Fd) (x : Int) (p : Option D × Option D) : semI C it2 (eh x p) (fd F) = some (houseL, fd F) := by kernel_rfl
end K12
end

section
set_option Elab.async false
set_option linter.all false
set_option maxRecDepth 1000000
set_option maxHeartbeats 0
set_option autoImplicit false
/-! P12ra0: printed by mk12s.py. -/
namespace K12
open PySem AOne
theorem sr0 (F : Fd) (x : Int) (o : Option D) : exe (callD T 22) L2 (eh x (o, some hu0)) (fd F) = some (.nx (eh x (some (.tup [(.str "use"), (.str "other"), (.int (-1))]), some hu0)), fd F) := by kernel_rfl
end K12
end

section
set_option Elab.async false
set_option linter.all false
set_option maxRecDepth 1000000
set_option maxHeartbeats 0
set_option autoImplicit false
/-! P12ra1: printed by mk12s.py. -/
namespace K12
open PySem AOne
theorem sr1 (F : Fd) (x : Int) (o : Option D) : exe (callD T 22) L2 (eh x (o, some hu1)) (fd F) = some (.nx (eh x (some (.tup [(.str "use"), (.str "other"), (.int (-1))]), some hu1)), fd F) := by kernel_rfl
end K12
end

section
set_option Elab.async false
set_option linter.all false
set_option maxRecDepth 1000000
set_option maxHeartbeats 0
set_option autoImplicit false
/-! P12ra2: printed by mk12s.py. -/
namespace K12
open PySem AOne
theorem sr2 (F : Fd) (x : Int) (o : Option D) : exe (callD T 22) L2 (eh x (o, some hu2)) (fd F) = some (.nx (eh x (some (.tup [(.str "use"), (.str "other"), (.int (-1))]), some hu2)), fd F) := by kernel_rfl
end K12
end

section
set_option Elab.async false
set_option linter.all false
set_option maxRecDepth 1000000
set_option maxHeartbeats 0
set_option autoImplicit false
/-! P12ra3: printed by mk12s.py. -/
namespace K12
open PySem AOne
theorem sr3 (F : Fd) (x : Int) (o : Option D) : exe (callD T 22) L2 (eh x (o, some hu3)) (fd F) = some (.nx (eh x (some (.tup [(.str "use"), (.str "other"), (.int (-1))]), some hu3)), fd F) := by kernel_rfl
end K12
end

section
set_option Elab.async false
set_option linter.all false
set_option maxRecDepth 1000000
set_option maxHeartbeats 0
set_option autoImplicit false
/-! P12ra4: printed by mk12s.py. -/
namespace K12
open PySem AOne
theorem sr4 (F : Fd) (x : Int) (o : Option D) : exe (callD T 22) L2 (eh x (o, some hu4)) (fd F) = some (.nx (eh x (some (.tup [(.str "use"), (.str "other"), (.int (-1))]), some hu4)), fd F) := by kernel_rfl
end K12
end

section
set_option Elab.async false
set_option linter.all false
set_option maxRecDepth 1000000
set_option maxHeartbeats 0
set_option autoImplicit false
/-! P12ra5: printed by mk12s.py. -/
namespace K12
open PySem AOne
theorem sr5 (F : Fd) (x : Int) (o : Option D) : exe (callD T 22) L2 (eh x (o, some hu5)) (fd F) = some (.nx (eh x (some (.tup [(.str "use"), (.str "other"), (.int (-1))]), some hu5)), fd F) := by kernel_rfl
end K12
end

section
set_option Elab.async false
set_option linter.all false
set_option maxRecDepth 1000000
set_option maxHeartbeats 0
set_option autoImplicit false
/-! P12ra6: printed by mk12s.py. -/
namespace K12
open PySem AOne
theorem sr6 (F : Fd) (x : Int) (o : Option D) : exe (callD T 22) L2 (eh x (o, some hu6)) (fd F) = some (.nx (eh x (some (.tup [(.str "use"), (.str "other"), (.int (-1))]), some hu6)), fd F) := by kernel_rfl
end K12
end

section
set_option Elab.async false
set_option linter.all false
set_option maxRecDepth 1000000
set_option maxHeartbeats 0
set_option autoImplicit false
/-! P12ra7: printed by mk12s.py. -/
namespace K12
open PySem AOne
theorem sr7 (F : Fd) (x : Int) (o : Option D) : exe (callD T 22) L2 (eh x (o, some hu7)) (fd F) = some (.nx (eh x (some (.tup [(.str "use"), (.str "other"), (.int (-1))]), some hu7)), fd F) := by kernel_rfl
end K12
end

section
set_option Elab.async false
set_option linter.all false
set_option maxRecDepth 1000000
set_option maxHeartbeats 0
set_option autoImplicit false
/-! P12ra8: printed by mk12s.py. -/
namespace K12
open PySem AOne
theorem sr8 (F : Fd) (x : Int) (o : Option D) : exe (callD T 22) L2 (eh x (o, some hu8)) (fd F) = some (.nx (eh x (some (.tup [(.str "use"), (.str "other"), (.int (-1))]), some hu8)), fd F) := by kernel_rfl
end K12
end

section
set_option Elab.async false
set_option linter.all false
set_option maxRecDepth 1000000
set_option maxHeartbeats 0
set_option autoImplicit false
/-! P12ra9: printed by mk12s.py. -/
namespace K12
open PySem AOne
theorem sr9 (F : Fd) (x : Int) (o : Option D) : exe (callD T 22) L2 (eh x (o, some hu9)) (fd F) = some (.nx (eh x (some (.tup [(.str "use"), (.str "other"), (.int (-1))]), some hu9)), fd F) := by kernel_rfl
end K12
end

section
set_option Elab.async false
set_option linter.all false
set_option maxRecDepth 1000000
set_option maxHeartbeats 0
set_option autoImplicit false
/-! P12r: printed by mk12s.py. -/
namespace K12
open PySem AOne
theorem loop_r {f : D → Ev → Sto → Option (Fl × Sto)} {g : Option D × Option D → Ev} {S : Sto} {u : Option D} : ∀ (xs : List D) (o : Option D × Option D), (∀ x ∈ xs, ∀ o, f x (g o) S = some (.nx (g (u, some x)), S)) → ∃ z, loopL f xs (g o) S = some (.nx (g z), S)
  | [], o, _ => ⟨o, rfl⟩
  | x :: xs, o, h => by
    obtain ⟨z, hz⟩ := loop_r xs (u, some x) fun y hy o => h y (List.mem_cons_of_mem _ hy) o
    exact ⟨z, by rw [loopL, h x List.mem_cons_self o]; exact hz⟩
theorem loop2 {C : Call} {F : Fd} {x : Int} {u : Option D} (hs : ∀ h ∈ houseL, ∀ o, exe C L2 (eh x (o, some h)) (fd F) = some (.nx (eh x (u, some h)), fd F)) (p : Option D × Option D) : ∃ z, exe C (.forr (.name 4) it2 L2) (eh x p) (fd F) = some (.nx (eh x z), fd F) := by
  simp only [exe, hI2]
  refine loop_r (u := u) (g := fun p => eh x p) _ p fun h hh w => ?_
  have e : setG (.name 4) h (eh x w) = some (eh x (w.1, some h)) := rfl
  simp only [e]
  exact hs h hh w.1
theorem st_r (F : Fd) (x : Int) (o : Option D) : ∃ a b, exe (callD T 22) fr2 (ev72 x o) (fd F) = some (.nx [some (.ref 4), some (.lst oddL), some (.int x), a, b, some three], fd F) := by
  have hs : ∀ h ∈ houseL, ∀ o, exe (callD T 22) L2 (eh x (o, some h)) (fd F) = some (.nx (eh x (some (.tup [(.str "use"), (.str "other"), (.int (-1))]), some h)), fd F) := by
    intro h hh o
    unfold houseL at hh
    simp only [List.mem_cons, List.not_mem_nil, or_false] at hh
    rcases hh with rfl | rfl | rfl | rfl | rfl | rfl | rfl | rfl | rfl | rfl
    · exact sr0 F x o
    · exact sr1 F x o
    · exact sr2 F x o
    · exact sr3 F x o
    · exact sr4 F x o
    · exact sr5 F x o
    · exact sr6 F x o
    · exact sr7 F x o
    · exact sr8 F x o
    · exact sr9 F x o
  obtain ⟨z, hz⟩ := loop2 hs (none, o)
  exact ⟨z.1, z.2, hz⟩
end K12
end

section
set_option Elab.async false
set_option linter.all false
set_option maxRecDepth 1000000
set_option maxHeartbeats 0
set_option autoImplicit false
/-! P12s0: printed by mk12s.py. -/
namespace K12
open PySem AOne
def itA : Tm := (.ival (.lst (.cons (.cst .non) (.cons (.cst (.int 0)) (.cons (.cst (.str "a")) (.cons (.lst (.cons (.cst (.str "a")) .nil)) (.cons (.tup (.cons (.cst (.str "b")) (.cons (.cst (.str "a")) .nil))) (.cons (.tup (.cons (.cst (.str "a")) (.cons (.cst (.str "a")) .nil))) (.cons (.tup (.cons (.cst (.str "d")) .nil)) (.cons (.tup (.cons (.cst (.int 1)) .nil)) (.cons (.tup (.cons (.tup (.cons (.cst (.str "a")) .nil)) .nil)) (.cons (.tup (.cons (.cst (.str "")) .nil)) (.cons (.tup (.cons (.cst (.str "A")) .nil)) (.cons (.tup (.cons (.cst (.str "a")) (.cons (.cst .non) .nil))) .nil))))))))))))))
def LA : Sm := (.seq (.asg (.name 1) (.fresh (.lst (.cons (.heard 2 ["_law_of_trust", "_law_of_house", "_law_are_sets_refused", "_law_are_refused"] "told" 74 (.call 42 [0, 1, 2] [] (.cons (.var 0) (.cons (.cst (.str "a")) (.cons (.var 4) .nil))) .nil)) .nil)))) (.seq (.app (.var 1) (.heard 2 ["_law_of_trust", "_law_of_house", "_law_are_sets_refused", "_law_are_refused"] "told" 74 (.call 43 [0, 1] [] (.cons (.var 0) (.cons (.var 4) .nil)) .nil))) (.seq (.app (.var 1) (.heard 2 ["_law_of_trust", "_law_of_house", "_law_are_sets_refused", "_law_are_refused"] "told" 74 (.call 47 [0, 1, 2] [] (.cons (.var 0) (.cons (.cst (.str "a")) (.cons (.var 4) .nil))) .nil))) (.seq (.app (.var 1) (.heard 2 ["_law_of_trust", "_law_of_house", "_law_are_sets_refused", "_law_are_refused"] "told" 74 (.call 48 [2, 1, 0] [] .nil (.cons (.var 4) (.cons (.cst (.str "b")) (.cons (.var 0) .nil)))))) (.seq (.asg (.name 2) (.op .add (.rep (.lst (.cons (.tup (.cons (.cst (.str "use")) (.cons (.cst (.str "fall")) (.cons (.neg (.cst (.int 1))) .nil)))) .nil)) 2) (.rep (.lst (.cons (.tup (.cons (.cst (.str "use")) (.cons (.cst (.str "lot")) (.cons (.neg (.cst (.int 1))) .nil)))) .nil)) 2))) (.seq (.ite (.nott (.call 63 [0, 1] [] (.cons (.frz (.var 1)) (.cons (.var 2) .nil)) .nil)) (.seq (.ret (.cst (.bl false))) .skip) .skip) .skip))))))
def itB : Tm := (.ival (.lst (.cons (.cst .non) (.cons (.cst (.str "a")) (.cons (.tup (.cons (.cst (.str "a")) .nil)) (.cons (.tup (.cons (.cst (.str "a")) (.cons (.cst (.int 3)) .nil))) (.cons (.tup (.cons (.cst (.str "a")) (.cons (.neg (.cst (.int 1))) .nil))) (.cons (.tup (.cons (.cst (.str "a")) (.cons (.cst (.bl true)) .nil))) (.cons (.tup (.cons (.cst (.str "d")) (.cons (.cst (.int 0)) .nil))) (.cons (.lst (.cons (.cst (.str "a")) (.cons (.cst (.int 0)) .nil))) (.cons (.tup (.cons (.cst (.str "a")) (.cons (.cst (.int 0)) (.cons (.cst (.int 0)) .nil)))) (.cons (.tup (.cons (.cst (.int 0)) (.cons (.cst (.str "a")) .nil))) (.cons (.tup .nil) .nil)))))))))))))
def LB : Sm := (.seq (.asg (.name 1) (.fresh (.lst (.cons (.heard 2 ["_law_of_trust", "_law_of_house", "_law_are_sets_refused", "_law_are_refused"] "told" 74 (.call 56 [0, 1, 2] [] (.cons (.var 0) (.cons (.var 4) (.cons (.cst .non) .nil))) .nil)) .nil)))) (.seq (.app (.var 1) (.heard 2 ["_law_of_trust", "_law_of_house", "_law_are_sets_refused", "_law_are_refused"] "told" 74 (.call 56 [0, 1, 2] [] (.cons (.var 0) (.cons (.tup (.cons (.cst (.str "a")) (.cons (.cst (.int 0)) .nil))) (.cons (.var 4) .nil))) .nil))) (.seq (.app (.var 1) (.heard 2 ["_law_of_trust", "_law_of_house", "_law_are_sets_refused", "_law_are_refused"] "told" 74 (.call 59 [0, 1] [] (.cons (.var 0) (.cons (.tup (.cons (.var 4) .nil)) .nil)) .nil))) (.seq (.ite (.nott (.call 63 [0, 1] [] (.cons (.frz (.var 1)) (.cons (.lst (.cons (.tup (.cons (.cst (.str "use")) (.cons (.cst (.str "one")) (.cons (.neg (.cst (.int 1))) .nil)))) (.cons (.tup (.cons (.cst (.str "use")) (.cons (.cst (.str "other")) (.cons (.neg (.cst (.int 1))) .nil)))) (.cons (.tup (.cons (.cst (.str "use")) (.cons (.cst (.str "pairs")) (.cons (.neg (.cst (.int 1))) .nil)))) .nil)))) .nil)) .nil)) (.seq (.ret (.cst (.bl false))) .skip) .skip) .skip))))
def w71 : Sm := (.asg (.name 3) (.tup (.cons (.tup (.cons (.cst (.str "b")) (.cons (.cst (.int 0)) .nil))) (.cons (.tup (.cons (.cst (.str "b")) (.cons (.cst (.int 1)) .nil))) (.cons (.tup (.cons (.cst (.str "b")) (.cons (.cst (.int 2)) .nil))) .nil)))))
def itC : Tm := (.ival (.lst (.cons (.cst .non) (.cons (.cst (.int 0)) (.cons (.lst (.cons (.tup (.cons (.cst (.str "a")) (.cons (.cst (.int 0)) .nil))) .nil)) (.cons (.tup (.cons (.tup (.cons (.cst (.str "a")) (.cons (.cst (.int 1)) .nil))) (.cons (.tup (.cons (.cst (.str "a")) (.cons (.cst (.int 0)) .nil))) .nil))) (.cons (.tup (.cons (.tup (.cons (.cst (.str "a")) (.cons (.cst (.int 0)) .nil))) (.cons (.tup (.cons (.cst (.str "a")) (.cons (.cst (.int 0)) .nil))) .nil))) (.cons (.var 3) (.cons (.op .add (.tup (.cons (.tup (.cons (.cst (.str "a")) (.cons (.cst (.int 0)) .nil))) .nil)) (.var 3)) .nil)))))))))
def LC : Sm := (.seq (.ite (.nott (.call 63 [0, 1] [] (.cons (.heard 2 ["_law_of_trust", "_law_of_house", "_law_are_sets_refused", "_law_are_refused"] "told" 74 (.call 59 [0, 1] [] (.cons (.var 0) (.cons (.var 4) .nil)) .nil)) (.cons (.tup (.cons (.cst (.str "use")) (.cons (.cst (.str "pairs")) (.cons (.neg (.cst (.int 1))) .nil)))) .nil)) .nil)) (.seq (.ret (.cst (.bl false))) .skip) .skip) .skip)
def qfa : List D := [(.tup [(.str "use"), (.str "fall"), (.int (-1))]), (.tup [(.str "use"), (.str "fall"), (.int (-1))]), (.tup [(.str "use"), (.str "lot"), (.int (-1))]), (.tup [(.str "use"), (.str "lot"), (.int (-1))])]
def qfb : List D := [(.tup [(.str "use"), (.str "one"), (.int (-1))]), (.tup [(.str "use"), (.str "other"), (.int (-1))]), (.tup [(.str "use"), (.str "pairs"), (.int (-1))])]
def sa0 : D := .non
def sa1 : D := (.int 0)
def sa2 : D := (.str "a")
def sa3 : D := (.lst [(.str "a")])
def sa4 : D := (.tup [(.str "b"), (.str "a")])
def sa5 : D := (.tup [(.str "a"), (.str "a")])
def sa6 : D := (.tup [(.str "d")])
def sa7 : D := (.tup [(.int 1)])
def sa8 : D := (.tup [(.tup [(.str "a")])])
def sa9 : D := (.tup [(.str "")])
def sa10 : D := (.tup [(.str "A")])
def sa11 : D := (.tup [(.str "a"), .non])
def saL : List D := [sa0, sa1, sa2, sa3, sa4, sa5, sa6, sa7, sa8, sa9, sa10, sa11]
def sb0 : D := .non
def sb1 : D := (.str "a")
def sb2 : D := (.tup [(.str "a")])
def sb3 : D := (.tup [(.str "a"), (.int 3)])
def sb4 : D := (.tup [(.str "a"), (.int (-1))])
def sb5 : D := (.tup [(.str "a"), (.bl true)])
def sb6 : D := (.tup [(.str "d"), (.int 0)])
def sb7 : D := (.lst [(.str "a"), (.int 0)])
def sb8 : D := (.tup [(.str "a"), (.int 0), (.int 0)])
def sb9 : D := (.tup [(.int 0), (.str "a")])
def sb10 : D := (.tup [])
def sbL : List D := [sb0, sb1, sb2, sb3, sb4, sb5, sb6, sb7, sb8, sb9, sb10]
def sc0 : D := .non
def sc1 : D := (.int 0)
def sc2 : D := (.lst [(.tup [(.str "a"), (.int 0)])])
def sc3 : D := (.tup [(.tup [(.str "a"), (.int 1)]), (.tup [(.str "a"), (.int 0)])])
def sc4 : D := (.tup [(.tup [(.str "a"), (.int 0)]), (.tup [(.str "a"), (.int 0)])])
def sc5 : D := (.tup [(.tup [(.str "b"), (.int 0)]), (.tup [(.str "b"), (.int 1)]), (.tup [(.str "b"), (.int 2)])])
def sc6 : D := (.tup [(.tup [(.str "a"), (.int 0)]), (.tup [(.str "b"), (.int 0)]), (.tup [(.str "b"), (.int 1)]), (.tup [(.str "b"), (.int 2)])])
def scL : List D := [sc0, sc1, sc2, sc3, sc4, sc5, sc6]
def wholeD : D := (.tup [(.tup [(.str "b"), (.int 0)]), (.tup [(.str "b"), (.int 1)]), (.tup [(.str "b"), (.int 2)])])

end K12
end

section
set_option Elab.async false
set_option linter.all false
set_option maxRecDepth 1000000
set_option maxHeartbeats 0
set_option autoImplicit false
/-! P12sa0: printed by mk12s.py. -/
namespace K12
open PySem AOne
theorem tA0 (F : Fd) : exe (callD T 21) LA [some three, none, none, none, some sa0] (fd F ++ (List.replicate 0 (.fro qfa) ++ List.replicate 0 (.fro qfb))) = some (.nx [some three, some (.ref 5), some (.lst qfa), none, some sa0], fd F ++ (List.replicate 1 (.fro qfa) ++ List.replicate 0 (.fro qfb))) := by kernel_rfl
end K12
end

section
set_option Elab.async false
set_option linter.all false
set_option maxRecDepth 1000000
set_option maxHeartbeats 0
set_option autoImplicit false
/-! P12sa1: printed by mk12s.py. -/
namespace K12
open PySem AOne
theorem tA1 (F : Fd) : exe (callD T 21) LA [some three, some (.ref 5), some (.lst qfa), none, some sa1] (fd F ++ (List.replicate 1 (.fro qfa) ++ List.replicate 0 (.fro qfb))) = some (.nx [some three, some (.ref 6), some (.lst qfa), none, some sa1], fd F ++ (List.replicate 2 (.fro qfa) ++ List.replicate 0 (.fro qfb))) := by kernel_rfl
end K12
end

section
set_option Elab.async false
set_option linter.all false
set_option maxRecDepth 1000000
set_option maxHeartbeats 0
set_option autoImplicit false
/-! P12sa2: printed by mk12s.py. -/
namespace K12
open PySem AOne
theorem tA2 (F : Fd) : exe (callD T 21) LA [some three, some (.ref 6), some (.lst qfa), none, some sa2] (fd F ++ (List.replicate 2 (.fro qfa) ++ List.replicate 0 (.fro qfb))) = some (.nx [some three, some (.ref 7), some (.lst qfa), none, some sa2], fd F ++ (List.replicate 3 (.fro qfa) ++ List.replicate 0 (.fro qfb))) := by kernel_rfl
end K12
end

section
set_option Elab.async false
set_option linter.all false
set_option maxRecDepth 1000000
set_option maxHeartbeats 0
set_option autoImplicit false
/-! P12sa3: printed by mk12s.py. -/
namespace K12
open PySem AOne
theorem tA3 (F : Fd) : exe (callD T 21) LA [some three, some (.ref 7), some (.lst qfa), none, some sa3] (fd F ++ (List.replicate 3 (.fro qfa) ++ List.replicate 0 (.fro qfb))) = some (.nx [some three, some (.ref 8), some (.lst qfa), none, some sa3], fd F ++ (List.replicate 4 (.fro qfa) ++ List.replicate 0 (.fro qfb))) := by kernel_rfl
end K12
end

section
set_option Elab.async false
set_option linter.all false
set_option maxRecDepth 1000000
set_option maxHeartbeats 0
set_option autoImplicit false
/-! P12sa4: printed by mk12s.py. -/
namespace K12
open PySem AOne
theorem tA4 (F : Fd) : exe (callD T 21) LA [some three, some (.ref 8), some (.lst qfa), none, some sa4] (fd F ++ (List.replicate 4 (.fro qfa) ++ List.replicate 0 (.fro qfb))) = some (.nx [some three, some (.ref 9), some (.lst qfa), none, some sa4], fd F ++ (List.replicate 5 (.fro qfa) ++ List.replicate 0 (.fro qfb))) := by kernel_rfl
end K12
end

section
set_option Elab.async false
set_option linter.all false
set_option maxRecDepth 1000000
set_option maxHeartbeats 0
set_option autoImplicit false
/-! P12sa5: printed by mk12s.py. -/
namespace K12
open PySem AOne
theorem tA5 (F : Fd) : exe (callD T 21) LA [some three, some (.ref 9), some (.lst qfa), none, some sa5] (fd F ++ (List.replicate 5 (.fro qfa) ++ List.replicate 0 (.fro qfb))) = some (.nx [some three, some (.ref 10), some (.lst qfa), none, some sa5], fd F ++ (List.replicate 6 (.fro qfa) ++ List.replicate 0 (.fro qfb))) := by kernel_rfl
end K12
end

section
set_option Elab.async false
set_option linter.all false
set_option maxRecDepth 1000000
set_option maxHeartbeats 0
set_option autoImplicit false
/-! P12sa6: printed by mk12s.py. -/
namespace K12
open PySem AOne
theorem tA6 (F : Fd) : exe (callD T 21) LA [some three, some (.ref 10), some (.lst qfa), none, some sa6] (fd F ++ (List.replicate 6 (.fro qfa) ++ List.replicate 0 (.fro qfb))) = some (.nx [some three, some (.ref 11), some (.lst qfa), none, some sa6], fd F ++ (List.replicate 7 (.fro qfa) ++ List.replicate 0 (.fro qfb))) := by kernel_rfl
end K12
end

section
set_option Elab.async false
set_option linter.all false
set_option maxRecDepth 1000000
set_option maxHeartbeats 0
set_option autoImplicit false
/-! P12sa7: printed by mk12s.py. -/
namespace K12
open PySem AOne
theorem tA7 (F : Fd) : exe (callD T 21) LA [some three, some (.ref 11), some (.lst qfa), none, some sa7] (fd F ++ (List.replicate 7 (.fro qfa) ++ List.replicate 0 (.fro qfb))) = some (.nx [some three, some (.ref 12), some (.lst qfa), none, some sa7], fd F ++ (List.replicate 8 (.fro qfa) ++ List.replicate 0 (.fro qfb))) := by kernel_rfl
end K12
end

section
set_option Elab.async false
set_option linter.all false
set_option maxRecDepth 1000000
set_option maxHeartbeats 0
set_option autoImplicit false
/-! P12sa8: printed by mk12s.py. -/
namespace K12
open PySem AOne
theorem tA8 (F : Fd) : exe (callD T 21) LA [some three, some (.ref 12), some (.lst qfa), none, some sa8] (fd F ++ (List.replicate 8 (.fro qfa) ++ List.replicate 0 (.fro qfb))) = some (.nx [some three, some (.ref 13), some (.lst qfa), none, some sa8], fd F ++ (List.replicate 9 (.fro qfa) ++ List.replicate 0 (.fro qfb))) := by kernel_rfl
end K12
end

section
set_option Elab.async false
set_option linter.all false
set_option maxRecDepth 1000000
set_option maxHeartbeats 0
set_option autoImplicit false
/-! P12sa9: printed by mk12s.py. -/
namespace K12
open PySem AOne
theorem tA9 (F : Fd) : exe (callD T 21) LA [some three, some (.ref 13), some (.lst qfa), none, some sa9] (fd F ++ (List.replicate 9 (.fro qfa) ++ List.replicate 0 (.fro qfb))) = some (.nx [some three, some (.ref 14), some (.lst qfa), none, some sa9], fd F ++ (List.replicate 10 (.fro qfa) ++ List.replicate 0 (.fro qfb))) := by kernel_rfl
end K12
end

section
set_option Elab.async false
set_option linter.all false
set_option maxRecDepth 1000000
set_option maxHeartbeats 0
set_option autoImplicit false
/-! P12sa10: printed by mk12s.py. -/
namespace K12
open PySem AOne
theorem tA10 (F : Fd) : exe (callD T 21) LA [some three, some (.ref 14), some (.lst qfa), none, some sa10] (fd F ++ (List.replicate 10 (.fro qfa) ++ List.replicate 0 (.fro qfb))) = some (.nx [some three, some (.ref 15), some (.lst qfa), none, some sa10], fd F ++ (List.replicate 11 (.fro qfa) ++ List.replicate 0 (.fro qfb))) := by kernel_rfl
end K12
end

section
set_option Elab.async false
set_option linter.all false
set_option maxRecDepth 1000000
set_option maxHeartbeats 0
set_option autoImplicit false
/-! P12sa11: printed by mk12s.py. -/
namespace K12
open PySem AOne
theorem tA11 (F : Fd) : exe (callD T 21) LA [some three, some (.ref 15), some (.lst qfa), none, some sa11] (fd F ++ (List.replicate 11 (.fro qfa) ++ List.replicate 0 (.fro qfb))) = some (.nx [some three, some (.ref 16), some (.lst qfa), none, some sa11], fd F ++ (List.replicate 12 (.fro qfa) ++ List.replicate 0 (.fro qfb))) := by kernel_rfl
end K12
end

section
set_option Elab.async false
set_option linter.all false
set_option maxRecDepth 1000000
set_option maxHeartbeats 0
set_option autoImplicit false
/-! P12sb0: printed by mk12s.py. -/
namespace K12
open PySem AOne
theorem tB0 (F : Fd) : exe (callD T 21) LB [some three, some (.ref 16), some (.lst qfa), none, some sb0] (fd F ++ (List.replicate 12 (.fro qfa) ++ List.replicate 0 (.fro qfb))) = some (.nx [some three, some (.ref 17), some (.lst qfa), none, some sb0], fd F ++ (List.replicate 12 (.fro qfa) ++ List.replicate 1 (.fro qfb))) := by kernel_rfl
end K12
end

section
set_option Elab.async false
set_option linter.all false
set_option maxRecDepth 1000000
set_option maxHeartbeats 0
set_option autoImplicit false
/-! P12sb1: printed by mk12s.py. -/
namespace K12
open PySem AOne
theorem tB1 (F : Fd) : exe (callD T 21) LB [some three, some (.ref 17), some (.lst qfa), none, some sb1] (fd F ++ (List.replicate 12 (.fro qfa) ++ List.replicate 1 (.fro qfb))) = some (.nx [some three, some (.ref 18), some (.lst qfa), none, some sb1], fd F ++ (List.replicate 12 (.fro qfa) ++ List.replicate 2 (.fro qfb))) := by kernel_rfl
end K12
end

section
set_option Elab.async false
set_option linter.all false
set_option maxRecDepth 1000000
set_option maxHeartbeats 0
set_option autoImplicit false
/-! P12sb2: printed by mk12s.py. -/
namespace K12
open PySem AOne
theorem tB2 (F : Fd) : exe (callD T 21) LB [some three, some (.ref 18), some (.lst qfa), none, some sb2] (fd F ++ (List.replicate 12 (.fro qfa) ++ List.replicate 2 (.fro qfb))) = some (.nx [some three, some (.ref 19), some (.lst qfa), none, some sb2], fd F ++ (List.replicate 12 (.fro qfa) ++ List.replicate 3 (.fro qfb))) := by kernel_rfl
end K12
end

section
set_option Elab.async false
set_option linter.all false
set_option maxRecDepth 1000000
set_option maxHeartbeats 0
set_option autoImplicit false
/-! P12sb3: printed by mk12s.py. -/
namespace K12
open PySem AOne
theorem tB3 (F : Fd) : exe (callD T 21) LB [some three, some (.ref 19), some (.lst qfa), none, some sb3] (fd F ++ (List.replicate 12 (.fro qfa) ++ List.replicate 3 (.fro qfb))) = some (.nx [some three, some (.ref 20), some (.lst qfa), none, some sb3], fd F ++ (List.replicate 12 (.fro qfa) ++ List.replicate 4 (.fro qfb))) := by kernel_rfl
end K12
end

section
set_option Elab.async false
set_option linter.all false
set_option maxRecDepth 1000000
set_option maxHeartbeats 0
set_option autoImplicit false
/-! P12sb4: printed by mk12s.py. -/
namespace K12
open PySem AOne
theorem tB4 (F : Fd) : exe (callD T 21) LB [some three, some (.ref 20), some (.lst qfa), none, some sb4] (fd F ++ (List.replicate 12 (.fro qfa) ++ List.replicate 4 (.fro qfb))) = some (.nx [some three, some (.ref 21), some (.lst qfa), none, some sb4], fd F ++ (List.replicate 12 (.fro qfa) ++ List.replicate 5 (.fro qfb))) := by kernel_rfl
end K12
end

section
set_option Elab.async false
set_option linter.all false
set_option maxRecDepth 1000000
set_option maxHeartbeats 0
set_option autoImplicit false
/-! P12sb5: printed by mk12s.py. -/
namespace K12
open PySem AOne
theorem tB5 (F : Fd) : exe (callD T 21) LB [some three, some (.ref 21), some (.lst qfa), none, some sb5] (fd F ++ (List.replicate 12 (.fro qfa) ++ List.replicate 5 (.fro qfb))) = some (.nx [some three, some (.ref 22), some (.lst qfa), none, some sb5], fd F ++ (List.replicate 12 (.fro qfa) ++ List.replicate 6 (.fro qfb))) := by kernel_rfl
end K12
end

section
set_option Elab.async false
set_option linter.all false
set_option maxRecDepth 1000000
set_option maxHeartbeats 0
set_option autoImplicit false
/-! P12sb6: printed by mk12s.py. -/
namespace K12
open PySem AOne
theorem tB6 (F : Fd) : exe (callD T 21) LB [some three, some (.ref 22), some (.lst qfa), none, some sb6] (fd F ++ (List.replicate 12 (.fro qfa) ++ List.replicate 6 (.fro qfb))) = some (.nx [some three, some (.ref 23), some (.lst qfa), none, some sb6], fd F ++ (List.replicate 12 (.fro qfa) ++ List.replicate 7 (.fro qfb))) := by kernel_rfl
end K12
end

section
set_option Elab.async false
set_option linter.all false
set_option maxRecDepth 1000000
set_option maxHeartbeats 0
set_option autoImplicit false
/-! P12sb7: printed by mk12s.py. -/
namespace K12
open PySem AOne
theorem tB7 (F : Fd) : exe (callD T 21) LB [some three, some (.ref 23), some (.lst qfa), none, some sb7] (fd F ++ (List.replicate 12 (.fro qfa) ++ List.replicate 7 (.fro qfb))) = some (.nx [some three, some (.ref 24), some (.lst qfa), none, some sb7], fd F ++ (List.replicate 12 (.fro qfa) ++ List.replicate 8 (.fro qfb))) := by kernel_rfl
end K12
end

section
set_option Elab.async false
set_option linter.all false
set_option maxRecDepth 1000000
set_option maxHeartbeats 0
set_option autoImplicit false
/-! P12sb8: printed by mk12s.py. -/
namespace K12
open PySem AOne
theorem tB8 (F : Fd) : exe (callD T 21) LB [some three, some (.ref 24), some (.lst qfa), none, some sb8] (fd F ++ (List.replicate 12 (.fro qfa) ++ List.replicate 8 (.fro qfb))) = some (.nx [some three, some (.ref 25), some (.lst qfa), none, some sb8], fd F ++ (List.replicate 12 (.fro qfa) ++ List.replicate 9 (.fro qfb))) := by kernel_rfl
end K12
end

section
set_option Elab.async false
set_option linter.all false
set_option maxRecDepth 1000000
set_option maxHeartbeats 0
set_option autoImplicit false
/-! P12sb9: printed by mk12s.py. -/
namespace K12
open PySem AOne
theorem tB9 (F : Fd) : exe (callD T 21) LB [some three, some (.ref 25), some (.lst qfa), none, some sb9] (fd F ++ (List.replicate 12 (.fro qfa) ++ List.replicate 9 (.fro qfb))) = some (.nx [some three, some (.ref 26), some (.lst qfa), none, some sb9], fd F ++ (List.replicate 12 (.fro qfa) ++ List.replicate 10 (.fro qfb))) := by kernel_rfl
end K12
end

section
set_option Elab.async false
set_option linter.all false
set_option maxRecDepth 1000000
set_option maxHeartbeats 0
set_option autoImplicit false
/-! P12sb10: printed by mk12s.py. -/
namespace K12
open PySem AOne
theorem tB10 (F : Fd) : exe (callD T 21) LB [some three, some (.ref 26), some (.lst qfa), none, some sb10] (fd F ++ (List.replicate 12 (.fro qfa) ++ List.replicate 10 (.fro qfb))) = some (.nx [some three, some (.ref 27), some (.lst qfa), none, some sb10], fd F ++ (List.replicate 12 (.fro qfa) ++ List.replicate 11 (.fro qfb))) := by kernel_rfl
end K12
end

section
set_option Elab.async false
set_option linter.all false
set_option maxRecDepth 1000000
set_option maxHeartbeats 0
set_option autoImplicit false
/-! P12sc0: printed by mk12s.py. -/
namespace K12
open PySem AOne
theorem tC0 (F : Fd) : exe (callD T 21) LC [some three, some (.ref 27), some (.lst qfa), some wholeD, some sc0] (fd F ++ (List.replicate 12 (.fro qfa) ++ List.replicate 11 (.fro qfb))) = some (.nx [some three, some (.ref 27), some (.lst qfa), some wholeD, some sc0], fd F ++ (List.replicate 12 (.fro qfa) ++ List.replicate 11 (.fro qfb))) := by kernel_rfl
end K12
end

section
set_option Elab.async false
set_option linter.all false
set_option maxRecDepth 1000000
set_option maxHeartbeats 0
set_option autoImplicit false
/-! P12sc1: printed by mk12s.py. -/
namespace K12
open PySem AOne
theorem tC1 (F : Fd) : exe (callD T 21) LC [some three, some (.ref 27), some (.lst qfa), some wholeD, some sc1] (fd F ++ (List.replicate 12 (.fro qfa) ++ List.replicate 11 (.fro qfb))) = some (.nx [some three, some (.ref 27), some (.lst qfa), some wholeD, some sc1], fd F ++ (List.replicate 12 (.fro qfa) ++ List.replicate 11 (.fro qfb))) := by kernel_rfl
end K12
end

section
set_option Elab.async false
set_option linter.all false
set_option maxRecDepth 1000000
set_option maxHeartbeats 0
set_option autoImplicit false
/-! P12sc2: printed by mk12s.py. -/
namespace K12
open PySem AOne
theorem tC2 (F : Fd) : exe (callD T 21) LC [some three, some (.ref 27), some (.lst qfa), some wholeD, some sc2] (fd F ++ (List.replicate 12 (.fro qfa) ++ List.replicate 11 (.fro qfb))) = some (.nx [some three, some (.ref 27), some (.lst qfa), some wholeD, some sc2], fd F ++ (List.replicate 12 (.fro qfa) ++ List.replicate 11 (.fro qfb))) := by kernel_rfl
end K12
end

section
set_option Elab.async false
set_option linter.all false
set_option maxRecDepth 1000000
set_option maxHeartbeats 0
set_option autoImplicit false
/-! P12sc3: printed by mk12s.py. -/
namespace K12
open PySem AOne
theorem tC3 (F : Fd) : exe (callD T 21) LC [some three, some (.ref 27), some (.lst qfa), some wholeD, some sc3] (fd F ++ (List.replicate 12 (.fro qfa) ++ List.replicate 11 (.fro qfb))) = some (.nx [some three, some (.ref 27), some (.lst qfa), some wholeD, some sc3], fd F ++ (List.replicate 12 (.fro qfa) ++ List.replicate 11 (.fro qfb))) := by kernel_rfl
end K12
end

section
set_option Elab.async false
set_option linter.all false
set_option maxRecDepth 1000000
set_option maxHeartbeats 0
set_option autoImplicit false
/-! P12sc4: printed by mk12s.py. -/
namespace K12
open PySem AOne
theorem tC4 (F : Fd) : exe (callD T 21) LC [some three, some (.ref 27), some (.lst qfa), some wholeD, some sc4] (fd F ++ (List.replicate 12 (.fro qfa) ++ List.replicate 11 (.fro qfb))) = some (.nx [some three, some (.ref 27), some (.lst qfa), some wholeD, some sc4], fd F ++ (List.replicate 12 (.fro qfa) ++ List.replicate 11 (.fro qfb))) := by kernel_rfl
end K12
end

section
set_option Elab.async false
set_option linter.all false
set_option maxRecDepth 1000000
set_option maxHeartbeats 0
set_option autoImplicit false
/-! P12sc5: printed by mk12s.py. -/
namespace K12
open PySem AOne
theorem tC5 (F : Fd) : exe (callD T 21) LC [some three, some (.ref 27), some (.lst qfa), some wholeD, some sc5] (fd F ++ (List.replicate 12 (.fro qfa) ++ List.replicate 11 (.fro qfb))) = some (.nx [some three, some (.ref 27), some (.lst qfa), some wholeD, some sc5], fd F ++ (List.replicate 12 (.fro qfa) ++ List.replicate 11 (.fro qfb))) := by kernel_rfl
end K12
end

section
set_option Elab.async false
set_option linter.all false
set_option maxRecDepth 1000000
set_option maxHeartbeats 0
set_option autoImplicit false
/-! P12sc6: printed by mk12s.py. -/
namespace K12
open PySem AOne
theorem tC6 (F : Fd) : exe (callD T 21) LC [some three, some (.ref 27), some (.lst qfa), some wholeD, some sc6] (fd F ++ (List.replicate 12 (.fro qfa) ++ List.replicate 11 (.fro qfb))) = some (.nx [some three, some (.ref 27), some (.lst qfa), some wholeD, some sc6], fd F ++ (List.replicate 12 (.fro qfa) ++ List.replicate 11 (.fro qfb))) := by kernel_rfl
end K12
end

section
set_option Elab.async false
set_option linter.all false
set_option maxRecDepth 1000000
set_option maxHeartbeats 0
set_option autoImplicit false
/-! P12s: printed by mk12s.py. -/
namespace K12
open PySem AOne
def goL (C : Call) (b : Sm) (x : D) (r : Ev) (S : Sto) : Option (Fl × Sto) := match setG (.name 4) x r with
  | none => none
  | some r1 => exe C b r1 S
theorem for_go {C : Call} {it : Tm} {b : Sm} {r : Ev} {S : Sto} {xs : List D} (h : semI C it r S = some (xs, S)) : exe C (.forr (.name 4) it b) r S = loopL (goL C b) xs r S := by
  simp only [exe, h]
  rfl
theorem loop_go {f : D → Ev → Sto → Option (Fl × Sto)} {x : D} {xs : List D} {r r1 : Ev} {S S1 : Sto} (h : f x r S = some (.nx r1, S1)) : loopL f (x :: xs) r S = loopL f xs r1 S1 := by rw [loopL, h]
theorem iA (C : Call) (F : Fd) : semI C itA [some three, none, none, none, none] (fd F ++ (List.replicate 0 (.fro qfa) ++ List.replicate 0 (.fro qfb))) = some (saL, fd F ++ (List.replicate 0 (.fro qfa) ++ List.replicate 0 (.fro qfb))) := by kernel_rfl
theorem iB (C : Call) (F : Fd) : semI C itB [some three, some (.ref 16), some (.lst qfa), none, some sa11] (fd F ++ (List.replicate 12 (.fro qfa) ++ List.replicate 0 (.fro qfb))) = some (sbL, fd F ++ (List.replicate 12 (.fro qfa) ++ List.replicate 0 (.fro qfb))) := by kernel_rfl
theorem iC (C : Call) (F : Fd) : semI C itC [some three, some (.ref 27), some (.lst qfa), some wholeD, some sb10] (fd F ++ (List.replicate 12 (.fro qfa) ++ List.replicate 11 (.fro qfb))) = some (scL, fd F ++ (List.replicate 12 (.fro qfa) ++ List.replicate 11 (.fro qfb))) := by kernel_rfl
theorem lA (F : Fd) : exe (callD T 21) (.forr (.name 4) itA LA) [some three, none, none, none, none] (fd F ++ (List.replicate 0 (.fro qfa) ++ List.replicate 0 (.fro qfb))) = some (.nx [some three, some (.ref 16), some (.lst qfa), none, some sa11], fd F ++ (List.replicate 12 (.fro qfa) ++ List.replicate 0 (.fro qfb))) := by
  rw [for_go (iA _ F)]
  unfold saL
  rw [loop_go (show goL (callD T 21) LA sa0 [some three, none, none, none, none] (fd F ++ (List.replicate 0 (.fro qfa) ++ List.replicate 0 (.fro qfb))) = some (.nx [some three, some (.ref 5), some (.lst qfa), none, some sa0], fd F ++ (List.replicate 1 (.fro qfa) ++ List.replicate 0 (.fro qfb))) from tA0 F)]
  rw [loop_go (show goL (callD T 21) LA sa1 [some three, some (.ref 5), some (.lst qfa), none, some sa0] (fd F ++ (List.replicate 1 (.fro qfa) ++ List.replicate 0 (.fro qfb))) = some (.nx [some three, some (.ref 6), some (.lst qfa), none, some sa1], fd F ++ (List.replicate 2 (.fro qfa) ++ List.replicate 0 (.fro qfb))) from tA1 F)]
  rw [loop_go (show goL (callD T 21) LA sa2 [some three, some (.ref 6), some (.lst qfa), none, some sa1] (fd F ++ (List.replicate 2 (.fro qfa) ++ List.replicate 0 (.fro qfb))) = some (.nx [some three, some (.ref 7), some (.lst qfa), none, some sa2], fd F ++ (List.replicate 3 (.fro qfa) ++ List.replicate 0 (.fro qfb))) from tA2 F)]
  rw [loop_go (show goL (callD T 21) LA sa3 [some three, some (.ref 7), some (.lst qfa), none, some sa2] (fd F ++ (List.replicate 3 (.fro qfa) ++ List.replicate 0 (.fro qfb))) = some (.nx [some three, some (.ref 8), some (.lst qfa), none, some sa3], fd F ++ (List.replicate 4 (.fro qfa) ++ List.replicate 0 (.fro qfb))) from tA3 F)]
  rw [loop_go (show goL (callD T 21) LA sa4 [some three, some (.ref 8), some (.lst qfa), none, some sa3] (fd F ++ (List.replicate 4 (.fro qfa) ++ List.replicate 0 (.fro qfb))) = some (.nx [some three, some (.ref 9), some (.lst qfa), none, some sa4], fd F ++ (List.replicate 5 (.fro qfa) ++ List.replicate 0 (.fro qfb))) from tA4 F)]
  rw [loop_go (show goL (callD T 21) LA sa5 [some three, some (.ref 9), some (.lst qfa), none, some sa4] (fd F ++ (List.replicate 5 (.fro qfa) ++ List.replicate 0 (.fro qfb))) = some (.nx [some three, some (.ref 10), some (.lst qfa), none, some sa5], fd F ++ (List.replicate 6 (.fro qfa) ++ List.replicate 0 (.fro qfb))) from tA5 F)]
  rw [loop_go (show goL (callD T 21) LA sa6 [some three, some (.ref 10), some (.lst qfa), none, some sa5] (fd F ++ (List.replicate 6 (.fro qfa) ++ List.replicate 0 (.fro qfb))) = some (.nx [some three, some (.ref 11), some (.lst qfa), none, some sa6], fd F ++ (List.replicate 7 (.fro qfa) ++ List.replicate 0 (.fro qfb))) from tA6 F)]
  rw [loop_go (show goL (callD T 21) LA sa7 [some three, some (.ref 11), some (.lst qfa), none, some sa6] (fd F ++ (List.replicate 7 (.fro qfa) ++ List.replicate 0 (.fro qfb))) = some (.nx [some three, some (.ref 12), some (.lst qfa), none, some sa7], fd F ++ (List.replicate 8 (.fro qfa) ++ List.replicate 0 (.fro qfb))) from tA7 F)]
  rw [loop_go (show goL (callD T 21) LA sa8 [some three, some (.ref 12), some (.lst qfa), none, some sa7] (fd F ++ (List.replicate 8 (.fro qfa) ++ List.replicate 0 (.fro qfb))) = some (.nx [some three, some (.ref 13), some (.lst qfa), none, some sa8], fd F ++ (List.replicate 9 (.fro qfa) ++ List.replicate 0 (.fro qfb))) from tA8 F)]
  rw [loop_go (show goL (callD T 21) LA sa9 [some three, some (.ref 13), some (.lst qfa), none, some sa8] (fd F ++ (List.replicate 9 (.fro qfa) ++ List.replicate 0 (.fro qfb))) = some (.nx [some three, some (.ref 14), some (.lst qfa), none, some sa9], fd F ++ (List.replicate 10 (.fro qfa) ++ List.replicate 0 (.fro qfb))) from tA9 F)]
  rw [loop_go (show goL (callD T 21) LA sa10 [some three, some (.ref 14), some (.lst qfa), none, some sa9] (fd F ++ (List.replicate 10 (.fro qfa) ++ List.replicate 0 (.fro qfb))) = some (.nx [some three, some (.ref 15), some (.lst qfa), none, some sa10], fd F ++ (List.replicate 11 (.fro qfa) ++ List.replicate 0 (.fro qfb))) from tA10 F)]
  rw [loop_go (show goL (callD T 21) LA sa11 [some three, some (.ref 15), some (.lst qfa), none, some sa10] (fd F ++ (List.replicate 11 (.fro qfa) ++ List.replicate 0 (.fro qfb))) = some (.nx [some three, some (.ref 16), some (.lst qfa), none, some sa11], fd F ++ (List.replicate 12 (.fro qfa) ++ List.replicate 0 (.fro qfb))) from tA11 F)]
  rfl
theorem lB (F : Fd) : exe (callD T 21) (.forr (.name 4) itB LB) [some three, some (.ref 16), some (.lst qfa), none, some sa11] (fd F ++ (List.replicate 12 (.fro qfa) ++ List.replicate 0 (.fro qfb))) = some (.nx [some three, some (.ref 27), some (.lst qfa), none, some sb10], fd F ++ (List.replicate 12 (.fro qfa) ++ List.replicate 11 (.fro qfb))) := by
  rw [for_go (iB _ F)]
  unfold sbL
  rw [loop_go (show goL (callD T 21) LB sb0 [some three, some (.ref 16), some (.lst qfa), none, some sa11] (fd F ++ (List.replicate 12 (.fro qfa) ++ List.replicate 0 (.fro qfb))) = some (.nx [some three, some (.ref 17), some (.lst qfa), none, some sb0], fd F ++ (List.replicate 12 (.fro qfa) ++ List.replicate 1 (.fro qfb))) from tB0 F)]
  rw [loop_go (show goL (callD T 21) LB sb1 [some three, some (.ref 17), some (.lst qfa), none, some sb0] (fd F ++ (List.replicate 12 (.fro qfa) ++ List.replicate 1 (.fro qfb))) = some (.nx [some three, some (.ref 18), some (.lst qfa), none, some sb1], fd F ++ (List.replicate 12 (.fro qfa) ++ List.replicate 2 (.fro qfb))) from tB1 F)]
  rw [loop_go (show goL (callD T 21) LB sb2 [some three, some (.ref 18), some (.lst qfa), none, some sb1] (fd F ++ (List.replicate 12 (.fro qfa) ++ List.replicate 2 (.fro qfb))) = some (.nx [some three, some (.ref 19), some (.lst qfa), none, some sb2], fd F ++ (List.replicate 12 (.fro qfa) ++ List.replicate 3 (.fro qfb))) from tB2 F)]
  rw [loop_go (show goL (callD T 21) LB sb3 [some three, some (.ref 19), some (.lst qfa), none, some sb2] (fd F ++ (List.replicate 12 (.fro qfa) ++ List.replicate 3 (.fro qfb))) = some (.nx [some three, some (.ref 20), some (.lst qfa), none, some sb3], fd F ++ (List.replicate 12 (.fro qfa) ++ List.replicate 4 (.fro qfb))) from tB3 F)]
  rw [loop_go (show goL (callD T 21) LB sb4 [some three, some (.ref 20), some (.lst qfa), none, some sb3] (fd F ++ (List.replicate 12 (.fro qfa) ++ List.replicate 4 (.fro qfb))) = some (.nx [some three, some (.ref 21), some (.lst qfa), none, some sb4], fd F ++ (List.replicate 12 (.fro qfa) ++ List.replicate 5 (.fro qfb))) from tB4 F)]
  rw [loop_go (show goL (callD T 21) LB sb5 [some three, some (.ref 21), some (.lst qfa), none, some sb4] (fd F ++ (List.replicate 12 (.fro qfa) ++ List.replicate 5 (.fro qfb))) = some (.nx [some three, some (.ref 22), some (.lst qfa), none, some sb5], fd F ++ (List.replicate 12 (.fro qfa) ++ List.replicate 6 (.fro qfb))) from tB5 F)]
  rw [loop_go (show goL (callD T 21) LB sb6 [some three, some (.ref 22), some (.lst qfa), none, some sb5] (fd F ++ (List.replicate 12 (.fro qfa) ++ List.replicate 6 (.fro qfb))) = some (.nx [some three, some (.ref 23), some (.lst qfa), none, some sb6], fd F ++ (List.replicate 12 (.fro qfa) ++ List.replicate 7 (.fro qfb))) from tB6 F)]
  rw [loop_go (show goL (callD T 21) LB sb7 [some three, some (.ref 23), some (.lst qfa), none, some sb6] (fd F ++ (List.replicate 12 (.fro qfa) ++ List.replicate 7 (.fro qfb))) = some (.nx [some three, some (.ref 24), some (.lst qfa), none, some sb7], fd F ++ (List.replicate 12 (.fro qfa) ++ List.replicate 8 (.fro qfb))) from tB7 F)]
  rw [loop_go (show goL (callD T 21) LB sb8 [some three, some (.ref 24), some (.lst qfa), none, some sb7] (fd F ++ (List.replicate 12 (.fro qfa) ++ List.replicate 8 (.fro qfb))) = some (.nx [some three, some (.ref 25), some (.lst qfa), none, some sb8], fd F ++ (List.replicate 12 (.fro qfa) ++ List.replicate 9 (.fro qfb))) from tB8 F)]
  rw [loop_go (show goL (callD T 21) LB sb9 [some three, some (.ref 25), some (.lst qfa), none, some sb8] (fd F ++ (List.replicate 12 (.fro qfa) ++ List.replicate 9 (.fro qfb))) = some (.nx [some three, some (.ref 26), some (.lst qfa), none, some sb9], fd F ++ (List.replicate 12 (.fro qfa) ++ List.replicate 10 (.fro qfb))) from tB9 F)]
  rw [loop_go (show goL (callD T 21) LB sb10 [some three, some (.ref 26), some (.lst qfa), none, some sb9] (fd F ++ (List.replicate 12 (.fro qfa) ++ List.replicate 10 (.fro qfb))) = some (.nx [some three, some (.ref 27), some (.lst qfa), none, some sb10], fd F ++ (List.replicate 12 (.fro qfa) ++ List.replicate 11 (.fro qfb))) from tB10 F)]
  rfl
theorem lC (F : Fd) : exe (callD T 21) (.forr (.name 4) itC LC) [some three, some (.ref 27), some (.lst qfa), some wholeD, some sb10] (fd F ++ (List.replicate 12 (.fro qfa) ++ List.replicate 11 (.fro qfb))) = some (.nx [some three, some (.ref 27), some (.lst qfa), some wholeD, some sc6], fd F ++ (List.replicate 12 (.fro qfa) ++ List.replicate 11 (.fro qfb))) := by
  rw [for_go (iC _ F)]
  unfold scL
  rw [loop_go (show goL (callD T 21) LC sc0 [some three, some (.ref 27), some (.lst qfa), some wholeD, some sb10] (fd F ++ (List.replicate 12 (.fro qfa) ++ List.replicate 11 (.fro qfb))) = some (.nx [some three, some (.ref 27), some (.lst qfa), some wholeD, some sc0], fd F ++ (List.replicate 12 (.fro qfa) ++ List.replicate 11 (.fro qfb))) from tC0 F)]
  rw [loop_go (show goL (callD T 21) LC sc1 [some three, some (.ref 27), some (.lst qfa), some wholeD, some sc0] (fd F ++ (List.replicate 12 (.fro qfa) ++ List.replicate 11 (.fro qfb))) = some (.nx [some three, some (.ref 27), some (.lst qfa), some wholeD, some sc1], fd F ++ (List.replicate 12 (.fro qfa) ++ List.replicate 11 (.fro qfb))) from tC1 F)]
  rw [loop_go (show goL (callD T 21) LC sc2 [some three, some (.ref 27), some (.lst qfa), some wholeD, some sc1] (fd F ++ (List.replicate 12 (.fro qfa) ++ List.replicate 11 (.fro qfb))) = some (.nx [some three, some (.ref 27), some (.lst qfa), some wholeD, some sc2], fd F ++ (List.replicate 12 (.fro qfa) ++ List.replicate 11 (.fro qfb))) from tC2 F)]
  rw [loop_go (show goL (callD T 21) LC sc3 [some three, some (.ref 27), some (.lst qfa), some wholeD, some sc2] (fd F ++ (List.replicate 12 (.fro qfa) ++ List.replicate 11 (.fro qfb))) = some (.nx [some three, some (.ref 27), some (.lst qfa), some wholeD, some sc3], fd F ++ (List.replicate 12 (.fro qfa) ++ List.replicate 11 (.fro qfb))) from tC3 F)]
  rw [loop_go (show goL (callD T 21) LC sc4 [some three, some (.ref 27), some (.lst qfa), some wholeD, some sc3] (fd F ++ (List.replicate 12 (.fro qfa) ++ List.replicate 11 (.fro qfb))) = some (.nx [some three, some (.ref 27), some (.lst qfa), some wholeD, some sc4], fd F ++ (List.replicate 12 (.fro qfa) ++ List.replicate 11 (.fro qfb))) from tC4 F)]
  rw [loop_go (show goL (callD T 21) LC sc5 [some three, some (.ref 27), some (.lst qfa), some wholeD, some sc4] (fd F ++ (List.replicate 12 (.fro qfa) ++ List.replicate 11 (.fro qfb))) = some (.nx [some three, some (.ref 27), some (.lst qfa), some wholeD, some sc5], fd F ++ (List.replicate 12 (.fro qfa) ++ List.replicate 11 (.fro qfb))) from tC5 F)]
  rw [loop_go (show goL (callD T 21) LC sc6 [some three, some (.ref 27), some (.lst qfa), some wholeD, some sc5] (fd F ++ (List.replicate 12 (.fro qfa) ++ List.replicate 11 (.fro qfb))) = some (.nx [some three, some (.ref 27), some (.lst qfa), some wholeD, some sc6], fd F ++ (List.replicate 12 (.fro qfa) ++ List.replicate 11 (.fro qfb))) from tC6 F)]
  rfl
theorem f71 (F : Fd) : callD T 22 71 [three] (fd F) = some (.bl true, fd F) := by
  have z : exe (callD T 21) b71 [some three, none, none, none, none] (fd F) = some (.rt (.bl true), fd F ++ (List.replicate 12 (.fro qfa) ++ List.replicate 11 (.fro qfb))) := by
    have key : b71 = .seq (.forr (.name 4) itA LA) (.seq (.forr (.name 4) itB LB) (.seq w71 (.seq (.forr (.name 4) itC LC) (.seq (.ret (.cst (.bl true))) .skip)))) := rfl
    rw [key]
    have e : fd F = fd F ++ (List.replicate 0 (.fro qfa) ++ List.replicate 0 (.fro qfb)) := by simp
    have a := lA F
    rw [← e] at a
    refine seq_of a (seq_of (lB F) (seq_of (r1 := [some three, some (.ref 27), some (.lst qfa), some wholeD, some sb10]) (S1 := fd F ++ (List.replicate 12 (.fro qfa) ++ List.replicate 11 (.fro qfb))) ?_ (seq_of (lC F) ?_)))
    · unfold w71
      generalize callD T 21 = C
      kernel_rfl
    · simp
  rw [call_of (t := t71) rfl rfl z, fix_data rfl]
  simp [fd]
end K12
end

section
set_option Elab.async false
set_option linter.all false
set_option maxRecDepth 1000000
set_option maxHeartbeats 0
set_option autoImplicit false
/-! P12t: falls told (printed by mk12.py). -/
namespace K12
open PySem AOne
theorem f67 (F : Fd) : callD T 23 67 [] (fd F) = some (.bl true, fd F) := by kernel_rfl
end K12
end

section
set_option Elab.async false
set_option linter.all false
set_option maxRecDepth 1000000
set_option maxHeartbeats 0
set_option autoImplicit false
/-! P12u0: the trusts by hand, what is told of them (printed by mk12u.py). -/
namespace K12
open PySem AOne
def calm : D := (.tup [(.tup [(.str "a"), (.tup [(.tup [(.str "a"), (.str "b")]), (.tup [(.str "a"), (.str "c")]), (.tup [(.str "b"), (.str "c")])]), (.tup [(.tup [])])]), (.tup [(.str "b"), (.tup [(.tup [(.str "a"), (.str "b")]), (.tup [(.str "a"), (.str "c")]), (.tup [(.str "b"), (.str "c")])]), (.tup [(.tup [])])]), (.tup [(.str "c"), (.tup [(.tup [(.str "a"), (.str "b")]), (.tup [(.str "a"), (.str "c")]), (.tup [(.str "b"), (.str "c")])]), (.tup [(.tup [])])])])
def four : D := (.tup [(.tup [(.str "a"), (.tup [(.tup [(.str "a"), (.str "b"), (.str "c")]), (.tup [(.str "a"), (.str "b"), (.str "d")]), (.tup [(.str "a"), (.str "c"), (.str "d")]), (.tup [(.str "b"), (.str "c"), (.str "d")])]), (.tup [(.tup [(.str "b")]), (.tup [(.str "c")]), (.tup [(.str "d")])])]), (.tup [(.str "b"), (.tup [(.tup [(.str "a"), (.str "b"), (.str "c")]), (.tup [(.str "a"), (.str "b"), (.str "d")]), (.tup [(.str "a"), (.str "c"), (.str "d")]), (.tup [(.str "b"), (.str "c"), (.str "d")])]), (.tup [(.tup [(.str "a")]), (.tup [(.str "c")]), (.tup [(.str "d")])])]), (.tup [(.str "c"), (.tup [(.tup [(.str "a"), (.str "b"), (.str "c")]), (.tup [(.str "a"), (.str "b"), (.str "d")]), (.tup [(.str "a"), (.str "c"), (.str "d")]), (.tup [(.str "b"), (.str "c"), (.str "d")])]), (.tup [(.tup [(.str "a")]), (.tup [(.str "b")]), (.tup [(.str "d")])])]), (.tup [(.str "d"), (.tup [(.tup [(.str "a"), (.str "b"), (.str "c")]), (.tup [(.str "a"), (.str "b"), (.str "d")]), (.tup [(.str "a"), (.str "c"), (.str "d")]), (.tup [(.str "b"), (.str "c"), (.str "d")])]), (.tup [(.tup [(.str "a")]), (.tup [(.str "b")]), (.tup [(.str "c")])])])])
def lone : D := (.tup [(.tup [(.str "a"), (.tup [(.tup [(.str "b")])]), (.tup [(.tup [(.str "b")])])]), (.tup [(.str "b"), (.tup [(.tup [(.str "b")])]), (.tup [(.tup [])])])])
def parted : D := (.tup [(.tup [(.str "a"), (.tup [(.tup [(.str "a")])]), (.tup [(.tup [])])]), (.tup [(.str "b"), (.tup [(.tup [(.str "a"), (.str "b")]), (.tup [(.str "b")])]), (.tup [(.tup [])])])])
def toldL : List D := [(.tup [(.str "c")]), (.tup [(.str "b")]), .non, (.tup [(.str "b")]), .non, (.tup []), .non, (.int 12), (.tup []), (.tup []), (.tup []), (.tup [(.tup [(.tup [(.str "a"), (.int 0)]), (.tup [(.str "a"), (.int 0)])])]), .non, (.tup [(.tup [(.tup [(.str "a"), (.int 0)]), (.tup [(.str "b"), (.int 1)])])]), (.tup [(.tup [(.str "b"), (.int 1)])]), (.tup [(.str "a"), (.tup [(.tup [(.str "a"), (.str "c")])]), (.tup [(.tup [(.str "b")]), (.tup [(.str "c")])])]), (.tup [(.tup [(.str "a"), (.tup [(.tup [(.str "b")])]), (.tup [(.tup [(.str "b")])])]), (.tup [(.str "b"), (.tup [(.tup [(.str "b")])]), (.tup [(.tup [])])])]), (.tup [(.tup [(.str "a"), (.tup [(.tup [(.str "a")])]), (.tup [(.tup [])])]), (.tup [(.str "b"), (.tup [(.tup [(.str "a"), (.str "b")])]), (.tup [(.tup [])])])])]
def w0 : Sm := (.par [0, 1] (.cons (.call 64 [0] [] (.cons (.cst (.bl true)) .nil) .nil) (.cons (.call 64 [0] [] (.cons (.cst (.bl false)) .nil) .nil) .nil)))
def w1 : Sm := (.par [2, 3] (.cons (.call 65 [] [] .nil .nil) (.cons (.call 66 [] [] .nil .nil) .nil)))
def w2 : Sm := (.asg (.name 4) (.tup (.cons (.tup (.cons (.cst (.str "a")) (.cons (.tup (.cons (.tup (.cons (.cst (.str "a")) .nil)) .nil)) (.cons (.tup (.cons (.tup .nil) .nil)) .nil)))) (.cons (.tup (.cons (.cst (.str "b")) (.cons (.tup (.cons (.tup (.cons (.cst (.str "a")) (.cons (.cst (.str "b")) .nil))) (.cons (.tup (.cons (.cst (.str "b")) .nil)) .nil))) (.cons (.tup (.cons (.tup .nil) .nil)) .nil)))) .nil))))
def w3 : Sm := (.asg (.name 5) (.lst (.cons (.call 56 [0, 1, 2] [] (.cons (.var 0) (.cons (.tup (.cons (.cst (.str "a")) (.cons (.cst (.int 1)) .nil))) (.cons (.tup (.cons (.cst (.str "b")) (.cons (.cst (.int 2)) .nil))) .nil))) .nil) (.cons (.call 56 [0, 1, 2] [] (.cons (.var 0) (.cons (.tup (.cons (.cst (.str "a")) (.cons (.cst (.int 0)) .nil))) (.cons (.tup (.cons (.cst (.str "a")) (.cons (.cst (.int 2)) .nil))) .nil))) .nil) .nil))))
def w4 : Sm := (.asg (.name 5) (.op .add (.var 5) (.lst (.cons (.call 56 [0, 1, 2] [] (.cons (.var 0) (.cons (.tup (.cons (.cst (.str "a")) (.cons (.cst (.int 0)) .nil))) (.cons (.tup (.cons (.cst (.str "b")) (.cons (.cst (.int 0)) .nil))) .nil))) .nil) .nil))))
def w5 : Sm := (.asg (.name 6) (.lst (.cons (.tup (.cons (.cst (.str "c")) .nil)) (.cons (.tup (.cons (.cst (.str "b")) .nil)) (.cons (.cst .non) .nil)))))
def w6 : Sm := (.asg (.name 5) (.op .add (.var 5) (.lst (.cons (.call 56 [2, 1, 0] [] .nil (.cons (.tup (.cons (.cst (.str "a")) (.cons (.cst (.int 0)) .nil))) (.cons (.tup (.cons (.cst (.str "a")) (.cons (.cst (.int 0)) .nil))) (.cons (.var 3) .nil)))) .nil))))
def w7 : Sm := (.asg (.name 5) (.op .add (.var 5) (.lst (.cons (.call 56 [0, 1, 2] [] (.cons (.var 3) (.cons (.tup (.cons (.cst (.str "b")) (.cons (.cst (.int 0)) .nil))) (.cons (.tup (.cons (.cst (.str "b")) (.cons (.cst (.int 0)) .nil))) .nil))) .nil) .nil))))
def w8 : Sm := (.asg (.name 6) (.op .add (.var 6) (.lst (.cons (.tup (.cons (.cst (.str "b")) .nil)) (.cons (.cst .non) .nil)))))
def w9 : Sm := (.asg (.name 5) (.op .add (.var 5) (.lst (.cons (.call 56 [0, 1, 2] [] (.cons (.var 4) (.cons (.tup (.cons (.cst (.str "a")) (.cons (.cst (.int 0)) .nil))) (.cons (.tup (.cons (.cst (.str "b")) (.cons (.cst (.int 1)) .nil))) .nil))) .nil) (.cons (.call 56 [0, 1, 2] [] (.cons (.var 4) (.cons (.tup (.cons (.cst (.str "b")) (.cons (.cst (.int 0)) .nil))) (.cons (.tup (.cons (.cst (.str "a")) (.cons (.cst (.int 0)) .nil))) .nil))) .nil) .nil)))))
def w10 : Sm := (.asg (.name 5) (.op .add (.var 5) (.lst (.cons (.pr .len (.cons (.call 57 [0] [] (.cons (.var 0) .nil) .nil) .nil)) .nil))))
def w11 : Sm := (.asg (.name 6) (.op .add (.var 6) (.lst (.cons (.tup .nil) (.cons (.cst .non) (.cons (.cst (.int 12)) .nil))))))
def w12 : Sm := (.asg (.name 5) (.op .add (.var 5) (.lst (.cons (.call 57 [0] [] (.cons (.var 1) .nil) .nil) (.cons (.call 57 [0] [] (.cons (.var 2) .nil) .nil) (.cons (.call 60 [0] [] (.cons (.var 2) .nil) .nil) .nil))))))
def w13 : Sm := (.asg (.name 5) (.op .add (.var 5) (.lst (.cons (.call 57 [0] [] (.cons (.var 3) .nil) .nil) (.cons (.call 60 [0] [] (.cons (.var 3) .nil) .nil) .nil)))))
def w14 : Sm := (.asg (.name 6) (.op .add (.var 6) (.lst (.cons (.tup .nil) (.cons (.tup .nil) (.cons (.tup .nil) (.cons (.tup (.cons (.tup (.cons (.tup (.cons (.cst (.str "a")) (.cons (.cst (.int 0)) .nil))) (.cons (.tup (.cons (.cst (.str "a")) (.cons (.cst (.int 0)) .nil))) .nil))) .nil)) (.cons (.cst .non) .nil))))))))
def w15 : Sm := (.asg (.name 5) (.op .add (.var 5) (.lst (.cons (.call 57 [0] [] .nil (.cons (.var 4) .nil)) (.cons (.call 60 [0] [] (.cons (.var 4) .nil) .nil) .nil)))))
def w16 : Sm := (.asg (.name 5) (.op .add (.var 5) (.lst (.cons (.ix (.call 59 [0, 1] [] (.cons (.var 0) (.cons (.tup (.cons (.tup (.cons (.cst (.str "a")) (.cons (.cst (.int 0)) .nil))) (.cons (.tup (.cons (.cst (.str "a")) (.cons (.cst (.int 2)) .nil))) .nil))) .nil)) .nil) (.cst (.int 0))) .nil))))
def w17 : Sm := (.asg (.name 6) (.op .add (.var 6) (.lst (.cons (.tup (.cons (.tup (.cons (.tup (.cons (.cst (.str "a")) (.cons (.cst (.int 0)) .nil))) (.cons (.tup (.cons (.cst (.str "b")) (.cons (.cst (.int 1)) .nil))) .nil))) .nil)) (.cons (.tup (.cons (.tup (.cons (.cst (.str "b")) (.cons (.cst (.int 1)) .nil))) .nil)) (.cons (.tup (.cons (.cst (.str "a")) (.cons (.tup (.cons (.tup (.cons (.cst (.str "a")) (.cons (.cst (.str "c")) .nil))) .nil)) (.cons (.tup (.cons (.tup (.cons (.cst (.str "b")) .nil)) (.cons (.tup (.cons (.cst (.str "c")) .nil)) .nil))) .nil)))) .nil))))))
def w18 : Sm := (.asg (.name 5) (.op .add (.var 5) (.lst (.cons (.call 59 [1, 0] [] .nil (.cons (.tup .nil) (.cons (.var 3) .nil))) (.cons (.call 59 [0, 1] [] (.cons (.var 4) (.cons (.tup (.cons (.tup (.cons (.cst (.str "b")) (.cons (.cst (.int 1)) .nil))) .nil)) .nil)) .nil) .nil)))))
def w19 : Sm := (.ret (.call 63 [0, 1] [] (.cons (.var 5) (.cons (.op .add (.var 6) (.lst (.cons (.var 3) (.cons (.tup (.cons (.ix (.var 4) (.cst (.int 0))) (.cons (.tup (.cons (.cst (.str "b")) (.cons (.tup (.cons (.tup (.cons (.cst (.str "a")) (.cons (.cst (.str "b")) .nil))) .nil)) (.cons (.tup (.cons (.tup .nil) .nil)) .nil)))) .nil))) .nil)))) .nil)) .nil))
end K12
end

section
set_option Elab.async false
set_option linter.all false
set_option maxRecDepth 1000000
set_option maxHeartbeats 0
set_option autoImplicit false
/-! P12uw0: a statement (printed by mk12u.py). -/
namespace K12
open PySem AOne
theorem e68_0 (F : Fd) : exe (callD T 22) w0 [none, none, none, none, none, none, none] (fd F) = some (.nx [some three, some calm, none, none, none, none, none], fd F) := by kernel_rfl
end K12
end

section
set_option Elab.async false
set_option linter.all false
set_option maxRecDepth 1000000
set_option maxHeartbeats 0
set_option autoImplicit false
/-! P12uw1: a statement (printed by mk12u.py). -/
namespace K12
open PySem AOne
theorem e68_1 (F : Fd) : exe (callD T 22) w1 [some three, some calm, none, none, none, none, none] (fd F) = some (.nx [some three, some calm, some four, some lone, none, none, none], fd F) := by kernel_rfl
end K12
end

section
set_option Elab.async false
set_option linter.all false
set_option maxRecDepth 1000000
set_option maxHeartbeats 0
set_option autoImplicit false
/-! P12uw2: a statement (printed by mk12u.py). -/
namespace K12
open PySem AOne
theorem e68_2 (F : Fd) : exe (callD T 22) w2 [some three, some calm, some four, some lone, none, none, none] (fd F) = some (.nx [some three, some calm, some four, some lone, some parted, none, none], fd F) := by kernel_rfl
end K12
end

section
set_option Elab.async false
set_option linter.all false
set_option maxRecDepth 1000000
set_option maxHeartbeats 0
set_option autoImplicit false
/-! P12uw3: a statement (printed by mk12u.py). -/
namespace K12
open PySem AOne
theorem e68_3 (F : Fd) : exe (callD T 22) w3 [some three, some calm, some four, some lone, some parted, none, none] (fd F) = some (.nx [some three, some calm, some four, some lone, some parted, some (.lst (toldL.take 2)), none], fd F) := by kernel_rfl
end K12
end

section
set_option Elab.async false
set_option linter.all false
set_option maxRecDepth 1000000
set_option maxHeartbeats 0
set_option autoImplicit false
/-! P12uw4: a statement (printed by mk12u.py). -/
namespace K12
open PySem AOne
theorem e68_4 (F : Fd) : exe (callD T 22) w4 [some three, some calm, some four, some lone, some parted, some (.lst (toldL.take 2)), none] (fd F) = some (.nx [some three, some calm, some four, some lone, some parted, some (.lst (toldL.take 3)), none], fd F) := by kernel_rfl
end K12
end

section
set_option Elab.async false
set_option linter.all false
set_option maxRecDepth 1000000
set_option maxHeartbeats 0
set_option autoImplicit false
/-! P12uw5: a statement (printed by mk12u.py). -/
namespace K12
open PySem AOne
theorem e68_5 (F : Fd) : exe (callD T 22) w5 [some three, some calm, some four, some lone, some parted, some (.lst (toldL.take 3)), none] (fd F) = some (.nx [some three, some calm, some four, some lone, some parted, some (.lst (toldL.take 3)), some (.lst (toldL.take 3))], fd F) := by kernel_rfl
end K12
end

section
set_option Elab.async false
set_option linter.all false
set_option maxRecDepth 1000000
set_option maxHeartbeats 0
set_option autoImplicit false
/-! P12uw6: a statement (printed by mk12u.py). -/
namespace K12
open PySem AOne
theorem e68_6 (F : Fd) : exe (callD T 22) w6 [some three, some calm, some four, some lone, some parted, some (.lst (toldL.take 3)), some (.lst (toldL.take 3))] (fd F) = some (.nx [some three, some calm, some four, some lone, some parted, some (.lst (toldL.take 4)), some (.lst (toldL.take 3))], fd F) := by kernel_rfl
end K12
end

section
set_option Elab.async false
set_option linter.all false
set_option maxRecDepth 1000000
set_option maxHeartbeats 0
set_option autoImplicit false
/-! P12uw7: a statement (printed by mk12u.py). -/
namespace K12
open PySem AOne
theorem e68_7 (F : Fd) : exe (callD T 22) w7 [some three, some calm, some four, some lone, some parted, some (.lst (toldL.take 4)), some (.lst (toldL.take 3))] (fd F) = some (.nx [some three, some calm, some four, some lone, some parted, some (.lst (toldL.take 5)), some (.lst (toldL.take 3))], fd F) := by kernel_rfl
end K12
end

section
set_option Elab.async false
set_option linter.all false
set_option maxRecDepth 1000000
set_option maxHeartbeats 0
set_option autoImplicit false
/-! P12uw8: a statement (printed by mk12u.py). -/
namespace K12
open PySem AOne
theorem e68_8 (F : Fd) : exe (callD T 22) w8 [some three, some calm, some four, some lone, some parted, some (.lst (toldL.take 5)), some (.lst (toldL.take 3))] (fd F) = some (.nx [some three, some calm, some four, some lone, some parted, some (.lst (toldL.take 5)), some (.lst (toldL.take 5))], fd F) := by kernel_rfl
end K12
end

section
set_option Elab.async false
set_option linter.all false
set_option maxRecDepth 1000000
set_option maxHeartbeats 0
set_option autoImplicit false
/-! P12uw9: a statement (printed by mk12u.py). -/
namespace K12
open PySem AOne
theorem e68_9 (F : Fd) : exe (callD T 22) w9 [some three, some calm, some four, some lone, some parted, some (.lst (toldL.take 5)), some (.lst (toldL.take 5))] (fd F) = some (.nx [some three, some calm, some four, some lone, some parted, some (.lst (toldL.take 7)), some (.lst (toldL.take 5))], fd F) := by kernel_rfl
end K12
end

section
set_option Elab.async false
set_option linter.all false
set_option maxRecDepth 1000000
set_option maxHeartbeats 0
set_option autoImplicit false
/-! P12uw10: a statement (printed by mk12u.py). -/
namespace K12
open PySem AOne
theorem e68_10 (F : Fd) : exe (callD T 22) w10 [some three, some calm, some four, some lone, some parted, some (.lst (toldL.take 7)), some (.lst (toldL.take 5))] (fd F) = some (.nx [some three, some calm, some four, some lone, some parted, some (.lst (toldL.take 8)), some (.lst (toldL.take 5))], fd F) := by kernel_rfl
end K12
end

section
set_option Elab.async false
set_option linter.all false
set_option maxRecDepth 1000000
set_option maxHeartbeats 0
set_option autoImplicit false
/-! P12uw11: a statement (printed by mk12u.py). -/
namespace K12
open PySem AOne
theorem e68_11 (F : Fd) : exe (callD T 22) w11 [some three, some calm, some four, some lone, some parted, some (.lst (toldL.take 8)), some (.lst (toldL.take 5))] (fd F) = some (.nx [some three, some calm, some four, some lone, some parted, some (.lst (toldL.take 8)), some (.lst (toldL.take 8))], fd F) := by kernel_rfl
end K12
end

section
set_option Elab.async false
set_option linter.all false
set_option maxRecDepth 1000000
set_option maxHeartbeats 0
set_option autoImplicit false
/-! P12uw13: a statement (printed by mk12u.py). -/
namespace K12
open PySem AOne
theorem e68_13 (F : Fd) : exe (callD T 22) w13 [some three, some calm, some four, some lone, some parted, some (.lst (toldL.take 11)), some (.lst (toldL.take 8))] (fd F) = some (.nx [some three, some calm, some four, some lone, some parted, some (.lst (toldL.take 13)), some (.lst (toldL.take 8))], fd F) := by kernel_rfl
end K12
end

section
set_option Elab.async false
set_option linter.all false
set_option maxRecDepth 1000000
set_option maxHeartbeats 0
set_option autoImplicit false
/-! P12uw14: a statement (printed by mk12u.py). -/
namespace K12
open PySem AOne
theorem e68_14 (F : Fd) : exe (callD T 22) w14 [some three, some calm, some four, some lone, some parted, some (.lst (toldL.take 13)), some (.lst (toldL.take 8))] (fd F) = some (.nx [some three, some calm, some four, some lone, some parted, some (.lst (toldL.take 13)), some (.lst (toldL.take 13))], fd F) := by kernel_rfl
end K12
end

section
set_option Elab.async false
set_option linter.all false
set_option maxRecDepth 1000000
set_option maxHeartbeats 0
set_option autoImplicit false
/-! P12uw15: a statement (printed by mk12u.py). -/
namespace K12
open PySem AOne
theorem e68_15 (F : Fd) : exe (callD T 22) w15 [some three, some calm, some four, some lone, some parted, some (.lst (toldL.take 13)), some (.lst (toldL.take 13))] (fd F) = some (.nx [some three, some calm, some four, some lone, some parted, some (.lst (toldL.take 15)), some (.lst (toldL.take 13))], fd F) := by kernel_rfl
end K12
end

section
set_option Elab.async false
set_option linter.all false
set_option maxRecDepth 1000000
set_option maxHeartbeats 0
set_option autoImplicit false
/-! P12uw16: a statement (printed by mk12u.py). -/
namespace K12
open PySem AOne
theorem e68_16 (F : Fd) : exe (callD T 22) w16 [some three, some calm, some four, some lone, some parted, some (.lst (toldL.take 15)), some (.lst (toldL.take 13))] (fd F) = some (.nx [some three, some calm, some four, some lone, some parted, some (.lst (toldL.take 16)), some (.lst (toldL.take 13))], fd F) := by kernel_rfl
end K12
end

section
set_option Elab.async false
set_option linter.all false
set_option maxRecDepth 1000000
set_option maxHeartbeats 0
set_option autoImplicit false
/-! P12uw17: a statement (printed by mk12u.py). -/
namespace K12
open PySem AOne
theorem e68_17 (F : Fd) : exe (callD T 22) w17 [some three, some calm, some four, some lone, some parted, some (.lst (toldL.take 16)), some (.lst (toldL.take 13))] (fd F) = some (.nx [some three, some calm, some four, some lone, some parted, some (.lst (toldL.take 16)), some (.lst (toldL.take 16))], fd F) := by kernel_rfl
end K12
end

section
set_option Elab.async false
set_option linter.all false
set_option maxRecDepth 1000000
set_option maxHeartbeats 0
set_option autoImplicit false
/-! P12uw18: a statement (printed by mk12u.py). -/
namespace K12
open PySem AOne
theorem e68_18 (F : Fd) : exe (callD T 22) w18 [some three, some calm, some four, some lone, some parted, some (.lst (toldL.take 16)), some (.lst (toldL.take 16))] (fd F) = some (.nx [some three, some calm, some four, some lone, some parted, some (.lst (toldL.take 18)), some (.lst (toldL.take 16))], fd F) := by kernel_rfl
end K12
end

section
set_option Elab.async false
set_option linter.all false
set_option maxRecDepth 1000000
set_option maxHeartbeats 0
set_option autoImplicit false
/-! P12uw19: the last statement (printed by mk12u.py). -/
namespace K12
open PySem AOne
theorem e68_19 (F : Fd) : exe (callD T 22) w19 [some three, some calm, some four, some lone, some parted, some (.lst (toldL.take 18)), some (.lst (toldL.take 16))] (fd F) = some (.rt (.bl true), fd F) := by kernel_rfl
end K12
end

section
set_option Elab.async false
set_option linter.all false
set_option maxRecDepth 1000000
set_option maxHeartbeats 0
set_option autoImplicit false
/-! P12uh0: a heavy call (printed by mk12u.py). -/
namespace K12
open PySem AOne
theorem hv0 (F : Fd) : callD T 22 57 [calm] (fd F) = some ((.tup []), fd F) := by kernel_rfl
end K12
end

section
set_option Elab.async false
set_option linter.all false
set_option maxRecDepth 1000000
set_option maxHeartbeats 0
set_option autoImplicit false
/-! P12uh1: a heavy call (printed by mk12u.py). -/
namespace K12
open PySem AOne
theorem hv1 (F : Fd) : callD T 22 57 [four] (fd F) = some ((.tup []), fd F) := by kernel_rfl
end K12
end

section
set_option Elab.async false
set_option linter.all false
set_option maxRecDepth 1000000
set_option maxHeartbeats 0
set_option autoImplicit false
/-! P12uh2: a heavy call (printed by mk12u.py). -/
namespace K12
open PySem AOne
theorem hv2 (F : Fd) : callD T 22 60 [four] (fd F) = some ((.tup []), fd F) := by kernel_rfl
end K12
end

section
set_option Elab.async false
set_option linter.all false
set_option maxRecDepth 100000
set_option maxHeartbeats 0
set_option autoImplicit false
/-! P12u: odds told (printed by mk12u.py). -/
namespace K12
open PySem AOne
theorem e68_12 {C : Call} {F : Fd} (h0 : C 57 [calm] (fd F) = some (.tup [], fd F)) (h1 : C 57 [four] (fd F) = some (.tup [], fd F)) (h2 : C 60 [four] (fd F) = some (.tup [], fd F)) : exe C w12 [some three, some calm, some four, some lone, some parted, some (.lst (toldL.take 8)), some (.lst (toldL.take 8))] (fd F) = some (.nx [some three, some calm, some four, some lone, some parted, some (.lst (toldL.take 11)), some (.lst (toldL.take 8))], fd F) := by
  have e : semA C (.cons (.call 57 [0] [] (.cons (.var 1) .nil) .nil) (.cons (.call 57 [0] [] (.cons (.var 2) .nil) .nil) (.cons (.call 60 [0] [] (.cons (.var 2) .nil) .nil) .nil))) [some three, some calm, some four, some lone, some parted, some (.lst (toldL.take 8)), some (.lst (toldL.take 8))] (fd F) = some ([.tup [], .tup [], .tup []], fd F) := by
    generalize calm = c1 at *
    generalize four = c2 at *
    simp [gv, pick, h0, h1, h2]
  have v5 : sem C (.var 5) [some three, some calm, some four, some lone, some parted, some (.lst (toldL.take 8)), some (.lst (toldL.take 8))] (fd F) = some (.lst (toldL.take 8), fd F) := by simp only [sem]; rfl
  unfold w12
  rw [ex_asg, ev_op, v5, bd_some, ev_lst, e]
  rfl
theorem f68 (F : Fd) : callD T 23 68 [] (fd F) = some (.bl true, fd F) := by
  refine call_pure (t := t68) rfl rfl ?_ rfl
  show exe (callD T 22) b68 [none, none, none, none, none, none, none] (fd F) = _
  have key : b68 = (.seq w0 (.seq w1 (.seq w2 (.seq w3 (.seq w4 (.seq w5 (.seq w6 (.seq w7 (.seq w8 (.seq w9 (.seq w10 (.seq w11 (.seq w12 (.seq w13 (.seq w14 (.seq w15 (.seq w16 (.seq w17 (.seq w18 (.seq w19 .skip)))))))))))))))))))) := rfl
  rw [key]
  refine seq_of (e68_0 F) ?_
  refine seq_of (e68_1 F) ?_
  refine seq_of (e68_2 F) ?_
  refine seq_of (e68_3 F) ?_
  refine seq_of (e68_4 F) ?_
  refine seq_of (e68_5 F) ?_
  refine seq_of (e68_6 F) ?_
  refine seq_of (e68_7 F) ?_
  refine seq_of (e68_8 F) ?_
  refine seq_of (e68_9 F) ?_
  refine seq_of (e68_10 F) ?_
  refine seq_of (e68_11 F) ?_
  refine seq_of (e68_12 (hv0 F) (hv1 F) (hv2 F)) ?_
  refine seq_of (e68_13 F) ?_
  refine seq_of (e68_14 F) ?_
  refine seq_of (e68_15 F) ?_
  refine seq_of (e68_16 F) ?_
  refine seq_of (e68_17 F) ?_
  refine seq_of (e68_18 F) ?_
  have z := e68_19 F
  rw [AOne.exe, z]
  all_goals rfl
end K12
end

section
set_option Elab.async false
set_option linter.all false
set_option maxRecDepth 100000
set_option maxHeartbeats 2000000
set_option autoImplicit false
/-! P12v: the feed, what is refused, by turns. -/
namespace K12
open PySem AOne
def tabs0 : Sto := [.tab "_law_of_trust", .tab "_law_of_house", .tab "_law_are_sets_refused", .tab "_law_are_refused"]
theorem loop_same {f : D → Ev → Sto → Option (Fl × Sto)} {g : Option D → Ev} {S : Sto} : ∀ (xs : List D) (o : Option D), (∀ x ∈ xs, ∀ o, f x (g o) S = some (.nx (g (some x)), S)) → ∃ z, loopL f xs (g o) S = some (.nx (g z), S)
  | [], o, _ => ⟨o, rfl⟩
  | x :: xs, o, h => by
    obtain ⟨z, hz⟩ := loop_same xs (some x) fun y hy o => h y (List.mem_cons_of_mem _ hy) o
    exact ⟨z, by rw [loopL, h x List.mem_cons_self o]; exact hz⟩
theorem call62 (C : Call) (F : Fd) : sem C (.call 62 [0, 1] [] (.cons (.var 0) (.cons (.pr .len (.cons (.var 1) .nil)) .nil)) .nil) [some (.ref 4), some (.lst oddL), none, none, none, some three] (fd F) = C 62 [.ref 4, .int 18] (fd F) := by kernel_rfl
/-- all odd values, in any turn of the list -/
theorem loop1 {C : Call} {F : Fd} {x : Int} (h0 : 0 ≤ x) (h1 : x < 18) (hs : ∀ o ∈ oddL, exe C L1 (ev72 x (some o)) (fd F) = some (.nx (ev72 x (some o)), fd F)) : ∃ z, exe C (.forr (.name 4) it1 L1) (ev72 x none) (fd F) = some (.nx (ev72 x z), fd F) := by
  have hr : ∃ k : Nat, semI C it1 (ev72 x none) (fd F) = some (oddL.drop k ++ oddL.take k, fd F) := by
    have : x = 0 ∨ x = 1 ∨ x = 2 ∨ x = 3 ∨ x = 4 ∨ x = 5 ∨ x = 6 ∨ x = 7 ∨ x = 8 ∨ x = 9 ∨ x = 10 ∨ x = 11 ∨ x = 12 ∨ x = 13 ∨ x = 14 ∨ x = 15 ∨ x = 16 ∨ x = 17 := by omega
    rcases this with rfl | rfl | rfl | rfl | rfl | rfl | rfl | rfl | rfl | rfl | rfl | rfl | rfl | rfl | rfl | rfl | rfl | rfl
    · exact ⟨0, rot0 C F⟩
    · exact ⟨1, rot1 C F⟩
    · exact ⟨2, rot2 C F⟩
    · exact ⟨3, rot3 C F⟩
    · exact ⟨4, rot4 C F⟩
    · exact ⟨5, rot5 C F⟩
    · exact ⟨6, rot6 C F⟩
    · exact ⟨7, rot7 C F⟩
    · exact ⟨8, rot8 C F⟩
    · exact ⟨9, rot9 C F⟩
    · exact ⟨10, rot10 C F⟩
    · exact ⟨11, rot11 C F⟩
    · exact ⟨12, rot12 C F⟩
    · exact ⟨13, rot13 C F⟩
    · exact ⟨14, rot14 C F⟩
    · exact ⟨15, rot15 C F⟩
    · exact ⟨16, rot16 C F⟩
    · exact ⟨17, rot17 C F⟩
  obtain ⟨k, hk⟩ := hr
  simp only [exe, hk]
  refine loop_same (g := fun o => ev72 x o) _ none fun o ho w => ?_
  have hm : o ∈ oddL := by
    rcases List.mem_append.mp ho with z | z
    · exact List.mem_of_mem_drop z
    · exact List.mem_of_mem_take z
  have e : setG (.name 4) o (ev72 x w) = some (ev72 x (some o)) := rfl
  simp only [e]
  exact hs o hm
/-- odd values are refused -/
theorem f72' {C : Call} {F F' : Fd} {x : Int} (h0 : 0 ≤ x) (h1 : x < 18) (c64 : C 64 [.bl true] (fd F) = some (three, fd F)) (c62 : C 62 [.ref 4, .int 18] (fd F) = some (.int x, fd F'))
    (hs : ∀ o ∈ oddL, exe C L1 (ev72 x (some o)) (fd F') = some (.nx (ev72 x (some o)), fd F'))
    (hr : ∀ o, ∃ a b, exe C fr2 (ev72 x o) (fd F') = some (.nx [some (.ref 4), some (.lst oddL), some (.int x), a, b, some three], fd F')) (c71 : C 71 [three] (fd F') = some (.bl true, fd F')) :
    exe C b72 [some (.ref 4), none, none, none, none, none] (fd F) = some (.rt (.bl true), fd F') := by
  obtain ⟨z, hz⟩ := loop1 h0 h1 hs
  obtain ⟨a, b, hab⟩ := hr z
  have tail : exe C q72 [some (.ref 4), some (.lst oddL), none, none, none, some three] (fd F) = some (.rt (.bl true), fd F') := by
    unfold q72
    refine seq_of (r1 := ev72 x none) (S1 := fd F') ?_ (seq_of hz (seq_of hab ?_))
    · rw [ex_asg, call62, c62]
      rfl
    · have e : sem C (.call 71 [0] [] (.cons (.var 5) .nil) .nil) [some (.ref 4), some (.lst oddL), some (.int x), a, b, some three] (fd F') = C 71 [three] (fd F') := by
        generalize three = tt
        simp [gv, pick]
      simp only [exe, e, c71]
  have e64 : sem C (.call 64 [0] [] (.cons (.cst (.bl true)) .nil) .nil) [some (.ref 4), none, none, none, none, none] (fd F) = some (three, fd F) := by
    simp [pick, c64]
  unfold b72
  refine seq_of (r1 := [some (.ref 4), none, none, none, none, some three]) (S1 := fd F) (by rw [ex_asg, e64]; rfl) ?_
  refine seq_of (r1 := [some (.ref 4), some (.lst (oddL.take 9)), none, none, none, some three]) (S1 := fd F) (by kernel_rfl) ?_
  refine seq_of (r1 := [some (.ref 4), some (.lst (oddL.take 11)), none, none, none, some three]) (S1 := fd F) (by kernel_rfl) ?_
  refine seq_of (r1 := [some (.ref 4), some (.lst (oddL.take 13)), none, none, none, some three]) (S1 := fd F) (by kernel_rfl) ?_
  refine seq_of (r1 := [some (.ref 4), some (.lst (oddL.take 14)), none, none, none, some three]) (S1 := fd F) (by kernel_rfl) ?_
  refine seq_of (r1 := [some (.ref 4), some (.lst (oddL.take 17)), none, none, none, some three]) (S1 := fd F) (by kernel_rfl) ?_
  refine seq_of (r1 := [some (.ref 4), some (.lst oddL), none, none, none, some three]) (S1 := fd F) (by kernel_rfl) ?_
  exact tail
end K12
end

section
set_option Elab.async false
set_option linter.all false
set_option maxRecDepth 100000
set_option maxHeartbeats 2000000
set_option autoImplicit false
/-! P12z: the law. -/
namespace K12
open PySem AOne
theorem cut_map {α : Type} (f : α → D) (l : List α) (lo hi : Option Int) : ∃ m : List α, m.Sublist l ∧ cutD (l.map f) lo hi = m.map f := by
  unfold cutD
  refine ⟨(l.drop (HT.sIx (l.map f).length 0 lo)).take (HT.sIx (l.map f).length (l.map f).length hi - HT.sIx (l.map f).length 0 lo), ?_, ?_⟩
  · exact (List.take_sublist _ _).trans (List.drop_sublist _ _)
  · rw [List.map_take, List.map_drop]
theorem f61 {n : Nat} {ns : List Int} : ∃ F, callD T (n + 1) 61 [.lst (ns.map D.int)] tabs0 = some (.ref 4, fd F) := by
  obtain ⟨cs, _, hc⟩ := cut_map D.int ns none (some 61)
  have h : mapL (lcF (callD T n) [1] (.name 1) (.cst (.bl true)) (.pr .int (.cons (.var 1) .nil)) [some (.lst (ns.map D.int)), none]) (cs.map D.int) tabs0 = some (cs.map D.int, tabs0) := mapL_rep D.int D.int fun i hi => by
    simp [setG, wipeE, gv, isRef]
  refine ⟨⟨cs, 0, 0, 0⟩, ?_⟩
  rw [call_of (t := t61) (d := .ref 4) (S1 := fd ⟨cs, 0, 0, 0⟩) rfl rfl ?_]
  · rfl
  · show exe (callD T n) b61 [some (.lst (ns.map D.int)), none] tabs0 = _
    simp [b61, gv, slcD, hc, h, isRef]
    exact ⟨rfl, rfl⟩
theorem steps (F : Fd) (x : Int) : ∀ o ∈ oddL, exe (callD T 22) L1 (ev72 x (some o)) (fd F) = some (.nx (ev72 x (some o)), fd F) := by
  intro o ho
  unfold oddL at ho
  simp only [List.mem_cons, List.not_mem_nil, or_false] at ho
  rcases ho with rfl | rfl | rfl | rfl | rfl | rfl | rfl | rfl | rfl | rfl | rfl | rfl | rfl | rfl | rfl | rfl | rfl | rfl
  · exact st0 F x
  · exact st1 F x
  · exact st2 F x
  · exact st3 F x
  · exact st4 F x
  · exact st5 F x
  · exact st6 F x
  · exact st7 F x
  · exact st8 F x
  · exact st9 F x
  · exact st10 F x
  · exact st11 F x
  · exact st12 F x
  · exact st13 F x
  · exact st14 F x
  · exact st15 F x
  · exact st16 F x
  · exact st17 F x
theorem f72 {F : Fd} : ∃ F', callD T 23 72 [.ref 4] (fd F) = some (.bl true, fd F') := by
  obtain ⟨x, F', e, x0, x1⟩ := f62 (n := 21) (F := F) (m := 18) (by omega) (by omega)
  refine ⟨F', ?_⟩
  have c64 := th F
  have c62 : callD T 22 62 [.ref 4, .int 18] (fd F) = some (.int x, fd F') := e
  have hs := steps F' x
  have hr : ∀ o, ∃ a b, exe (callD T 22) fr2 (ev72 x o) (fd F') = some (.nx [some (.ref 4), some (.lst oddL), some (.int x), a, b, some three], fd F') := fun o => st_r F' x o
  have c71 := f71 F'
  exact call_feed (t := t72) rfl rfl (f72' x0 x1 c64 c62 hs hr c71) rfl
def goN (C : Call) (b : Sm) (x : D) (r : Ev) (S : Sto) : Option (Fl × Sto) := match setG (.name 3) x r with
  | none => none
  | some r1 => exe C b r1 S
theorem for3 {C : Call} {it : Tm} {b : Sm} {r : Ev} {S : Sto} {xs : List D} (h : semI C it r S = some (xs, S)) : exe C (.forr (.name 3) it b) r S = loopL (goN C b) xs r S := by
  simp only [exe, h]
  rfl
/-- the law's own turns, whatever is called -/
theorem f73' {C : Call} {F F1 F2 : Fd} {s : D} {x : Int} (h0 : 0 ≤ x) (h1 : x < 2) (c61 : C 61 [s] tabs0 = some (.ref 4, fd F)) (c72 : C 72 [.ref 4] (fd F) = some (.bl true, fd F1)) (c62 : C 62 [.ref 4, .int 2] (fd F1) = some (.int x, fd F2))
    (c67 : C 67 [] (fd F2) = some (.bl true, fd F2)) (c68 : C 68 [] (fd F2) = some (.bl true, fd F2)) : exe C b73 [some s, none, none, none, none] tabs0 = some (.rt (.bl true), fd F2) := by
  have hx : x = 0 ∨ x = 1 := by omega
  unfold b73
  refine seq_of (r1 := [some s, some (.ref 4), none, none, none]) (S1 := fd F) (by simp [gv, pick, c61, setG]) ?_
  refine seq_of (r1 := [some s, some (.ref 4), none, none, none]) (S1 := fd F1) (by simp [gv, pick, c72]) ?_
  refine seq_of (r1 := [some s, some (.ref 4), some (.int x), none, none]) (S1 := fd F2) (by simp [gv, pick, c62, setG]) ?_
  have loop : exe C (.forr (.name 3) (.irange (.cons (.cst (.int 2)) .nil)) (.seq (.asg (.name 4) (.op .md (.pr .int (.cons (.op .add (.var 2) (.var 3)) .nil)) (.cst (.int 2)))) (.seq (.ite (.orr (.andd (.cmp .eq (.var 4) (.cst (.int 0))) (.nott (.call 67 [] [] .nil .nil))) (.andd (.cmp .eq (.var 4) (.cst (.int 1))) (.nott (.call 68 [] [] .nil .nil)))) (.seq (.ret (.cst (.bl false))) .skip) .skip) .skip)))
      [some s, some (.ref 4), some (.int x), none, none] (fd F2) = some (.nx [some s, some (.ref 4), some (.int x), some (.int 1), some (.int ((x + 1) % 2))], fd F2) := by
    have t : ∀ (o3 o4 : Option D) (k : Int), k = 0 ∨ k = 1 → exe C (.seq (.asg (.name 4) (.op .md (.pr .int (.cons (.op .add (.var 2) (.var 3)) .nil)) (.cst (.int 2)))) (.seq (.ite (.orr (.andd (.cmp .eq (.var 4) (.cst (.int 0))) (.nott (.call 67 [] [] .nil .nil))) (.andd (.cmp .eq (.var 4) (.cst (.int 1))) (.nott (.call 68 [] [] .nil .nil)))) (.seq (.ret (.cst (.bl false))) .skip) .skip) .skip))
        [some s, some (.ref 4), some (.int x), some (.int k), o4] (fd F2) = some (.nx [some s, some (.ref 4), some (.int x), some (.int k), some (.int ((x + k) % 2))], fd F2) := by
      intro o3 o4 k hk
      refine seq_of (r1 := [some s, some (.ref 4), some (.int x), some (.int k), some (.int ((x + k) % 2))]) (S1 := fd F2) (by simp [gv, setG]) ?_
      have hv : (x + k) % 2 = 0 ∨ (x + k) % 2 = 1 := by omega
      generalize (x + k) % 2 = v at hv
      have q00 : cmpD (fd F2) .eq (.int 0) (.int 0) = some true := by kernel_rfl
      have q01 : cmpD (fd F2) .eq (.int 0) (.int 1) = some false := by kernel_rfl
      have q10 : cmpD (fd F2) .eq (.int 1) (.int 0) = some false := by kernel_rfl
      have q11 : cmpD (fd F2) .eq (.int 1) (.int 1) = some true := by kernel_rfl
      rcases hv with rfl | rfl
      · simp [gv, pick, c67, c68, q00, q01]
      · simp [gv, pick, c67, c68, q10, q11]
    have hI : semI C (.irange (.cons (.cst (.int 2)) .nil)) [some s, some (.ref 4), some (.int x), none, none] (fd F2) = some ([.int 0, .int 1], fd F2) := by kernel_rfl
    rw [for3 hI, loop_go (r1 := [some s, some (.ref 4), some (.int x), some (.int 0), some (.int ((x + 0) % 2))]) (S1 := fd F2) (t none none 0 (.inl rfl)), loop_go (r1 := [some s, some (.ref 4), some (.int x), some (.int 1), some (.int ((x + 1) % 2))]) (S1 := fd F2) (t none (some (.int ((x + 0) % 2))) 1 (.inr rfl))]
    rfl
  refine seq_of loop ?_
  simp
theorem f73 {ns : List Int} : ∃ S, callD T 24 73 [.lst (ns.map D.int)] (lt.map Cell.tab) = some (.bl true, S) := by
  obtain ⟨F, c61⟩ := f61 (n := 22) (ns := ns)
  obtain ⟨F1, c72⟩ := f72 (F := F)
  obtain ⟨x, F2, e, x0, x1⟩ := f62 (n := 22) (F := F1) (m := 2) (by omega) (by omega)
  have c62 : callD T 23 62 [.ref 4, .int 2] (fd F1) = some (.int x, fd F2) := e
  have c61 : callD T 23 61 [.lst (ns.map D.int)] tabs0 = some (.ref 4, fd F) := c61
  have c67 := f67 F2
  have c68 := f68 F2
  refine ⟨tabs0, ?_⟩
  show callD T 24 73 [.lst (ns.map D.int)] tabs0 = _
  rw [call_of (t := t73) (d := .bl true) (S1 := fd F2) rfl rfl (f73' x0 x1 c61 c72 c62 c67 c68), fix_data rfl]
  rfl
end K12
end

set_option Elab.async false
set_option maxRecDepth 100000
theorem PySem.Challenge.cw_actasone_k12_falls_and_odds_told_holds : PySem.Challenge.rw_actasone_k12_falls_and_odds_told.Holds := by
  exact K12.holds_of AOne.srt_ok fun ns _ => K12.f73
