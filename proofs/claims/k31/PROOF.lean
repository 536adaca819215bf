import PyProof.Rows.All
import Wide.All
import OpenK.AllK
import Wide.FinOn
import HandS.ForMost
import HandS.IsInst
import HandS.Wide
import HandS.Evl
import HandS.TupAny
import HandS.RaiseMore
import HandS.Style
import PyProof.StrLawsRepr
import HandS.Lambda
import HandS.TupMul
import HandS.Dict
import HandS.DictComp
import HandS.ListItems
import HandS.WordsDict
import HandS.Small
import HandS.SortInts
import HandS.SortOrd
import HandS.NamedTupSort
import HandS.TupSets
import HandS.WideBits
import HandS.More
import HandS.Zip
import HandS.Iter
import KE.GoesNew
import KE.GoesEnumKw
import HandS.SetFor
import HandS.Strs
import HandS.Conv
import HandS.Set
import HandS.SetBool
import KE.GoesSet
import PyProof.DictValues
import KE.KDictWalk
import HandS.HotCalls
import HandS.ExcIs
import HandS.Head0
import HandS.Head1
import HandS.Head2
import HandS.HeadHook1
import HandS.Defaults
import HandS.EndTab
import KE.KNestM
import PyProof.ExcBaseAll.ValueError
import KE.BitLaws
import KE.KStateDown
import PySem.Challenge.RW_waterheads_k31_cuts_by_hand
set_option Elab.async false
set_option linter.all false
set_option maxRecDepth 100000
set_option exponentiation.threshold 5000
set_option exponentiation.threshold 20000
set_option maxHeartbeats 0
namespace Wh
open PySem PySem.Spec PyProof.Rows L2 Evl
/-- the keyword-only parameter's default is the empty tuple -/
def kwdB (K : PySem.W.Frag) (x nm : Str) : Bool := match K.lookup (He.ga K x) with
  | some ⟨_, _, .func fd, _⟩ => (match fd.kwdefaults with
    | .ref D => (match PySem.W.nsIn K D nm with
      | some (some (.ref T)) => (match K.lookup T with
        | some ⟨.type t, _, .seq its _, _⟩ => decide (t = "tuple") && decide (its = #[])
        | _ => false)
      | _ => false)
    | _ => false)
  | _ => false
mutual
def kdB (K : PySem.W.Frag) : Nat → Value → PyData → Bool
  | _, .none, .none => true
  | _, .bool b, .bool c => b == c
  | _, .int i _, .int j => i == j
  | _, .str x _, .str y => x == y
  | n + 1, .ref a, .tuple ds => match K.lookup a with
    | some ⟨.type t, _, .seq its _, _⟩ => decide (t = "tuple") && decide (its.size ≤ sizeLine) && kdA K n its.toList ds
    | _ => false
  | _, _, _ => false
termination_by structural _ _ d => d
def kdA (K : PySem.W.Frag) : Nat → List Value → List PyData → Bool
  | _, [], [] => true
  | n, u :: us, d :: ds => kdB K n u d && kdA K n us ds
  | _, _, _ => false
termination_by structural _ _ ds => ds
end
def conB (K : PySem.W.Frag) (x : Str) (d : PyData) : Bool := match PySem.W.nsIn K mainGlobals x with
  | some (some u) => kdB K 8 u d
  | _ => false
/-- the entries of a written dict, keys that are texts -/
def entB (K : PySem.W.Frag) : List DictEntry → List (PyData × PyData) → Bool
  | [], [] => true
  | e :: es, (.str x, d) :: kvs => e.key.isStr x && !e.refKey && kdB K 8 e.val d && entB K es kvs
  | _, _ => false
/-- the class D: an own one below ValueError without an __init__ of its own; of which of the classes it is -/
def excB (K : PySem.W.Frag) (D CW : Addr) (nb : List (Str × Bool)) : Bool :=
  decide (PySem.W.keepIn K (.ref D) = true) && PySem.W.excIn K D [.type "ValueError", .type "Exception", .type "BaseException", .type "object"] "ValueError.__new__" && decide (PySem.W.subIn K (.ref D) (.type "BaseException") = some true) && decide (PySem.W.typeIn K (.ref D) = some (.type "type")) &&
  decide (PySem.W.exmOne K (.ref D) (.ref CW) = some true) && decide (PySem.W.findIn K (.ref D) "__getattribute__" = some (some (.builtin "BaseException.__getattribute__"))) && decide (PySem.W.findIn K (.ref D) "__getattr__" = some none) && decide (PySem.W.hasDictIn K D = true) &&
  decide (PySem.W.findIn K (.ref D) "__class__" = some (some (.builtin "object.__class__"))) && decide (PySem.W.specialIn K (.builtin "object.__class__") "__get__" = some (some (.builtin "getset_descriptor.__get__"))) && decide (PySem.W.takesIn K (.builtin "object.__class__") = some true) && decide (PySem.W.mroIn K D (.type "object") = some true) &&
  nb.all fun q => match PySem.W.nsIn K mainGlobals q.1 with
    | some (some (.ref C)) => decide (PySem.W.kitOne K (.ref D) (.ref C) = some q.2)
    | some none => decide (q.1 = "ValueError") && decide (PySem.W.kitOne K (.ref D) (.type "ValueError") = some q.2)
    | _ => false
def frK {α : Type} : PySem.W.Frag → (PySem.W.Frag → α) → α
  | [], k => k []
  | (a, ⟨c, d, dt, sl⟩) :: r, k => frK r fun r' => k ((a, ⟨c, d, dt, sl⟩) :: r')
theorem frK_eq {α : Type} : ∀ (K : PySem.W.Frag) (k : PySem.W.Frag → α), frK K k = k K
  | [], _ => rfl
  | (a, ⟨c, d, dt, sl⟩) :: r, k => by
    unfold frK
    exact frK_eq r _
structure Dd where
  x : Str
  st : Stmt
  dfl : Option (List Value) := none
  cd : Option Addr := none
abbrev FnO : Type := Option (Str × Str × Arguments × FuncBody × Scope × Addr × List (Str × Addr) × Addr × Option (Option (List Value)))
def dflO (K : PySem.W.Frag) (v : Value) : Option (Option (List Value)) := match v with
  | .none => some none
  | .ref T => (match K.lookup T with
    | some ⟨_, _, .seq a _, _⟩ => some (some a.toList)
    | _ => none)
  | _ => none
def fnO (K : PySem.W.Frag) (x : Str) : FnO := match K.lookup (He.ga K x) with
  | some ⟨_, _, .func fd, _⟩ => some (fd.name, fd.qualname, fd.params, fd.body, fd.scope, fd.globals, fd.closure, fd.builtins, dflO K fd.defaults)
  | _ => none
def Dd.val (d : Dd) : FnO := some (d.x, d.x, defArgs d.st, .stmts (defBody d.st), defScope d.st, mainGlobals, [], builtinsNs, some d.dfl)
def cdB (c : Option Addr) (v : Value) : Bool := match c with
  | none => true
  | some a => (match v with
    | .ref b => decide (b = a)
    | _ => false)
def gloB (K : PySem.W.Frag) (x : Str) : Bool := He.eqO (PySem.W.nsIn K mainGlobals x) (some (some (.ref (He.ga K x))))
def ddB (K : PySem.W.Frag) (d : Dd) : Bool := gloB K d.x && (PySem.W.keepIn K (.ref (He.ga K d.x)) && (match K.lookup (He.ga K d.x) with
  | some ⟨_, _, .func fd, _⟩ => PySem.W.codeIn K fd.code d.x && cdB d.cd fd.code
  | _ => false))
def freeB (K : PySem.W.Frag) (x : Str) : Bool := He.eqO (PySem.W.nsIn K mainGlobals x) (some none)
def dcO (K : PySem.W.Frag) (x : Str) : List Int := match K.lookup (He.ga K x) with
  | some ⟨_, _, .dict es _, _⟩ => es.toList.map fun e => e.hash
  | _ => []
def keyS (P : Params) : List (PyData × PyData) → List Int
  | [] => []
  | (.str x, _) :: r => PyData.keyHash P x :: keyS P r
  | _ :: r => keyS P r
def dcB (K : PySem.W.Frag) (x : Str) (kvs : List (PyData × PyData)) : Bool := gloB K x && (match K.lookup (He.ga K x) with
  | some ⟨.type c, none, .dict es _, sl⟩ => decide (c = "dict") && (decide (sl = #[]) && (!(He.ga K x == sysModules) && entB K es.toList kvs))
  | _ => false)
structure Hd where
  as : List Addr
  fn : List Dd
  fs : List (PySem.W.Frag → Bool)
  dc : List (Str × List (PyData × PyData))
  ts : List Addr
abbrev HdA : Type := (Bool × List FnO) × (List (List Int) × List (Option Obj))
def Hd.obK (H : Hd) (g : Addr → Option Obj) (K : PySem.W.Frag) : HdA := ((H.fs.all (fun f => f K) && (H.fn.all (fun d => ddB K d) && H.dc.all (fun d => dcB K d.1 d.2)), H.fn.map fun d => fnO K d.x), (H.dc.map fun d => dcO K d.1, H.ts.map g))
def Hd.ob (H : Hd) (g : Addr → Option Obj) : HdA := frK (He.frG g H.as) fun K => H.obK g K
def Hd.va (H : Hd) (w : World) : HdA := ((true, H.fn.map Dd.val), (H.dc.map fun d => keyS w.params d.2, H.ts.map fun _ => some (PySem.W.tabObj #[])))
def Hd.says (H : Hd) (w : World) (K : PySem.W.Frag) : Prop := (H.fs.all (fun f => f K) && (H.fn.all (fun d => ddB K d) && H.dc.all (fun d => dcB K d.1 d.2))) = true ∧ (H.fn.map fun d => fnO K d.x) = H.fn.map Dd.val ∧ (H.dc.map fun d => dcO K d.1) = H.dc.map fun d => keyS w.params d.2
def Hd.hook (H : Hd) : PySem.W.Hook where
  α := HdA
  obs := fun s => H.ob s.heap.get?
  val := fun w => H.va w
  says := fun w h => ∃ K : PySem.W.Frag, K.In h ∧ H.says w K ∧ ∀ P ∈ H.ts, h.get? P = some (PySem.W.tabObj #[])
  of := fun w s e => by
    unfold Hd.ob at e
    rw [frK_eq] at e
    obtain ⟨e1, e2⟩ := Prod.mk.inj e
    obtain ⟨e3, e4⟩ := Prod.mk.inj e1
    obtain ⟨e5, e6⟩ := Prod.mk.inj e2
    exact ⟨_, He.frG_in, ⟨e3, e4, e5⟩, List.map_inj_left.mp e6⟩
  keeps := fun _ _ _ ⟨K, hK, c, t⟩ k => ⟨K, PySem.W.Frag.In.keeps hK k, c, fun P hP => k _ _ (t P hP)⟩
def topS (i : Nat) : Stmt := PySem.Challenge.pw_waterheads_k31_cuts_by_hand.main.body.getD i (.Pass ⟨0, 0, 0, 0⟩)
def hAs0 : List Addr := [2, 3, 15, 22, 23, 24, 25, 28, 35, 36, 37, 40, 47, 48, 49, 52, 59, 60, 61, 64, 66, 67, 69, 70, 71, 72, 73, 74, 75, 76, 77, 78, 80, 81, 83, 84, 85, 87, 88, 90]
def hAs1 : List Addr := [91, 92, 95, 96, 97, 99, 100, 102, 103, 104, 107, 108, 109, 111, 112, 114, 115, 116, 118, 119, 121, 122, 123, 125, 126, 128, 129, 130, 132, 133, 135, 136, 137, 140, 141, 142, 145, 146, 147, 149]
def hAs2 : List Addr := [150, 152, 153, 154, 157, 158, 159, 161, 162, 164, 165, 166, 169, 170, 171, 174, 175, 176, 178, 179, 181, 182, 183, 185, 186, 188, 189, 190, 193, 194, 195, 198, 199, 200, 203, 204, 205, 207, 208, 210]
def hAs3 : List Addr := [211, 212, 214, 215, 217, 218, 219, 221, 222, 224, 225, 226, 227, 228, 230, 231, 233, 234, 235, 238, 239, 240, 242, 243, 245, 246, 247, 250, 251, 252, 253, 254, 257, 258, 259, 261, 262, 264, 265, 266]
def hAs4 : List Addr := [268, 269, 271, 272, 273, 275, 276, 278, 279, 280, 282, 283, 285, 286, 287, 290, 291, 292, 295, 296, 297, 300, 301, 302, 305, 306, 307, 309, 310, 312, 313]
def hAs : List Addr := hAs0 ++ hAs1 ++ hAs2 ++ hAs3 ++ hAs4
def hNames0 : List Str := [Str.ofString "WaterError", Str.ofString "NoNet", Str.ofString "NoShut", Str.ofString "NoPlace", Str.ofString "is_whole", Str.ofString "PLACE", Str.ofString "SOURCE", Str.ofString "TANK", Str.ofString "BOTH", Str.ofString "ON", Str.ofString "MOST_JOINTS", Str.ofString "MOST_PIPES", Str.ofString "MOST_ON", Str.ofString "BOUNDS", Str.ofString "is_number", Str.ofString "is_place_joint", Str.ofString "is_joint", Str.ofString "is_pipe", Str.ofString "is_net", Str.ofString "need_net", Str.ofString "is_place", Str.ofString "is_pump", Str.ofString "can_shut", Str.ofString "are_rising", Str.ofString "are_shut", Str.ofString "end_from", Str.ofString "begins", Str.ofString "fed_by", Str.ofString "gates_in", Str.ofString "lots_of", Str.ofString "fewest_gates", Str.ofString "ways_from", Str.ofString "ways_to", Str.ofString "gates_on", Str.ofString "apart_ways", Str.ofString "need_place", Str.ofString "need_cut", Str.ofString "cut_by", Str.ofString "cut_of", Str.ofString "are_gates"]
def hNames1 : List Str := [Str.ofString "led_along", Str.ofString "is_way", Str.ofString "is_cut", Str.ofString "_law_cell_at", Str.ofString "_law_next", Str.ofString "_law_pen_of", Str.ofString "_law_draw", Str.ofString "_law_line", Str.ofString "_law_line_right", Str.ofString "_law_ring_right", Str.ofString "_law_side_right"]
def hNames : List Str := hNames0 ++ hNames1
def hFn : List Dd := [⟨"is_whole", topS 6, none, none⟩,
  ⟨"is_number", topS 17, none, none⟩,
  ⟨"is_place_joint", topS 18, none, none⟩,
  ⟨"is_joint", topS 19, none, none⟩,
  ⟨"is_pipe", topS 20, none, none⟩,
  ⟨"is_net", topS 21, none, none⟩,
  ⟨"need_net", topS 22, none, none⟩,
  ⟨"is_place", topS 23, none, none⟩,
  ⟨"is_pump", topS 24, none, none⟩,
  ⟨"can_shut", topS 25, none, none⟩,
  ⟨"are_rising", topS 26, none, none⟩,
  ⟨"are_shut", topS 27, none, none⟩,
  ⟨"end_from", topS 29, none, none⟩,
  ⟨"begins", topS 30, none, none⟩,
  ⟨"fed_by", topS 31, none, none⟩,
  ⟨"gates_in", topS 32, none, none⟩,
  ⟨"lots_of", topS 33, none, none⟩,
  ⟨"fewest_gates", topS 34, none, none⟩,
  ⟨"ways_from", topS 35, none, none⟩,
  ⟨"ways_to", topS 36, none, none⟩,
  ⟨"gates_on", topS 37, none, none⟩,
  ⟨"apart_ways", topS 38, none, none⟩,
  ⟨"need_place", topS 39, none, none⟩,
  ⟨"need_cut", topS 40, none, none⟩,
  ⟨"cut_by", topS 41, none, none⟩,
  ⟨"cut_of", topS 42, none, none⟩,
  ⟨"are_gates", topS 43, none, none⟩,
  ⟨"led_along", topS 44, none, none⟩,
  ⟨"is_way", topS 45, none, none⟩,
  ⟨"is_cut", topS 46, none, none⟩,
  ⟨"_law_cell_at", topS 48, none, none⟩,
  ⟨"_law_next", topS 49, none, none⟩,
  ⟨"_law_pen_of", topS 50, none, none⟩,
  ⟨"_law_draw", topS 51, none, none⟩,
  ⟨"_law_line", topS 52, none, none⟩,
  ⟨"_law_line_right", topS 53, none, none⟩,
  ⟨"_law_ring_right", topS 54, none, none⟩,
  ⟨"_law_side_right", topS 55, none, none⟩,
  ⟨"law", topS 56, none, none⟩]
def hFs : List (PySem.W.Frag → Bool) := [fun K => gloB K "NoNet",
  fun K => excB K (He.ga K "NoNet") (He.ga K "NoNet") [],
  fun K => gloB K "NoPlace",
  fun K => excB K (He.ga K "NoPlace") (He.ga K "NoPlace") [],
  fun K => gloB K "NoShut",
  fun K => excB K (He.ga K "NoShut") (He.ga K "NoShut") [],
  fun K => kwdB K "cut_of" "shut",
  fun K => kwdB K "is_cut" "shut",
  fun K => conB K "PLACE" (.str "place"),
  fun K => conB K "BOTH" (.str "both"),
  fun K => conB K "ON" (.str "on"),
  fun K => conB K "MOST_JOINTS" (.int (7)),
  fun K => conB K "MOST_PIPES" (.int (9)),
  fun K => conB K "MOST_ON" (.int (4)),
  fun K => freeB K "abs",
  fun K => freeB K "all",
  fun K => freeB K "any",
  fun K => freeB K "bool",
  fun K => freeB K "dict",
  fun K => freeB K "divmod",
  fun K => freeB K "enumerate",
  fun K => freeB K "int",
  fun K => freeB K "isinstance",
  fun K => freeB K "len",
  fun K => freeB K "list",
  fun K => freeB K "max",
  fun K => freeB K "min",
  fun K => freeB K "range",
  fun K => freeB K "repr",
  fun K => freeB K "set",
  fun K => freeB K "sorted",
  fun K => freeB K "str",
  fun K => freeB K "sum",
  fun K => freeB K "tuple",
  fun K => freeB K "zip"]
def hDc : List (Str × List (PyData × PyData)) := [("BOUNDS", [(.str "source", .tuple [.tuple [.int (0), .int (200)]]), (.str "tank", .tuple [.tuple [.int (0), .int (150)], .tuple [.int (1), .int (50)], .tuple [.int (1), .int (50)]])])]
def hd : Hd := ⟨hAs, hFn, hFs, hDc, []⟩
abbrev hk : PySem.W.Hook := hd.hook
def hOb (s : PySem.W.SharedT) : HdA := hd.ob (HandSHeadRun.getT s)
theorem hRun0 (w : World) : HandSHeadRun.RunEq (PySem.W.OpenLaw.row PySem.Challenge.rw_waterheads_k31_cuts_by_hand) (PySem.W.view (PySem.W.OpenLaw.row PySem.Challenge.rw_waterheads_k31_cuts_by_hand).prog [56]) hk hOb 2368 hNames (w.withFollow "special-get-raises" false) := by
  intro os
  kernel_rfl
theorem hRun1 (w : World) : HandSHeadRun.RunEq (PySem.W.OpenLaw.row PySem.Challenge.rw_waterheads_k31_cuts_by_hand) (PySem.W.view (PySem.W.OpenLaw.row PySem.Challenge.rw_waterheads_k31_cuts_by_hand).prog [56]) hk hOb 2368 hNames (w.withFollow "special-get-raises" true) := by
  intro os
  kernel_rfl
theorem hRun (w : World) : HandSHeadRun.RunEq (PySem.W.OpenLaw.row PySem.Challenge.rw_waterheads_k31_cuts_by_hand) (PySem.W.view (PySem.W.OpenLaw.row PySem.Challenge.rw_waterheads_k31_cuts_by_hand).prog [56]) hk hOb 2368 hNames w := PySem.W.byRow2 "special-get-raises" (P := fun w => HandSHeadRun.RunEq (PySem.W.OpenLaw.row PySem.Challenge.rw_waterheads_k31_cuts_by_hand) (PySem.W.view (PySem.W.OpenLaw.row PySem.Challenge.rw_waterheads_k31_cuts_by_hand).prog [56]) hk hOb 2368 hNames w) hRun0 hRun1 w
end Wh
set_option Elab.async false
set_option linter.all false
set_option maxRecDepth 100000
set_option maxHeartbeats 1000000
/-! Wh1: data, the relation to values over an abstract heap, the small language, its evaluation. -/
namespace Wh
open PySem L2 Evl

/-! ### data -/
def kD : Key → PyData
  | .inl i => .int i
  | .inr x => .str x
mutual
inductive Rp (K : PySem.W.Frag) (F : Hp) : V → PyData → Prop
  | non : Rp K F .non .none
  | bl (b : Bool) : Rp K F (.bl b) (.bool b)
  | int (i : Int) : Rp K F (.int i) (.int i)
  | str (x : Str) : Rp K F (.str x) (.str x)
  | lst {a : Addr} {xs : List V} {ds : List PyData} : SqL K F a xs → RpA K F xs ds → Rp K F (.ref a) (.list ds)
  | tup {a : Addr} {xs : List V} {ds : List PyData} : SqT K F a xs → RpA K F xs ds → Rp K F (.ref a) (.tuple ds)
  | dct {a : Addr} {kvs : List (Key × V)} {kds : List (PyData × PyData)} : F a = some (.dK kvs) → RpK K F kvs kds → Rp K F (.ref a) (.dict kds)
inductive RpA (K : PySem.W.Frag) (F : Hp) : List V → List PyData → Prop
  | nil : RpA K F [] []
  | cons {v : V} {vs : List V} {d : PyData} {ds : List PyData} : Rp K F v d → RpA K F vs ds → RpA K F (v :: vs) (d :: ds)
inductive RpK (K : PySem.W.Frag) (F : Hp) : List (Key × V) → List (PyData × PyData) → Prop
  | nil : RpK K F [] []
  | cons {k : Key} {v : V} {d : PyData} {kvs : List (Key × V)} {kds : List (PyData × PyData)} : Rp K F v d → RpK K F kvs kds → RpK K F ((k, v) :: kvs) ((kD k, d) :: kds)
end
section
variable {K : PySem.W.Frag} {F F' : Hp}
mutual
theorem Rp.mono (e : Ex F F') : ∀ {v : V} {d : PyData}, Rp K F v d → Rp K F' v d
  | _, _, .non => .non
  | _, _, .bl b => .bl b
  | _, _, .int i => .int i
  | _, _, .str x => .str x
  | _, _, .lst h a => .lst (ex_l e h) (RpA.mono e a)
  | _, _, .tup h a => .tup (ex_t e h) (RpA.mono e a)
  | _, _, .dct h a => .dct (e _ _ h) (RpK.mono e a)
theorem RpA.mono (e : Ex F F') : ∀ {vs : List V} {ds : List PyData}, RpA K F vs ds → RpA K F' vs ds
  | _, _, .nil => .nil
  | _, _, .cons h t => .cons (Rp.mono e h) (RpA.mono e t)
theorem RpK.mono (e : Ex F F') : ∀ {vs : List (Key × V)} {ds : List (PyData × PyData)}, RpK K F vs ds → RpK K F' vs ds
  | _, _, .nil => .nil
  | _, _, .cons h t => .cons (Rp.mono e h) (RpK.mono e t)
end
theorem RpA.len : ∀ {vs : List V} {ds : List PyData}, RpA K F vs ds → vs.length = ds.length
  | _, _, .nil => rfl
  | _, _, .cons _ t => by simp [RpA.len t]
theorem RpA.get : ∀ {vs : List V} {ds : List PyData} {i : Nat} {d : PyData}, RpA K F vs ds → ds[i]? = some d → ∃ v, vs[i]? = some v ∧ Rp K F v d
  | _, _, _, _, .nil, e => by simp at e
  | _, _, 0, _, .cons h _, e => by simp at e; subst e; exact ⟨_, rfl, h⟩
  | _, _, i + 1, d, .cons _ t, e => by
    obtain ⟨v, h1, h2⟩ := RpA.get (i := i) (d := d) t (by simpa using e)
    exact ⟨v, by simpa using h1, h2⟩
theorem RpA.getV : ∀ {vs : List V} {ds : List PyData} {i : Nat} {v : V}, RpA K F vs ds → vs[i]? = some v → ∃ d, ds[i]? = some d ∧ Rp K F v d
  | _, _, _, _, .nil, e => by simp at e
  | _, _, 0, _, .cons h _, e => by simp at e; subst e; exact ⟨_, rfl, h⟩
  | _, _, i + 1, v, .cons _ t, e => by
    obtain ⟨d, h1, h2⟩ := RpA.getV (i := i) (v := v) t (by simpa using e)
    exact ⟨d, by simpa using h1, h2⟩
theorem RpA.append : ∀ {vs ws : List V} {ds es : List PyData}, RpA K F vs ds → RpA K F ws es → RpA K F (vs ++ ws) (ds ++ es)
  | _, _, _, _, .nil, s => s
  | _, _, _, _, .cons h t, s => .cons h (RpA.append t s)
theorem RpA.take : ∀ {vs : List V} {ds : List PyData} (n : Nat), RpA K F vs ds → RpA K F (vs.take n) (ds.take n)
  | _, _, 0, _ => .nil
  | _, _, _ + 1, .nil => .nil
  | _, _, n + 1, .cons h t => .cons h (RpA.take n t)
theorem RpA.drop : ∀ {vs : List V} {ds : List PyData} (n : Nat), RpA K F vs ds → RpA K F (vs.drop n) (ds.drop n)
  | _, _, 0, r => r
  | _, _, _ + 1, .nil => .nil
  | _, _, n + 1, .cons _ t => RpA.drop n t
theorem RpA.set {x : V} {u : PyData} (r : Rp K F x u) : ∀ {xs : List V} {us : List PyData} (i : Nat), RpA K F xs us → RpA K F (xs.set i x) (us.set i u)
  | _, _, _, .nil => .nil
  | _, _, 0, .cons _ t => .cons r t
  | _, _, i + 1, .cons q t => .cons q (RpA.set r i t)
theorem RpA.one {v : V} {d : PyData} (h : Rp K F v d) : RpA K F [v] [d] := .cons h .nil
theorem RpA.inv1 {vs : List V} {d : PyData} (h : RpA K F vs [d]) : ∃ v, vs = [v] ∧ Rp K F v d := by
  cases h with
  | cons a b => cases b; exact ⟨_, rfl, a⟩
theorem RpA.ints : ∀ {vs : List V} {ns : List Int}, RpA K F vs (ns.map .int) → vs = ns.map V.int
  | _, [], h => by cases h; rfl
  | _, n :: ns, h => by
    cases h with
    | cons a b => cases a; rw [RpA.ints b]; rfl
theorem RpA.bools : ∀ {vs : List V} {bs : List Bool}, RpA K F vs (bs.map .bool) → vs = bs.map V.bl
  | _, [], h => by cases h; rfl
  | _, n :: ns, h => by
    cases h with
    | cons a b => cases a; rw [RpA.bools b]; rfl
theorem RpA.ofInts : ∀ (ns : List Int), RpA K F (ns.map V.int) (ns.map .int)
  | [] => .nil
  | n :: ns => .cons (.int n) (RpA.ofInts ns)
end

/-! ### the environment -/
/-- what a slot holds: data that does not change any more, a list of one's own, the exception that is held, a dict of one's own -/
inductive Sv where
  | d (x : PyData)
  | own (b : Bool) (xs : List PyData)
  | x
  | od (kds : List (PyData × PyData))
/-- one's own -/
def isOw : Sv → Bool
  | .own _ _ => true
  | .od _ => true
  | _ => false
abbrev En := List (Option Sv)

/-- the tables of code objects that lambdas are looked up in; where the exception lies that is held -/
class Tbl where
  T : List (Addr × Str)
  xa : Addr
/-- no table of code objects -/
def noT (o : HO) : Prop := ∀ ps, o ≠ .tbl ps
theorem tabs_keep {T : List (Addr × Str)} {H H' : Hp} (t : LamX.Tabs T H) (h : ∀ a o, H a = some o → (∀ vs, o ≠ .lst vs) → (∀ vs, o ≠ .dK vs) → H' a = some o) : LamX.Tabs T H' := fun p hp => by
  obtain ⟨ps, h1, h2, h3⟩ := t p hp
  refine ⟨ps, h _ _ h1 (fun vs z => by cases z) (fun vs z => by cases z), h2, fun pos cv hc => ?_⟩
  obtain ⟨c, e1, e2⟩ := h3 pos cv hc
  exact ⟨c, e1, h _ _ e2 (fun vs z => by unfold LamX.CodeO at z; cases z) (fun vs z => by unfold LamX.CodeO at z; cases z)⟩
/-- what is known as data lies in the heap; the tables stand -/
structure Wl [Tbl] (F H : Hp) : Prop where
  ex : Ex F H
  tab : LamX.Tabs Tbl.T H
  nt : ∀ a o, F a = some o → noT o
section
variable [Tbl] {F H : Hp} {p : Addr} {o : HO}
theorem Wl.lay (w : Wl F H) (h : H p = none) (ho : noT o) : Wl (upd F p o) (upd H p o) := by
  refine ⟨fun a u ha => ?_, tabs_keep w.tab fun a u ha _ _ => ?_, fun a u ha => ?_⟩
  · by_cases hp : a = p
    · subst hp; rw [upd_same] at ha ⊢; exact ha
    · rw [upd_ne hp] at ha ⊢; exact w.ex a u ha
  · rw [upd_ne (ne_of_none ha h)]; exact ha
  · by_cases hp : a = p
    · subst hp; rw [upd_same] at ha; cases ha; exact ho
    · rw [upd_ne hp] at ha; exact w.nt a u ha
theorem Wl.layOff (w : Wl F H) (h : H p = none) : Wl F (upd H p o) := by
  refine ⟨fun a u ha => ?_, tabs_keep w.tab fun a u ha _ _ => ?_, w.nt⟩
  · have := w.ex a u ha
    rw [upd_ne (ne_of_none this h)]; exact this
  · rw [upd_ne (ne_of_none ha h)]; exact ha
theorem Wl.frz (w : Wl F H) (h : H p = some o) (ho : noT o) : Wl (upd F p o) H := by
  refine ⟨fun a u ha => ?_, w.tab, fun a u ha => ?_⟩
  · by_cases hp : a = p
    · subst hp; rw [upd_same] at ha; rw [h]; exact ha
    · rw [upd_ne hp] at ha; exact w.ex a u ha
  · by_cases hp : a = p
    · subst hp; rw [upd_same] at ha; cases ha; exact ho
    · rw [upd_ne hp] at ha; exact w.nt a u ha
theorem Wl.put (w : Wl F H) {vs ws : List V} (hf : F p = none) (h : H p = some (.lst vs)) : Wl F (upd H p (.lst ws)) := by
  refine ⟨fun a u ha => ?_, tabs_keep w.tab fun a u ha hn _ => ?_, w.nt⟩
  · rw [upd_ne (ne_of_none ha hf)]; exact w.ex a u ha
  · have : a ≠ p := fun z => by
      rw [z, h] at ha
      cases ha
      exact hn _ rfl
    rw [upd_ne this]; exact ha
theorem Wl.putK (w : Wl F H) {vs ws : List (Key × V)} (hf : F p = none) (h : H p = some (.dK vs)) : Wl F (upd H p (.dK ws)) := by
  refine ⟨fun a u ha => ?_, tabs_keep w.tab fun a u ha _ hn => ?_, w.nt⟩
  · rw [upd_ne (ne_of_none ha hf)]; exact w.ex a u ha
  · have : a ≠ p := fun z => by
      rw [z, h] at ha
      cases ha
      exact hn _ rfl
    rw [upd_ne this]; exact ha
end
structure Rep [Tbl] (K : PySem.W.Frag) (ρ : En) (σ : L2.St) (F H : Hp) : Prop where
  len : ρ.length = σ.length
  wl : Wl F H
  dat : ∀ (i : Nat) (x : PyData), ρ[i]? = some (some (Sv.d x)) → ∃ v, σ[i]? = some (some v) ∧ Rp K F v x
  own : ∀ (i : Nat) (b : Bool) (xs : List PyData), ρ[i]? = some (some (Sv.own b xs)) → ∃ (p : Addr) (vs : List V), σ[i]? = some (some (V.ref p)) ∧ F p = none ∧ H p = some (HO.lst vs) ∧ RpA K F vs xs
  dis : ∀ (i j : Nat) (s t : Sv) (p : Addr), ρ[i]? = some (some s) → isOw s = true → ρ[j]? = some (some t) → isOw t = true → σ[i]? = some (some (V.ref p)) → σ[j]? = some (some (V.ref p)) → i = j
  xc : ∀ i : Nat, ρ[i]? = some (some Sv.x) → σ[i]? = some (some (V.ref Tbl.xa))
  odc : ∀ (i : Nat) (ks : List (PyData × PyData)), ρ[i]? = some (some (Sv.od ks)) → ∃ (p : Addr) (vs : List (Key × V)), σ[i]? = some (some (V.ref p)) ∧ F p = none ∧ H p = some (HO.dK vs) ∧ RpK K F vs ks
theorem Rep.ex [Tbl] {K : PySem.W.Frag} {ρ : En} {σ : L2.St} {F H : Hp} (r : Rep K ρ σ F H) : Ex F H := r.wl.ex

def Own (ρ : En) (σ : L2.St) (p : Addr) : Prop := ∃ (i : Nat) (s : Sv), ρ[i]? = some (some s) ∧ isOw s = true ∧ σ[i]? = some (some (V.ref p))

structure Stp (ρ : En) (σ : L2.St) (F H : Hp) (ρ' : En) (σ' : L2.St) (F' H' : Hp) : Prop where
  ext : Ex F F'
  new : ∀ a o, F' a = some o → F a = some o ∨ H a = none ∨ Own ρ σ a
  fr : ∀ a o, H a = some o → ¬ Own ρ σ a → noT o → H' a = some o
  own : ∀ a, Own ρ' σ' a → Own ρ σ a ∨ H a = none
  alive : ∀ a, H' a = none → H a = none
  pen : ∀ (i : Nat) (xs' : List PyData), ρ'[i]? = some (some (Sv.own true xs')) → σ'[i]? = σ[i]? ∧ ∃ xs, ρ[i]? = some (some (Sv.own true xs))
/-- an expression's step: no slot becomes one's own -/
structure StpE (ρ : En) (σ : L2.St) (F H : Hp) (ρ' : En) (F' H' : Hp) : Prop extends Stp ρ σ F H ρ' σ F' H' where
  str : ∀ a, Own ρ' σ a → Own ρ σ a

section
variable {ρ ρ1 ρ2 : En} {σ σ1 σ2 : L2.St} {F F1 F2 H H1 H2 : Hp}
theorem upd_none' {H : Hp} {a b : Addr} {o : HO} (e : upd H a o b = none) : H b = none := by
  unfold upd at e
  split at e
  · cases e
  · exact e
theorem Stp.refl : Stp ρ σ F H ρ σ F H := ⟨Ex.refl F, fun _ _ h => .inl h, fun _ _ h _ _ => h, fun _ h => .inl h, fun _ h => h, fun i xs h => ⟨rfl, xs, h⟩⟩
theorem Stp.trans (a : Stp ρ σ F H ρ1 σ1 F1 H1) (b : Stp ρ1 σ1 F1 H1 ρ2 σ2 F2 H2) : Stp ρ σ F H ρ2 σ2 F2 H2 := by
  have back : ∀ x, H1 x = none → H x = none ∨ Own ρ σ x := fun x h => .inl (a.alive x h)
  refine ⟨a.ext.trans b.ext, fun x o h => ?_, fun x o h no nt => ?_, fun x h => ?_, fun x h => a.alive x (b.alive x h), fun i xs h => ?_⟩
  · rcases b.new x o h with q | q | q
    · exact a.new x o q
    · exact .inr (back x q)
    · rcases a.own x q with z | z
      · exact .inr (.inr z)
      · exact .inr (.inl z)
  · refine b.fr x o (a.fr x o h no nt) (fun q => ?_) nt
    rcases a.own x q with z | z
    · exact no z
    · rw [h] at z; cases z
  · rcases b.own x h with q | q
    · exact a.own x q
    · exact (back x q).symm
  · obtain ⟨h1, ys, h2⟩ := b.pen i xs h
    obtain ⟨h3, zs, h4⟩ := a.pen i ys h2
    exact ⟨h1.trans h3, zs, h4⟩
theorem StpE.refl : StpE ρ σ F H ρ F H := ⟨Stp.refl, fun _ h => h⟩
theorem StpE.trans (a : StpE ρ σ F H ρ1 F1 H1) (b : StpE ρ1 σ F1 H1 ρ2 F2 H2) : StpE ρ σ F H ρ2 F2 H2 := ⟨a.toStp.trans b.toStp, fun x h => a.str x (b.str x h)⟩

/-- what is not one's own and was there is there; what is new is not in F -/
theorem Rep.own_some [Tbl] {K : PySem.W.Frag} (r : Rep K ρ σ F H) {p : Addr} (h : Own ρ σ p) : F p = none ∧ ∃ o, H p = some o := by
  obtain ⟨i, s, h1, hs, h2⟩ := h
  cases s with
  | own b xs =>
    obtain ⟨q, vs, e, hf, hh, _⟩ := r.own i b xs h1
    rw [h2] at e; cases e
    exact ⟨hf, _, hh⟩
  | od ks =>
    obtain ⟨q, vs, e, hf, hh, _⟩ := r.odc i ks h1
    rw [h2] at e; cases e
    exact ⟨hf, _, hh⟩
  | d _ => cases hs
  | x => cases hs
theorem Rep.none_own [Tbl] {K : PySem.W.Frag} (r : Rep K ρ σ F H) {p : Addr} (h : H p = none) : ¬ Own ρ σ p := fun o => by
  obtain ⟨_, vs, e⟩ := r.own_some o
  rw [h] at e; cases e
/-- an object laid anew: known as data -/
theorem Rep.lay [Tbl] {K : PySem.W.Frag} (r : Rep K ρ σ F H) {p : Addr} {o : HO} (h : H p = none) (ho : noT o := by intro ps z; cases z) : Rep K ρ σ (upd F p o) (upd H p o) := by
  have hF : F p = none := fresh_back r.ex h
  have e : Ex F (upd F p o) := Ex.new hF
  refine ⟨r.len, r.wl.lay h ho, fun i x hx => ?_, fun i b xs hx => ?_, r.dis, r.xc, fun i xs hx => ?_⟩
  · obtain ⟨v, h1, h2⟩ := r.dat i x hx
    exact ⟨v, h1, h2.mono e⟩
  · obtain ⟨q, vs, h1, h2, h3, h4⟩ := r.own i b xs hx
    have hq : q ≠ p := fun z => by rw [z, h] at h3; cases h3
    exact ⟨q, vs, h1, by rw [upd_ne hq]; exact h2, by rw [upd_ne hq]; exact h3, h4.mono e⟩
  · obtain ⟨q, vs, h1, h2, h3, h4⟩ := r.odc i xs hx
    have hq : q ≠ p := fun z => by rw [z, h] at h3; cases h3
    exact ⟨q, vs, h1, by rw [upd_ne hq]; exact h2, by rw [upd_ne hq]; exact h3, h4.mono e⟩
theorem StpE.lay [Tbl] {K : PySem.W.Frag} (r : Rep K ρ σ F H) {p : Addr} {o : HO} (h : H p = none) : StpE ρ σ F H ρ (upd F p o) (upd H p o) := by
  have hF : F p = none := fresh_back r.ex h
  refine ⟨⟨Ex.new hF, fun a u ha => ?_, fun a u ha _ _ => ?_, fun a h => .inl h, fun a h => upd_none' h, fun i xs h => ⟨rfl, xs, h⟩⟩, fun _ h => h⟩
  · by_cases hp : a = p
    · subst hp; exact .inr (.inl h)
    · rw [upd_ne hp] at ha; exact .inl ha
  · rw [upd_ne (ne_of_none ha h)]; exact ha
/-- .. laid anew, not known as data (a list that may still change) -/
theorem Rep.layOff [Tbl] {K : PySem.W.Frag} (r : Rep K ρ σ F H) {p : Addr} {o : HO} (h : H p = none) : Rep K ρ σ F (upd H p o) := by
  refine ⟨r.len, r.wl.layOff h, r.dat, fun i b xs hx => ?_, r.dis, r.xc, fun i xs hx => ?_⟩
  · obtain ⟨q, vs, h1, h2, h3, h4⟩ := r.own i b xs hx
    exact ⟨q, vs, h1, h2, by rw [upd_ne (ne_of_none h3 h)]; exact h3, h4⟩
  · obtain ⟨q, vs, h1, h2, h3, h4⟩ := r.odc i xs hx
    exact ⟨q, vs, h1, h2, by rw [upd_ne (ne_of_none h3 h)]; exact h3, h4⟩
theorem StpE.layOff {p : Addr} {o : HO} (h : H p = none) : StpE ρ σ F H ρ F (upd H p o) :=
  ⟨⟨Ex.refl F, fun _ _ ha => .inl ha, fun a u ha _ _ => by rw [upd_ne (ne_of_none ha h)]; exact ha, fun a h => .inl h, fun a h => upd_none' h, fun i xs h => ⟨rfl, xs, h⟩⟩, fun _ h => h⟩
/-- a list that stood off is known as data from now on -/
theorem Rep.frz [Tbl] {K : PySem.W.Frag} (r : Rep K ρ σ F H) {p : Addr} {o : HO} (h : H p = some o) (hf : F p = none) (no : ¬ Own ρ σ p) (ho : noT o := by intro ps z; cases z) : Rep K ρ σ (upd F p o) H := by
  have e : Ex F (upd F p o) := Ex.new hf
  refine ⟨r.len, r.wl.frz h ho, fun i x hx => ?_, fun i b xs hx => ?_, r.dis, r.xc, fun i xs hx => ?_⟩
  · obtain ⟨v, h1, h2⟩ := r.dat i x hx
    exact ⟨v, h1, h2.mono e⟩
  · obtain ⟨q, vs, h1, h2, h3, h4⟩ := r.own i b xs hx
    have hq : q ≠ p := fun z => no ⟨i, _, hx, rfl, by rw [← z]; exact h1⟩
    exact ⟨q, vs, h1, by rw [upd_ne hq]; exact h2, h3, h4.mono e⟩
  · obtain ⟨q, vs, h1, h2, h3, h4⟩ := r.odc i xs hx
    have hq : q ≠ p := fun z => no ⟨i, _, hx, rfl, by rw [← z]; exact h1⟩
    exact ⟨q, vs, h1, by rw [upd_ne hq]; exact h2, h3, h4.mono e⟩
end
end Wh

set_option Elab.async false
set_option linter.all false
set_option maxRecDepth 100000
set_option maxHeartbeats 1000000
/-! Wh2: the small language and its evaluation. -/
namespace Wh
open PySem L2 Evl

inductive BOp where
  | add | sub | mul | fdiv | mod | pow | shl | shr | band
  deriving DecidableEq
inductive COp where
  | eq | ne | lt | le | gt | ge | isN | notN | inn | nin
  deriving DecidableEq
inductive Ty where
  | int | bool | str | tuple | list | dict
  deriving DecidableEq
inductive B1 where
  | len | abs | int | all | any | repr | tuple | list | str | srt | sum | isi (t : Ty)
  deriving DecidableEq
inductive B2 where
  | max | min | dvm
  deriving DecidableEq
inductive Tg where
  | name (i : Nat)
  | tup (ts : List Tg)
mutual
inductive Ep where
  | con (d : PyData)
  | var (i : Nat)
  | glob (x : Str)
  | bin (op : BOp) (a b : Ep)
  | neg (a : Ep)
  | cmp (op : COp) (a b : Ep)
  | chain (o1 o2 : COp) (a b c : Ep)
  | and (a b : Ep)
  | or (a b : Ep)
  | not (a : Ep)
  | ite (c : Tp) (a b : Ep)
  | tup (es : List Ep)
  | lst (es : List Ep)
  | repl (es : List Ep) (n : Ep)
  | dct0
  | dct1 (k v : Ep)
  | ix (a i : Ep)
  | oix (i : Nat) (a : Ep)
  | sl (a : Ep) (lo hi : Option Ep)
  | call (f : Str) (es : List Ep)
  | callp (f : Str) (i : Nat) (es : List Ep)
  | b1 (b : B1) (a : Ep)
  | b2 (b : B2) (a c : Ep)
  | gget (x : Str) (a : Ep)
  | cnt (a c : Ep)
  | idx (a c : Ep)
  | srs (a : Ep)
  | rev (a : Ep)
  | trg (a : Ep)
  | oin (neg : Bool) (a : Ep) (i : Nat)
  | olen (i : Nat)
  | callk (f : Str) (es : List Ep) (ix : List (Nat ⊕ PyData))
  | xcon (i : Nat) (d : PyData)
  | bad
  | dcomp (k v : Ep) (tg : Tg) (it : It') (cond : List Tp) (own : List Nat)
  | scomp (elt : Ep) (tg : Tg) (it : It') (cond : List Tp) (own : List Nat)
  | ddup (a : Ep)
  | vin (a d : Ep)
  | opop (i : Nat)
  | opope (i : Nat)
  | ocopy (i : Nat)
  | trn (a b : Ep)
  | lend (j : Nat) (a : Ep)
  | lset (a : Ep)
  | saidk (x : Str) (ws : List (Str × PyData)) (f : Str) (es : List Ep) (ix : List (Nat ⊕ PyData))
  | comp2 (elt : Ep) (t1 : Tg) (i1 : It') (c1 : List Tp) (t2 : Tg) (i2 : It') (c2 : List Tp) (own own2 : List Nat)
  | said (x : Str) (ws : List (Str × PyData)) (f : Str) (es : List Ep)
  | comp (elt : Ep) (tg : Tg) (it : It') (cond : List Tp) (own : List Nat)
inductive Tp where
  | leaf (e : Ep)
  | and (a b : Tp)
  | or (a b : Tp)
  | not (a : Tp)
inductive It' where
  | seq (e : Ep)
  | rng1 (a : Ep)
  | rng2 (a b : Ep)
  | enum (a : Ep)
  | zip (a b : Ep)
  | zips (a b : Ep)
  | zip3 (a b c : Ep)
end
inductive Sm where
  | set (i : Nat) (e : Ep)
  | seto (i : Nat) (e : Ep)
  | setk (i : Nat) (e : Ep)
  | unp (ts : List Tg) (e : Ep)
  | par (is : List Nat) (es : List Ep)
  | paro (is : List Nat) (os : List Bool) (es : List Ep)
  | parok (is : List Nat) (ks : List Nat) (es : List Ep)
  | seti (i : Nat) (a e : Ep)
  | parS (ts : List (Nat × Option Ep)) (es : List Ep)
  | app (i : Nat) (e : Ep)
  | ext (i : Nat) (e : Ep)
  | expr (e : Ep)
  | ret (e : Ep)
  | retN
  | ite (c : Tp) (a b : List Sm)
  | for_ (tg : Tg) (it : It') (body : List Sm)
  | wh (c : Tp) (body : List Sm)
  | pass | brk | cont | fail (x : Option Str)
inductive Fl where
  | next | brk | cont | ret (x : PyData)

structure Cfg where
  call : Str → Option (List PyData) → List PyData → Option (PyData × Option (List PyData))
  glob : Str → Option PyData
  wf : Nat
  exc : Str → List PyData → Option Str

/-! ### on data -/
def tyOf : PyData → String
  | .none => "NoneType"
  | .bool _ => "bool"
  | .int _ => "int"
  | .str _ => "str"
  | .list _ => "list"
  | .tuple _ => "tuple"
  | .dict _ => "dict"
def Ty.nm : Ty → String
  | .int => "int" | .bool => "bool" | .str => "str" | .tuple => "tuple" | .list => "list" | .dict => "dict"
def isi : Ty → PyData → Bool
  | .int, .int _ => true
  | .int, .bool _ => true
  | .bool, .bool _ => true
  | .str, .str _ => true
  | .tuple, .tuple _ => true
  | .list, .list _ => true
  | .dict, .dict _ => true
  | _, _ => false
def mulOk (i j : Int) : Bool := decide (i.natAbs.log2 + j.natAbs.log2 < 1000000)
def divOk (j : Int) : Bool := decide (j ≠ 0) && decide (j.natAbs.log2 < 9000)
def binD : BOp → PyData → PyData → Option PyData
  | .add, .int i, .int j => some (.int (i + j))
  | .sub, .int i, .int j => some (.int (i - j))
  | .mul, .int i, .int j => if mulOk i j then some (.int (i * j)) else none
  | .mul, .tuple xs, .int k => if !xs.isEmpty ∧ 2 ≤ k ∧ k ≤ 1000 ∧ xs.length ≤ 1000 then some (.tuple (List.replicate k.toNat xs).flatten) else if k = 1 then some (.tuple xs) else none
  | .mul, .list xs, .int k => if 0 ≤ k ∧ k ≤ 1000 ∧ xs.length ≤ 1000 then some (.list (List.replicate k.toNat xs).flatten) else none
  | .fdiv, .int i, .int j => if divOk j then some (.int (i.fdiv j)) else none
  | .mod, .int i, .int j => if j = 0 then none else some (.int (i.fmod j))
  | .pow, .int i, .int j => if 0 ≤ j ∧ j ≤ 1000000 ∧ i.natAbs < 2 ^ 64 then some (.int (i ^ j.toNat)) else none
  | .shl, .int i, .int j => if 0 ≤ j ∧ j ≤ 1000000 ∧ i.natAbs < 2 ^ 64 then some (.int (i * 2 ^ j.toNat)) else none
  | .shr, .int i, .int j => if 0 ≤ j then some (.int (i / 2 ^ j.toNat)) else none
  | .band, .int i, .int j => some (.int (Builtin.bitAnd i j))
  | .add, .str x, .str y => if x.length + y.length ≤ sizeLine then some (.str (x ++ y)) else none
  | .add, .tuple xs, .tuple ys => if xs.length + ys.length ≤ sizeLine then some (.tuple (xs ++ ys)) else none
  | .add, .list xs, .list ys => if xs.length + ys.length ≤ sizeLine then some (.list (xs ++ ys)) else none
  | _, _, _ => none
def keyD : PyData → Option Key
  | .int i => some (.inl i)
  | .str x => some (.inr x)
  | _ => none
def keyEq : PyData → PyData → Bool
  | .int i, .int j => decide (i = j)
  | .str a, .str b => decide (a = b)
  | _, _ => false
/-- what a dict holds at a key -/
def dgetD : List (PyData × PyData) → PyData → Option PyData
  | [], _ => none
  | (k, v) :: r, x => if keyEq k x then some v else dgetD r x
def dputD (kds : List (PyData × PyData)) (x y : PyData) : List (PyData × PyData) := if kds.any (fun p => keyEq p.1 x) then kds.map (fun p => if keyEq p.1 x then (p.1, y) else p) else kds ++ [(x, y)]
def dinD (x : PyData) (kds : List (PyData × PyData)) : Option Bool := match keyD x with
  | some _ => some (dgetD kds x).isSome
  | none => none
def flat : PyData → Bool
  | .none => true
  | .bool _ => true
  | .int _ => true
  | .str _ => true
  | _ => false
def inD (x : PyData) (xs : List PyData) : Option Bool := if flat x && xs.all flat then some (xs.any fun y => PyData.eqv y x) else none
/-- the same in a list or a tuple that isn't one's own, of laid things too -/
def inY (x : PyData) (xs : List PyData) : Option Bool := if flat x && xs.all flat then some (xs.any fun y => PyData.eqv y x) else if x.canLay0 && decide (x.depth ≤ 60) && PyData.canLayAll0 xs then some (xs.any fun y => PyData.eqv y x) else none
def eqD : PyData → PyData → Option Bool
  | .str x, .str y => some (x == y)
  | .tuple xs, .tuple [] => some xs.isEmpty
  | .dict xs, .dict [] => some xs.isEmpty
  | x, y => if SeqAt.shaped x && SeqAt.shaped y then some (PyData.eqv x y) else none
theorem eqD_or {x y : PyData} {z : Bool} (h : eqD x y = some z) : (∃ a b, x = .str a ∧ y = .str b ∧ z = (a == b)) ∨ (∃ xs, x = .tuple xs ∧ y = .tuple [] ∧ z = xs.isEmpty) ∨ (SeqAt.shaped x = true ∧ SeqAt.shaped y = true ∧ z = PyData.eqv x y) ∨ (∃ xs, x = .dict xs ∧ y = .dict [] ∧ z = xs.isEmpty) := by
  unfold eqD at h
  split at h
  · cases h; exact .inl ⟨_, _, rfl, rfl, rfl⟩
  · cases h; exact .inr (.inl ⟨_, rfl, rfl, rfl⟩)
  · cases h; exact .inr (.inr (.inr ⟨_, rfl, rfl, rfl⟩))
  · split at h
    · rename_i hc
      rw [Bool.and_eq_true] at hc
      cases h
      exact .inr (.inr (.inl ⟨hc.1, hc.2, rfl⟩))
    · cases h
def cmpD : COp → PyData → PyData → Option Bool
  | .lt, .int i, .int j => some (decide (i < j))
  | .le, .int i, .int j => some (decide (i ≤ j))
  | .gt, .int i, .int j => some (decide (j < i))
  | .ge, .int i, .int j => some (decide (j ≤ i))
  | .eq, x, y => eqD x y
  | .ne, x, y => (eqD x y).map (!·)
  | .isN, .bool a, .bool b => some (decide (a = b))
  | .notN, .bool a, .bool b => some (!decide (a = b))
  | .isN, x, .none => some (match x with | .none => true | _ => false)
  | .notN, x, .none => some (match x with | .none => false | _ => true)
  | .inn, x, .list ys => inY x ys
  | .inn, x, .tuple ys => inY x ys
  | .nin, x, .list ys => (inY x ys).map (!·)
  | .nin, x, .tuple ys => (inY x ys).map (!·)
  | .inn, x, .dict ys => dinD x ys
  | .nin, x, .dict ys => (dinD x ys).map (!·)
  | _, _, _ => none
def truD : PyData → Option Bool
  | .none => some false
  | .bool b => some b
  | .int i => some (i != 0)
  | .list xs => some (!xs.isEmpty)
  | .tuple xs => some (!xs.isEmpty)
  | _ => none
def bools : List PyData → Option (List Bool)
  | [] => some []
  | .bool b :: r => (bools r).map (b :: ·)
  | _ :: _ => none
def ixD : PyData → PyData → Option PyData
  | .list xs, .int i => atI xs i
  | .tuple xs, .int i => atI xs i
  | .dict xs, y => match keyD y with
    | some _ => dgetD xs y
    | none => none
  | _, _ => none
def cutD (xs : List PyData) (lo hi : Option Int) : List PyData := (xs.drop (HT.sIx xs.length 0 lo)).take (HT.sIx xs.length xs.length hi - HT.sIx xs.length 0 lo)
def slD : PyData → Option Int → Option Int → Option PyData
  | .list xs, lo, hi => some (.list (cutD xs lo hi))
  | .tuple xs, lo, hi => some (.tuple (cutD xs lo hi))
  | _, _, _ => none
/-! what repr may show -/
mutual
def wt : PyData → Nat
  | .none => 4
  | .bool _ => 5
  | .int _ => 2000
  | .str x => 12 * x.length + 2
  | .list xs => 2 + wtA xs
  | .tuple xs => 3 + wtA xs
  | .dict kvs => 2 + wtK kvs
def wtA : List PyData → Nat
  | [] => 0
  | x :: xs => wt x + 2 + wtA xs
def wtK : List (PyData × PyData) → Nat
  | [] => 0
  | (k, v) :: xs => wt k + 2 + wt v + 2 + wtK xs
end
mutual
def noL : PyData → Bool
  | .list _ => false
  | .tuple xs => noLA xs
  | .dict kvs => noLK kvs
  | _ => true
def noLA : List PyData → Bool
  | [] => true
  | x :: xs => noL x && noLA xs
def noLK : List (PyData × PyData) → Bool
  | [] => true
  | (k, v) :: xs => noL k && noL v && noLK xs
end
mutual
def small : PyData → Bool
  | .int i => decide (i.natAbs < 2 ^ 1900)
  | .str x => x.cps.toList.all fun c => decide (c < 16 ^ 8)
  | .list xs => smallA xs
  | .tuple xs => smallA xs
  | .dict kvs => smallK kvs
  | _ => true
def smallA : List PyData → Bool
  | [] => true
  | x :: xs => small x && smallA xs
def smallK : List (PyData × PyData) → Bool
  | [] => true
  | (k, v) :: xs => small k && small v && smallK xs
end
def reprOk (d : PyData) : Bool := small d && decide (wt d ≤ sizeLine) && decide (d.depth ≤ 60) && (!d.hasDict || noL d)
def intsD : List PyData → Option (List Int)
  | [] => some []
  | .int i :: r => (intsD r).map (i :: ·)
  | _ :: _ => none
def insI (x : Int) : List Int → List Int
  | [] => [x]
  | y :: ys => if x ≤ y then x :: y :: ys else y :: insI x ys
def srtI : List Int → List Int
  | [] => []
  | x :: xs => insI x (srtI xs)
def insU (x : Int) : List Int → List Int
  | [] => [x]
  | y :: ys => if x < y then x :: y :: ys else if x = y then y :: ys else y :: insU x ys
def srtU : List Int → List Int
  | [] => []
  | x :: xs => insU x (srtU xs)
def srsL (xs : List PyData) : Option PyData := match intsD xs with
  | some ns => if ns.length < 64 then some (.list ((srtU ns).map .int)) else none
  | none => none
def srsD : PyData → Option PyData
  | .list xs => srsL xs
  | .tuple xs => srsL xs
  | _ => none
def revD : PyData → Option PyData
  | .list xs => some (.list xs.reverse)
  | .tuple xs => some (.tuple xs.reverse)
  | _ => none
def trgD : PyData → Option PyData
  | .int n => if 0 ≤ n ∧ n ≤ 10000 then some (.tuple ((List.range n.toNat).map fun (k : Nat) => .int (k : Int))) else none
  | _ => none
/-- tuples of ints, none of them empty -/
def rowsD : List PyData → Option (List (List Int))
  | [] => some []
  | .tuple ds :: r => match intsD ds, rowsD r with
    | some (n :: ns), some rs => some ((n :: ns) :: rs)
    | _, _ => none
  | _ :: _ => none
def insR (x : List Int) : List (List Int) → List (List Int)
  | [] => [x]
  | y :: ys => if HT.lexLt y x then y :: insR x ys else x :: y :: ys
def srtR : List (List Int) → List (List Int)
  | [] => []
  | x :: xs => insR x (srtR xs)
def rowP (ns : List Int) : PyData := .tuple (ns.map .int)
def srtD (xs : List PyData) : Option PyData := match intsD xs with
  | some ns => some (.list ((srtI ns).map .int))
  | none => match rowsD xs with
    | some rs => some (.list ((srtR rs).map rowP))
    | none => none
/-- the ints from i down to above j -/
def trnD : PyData → PyData → Option PyData
  | .int i, .int j => if -10000 ≤ i ∧ i ≤ 10000 ∧ -10000 ≤ j ∧ j ≤ 10000 then some (.tuple ((List.range (i - j).toNat).map fun (k : Nat) => .int (i - (k : Int)))) else none
  | _, _ => none
def sumD (xs : List PyData) : Option PyData := (intsD xs).map fun ns => .int ns.sum
def b1D : B1 → PyData → Option PyData
  | .len, .list xs => some (.int xs.length)
  | .len, .tuple xs => some (.int xs.length)
  | .len, .str x => if x.length ≤ sizeLine then some (.int x.length) else none
  | .len, .dict xs => some (.int xs.length)
  | .abs, .int i => some (.int (if i < 0 then -i else i))
  | .int, .int i => some (.int i)
  | .int, .bool b => some (.int (if b then 1 else 0))
  | .all, .list xs => (bools xs).map fun bs => .bool (bs.all id)
  | .any, .list xs => (bools xs).map fun bs => .bool (bs.any id)
  | .repr, x => if reprOk x then some (.str x.shown) else none
  | .tuple, .list xs => some (.tuple xs)
  | .tuple, .tuple xs => some (.tuple xs)
  | .list, .list xs => some (.list xs)
  | .list, .tuple xs => some (.list xs)
  | .str, .int i => if small (.int i) then some (.str (PyData.int i).shown) else none
  | .srt, .list xs => srtD xs
  | .srt, .tuple xs => srtD xs
  | .sum, .list xs => sumD xs
  | .sum, .tuple xs => sumD xs
  | .isi t, x => some (.bool (isi t x))
  | _, _ => none
def b2D : B2 → PyData → PyData → Option PyData
  | .max, .int i, .int j => some (.int (if j > i then j else i))
  | .min, .int i, .int j => some (.int (if j < i then j else i))
  | .dvm, .int i, .int j => if 0 < j ∧ j.natAbs.log2 < 9000 then some (.tuple [.int (i / j), .int (i % j)]) else none
  | _, _, _ => none
def keysD : List PyData → Option (List Key)
  | [] => some []
  | x :: xs => match keyD x, keysD xs with
    | some k, some ks => some (k :: ks)
    | _, _ => none

def cntD : PyData → PyData → Option PyData
  | .list xs, x => if flat x && xs.all flat then some (.int (xs.countP fun y => PyData.eqv y x)) else none
  | _, _ => none
def idxD : PyData → PyData → Option PyData
  | .list xs, x => if flat x && xs.all flat then (xs.findIdx? fun y => PyData.eqv y x).map fun j => .int (j : Nat) else none
  | _, _ => none
def globD : PyData → Option PyData
  | .dict _ => none
  | d => some d
def lookD : List (PyData × PyData) → Str → PyData
  | [], _ => .none
  | (.str y, v) :: r, x => if x = y then v else lookD r x
  | _ :: r, x => lookD r x
def pickD (xs : List PyData) : List (Nat ⊕ PyData) → Option (List PyData)
  | [] => some []
  | .inl j :: r => match xs[j]?, pickD xs r with
    | some x, some ys => some (x :: ys)
    | _, _ => none
  | .inr d :: r => (pickD xs r).map (d :: ·)
/-- a pair of a key and what it holds -/
def pairD : PyData → Option (PyData × PyData)
  | .tuple [k, v] => match keyD k with
    | some _ => some (k, v)
    | none => none
  | _ => none
/-- pairs put into a dict, one after the other -/
def mrgD (acc : List (PyData × PyData)) : List PyData → Option (List (PyData × PyData))
  | [] => some acc
  | x :: r => match pairD x with
    | some p => mrgD (dputD acc p.1 p.2) r
    | none => none
/-- is None among a dict's values (None, or tuples) -/
def vinD (x : PyData) : List (PyData × PyData) → Option Bool
  | [] => match x with
    | .none => some false
    | _ => none
  | (_, v) :: r => match x, v with
    | .none, .none => some true
    | .none, .tuple xs => if (PyData.tuple xs).canLay0 then vinD x r else none
    | _, _ => none
/-- a dict made of a dict's pairs -/
def dupD (kds : List (PyData × PyData)) : List (PyData × PyData) := kds.foldl (fun acc p => dputD acc p.1 p.2) []
/-! ### evaluation -/
def bnd {α β : Type} (m : Option (α × En)) (f : α → En → Option (β × En)) : Option (β × En) := match m with
  | none => none
  | some (a, ρ) => f a ρ
def ret {α : Type} (o : Option α) (ρ : En) : Option (α × En) := match o with
  | none => none
  | some a => some (a, ρ)
theorem bnd_some {α β : Type} {a : α} {ρ : En} {f : α → En → Option (β × En)} : bnd (some (a, ρ)) f = f a ρ := rfl
theorem bnd_eq {α β : Type} {m : Option (α × En)} {f : α → En → Option (β × En)} {r : β × En} (h : bnd m f = some r) : ∃ a ρ, m = some (a, ρ) ∧ f a ρ = some r := by
  cases m with
  | none => cases h
  | some p => exact ⟨p.1, p.2, rfl, h⟩
theorem ret_eq {α : Type} {o : Option α} {ρ : En} {r : α × En} (h : ret o ρ = some r) : ∃ a, o = some a ∧ r = (a, ρ) := by
  cases o with
  | none => cases h
  | some a => cases h; exact ⟨a, rfl, rfl⟩
mutual
def bindT : Tg → PyData → En → Option En
  | .name i, x, ρ => if i < ρ.length then some (ρ.set i (some (.d x))) else none
  | .tup ts, .tuple xs, ρ => bindTs ts xs ρ
  | .tup _, _, _ => none
def bindTs : List Tg → List PyData → En → Option En
  | [], [], ρ => some ρ
  | t :: ts, x :: xs, ρ => match bindT t x ρ with
    | none => none
    | some ρ => bindTs ts xs ρ
  | _, _, _ => none
end
def wipeE (ρ : En) : List Nat → En
  | [] => ρ
  | v :: vs => (wipeE ρ vs).set v none
/-- the slots vs as they were in ρ -/
def backE (ρ : En) (ρ' : En) : List Nat → En
  | [] => ρ'
  | v :: vs => (backE ρ ρ' vs).set v ((ρ[v]?).getD none)
def notOwn (ρ : En) (v : Nat) : Bool := match ρ[v]? with
  | some (some (.own _ _)) => false
  | some (some (.od _)) => false
  | some _ => true
  | none => false
def forI (step : PyData → En → Option (Fl × En)) : List PyData → En → Option (Fl × En)
  | [], ρ => some (.next, ρ)
  | x :: xs, ρ => match step x ρ with
    | none => none
    | some (.next, ρ) => forI step xs ρ
    | some (.cont, ρ) => forI step xs ρ
    | some (.brk, ρ) => some (.next, ρ)
    | some (.ret v, ρ) => some (.ret v, ρ)
def cmpI (step : PyData → En → Option (Option PyData × En)) : List PyData → En → Option (List PyData × En)
  | [], ρ => some ([], ρ)
  | x :: xs, ρ => match step x ρ with
    | none => none
    | some (none, ρ) => cmpI step xs ρ
    | some (some y, ρ) => match cmpI step xs ρ with
      | none => none
      | some (ys, ρ) => some (y :: ys, ρ)
def whI (c : En → Option (Bool × En)) (b : En → Option (Fl × En)) : Nat → En → Option (Fl × En)
  | 0, _ => none
  | n + 1, ρ => match c ρ with
    | none => none
    | some (false, ρ) => some (.next, ρ)
    | some (true, ρ) => match b ρ with
      | none => none
      | some (.next, ρ) => whI c b n ρ
      | some (.cont, ρ) => whI c b n ρ
      | some (.brk, ρ) => some (.next, ρ)
      | some (.ret v, ρ) => some (.ret v, ρ)
def partD : Option PyData → Option (Option Int)
  | none => some none
  | some (.int i) => some (some i)
  | some _ => none
def enumD : Nat → List PyData → List PyData
  | _, [] => []
  | n, x :: xs => .tuple [.int n, x] :: enumD (n + 1) xs
def zipD : List PyData → List PyData → List PyData
  | x :: xs, y :: ys => .tuple [x, y] :: zipD xs ys
  | _, _ => []
def zipK : PyData → PyData → Option (List PyData)
  | .list xs, .list ys => some (zipD xs ys)
  | .tuple xs, .tuple ys => some (zipD xs ys)
  | .list xs, .tuple ys => some (zipD xs ys)
  | .tuple xs, .list ys => some (zipD xs ys)
  | _, _ => none
def seqD : PyData → Option (List PyData)
  | .list xs => some xs
  | .tuple xs => some xs
  | _ => none
/-- zip, of one length alone -/
def zipKs (x y : PyData) : Option (List PyData) := match seqD x, seqD y with
  | some xs, some ys => if xs.length = ys.length then some (zipD xs ys) else none
  | _, _ => none
def zipD3 : List PyData → List PyData → List PyData → List PyData
  | x :: xs, y :: ys, z :: zs => .tuple [x, y, z] :: zipD3 xs ys zs
  | _, _, _ => []
def zipK3 (x y z : PyData) : Option (List PyData) := match seqD x, seqD y, seqD z with
  | some xs, some ys, some zs => some (zipD3 xs ys zs)
  | _, _, _ => none
def rngD (lo hi : Int) : List PyData := (List.range (hi - lo).toNat).map fun (k : Nat) => .int (lo + (k : Int))
def smallI (i : Int) : Bool := decide (-(2 ^ 62) ≤ i) && decide (i < 2 ^ 62)

/-- the distinct ones, as they come -/
def ddI : List Int → List Int → List Int
  | acc, [] => acc
  | acc, x :: xs => if acc.any (· == x) then ddI acc xs else ddI (acc ++ [x]) xs
def lsetD : PyData → Option PyData
  | .list xs => match intsD xs with
    | some ns => if ns.length ≤ 4000 then some (.int (ddI [] ns).length) else none
    | none => none
  | _ => none
/-- what a def makes of what a lambda tells: ("told", x), or [x] -/
def toldL : List (Str × PyData) → Bool
  | (_, .str _) :: _ => true
  | _ => false
def tellD (ws : List (Str × PyData)) (x : PyData) : PyData := if toldL ws then .list [x] else .tuple [.str "told", x]
mutual
/-- no list, no dict within -/
def noH : PyData → Bool
  | .list _ => false
  | .dict _ => false
  | .tuple xs => noHA xs
  | _ => true
def noHA : List PyData → Bool
  | [] => true
  | x :: xs => noH x && noHA xs
end
/-- all lists of one's own hold neither lists nor dicts -/
def tame : En → Bool
  | [] => true
  | some (.own _ q) :: r => noHA q && tame r
  | some (.od _) :: _ => false
  | _ :: r => tame r
/-- a plain look: a constant, a slot that holds data -/
def plainV (ρ : En) : Ep → Bool
  | .con _ => true
  | .var i => match ρ[i]? with
    | some (some (.d _)) => true
    | _ => false
  | _ => false
def plainVs (ρ : En) : List Ep → Bool
  | [] => true
  | e :: es => plainV ρ e && plainVs ρ es
/-- an expression that leaves all data as it is -/
def stays (ρ : En) : Ep → Bool
  | .call _ es => plainVs ρ es
  | .callp _ _ es => plainVs ρ es
  | .cmp _ a (.lst []) => plainV ρ a
  | _ => false
def cmpL (step : PyData → En → Option (List PyData × En)) : List PyData → En → Option (List PyData × En)
  | [], ρ => some ([], ρ)
  | x :: xs, ρ => match step x ρ with
    | none => none
    | some (zs, ρ) => match cmpL step xs ρ with
      | none => none
      | some (ys, ρ) => some (zs ++ ys, ρ)

mutual
def ev (c : Cfg) : Ep → En → Option (PyData × En)
  | .con d, ρ => some (d, ρ)
  | .var i, ρ => match ρ[i]? with
    | some (some (.d x)) => some (x, ρ)
    | some (some (.own _ xs)) => some (.list xs, ρ.set i (some (.d (.list xs))))
    | some (some (.od xs)) => some (.dict xs, ρ.set i (some (.d (.dict xs))))
    | _ => none
  | .glob x, ρ => match c.glob x with
    | some d => ret (globD d) ρ
    | none => none
  | .bin op a b, ρ => bnd (ev c a ρ) fun x ρ => bnd (ev c b ρ) fun y ρ => ret (binD op x y) ρ
  | .neg a, ρ => bnd (ev c a ρ) fun x ρ => match x with
    | .int i => some (.int (-i), ρ)
    | _ => none
  | .cmp op a b, ρ => bnd (ev c a ρ) fun x ρ => bnd (ev c b ρ) fun y ρ => bnd (ret (cmpD op x y) ρ) fun r ρ => some (.bool r, ρ)
  | .chain o1 o2 a b d, ρ => bnd (ev c a ρ) fun x ρ => bnd (ev c b ρ) fun y ρ => bnd (ret (cmpD o1 x y) ρ) fun r ρ => match r with
    | false => some (.bool false, ρ)
    | true => bnd (ev c d ρ) fun z ρ => bnd (ret (cmpD o2 y z) ρ) fun r ρ => some (.bool r, ρ)
  | .and a b, ρ => bnd (ev c a ρ) fun x ρ => match x with
    | .bool true => ev c b ρ
    | .bool false => some (.bool false, ρ)
    | _ => none
  | .or a b, ρ => bnd (ev c a ρ) fun x ρ => match x with
    | .bool true => some (.bool true, ρ)
    | .bool false => ev c b ρ
    | _ => none
  | .not a, ρ => bnd (ev c a ρ) fun x ρ => match x with
    | .bool b => some (.bool (!b), ρ)
    | _ => none
  | .ite t a b, ρ => bnd (evT c t ρ) fun r ρ => match r with
    | true => ev c a ρ
    | false => ev c b ρ
  | .tup es, ρ => if es.length ≤ sizeLine then bnd (evs c es ρ) fun xs ρ => some (.tuple xs, ρ) else none
  | .lst es, ρ => if es.length ≤ sizeLine then bnd (evs c es ρ) fun xs ρ => some (.list xs, ρ) else none
  | .repl es n, ρ => if es.length ≤ sizeLine then bnd (evs c es ρ) fun xs ρ => bnd (ev c n ρ) fun y ρ => match y with
      | .int k => if -(2 ^ 63) ≤ k ∧ k < 2 ^ 63 ∧ xs.length * k.toNat ≤ sizeLine then some (.list (List.replicate k.toNat xs).flatten, ρ) else none
      | _ => none
    else none
  | .dct0, ρ => some (.dict [], ρ)
  | .dct1 k v, ρ => bnd (ev c k ρ) fun x ρ => bnd (ev c v ρ) fun y ρ => match keyD x with
    | some _ => some (.dict [(x, y)], ρ)
    | none => none
  | .ix a i, ρ => bnd (ev c a ρ) fun x ρ => bnd (ev c i ρ) fun y ρ => ret (ixD x y) ρ
  | .oix i a, ρ => match ρ[i]? with
    | some (some _) => bnd (ev c a ρ) fun y ρ => match ρ[i]? with
      | some (some (.own _ xs)) => ret (ixD (.list xs) y) ρ
      | some (some (.d x)) => ret (ixD x y) ρ
      | some (some (.od xs)) => ret (ixD (.dict xs) y) ρ
      | _ => none
    | _ => none
  | .sl a lo hi, ρ => bnd (ev c a ρ) fun x ρ => bnd (evO c lo ρ) fun l ρ => bnd (evO c hi ρ) fun h ρ => match partD l, partD h with
    | some l, some h => ret (slD x l h) ρ
    | _, _ => none
  | .call f es, ρ => bnd (evs c es ρ) fun xs ρ => match c.call f none xs with
    | some (x, none) => some (x, ρ)
    | _ => none
  | .callp f i es, ρ => match ρ[i]? with
    | some (some _) => bnd (evs c es ρ) fun xs ρ => match ρ[i]? with
      | some (some (.own b p)) => match c.call f (some p) xs with
        | some (x, some q) => some (x, ρ.set i (some (.own b q)))
        | _ => none
      | _ => none
    | _ => none
  | .b1 b a, ρ => bnd (ev c a ρ) fun x ρ => ret (b1D b x) ρ
  | .gget x a, ρ => bnd (ev c a ρ) fun y ρ => match c.glob x, y with
    | some (.dict kvs), .str z => some (lookD kvs z, ρ)
    | _, _ => none
  | .cnt a d, ρ => bnd (ev c a ρ) fun x ρ => bnd (ev c d ρ) fun y ρ => ret (cntD x y) ρ
  | .idx a d, ρ => bnd (ev c a ρ) fun x ρ => bnd (ev c d ρ) fun y ρ => ret (idxD x y) ρ
  | .srs a, ρ => bnd (ev c a ρ) fun x ρ => ret (srsD x) ρ
  | .rev a, ρ => bnd (ev c a ρ) fun x ρ => ret (revD x) ρ
  | .trg a, ρ => bnd (ev c a ρ) fun x ρ => ret (trgD x) ρ
  | .oin neg a i, ρ => bnd (ev c a ρ) fun x ρ => match ρ[i]? with
    | some (some (.own _ xs)) => bnd (ret (inD x xs) ρ) fun r ρ => some (.bool (if neg then !r else r), ρ)
    | some (some (.d y)) => bnd (ret (cmpD (if neg then .nin else .inn) x y) ρ) fun r ρ => some (.bool r, ρ)
    | some (some (.od xs)) => bnd (ret (dinD x xs) ρ) fun r ρ => some (.bool (if neg then !r else r), ρ)
    | _ => none
  | .olen i, ρ => match ρ[i]? with
    | some (some (.own _ xs)) => some (.int xs.length, ρ)
    | some (some (.d y)) => ret (b1D .len y) ρ
    | some (some (.od xs)) => some (.int xs.length, ρ)
    | _ => none
  | .dcomp k v tg it cond own, ρ => if own.all (notOwn ρ) then bnd (evI c it ρ) fun xs ρ1 => if own.all (notOwn ρ1) ∧ xs.length ≤ 100000 then
      bnd (cmpI (fun x ρ2 => match bindT tg x (wipeE ρ2 own) with
        | none => none
        | some ρ3 => bnd (evTs c cond ρ3) fun r ρ4 => match r with
          | false => some (none, backE ρ1 ρ4 own)
          | true => bnd (bnd (ev c k ρ4) fun x ρ => bnd (ev c v ρ) fun y ρ => some (.tuple [x, y], ρ)) fun y ρ5 => some (some y, backE ρ1 ρ5 own)) xs ρ1) fun ys ρ6 => match mrgD [] ys with
            | some kds => some (.dict kds, ρ6)
            | none => none
      else none
    else none
  | .scomp e tg it cond own, ρ => if own.all (notOwn ρ) then bnd (evI c it ρ) fun xs ρ1 => if own.all (notOwn ρ1) ∧ xs.length ≤ 100000 then
      bnd (cmpI (fun x ρ2 => match bindT tg x (wipeE ρ2 own) with
        | none => none
        | some ρ3 => bnd (evTs c cond ρ3) fun r ρ4 => match r with
          | false => some (none, backE ρ1 ρ4 own)
          | true => bnd (ev c e ρ4) fun y ρ5 => some (some y, backE ρ1 ρ5 own)) xs ρ1) fun ys ρ6 => ret (srsL ys) ρ6
      else none
    else none
  | .ddup a, ρ => bnd (ev c a ρ) fun x ρ => match x with
    | .dict xs => some (.dict (dupD xs), ρ)
    | _ => none
  | .vin a d, ρ => bnd (ev c a ρ) fun x ρ => bnd (ev c d ρ) fun y ρ => match y with
    | .dict xs => bnd (ret (vinD x xs) ρ) fun r ρ => some (.bool r, ρ)
    | _ => none
  | .opop i, ρ => match ρ[i]? with
    | some (some (.own b (x :: xs))) => some (x, ρ.set i (some (.own b xs)))
    | _ => none
  | .callk f es ix, ρ => bnd (evs c es ρ) fun xs ρ => match pickD xs ix with
    | some ys => match c.call f none ys with
      | some (x, none) => some (x, ρ)
      | _ => none
    | none => none
  | .bad, _ => none
  | .xcon i d, ρ => match ρ[i]? with
    | some (some .x) => some (d, ρ)
    | _ => none
  | .said _ ws f es, ρ => bnd (evs c es ρ) fun xs ρ => match c.call f none xs with
    | some (x, none) => some (tellD ws x, ρ)
    | _ => match c.exc f xs with
      | some e => match ws.lookup e with
        | some w => some (w, ρ)
        | none => none
      | none => none
  | .saidk _ ws f es ix, ρ => bnd (evs c es ρ) fun xs ρ => match pickD xs ix with
    | some ys => match c.call f none ys with
      | some (x, none) => some (tellD ws x, ρ)
      | _ => match c.exc f ys with
        | some e => match ws.lookup e with
          | some w => some (w, ρ)
          | none => none
        | none => none
    | none => none
  | .opope i, ρ => match ρ[i]? with
    | some (some (.own b xs)) => match xs[xs.length - 1]? with
      | some y => some (y, ρ.set i (some (.own b xs.dropLast)))
      | none => none
    | _ => none
  | .lend j a, ρ => match ρ[j]? with
    | some (some (.own b xs)) => if stays (ρ.set j (some (.d (.list xs)))) a then bnd (ev c a (ρ.set j (some (.d (.list xs))))) fun x ρ' => if noH x && tame ρ' then some (x, ρ'.set j (some (.own b xs))) else none else none
    | _ => ev c a ρ
  | .trn a b, ρ => bnd (ev c a ρ) fun x ρ => bnd (ev c b ρ) fun y ρ => ret (trnD x y) ρ
  | .ocopy i, ρ => match ρ[i]? with
    | some (some (.own _ xs)) => some (.list xs, ρ)
    | some (some (.d y)) => ret (b1D .list y) ρ
    | _ => none
  | .lset a, ρ => bnd (ev c a ρ) fun x ρ => ret (lsetD x) ρ
  | .comp2 e t1 i1 c1 t2 i2 c2 own own2, ρ => if own.all (notOwn ρ) then bnd (evI c i1 ρ) fun xs ρ1 => if own.all (notOwn ρ1) ∧ xs.length ≤ 100000 then
      bnd (cmpL (fun x ρ2 => match bindT t1 x (wipeE ρ2 own) with
        | none => none
        | some ρ3 => bnd (evTs c c1 ρ3) fun r ρ4 => match r with
          | false => some ([], backE ρ1 ρ4 own)
          | true => bnd (evI c i2 ρ4) fun ys ρ5 => if own2.all (notOwn ρ5) ∧ ys.length ≤ 100000 then
              bnd (cmpI (fun x ρ2 => match bindT t2 x (wipeE ρ2 own2) with
                | none => none
                | some ρ3 => bnd (evTs c c2 ρ3) fun r ρ4 => match r with
                  | false => some (none, backE ρ5 ρ4 own2)
                  | true => bnd (ev c e ρ4) fun y ρ6 => some (some y, backE ρ5 ρ6 own2)) ys ρ5) fun zs ρ6 => some (zs, backE ρ1 ρ6 own)
            else none) xs ρ1) fun ys ρ6 => if ys.length ≤ 100000 then some (.list ys, ρ6) else none
      else none
    else none
  | .b2 b a d, ρ => bnd (ev c a ρ) fun x ρ => bnd (ev c d ρ) fun y ρ => ret (b2D b x y) ρ
  | .comp e tg it cond own, ρ => if own.all (notOwn ρ) then bnd (evI c it ρ) fun xs ρ1 => if own.all (notOwn ρ1) ∧ xs.length ≤ 100000 then
      bnd (cmpI (fun x ρ2 => match bindT tg x (wipeE ρ2 own) with
        | none => none
        | some ρ3 => bnd (evTs c cond ρ3) fun r ρ4 => match r with
          | false => some (none, backE ρ1 ρ4 own)
          | true => bnd (ev c e ρ4) fun y ρ5 => some (some y, backE ρ1 ρ5 own)) xs ρ1) fun ys ρ6 => some (.list ys, ρ6)
      else none
    else none
termination_by structural e => e
def evs (c : Cfg) : List Ep → En → Option (List PyData × En)
  | [], ρ => some ([], ρ)
  | e :: es, ρ => bnd (ev c e ρ) fun x ρ => bnd (evs c es ρ) fun xs ρ => some (x :: xs, ρ)
def evO (c : Cfg) : Option Ep → En → Option (Option PyData × En)
  | none, ρ => some (none, ρ)
  | some e, ρ => bnd (ev c e ρ) fun x ρ => some (some x, ρ)
def evT (c : Cfg) : Tp → En → Option (Bool × En)
  | .and a b, ρ => bnd (evT c a ρ) fun r ρ => match r with
    | true => evT c b ρ
    | false => some (false, ρ)
  | .or a b, ρ => bnd (evT c a ρ) fun r ρ => match r with
    | true => some (true, ρ)
    | false => evT c b ρ
  | .not a, ρ => bnd (evT c a ρ) fun r ρ => some (!r, ρ)
  | .leaf e, ρ => bnd (ev c e ρ) fun x ρ => ret (truD x) ρ
def evTs (c : Cfg) : List Tp → En → Option (Bool × En)
  | [], ρ => some (true, ρ)
  | [e], ρ => evT c e ρ
  | _ :: _ :: _, _ => none
def evI (c : Cfg) : It' → En → Option (List PyData × En)
  | .seq e, ρ => bnd (ev c e ρ) fun x ρ => ret (seqD x) ρ
  | .rng1 a, ρ => bnd (ev c a ρ) fun x ρ => match x with
    | .int n => if smallI n then some (rngD 0 n, ρ) else none
    | _ => none
  | .rng2 a b, ρ => bnd (ev c a ρ) fun x ρ => bnd (ev c b ρ) fun y ρ => match x, y with
    | .int i, .int j => if smallI i && smallI j then some (rngD i j, ρ) else none
    | _, _ => none
  | .enum a, ρ => bnd (ev c a ρ) fun x ρ => bnd (ret (seqD x) ρ) fun xs ρ => some (enumD 0 xs, ρ)
  | .zip a b, ρ => bnd (ev c a ρ) fun x ρ => bnd (ev c b ρ) fun y ρ => ret (zipK x y) ρ
  | .zips a b, ρ => bnd (ev c a ρ) fun x ρ => bnd (ev c b ρ) fun y ρ => ret (zipKs x y) ρ
  | .zip3 a b d, ρ => bnd (ev c a ρ) fun x ρ => bnd (ev c b ρ) fun y ρ => bnd (ev c d ρ) fun u ρ => ret (zipK3 x y u) ρ
end
def setAll : List Nat → List PyData → En → Option En
  | [], [], ρ => some ρ
  | i :: is, x :: xs, ρ => if i < ρ.length then setAll is xs (ρ.set i (some (.d x))) else none
  | _, _, _ => none
def setAllO : List Nat → List Bool → List PyData → En → Option En
  | [], [], [], ρ => some ρ
  | i :: is, true :: os, x :: xs, ρ => match x with
    | .list ys => if i < ρ.length then setAllO is os xs (ρ.set i (some (.own false ys))) else none
    | _ => none
  | i :: is, false :: os, x :: xs, ρ => if i < ρ.length then setAllO is os xs (ρ.set i (some (.d x))) else none
  | _, _, _, _ => none
/-- names that take data (0), lists (1), dicts (2) of one's own -/
def setAllK : List Nat → List Nat → List PyData → En → Option En
  | [], [], [], ρ => some ρ
  | i :: is, 0 :: ks, x :: xs, ρ => if i < ρ.length then setAllK is ks xs (ρ.set i (some (.d x))) else none
  | i :: is, 1 :: ks, x :: xs, ρ => match x with
    | .list ys => if i < ρ.length then setAllK is ks xs (ρ.set i (some (.own false ys))) else none
    | _ => none
  | i :: is, 2 :: ks, x :: xs, ρ => match x with
    | .dict ys => if i < ρ.length then setAllK is ks xs (ρ.set i (some (.od ys))) else none
    | _ => none
  | _, _, _, _ => none
theorem setAllK_0 {i : Nat} {is ks : List Nat} {x : PyData} {xs : List PyData} {ρ : En} : setAllK (i :: is) (0 :: ks) (x :: xs) ρ = if i < ρ.length then setAllK is ks xs (ρ.set i (some (.d x))) else none := rfl
theorem setAllK_1 {i : Nat} {is ks : List Nat} {x : PyData} {xs : List PyData} {ρ : En} : setAllK (i :: is) (1 :: ks) (x :: xs) ρ = match x with
    | .list ys => if i < ρ.length then setAllK is ks xs (ρ.set i (some (.own false ys))) else none
    | _ => none := by cases x <;> rfl
theorem setAllK_2 {i : Nat} {is ks : List Nat} {x : PyData} {xs : List PyData} {ρ : En} : setAllK (i :: is) (2 :: ks) (x :: xs) ρ = match x with
    | .dict ys => if i < ρ.length then setAllK is ks xs (ρ.set i (some (.od ys))) else none
    | _ => none := by cases x <;> rfl
theorem setAllO_K : ∀ {is ks : List Nat} {xs : List PyData} {ρ : En}, (ks.all fun k => decide (k < 2)) = true → setAllO is (ks.map fun k => k == 1) xs ρ = setAllK is ks xs ρ
  | [], [], [], _, _ => rfl
  | [], [], _ :: _, _, _ => rfl
  | [], _ :: _, xs, _, _ => by cases xs <;> (simp only [List.map_cons]; unfold setAllO setAllK; rfl)
  | _ :: _, [], xs, _, _ => by cases xs <;> rfl
  | i :: is, 0 :: ks, [], _, _ => by simp only [List.map_cons]; unfold setAllO setAllK; rfl
  | i :: is, 1 :: ks, [], _, _ => by simp only [List.map_cons]; unfold setAllO setAllK; rfl
  | i :: is, (k + 2) :: ks, _, _, h => by
    rw [List.all_cons, Bool.and_eq_true, decide_eq_true_eq] at h
    omega
  | i :: is, 0 :: ks, x :: xs, ρ, h => by
    have h' : (ks.all fun k => decide (k < 2)) = true := by simpa using h
    show (if i < ρ.length then setAllO is (ks.map fun k => k == 1) xs _ else none) = if i < ρ.length then setAllK is ks xs _ else none
    rw [setAllO_K h']
  | i :: is, 1 :: ks, x :: xs, ρ, h => by
    have h' : (ks.all fun k => decide (k < 2)) = true := by simpa using h
    cases x with
    | list ys =>
      show (if i < ρ.length then setAllO is (ks.map fun k => k == 1) xs _ else none) = if i < ρ.length then setAllK is ks xs _ else none
      rw [setAllO_K h']
    | _ => rfl
/-- an item of one's own is stored -/
def stoI (x : PyData) (i : Nat) (y : PyData) (ρ : En) : Option En := match ρ[i]?, y with
  | some (some (.own b xs)), .int k => match ixN xs.length k with
    | some j => some (ρ.set i (some (.own b (xs.set j x))))
    | none => none
  | some (some (.od xs)), y => match keyD y with
    | some _ => if xs.length < sizeLine then some (ρ.set i (some (.od (dputD xs y x)))) else none
    | none => none
  | _, _ => none
/-- names and items stored, one after the other -/
def stoS (e : Ep → En → Option (PyData × En)) : List (Nat × Option Ep) → List PyData → En → Option En
  | [], [], ρ => some ρ
  | (i, none) :: ts, x :: xs, ρ => if i < ρ.length then stoS e ts xs (ρ.set i (some (.d x))) else none
  | (i, some a) :: ts, x :: xs, ρ => match ρ[i]? with
    | some (some _) => match e a ρ with
      | some (y, ρ) => match stoI x i y ρ with
        | some ρ => stoS e ts xs ρ
        | none => none
      | none => none
    | _ => none
  | _, _, _ => none
mutual
def ex (c : Cfg) : Sm → En → Option (Fl × En)
  | .set i e, ρ => bnd (ev c e ρ) fun x ρ => if i < ρ.length then some (.next, ρ.set i (some (.d x))) else none
  | .seto i e, ρ => bnd (ev c e ρ) fun x ρ => match x with
    | .list xs => if i < ρ.length then some (.next, ρ.set i (some (.own false xs))) else none
    | _ => none
  | .setk i e, ρ => bnd (ev c e ρ) fun x ρ => match x with
    | .dict xs => if i < ρ.length then some (.next, ρ.set i (some (.od xs))) else none
    | _ => none
  | .unp ts e, ρ => bnd (ev c e ρ) fun x ρ => match bindT (.tup ts) x ρ with
    | none => none
    | some ρ => some (.next, ρ)
  | .par is es, ρ => bnd (evs c es ρ) fun xs ρ => match setAll is xs ρ with
    | none => none
    | some ρ => some (.next, ρ)
  | .paro is os es, ρ => bnd (evs c es ρ) fun xs ρ => match setAllO is os xs ρ with
    | none => none
    | some ρ => some (.next, ρ)
  | .parok is ks es, ρ => bnd (evs c es ρ) fun xs ρ => match setAllK is ks xs ρ with
    | none => none
    | some ρ => some (.next, ρ)
  | .seti i a e, ρ => bnd (ev c e ρ) fun x ρ => match ρ[i]? with
    | some (some _) => bnd (ev c a ρ) fun y ρ => match ρ[i]?, y with
      | some (some (.own b xs)), .int k => match ixN xs.length k with
        | some j => some (.next, ρ.set i (some (.own b (xs.set j x))))
        | none => none
      | some (some (.od xs)), y => match keyD y with
        | some _ => if xs.length < sizeLine then some (.next, ρ.set i (some (.od (dputD xs y x)))) else none
        | none => none
      | _, _ => none
    | _ => none
  | .parS ts es, ρ => bnd (evs c es ρ) fun xs ρ => match stoS (ev c) ts xs ρ with
    | none => none
    | some ρ => some (.next, ρ)
  | .app i e, ρ => match ρ[i]? with
    | some (some (.own _ _)) => bnd (ev c e ρ) fun x ρ => match ρ[i]? with
      | some (some (.own b xs)) => if xs.length < sizeLine then some (.next, ρ.set i (some (.own b (xs ++ [x])))) else none
      | _ => none
    | _ => none
  | .ext i e, ρ => match ρ[i]? with
    | some (some (.own _ _)) => bnd (ev c e ρ) fun x ρ => match ρ[i]?, x with
      | some (some (.own b xs)), .list ys => if xs.length + ys.length ≤ sizeLine then some (.next, ρ.set i (some (.own b (xs ++ ys)))) else none
      | _, _ => none
    | _ => none
  | .expr e, ρ => bnd (ev c e ρ) fun _ ρ => some (.next, ρ)
  | .ret e, ρ => bnd (ev c e ρ) fun x ρ => some (.ret x, ρ)
  | .retN, ρ => some (.ret .none, ρ)
  | .ite t a b, ρ => bnd (evT c t ρ) fun r ρ => match r with
    | true => exs c a ρ
    | false => exs c b ρ
  | .for_ tg it body, ρ => bnd (evI c it ρ) fun xs ρ => forI (fun x ρ => match bindT tg x ρ with
      | none => none
      | some ρ => exs c body ρ) xs ρ
  | .wh t body, ρ => whI (evT c t) (exs c body) c.wf ρ
  | .pass, ρ => some (.next, ρ)
  | .brk, ρ => some (.brk, ρ)
  | .cont, ρ => some (.cont, ρ)
  | .fail _, _ => none
def exs (c : Cfg) : List Sm → En → Option (Fl × En)
  | [], ρ => some (.next, ρ)
  | s :: ss, ρ => bnd (ex c s ρ) fun f ρ => match f with
    | .next => exs c ss ρ
    | f => some (f, ρ)
end
mutual
/-- which class a statement raises -/
def exR (c : Cfg) : Sm → En → Option Str
  | .fail x, _ => x
  | .ite t a b, ρ => match evT c t ρ with
    | some (true, ρ) => exRs c a ρ
    | some (false, ρ) => exRs c b ρ
    | none => none
  | .expr e, ρ => exC c e ρ
  | .set _ e, ρ => exC c e ρ
  | .unp _ e, ρ => exC c e ρ
  | .ret e, ρ => exC c e ρ
  | _, _ => none
def exRs (c : Cfg) : List Sm → En → Option Str
  | [], _ => none
  | s :: ss, ρ => match ex c s ρ with
    | some (.next, ρ) => exRs c ss ρ
    | some _ => none
    | none => exR c s ρ
/-- .. a call of a def -/
def exC (c : Cfg) : Ep → En → Option Str
  | .call f (e :: es), ρ => match evs c (e :: es) ρ with
    | some (xs, _) => c.exc f xs
    | none => none
  | _, _ => none
end
/-- a call's shape: how many values stand first, the keywords' names, what each parameter takes -/
structure Kw where
  n : Nat
  ks : List Str
  ix : List (Nat ⊕ PyData)
structure Fn where
  pen : Bool
  fr : Bool
  np : Nat
  ns : Nat
  body : List Sm
  kw : List Kw := []
/-- a def with parameters by keyword alone: no plain call binds them -/
def koK (l : List Kw) : Bool := l.any fun sh => sh.ks == [("" : Str)]
def startE (f : Fn) (p : Option (List PyData)) (xs : List PyData) : En :=
  (match p with | none => [] | some q => [some (.own true q)]) ++ xs.map (fun x => some (.d x)) ++ List.replicate (f.ns - f.np) none
/-- the borrowed list as it is in the end -/
def penOf (ρ : En) : Option (List PyData) := match ρ[0]? with
  | some (some (Sv.own true q)) => some q
  | _ => none
def endF (f : Fn) (x : PyData) (ρ : En) : Option (PyData × Option (List PyData)) :=
  if f.pen then (penOf ρ).map fun q => (x, some q) else if f.fr then (match x with | .list _ => some (x, none) | _ => none) else some (x, none)
def runF (c : Cfg) (f : Fn) (p : Option (List PyData)) (xs : List PyData) : Option (PyData × Option (List PyData)) :=
  if (p.isSome == f.pen) && !(f.pen && f.fr) && (xs.length + (if f.pen then 1 else 0) == f.np) && decide (f.np ≤ f.ns) then
    match exs c f.body (startE f p xs) with
    | some (Fl.ret x, ρ) => endF f x ρ
    | some (Fl.next, ρ) => endF f .none ρ
    | _ => none
  else none
def runX (c : Cfg) (f : Fn) (xs : List PyData) : Option Str :=
  if !f.pen && (xs.length == f.np) && decide (f.np ≤ f.ns) then exRs c f.body (startE f none xs) else none
def semI (g : Str → Option PyData) (wf : Nat) (tab : List (Str × Fn)) : Nat → (Str → Option (List PyData) → List PyData → Option (PyData × Option (List PyData))) × (Str → List PyData → Option Str)
  | 0 => (fun _ _ _ => none, fun _ _ => none)
  | k + 1 => (fun x p xs => match tab.lookup x with
    | none => none
    | some f => runF ⟨(semI g wf tab k).1, g, wf, (semI g wf tab k).2⟩ f p xs, fun x xs => match tab.lookup x with
    | none => none
    | some f => runX ⟨(semI g wf tab k).1, g, wf, (semI g wf tab k).2⟩ f xs)
def callI (g : Str → Option PyData) (wf : Nat) (tab : List (Str × Fn)) (k : Nat) : Str → Option (List PyData) → List PyData → Option (PyData × Option (List PyData)) := (semI g wf tab k).1
def excI (g : Str → Option PyData) (wf : Nat) (tab : List (Str × Fn)) (k : Nat) : Str → List PyData → Option Str := (semI g wf tab k).2
end Wh

set_option Elab.async false
set_option linter.all false
set_option maxRecDepth 100000
set_option maxHeartbeats 1000000
/-! Wh3: readings of evaluators, operators on values. -/
namespace Wh
open PySem PySem.Spec PyProof.Rows L2 Evl
variable [Tbl]

/-! ### readings of evaluators -/
def tE (K : PySem.W.Frag) (f : En → Option (PyData × En)) : TE := fun σ H Q => ∃ ρ F x ρ', Rep K ρ σ F H ∧ f ρ = some (x, ρ') ∧ ∀ v F' H', Rep K ρ' σ F' H' → StpE ρ σ F H ρ' F' H' → Rp K F' v x → Q v H'
def tEL (K : PySem.W.Frag) (f : En → Option (PyData × En)) : TE := fun σ H Q => ∃ ρ F xs ρ', Rep K ρ σ F H ∧ f ρ = some (.list xs, ρ') ∧
  ∀ p vs F' H', Rep K ρ' σ F' H' → StpE ρ σ F H ρ' F' H' → H p = none → F' p = none → H' p = some (.lst vs) → RpA K F' vs xs → Q (.ref p) H'
/-- a new dict -/
def tEK (K : PySem.W.Frag) (f : En → Option (PyData × En)) : TE := fun σ H Q => ∃ ρ F xs ρ', Rep K ρ σ F H ∧ f ρ = some (.dict xs, ρ') ∧
  ∀ p vs F' H', Rep K ρ' σ F' H' → StpE ρ σ F H ρ' F' H' → H p = none → F' p = none → H' p = some (.dK vs) → RpK K F' vs xs → Q (.ref p) H'
def tT (K : PySem.W.Frag) (f : En → Option (Bool × En)) : TT := fun σ H Q => ∃ ρ F x ρ', Rep K ρ σ F H ∧ f ρ = some (x, ρ') ∧ ∀ F' H', Rep K ρ' σ F' H' → StpE ρ σ F H ρ' F' H' → Q x H'
def tA (K : PySem.W.Frag) (f : En → Option (List PyData × En)) : TA := fun σ H Q => ∃ ρ F x ρ', Rep K ρ σ F H ∧ f ρ = some (x, ρ') ∧ ∀ vs F' H', Rep K ρ' σ F' H' → StpE ρ σ F H ρ' F' H' → RpA K F' vs x → Q vs H'
def tO (K : PySem.W.Frag) (f : En → Option (Option PyData × En)) : TO := fun σ H Q => ∃ ρ F x i ρ', Rep K ρ σ F H ∧ f ρ = some (x, ρ') ∧ partD x = some i ∧ ∀ F' H', Rep K ρ' σ F' H' → StpE ρ σ F H ρ' F' H' → Q i H'

section
variable {X : Cx} {e a b : Expr} {t t' : TE} {u u' : TT}
theorem _root_.L2.PE.wk (h : PE X e t) (w : ∀ σ H Q, t' σ H Q → t σ H Q) : PE X e t' := ⟨fun pins s σ H Q I q => h.run pins s σ H Q I (w _ _ _ q)⟩
theorem _root_.L2.PT.wk (h : PT X e u) (w : ∀ σ H Q, u' σ H Q → u σ H Q) : PT X e u' := ⟨fun pins s σ H Q I q => h.run pins s σ H Q I (w _ _ _ q)⟩
theorem _root_.L2.PW.wk (h : PW X e u) (w : ∀ σ H Q, u' σ H Q → u σ H Q) : PW X e u' := ⟨fun wh pins s σ H Q I q => h.run wh pins s σ H Q I (w _ _ _ q)⟩
theorem _root_.L2.PA.wk {es : List Expr} {t t' : TA} (h : PA X es t) (w : ∀ σ H Q, t' σ H Q → t σ H Q) : PA X es t' := ⟨fun pos pins s σ H Q I q => h.run pos pins s σ H Q I (w _ _ _ q)⟩
theorem _root_.L2.PO.wk {es : Option Expr} {t t' : TO} (h : PO X es t) (w : ∀ σ H Q, t' σ H Q → t σ H Q) : PO X es t' := ⟨fun pins s σ H Q I q => h.run pins s σ H Q I (w _ _ _ q)⟩
theorem _root_.L2.PSs.wk {es : List Stmt} {t t' : TS} (h : PSs X es t) (w : ∀ D σ H, t' D σ H → t D σ H) : PSs X es t' := ⟨fun pins s σ H D I q => h.run pins s σ H D I (w _ _ _ q)⟩
theorem _root_.L2.PS.wk {es : Stmt} {t t' : TS} (h : PS X es t) (w : ∀ D σ H, t' D σ H → t D σ H) : PS X es t' := ⟨fun pins s σ H D I q => h.run pins s σ H D I (w _ _ _ q)⟩
theorem _root_.L2.PG.wk {es : Expr} {t t' : TG} (h : PG X es t) (w : ∀ v σ H Q, t' v σ H Q → t v σ H Q) : PG X es t' := ⟨fun pins s σ H v u Q I r q => h.run pins s σ H v u Q I r (w _ _ _ _ q)⟩
theorem _root_.L2.PI.wk {tg es : Expr} {t t' : TI} (h : PI X tg es t) (w : ∀ σ H Q, t' σ H Q → t σ H Q) : PI X tg es t' := ⟨fun pins s σ H R I q => h.run pins s σ H R I (w _ _ _ q)⟩
end

/-! ### operators on values -/
def RB (K : PySem.W.Frag) (r : R2) (f : PyData → PyData → Option PyData) : Prop := ∀ {ρ : En} {σ : L2.St} {F H : Hp} {vx vy : V} {x y z : PyData} {Q : VK}, Rep K ρ σ F H → Rp K F vx x → Rp K F vy y → f x y = some z →
  (∀ v F' H', Rep K ρ σ F' H' → StpE ρ σ F H ρ F' H' → Rp K F' v z → Q v H') → r vx vy H Q
def RU1 (K : PySem.W.Frag) (r : List V → Hp → VK → Prop) (f : PyData → Option PyData) : Prop := ∀ {ρ : En} {σ : L2.St} {F H : Hp} {vx : V} {x z : PyData} {Q : VK}, Rep K ρ σ F H → Rp K F vx x → f x = some z →
  (∀ v F' H', Rep K ρ σ F' H' → StpE ρ σ F H ρ F' H' → Rp K F' v z → Q v H') → r [vx] H Q
def RU2 (K : PySem.W.Frag) (r : List V → Hp → VK → Prop) (f : PyData → PyData → Option PyData) : Prop := ∀ {ρ : En} {σ : L2.St} {F H : Hp} {vx vy : V} {x y z : PyData} {Q : VK}, Rep K ρ σ F H → Rp K F vx x → Rp K F vy y → f x y = some z →
  (∀ v F' H', Rep K ρ σ F' H' → StpE ρ σ F H ρ F' H' → Rp K F' v z → Q v H') → r [vx, vy] H Q
section
variable {K : PySem.W.Frag} {ρ : En} {σ : L2.St} {F H : Hp} {Q : VK}
/-- nothing laid -/
theorem keepQ {v : V} {z : PyData} (rep : Rep K ρ σ F H) (q : ∀ v F' H', Rep K ρ σ F' H' → StpE ρ σ F H ρ F' H' → Rp K F' v z → Q v H') (h : Rp K F v z) : Q v H := q v F H rep StpE.refl h
/-- a tuple, a list laid as data -/
theorem layT {p : Addr} {vs : List V} {zs : List PyData} (rep : Rep K ρ σ F H) (q : ∀ v F' H', Rep K ρ σ F' H' → StpE ρ σ F H ρ F' H' → Rp K F' v (.tuple zs) → Q v H') (hp : H p = none) (h : RpA K F vs zs) : Q (.ref p) (upd H p (.tup vs)) :=
  q _ _ _ (rep.lay hp) (StpE.lay rep hp) (.tup (SqT.of upd_same) (h.mono (Ex.new (fresh_back rep.ex hp))))
theorem layL {p : Addr} {vs : List V} {zs : List PyData} (rep : Rep K ρ σ F H) (q : ∀ v F' H', Rep K ρ σ F' H' → StpE ρ σ F H ρ F' H' → Rp K F' v (.list zs) → Q v H') (hp : H p = none) (h : RpA K F vs zs) : Q (.ref p) (upd H p (.lst vs)) :=
  q _ _ _ (rep.lay hp) (StpE.lay rep hp) (.lst (SqL.of upd_same) (h.mono (Ex.new (fresh_back rep.ex hp))))
theorem Rep.exL (rep : Rep K ρ σ F H) {a : Addr} {xs : List V} (h : SqL K F a xs) : SqL K H a xs := ex_l rep.ex h
theorem Rep.exT (rep : Rep K ρ σ F H) {a : Addr} {xs : List V} (h : SqT K F a xs) : SqT K H a xs := ex_t rep.ex h
end

theorem int_rmul_list (a : Int) (t : Tok) (l : Addr) (items : Array Value) (n : Nat) (dd : Option Addr) (sl : Array (Option Value)) :
    Meets (Builtin.«int.__rmul__» ⟨[.int a t, .ref l], []⟩) (fun _ R s => s.heap.get? l = some { cls := .type "list", dict := dd, data := .seq items n, slots := sl } ∧ R (.ok (.ret Value.notImplemented)) s) :=
  .of_wp fun prog w A R s h => by obtain ⟨hp, g, d, tk, os⟩ := s; obtain ⟨hl, h⟩ := h; wp_walk using wpAny_loadPart' hl; exact ⟨_, rfl, h⟩
theorem list_mulW (l : Addr) (items : Array Value) (n : Nat) (dd : Option Addr) (sl : Array (Option Value)) (x : Int) (u : Tok) (hc0 : ¬(!Builtin.List.listFitsIndex x) = true) (hc1 : ¬items.size * x.toNat > (2 ^ 63 - 1) / 8) (hc2 : ¬Builtin.List.listTooLong (items.size * x.toNat) = true) (hsz : (List.foldl (fun x1 x2 => x1 ++ x2) #[] (List.replicate (if items.isEmpty = true then 0 else x.toNat) items)).size ≤ sizeLine) :
    Meets (Builtin.«list.__mul__» ⟨[.ref l, .int x u], []⟩) (fun _ R s => s.heap.get? l = some { cls := .type "list", dict := dd, data := .seq items n, slots := sl } ∧
      R (.ok (.ret (Value.ref s.heap.objs.size))) { s with heap := s.heap.push { cls := Value.type "list", data := Data.seq (List.foldl (fun x1 x2 => x1 ++ x2) #[] (List.replicate (if items.isEmpty = true then 0 else x.toNat) items)) }, toks := s.toks }) :=
  .of_wp fun prog w A R s h => by
    obtain ⟨hp, g, d, tk, os⟩ := s
    obtain ⟨hl, h⟩ := h
    have f1 := AutoSeq1.idx_int
    wp_walk using wpAny_loadPart' hl
    repeat (first
      | (refine wpAny_ite_false (decide_eq_false hc0) ?_; wp_walk using wpAny_loadPart' hl)
      | (refine wpAny_ite_false (decide_eq_false hc1) ?_; wp_walk using wpAny_loadPart' hl)
      | (refine wpAny_ite_false (decide_eq_false hc2) ?_; wp_walk using wpAny_loadPart' hl)
      | (refine wpAny_ite_false (decide_eq_false (Nat.not_lt.mpr hsz)) ?_; wp_walk using wpAny_loadPart' hl))
    exact ⟨_, rfl, h⟩
section
variable {X : Cx}
def rRepL (K : PySem.W.Frag) : R2 := fun x y H Q => ∃ l k xs, x = .ref l ∧ y = .int k ∧ SqL K H l xs ∧ -(2 ^ 63) ≤ k ∧ k < 2 ^ 63 ∧ xs.length * k.toNat ≤ sizeLine ∧
  ∀ p, H p = none → Q (.ref p) (upd H p (.lst (List.replicate k.toNat xs).flatten))
theorem op_repL : OpR X (binaryOp .Mult) (rRepL X.K) := by
  intro pins s σ H x y v u Q I rx ry h
  obtain ⟨l, k, xs, rfl, rfl, hH, h1, h2, hz, q⟩ := h
  cases rx
  obtain ⟨t, rfl⟩ := ry
  obtain ⟨its, r, ⟨⟨cls, dd, data, sl⟩, n, ho, hc, hd0, hd⟩, z⟩ := I.list hH
  have hl := r.length
  simp only at hc hd
  subst hc hd
  have hlen : its.toArray.size * k.toNat ≤ sizeLine := by rw [List.size_toArray, ← hl]; exact hz
  have hcap : ¬ its.toArray.size * k.toNat > (2 ^ 63 - 1) / 8 := by
    have : (sizeLine : Nat) ≤ (2 ^ 63 - 1) / 8 := by decide
    omega
  have hfit : ¬ (!Builtin.List.listFitsIndex k) = true := by
    rw [fitsIndex_both h1 h2]
    exact Bool.false_ne_true
  have hlong : ¬ Builtin.List.listTooLong (its.toArray.size * k.toNat) = true := by
    rw [notLongL hlen]
    exact Bool.false_ne_true
  have hnew : List.foldl (fun x1 x2 => x1 ++ x2) #[] (List.replicate (if its.toArray.isEmpty = true then 0 else k.toNat) its.toArray) = (List.replicate k.toNat its).flatten.toArray := by
    have f0 : ∀ m : Nat, List.foldl (fun x1 x2 => x1 ++ x2) #[] (List.replicate m its.toArray) = (List.replicate m its).flatten.toArray := fun m => by
      have := foldl_rep its m []
      rw [List.nil_append] at this
      exact this
    rw [f0]
    cases its with
    | nil => simp
    | cons a r' => rw [if_neg (by simp)]
  have hsz : (List.foldl (fun x1 x2 => x1 ++ x2) #[] (List.replicate (if its.toArray.isEmpty = true then 0 else k.toNat) its.toArray)).size ≤ sizeLine := by
    rw [hnew, List.size_toArray, PyProof.Rows.lm_len_rep_flat, Nat.mul_comm]
    rw [List.size_toArray] at hlen
    exact hlen
  refine wpAny_binaryOp_repeat_ref (T := "list") (U := "int") (by decide) ⟨_, ho, rfl⟩ (fun s' => typeIs_int s' k t) noFill_list_mul F.fills_int_mul F.slot_int_rmul repeat_list F.slot_int_index.lookup
    (call_meets F.slot_int_rmul (typeIs_int s k t) F.entry_int_rmul (F.args_int_rmul_2 _ _) (int_rmul_list k t l its.toArray n dd sl)
      ⟨ho, rfl, ⟨_, ho, rfl⟩, call_meets F.slot_list_mul ⟨_, ho, rfl⟩ F.entry_list_mul (F.args_list_mul_2 _ _) (list_mulW l its.toArray n dd sl k t hfit hcap hlong hsz) ⟨ho, ?_⟩⟩)
  rw [hnew]
  exact ⟨.ref _, _, I.lnew (t' := s.toks) (r.rep k.toNat) (by rw [PyProof.Rows.lm_len_rep_flat, Nat.mul_comm]; exact hz), rfl, q _ I.fresh⟩
end
section
variable {X : Cx}
/-! list + list, either one tracked, frozen or written -/
def rCatL (K : PySem.W.Frag) : R2 := fun x y H Q => ∃ l b xs zs, x = .ref l ∧ y = .ref b ∧ SqL K H l xs ∧ SqL K H b zs ∧ xs.length + zs.length ≤ sizeLine ∧ ∀ p, H p = none → Q (.ref p) (upd H p (.lst (xs ++ zs)))
theorem op_catL : OpR X (binaryOp .Add) (rCatL X.K) := by
  intro pins s σ H x y v u Q I rx ry h
  obtain ⟨l, b, xs, zs, rfl, rfl, hH, hB, hz, q⟩ := h
  cases rx
  cases ry
  obtain ⟨its, r, ⟨⟨cls, dd, data, sl⟩, n, ho, hc, hd0, hd⟩, z⟩ := I.list hH
  obtain ⟨its2, r2, ⟨⟨cls2, dd2, data2, sl2⟩, n2, ho2, hc2, hd20, hd2⟩, z2⟩ := I.list hB
  have hl := r.length
  have hl2 := r2.length
  simp only at hc hd hc2 hd2
  subst hc hd hc2 hd2
  refine concat_meets ⟨_, ho, rfl⟩ ⟨_, ho2, rfl⟩ noFill_list_add seq_list_add PySem.F.slot_list_add PySem.F.entry_list_add (PySem.F.args_list_add_2 _ _) (list_addW l b its.toArray its2.toArray n n2 dd dd2 sl sl2 (by rw [List.size_toArray, List.size_toArray]; omega)) ⟨ho, ho2, ?_⟩
  have ea : its.toArray ++ its2.toArray = (its ++ its2).toArray := by simp
  rw [ea]
  exact ⟨.ref _, _, I.lnew (t' := s.toks) (r.append r2) (by rw [List.length_append]; omega), rfl, q _ I.fresh⟩
theorem op_fdivA : OpR X (binaryOp .FloorDiv) (rI (fun _ j => j ≠ 0 ∧ j.natAbs.log2 < 9000) fun i j => .int (i.fdiv j)) := opI fun i j _ _ _ _ _ hc q =>
  floordiv_int hc.1 q (.inl (PyProof.noPylong_of_log2 hc.2))

abbrev rAddA (K : PySem.W.Frag) : R2 := fun x y H Q => rI0 (fun i j => .int (i + j)) x y H Q ∨ ((∃ i j, x = .str i ∧ y = .str j ∧ i.length + j.length ≤ sizeLine ∧ Q (.str (i ++ j)) H) ∨ (rCatA K x y H Q ∨ rCatL K x y H Q))
theorem op_addA : OpR X (binaryOp .Add) (rAddA X.K) := op_add.or (op_add_str.or (op_catA.or op_catL))
theorem rb_add {K : PySem.W.Frag} : RB K (rAddA K) (binD .add) := by
  intro ρ σ F H vx vy x y z Q rep hx hy h q
  cases hx <;> cases hy <;> first | (simp only [binD] at h; done) | skip
  all_goals simp only [binD] at h
  all_goals first | (cases h; done) | skip
  · cases h
    exact .inl ⟨_, _, rfl, rfl, keepQ rep q (.int _)⟩
  · split at h
    · cases h
      exact .inr (.inl ⟨_, _, rfl, rfl, by assumption, keepQ rep q (.str _)⟩)
    · cases h
  · rename_i a xs ds h1 h2 b ys es h3 h4
    split at h
    · rename_i hz
      cases h
      refine .inr (.inr (.inr ⟨a, b, xs, ys, rfl, rfl, rep.exL h1, rep.exL h3, by rw [h2.len, h4.len]; exact hz, fun p hp => layL rep q hp (h2.append h4)⟩))
    · cases h
  · rename_i a xs ds h1 h2 b ys es h3 h4
    split at h
    · rename_i hz
      cases h
      refine .inr (.inr (.inl ⟨a, b, xs, ys, rfl, rfl, rep.exT h1, rep.exT h3, by rw [h2.len, h4.len]; exact hz, fun e => ?_, fun _ e => ?_, fun _ _ p hp => layT rep q hp (h2.append h4)⟩))
      · subst e
        cases h2
        exact keepQ rep q (.tup h3 h4)
      · subst e
        cases h4
        rw [List.append_nil] at q
        exact keepQ rep q (.tup h1 h2)
    · cases h
theorem rb_I {K : PySem.W.Frag} {f : PyData → PyData → Option PyData} {C : Int → Int → Prop} {g : Int → Int → Int} (hf : ∀ x y z, f x y = some z → ∃ i j, x = .int i ∧ y = .int j ∧ C i j ∧ z = .int (g i j)) : RB K (rI C fun i j => .int (g i j)) f := by
  intro ρ σ F H vx vy x y z Q rep hx hy h q
  obtain ⟨i, j, rfl, rfl, hc, rfl⟩ := hf x y z h
  cases hx
  cases hy
  exact ⟨i, j, rfl, rfl, hc, keepQ rep q (.int _)⟩
theorem rb_I0 {K : PySem.W.Frag} {f : PyData → PyData → Option PyData} {g : Int → Int → Int} (hf : ∀ x y z, f x y = some z → ∃ i j, x = .int i ∧ y = .int j ∧ z = .int (g i j)) : RB K (rI0 fun i j => .int (g i j)) f := by
  intro ρ σ F H vx vy x y z Q rep hx hy h q
  obtain ⟨i, j, rfl, rfl, rfl⟩ := hf x y z h
  cases hx
  cases hy
  exact ⟨i, j, rfl, rfl, keepQ rep q (.int _)⟩
theorem rb_sub {K : PySem.W.Frag} : RB K (rI0 fun i j => .int (i - j)) (binD .sub) := rb_I0 fun x y z h => by
  cases x <;> cases y <;> simp only [binD] at h <;> first | (cases h; exact ⟨_, _, rfl, rfl, rfl⟩) | cases h
theorem rb_band {K : PySem.W.Frag} : RB K (rI0 fun i j => .int (Builtin.bitAnd i j)) (binD .band) := rb_I0 fun x y z h => by
  cases x <;> cases y <;> simp only [binD] at h <;> first | (cases h; exact ⟨_, _, rfl, rfl, rfl⟩) | cases h
/-- x * 1, x a tuple: x itself -/
def rRep1 (K : PySem.W.Frag) : R2 := fun x y H Q => ∃ l xs, x = .ref l ∧ y = .int 1 ∧ SqT K H l xs ∧ Q (.ref l) H
theorem tuple_mul1 (l : Addr) (items : Array Value) (n : Nat) (dd : Option Addr) (sl : Array (Option Value)) (x : Int) (u : Tok) (c0 : (decide (x < -(2 ^ 63)) || decide (x ≥ 2 ^ 63)) = false) (c1 : (items.isEmpty || x == 1) = true) :
    Meets (Builtin.«tuple.__mul__» ⟨[.ref l, .int x u], []⟩) (fun _ R s => s.heap.get? l = some { cls := .type "tuple", dict := dd, data := .seq items n, slots := sl } ∧ R (.ok (.ret (Value.ref l))) s) :=
  .of_wp fun prog w A R s h => by
    obtain ⟨hp, g, d, tk, os⟩ := s
    obtain ⟨hl, h⟩ := h
    have f1 := PySem.AutoSeq1.idx_int
    wp_walk using wpAny_loadPart' hl
    repeat (first
      | (refine wpAny_ite_false (decide_eq_false (by rw [c0]; exact Bool.false_ne_true)) ?_; wp_walk using wpAny_loadPart' hl)
      | (refine wpAny_ite_true (decide_eq_true (by rw [c1])) ?_; wp_walk using wpAny_loadPart' hl)
      | (rw [if_pos c1]; wp_walk using wpAny_loadPart' hl))
    exact ⟨_, rfl, h⟩
theorem op_rep1 {X : Cx} : OpR X (binaryOp .Mult) (rRep1 X.K) := by
  intro pins s σ H x y v u Q I rx ry h
  obtain ⟨l, xs, rfl, rfl, hT, q⟩ := h
  cases rx
  obtain ⟨t, rfl⟩ := ry
  obtain ⟨its, r, ⟨⟨cls, dd, data, sl⟩, ho, hc, n, hd⟩, hs⟩ := I.tuple hT
  simp only at hc hd
  subst hc hd
  refine wpAny_binaryOp_repeat_ref (T := "tuple") (U := "int") (by decide) ⟨_, ho, rfl⟩ (fun s' => typeIs_int s' 1 t) noFill_tuple_mul F.fills_int_mul F.slot_int_rmul repeat_tuple F.slot_int_index.lookup
    (call_meets F.slot_int_rmul (typeIs_int s 1 t) F.entry_int_rmul (F.args_int_rmul_2 _ _) (int_rmul_tuple 1 t l its.toArray n dd sl)
      ⟨ho, rfl, ⟨_, ho, rfl⟩, call_meets F.slot_tuple_mul ⟨_, ho, rfl⟩ F.entry_tuple_mul (F.args_tuple_mul_2 _ _) (tuple_mul1 l its.toArray n dd sl 1 t (by decide) (by simp)) ⟨ho, ?_⟩⟩)
  exact ⟨.ref l, H, I, rfl, q⟩
def rMulA (K : PySem.W.Frag) : R2 := fun x y H Q => rI CMulW (fun i j => .int (i * j)) x y H Q ∨ ((rRepT K x y H Q ∨ rRep1 K x y H Q) ∨ rRepL K x y H Q)
theorem RpA.rep {K : PySem.W.Frag} {F : Hp} {vs : List V} {ds : List PyData} (h : RpA K F vs ds) : ∀ n : Nat, RpA K F (List.replicate n vs).flatten (List.replicate n ds).flatten
  | 0 => .nil
  | n + 1 => by
    rw [List.replicate_succ, List.replicate_succ, List.flatten_cons, List.flatten_cons]
    exact h.append (RpA.rep h n)
theorem rb_mul {K : PySem.W.Frag} : RB K (rMulA K) (binD .mul) := by
  intro ρ σ F H vx vy x y z Q rep hx hy h q
  cases hx <;> cases hy <;> first | (simp only [binD] at h; done) | skip
  all_goals simp only [binD] at h
  all_goals first | (cases h; done) | skip
  · split at h
    · rename_i hm
      cases h
      rw [mulOk, decide_eq_true_eq] at hm
      exact .inl ⟨_, _, rfl, rfl, hm, keepQ rep q (.int _)⟩
    · cases h
  · rename_i a xs ds h1 h2 k
    split at h
    · rename_i hm
      cases h
      obtain ⟨m1, m2, m3⟩ := hm
      have hl := h2.len
      have hz : xs.length * k.toNat ≤ sizeLine := by
        have : xs.length * k.toNat ≤ 1000 * 1000 := Nat.mul_le_mul (by omega) (by omega)
        have : (1000 * 1000 : Nat) ≤ sizeLine := by decide
        omega
      exact .inr (.inr ⟨a, k, xs, rfl, rfl, rep.exL h1, by omega, by omega, hz, fun p hp => layL rep q hp (h2.rep _)⟩)
    · cases h
  · rename_i a xs ds h1 h2 k
    split at h
    · rename_i hm
      cases h
      obtain ⟨m1, m2, m3, m4⟩ := hm
      have hl := h2.len
      refine .inr <| .inl <| .inl ⟨a, k, xs, rfl, rfl, rep.exT h1, fun e => ?_, m2, m3, by omega, fun p hp => layT rep q hp (h2.rep _)⟩
      subst e
      cases h2
      cases m1
    · split at h
      · rename_i hk
        cases h
        subst hk
        exact .inr (.inl (.inr ⟨a, xs, rfl, rfl, rep.exT h1, keepQ rep q (.tup h1 h2)⟩))
      · cases h
theorem rb_fdiv {K : PySem.W.Frag} : RB K (rI (fun _ j => j ≠ 0 ∧ j.natAbs.log2 < 9000) fun i j => .int (i.fdiv j)) (binD .fdiv) := rb_I fun x y z h => by
  cases x <;> cases y <;> simp only [binD] at h <;> first | (cases h; done) | skip
  split at h
  · rename_i hm
    cases h
    rw [divOk, Bool.and_eq_true, decide_eq_true_eq, decide_eq_true_eq] at hm
    exact ⟨_, _, rfl, rfl, hm, rfl⟩
  · cases h
theorem rb_mod {K : PySem.W.Frag} : RB K (rI (fun _ j => j ≠ 0) fun i j => .int (i.fmod j)) (binD .mod) := rb_I fun x y z h => by
  cases x <;> cases y <;> simp only [binD] at h <;> first | (cases h; done) | skip
  split at h
  · cases h
  · cases h
    exact ⟨_, _, rfl, rfl, by assumption, rfl⟩
theorem rb_pow {K : PySem.W.Frag} : RB K (rI CPow fun i j => .int (i ^ j.toNat)) (binD .pow) := rb_I fun x y z h => by
  cases x <;> cases y <;> simp only [binD] at h <;> first | (cases h; done) | skip
  split at h
  · cases h
    exact ⟨_, _, rfl, rfl, by assumption, rfl⟩
  · cases h
theorem rb_shl {K : PySem.W.Frag} : RB K (rI CPow fun i j => .int (i * 2 ^ j.toNat)) (binD .shl) := rb_I fun x y z h => by
  cases x <;> cases y <;> simp only [binD] at h <;> first | (cases h; done) | skip
  split at h
  · cases h
    exact ⟨_, _, rfl, rfl, by assumption, rfl⟩
  · cases h
theorem rb_shr {K : PySem.W.Frag} : RB K (rI (fun _ j => 0 ≤ j) fun i j => .int (i / 2 ^ j.toNat)) (binD .shr) := rb_I fun x y z h => by
  cases x <;> cases y <;> simp only [binD] at h <;> first | (cases h; done) | skip
  split at h
  · cases h
    exact ⟨_, _, rfl, rfl, by assumption, rfl⟩
  · cases h
/-- the operator of the text -/
def opOf : Operator → Option BOp
  | .Add => some .add | .Sub => some .sub | .Mult => some .mul | .FloorDiv => some .fdiv | .Mod => some .mod | .Pow => some .pow | .LShift => some .shl | .RShift => some .shr | .BitAnd => some .band
  | _ => none
theorem op_any {o : Operator} {b : BOp} (h : opOf o = some b) : ∃ r, OpR X (binaryOp o) r ∧ RB X.K r (binD b) := by
  cases o <;> cases h
  · exact ⟨_, op_addA, rb_add⟩
  · exact ⟨_, op_sub, rb_sub⟩
  · exact ⟨_, op_mulW.or ((op_repT.or op_rep1).or op_repL), rb_mul⟩
  · exact ⟨_, op_modN, rb_mod⟩
  · exact ⟨_, op_pow, rb_pow⟩
  · exact ⟨_, op_shl, rb_shl⟩
  · exact ⟨_, op_shr, rb_shr⟩
  · exact ⟨_, op_and, rb_band⟩
  · exact ⟨_, op_fdivA, rb_fdiv⟩
end
end Wh

set_option Elab.async false
set_option linter.all false
set_option maxRecDepth 100000
set_option maxHeartbeats 1000000
/-! Wh3k: dicts as data, read and written. -/
namespace Wh
open PySem PySem.Spec PyProof.Rows L2 Evl
variable [Tbl]
section
variable {K : PySem.W.Frag} {F : Hp}
theorem keyD_eq {x : PyData} {k : Key} (h : keyD x = some k) : x = kD k := by
  cases x <;> simp only [keyD] at h <;> cases h <;> rfl
theorem keyEq_kD (a b : Key) : keyEq (kD a) (kD b) = decide (a = b) := by
  cases a <;> cases b <;> simp [kD, keyEq]
theorem Rp.key {y : V} {k : Key} (h : Rp K F y (kD k)) : y = kV k := by
  cases k <;> (cases h; rfl)
theorem RpK.len : ∀ {kvs : List (Key × V)} {kds : List (PyData × PyData)}, RpK K F kvs kds → kvs.length = kds.length
  | _, _, .nil => rfl
  | _, _, .cons _ t => by simp [RpK.len t]
theorem RpK.get (k : Key) : ∀ {kvs : List (Key × V)} {kds : List (PyData × PyData)}, RpK K F kvs kds → (∀ z, dgetD kds (kD k) = some z → ∃ v, valV kvs k = some v ∧ Rp K F v z) ∧ (dgetD kds (kD k) = none → valV kvs k = none)
  | _, _, .nil => ⟨fun z h => (by simp only [dgetD] at h; cases h), fun _ => rfl⟩
  | _, _, .cons (k := j) (v := v) (d := d) h t => by
    have ih := RpK.get k t
    by_cases e : j = k
    · rw [valV_pos e]
      simp only [dgetD, keyEq_kD, e, decide_true, if_true]
      exact ⟨fun z hz => by cases hz; exact ⟨v, rfl, h⟩, fun hz => by cases hz⟩
    · rw [valV_neg e]
      have : keyEq (kD j) (kD k) = false := by rw [keyEq_kD]; simp [e]
      simp only [dgetD, this]
      exact ih
theorem RpK.some {k : Key} {kvs : List (Key × V)} {kds : List (PyData × PyData)} (h : RpK K F kvs kds) : (valV kvs k).isSome = (dgetD kds (kD k)).isSome := by
  obtain ⟨a, b⟩ := h.get k
  cases hz : dgetD kds (kD k) with
  | none => rw [b hz]; rfl
  | some z => obtain ⟨v, e, _⟩ := a z hz; rw [e]; rfl
theorem RpK.any (k : Key) : ∀ {kvs : List (Key × V)} {kds : List (PyData × PyData)}, RpK K F kvs kds → (kvs.any fun kv => decide (kv.1 = k)) = kds.any fun p => keyEq p.1 (kD k)
  | _, _, .nil => rfl
  | _, _, .cons _ t => by simp only [List.any_cons, keyEq_kD, RpK.any k t]
theorem RpK.rep {v : V} {z : PyData} (r : Rp K F v z) (k : Key) : ∀ {kvs : List (Key × V)} {kds : List (PyData × PyData)}, RpK K F kvs kds → RpK K F (kvs.map fun kv => if kv.1 = k then (kv.1, v) else kv) (kds.map fun p => if keyEq p.1 (kD k) then (p.1, z) else p)
  | _, _, .nil => .nil
  | _, _, .cons (k := j) h t => by
    have ih := RpK.rep r k t
    simp only [List.map_cons, keyEq_kD]
    by_cases e : j = k
    · simp only [e, decide_true, if_true]
      exact .cons r ih
    · simp only [e, decide_false, if_false]
      exact .cons h ih
theorem RpK.snoc {v : V} {z : PyData} (r : Rp K F v z) (k : Key) : ∀ {kvs : List (Key × V)} {kds : List (PyData × PyData)}, RpK K F kvs kds → RpK K F (kvs ++ [(k, v)]) (kds ++ [(kD k, z)])
  | _, _, .nil => .cons r .nil
  | _, _, .cons h t => .cons h (RpK.snoc r k t)
theorem RpK.put {kvs : List (Key × V)} {kds : List (PyData × PyData)} (h : RpK K F kvs kds) {v : V} {z : PyData} (r : Rp K F v z) (k : Key) : RpK K F (putK kvs k v) (dputD kds (kD k) z) := by
  unfold putK dputD
  rw [h.any k]
  split
  · exact h.rep r k
  · exact h.snoc r k
end
section
variable {X : Cx}
/-! rules -/
def rIxK : R2 := fun x y H Q => ∃ a v, x = .ref a ∧ DGet H a y (some v) ∧ Q v H
theorem ix_K (hu : X.A.units + 1 < cLine) : IxR X rIxK := by
  intro value slice pins s σ H x y v u Q I rx ry h hs
  obtain ⟨a, z, rfl, g, q⟩ := h
  cases rx
  have hT := dict_typeIs I g
  have got : wpAny (model X.prog X.w) X.A (getItem (.ref a) u) (EP X pins σ Q) X.xe s := d_getItem hu I g ry fun w' s3 I3 r3 => ⟨z, H, I3, r3, q⟩
  have fin : wpAny (model X.prog X.w) X.A (subscripted slice false (.ref a) u) (fun r s3 => wpAny (model X.prog X.w) X.A (letTemporaryGo value (.ref a) r >>= fun _ => pure r) (EP X pins σ Q) X.xe s3) X.xe s := by
    rw [hs]
    exact wpAny_operating (thn got fun r s3 h3 => wpAny_bind (wpAny_letTemporaryGo (wpAny_pure h3)))
  unfold subscriptTail
  refine wpAny_bind ?_
  rw [getitemInPython_of_ne hT.not_modules]
  refine wpAny_bind (wpAny_specialOf hT PySem.F.slot_dict_getitem.lookup ?_)
  first
    | exact wpAny_pure (wpAny_bind fin)
    | exact wpAny_bind (wpAny_pure (wpAny_bind fin))
    | exact wpAny_bind fin
def rInK (neg : Bool) : R2 := fun x y H Q => ∃ a o, y = .ref a ∧ DGet H a x o ∧ Q (.bl (if neg then !o.isSome else o.isSome)) H
theorem op_inK (hu : X.A.units + 1 < cLine) : OpR X (compareOp .In) (rInK false) := by
  intro pins s σ H x y v u Q I rx ry h
  obtain ⟨a, o, rfl, g, q⟩ := h
  cases ry
  exact d_in hu I g rx fun s' I' => ⟨.bl o.isSome, H, I', rfl, q⟩
theorem op_notInK (hu : X.A.units + 1 < cLine) : OpR X (compareOp .NotIn) (rInK true) := by
  intro pins s σ H x y v u Q I rx ry h
  obtain ⟨a, o, rfl, g, q⟩ := h
  cases ry
  exact d_notIn hu I g rx fun s' I' => ⟨.bl (!o.isSome), H, I', rfl, q⟩
/-- a dict against the empty one -/
def rEmpK (f : Bool → Bool) : R2 := fun x y H Q => ∃ a b ks, x = .ref a ∧ y = .ref b ∧ H a = some (.dK ks) ∧ H b = some (.dK []) ∧ Q (.bl (f ks.isEmpty)) H
theorem op_eqK (hu : X.A.units < cLine) : OpR X (compareOp .Eq) (rEmpK fun b => b) := by
  intro pins s σ H x y v u Q I rx ry h
  obtain ⟨a, b, ks, rfl, rfl, ea, eb, q⟩ := h
  cases rx
  cases ry
  obtain ⟨_, ya, va, ra, da⟩ := dk_of I.hok ea
  obtain ⟨_, yb, vb, rb, db⟩ := dk_of I.hok eb
  have l1 := ra.length
  have l2 := rb.length
  refine PySem.W.keq_eq (knd := mixKind X.prog X.w) (r := true) ya yb da db hu (fun e => ?_) ⟨.bl ks.isEmpty, H, I, ?_, q⟩
  · have : va = [] := List.eq_nil_of_length_eq_zero (by rw [e, ← l2]; rfl)
    rw [this]
    exact .nil
  · show Value.bool _ = Value.bool _
    rw [← l1, ← l2]
    cases ks <;> simp
theorem op_neK (hu : X.A.units < cLine) : OpR X (compareOp .NotEq) (rEmpK fun b => !b) := by
  intro pins s σ H x y v u Q I rx ry h
  obtain ⟨a, b, ks, rfl, rfl, ea, eb, q⟩ := h
  cases rx
  cases ry
  obtain ⟨_, ya, va, ra, da⟩ := dk_of I.hok ea
  obtain ⟨_, yb, vb, rb, db⟩ := dk_of I.hok eb
  have l1 := ra.length
  have l2 := rb.length
  refine PySem.W.keq_ne (knd := mixKind X.prog X.w) (r := true) ya yb da db hu (fun e => ?_) ⟨.bl (!ks.isEmpty), H, I, ?_, q⟩
  · have : va = [] := List.eq_nil_of_length_eq_zero (by rw [e, ← l2]; rfl)
    rw [this]
    exact .nil
  · show Value.bool _ = Value.bool _
    rw [← l1, ← l2]
    cases ks <;> simp
end
/-! readings of data -/
section
variable {K : PySem.W.Frag} {ρ : En} {σ : L2.St} {F H : Hp} {Q : VK}
theorem emp_rdK {vx vy : V} {xs : List (PyData × PyData)} {f : Bool → Bool} (rep : Rep K ρ σ F H) (hx : Rp K F vx (.dict xs)) (hy : Rp K F vy (.dict [])) (q : Q (.bl (f xs.isEmpty)) H) : rEmpK f vx vy H Q := by
  cases hx with
  | dct h1 h2 =>
    cases hy with
    | dct h3 h4 =>
      cases h4
      refine ⟨_, _, _, rfl, rfl, rep.ex _ _ h1, rep.ex _ _ h3, ?_⟩
      have hl := h2.len
      cases xs with
      | nil => cases h2; exact q
      | cons _ _ => cases h2; exact q
theorem in_rdK {vx vy : V} {x : PyData} {xs : List (PyData × PyData)} {neg z : Bool} (rep : Rep K ρ σ F H) (hx : Rp K F vx x) (hy : Rp K F vy (.dict xs)) (h : dinD x xs = some z) (q : Q (.bl (if neg then !z else z)) H) : rInK neg vx vy H Q := by
  unfold dinD at h
  split at h
  · rename_i k hk
    cases h
    rw [keyD_eq hk] at hx q
    cases hx.key
    cases hy with
    | dct h1 h2 =>
      refine ⟨_, _, rfl, DGet.k (rep.ex _ _ h1), ?_⟩
      rw [h2.some]
      exact q
  · cases h
end
end Wh

set_option Elab.async false
set_option linter.all false
set_option maxRecDepth 100000
set_option maxHeartbeats 1000000
/-! Wh4: comparisons, built-ins, repr, on values. -/
namespace Wh
open PySem PySem.Spec PyProof.Rows L2 Evl
variable [Tbl]

section
variable {K : PySem.W.Frag} {F : Hp}
mutual
theorem Rp.dp : ∀ {v : V} {d : PyData}, Rp K F v d → d.hasDict = false → Dp K F v d
  | _, _, .non, _ => .non
  | _, _, .bl b, _ => .bl b
  | _, _, .int i, _ => .int i
  | _, _, .str x, _ => .str x
  | _, _, .lst h a, e => .lst h (RpA.dp a (by simpa only [PyData.hasDict] using e))
  | _, _, .tup h a, e => .tup h (RpA.dp a (by simpa only [PyData.hasDict] using e))
  | _, _, .dct _ _, e => by simp only [PyData.hasDict] at e; cases e
theorem RpA.dp : ∀ {vs : List V} {ds : List PyData}, RpA K F vs ds → PyData.hasDictAll ds = false → DpAll K F vs ds
  | _, _, .nil, _ => .nil
  | _, _, .cons h t, e => by
    simp only [PyData.hasDictAll, Bool.or_eq_false_iff] at e
    exact .cons (Rp.dp h e.1) (RpA.dp t e.2)
end
theorem shaped_noDict {d : PyData} (h : SeqAt.shaped d = true) : d.hasDict = false := PyData.hasDict_of_canLay d (SeqAt.canLay_of_shaped h)
theorem Rp.flatV {v : V} {d : PyData} (h : Rp K F v d) (e : flat d = true) : L2.flatV v = true := by
  cases h <;> first | rfl | cases e
theorem Rp.eqV {v w : V} {d e : PyData} (h : Rp K F v d) (h' : Rp K F w e) (f : flat d = true) (f' : flat e = true) : L2.eqV v w = PyData.eqv d e := by
  cases h <;> first | (cases f; done) | skip
  all_goals (cases h' <;> first | (cases f'; done) | (simp only [L2.eqV, PyData.eqv]))
theorem RpA.flatA : ∀ {vs : List V} {ds : List PyData}, RpA K F vs ds → ds.all flat = true → vs.all L2.flatV = true
  | _, _, .nil, _ => rfl
  | _, _, .cons h t, e => by
    simp only [List.all_cons, Bool.and_eq_true] at e ⊢
    exact ⟨h.flatV e.1, RpA.flatA t e.2⟩
theorem RpA.inV {x : V} {d : PyData} (hx : Rp K F x d) (fx : flat d = true) : ∀ {vs : List V} {ds : List PyData}, RpA K F vs ds → ds.all flat = true → L2.inV x vs = ds.any fun y => PyData.eqv y d
  | _, _, .nil, _ => rfl
  | _, _, .cons h t, e => by
    simp only [List.all_cons, Bool.and_eq_true] at e
    have ih := RpA.inV hx fx t e.2
    show (L2.eqV _ x || L2.inV x _) = _
    rw [ih, h.eqV hx e.1 fx]
    rfl
end

/-! ### comparisons -/
def cmpOf : CmpOp → Option COp
  | .Eq => some .eq | .NotEq => some .ne | .Lt => some .lt | .LtE => some .le | .Gt => some .gt | .GtE => some .ge | .Is => some .isN | .IsNot => some .notN | .In => some .inn | .NotIn => some .nin
def RBc (K : PySem.W.Frag) (r : R2) (f : PyData → PyData → Option Bool) : Prop := ∀ {ρ : En} {σ : L2.St} {F H : Hp} {vx vy : V} {x y : PyData} {z : Bool} {Q : VK}, Rep K ρ σ F H → Rp K F vx x → Rp K F vy y → f x y = some z → Q (.bl z) H → r vx vy H Q
section
variable {X : Cx}
theorem rbc_I {K : PySem.W.Frag} {f : PyData → PyData → Option Bool} {g : Int → Int → Bool} (hf : ∀ x y z, f x y = some z → ∃ i j, x = .int i ∧ y = .int j ∧ z = g i j) : RBc K (rI0 fun i j => .bl (g i j)) f := by
  intro ρ σ F H vx vy x y z Q rep hx hy h q
  obtain ⟨i, j, rfl, rfl, rfl⟩ := hf x y z h
  cases hx
  cases hy
  exact ⟨i, j, rfl, rfl, q⟩
/-- laid things looked for in laid ones -/
def rInD (K : PySem.W.Frag) (neg : Bool) : R2 := fun x y H Q => ∃ d ys, Dp K H x d ∧ (Dp K H y (.list ys) ∨ Dp K H y (.tuple ys)) ∧ PyData.canLayAll0 ys = true ∧ d.canLay0 = true ∧ d.depth ≤ 60 ∧ Q (.bl (if neg then !(ys.any fun z => PyData.eqv z d) else ys.any fun z => PyData.eqv z d)) H
theorem op_inD (hu : X.A.units + 64 < cLine) : OpR X (compareOp .In) (rInD X.K false) := by
  intro pins s σ H x y v u Q I rx ry h
  obtain ⟨d, ys, hd, hy, l1, l2, l3, q⟩ := h
  obtain ⟨as, r1⟩ := Dp.reads I d x v hd rx
  rcases hy with hy | hy
  · obtain ⟨bs, r2⟩ := Dp.reads I _ y u hy ry
    exact SeqAt.in_list_reads r2 r1 l1 l2 (by omega) ⟨.bl _, H, I, rfl, q⟩
  · obtain ⟨bs, r2⟩ := Dp.reads I _ y u hy ry
    exact SeqAt.in_tuple_reads r2 r1 l1 l2 (by omega) ⟨.bl _, H, I, rfl, q⟩
theorem op_notInD (hu : X.A.units + 64 < cLine) : OpR X (compareOp .NotIn) (rInD X.K true) := by
  intro pins s σ H x y v u Q I rx ry h
  obtain ⟨d, ys, hd, hy, l1, l2, l3, q⟩ := h
  obtain ⟨as, r1⟩ := Dp.reads I d x v hd rx
  rcases hy with hy | hy
  · obtain ⟨bs, r2⟩ := Dp.reads I _ y u hy ry
    exact SeqAt.notIn_list_reads r2 r1 l1 l2 (by omega) ⟨.bl _, H, I, rfl, q⟩
  · obtain ⟨bs, r2⟩ := Dp.reads I _ y u hy ry
    exact SeqAt.notIn_tuple_reads r2 r1 l1 l2 (by omega) ⟨.bl _, H, I, rfl, q⟩
mutual
theorem lay_nd : ∀ {d : PyData}, d.canLay0 = true → d.hasDict = false
  | .none, _ => by simp only [PyData.hasDict]
  | .bool _, _ => by simp only [PyData.hasDict]
  | .int _, _ => by simp only [PyData.hasDict]
  | .str _, _ => by simp only [PyData.hasDict]
  | .list xs, h => by simp only [PyData.hasDict]; exact lay_ndA (by simpa only [PyData.canLay0] using h)
  | .tuple xs, h => by simp only [PyData.hasDict]; exact lay_ndA (by simpa only [PyData.canLay0] using h)
  | .dict _, h => by simp [PyData.canLay0] at h
theorem lay_ndA : ∀ {ds : List PyData}, PyData.canLayAll0 ds = true → PyData.hasDictAll ds = false
  | [], _ => by simp only [PyData.hasDictAll]
  | d :: ds, h => by
    simp only [PyData.canLayAll0, Bool.and_eq_true] at h
    simp only [PyData.hasDictAll, lay_nd h.1, lay_ndA h.2, Bool.or_false]
end
theorem rbc_in {K : PySem.W.Frag} {neg : Bool} {op : COp} (hop : op = if neg then .nin else .inn) : RBc K (fun x y H Q => (rIn K neg x y H Q ∨ rInD K neg x y H Q) ∨ rInK neg x y H Q) (cmpD op) := by
  intro ρ σ F H vx vy x y z Q rep hx hy h q
  have key : ∀ ys, inY x ys = some (if neg then !z else z) → (flat x = true ∧ ys.all flat = true ∨ x.canLay0 = true ∧ x.depth ≤ 60 ∧ PyData.canLayAll0 ys = true) ∧ (ys.any fun y => PyData.eqv y x) = (if neg then !z else z) := fun ys h => by
    unfold inY at h
    split at h
    · rename_i hc
      rw [Bool.and_eq_true] at hc
      exact ⟨.inl ⟨hc.1, hc.2⟩, Option.some.inj h⟩
    · split at h
      · rename_i hc
        rw [Bool.and_eq_true, Bool.and_eq_true, decide_eq_true_eq] at hc
        exact ⟨.inr ⟨hc.1.1, hc.1.2, hc.2⟩, Option.some.inj h⟩
      · cases h
  have fin : ∀ (a : Addr) (xs : List V) (ys : List PyData), (SqL K F a xs ∨ SqT K F a xs) → RpA K F xs ys → vy = .ref a → (Rp K F vy (.list ys) ∨ Rp K F vy (.tuple ys)) → inY x ys = some (if neg then !z else z) → rIn K neg vx vy H Q ∨ rInD K neg vx vy H Q := fun a xs ys hs ha e hy hi => by
    obtain ⟨f12, f3⟩ := key ys hi
    rcases f12 with ⟨f1, f2⟩ | ⟨f1, f2, f4⟩
    · refine .inl ⟨a, xs, e, hs.elim (fun z => .inl (rep.exL z)) fun z => .inr (rep.exT z), hx.flatV f1, ha.flatA f2, ?_⟩
      rw [RpA.inV hx f1 ha f2, f3]
      cases neg <;> simpa using q
    · refine .inr ⟨x, ys, (hx.mono rep.ex).dp (lay_nd f1), ?_, f4, f1, f2, ?_⟩
      · rcases hy with hy | hy
        · exact .inl ((hy.mono rep.ex).dp (by simp only [PyData.hasDict]; exact lay_ndA f4))
        · exact .inr ((hy.mono rep.ex).dp (by simp only [PyData.hasDict]; exact lay_ndA f4))
      · rw [f3]
        cases neg <;> simpa using q
  subst hop
  cases hy with
  | dct h1 h2 =>
    refine .inr ?_
    cases neg
    · simp only [cmpD, Bool.false_eq_true, if_false] at h
      exact in_rdK (neg := false) rep hx (.dct h1 h2) h q
    · simp only [cmpD, if_true] at h
      obtain ⟨b, h3, h4⟩ := Option.map_eq_some_iff.mp h
      subst h4
      exact in_rdK (neg := true) rep hx (.dct h1 h2) h3 q
  | lst h1 h2 =>
    refine .inl (fin _ _ _ (.inl h1) h2 rfl (.inl (.lst h1 h2)) ?_)
    cases neg
    · exact h
    · simp only [cmpD, if_true] at h
      obtain ⟨b, h3, h4⟩ := Option.map_eq_some_iff.mp h
      rw [h3, ← h4]; simp
  | tup h1 h2 =>
    refine .inl (fin _ _ _ (.inr h1) h2 rfl (.inr (.tup h1 h2)) ?_)
    cases neg
    · exact h
    · simp only [cmpD, if_true] at h
      obtain ⟨b, h3, h4⟩ := Option.map_eq_some_iff.mp h
      rw [h3, ← h4]; simp
  | _ => cases neg <;> (simp only [cmpD] at h; first | cases h | (split at h <;> cases h))
/-- a tuple, whatever it holds, against the empty one -/
def rEmp (K : PySem.W.Frag) (f : Bool → Bool) : R2 := fun x y H Q => ∃ a b xs, x = .ref a ∧ y = .ref b ∧ SqT K H a xs ∧ SqT K H b [] ∧ Q (.bl (f xs.isEmpty)) H
theorem emp_rd {ρ : En} {σ : L2.St} {F H : Hp} {vx vy : V} {xs : List PyData} {f : Bool → Bool} {Q : VK} {K : PySem.W.Frag} (rep : Rep K ρ σ F H) (hx : Rp K F vx (.tuple xs)) (hy : Rp K F vy (.tuple [])) (q : Q (.bl (f xs.isEmpty)) H) : rEmp K f vx vy H Q := by
  cases hx with
  | tup h1 h2 =>
    cases hy with
    | tup h3 h4 =>
      cases h4
      refine ⟨_, _, _, rfl, rfl, rep.exT h1, rep.exT h3, ?_⟩
      have hl := h2.len
      cases xs with
      | nil => cases h2; exact q
      | cons _ _ => cases h2; exact q
theorem op_eqE (hu : X.A.units < cLine) : OpR X (compareOp .Eq) (rEmp X.K fun b => b) := by
  intro pins s σ H x y v u Q I rx ry h
  obtain ⟨a, b, xs, rfl, rfl, h1, h2, q⟩ := h
  cases rx
  cases ry
  obtain ⟨its, r1, p1, _⟩ := I.tuple h1
  obtain ⟨its2, r2, p2, _⟩ := I.tuple h2
  cases r2
  refine SeqAt.eq_tupleAt (e := fun _ => true) p1 p2 hu (fun j _ hj => absurd hj (by simp)) ⟨.bl xs.isEmpty, H, I, ?_, q⟩
  show Value.bool _ = Value.bool _
  cases r1 <;> simp
theorem op_neE (hu : X.A.units < cLine) : OpR X (compareOp .NotEq) (rEmp X.K fun b => !b) := by
  intro pins s σ H x y v u Q I rx ry h
  obtain ⟨a, b, xs, rfl, rfl, h1, h2, q⟩ := h
  cases rx
  cases ry
  obtain ⟨its, r1, p1, _⟩ := I.tuple h1
  obtain ⟨its2, r2, p2, _⟩ := I.tuple h2
  cases r2
  refine SeqAt.RcNeAt.tuples (e := fun _ => true) p1 p2 hu (fun j _ hj => absurd hj (by simp)) X.prog X.w X.xe _ ⟨.bl (!xs.isEmpty), H, I, ?_, q⟩
  show Value.bool _ = Value.bool _
  cases r1 <;> simp
theorem cmp_any {o : CmpOp} {c : COp} (hu : X.A.units + 64 < cLine) (h : cmpOf o = some c) : ∃ r, OpR X (compareOp o) r ∧ RBc X.K r (cmpD c) := by
  cases o <;> cases h
  · refine ⟨_, op_eq.or ((op_eqE (by omega)).or ((op_eqD hu).or (op_eqK (by omega)))), fun {ρ σ F H vx vy x y z Q} rep hx hy h q => ?_⟩
    simp only [cmpD] at h
    rcases eqD_or h with ⟨a, b, rfl, rfl, rfl⟩ | ⟨xs, rfl, rfl, rfl⟩ | ⟨h1, h2, rfl⟩ | ⟨xs, rfl, rfl, rfl⟩
    · cases hx
      cases hy
      exact .inl ⟨rfl, by rw [dec_str]; exact q⟩
    · exact .inr (.inl (emp_rd rep hx hy q))
    · exact .inr <| .inr <| .inl ⟨x, y, (hx.mono rep.ex).dp (shaped_noDict h1), (hy.mono rep.ex).dp (shaped_noDict h2), h1, h2, q⟩
    · exact .inr (.inr (.inr (emp_rdK rep hx hy q)))
  · refine ⟨_, op_ne.or ((op_neE (by omega)).or ((op_neD hu).or (op_neK (by omega)))), fun {ρ σ F H vx vy x y z Q} rep hx hy h q => ?_⟩
    simp only [cmpD] at h
    obtain ⟨z', h', rfl⟩ := Option.map_eq_some_iff.mp h
    rcases eqD_or h' with ⟨a, b, rfl, rfl, rfl⟩ | ⟨xs, rfl, rfl, rfl⟩ | ⟨h1, h2, rfl⟩ | ⟨xs, rfl, rfl, rfl⟩
    · cases hx
      cases hy
      exact .inl ⟨rfl, by rw [dec_str]; exact q⟩
    · exact .inr (.inl (emp_rd rep hx hy q))
    · exact .inr <| .inr <| .inl ⟨x, y, (hx.mono rep.ex).dp (shaped_noDict h1), (hy.mono rep.ex).dp (shaped_noDict h2), h1, h2, q⟩
    · exact .inr (.inr (.inr (emp_rdK rep hx hy q)))
  · exact ⟨_, op_lt, rbc_I fun x y z h => by cases x <;> cases y <;> simp only [cmpD] at h <;> first | (cases h; exact ⟨_, _, rfl, rfl, rfl⟩) | cases h⟩
  · exact ⟨_, op_le, rbc_I fun x y z h => by cases x <;> cases y <;> simp only [cmpD] at h <;> first | (cases h; exact ⟨_, _, rfl, rfl, rfl⟩) | cases h⟩
  · exact ⟨_, op_gt, rbc_I fun x y z h => by cases x <;> cases y <;> simp only [cmpD] at h <;> first | (cases h; exact ⟨_, _, rfl, rfl, rfl⟩) | cases h⟩
  · exact ⟨_, op_ge, rbc_I fun x y z h => by cases x <;> cases y <;> simp only [cmpD] at h <;> first | (cases h; exact ⟨_, _, rfl, rfl, rfl⟩) | cases h⟩
  · refine ⟨_, op_isN.or op_isBl, fun {ρ σ F H vx vy x y z Q} rep hx hy h q => ?_⟩
    cases hy
    case non =>
      refine .inl ⟨rfl, ?_⟩
      cases hx <;> (simp only [cmpD] at h; cases h; simpa using q)
    case bl b =>
      cases hx <;> simp only [cmpD] at h <;> first | (cases h; done) | skip
      cases h
      exact .inr ⟨_, _, rfl, rfl, q⟩
    all_goals (cases hx <;> simp only [cmpD] at h <;> cases h)
  · refine ⟨_, op_notN.or op_notBl, fun {ρ σ F H vx vy x y z Q} rep hx hy h q => ?_⟩
    cases hy
    case non =>
      refine .inl ⟨rfl, ?_⟩
      cases hx <;> (simp only [cmpD] at h; cases h; simpa using q)
    case bl b =>
      cases hx <;> simp only [cmpD] at h <;> first | (cases h; done) | skip
      cases h
      exact .inr ⟨_, _, rfl, rfl, q⟩
    all_goals (cases hx <;> simp only [cmpD] at h <;> cases h)
  · exact ⟨_, (op_in_seq.or (op_inD (by omega))).or (op_inK (by omega)), rbc_in (neg := false) rfl⟩
  · exact ⟨_, (op_notIn_seq.or (op_notInD (by omega))).or (op_notInK (by omega)), rbc_in (neg := true) rfl⟩
end

/-! ### reading data off the heap -/
section
variable {X : Cx} {pins : List (Addr × Obj)} {σ : L2.St} {H : Hp} {s : Shared}
theorem keys_read {h : Heap} : ∀ {es : List DictEntry} {vs : List (Key × Value)}, Pairs (mixKind X.prog X.w) es vs → ReadsAll h (es.map (·.key)) (vs.map fun p => kD p.1) []
  | _, _, .nil => .nil
  | _, _, .cons (e := e) (kv := kv) h1 _ t => by
    have ih := keys_read (h := h) t
    have r : Reads h e.key (kD kv.1) [] := by
      rcases keyIs_shape (k := kv.1) (v := e.key) h1 with ⟨i, tk, e1, e2⟩ | ⟨x, tk, e1, e2⟩
      · rw [e1, e2]; exact .int i tk
      · rw [e1, e2]; exact .str x tk
    exact ReadsAll.cons r ih
theorem pairs_vals {knd : PySem.KeyKind X.prog X.w Key} : ∀ {es : List DictEntry} {vs : List (Key × Value)}, Pairs knd es vs → es.map (·.val) = vs.map (·.2)
  | _, _, .nil => rfl
  | _, _, .cons _ h2 t => by
    simp only [List.map_cons]
    rw [pairs_vals t, h2]
mutual
theorem Rp.reads (I : Inv X pins σ H s) : ∀ (d : PyData) (v : V) (u : Value), Rp X.K H v d → RelV v u → ∃ as, Reads s.heap u d as ∧ (noL d = true → sysModules ∉ as)
  | .none, _, _, h, r => by
    cases h
    cases r
    exact ⟨_, Reads.none, fun _ => by simp⟩
  | .bool b, _, _, h, r => by
    cases h
    cases r
    exact ⟨_, Reads.bool b, fun _ => by simp⟩
  | .int i, _, _, h, r => by
    cases h
    obtain ⟨t, rfl⟩ := r
    exact ⟨_, Reads.int i t, fun _ => by simp⟩
  | .str x, _, _, h, r => by
    cases h
    obtain ⟨t, rfl⟩ := r
    exact ⟨_, Reads.str x t, fun _ => by simp⟩
  | .list ds, _, _, h, r => by
    cases h with
    | lst hs ha =>
      cases r
      obtain ⟨its, rv, ⟨o, n, ho, hc, _, hd⟩, _⟩ := I.list hs
      obtain ⟨as, hr, _⟩ := Rp.readsAll I ds _ its ha rv
      exact ⟨_, Reads.list ho hc hd hr, fun z => by simp [noL] at z⟩
  | .tuple ds, _, _, h, r => by
    cases h with
    | tup hs ha =>
      cases r
      obtain ⟨its, rv, ⟨o, ho, hc, n, hd⟩, _⟩ := I.tuple hs
      obtain ⟨as, hr, hn⟩ := Rp.readsAll I ds _ its ha rv
      exact ⟨_, Reads.tuple ho hc hd hr, fun z => hn (by simpa [noL] using z)⟩
  | .dict kds, _, _, h, r => by
    cases h with
    | dct hs ha =>
      rename_i a kvs
      cases r
      obtain ⟨_, hsys, vs, kv, o, es, ep, ho, hx, hd, _, hp, _⟩ := I.hok a _ hs
      obtain ⟨as, h1, h2, h3⟩ := Rp.readsKv I kds kvs vs ha kv
      have hk := keys_read (h := s.heap) hp
      rw [h3] at hk
      have hv := pairs_vals hp
      refine ⟨_, Reads.dict ho hx.1 hd hk (by rw [hv]; exact h1), fun z => ?_⟩
      have h2' := h2 (by simpa [noL] using z)
      simp only [List.append_nil, List.cons_append, List.nil_append, List.mem_cons, not_or]
      exact ⟨fun e => by rw [← e] at hsys; simp at hsys, h2'⟩
theorem Rp.readsAll (I : Inv X pins σ H s) : ∀ (ds : List PyData) (vs : List V) (us : List Value), RpA X.K H vs ds → Vals vs us → ∃ as, ReadsAll s.heap us ds as ∧ (noLA ds = true → sysModules ∉ as)
  | [], _, _, h, r => by
    cases h
    cases r
    exact ⟨_, ReadsAll.nil, fun _ => by simp⟩
  | d :: ds, _, _, h, r => by
    cases h with
    | cons h1 h2 =>
      cases r with
      | cons r1 r2 =>
        obtain ⟨as, q1, n1⟩ := Rp.reads I d _ _ h1 r1
        obtain ⟨bs, q2, n2⟩ := Rp.readsAll I ds _ _ h2 r2
        refine ⟨_, ReadsAll.cons q1 q2, fun z => ?_⟩
        simp only [noLA, Bool.and_eq_true] at z
        simp only [List.mem_append, not_or]
        exact ⟨n1 z.1, n2 z.2⟩
theorem Rp.readsKv (I : Inv X pins σ H s) : ∀ (kds : List (PyData × PyData)) (kvs : List (Key × V)) (vs : List (Key × Value)), RpK X.K H kvs kds → KV kvs vs →
    ∃ as, ReadsAll s.heap (vs.map (·.2)) (kds.map (·.2)) as ∧ (noLK kds = true → sysModules ∉ as) ∧ (vs.map fun p => kD p.1) = kds.map (·.1)
  | [], _, _, h, r => by
    cases h
    cases r
    exact ⟨_, ReadsAll.nil, fun _ => by simp, rfl⟩
  | (k, d) :: ds, _, _, h, r => by
    cases h with
    | cons h1 h2 =>
      cases r with
      | cons r1 r2 =>
        obtain ⟨e1, r1⟩ := r1
        obtain ⟨as, q1, n1⟩ := Rp.reads I d _ _ h1 r1
        obtain ⟨bs, q2, n2, e2⟩ := Rp.readsKv I ds _ _ h2 r2
        refine ⟨_, ReadsAll.cons q1 q2, fun z => ?_, ?_⟩
        · simp only [noLK, Bool.and_eq_true] at z
          simp only [List.mem_append, not_or]
          exact ⟨n1 z.1.2, n2 z.2⟩
        · simp only [List.map_cons]
          rw [e2, ← e1]
end
end
end Wh

set_option Elab.async false
set_option linter.all false
set_option maxRecDepth 100000
set_option maxHeartbeats 1000000
/-! Wh4s: sorted() of tuples, of tuples of ints. -/
namespace Wh
open PySem PySem.Spec PyProof.Rows L2 Evl
section
variable {prog : Program} {w : World} {A : Around} {E : Value → Shared → Prop} {s : Shared}
theorem collect_tup {l : Addr} {vs : List Value} {Q : List Value → Shared → Prop} (hl : s.heap.IsTuple l vs.toArray)
    (h : Q vs { s with heap := (s.heap.push (seqObj "list" #[] 0)).update s.heap.objs.size (Obj.mapSeq (· ++ vs.toArray)) }) (hsz : vs.length ≤ sizeLine) :
    wpAny (model prog w) A (collect (.ref l)) Q E s := by
  obtain ⟨o, ho, hc, n, hd⟩ := id hl
  unfold collect
  refine wpAny_bind (wpAny_runValue (codeAny_builtin entry_proto_collect' ?_))
  show wpAny _ _ (do again (.builtin "list.__iadd__" ⟨[← newList [], .ref l], []⟩)) _ _ s
  refine wpAny_bind (wpAny_newList (wpAny_pure ⟨Code.quiet_builtin _ (by decide +kernel), codeAny_builtin entry_list_iadd' ?_⟩))
  show wpAny _ _ (Builtin.List.listExtendWith (.ref s.heap.objs.size) (.ref l) (.ref s.heap.objs.size)) _ _ { s with heap := s.heap.push (seqObj "list" #[] 0) }
  unfold Builtin.List.listExtendWith
  have ho' : (s.heap.push (seqObj "list" #[] 0)).get? l = some o := Heap.get?_push_of_some _ ho
  refine wpAny_bind (wpAny_typeOf (T := "tuple") ⟨o, ho', hc⟩ ?_)
  have ht : (Value.type "tuple" == Value.type "tuple") = true := by rfl
  rw [if_pos (by rw [ht]; simp)]
  refine wpAny_bind (listItems_at ho' hd ?_)
  refine wpAny_bind (listItems_at (xs := #[]) (n := 0) (Heap.get?_push_size _ rfl) rfl ?_)
  rw [if_neg (by simp)]
  refine wpAny_bind (listUpdate_at (xs := #[]) (n := 0) (Heap.get?_push_size _ rfl) rfl ?_ (Nat.zero_le _) (by show (#[] ++ vs.toArray).size ≤ sizeLine + 1; simp only [Array.size_append, List.size_toArray, List.length_nil]; omega))
  refine wpAny_pure ?_
  show wpAny (model prog w) A (do
      let o ← load s.heap.objs.size
      match o.data with
      | .seq xs _ => pure xs.toList
      | _ => unsupported "internal:collect") Q E { s with heap := (s.heap.push (seqObj "list" #[] 0)).update s.heap.objs.size (Obj.mapSeq (· ++ vs.toArray)) }
  refine wpAny_bind (wpAny_load (get?_update_seq (Heap.get?_push_size _ rfl) _) ?_)
  show wpAny _ _ (pure ((#[] : Array Value) ++ vs.toArray).toList) Q E _
  rw [show ((#[] : Array Value) ++ vs.toArray).toList = vs by simp]
  exact wpAny_pure h
theorem sorted_ordC {l : Addr} {vs : List Value} {ltv : Value → Value → Bool} {Q : Value → Shared → Prop} (O : SrtO.Swo ltv)
    (hcol : ∀ (A : Around) (Q : List Value → Shared → Prop) (E : Value → Shared → Prop), Q vs { s with heap := (s.heap.push (seqObj "list" #[] 0)).update s.heap.objs.size (Obj.mapSeq (· ++ vs.toArray)) } → wpAny (model prog w) A (collect (.ref l)) Q E s) (hz : vs.length ≤ sizeLine)
    (hS : 2 ≤ vs.length → ∀ (h₁ : Heap) (a : Addr), h₁.get? a = some (seqObj "list" vs.toArray 0) → (∀ b o, s.heap.get? b = some o → b ≠ a ∧ h₁.get? b = some o) → SrtO.SortableO prog w A.in1.in1 { s with heap := h₁ } a vs ltv)
    (h : ∀ out : List Value, SrtO.Srtd ltv out → SrtO.Stb ltv out vs → Q (.ref (s.heap.objs.size + 1)) { s with heap := sortedAll s.heap vs out.toArray }) :
    wpAny (model prog w) A (call (.builtin "sorted") [.ref l]) Q E s := by
  refine Calls.call_function_entry kind_sorted plain_sorted entry_sorted (args_sorted1 _) ?_
  unfold Builtin.«sorted»
  refine wpAny_bind (m := checkCount "sorted" 1 1 _) (wpAny_pure ?_)
  refine wpAny_bind (hcol _ _ _ ?_)
  refine wpAny_bind (wpAny_newList ?_ hz)
  have hsz : ((s.heap.push (seqObj "list" #[] 0)).update s.heap.objs.size (Obj.mapSeq (· ++ vs.toArray))).objs.size = s.heap.objs.size + 1 := by
    rw [Heap.size_update, size_push']
  have hoL : (((s.heap.push (seqObj "list" #[] 0)).update s.heap.objs.size (Obj.mapSeq (· ++ vs.toArray))).push (seqObj "list" vs.toArray 0)).get? (s.heap.objs.size + 1) = some (seqObj "list" vs.toArray 0) := by
    rw [← hsz]; exact Heap.get?_push_size _ rfl
  have keep : ∀ b o, s.heap.get? b = some o → b ≠ s.heap.objs.size + 1 ∧ (((s.heap.push (seqObj "list" #[] 0)).update s.heap.objs.size (Obj.mapSeq (· ++ vs.toArray))).push (seqObj "list" vs.toArray 0)).get? b = some o := fun b o q => by
    have hlt : b < s.heap.objs.size := Heap.lt_size q
    refine ⟨Nat.ne_of_lt (Nat.lt_succ_of_lt hlt), Heap.get?_push_of_some _ ?_⟩
    rw [Heap.get?_update_ne _ _ _ _ (Nat.ne_of_lt hlt)]
    exact Heap.get?_push_of_some _ q
  show wpAny _ _ _ _ _ { s with heap := ((s.heap.push (seqObj "list" #[] 0)).update s.heap.objs.size (Obj.mapSeq (· ++ vs.toArray))).push (seqObj "list" vs.toArray 0) }
  rw [hsz]
  refine wpAny_bind (wpAny_holding (wpAny_call_entry slot_list_sort ⟨_, hoL, rfl⟩ entry_list_sort (SrtO.list_sort_ord O hoL hz (fun h2 => hS h2 _ _ hoL keep) fun out hs hb => ⟨_, rfl, ?_⟩) (args_list_sort _)))
  exact wpAny_pure ⟨_, rfl, h out hs hb⟩
/-! tuples of ints, by lexLt -/
theorem katlex_ints {Q : Bool → Shared → Prop} : ∀ {us vs : List Value} {ns ms : List Int} {i : Nat}, IntsAre us ns → IntsAre vs ms → Q (HT.lexLt ns ms) s → PySem.W.KatLex prog w A true (decide (ns.length < ms.length)) Q (us.zip vs) i s
  | [], vs, _, ms, i, .nil, b, h => by
    have e : decide (([] : List Int).length < ms.length) = HT.lexLt [] ms := by
      cases ms with
      | nil => rw [HT.lexLt_nil_nil]; rfl
      | cons y ys => rw [HT.lexLt_nil_cons]; simp
    rw [e]
    exact PySem.W.kat_nil h
  | _ :: us, [], _, _, i, .cons n t a, .nil, h => by
    have e : ∀ ns : List Int, decide ((n :: ns).length < ([] : List Int).length) = HT.lexLt (n :: ns) [] := fun ns => by
      rw [HT.lexLt_cons_nil]; simp
    rw [e]
    exact PySem.W.kat_nil h
  | _ :: us, _ :: vs, _, _, i, .cons (ns := ns) n t a, .cons (ns := ms) m u b, h => by
    have e : decide ((n :: ns).length < (m :: ms).length) = decide (ns.length < ms.length) := by simp
    rw [e]
    rw [HT.lexLt_cons] at h
    refine PySem.W.kat_cons (SeqAt.EqAt.int_int n t m u prog w _ _ ?_)
    refine PySem.W.kat_go (fun e1 => ?_) (fun e1 => ?_)
    · have ex : n = m := by simpa using e1
      rw [if_pos ex] at h
      exact PySem.W.kat_yes (katlex_ints a b h)
    · have ex : ¬ n = m := by simpa using e1
      rw [if_neg ex] at h
      refine PySem.W.kat_no ?_
      cases i with
      | zero => exact oneLt_int h
      | succ i => exact PySem.W.kat_one _ _ (PyProof.Rows.lt_int h)
theorem tup_cmp {vs : List Value} {k : Value → List Int} (hp : ∀ v ∈ vs, TS.TupInts s.heap v (k v)) : SrtO.Cmp prog w A s (tuples' true) (fun p => p.1 ∈ vs) (SrtO.lt2 fun v u => HT.lexLt (k v) (k u)) := by
  intro p q hm hm'
  have h1 := hp _ hm
  have h2 := hp _ hm'
  show wpAny (model prog w) A (keyLt' (tuples' true) p.1 q.1) (fun r s' => s' = s ∧ r = HT.lexLt (k p.1) (k q.1)) (fun _ _ => False) s
  generalize k p.1 = ns at h1 ⊢
  generalize k q.1 = ms at h2 ⊢
  obtain ⟨a, xs, e, ⟨o, ho, hc, n, hd⟩, i⟩ := h1
  obtain ⟨a', xs', e', ⟨o', ho', hc', n', hd'⟩, i'⟩ := h2
  rw [e, e']
  refine PySem.W.kat_lt ho hd ho' hd' ?_
  have l1 : xs.size = ns.length := by rw [← Array.length_toList]; exact i.length
  have l2 : xs'.size = ms.length := by rw [← Array.length_toList]; exact i'.length
  rw [l1, l2]
  exact katlex_ints i i' ⟨rfl, rfl⟩
theorem firsts_tup {h : Heap} {k : Value → List Int} : ∀ {vs : List Value}, (∀ v ∈ vs, TS.TupInts h v (k v) ∧ k v ≠ []) → ∃ fs : List Value, PySem.W.KatTups h vs fs ∧ fs.length = vs.length ∧ ∀ f ∈ fs, ∃ x t, f = Value.int x t
  | [], _ => ⟨[], PySem.W.KatTups.nil, rfl, fun _ hm => by simp at hm⟩
  | v :: vs, hp => by
    obtain ⟨fs, h1, h2, h3⟩ := firsts_tup (vs := vs) fun v' hm => hp v' (List.mem_cons_of_mem _ hm)
    obtain ⟨⟨a, xs, e, ⟨o, ho, hc, n, hd⟩, i⟩, hne⟩ := hp v (List.mem_cons_self ..)
    obtain ⟨x, t, hx⟩ : ∃ x t, xs[0]? = some (Value.int x t) := by
      rw [← Array.getElem?_toList]
      cases hk : k v with
      | nil => exact absurd hk hne
      | cons m ms =>
        rw [hk] at i
        generalize xs.toList = l at i
        cases i with
        | cons _ t _ => exact ⟨m, t, rfl⟩
    subst e
    refine ⟨.int x t :: fs, PySem.W.KatTups.cons ho hc hd hx h1, by rw [List.length_cons, List.length_cons, h2], fun f hm => ?_⟩
    rcases List.mem_cons.mp hm with rfl | hm
    · exact ⟨x, t, rfl⟩
    · exact h3 f hm
theorem tup_sortable {a : Addr} {vs : List Value} {k : Value → List Int} (h0 : 0 < vs.length) (hp : ∀ v ∈ vs, TS.TupInts s.heap v (k v) ∧ k v ≠ []) (ha : ∀ o, s.heap.get? a = some o → o.cls ≠ .type "tuple") : SrtO.SortableO prog w A s a vs fun v u => HT.lexLt (k v) (k u) := by
  intro h' keep
  have hp' : ∀ v ∈ vs, TS.TupInts h' v (k v) ∧ k v ≠ [] := fun v hm => ⟨(hp v hm).1.keeps fun b o e c => keep b o (fun z => by subst z; exact ha o e c) e, (hp v hm).2⟩
  obtain ⟨fs, h1, h2, h3⟩ := firsts_tup hp'
  refine ⟨tuples' true, fun Q E hq => ?_, tup_cmp (s := { s with heap := h' }) fun v hm => (hp' v hm).1⟩
  refine PySem.W.kat_kind (T := .type "int") h1 (by omega) (fun f hm => ?_) (by rfl) ?_
  · obtain ⟨x, t, rfl⟩ := h3 f hm
    exact PySem.W.Looks.now
  · have e : (Value.type "int" != Value.type "tuple") = true := by first | decide +kernel | rfl | decide
    rw [e]
    exact hq
theorem swo_lexI (k : Value → List Int) : SrtO.Swo fun v u => HT.lexLt (k v) (k u) :=
  ⟨fun x y h => NtL.lex_asym _ _ h, fun x y z h1 h2 => NtL.lex_tr _ _ _ h1 h2⟩
end
section
variable {X : Cx}
/-- sorted(xs), a tuple of ints -/
def rSortedIT (K : PySem.W.Frag) : List V → Hp → VK → Prop := fun vs H Q => ∃ (a : Addr) (ns : List Int), vs = [V.ref a] ∧ SqT K H a (ns.map V.int) ∧
  ∀ (ns' : List Int) (p : Addr), ns'.Perm ns → ns'.Pairwise (· ≤ ·) → H p = none → Q (.ref p) (upd H p (.lst (ns'.map V.int)))
theorem cr_sortedIT : CallR X (.builtin "sorted") (rSortedIT X.K) := by
  intro pins s σ H vs us Q I r h
  obtain ⟨a, ns, rfl, hs, q⟩ := h
  obtain ⟨its, rv, hl, hz⟩ := I.tuple hs
  rw [Vals.ref1 r]
  have hi := rv.ints
  refine sorted_ordC SrtO.swo_int (fun A Q E h => collect_tup hl h (by rw [← rv.length]; exact hz)) (by rw [← rv.length]; exact hz) (fun h2 h₁ a' _ _ => SrtO.ints_sortable hi h2) fun out h1 h2 => ?_
  obtain ⟨k1, k2, k3⟩ := SrtO.ints_out hi h1 h2
  obtain ⟨ep, he'⟩ := PyProof.Rows.sortedAll_at s.heap its out.toArray
  have hlen : ((out.map SrtO.iv).map V.int).length ≤ sizeLine := by
    rw [List.length_map, k2.length_eq]
    rw [List.length_map] at hz
    exact hz
  exact ⟨.ref _, upd H (s.heap.objs.size + 1) (.lst ((out.map SrtO.iv).map V.int)), I.laid (t' := s.toks) (fun _ _ => PyProof.Rows.sortedAll_old) (Nat.le_succ _) ⟨hlen, out, ep, vals_of_ints k1, he'⟩, rfl, q _ _ k2 k3 (I.hok.fresh (Nat.le_succ _))⟩
/-- sorted(xs), a list or a tuple of tuples of ints, none of them empty -/
def rSortedTU (K : PySem.W.Frag) : List V → Hp → VK → Prop := fun vs H Q => ∃ (a : Addr) (xs : List V), vs = [V.ref a] ∧ (SqL K H a xs ∨ SqT K H a xs) ∧ (∀ x ∈ xs, ∃ ns, TupI K H x ns ∧ ns ≠ []) ∧
  ∀ (ys : List V) (p : Addr), ys.Perm xs → ys.Pairwise (fun x y => ∀ n m, TupI K H x n → TupI K H y m → HT.lexLt m n = false) → H p = none → Q (.ref p) (upd H p (.lst ys))
theorem cr_sortedTU : CallR X (.builtin "sorted") (rSortedTU X.K) := by
  intro pins s σ H vs us Q I r h
  obtain ⟨a, xs, rfl, hs, hx, q⟩ := h
  obtain ⟨its, rv, hcol, hz⟩ : ∃ its : List Value, Vals xs its ∧ (∀ (A : Around) (Q : List Value → Shared → Prop) (E : Value → Shared → Prop), Q its { s with heap := (s.heap.push (seqObj "list" #[] 0)).update s.heap.objs.size (Obj.mapSeq (· ++ its.toArray)) } → wpAny (model X.prog X.w) A (collect (.ref a)) Q E s) ∧ xs.length ≤ sizeLine := by
    rcases hs with hs | hs
    · obtain ⟨its, rv, hl, hz⟩ := I.list hs
      exact ⟨its, rv, fun A Q E h => collect_list hl.isList h (by rw [← rv.length]; exact hz), hz⟩
    · obtain ⟨its, rv, hl, hz⟩ := I.tuple hs
      exact ⟨its, rv, fun A Q E h => collect_tup hl h (by rw [← rv.length]; exact hz), hz⟩
  rw [Vals.ref1 r]
  obtain ⟨e1, e2⟩ := bkV_refs rv fun x m => by
    obtain ⟨ns, ⟨t, e, _⟩, _⟩ := hx x m
    exact ⟨t, e⟩
  have raw : ∀ v ∈ its, TS.TupInts s.heap v (TS.intsOf s.heap v) ∧ TS.intsOf s.heap v ≠ [] := fun v hv => by
    obtain ⟨t, rfl⟩ := e2 v hv
    have hm : V.ref t ∈ xs := by
      rw [e1]
      exact List.mem_map.mpr ⟨_, hv, rfl⟩
    obtain ⟨ns, ⟨t', e, ht⟩, hn⟩ := hx _ hm
    cases e
    have z := tupI_raw I ht
    rw [z.ints]
    exact ⟨z, hn⟩
  refine sorted_ordC (swo_lexI (TS.intsOf s.heap)) hcol (by rw [← rv.length]; exact hz) (fun h2 h₁ a' ha kk => ?_) fun out h1 h2 => ?_
  · refine tup_sortable (s := { s with heap := h₁ }) (by omega) (fun v hm => ⟨(raw v hm).1.keeps fun b o e _ => (kk b o e).2, (raw v hm).2⟩) fun o e => ?_
    have e' : some o = some (seqObj "list" its.toArray 0) := e.symm.trans ha
    cases e'
    intro c
    exact absurd (Value.type.inj c) (by decide)
  · obtain ⟨ep, he'⟩ := PyProof.Rows.sortedAll_at s.heap its out.toArray
    have hpm := h2.perm
    have h3 : ∀ u ∈ out, ∃ a, u = Value.ref a := fun u hu => e2 u (hpm.mem_iff.mp hu)
    have hp : (out.map bkV).Perm xs := by
      rw [e1]
      exact hpm.map bkV
    have hlen : (out.map bkV).length ≤ sizeLine := by
      rw [hp.length_eq]
      exact hz
    refine ⟨.ref _, upd H (s.heap.objs.size + 1) (.lst (out.map bkV)), I.laid (t' := s.toks) (fun _ _ => PyProof.Rows.sortedAll_old) (Nat.le_succ _) ⟨hlen, out, ep, bkV_vals h3, by simpa using he'⟩, rfl, q _ _ hp ?_ (I.hok.fresh (Nat.le_succ _))⟩
    rw [List.pairwise_map]
    refine List.Pairwise.imp (fun {u v} huv n m hn hm => ?_) h1
    obtain ⟨t, et, ht⟩ := hn
    obtain ⟨t', et', ht'⟩ := hm
    have eu := bkV_ref et
    have ev := bkV_ref et'
    have i1 : TS.intsOf s.heap u = n := by
      rw [eu]
      exact (tupI_raw I ht).ints
    have i2 : TS.intsOf s.heap v = m := by
      rw [ev]
      exact (tupI_raw I ht').ints
    rw [← i1, ← i2]
    exact huv
end
end Wh

set_option Elab.async false
set_option linter.all false
set_option maxRecDepth 100000
set_option maxHeartbeats 1000000
set_option exponentiation.threshold 5000
/-! Wh5: repr, built-ins, indices, slices, on values. -/
namespace Wh
open PySem PySem.Spec PyProof.Rows L2 Evl

/-! ### how long a shown thing is -/
theorem Str.len_app (a b : Str) : (a ++ b).length = a.length + b.length := Str.length_append a b
def lens : List Str → Nat
  | [] => 0
  | t :: ts => t.length + 2 + lens ts
theorem join_le : ∀ ts : List Str, (Str.join ", " ts).length ≤ lens ts
  | [] => Nat.zero_le _
  | [t] => by show t.length ≤ t.length + 2 + 0; omega
  | t :: u :: ts => by
    have ih := join_le (u :: ts)
    show (t ++ (", " : Str) ++ Str.join ", " (u :: ts)).length ≤ t.length + 2 + lens (u :: ts)
    rw [Str.len_app, Str.len_app]
    have : ((", " : Str)).length = 2 := rfl
    omega
theorem log_of {i : Int} (h : i.natAbs < 2 ^ 1900) : i.natAbs.log2 < 1920 := by
  by_cases h0 : i.natAbs = 0
  · rw [h0]; decide +kernel
  · have h2 := (Nat.log2_lt h0).mpr h
    omega
mutual
theorem shown_le : ∀ d : PyData, small d = true → d.shown.length ≤ wt d
  | .none, _ => by rw [PyData.shown_none]; decide +kernel
  | .bool b, _ => by rw [PyData.shown_bool]; cases b <;> decide +kernel
  | .int i, h => by
    rw [PyData.shown_int]
    have h' : i.natAbs < 2 ^ 1900 := by simpa [small] using h
    have h2 := int_text_len_1921 (log_of h')
    show _ ≤ 2000
    omega
  | .str x, h => by
    rw [PyData.shown_str]
    have h' : ∀ c ∈ x.cps.toList, c < 16 ^ 8 := by
      intro c hc
      have := List.all_eq_true.mp (by simpa only [small] using h) c hc
      exact of_decide_eq_true this
    have h2 := PySem.StrLaws.reprText_len x h'
    show _ ≤ 12 * x.length + 2
    omega
  | .list xs, h => by
    have ih := shownAll_le xs (by simpa [small] using h)
    rw [PyData.shown_list, Str.len_app, Str.len_app]
    have e1 : (("[" : Str)).length = 1 := rfl
    have e2 : (("]" : Str)).length = 1 := rfl
    have := join_le (PyData.shownAll xs)
    show _ ≤ 2 + wtA xs
    omega
  | .tuple xs, h => by
    have ih := shownAll_le xs (by simpa [small] using h)
    rw [PyData.shown_tuple, Str.len_app, Str.len_app]
    have e1 : (("(" : Str)).length = 1 := rfl
    have e2 : (Str.ofString (if (xs.length == 1) = true then ",)" else ")")).length ≤ 2 := by split <;> decide +kernel
    have := join_le (PyData.shownAll xs)
    show _ ≤ 3 + wtA xs
    omega
  | .dict kvs, h => by
    have ih := shownKv_le kvs (by simpa [small] using h)
    rw [PyData.shown_dict, Str.len_app, Str.len_app]
    have e1 : (("{" : Str)).length = 1 := rfl
    have e2 : (("}" : Str)).length = 1 := rfl
    have := join_le (PyData.shownKv kvs)
    show _ ≤ 2 + wtK kvs
    omega
theorem shownAll_le : ∀ xs : List PyData, smallA xs = true → lens (PyData.shownAll xs) ≤ wtA xs
  | [], _ => by rw [PyData.shownAll_nil]; exact Nat.zero_le _
  | x :: xs, h => by
    simp only [smallA, Bool.and_eq_true] at h
    rw [PyData.shownAll_cons]
    have h1 := shown_le x h.1
    have h2 := shownAll_le xs h.2
    show x.shown.length + 2 + lens (PyData.shownAll xs) ≤ wt x + 2 + wtA xs
    omega
theorem shownKv_le : ∀ xs : List (PyData × PyData), smallK xs = true → lens (PyData.shownKv xs) ≤ wtK xs
  | [], _ => by rw [PyData.shownKv_nil]; exact Nat.zero_le _
  | (k, v) :: xs, h => by
    simp only [smallK, Bool.and_eq_true] at h
    rw [PyData.shownKv_cons]
    have h1 := shown_le k h.1.1
    have h3 := shown_le v h.1.2
    have h2 := shownKv_le xs h.2
    show (k.shown ++ ": " ++ v.shown).length + 2 + lens (PyData.shownKv xs) ≤ wt k + 2 + wt v + 2 + wtK xs
    rw [Str.len_app, Str.len_app]
    have : ((": " : Str)).length = 2 := rfl
    omega
end
mutual
theorem showable_of : ∀ d : PyData, small d = true → d.showable = true
  | .none, _ => by simp only [PyData.showable]
  | .bool _, _ => by simp only [PyData.showable]
  | .str _, _ => by simp only [PyData.showable]
  | .int i, h => by
    simp only [PyData.showable]
    exact decide_eq_true (log_of (by simpa [small] using h))
  | .list xs, h => by simp only [PyData.showable]; exact showableA_of xs (by simpa [small] using h)
  | .tuple xs, h => by simp only [PyData.showable]; exact showableA_of xs (by simpa [small] using h)
  | .dict kvs, h => by simp only [PyData.showable]; exact showableK_of kvs (by simpa [small] using h)
theorem showableA_of : ∀ d : List PyData, smallA d = true → PyData.showableAll d = true
  | [], _ => by simp only [PyData.showableAll]
  | x :: xs, h => by
    simp only [smallA, Bool.and_eq_true] at h
    simp only [PyData.showableAll, Bool.and_eq_true]
    exact ⟨showable_of x h.1, showableA_of xs h.2⟩
theorem showableK_of : ∀ d : List (PyData × PyData), smallK d = true → PyData.showableKv d = true
  | [], _ => by simp only [PyData.showableKv]
  | (k, v) :: xs, h => by
    simp only [smallK, Bool.and_eq_true] at h
    simp only [PyData.showableKv, Bool.and_eq_true]
    exact ⟨⟨showable_of k h.1.1, showable_of v h.1.2⟩, showableK_of xs h.2⟩
end

section
variable {X : Cx}
/-! ### repr -/
def rRepr (K : PySem.W.Frag) : List V → Hp → VK → Prop := fun xs H Q => ∃ v d, xs = [v] ∧ Rp K H v d ∧ reprOk d = true ∧ Q (.str d.shown) H
theorem call_repr [Tbl] (hg : X.A.guards = some []) (hu : X.A.units + 64 < cLine) : CallR X (.builtin "repr") (rRepr X.K) := by
  intro pins s σ H xs us Q I r h
  obtain ⟨v, d, rfl, hd, hok, q⟩ := h
  obtain ⟨u, rfl, ru⟩ := vals1 r
  unfold reprOk at hok
  simp only [Bool.and_eq_true, decide_eq_true_eq] at hok
  obtain ⟨⟨⟨h1, h2⟩, h3⟩, h4⟩ := hok
  have hsz : d.shown.length ≤ sizeLine := Nat.le_trans (shown_le d h1) h2
  have hs := showable_of d h1
  cases hd with
  | non => cases ru; exact PySem.P.repr_of_none ⟨.str _, H, I.tok _, ⟨_, rfl⟩, q⟩
  | bl b => cases ru; rw [PyData.shown_bool] at q; exact PySem.P.repr_of_bool ⟨.str _, H, I.tok _, ⟨_, rfl⟩, q⟩
  | int i => obtain ⟨t, rfl⟩ := ru; rw [PyData.shown_int] at q; exact PySem.P.repr_of_int (log_of (by simpa [small] using h1)) ⟨.str _, H, I.tok _, ⟨_, rfl⟩, q⟩
  | str x => obtain ⟨t, rfl⟩ := ru; rw [PyData.shown_str] at q hsz; exact PySem.P.repr_of_str ⟨.str _, H, I.tok _, ⟨_, rfl⟩, q⟩ hsz
  | lst a b =>
    obtain ⟨as, rd, hn⟩ := Rp.reads I _ _ _ (.lst a b) ru
    cases ru
    refine repr_of_reads' rd hs (fun z => hn ?_) hg (by omega) (fun _ _ e => e) (fun h' u tk hk => ⟨.str _, H, I.kept hk, ⟨_, rfl⟩, q⟩) hsz
    rw [z] at h4; simpa using h4
  | tup a b =>
    obtain ⟨as, rd, hn⟩ := Rp.reads I _ _ _ (.tup a b) ru
    cases ru
    refine repr_of_reads' rd hs (fun z => hn ?_) hg (by omega) (fun _ _ e => e) (fun h' u tk hk => ⟨.str _, H, I.kept hk, ⟨_, rfl⟩, q⟩) hsz
    rw [z] at h4; simpa using h4
  | dct a b =>
    obtain ⟨as, rd, hn⟩ := Rp.reads I _ _ _ (.dct a b) ru
    cases ru
    refine repr_of_reads' rd hs (fun z => hn ?_) hg (by omega) (fun _ _ e => e) (fun h' u tk hk => ⟨.str _, H, I.kept hk, ⟨_, rfl⟩, q⟩) hsz
    rw [z] at h4; simpa using h4

/-! ### built-ins of one argument -/
theorem bools_eq : ∀ {xs : List PyData} {bs : List Bool}, bools xs = some bs → xs = bs.map .bool
  | [], _, h => by cases h; rfl
  | x :: xs, bs, h => by
    cases x <;> simp only [bools] at h <;> first | (cases h; done) | skip
    obtain ⟨cs, h1, h2⟩ := Option.map_eq_some_iff.mp h
    subst h2
    rw [bools_eq h1]; rfl
theorem ints_eq : ∀ {xs : List PyData} {ns : List Int}, intsD xs = some ns → xs = ns.map .int
  | [], _, h => by cases h; rfl
  | x :: xs, bs, h => by
    cases x <;> simp only [intsD] at h <;> first | (cases h; done) | skip
    obtain ⟨cs, h1, h2⟩ := Option.map_eq_some_iff.mp h
    subst h2
    rw [ints_eq h1]; rfl
theorem insI_perm (x : Int) : ∀ l : List Int, (insI x l).Perm (x :: l)
  | [] => List.Perm.refl _
  | y :: ys => by
    unfold insI
    split
    · exact List.Perm.refl _
    · exact ((insI_perm x ys).cons y).trans (List.Perm.swap ..)
theorem srtI_perm : ∀ l : List Int, (srtI l).Perm l
  | [] => List.Perm.refl _
  | x :: xs => (insI_perm x _).trans ((srtI_perm xs).cons x)
theorem insI_srt (x : Int) : ∀ l : List Int, l.Pairwise (· ≤ ·) → (insI x l).Pairwise (· ≤ ·)
  | [], _ => by simp [insI]
  | y :: ys, h => by
    unfold insI
    obtain ⟨h1, h2⟩ := List.pairwise_cons.mp h
    split
    · rename_i hle
      refine List.pairwise_cons.mpr ⟨fun z hz => ?_, h⟩
      rcases List.mem_cons.mp hz with rfl | hz
      · exact hle
      · have := h1 z hz; omega
    · refine List.pairwise_cons.mpr ⟨fun z hz => ?_, insI_srt x ys h2⟩
      rcases List.mem_cons.mp ((insI_perm x ys).mem_iff.mp hz) with rfl | hz
      · omega
      · exact h1 z hz
theorem srtI_srt : ∀ l : List Int, (srtI l).Pairwise (· ≤ ·)
  | [] => List.Pairwise.nil
  | x :: xs => insI_srt x _ (srtI_srt xs)
theorem sorted_uniq : ∀ {l l' : List Int}, l.Perm l' → l.Pairwise (· ≤ ·) → l'.Pairwise (· ≤ ·) → l = l'
  | [], _, p, _, _ => (List.nil_perm.mp p).symm
  | x :: xs, [], p, _, _ => by have := p.length_eq; simp at this
  | x :: xs, y :: ys, p, h, h' => by
    obtain ⟨a1, a2⟩ := List.pairwise_cons.mp h
    obtain ⟨b1, b2⟩ := List.pairwise_cons.mp h'
    have hx : x ∈ y :: ys := p.mem_iff.mp List.mem_cons_self
    have hy : y ∈ x :: xs := p.mem_iff.mpr List.mem_cons_self
    have e : x = y := by
      rcases List.mem_cons.mp hx with e | hx
      · exact e
      · rcases List.mem_cons.mp hy with e | hy
        · exact e.symm
        · have := a1 y hy
          have := b1 x hx
          omega
    subst e
    rw [sorted_uniq ((List.perm_cons x).mp p) a2 b2]
theorem srtI_uniq {ns ns' : List Int} (p : ns'.Perm ns) (h : ns'.Pairwise (· ≤ ·)) : ns' = srtI ns := sorted_uniq (p.trans (srtI_perm ns).symm) h (srtI_srt ns)
theorem insU_mem (x : Int) : ∀ (l : List Int) (z : Int), z ∈ insU x l ↔ z = x ∨ z ∈ l
  | [], z => by simp [insU]
  | y :: ys, z => by
    unfold insU
    split
    · simp
    · split
      · rename_i h
        subst h
        simp
      · have ih := insU_mem x ys z
        simp only [List.mem_cons, ih]
        constructor
        · rintro (h | h | h) <;> simp [h]
        · rintro (h | h | h) <;> simp [h]
theorem srtU_mem : ∀ (l : List Int) (z : Int), z ∈ srtU l ↔ z ∈ l
  | [], z => by simp [srtU]
  | x :: xs, z => by
    show z ∈ insU x (srtU xs) ↔ _
    rw [insU_mem, srtU_mem xs z, List.mem_cons]
theorem insU_srt (x : Int) : ∀ l : List Int, l.Pairwise (· < ·) → (insU x l).Pairwise (· < ·)
  | [], _ => by simp [insU]
  | y :: ys, h => by
    unfold insU
    obtain ⟨h1, h2⟩ := List.pairwise_cons.mp h
    split
    · rename_i hle
      refine List.pairwise_cons.mpr ⟨fun z hz => ?_, h⟩
      rcases List.mem_cons.mp hz with rfl | hz
      · exact hle
      · have := h1 z hz; omega
    · split
      · exact h
      · refine List.pairwise_cons.mpr ⟨fun z hz => ?_, insU_srt x ys h2⟩
        rcases (insU_mem x ys z).mp hz with rfl | hz
        · omega
        · exact h1 z hz
theorem srtU_srt : ∀ l : List Int, (srtU l).Pairwise (· < ·)
  | [] => List.Pairwise.nil
  | x :: xs => insU_srt x _ (srtU_srt xs)
theorem strict_uniq : ∀ {l l' : List Int}, l.Pairwise (· < ·) → l'.Pairwise (· < ·) → (∀ z, z ∈ l ↔ z ∈ l') → l = l'
  | [], [], _, _, _ => rfl
  | [], y :: ys, _, _, h => absurd ((h y).mpr List.mem_cons_self) (by simp)
  | x :: xs, [], _, _, h => absurd ((h x).mp List.mem_cons_self) (by simp)
  | x :: xs, y :: ys, h1, h2, h => by
    obtain ⟨a1, a2⟩ := List.pairwise_cons.mp h1
    obtain ⟨b1, b2⟩ := List.pairwise_cons.mp h2
    have hx := (h x).mp List.mem_cons_self
    have hy := (h y).mpr List.mem_cons_self
    have e : x = y := by
      rcases List.mem_cons.mp hx with e | hx
      · exact e
      · rcases List.mem_cons.mp hy with e | hy
        · exact e.symm
        · have := a1 y hy
          have := b1 x hx
          omega
    subst e
    rw [strict_uniq a2 b2 fun z => ?_]
    constructor
    · intro hz
      rcases List.mem_cons.mp ((h z).mp (List.mem_cons_of_mem _ hz)) with e | q
      · have := a1 z hz; omega
      · exact q
    · intro hz
      rcases List.mem_cons.mp ((h z).mpr (List.mem_cons_of_mem _ hz)) with e | q
      · have := b1 z hz; omega
      · exact q
/-- the sum of a list or a tuple of ints -/
theorem vals_sum {ns : List Int} {its : List Value} (r : Vals (ns.map V.int) its) : (∀ (i : Nat) (v : Value), its.toArray[i]? = some v → ∃ t, v = .int ((fun j => (ns[j]?).getD 0) i) t) ∧ preSum (fun j => (ns[j]?).getD 0) its.toArray.size = ns.sum := by
  have hl : its.length = ns.length := by rw [← r.length, List.length_map]
  constructor
  · intro i v hv
    have hv' : its[i]? = some v := by simpa using hv
    have hi : i < ns.length := by
      have := (List.getElem?_eq_some_iff.mp hv').1
      omega
    obtain ⟨u, hu, ru⟩ := r.get (i := i) (x := V.int ns[i]) (by rw [List.getElem?_map, List.getElem?_eq_getElem hi]; rfl)
    rw [hu] at hv'
    cases hv'
    obtain ⟨t, rfl⟩ := ru
    exact ⟨t, by simp [List.getElem?_eq_getElem hi]⟩
  · rw [List.size_toArray, hl]
    have key : ∀ n, n ≤ ns.length → preSum (fun j => (ns[j]?).getD 0) n = (ns.take n).sum := by
      intro n
      induction n with
      | zero => intro _; rfl
      | succ n ih =>
        intro hn
        show preSum _ n + (ns[n]?).getD 0 = _
        rw [ih (by omega), List.take_succ, List.getElem?_eq_getElem (by omega), List.sum_append]
        simp
    rw [key _ (Nat.le_refl _), List.take_length]
theorem cr_sum [Tbl] (hc : X.calm = true) : CallR X (.builtin "sum") (fun xs H Q => ∃ (q : Addr) (ns : List Int), xs = [.ref q] ∧ (SqL X.K H q (ns.map V.int) ∨ SqT X.K H q (ns.map V.int)) ∧ Q (.int ns.sum) H) := by
  intro pins s σ H xs us Q I r h
  obtain ⟨q, ns, rfl, hq, k⟩ := h
  rw [Vals.ref1 r]
  rcases hq with hq | hq
  · obtain ⟨its, rv, pl, hsz⟩ := I.list hq
    obtain ⟨v1, v2⟩ := vals_sum rv
    refine call_sum_walkAnyS (iter_any pl.isList fun s₂ e2 st hne => ?_)
    subst e2
    have hfp : ∀ b ∈ [s.heap.objs.size, q], b < (s.heap.push { cls := .type "list_iterator", data := .fields #[.ref q, .int 0 0] }).objs.size := fun b hb => by
      obtain ⟨o, ho, _⟩ := pl.isList
      rcases List.mem_cons.mp hb with rfl | hb
      · exact Heap.lt_size (Heap.get?_push_size _ rfl)
      · obtain rfl := List.mem_singleton.mp hb
        exact Heap.lt_size (Heap.get?_push_of_some _ ho)
    refine ⟨_, _, _, _, _, _, _, _, rfl, (Walks.list (A := X.A.in1) (I.ok.hd hc) _ q hne its.toArray).toS, st, hfp, v1, fun s' t' hm => ?_⟩
    rw [v2]
    rw [Moved.eq_with hm]
    refine ⟨.int _, H, I.kept fun b o eo => hm.heap b o (fun hb => absurd (Heap.lt_size eo) ((List.mem_singleton.mp hb) ▸ Nat.lt_irrefl _)) (Heap.get?_push_of_some _ eo), ⟨t', rfl⟩, k⟩
  · obtain ⟨its, rv, pl, hsz⟩ := I.tuple hq
    obtain ⟨v1, v2⟩ := vals_sum rv
    obtain ⟨o, ho, hc', n, hd⟩ := id pl
    have hne : q ≠ s.heap.objs.size := Nat.ne_of_lt (Heap.lt_size ho)
    have W := (Walks.tuple (prog := X.prog) (w := X.w) (A := X.A.in1) (I.ok.hd hc) s.heap.objs.size q hne its.toArray).toS
    refine call_sum_walkAnyS (wpAny_pyIter_tuple pl ?_)
    refine ⟨s.heap.objs.size, _, _, _, _, _, _, _, rfl, W, ⟨⟨_, Heap.get?_push_size _ rfl, rfl, rfl⟩, ⟨o, Heap.get?_push_of_some _ ho, hc', n, hd⟩⟩, fun b hb => ?_, v1, fun s' t' hm => ?_⟩
    · rcases List.mem_cons.mp hb with rfl | hb
      · exact Heap.lt_size (Heap.get?_push_size _ rfl)
      · obtain rfl := List.mem_singleton.mp hb
        exact Heap.lt_size (Heap.get?_push_of_some _ ho)
    · rw [v2]
      rw [Moved.eq_with hm]
      refine ⟨.int _, H, I.kept fun b o eo => hm.heap b o (fun hb => absurd (Heap.lt_size eo) ((List.mem_singleton.mp hb) ▸ Nat.lt_irrefl _)) (Heap.get?_push_of_some _ eo), ⟨t', rfl⟩, k⟩
/-! rows of ints, sorted -/
theorem rows_eq : ∀ {ds : List PyData} {rs : List (List Int)}, rowsD ds = some rs → ds = rs.map rowP ∧ ∀ ns ∈ rs, ns ≠ []
  | [], _, h => by simp only [rowsD] at h; cases h; exact ⟨rfl, fun _ h => nomatch h⟩
  | d :: ds, rs, h => by
    cases d <;> simp only [rowsD] at h <;> first | (cases h; done) | skip
    split at h
    · rename_i n ns rs' h1 h2
      cases h
      obtain ⟨e, hall⟩ := rows_eq h2
      refine ⟨by rw [List.map_cons, ← e, rowP, ← ints_eq h1], fun m hm => ?_⟩
      rcases List.mem_cons.mp hm with rfl | hm
      · exact fun z => nomatch z
      · exact hall m hm
    · cases h
theorem tupI_rp {K : PySem.W.Frag} {F : Hp} {v : V} {ns : List Int} (h : Rp K F v (rowP ns)) : TupI K F v ns := by
  unfold rowP at h
  cases h with
  | tup h1 h2 =>
    rw [h2.ints] at h1
    exact ⟨_, rfl, h1⟩
theorem _root_.L2.TupI.mono {K : PySem.W.Frag} {F F' : Hp} {v : V} {ns : List Int} (h : TupI K F v ns) (e : Ex F F') : TupI K F' v ns := by
  obtain ⟨t, rfl, h⟩ := h
  exact ⟨t, rfl, ex_t e h⟩
theorem rows_perm {K : PySem.W.Frag} {F : Hp} {ys xs : List V} (hp : ys.Perm xs) : ∀ {rs : List (List Int)}, RpA K F xs (rs.map rowP) → ∃ rs' : List (List Int), rs'.Perm rs ∧ RpA K F ys (rs'.map rowP) := by
  induction hp with
  | nil =>
    intro rs h
    cases rs with
    | nil => exact ⟨[], .nil, .nil⟩
    | cons _ _ => cases h
  | cons x p ih =>
    intro rs h
    cases rs with
    | nil => cases h
    | cons r rs =>
      rw [List.map_cons] at h
      cases h with
      | cons a b =>
        obtain ⟨rs', h1, h2⟩ := ih b
        exact ⟨r :: rs', h1.cons r, .cons a h2⟩
  | swap x y l =>
    intro rs h
    match rs, h with
    | r1 :: r2 :: rs, .cons a (.cons b c) => exact ⟨r2 :: r1 :: rs, .swap _ _ _, .cons b (.cons a c)⟩
  | trans p1 p2 ih1 ih2 =>
    intro rs h
    obtain ⟨rs', h1, h2⟩ := ih2 h
    obtain ⟨rs2, h3, h4⟩ := ih1 h2
    exact ⟨rs2, h3.trans h1, h4⟩
theorem rows_pw {K : PySem.W.Frag} {F H : Hp} (e : Ex F H) : ∀ {ys : List V} {rs : List (List Int)}, RpA K F ys (rs.map rowP) → ys.Pairwise (fun x y => ∀ n m, TupI K H x n → TupI K H y m → HT.lexLt m n = false) → rs.Pairwise fun n m => HT.lexLt m n = false
  | [], [], _, _ => .nil
  | [], _ :: _, h, _ => by cases h
  | _ :: _, [], h, _ => by cases h
  | y :: ys, r :: rs, h, hpw => by
    rw [List.map_cons] at h
    cases h with
    | cons a b =>
      cases hpw with
      | cons h1 h2 =>
        refine .cons (fun m hm => ?_) (rows_pw e b h2)
        obtain ⟨i, hi⟩ := List.mem_iff_getElem?.mp hm
        obtain ⟨v, hv, rp⟩ := b.get (d := rowP m) (i := i) (by rw [List.getElem?_map, hi]; rfl)
        exact h1 v (List.mem_of_getElem? hv) r m ((tupI_rp a).mono e) ((tupI_rp rp).mono e)
theorem insR_perm (x : List Int) : ∀ l : List (List Int), (insR x l).Perm (x :: l)
  | [] => .refl _
  | y :: ys => by
    unfold insR
    split
    · exact ((insR_perm x ys).cons y).trans (.swap _ _ _)
    · exact .refl _
theorem srtR_perm : ∀ l : List (List Int), (srtR l).Perm l
  | [] => .refl _
  | x :: xs => (insR_perm x _).trans ((srtR_perm xs).cons x)
theorem insR_pw (x : List Int) : ∀ {l : List (List Int)}, (l.Pairwise fun n m => HT.lexLt m n = false) → (insR x l).Pairwise fun n m => HT.lexLt m n = false
  | [], _ => List.pairwise_singleton _ _
  | y :: ys, h => by
    unfold insR
    cases h with
    | cons h1 h2 =>
      split
      · rename_i hlt
        refine .cons (fun m hm => ?_) (insR_pw x h2)
        rcases List.mem_cons.mp ((insR_perm x ys).mem_iff.mp hm) with rfl | hm
        · exact NtL.lex_asym _ _ hlt
        · exact h1 m hm
      · rename_i hlt
        have hlt : HT.lexLt y x = false := by simpa using hlt
        refine .cons (fun m hm => ?_) (.cons h1 h2)
        rcases List.mem_cons.mp hm with rfl | hm
        · exact hlt
        · exact NtL.lex_tr _ _ _ hlt (h1 m hm)
theorem srtR_pw : ∀ l : List (List Int), (srtR l).Pairwise fun n m => HT.lexLt m n = false
  | [] => .nil
  | x :: xs => insR_pw x (srtR_pw xs)
theorem lex_eq : ∀ {n m : List Int}, HT.lexLt n m = false → HT.lexLt m n = false → n = m
  | [], [], _, _ => rfl
  | [], y :: ys, h, _ => by rw [HT.lexLt_nil_cons] at h; cases h
  | x :: xs, [], _, h => by rw [HT.lexLt_nil_cons] at h; cases h
  | x :: xs, y :: ys, h1, h2 => by
    rw [HT.lexLt_cons] at h1 h2
    by_cases e : x = y
    · subst e
      rw [if_pos rfl] at h1 h2
      rw [lex_eq h1 h2]
    · rw [if_neg e] at h1
      rw [if_neg (Ne.symm e)] at h2
      have a := of_decide_eq_false h1
      have b := of_decide_eq_false h2
      omega
theorem pw_uniq : ∀ {l m : List (List Int)}, l.Perm m → (l.Pairwise fun n m => HT.lexLt m n = false) → (m.Pairwise fun n m => HT.lexLt m n = false) → l = m
  | [], m, p, _, _ => (List.nil_perm.mp p).symm
  | x :: l, [], p, _, _ => by simpa using p.length_eq
  | x :: l, y :: m, p, h1, h2 => by
    cases h1 with
    | cons a1 b1 =>
      cases h2 with
      | cons a2 b2 =>
        have e : x = y := by
          rcases List.mem_cons.mp (p.mem_iff.mp (.head _) : x ∈ y :: m) with e | hx
          · exact e
          · rcases List.mem_cons.mp (p.mem_iff.mpr (.head _) : y ∈ x :: l) with e | hy
            · exact e.symm
            · exact lex_eq (a2 x hx) (a1 y hy)
        subst e
        rw [pw_uniq (List.perm_cons x |>.mp p) b1 b2]
theorem rows_uniq {rs rs' : List (List Int)} (p : rs'.Perm rs) (h : rs'.Pairwise fun n m => HT.lexLt m n = false) : rs' = srtR rs := pw_uniq (p.trans (srtR_perm rs).symm) h (srtR_pw rs)
/-- a built-in's name and what it is -/
inductive BKind where
  | fn (n : String) | ty (n : String)
def B1.kind : B1 → BKind
  | .len => .fn "len" | .abs => .fn "abs" | .int => .ty "int" | .all => .fn "all" | .any => .fn "any" | .repr => .fn "repr" | .tuple => .ty "tuple" | .list => .ty "list" | .str => .ty "str" | .srt => .fn "sorted" | .sum => .fn "sum" | .isi _ => .fn "isinstance"
def BKind.val : BKind → Value
  | .fn n => .builtin n
  | .ty n => .type n
def B1.nm : B1 → String := fun b => match b.kind with | .fn n => n | .ty n => n
variable [Tbl]
theorem b1_any {b : B1} (hc : X.calm = true) (hg : X.A.guards = some []) (hu : X.A.units + 64 < cLine) (hb : ∀ t, b ≠ .isi t) : ∃ r, CallR X b.kind.val r ∧ RU1 X.K r (b1D b) := by
  cases b with
  | len =>
    refine ⟨_, call_len_seq.or (call_len_str.or call_lenD), fun {ρ σ F H vx x z Q} rep hx h q => ?_⟩
    cases hx <;> simp only [b1D] at h <;> first | (cases h; done) | skip
    · split at h
      · cases h
        exact .inr (.inl ⟨_, rfl, by assumption, keepQ rep q (.int _)⟩)
      · cases h
    · rename_i a vs ds h1 h2
      cases h
      exact .inl ⟨a, vs, rfl, .inl (rep.exL h1), by rw [h2.len]; exact keepQ rep q (.int _)⟩
    · rename_i a vs ds h1 h2
      cases h
      exact .inl ⟨a, vs, rfl, .inr (rep.exT h1), by rw [h2.len]; exact keepQ rep q (.int _)⟩
    · rename_i a vs ds h1 h2
      cases h
      exact .inr (.inr ⟨a, vs, rfl, rep.ex _ _ h1, by rw [h2.len]; exact keepQ rep q (.int _)⟩)
  | abs =>
    refine ⟨_, call_abs, fun {ρ σ F H vx x z Q} rep hx h q => ?_⟩
    cases hx <;> simp only [b1D] at h <;> first | (cases h; done) | skip
    cases h
    exact ⟨_, rfl, keepQ rep q (.int _)⟩
  | int =>
    refine ⟨_, call_int1, fun {ρ σ F H vx x z Q} rep hx h q => ?_⟩
    cases hx <;> simp only [b1D] at h <;> first | (cases h; done) | skip
    · cases h
      exact .inr ⟨_, rfl, keepQ rep q (.int _)⟩
    · cases h
      exact .inl ⟨_, rfl, keepQ rep q (.int _)⟩
  | all =>
    refine ⟨_, cr_all hc, fun {ρ σ F H vx x z Q} rep hx h q => ?_⟩
    cases hx <;> simp only [b1D] at h <;> first | (cases h; done) | skip
    rename_i a vs ds h1 h2
    obtain ⟨bs, h3, h4⟩ := Option.map_eq_some_iff.mp h
    subst h4
    rw [bools_eq h3] at h2
    rw [h2.bools] at h1
    exact ⟨a, bs, rfl, rep.exL h1, keepQ rep q (.bl _)⟩
  | any =>
    refine ⟨_, cr_any hc, fun {ρ σ F H vx x z Q} rep hx h q => ?_⟩
    cases hx <;> simp only [b1D] at h <;> first | (cases h; done) | skip
    rename_i a vs ds h1 h2
    obtain ⟨bs, h3, h4⟩ := Option.map_eq_some_iff.mp h
    subst h4
    rw [bools_eq h3] at h2
    rw [h2.bools] at h1
    exact ⟨a, bs, rfl, rep.exL h1, keepQ rep q (.bl _)⟩
  | repr =>
    refine ⟨_, call_repr hg hu, fun {ρ σ F H vx x z Q} rep hx h q => ?_⟩
    simp only [b1D] at h
    split at h
    · cases h
      exact ⟨vx, x, rfl, hx.mono rep.ex, by assumption, keepQ rep q (.str _)⟩
    · cases h
  | tuple =>
    refine ⟨_, call_tuple_of, fun {ρ σ F H vx x z Q} rep hx h q => ?_⟩
    cases hx <;> simp only [b1D] at h <;> first | (cases h; done) | skip
    · rename_i a vs ds h1 h2
      cases h
      exact ⟨a, vs, rfl, .inl ⟨rep.exL h1, fun l hl => layT rep q hl h2⟩⟩
    · rename_i a vs ds h1 h2
      cases h
      exact ⟨a, vs, rfl, .inr ⟨rep.exT h1, keepQ rep q (.tup h1 h2)⟩⟩
  | list =>
    refine ⟨_, call_list_of, fun {ρ σ F H vx x z Q} rep hx h q => ?_⟩
    cases hx <;> simp only [b1D] at h <;> first | (cases h; done) | skip
    · rename_i a vs ds h1 h2
      cases h
      exact ⟨a, vs, rfl, .inl (rep.exL h1), fun l hl => layL rep q hl h2⟩
    · rename_i a vs ds h1 h2
      cases h
      exact ⟨a, vs, rfl, .inr (rep.exT h1), fun l hl => layL rep q hl h2⟩
  | str =>
    refine ⟨_, call_str_int, fun {ρ σ F H vx x z Q} rep hx h q => ?_⟩
    cases hx <;> simp only [b1D] at h <;> first | (cases h; done) | skip
    split at h
    · rename_i i hs
      cases h
      refine ⟨i, rfl, log_of (by simpa [small] using hs), ?_⟩
      have := keepQ rep q (.str _)
      rw [PyData.shown_int] at this
      exact this
    · cases h
  | srt =>
    refine ⟨_, (cr_sortedI.or cr_sortedIT).or cr_sortedTU, fun {ρ σ F H vx x z Q} rep hx h q => ?_⟩
    have key : ∀ (a : Addr) (vs : List V) (ds : List PyData), vx = .ref a → (SqL X.K F a vs ∨ SqT X.K F a vs) → RpA X.K F vs ds → srtD ds = some z → (rSortedI X.K [vx] H Q ∨ rSortedIT X.K [vx] H Q) ∨ rSortedTU X.K [vx] H Q := fun a vs ds hv hs ha hd => by
      subst hv
      unfold srtD at hd
      cases hi : intsD ds with
      | some ns =>
        rw [hi] at hd
        cases hd
        rw [ints_eq hi] at ha
        rw [ha.ints] at hs
        refine .inl ?_
        rcases hs with hs | hs
        · refine .inl ⟨a, ns, rfl, rep.exL hs, fun ns' p hp hs hl => ?_⟩
          rw [srtI_uniq hp hs]
          exact layL rep q hl (RpA.ofInts _)
        · refine .inr ⟨a, ns, rfl, rep.exT hs, fun ns' p hp hs hl => ?_⟩
          rw [srtI_uniq hp hs]
          exact layL rep q hl (RpA.ofInts _)
      | none =>
        rw [hi] at hd
        simp only at hd
        split at hd
        · rename_i rs hr
          cases hd
          obtain ⟨e, hall⟩ := rows_eq hr
          subst e
          refine .inr ⟨a, vs, rfl, ?_, fun x hx => ?_, fun ys p hp hpw hl => ?_⟩
          · rcases hs with hs | hs
            · exact .inl (rep.exL hs)
            · exact .inr (rep.exT hs)
          · obtain ⟨i, hi⟩ := List.mem_iff_getElem?.mp hx
            obtain ⟨d, hd, rp⟩ := ha.getV hi
            rw [List.getElem?_map] at hd
            obtain ⟨ns, hn, rfl⟩ := Option.map_eq_some_iff.mp hd
            exact ⟨ns, (tupI_rp rp).mono rep.ex, hall ns (List.mem_of_getElem? hn)⟩
          · obtain ⟨rs', hp', ha'⟩ := rows_perm hp ha
            have : rs' = srtR rs := rows_uniq hp' (rows_pw rep.ex ha' hpw)
            subst this
            exact layL rep q hl ha'
        · cases hd
    cases hx <;> simp only [b1D] at h <;> first | (cases h; done) | skip
    · exact key _ _ _ rfl (.inl (by assumption)) (by assumption) h
    · exact key _ _ _ rfl (.inr (by assumption)) (by assumption) h
  | sum =>
    refine ⟨_, cr_sum hc, fun {ρ σ F H vx x z Q} rep hx h q => ?_⟩
    cases hx <;> simp only [b1D, sumD] at h <;> first | (cases h; done) | skip
    · rename_i a vs ds h1 h2
      obtain ⟨ns, h3, rfl⟩ := Option.map_eq_some_iff.mp h
      rw [ints_eq h3] at h2
      rw [h2.ints] at h1
      exact ⟨a, ns, rfl, .inl (rep.exL h1), keepQ rep q (.int _)⟩
    · rename_i a vs ds h1 h2
      obtain ⟨ns, h3, rfl⟩ := Option.map_eq_some_iff.mp h
      rw [ints_eq h3] at h2
      rw [h2.ints] at h1
      exact ⟨a, ns, rfl, .inr (rep.exT h1), keepQ rep q (.int _)⟩
  | isi t => exact absurd rfl (hb t)
def B2.nm : B2 → String
  | .max => "max" | .min => "min" | .dvm => "divmod"
theorem b2_any {b : B2} (hc : X.calm = true) : ∃ r, CallR X (.builtin b.nm) r ∧ RU2 X.K r (b2D b) := by
  cases b with
  | max =>
    refine ⟨_, call_max2 hc, fun {ρ σ F H vx vy x y z Q} rep hx hy h q => ?_⟩
    cases hx <;> cases hy <;> simp only [b2D] at h <;> first | (cases h; done) | skip
    cases h
    exact ⟨_, _, rfl, keepQ rep q (.int _)⟩
  | min =>
    refine ⟨_, call_min2 hc, fun {ρ σ F H vx vy x y z Q} rep hx hy h q => ?_⟩
    cases hx <;> cases hy <;> simp only [b2D] at h <;> first | (cases h; done) | skip
    cases h
    exact ⟨_, _, rfl, keepQ rep q (.int _)⟩
  | dvm =>
    refine ⟨_, call_divmodW, fun {ρ σ F H vx vy x y z Q} rep hx hy h q => ?_⟩
    cases hx <;> cases hy <;> simp only [b2D] at h <;> first | (cases h; done) | skip
    split at h
    · rename_i hj
      cases h
      exact ⟨_, _, rfl, ⟨hj.1, PyProof.noPylong_of_log2 hj.2⟩, fun p hp => layT rep q hp (.cons (.int _) (.cons (.int _) .nil))⟩
    · cases h

/-! ### isinstance -/
theorem rp_ty {K : PySem.W.Frag} {F H : Hp} (e : Ex F H) {v : V} {d : PyData} (h : Rp K F v d) : TyX K H v (.type (tyOf d)) := by
  cases h with
  | non => exact .base .non
  | bl b => exact .base (.bl b)
  | int i => exact .base (.int i)
  | str x => exact .base (.str x)
  | lst h1 h2 =>
    rcases h1 with (h1 | ⟨o, h1⟩) | ⟨o, its, n, hk, hc, _⟩
    · exact .base (.lst (e _ _ h1))
    · exact .base (.frz (e _ _ h1))
    · exact .kList hk hc
  | tup h1 h2 =>
    rcases h1 with (h1 | ⟨o, h1⟩) | ⟨o, its, n, hk, hc, _⟩
    · exact .base (.tup (e _ _ h1))
    · exact .fTuple (e _ _ h1)
    · exact .kTuple hk hc
  | dct h1 h2 => exact .base (.dK (e _ _ h1))
theorem kit_isi (K : PySem.W.Frag) (t : Ty) (d : PyData) : PySem.W.kitOne K (.type (tyOf d)) (.type t.nm) = some (isi t d) := by
  refine kit_ty ?_
  cases t <;> cases d <;> (simp only [tyOf, Ty.nm, isi]; decide +kernel)

/-! ### indices, slices -/
theorem rb_ix {K : PySem.W.Frag} : RB K (fun x y H Q => rIxL K x y H Q ∨ rIxT K x y H Q ∨ rIxK x y H Q) ixD := by
  intro ρ σ F H vx vy x y z Q rep hx hy h q
  have at_ : ∀ {vs : List V} {ds : List PyData} {i : Int}, RpA K F vs ds → atI ds i = some z → ∃ v, atI vs i = some v ∧ Rp K F v z := fun {vs ds i} ha hi => by
    unfold atI at hi ⊢
    rw [ha.len]
    cases hn : ixN ds.length i with
    | none => rw [hn] at hi; cases hi
    | some j =>
      rw [hn] at hi
      exact ha.get hi
  have dk : ∀ {a : Addr} {kvs : List (Key × V)} {ds : List (PyData × PyData)}, F a = some (.dK kvs) → RpK K F kvs ds → vx = .ref a → ixD (.dict ds) y = some z → rIxK vx vy H Q := fun {a kvs ds} h1 h2 hv h => by
    simp only [ixD] at h
    split at h
    · rename_i k hk
      have e := keyD_eq hk
      subst e
      cases hy.key
      obtain ⟨v, e1, e2⟩ := (h2.get k).1 z h
      exact ⟨a, v, hv, by rw [← e1]; exact DGet.k (rep.ex _ _ h1), keepQ rep q e2⟩
    · cases h
  cases hx
  case dct a kvs ds h1 h2 => exact .inr (.inr (dk h1 h2 rfl h))
  all_goals (cases hy <;> simp only [ixD] at h <;> first | (cases h; done) | skip)
  · rename_i a vs ds h1 h2 i
    obtain ⟨v, h3, h4⟩ := at_ h2 h
    exact .inl ⟨a, vs, i, v, rfl, rfl, rep.exL h1, h3, keepQ rep q h4⟩
  · rename_i a vs ds h1 h2 i
    obtain ⟨v, h3, h4⟩ := at_ h2 h
    exact .inr (.inl ⟨a, vs, i, v, rfl, rfl, rep.exT h1, h3, keepQ rep q h4⟩)
theorem ix_any (hu : X.A.units + 1 < cLine) : IxR X (fun x y H Q => rIxL X.K x y H Q ∨ rIxT X.K x y H Q ∨ rIxK x y H Q) := ix_list.or (ix_tup.or (ix_K hu))
def rSlAny (K : PySem.W.Frag) : V → Option Int → Option Int → Hp → VK → Prop := fun x lo hi H Q => rSlL K x lo hi H Q ∨ rSlA K x lo hi H Q
theorem sl_any : SlR X (rSlAny X.K) := sl_list.or sl_tupA
theorem cut_rp {K : PySem.W.Frag} {F : Hp} {vs : List V} {ds : List PyData} (h : RpA K F vs ds) (lo hi : Option Int) : RpA K F (cutV vs lo hi) (cutD ds lo hi) := by
  unfold cutV cutD
  rw [h.len]
  exact (h.drop _).take _
theorem sl_rb {K : PySem.W.Frag} {ρ : En} {σ : L2.St} {F H : Hp} {vx : V} {x z : PyData} {lo hi : Option Int} {Q : VK} (rep : Rep K ρ σ F H) (hx : Rp K F vx x) (h : slD x lo hi = some z)
    (q : ∀ v F' H', Rep K ρ σ F' H' → StpE ρ σ F H ρ F' H' → Rp K F' v z → Q v H') : rSlAny K vx lo hi H Q := by
  cases hx <;> simp only [slD] at h <;> first | (cases h; done) | skip
  · rename_i a vs ds h1 h2
    cases h
    exact .inl ⟨a, vs, rfl, rep.exL h1, fun p hp => layL rep q hp (cut_rp h2 lo hi)⟩
  · rename_i a vs ds h1 h2
    cases h
    refine .inr ⟨a, vs, rfl, rep.exT h1, fun hw => ?_, fun _ p hp => layT rep q hp (cut_rp h2 lo hi)⟩
    rw [h2.len] at hw
    have e : cutD ds lo hi = ds := by
      unfold cutD
      rw [hw.1, hw.2]
      simp
    rw [e] at q
    exact keepQ rep q (.tup h1 h2)
end
end Wh

set_option Elab.async false
set_option linter.all false
set_option maxRecDepth 100000
set_option maxHeartbeats 1000000
set_option exponentiation.threshold 5000
/-! Wh6: expressions. -/
namespace Wh
open PySem PySem.Spec PyProof.Rows L2 Evl
variable [Tbl]

section
variable {K : PySem.W.Frag} {ρ : En} {σ : L2.St} {F H : Hp} {i : Nat}
/-! ### slots -/
theorem get_set {α : Type} {l : List α} {i j : Nat} {x : α} : (l.set i x)[j]? = if i = j then (if i < l.length then some x else none) else l[j]? := by
  rw [List.getElem?_set]
theorem lt_of_get {α : Type} {l : List α} {i : Nat} {x : α} (h : l[i]? = some x) : i < l.length := (List.getElem?_eq_some_iff.mp h).1
theorem xc_set {a : Addr} (r : ∀ i : Nat, ρ[i]? = some (some Sv.x) → σ[i]? = some (some (V.ref a))) {s : Sv} (hs : s ≠ .x) (v : V) : ∀ j : Nat, (ρ.set i (some s))[j]? = some (some Sv.x) → (σ.set i (some v))[j]? = some (some (V.ref a)) := fun j h => by
  rw [get_set] at h ⊢
  by_cases e : i = j
  · rw [if_pos e] at h
    split at h
    · cases h; exact absurd rfl hs
    · cases h
  · rw [if_neg e] at h ⊢
    exact r j h
theorem xc_give {a : Addr} (r : ∀ i : Nat, ρ[i]? = some (some Sv.x) → σ[i]? = some (some (V.ref a))) {s : Sv} (hs : s ≠ .x) : ∀ j : Nat, (ρ.set i (some s))[j]? = some (some Sv.x) → σ[j]? = some (some (V.ref a)) := fun j h => by
  rw [get_set] at h
  by_cases e : i = j
  · rw [if_pos e] at h
    split at h
    · cases h; exact absurd rfl hs
    · cases h
  · rw [if_neg e] at h
    exact r j h
/-- a slot gets data (its value v) -/
theorem Rep.setD (r : Rep K ρ σ F H) {v : V} {x : PyData} (h : Rp K F v x) : Rep K (ρ.set i (some (.d x))) (σ.set i (some v)) F H := by
  refine ⟨by simp [r.len], r.wl, fun j y hy => ?_, fun j b xs hj => ?_, fun j k s t p h1 k1 h2 k2 h3 h4 => ?_, xc_set r.xc (fun z => by cases z) v, fun j xs hj => ?_⟩
  · rw [get_set] at hy ⊢
    split at hy
    · rename_i e
      subst e
      split at hy
      · cases hy
        rename_i hl
        rw [if_pos rfl, if_pos (by rw [← r.len]; exact hl)]
        exact ⟨v, rfl, h⟩
      · cases hy
    · rename_i e
      rw [if_neg e]
      exact r.dat j y hy
  · rw [get_set] at hj ⊢
    split at hj
    · split at hj <;> cases hj
    · rename_i e
      rw [if_neg e]
      exact r.own j b xs hj
  · rw [get_set] at h1 h2 h3 h4
    split at h1
    · split at h1 <;> cases h1; cases k1
    · split at h2
      · split at h2 <;> cases h2; cases k2
      · rename_i e1 e2
        rw [if_neg e1] at h3
        rw [if_neg e2] at h4
        exact r.dis j k s t p h1 k1 h2 k2 h3 h4
  · rw [get_set] at hj ⊢
    split at hj
    · split at hj <;> cases hj
    · rename_i e
      rw [if_neg e]
      exact r.odc j xs hj
theorem own_setD {v : V} {x : PyData} {a : Addr} (h : Own (ρ.set i (some (.d x))) (σ.set i (some v)) a) : Own ρ σ a := by
  obtain ⟨j, s, h1, hs, h2⟩ := h
  rw [get_set] at h1 h2
  split at h1
  · split at h1 <;> cases h1; cases hs
  · rename_i e
    rw [if_neg e] at h2
    exact ⟨j, s, h1, hs, h2⟩
theorem pen_setD {v : V} {x : PyData} (j : Nat) (ys : List PyData) (h : (ρ.set i (some (.d x)))[j]? = some (some (Sv.own true ys))) : (σ.set i (some v))[j]? = σ[j]? ∧ ∃ xs, ρ[j]? = some (some (Sv.own true xs)) := by
  rw [get_set] at h
  split at h
  · split at h <;> cases h
  · rename_i e
    exact ⟨by rw [get_set, if_neg e], ys, h⟩
theorem pen_give {x : PyData} (j : Nat) (ys : List PyData) (h : (ρ.set i (some (.d x)))[j]? = some (some (Sv.own true ys))) : σ[j]? = σ[j]? ∧ ∃ xs, ρ[j]? = some (some (Sv.own true xs)) := by
  rw [get_set] at h
  split at h
  · split at h <;> cases h
  · exact ⟨rfl, ys, h⟩
theorem Stp.setD {v : V} {x : PyData} : Stp ρ σ F H (ρ.set i (some (.d x))) (σ.set i (some v)) F H := ⟨Ex.refl F, fun _ _ h => .inl h, fun _ _ h _ _ => h, fun _ h => .inl (own_setD h), fun _ h => h, pen_setD⟩
/-- a slot of one's own is given up: data from now on -/
theorem Rep.give (r : Rep K ρ σ F H) {bb : Bool} {xs : List PyData} {p : Addr} {vs : List V} (h : ρ[i]? = some (some (.own bb xs))) (hp : σ[i]? = some (some (.ref p))) (hf : F p = none) (hh : H p = some (.lst vs)) (ha : RpA K F vs xs) :
    Rep K (ρ.set i (some (.d (.list xs)))) σ (upd F p (.lst vs)) H := by
  have e : Ex F (upd F p (.lst vs)) := Ex.new hf
  have rp : Rp K (upd F p (.lst vs)) (.ref p) (.list xs) := .lst (SqL.of upd_same) (ha.mono e)
  have hl := lt_of_get h
  refine ⟨by simp [r.len], r.wl.frz hh (fun ps z => by cases z), fun j y hy => ?_, fun j b ys hj => ?_, fun j k s t q h1 k1 h2 k2 h3 h4 => ?_, xc_give r.xc (fun z => by cases z), fun j ys hj => ?_⟩
  · rw [get_set] at hy
    split at hy
    · rename_i e'
      subst e'
      (try rw [if_pos hl] at hy)
      cases hy
      exact ⟨_, hp, rp⟩
    · obtain ⟨v, h1, h2⟩ := r.dat j y hy
      exact ⟨v, h1, h2.mono e⟩
  · rw [get_set] at hj
    split at hj
    · (try rw [if_pos hl] at hj); cases hj
    · rename_i e'
      obtain ⟨q, ws, h1, h2, h3, h4⟩ := r.own j b ys hj
      have hq : q ≠ p := fun z => e' (r.dis i j _ _ p h rfl hj rfl hp (by rw [← z]; exact h1))
      exact ⟨q, ws, h1, by rw [upd_ne hq]; exact h2, h3, h4.mono e⟩
  · rw [get_set] at h1 h2
    split at h1
    · (try rw [if_pos hl] at h1); cases h1; cases k1
    · split at h2
      · (try rw [if_pos hl] at h2); cases h2; cases k2
      · exact r.dis j k s t q h1 k1 h2 k2 h3 h4
  · rw [get_set] at hj
    split at hj
    · (try rw [if_pos hl] at hj); cases hj
    · rename_i e'
      obtain ⟨q, ws, h1, h2, h3, h4⟩ := r.odc j ys hj
      have hq : q ≠ p := fun z => e' (r.dis i j _ _ p h rfl hj rfl hp (by rw [← z]; exact h1))
      exact ⟨q, ws, h1, by rw [upd_ne hq]; exact h2, h3, h4.mono e⟩
/-- .. a dict -/
theorem Rep.giveK (r : Rep K ρ σ F H) {xs : List (PyData × PyData)} {p : Addr} {vs : List (Key × V)} (h : ρ[i]? = some (some (.od xs))) (hp : σ[i]? = some (some (.ref p))) (hf : F p = none) (hh : H p = some (.dK vs)) (ha : RpK K F vs xs) :
    Rep K (ρ.set i (some (.d (.dict xs)))) σ (upd F p (.dK vs)) H := by
  have e : Ex F (upd F p (.dK vs)) := Ex.new hf
  have rp : Rp K (upd F p (.dK vs)) (.ref p) (.dict xs) := .dct upd_same (ha.mono e)
  have hl := lt_of_get h
  refine ⟨by simp [r.len], r.wl.frz hh (fun ps z => by cases z), fun j y hy => ?_, fun j b ys hj => ?_, fun j k s t q h1 k1 h2 k2 h3 h4 => ?_, xc_give r.xc (fun z => by cases z), fun j ys hj => ?_⟩
  · rw [get_set] at hy
    split at hy
    · rename_i e'
      subst e'
      (try rw [if_pos hl] at hy)
      cases hy
      exact ⟨_, hp, rp⟩
    · obtain ⟨v, h1, h2⟩ := r.dat j y hy
      exact ⟨v, h1, h2.mono e⟩
  · rw [get_set] at hj
    split at hj
    · (try rw [if_pos hl] at hj); cases hj
    · rename_i e'
      obtain ⟨q, ws, h1, h2, h3, h4⟩ := r.own j b ys hj
      have hq : q ≠ p := fun z => e' (r.dis i j _ _ p h rfl hj rfl hp (by rw [← z]; exact h1))
      exact ⟨q, ws, h1, by rw [upd_ne hq]; exact h2, h3, h4.mono e⟩
  · rw [get_set] at h1 h2
    split at h1
    · (try rw [if_pos hl] at h1); cases h1; cases k1
    · split at h2
      · (try rw [if_pos hl] at h2); cases h2; cases k2
      · exact r.dis j k s t q h1 k1 h2 k2 h3 h4
  · rw [get_set] at hj
    split at hj
    · (try rw [if_pos hl] at hj); cases hj
    · rename_i e'
      obtain ⟨q, ws, h1, h2, h3, h4⟩ := r.odc j ys hj
      have hq : q ≠ p := fun z => e' (r.dis i j _ _ p h rfl hj rfl hp (by rw [← z]; exact h1))
      exact ⟨q, ws, h1, by rw [upd_ne hq]; exact h2, h3, h4.mono e⟩
theorem own_give {x : PyData} {a : Addr} (h : Own (ρ.set i (some (.d x))) σ a) : Own ρ σ a := by
  obtain ⟨j, s, h1, hs, h2⟩ := h
  rw [get_set] at h1
  split at h1
  · split at h1 <;> cases h1; cases hs
  · exact ⟨j, s, h1, hs, h2⟩
theorem StpE.give {bb : Bool} {xs : List PyData} {p : Addr} {vs : List V} (h : ρ[i]? = some (some (.own bb xs))) (hp : σ[i]? = some (some (.ref p))) (hf : F p = none) : StpE ρ σ F H (ρ.set i (some (.d (.list xs)))) (upd F p (.lst vs)) H := by
  refine ⟨⟨Ex.new hf, fun a u hu => ?_, fun _ _ h _ _ => h, fun a h => .inl (own_give h), fun _ h => h, pen_give⟩, fun _ h => own_give h⟩
  by_cases hq : a = p
  · subst hq; exact .inr (.inr ⟨i, _, h, rfl, hp⟩)
  · rw [upd_ne hq] at hu; exact .inl hu
theorem StpE.giveK {xs : List (PyData × PyData)} {p : Addr} {vs : List (Key × V)} (h : ρ[i]? = some (some (.od xs))) (hp : σ[i]? = some (some (.ref p))) (hf : F p = none) : StpE ρ σ F H (ρ.set i (some (.d (.dict xs)))) (upd F p (.dK vs)) H := by
  refine ⟨⟨Ex.new hf, fun a u hu => ?_, fun _ _ h _ _ => h, fun a h => .inl (own_give h), fun _ h => h, pen_give⟩, fun _ h => own_give h⟩
  by_cases hq : a = p
  · subst hq; exact .inr (.inr ⟨i, _, h, rfl, hp⟩)
  · rw [upd_ne hq] at hu; exact .inl hu
/-- own slots, where one of them has another content -/
theorem back_own {s0 s1 s : Sv} {j : Nat} (h : ρ[i]? = some (some s0)) (ho : isOw s0 = true) (hj : (ρ.set i (some s1))[j]? = some (some s)) (hs : isOw s = true) : ∃ t, ρ[j]? = some (some t) ∧ isOw t = true := by
  rw [get_set] at hj
  split at hj
  · rename_i e; subst e; exact ⟨s0, h, ho⟩
  · exact ⟨s, hj, hs⟩
/-- a slot of one's own has another content -/
theorem Rep.putO (r : Rep K ρ σ F H) {bb : Bool} {xs ys : List PyData} {p : Addr} {ws : List V} (h : ρ[i]? = some (some (.own bb xs))) (hp : σ[i]? = some (some (.ref p))) (ha : RpA K F ws ys) :
    Rep K (ρ.set i (some (.own bb ys))) σ F (upd H p (.lst ws)) := by
  obtain ⟨q, vs, h1, h2, h3, h4⟩ := r.own i bb xs h
  rw [hp] at h1; cases h1
  have hl := lt_of_get h
  refine ⟨by simp [r.len], r.wl.put h2 h3, fun j y hy => ?_, fun j b zs hj => ?_, fun j k s t q h1 k1 h2 k2 h3 h4 => ?_, xc_give r.xc (fun z => by cases z), fun j zs hj => ?_⟩
  · rw [get_set] at hy
    split at hy
    · (try rw [if_pos hl] at hy); cases hy
    · exact r.dat j y hy
  · rw [get_set] at hj
    split at hj
    · rename_i e'
      subst e'
      (try rw [if_pos hl] at hj)
      cases hj
      exact ⟨p, ws, hp, h2, upd_same, ha⟩
    · rename_i e'
      obtain ⟨q', ws', g1, g2, g3, g4⟩ := r.own j b zs hj
      have hq : q' ≠ p := fun z => e' (r.dis i j _ _ p h rfl hj rfl hp (by rw [← z]; exact g1))
      exact ⟨q', ws', g1, g2, by rw [upd_ne hq]; exact g3, g4⟩
  · obtain ⟨s', g1, g2⟩ := back_own h rfl h1 k1
    obtain ⟨t', g3, g4⟩ := back_own h rfl h2 k2
    exact r.dis j k s' t' q g1 g2 g3 g4 h3 h4
  · rw [get_set] at hj
    split at hj
    · (try rw [if_pos hl] at hj); cases hj
    · rename_i e'
      obtain ⟨q', ws', g1, g2, g3, g4⟩ := r.odc j zs hj
      have hq : q' ≠ p := fun z => e' (r.dis i j _ _ p h rfl hj rfl hp (by rw [← z]; exact g1))
      exact ⟨q', ws', g1, g2, by rw [upd_ne hq]; exact g3, g4⟩
/-- .. a dict of one's own -/
theorem Rep.putK (r : Rep K ρ σ F H) {xs ys : List (PyData × PyData)} {p : Addr} {ws : List (Key × V)} (h : ρ[i]? = some (some (.od xs))) (hp : σ[i]? = some (some (.ref p))) (ha : RpK K F ws ys) :
    Rep K (ρ.set i (some (.od ys))) σ F (upd H p (.dK ws)) := by
  obtain ⟨q, vs, h1, h2, h3, h4⟩ := r.odc i xs h
  rw [hp] at h1; cases h1
  have hl := lt_of_get h
  refine ⟨by simp [r.len], r.wl.putK h2 h3, fun j y hy => ?_, fun j b zs hj => ?_, fun j k s t q h1 k1 h2 k2 h3 h4 => ?_, xc_give r.xc (fun z => by cases z), fun j zs hj => ?_⟩
  · rw [get_set] at hy
    split at hy
    · (try rw [if_pos hl] at hy); cases hy
    · exact r.dat j y hy
  · rw [get_set] at hj
    split at hj
    · (try rw [if_pos hl] at hj); cases hj
    · rename_i e'
      obtain ⟨q', ws', g1, g2, g3, g4⟩ := r.own j b zs hj
      have hq : q' ≠ p := fun z => e' (r.dis i j _ _ p h rfl hj rfl hp (by rw [← z]; exact g1))
      exact ⟨q', ws', g1, g2, by rw [upd_ne hq]; exact g3, g4⟩
  · obtain ⟨s', g1, g2⟩ := back_own h rfl h1 k1
    obtain ⟨t', g3, g4⟩ := back_own h rfl h2 k2
    exact r.dis j k s' t' q g1 g2 g3 g4 h3 h4
  · rw [get_set] at hj
    split at hj
    · rename_i e'
      subst e'
      (try rw [if_pos hl] at hj)
      cases hj
      exact ⟨p, ws, hp, h2, upd_same, ha⟩
    · rename_i e'
      obtain ⟨q', ws', g1, g2, g3, g4⟩ := r.odc j zs hj
      have hq : q' ≠ p := fun z => e' (r.dis i j _ _ p h rfl hj rfl hp (by rw [← z]; exact g1))
      exact ⟨q', ws', g1, g2, by rw [upd_ne hq]; exact g3, g4⟩
theorem own_putO {bb : Bool} {xs ys : List PyData} {a : Addr} (h : ρ[i]? = some (some (.own bb xs))) (o : Own (ρ.set i (some (.own bb ys))) σ a) : Own ρ σ a := by
  obtain ⟨j, s, h1, hs, h2⟩ := o
  obtain ⟨t, g1, g2⟩ := back_own h rfl h1 hs
  exact ⟨j, t, g1, g2, h2⟩
theorem own_putK {xs ys : List (PyData × PyData)} {a : Addr} (h : ρ[i]? = some (some (.od xs))) (o : Own (ρ.set i (some (.od ys))) σ a) : Own ρ σ a := by
  obtain ⟨j, s, h1, hs, h2⟩ := o
  obtain ⟨t, g1, g2⟩ := back_own h rfl h1 hs
  exact ⟨j, t, g1, g2, h2⟩
theorem pen_putK {xs ys : List (PyData × PyData)} (h : ρ[i]? = some (some (.od xs))) (j : Nat) (zs : List PyData) (hj : (ρ.set i (some (.od ys)))[j]? = some (some (Sv.own true zs))) : σ[j]? = σ[j]? ∧ ∃ xs, ρ[j]? = some (some (Sv.own true xs)) := by
  rw [get_set] at hj
  split at hj
  · split at hj <;> cases hj
  · exact ⟨rfl, zs, hj⟩
theorem StpE.putK {xs ys : List (PyData × PyData)} {p : Addr} {ws : List (Key × V)} (h : ρ[i]? = some (some (.od xs))) (hp : σ[i]? = some (some (.ref p))) : StpE ρ σ F H (ρ.set i (some (.od ys))) F (upd H p (.dK ws)) :=
  ⟨⟨Ex.refl F, fun _ _ h => .inl h, fun a u hu no _ => by
    rw [upd_ne (fun e => no (by rw [e]; exact ⟨i, _, h, rfl, hp⟩))]; exact hu, fun a o => .inl (own_putK h o), fun a h => upd_none' h, pen_putK h⟩, fun a o => own_putK h o⟩
theorem pen_putO {bb : Bool} {xs ys : List PyData} (h : ρ[i]? = some (some (.own bb xs))) (j : Nat) (zs : List PyData) (hj : (ρ.set i (some (.own bb ys)))[j]? = some (some (Sv.own true zs))) : σ[j]? = σ[j]? ∧ ∃ xs, ρ[j]? = some (some (Sv.own true xs)) := by
  rw [get_set] at hj
  split at hj
  · rename_i e
    subst e
    split at hj
    · cases hj; exact ⟨rfl, xs, h⟩
    · cases hj
  · exact ⟨rfl, zs, hj⟩
theorem StpE.putO {bb : Bool} {xs ys : List PyData} {p : Addr} {ws : List V} (h : ρ[i]? = some (some (.own bb xs))) (hp : σ[i]? = some (some (.ref p))) : StpE ρ σ F H (ρ.set i (some (.own bb ys))) F (upd H p (.lst ws)) :=
  ⟨⟨Ex.refl F, fun _ _ h => .inl h, fun a u hu no _ => by
    rw [upd_ne (fun e => no (by rw [e]; exact ⟨i, _, h, rfl, hp⟩))]; exact hu, fun a o => .inl (own_putO h o), fun a h => upd_none' h, pen_putO h⟩, fun a o => own_putO h o⟩
/-- a slot gets a new object of one's own -/
theorem dis_set (r : Rep K ρ σ F H) {s0 : Sv} {p : Addr} (no : ¬ Own ρ σ p) (j k : Nat) (s t : Sv) (q : Addr) (h1 : (ρ.set i (some s0))[j]? = some (some s)) (k1 : isOw s = true) (h2 : (ρ.set i (some s0))[k]? = some (some t)) (k2 : isOw t = true)
    (h3 : (σ.set i (some (.ref p)))[j]? = some (some (.ref q))) (h4 : (σ.set i (some (.ref p)))[k]? = some (some (.ref q))) : j = k := by
  rw [get_set] at h1 h2 h3 h4
  by_cases e1 : i = j
  · by_cases e2 : i = k
    · exact e1.symm.trans e2
    · rw [if_pos e1] at h3
      rw [if_neg e2] at h2 h4
      split at h3
      · cases h3
        exact absurd ⟨k, t, h2, k2, h4⟩ no
      · cases h3
  · rw [if_neg e1] at h1 h3
    by_cases e2 : i = k
    · rw [if_pos e2] at h4
      split at h4
      · cases h4
        exact absurd ⟨j, s, h1, k1, h3⟩ no
      · cases h4
    · rw [if_neg e2] at h2 h4
      exact r.dis j k s t q h1 k1 h2 k2 h3 h4
theorem Rep.setO (r : Rep K ρ σ F H) {p : Addr} {vs : List V} {xs : List PyData} (hf : F p = none) (hh : H p = some (.lst vs)) (no : ¬ Own ρ σ p) (ha : RpA K F vs xs) : Rep K (ρ.set i (some (.own false xs))) (σ.set i (some (.ref p))) F H := by
  refine ⟨by simp [r.len], r.wl, fun j y hy => ?_, fun j b ys hj => ?_, dis_set r no, xc_set r.xc (fun z => by cases z) _, fun j ys hj => ?_⟩
  · rw [get_set] at hy ⊢
    split at hy
    · split at hy <;> cases hy
    · rename_i e
      rw [if_neg e]
      exact r.dat j y hy
  · rw [get_set] at hj ⊢
    split at hj
    · rename_i e
      subst e
      split at hj
      · cases hj
        rename_i hl
        rw [if_pos rfl, if_pos (by rw [← r.len]; exact hl)]
        exact ⟨p, vs, rfl, hf, hh, ha⟩
      · cases hj
    · rename_i e
      rw [if_neg e]
      exact r.own j b ys hj
  · rw [get_set] at hj ⊢
    split at hj
    · split at hj <;> cases hj
    · rename_i e
      rw [if_neg e]
      exact r.odc j ys hj
theorem Rep.setK (r : Rep K ρ σ F H) {p : Addr} {vs : List (Key × V)} {xs : List (PyData × PyData)} (hf : F p = none) (hh : H p = some (.dK vs)) (no : ¬ Own ρ σ p) (ha : RpK K F vs xs) : Rep K (ρ.set i (some (.od xs))) (σ.set i (some (.ref p))) F H := by
  refine ⟨by simp [r.len], r.wl, fun j y hy => ?_, fun j b ys hj => ?_, dis_set r no, xc_set r.xc (fun z => by cases z) _, fun j ys hj => ?_⟩
  · rw [get_set] at hy ⊢
    split at hy
    · split at hy <;> cases hy
    · rename_i e
      rw [if_neg e]
      exact r.dat j y hy
  · rw [get_set] at hj ⊢
    split at hj
    · split at hj <;> cases hj
    · rename_i e
      rw [if_neg e]
      exact r.own j b ys hj
  · rw [get_set] at hj ⊢
    split at hj
    · rename_i e
      subst e
      split at hj
      · cases hj
        rename_i hl
        rw [if_pos rfl, if_pos (by rw [← r.len]; exact hl)]
        exact ⟨p, vs, rfl, hf, hh, ha⟩
      · cases hj
    · rename_i e
      rw [if_neg e]
      exact r.odc j ys hj
end

/-! ### expressions -/
/-- what a module's name is, as data -/
def DatG (K : PySem.W.Frag) (mg : Str → Option Value) (x : Str) (d : PyData) : Prop := ∃ u v, mg x = some u ∧ RelV v u ∧ ∀ F, Rp K F v d
/-- a written dict with keys that are texts -/
def DctG (K : PySem.W.Frag) (w : World) (mg : Str → Option Value) (x : Str) (kvs : List (PyData × PyData)) : Prop := ∃ a es n, mg x = some (.ref a) ∧ KDict K w a es n ∧ ∀ z : Str, ∃ r, PySem.W.nsIn K a z = some r ∧ match r with
  | none => lookD kvs z = .none
  | some u => ∃ v, RelV v u ∧ ∀ F, Rp K F v (lookD kvs z)
def GlobOk (K : PySem.W.Frag) (w : World) (mg : Str → Option Value) (g : Str → Option PyData) : Prop := ∀ x d, g x = some d → match d with
  | .dict kvs => DctG K w mg x kvs
  | d => DatG K mg x d
section
variable {X : Cx} {c : Cfg} {pos : Pos} {a b : Expr} {fa fb : En → Option (PyData × En)}
theorem e_con {k : Const} {j : Nat} {d : PyData} (h : (match k with | .none => some PyData.none | .bool b => some (.bool b) | .int i => some (.int i) | .str x => some (.str x) | _ => none) = some d) :
    PE X (.Constant k j pos) (tE X.K fun ρ => some (d, ρ)) := by
  have fin : ∀ (v : V), (∀ F, Rp X.K F v d) → ∀ σ H Q, tE X.K (fun ρ => some (d, ρ)) σ H Q → tC v σ H Q := fun v hv σ H Q h => by
    obtain ⟨ρ, F, x, ρ', rep, e, q⟩ := h
    cases e
    exact q v F H rep StpE.refl (hv F)
  cases k <;> cases h
  · exact pe_non.wk (fin _ fun _ => .non)
  · exact pe_bl.wk (fin _ fun _ => .bl _)
  · exact pe_int.wk (fin _ fun _ => .int _)
  · exact pe_str.wk (fin _ fun _ => .str _)
theorem e_var {x : Str} {i : Nat} (hN : X.N[i]? = some x) (hv : Vis X.env.scope x) (hd : (x == ("__debug__" : Str)) = false) (hcd : (x == ("__classdict__" : Str)) = false) : PE X (.Name x pos) (tE X.K (ev c (.var i))) := by
  refine (pe_var hN hv hd hcd).wk fun σ H Q h => ?_
  obtain ⟨ρ, F, y, ρ', rep, e, q⟩ := h
  simp only [ev] at e
  split at e
  · rename_i z hz
    cases e
    obtain ⟨v, h1, h2⟩ := rep.dat i y hz
    exact ⟨v, h1, q v F H rep StpE.refl h2⟩
  · rename_i bb xs hz
    cases e
    obtain ⟨p, vs, h1, h2, h3, h4⟩ := rep.own i bb xs hz
    exact ⟨_, h1, q _ _ H (rep.give hz h1 h2 h3 h4) (StpE.give hz h1 h2) (.lst (SqL.of upd_same) (h4.mono (Ex.new h2)))⟩
  · rename_i xs hz
    cases e
    obtain ⟨p, vs, h1, h2, h3, h4⟩ := rep.odc i xs hz
    exact ⟨_, h1, q _ _ H (rep.giveK hz h1 h2 h3 h4) (StpE.giveK hz h1 h2) (.dct upd_same (h4.mono (Ex.new h2)))⟩
  · cases e
theorem e_glob {x : Str} (hg : Gl X x) (hG : GlobOk X.K X.w X.mg c.glob) (hd : (x == ("__debug__" : Str)) = false) : PE X (.Name x pos) (tE X.K (ev c (.glob x))) := by
  refine ⟨fun pins s σ H Q I h => ?_⟩
  obtain ⟨ρ, F, y, ρ', rep, e, q⟩ := h
  simp only [ev] at e
  split at e
  · rename_i d h0
    obtain ⟨d', h1, h2⟩ := ret_eq e
    cases h2
    have hD : DatG X.K X.mg x d ∧ y = d := by
      have := hG x d h0
      cases d <;> simp only [globD] at h1 <;> cases h1 <;> exact ⟨this, rfl⟩
    obtain ⟨⟨u, v, hm, rv, rp⟩, rfl⟩ := hD
    exact (pe_glob hg hm rv hd).run pins s σ H Q I (q v F H rep StpE.refl (rp F))
  · cases e
/-- D.get(key), D a written dict -/
theorem e_gget {x : Str} {px apos cpos : Pos} (hg : Gl X x) (hG : GlobOk X.K X.w X.mg c.glob) (hd : (x == ("__debug__" : Str)) = false) (ha : PE X a (tE X.K fa)) (m : M1 X (.Name x px) "get" apos a cpos) :
    PE X (.Call (.Attribute (.Name x px) "get" apos) [a] [] cpos) (tE X.K fun ρ => bnd (fa ρ) fun y ρ => match c.glob x, y with
    | some (.dict kvs), .str z => some (lookD kvs z, ρ)
    | _, _ => none) := by
  refine ⟨fun pins s σ H Q I h => ?_⟩
  obtain ⟨ρ, F, y, ρ', rep, e, q⟩ := h
  obtain ⟨k, ρ1, e1, e⟩ := bnd_eq e
  split at e
  · rename_i kvs z h0
    cases e
    obtain ⟨d, es, n, hm, D, hl⟩ := hG x _ h0
    refine wpAny_Call_method m.base m.few m.line PySem.F.plainAttrs_dict PySem.F.slot_dict_get PySem.F.type_dict_get (thn ((pe_glob (v := .ref d) hg hm rfl hd).run pins s σ H (fun v H' => v = .ref d ∧ H' = H) I ⟨rfl, rfl⟩) fun u s1 ⟨v1, H1, I1, rx, ex1, ex2⟩ => ?_)
    subst ex1
    subst ex2
    obtain rfl : u = Value.ref d := rx
    refine ⟨kd_type D I1, fun b q => ?_, ?_⟩
    · cases q
      exact ⟨_, I1.kIn d _ D.at_, rfl⟩
    · rw [m.trees]
      refine Calls.callWith_builtin rfl (Calls.evalArgs_plain (Calls.spliced_cons (thn (ha.run pins s1 σ H1 (fun v H2 => ∃ F2, Rep X.K ρ' σ F2 H2 ∧ StpE ρ σ F H1 ρ' F2 H2 ∧ Rp X.K F2 v (.str z)) I1 ⟨ρ, F, _, ρ', rep, e1, fun v F2 H2 a1 a2 a3 => ⟨F2, a1, a2, a3⟩⟩) fun iv s2 ⟨y, H2, I2, ry, F2, rep2, st2, rp2⟩ => Calls.spliced_nil ?_)))
      cases rp2
      obtain ⟨t, rfl⟩ := (show ∃ t, iv = Value.str z t from ry)
      obtain ⟨r, hr, hv⟩ := hl z
      refine call_meetsIn PySem.F.slot_dict_get (kd_type D I2) PySem.F.entry_dict_get (PySem.F.args_dict_get_2 _ _) (meets_dict_get (strKind X.prog X.w) d (strKind_is X.prog X.w z t) D.low) ⟨_, PySem.W.mapOf_K (prog := X.prog) I2.kIn D.at_ D.lit, ?_⟩
      rw [PySem.W.find_K D.at_ hr]
      cases r with
      | none =>
        have hv : lookD kvs z = .none := hv
        rw [hv] at q
        exact ⟨.non, H2, I2.tok _, rfl, q _ F2 H2 rep2 st2 .non⟩
      | some u =>
        obtain ⟨v, rv, rp⟩ := hv
        exact ⟨v, H2, I2.tok _, rv, q v F2 H2 rep2 st2 (rp F2)⟩
  · cases e
theorem e_bin {o : Operator} {bo : BOp} (h : opOf o = some bo) (ha : PE X a (tE X.K fa)) (hb : PE X b (tE X.K fb)) :
    PE X (.BinOp a o b pos) (tE X.K fun ρ => bnd (fa ρ) fun x ρ => bnd (fb ρ) fun y ρ => ret (binD bo x y) ρ) := by
  obtain ⟨r, hr, rb⟩ := op_any (X := X) h
  refine (pe_op hr ha hb).wk fun σ H Q h => ?_
  obtain ⟨ρ, F, z, ρ', rep, e, q⟩ := h
  obtain ⟨x, ρ1, e1, e⟩ := bnd_eq e
  obtain ⟨y, ρ2, e2, e⟩ := bnd_eq e
  obtain ⟨z', e3, e⟩ := ret_eq e
  cases e
  refine ⟨ρ, F, x, ρ1, rep, e1, fun vx F1 H1 rep1 st1 rp1 => ⟨ρ1, F1, y, ρ', rep1, e2, fun vy F2 H2 rep2 st2 rp2 => ?_⟩⟩
  exact rb rep2 (rp1.mono st2.ext) rp2 e3 fun v F3 H3 rep3 st3 rp3 => q v F3 H3 rep3 ((st1.trans st2).trans st3) rp3
theorem e_neg (ha : PE X a (tE X.K fa)) : PE X (.UnaryOp .USub a pos) (tE X.K fun ρ => bnd (fa ρ) fun x ρ => match x with | .int i => some (.int (-i), ρ) | _ => none) := by
  refine (pe_un un_neg ha).wk fun σ H Q h => ?_
  obtain ⟨ρ, F, z, ρ', rep, e, q⟩ := h
  obtain ⟨x, ρ1, e1, e⟩ := bnd_eq e
  refine ⟨ρ, F, x, ρ1, rep, e1, fun vx F1 H1 rep1 st1 rp1 => ?_⟩
  cases x <;> simp only at e <;> first | (cases e; done) | skip
  cases e
  cases rp1
  exact ⟨_, rfl, q _ F1 H1 rep1 st1 (.int _)⟩
theorem e_cmp {o : CmpOp} {co : COp} (hu : X.A.units + 64 < cLine) (h : cmpOf o = some co) (hm : behindInMarks o b = false) (ha : PE X a (tE X.K fa)) (hb : PE X b (tE X.K fb)) :
    PE X (.Compare a [o] [b] pos) (tE X.K fun ρ => bnd (fa ρ) fun x ρ => bnd (fb ρ) fun y ρ => bnd (ret (cmpD co x y) ρ) fun r ρ => some (.bool r, ρ)) := by
  obtain ⟨r, hr, rb⟩ := cmp_any (X := X) hu h
  refine (pe_cmpR hr ha hb hm).wk fun σ H Q h => ?_
  obtain ⟨ρ, F, z, ρ', rep, e, q⟩ := h
  obtain ⟨x, ρ1, e1, e⟩ := bnd_eq e
  obtain ⟨y, ρ2, e2, e⟩ := bnd_eq e
  obtain ⟨z', ρ3, e3, e⟩ := bnd_eq e
  obtain ⟨z'', e4, e5⟩ := ret_eq e3
  cases e
  cases e5
  refine ⟨ρ, F, x, ρ1, rep, e1, fun vx F1 H1 rep1 st1 rp1 => ⟨ρ1, F1, y, ρ', rep1, e2, fun vy F2 H2 rep2 st2 rp2 => ?_⟩⟩
  exact rb rep2 (rp1.mono st2.ext) rp2 e4 (q _ F2 H2 rep2 (st1.trans st2) (.bl _))
theorem t_cmp {o : CmpOp} {co : COp} (hu : X.A.units + 64 < cLine) (h : cmpOf o = some co) (hm : behindInMarks o b = false) (ha : PE X a (tE X.K fa)) (hb : PE X b (tE X.K fb)) :
    PT X (.Compare a [o] [b] pos) (tT X.K fun ρ => bnd (bnd (fa ρ) fun x ρ => bnd (fb ρ) fun y ρ => bnd (ret (cmpD co x y) ρ) fun r ρ => some (.bool r, ρ)) fun x ρ => ret (truD x) ρ) := by
  obtain ⟨r, hr, rb⟩ := cmp_any (X := X) hu h
  refine (pt_cmpR hr ha hb hm).wk fun σ H Q h => ?_
  obtain ⟨ρ, F, z, ρ', rep, e, q⟩ := h
  obtain ⟨w, ρ0, e, e'⟩ := bnd_eq e
  obtain ⟨x, ρ1, e1, e⟩ := bnd_eq e
  obtain ⟨y, ρ2, e2, e⟩ := bnd_eq e
  obtain ⟨z', ρ3, e3, e⟩ := bnd_eq e
  obtain ⟨z'', e4, e5⟩ := ret_eq e3
  cases e
  cases e5
  obtain ⟨_, e6, e7⟩ := ret_eq e'
  cases e7
  cases e6
  refine ⟨ρ, F, x, ρ1, rep, e1, fun vx F1 H1 rep1 st1 rp1 => ⟨ρ1, F1, y, ρ', rep1, e2, fun vy F2 H2 rep2 st2 rp2 => ?_⟩⟩
  exact rb rep2 (rp1.mono st2.ext) rp2 e4 ⟨_, rfl, q F2 H2 rep2 (st1.trans st2)⟩
variable {d : Expr} {fd : En → Option (PyData × En)}
theorem e_chain {o o' : CmpOp} {co co' : COp} (hu : X.A.units + 64 < cLine) (h : cmpOf o = some co) (h' : cmpOf o' = some co') (hm : lastMarks [o, o'] [b, d] = false) (ha : PE X a (tE X.K fa)) (hb : PE X b (tE X.K fb)) (hd : PE X d (tE X.K fd)) :
    PE X (.Compare a [o, o'] [b, d] pos) (tE X.K fun ρ => bnd (fa ρ) fun x ρ => bnd (fb ρ) fun y ρ => bnd (ret (cmpD co x y) ρ) fun r ρ => match r with
      | false => some (.bool false, ρ)
      | true => bnd (fd ρ) fun z ρ => bnd (ret (cmpD co' y z) ρ) fun r ρ => some (.bool r, ρ)) := by
  obtain ⟨r, hr, rb⟩ := cmp_any (X := X) hu h
  obtain ⟨r', hr', rb'⟩ := cmp_any (X := X) hu h'
  refine (pe_chain hr hr' ha hb hd hm).wk fun σ H Q h => ?_
  obtain ⟨ρ, F, z, ρ', rep, e, q⟩ := h
  obtain ⟨x, ρ1, e1, e⟩ := bnd_eq e
  obtain ⟨y, ρ2, e2, e⟩ := bnd_eq e
  obtain ⟨z', ρ3, e3, e⟩ := bnd_eq e
  obtain ⟨z'', e4, e5⟩ := ret_eq e3
  cases e5
  refine ⟨ρ, F, x, ρ1, rep, e1, fun vx F1 H1 rep1 st1 rp1 => ⟨ρ1, F1, y, ρ2, rep1, e2, fun vy F2 H2 rep2 st2 rp2 => ?_⟩⟩
  refine rb rep2 (rp1.mono st2.ext) rp2 e4 ⟨_, rfl, ?_⟩
  cases z' with
  | false =>
    cases e
    exact q _ F2 H2 rep2 (st1.trans st2) (.bl _)
  | true =>
    obtain ⟨w, ρ4, e6, e⟩ := bnd_eq e
    obtain ⟨u, ρ5, e7, e⟩ := bnd_eq e
    obtain ⟨u', e8, e9⟩ := ret_eq e7
    cases e
    cases e9
    exact ⟨ρ2, F2, w, ρ', rep2, e6, fun vw F3 H3 rep3 st3 rp3 => rb' rep3 (rp2.mono st3.ext) rp3 e8 (q _ F3 H3 rep3 ((st1.trans st2).trans st3) (.bl _))⟩
theorem t_chain {o o' : CmpOp} {co co' : COp} (hu : X.A.units + 64 < cLine) (h : cmpOf o = some co) (h' : cmpOf o' = some co') (hm : lastMarks [o, o'] [b, d] = false) (ha : PE X a (tE X.K fa)) (hb : PE X b (tE X.K fb)) (hd : PE X d (tE X.K fd)) :
    PT X (.Compare a [o, o'] [b, d] pos) (tT X.K fun ρ => bnd (bnd (fa ρ) fun x ρ => bnd (fb ρ) fun y ρ => bnd (ret (cmpD co x y) ρ) fun r ρ => match r with
      | false => some (.bool false, ρ)
      | true => bnd (fd ρ) fun z ρ => bnd (ret (cmpD co' y z) ρ) fun r ρ => some (.bool r, ρ)) fun x ρ => ret (truD x) ρ) := by
  obtain ⟨r, hr, rb⟩ := cmp_any (X := X) hu h
  obtain ⟨r', hr', rb'⟩ := cmp_any (X := X) hu h'
  refine (pt_chain hr hr' ha hb hd hm).wk fun σ H Q h => ?_
  obtain ⟨ρ, F, z, ρ', rep, e, q⟩ := h
  obtain ⟨w0, ρ0, e, e'⟩ := bnd_eq e
  obtain ⟨x, ρ1, e1, e⟩ := bnd_eq e
  obtain ⟨y, ρ2, e2, e⟩ := bnd_eq e
  obtain ⟨z', ρ3, e3, e⟩ := bnd_eq e
  obtain ⟨z'', e4, e5⟩ := ret_eq e3
  cases e5
  refine ⟨ρ, F, x, ρ1, rep, e1, fun vx F1 H1 rep1 st1 rp1 => ⟨ρ1, F1, y, ρ2, rep1, e2, fun vy F2 H2 rep2 st2 rp2 => ?_⟩⟩
  refine rb rep2 (rp1.mono st2.ext) rp2 e4 ⟨_, rfl, ?_⟩
  cases z' with
  | false =>
    cases e
    obtain ⟨_, g1, g2⟩ := ret_eq e'
    cases g2
    cases g1
    exact ⟨false, rfl, q F2 H2 rep2 (st1.trans st2)⟩
  | true =>
    obtain ⟨w, ρ4, e6, e⟩ := bnd_eq e
    obtain ⟨u, ρ5, e7, e⟩ := bnd_eq e
    obtain ⟨u', e8, e9⟩ := ret_eq e7
    cases e
    cases e9
    obtain ⟨_, g1, g2⟩ := ret_eq e'
    cases g2
    cases g1
    exact ⟨ρ2, F2, w, ρ', rep2, e6, fun vw F3 H3 rep3 st3 rp3 => rb' rep3 (rp2.mono st3.ext) rp3 e8 ⟨_, rfl, q F3 H3 rep3 ((st1.trans st2).trans st3)⟩⟩
/-! and, or, not, if as values -/
variable {rest : List Expr}
theorem e_and (ha : PE X a (tE X.K fa)) (hb : PE X (.BoolOp .And (b :: rest) pos) (tE X.K fb)) : PE X (.BoolOp .And (a :: b :: rest) pos) (tE X.K fun ρ => bnd (fa ρ) fun x ρ => match x with
    | .bool true => fb ρ
    | .bool false => some (.bool false, ρ)
    | _ => none) := by
  refine (pe_and ha hb).wk fun σ H Q h => ?_
  obtain ⟨ρ, F, z, ρ', rep, e, q⟩ := h
  obtain ⟨x, ρ1, e1, e⟩ := bnd_eq e
  refine ⟨ρ, F, x, ρ1, rep, e1, fun vx F1 H1 rep1 st1 rp1 => ?_⟩
  have hb : ∃ r, x = .bool r := by
    cases x with
    | bool r => exact ⟨r, rfl⟩
    | _ => cases e
  obtain ⟨r, rfl⟩ := hb
  cases rp1
  refine ⟨_, rfl, ?_⟩
  cases r with
  | true =>
    rw [if_pos rfl]
    exact ⟨ρ1, F1, z, ρ', rep1, e, fun v F2 H2 rep2 st2 rp2 => q v F2 H2 rep2 (st1.trans st2) rp2⟩
  | false =>
    cases e
    rw [if_neg Bool.false_ne_true]
    exact q _ F1 H1 rep1 st1 (.bl _)
theorem e_or (ha : PE X a (tE X.K fa)) (hb : PE X (.BoolOp .Or (b :: rest) pos) (tE X.K fb)) : PE X (.BoolOp .Or (a :: b :: rest) pos) (tE X.K fun ρ => bnd (fa ρ) fun x ρ => match x with
    | .bool true => some (.bool true, ρ)
    | .bool false => fb ρ
    | _ => none) := by
  refine (pe_or ha hb).wk fun σ H Q h => ?_
  obtain ⟨ρ, F, z, ρ', rep, e, q⟩ := h
  obtain ⟨x, ρ1, e1, e⟩ := bnd_eq e
  refine ⟨ρ, F, x, ρ1, rep, e1, fun vx F1 H1 rep1 st1 rp1 => ?_⟩
  have hb : ∃ r, x = .bool r := by
    cases x with
    | bool r => exact ⟨r, rfl⟩
    | _ => cases e
  obtain ⟨r, rfl⟩ := hb
  cases rp1
  refine ⟨_, rfl, ?_⟩
  cases r with
  | true =>
    cases e
    rw [if_pos rfl]
    exact q _ F1 H1 rep1 st1 (.bl _)
  | false =>
    rw [if_neg Bool.false_ne_true]
    exact ⟨ρ1, F1, z, ρ', rep1, e, fun v F2 H2 rep2 st2 rp2 => q v F2 H2 rep2 (st1.trans st2) rp2⟩
theorem e_not (ha : PE X a (tE X.K fa)) : PE X (.UnaryOp .Not a pos) (tE X.K fun ρ => bnd (fa ρ) fun x ρ => match x with
    | .bool b => some (.bool (!b), ρ)
    | _ => none) := by
  refine (pe_not ha).wk fun σ H Q h => ?_
  obtain ⟨ρ, F, z, ρ', rep, e, q⟩ := h
  obtain ⟨x, ρ1, e1, e⟩ := bnd_eq e
  refine ⟨ρ, F, x, ρ1, rep, e1, fun vx F1 H1 rep1 st1 rp1 => ?_⟩
  cases x <;> simp only at e <;> first | (cases e; done) | skip
  cases rp1
  cases e
  exact ⟨_, rfl, q _ F1 H1 rep1 st1 (.bl _)⟩
variable {gt gu : En → Option (Bool × En)} {t : Expr}
theorem e_ite (ht : PT X t (tT X.K gt)) (ha : PE X a (tE X.K fa)) (hb : PE X b (tE X.K fb)) : PE X (.IfExp t a b pos) (tE X.K fun ρ => bnd (gt ρ) fun r ρ => match r with
    | true => fa ρ
    | false => fb ρ) := by
  refine (pe_ifExp ht ha hb).wk fun σ H Q h => ?_
  obtain ⟨ρ, F, z, ρ', rep, e, q⟩ := h
  obtain ⟨r, ρ1, e1, e⟩ := bnd_eq e
  refine ⟨ρ, F, r, ρ1, rep, e1, fun F1 H1 rep1 st1 => ?_⟩
  cases r with
  | true =>
    rw [if_pos rfl]
    exact ⟨ρ1, F1, z, ρ', rep1, e, fun v F2 H2 rep2 st2 rp2 => q v F2 H2 rep2 (st1.trans st2) rp2⟩
  | false =>
    rw [if_neg Bool.false_ne_true]
    exact ⟨ρ1, F1, z, ρ', rep1, e, fun v F2 H2 rep2 st2 rp2 => q v F2 H2 rep2 (st1.trans st2) rp2⟩
/-! tests -/
theorem t_and (ha : PT X a (tT X.K gt)) (hb : PW X (.BoolOp .And (b :: rest) pos) (tT X.K gu)) : PW X (.BoolOp .And (a :: b :: rest) pos) (tT X.K fun ρ => bnd (gt ρ) fun r ρ => match r with
    | true => gu ρ
    | false => some (false, ρ)) := by
  refine (pw_and ha hb).wk fun σ H Q h => ?_
  obtain ⟨ρ, F, z, ρ', rep, e, q⟩ := h
  obtain ⟨r, ρ1, e1, e⟩ := bnd_eq e
  refine ⟨ρ, F, r, ρ1, rep, e1, fun F1 H1 rep1 st1 => ?_⟩
  cases r with
  | true =>
    rw [if_pos rfl]
    exact ⟨ρ1, F1, z, ρ', rep1, e, fun F2 H2 rep2 st2 => q F2 H2 rep2 (st1.trans st2)⟩
  | false =>
    cases e
    rw [if_neg Bool.false_ne_true]
    exact q F1 H1 rep1 st1
theorem t_or (ha : PT X a (tT X.K gt)) (hb : PW X (.BoolOp .Or (b :: rest) pos) (tT X.K gu)) : PW X (.BoolOp .Or (a :: b :: rest) pos) (tT X.K fun ρ => bnd (gt ρ) fun r ρ => match r with
    | true => some (true, ρ)
    | false => gu ρ) := by
  refine (pw_or ha hb).wk fun σ H Q h => ?_
  obtain ⟨ρ, F, z, ρ', rep, e, q⟩ := h
  obtain ⟨r, ρ1, e1, e⟩ := bnd_eq e
  refine ⟨ρ, F, r, ρ1, rep, e1, fun F1 H1 rep1 st1 => ?_⟩
  cases r with
  | true =>
    cases e
    rw [if_pos rfl]
    exact q F1 H1 rep1 st1
  | false =>
    rw [if_neg Bool.false_ne_true]
    exact ⟨ρ1, F1, z, ρ', rep1, e, fun F2 H2 rep2 st2 => q F2 H2 rep2 (st1.trans st2)⟩
theorem t_not (ha : PT X a (tT X.K gt)) : PT X (.UnaryOp .Not a pos) (tT X.K fun ρ => bnd (gt ρ) fun r ρ => some (!r, ρ)) := by
  refine (pt_not ha).wk fun σ H Q h => ?_
  obtain ⟨ρ, F, z, ρ', rep, e, q⟩ := h
  obtain ⟨r, ρ1, e1, e⟩ := bnd_eq e
  cases e
  exact ⟨ρ, F, r, ρ', rep, e1, fun F1 H1 rep1 st1 => q F1 H1 rep1 st1⟩
theorem rp_tru {K : PySem.W.Frag} {F H : Hp} (e : Ex F H) {v : V} {x : PyData} {r : Bool} (h : Rp K F v x) (ht : truD x = some r) : TruV K v H r := by
  cases h <;> simp only [truD] at ht <;> first | (cases ht; rfl) | (cases ht; done) | skip
  · rename_i a vs ds h1 h2
    cases ht
    refine .inl ⟨vs, ex_l e h1, ?_⟩
    cases h2 <;> rfl
  · rename_i a vs ds h1 h2
    cases ht
    refine .inr (.inl ⟨vs, ex_t e h1, ?_⟩)
    cases h2 <;> rfl
theorem t_leaf (ha : PE X a (tE X.K fa)) (he : ∀ whole, isTrue a X.env whole = (do let v ← whole; standAt a.pos; holding [v] (truthy v))) : PT X a (tT X.K fun ρ => bnd (fa ρ) fun x ρ => ret (truD x) ρ) := by
  refine (pt_truth ha he).wk fun σ H Q h => ?_
  obtain ⟨ρ, F, z, ρ', rep, e, q⟩ := h
  obtain ⟨x, ρ1, e1, e⟩ := bnd_eq e
  obtain ⟨r, e2, e3⟩ := ret_eq e
  cases e3
  exact ⟨ρ, F, x, ρ', rep, e1, fun v F1 H1 rep1 st1 rp1 => ⟨z, rp_tru rep1.ex rp1 e2, q F1 H1 rep1 st1⟩⟩
/-! lists of arguments, displays -/
variable {es : List Expr} {fs : En → Option (List PyData × En)}
theorem a_nil : PA X [] (tA X.K fun ρ => some ([], ρ)) := pa_nil.wk fun σ H Q h => by
  obtain ⟨ρ, F, z, ρ', rep, e, q⟩ := h
  cases e
  exact q [] F H rep StpE.refl .nil
theorem a_cons (ha : PE X a (tE X.K fa)) (hr : PA X es (tA X.K fs)) (hs : starEach (a :: es) X.env = (false, eval a X.env) :: starEach es X.env) : PA X (a :: es) (tA X.K fun ρ => bnd (fa ρ) fun x ρ => bnd (fs ρ) fun xs ρ => some (x :: xs, ρ)) := by
  refine (pa_cons ha hr hs).wk fun σ H Q h => ?_
  obtain ⟨ρ, F, z, ρ', rep, e, q⟩ := h
  obtain ⟨x, ρ1, e1, e⟩ := bnd_eq e
  obtain ⟨xs, ρ2, e2, e⟩ := bnd_eq e
  cases e
  exact ⟨ρ, F, x, ρ1, rep, e1, fun v F1 H1 rep1 st1 rp1 => ⟨ρ1, F1, xs, ρ', rep1, e2, fun vs F2 H2 rep2 st2 rp2 => q (v :: vs) F2 H2 rep2 (st1.trans st2) (.cons (rp1.mono st2.ext) rp2)⟩⟩
end
end Wh

set_option Elab.async false
set_option linter.all false
set_option maxRecDepth 100000
set_option maxHeartbeats 1000000
set_option exponentiation.threshold 5000
/-! Wh7: displays, indices, built-ins, iterables, targets, comprehensions. -/
namespace Wh
open PySem PySem.Spec PyProof.Rows L2 Evl
variable [Tbl]

section
variable {X : Cx} {c : Cfg} {pos : Pos} {a b e : Expr} {fa fb f : En → Option (PyData × En)} {es : List Expr} {fs : En → Option (List PyData × En)}
theorem e_tup {k : Nat} (hr : PA X es (tA X.K fs)) (hl : ∀ ρ xs ρ', fs ρ = some (xs, ρ') → xs.length ≤ sizeLine) : PE X (.Tuple es k pos) (tE X.K fun ρ => bnd (fs ρ) fun xs ρ => some (.tuple xs, ρ)) := by
  refine (pe_tup hr).wk fun σ H Q h => ?_
  obtain ⟨ρ, F, z, ρ', rep, e, q⟩ := h
  obtain ⟨xs, ρ1, e1, e⟩ := bnd_eq e
  cases e
  refine ⟨ρ, F, xs, ρ', rep, e1, fun vs F1 H1 rep1 st1 rp1 => ⟨by rw [rp1.len]; exact hl _ _ _ e1, fun p hp => ?_⟩⟩
  exact layT rep1 (fun v F2 H2 rep2 st2 rp2 => q v F2 H2 rep2 (st1.trans st2) rp2) hp rp1
theorem l_lst (hr : PA X es (tA X.K fs)) (hl : ∀ ρ xs ρ', fs ρ = some (xs, ρ') → xs.length ≤ sizeLine) : PE X (.List es pos) (tEL X.K fun ρ => bnd (fs ρ) fun xs ρ => some (.list xs, ρ)) := by
  refine (pe_lst hr).wk fun σ H Q h => ?_
  obtain ⟨ρ, F, zs, ρ', rep, e, q⟩ := h
  obtain ⟨xs, ρ1, e1, e⟩ := bnd_eq e
  cases e
  refine ⟨ρ, F, zs, ρ', rep, e1, fun vs F1 H1 rep1 st1 rp1 => ⟨by rw [rp1.len]; exact hl _ _ _ e1, fun p hp => ?_⟩⟩
  exact q p vs F1 _ (rep1.layOff hp) (st1.trans (StpE.layOff hp)) (st1.alive p hp) (fresh_back rep1.ex hp) upd_same rp1
theorem l_repl (hr : PA X es (tA X.K fs)) (hl : ∀ ρ xs ρ', fs ρ = some (xs, ρ') → xs.length ≤ sizeLine) (hn : PE X b (tE X.K fb)) {p2 : Pos} :
    PE X (.BinOp (.List es p2) .Mult b pos) (tEL X.K fun ρ => bnd (fs ρ) fun xs ρ => bnd (fb ρ) fun y ρ => match y with
      | .int k => if -(2 ^ 63) ≤ k ∧ k < 2 ^ 63 ∧ xs.length * k.toNat ≤ sizeLine then some (.list (List.replicate k.toNat xs).flatten, ρ) else none
      | _ => none) := by
  refine (pe_op op_rep (pe_lst hr) hn).wk fun σ H Q h => ?_
  obtain ⟨ρ, F, zs, ρ', rep, e, q⟩ := h
  obtain ⟨xs, ρ1, e1, e⟩ := bnd_eq e
  obtain ⟨y, ρ2, e2, e⟩ := bnd_eq e
  have hy : ∃ k, y = .int k := by
    cases y with
    | int k => exact ⟨k, rfl⟩
    | _ => cases e
  obtain ⟨k, rfl⟩ := hy
  simp only at e
  split at e
  · rename_i hc
    cases e
    refine ⟨ρ, F, xs, ρ1, rep, e1, fun vs F1 H1 rep1 st1 rp1 => ⟨by rw [rp1.len]; exact hl _ _ _ e1, fun p hp => ?_⟩⟩
    refine ⟨ρ1, F1, .int k, ρ', rep1.layOff hp, e2, fun v F2 H2 rep2 st2 rp2 => ?_⟩
    cases rp2
    have hH2 : H2 p = some (.lst vs) := st2.fr p _ upd_same (rep1.none_own hp) (fun _ z => by cases z)
    refine ⟨p, k, vs, rfl, rfl, hH2, hc.1, hc.2.1, by rw [rp1.len]; exact hc.2.2, fun p' hp' => ?_⟩
    have st := (st1.trans (StpE.layOff hp)).trans st2
    refine q p' _ F2 _ (rep2.layOff hp') (st.trans (StpE.layOff hp')) (st.alive p' hp') (fresh_back rep2.ex hp') upd_same ?_
    have rp : RpA X.K F2 vs xs := rp1.mono st2.ext
    generalize k.toNat = n
    clear hc
    induction n with
    | zero => exact .nil
    | succ n ih =>
      rw [List.replicate_succ, List.replicate_succ, List.flatten_cons, List.flatten_cons]
      exact rp.append ih
  · cases e
/-- a new list that is not changed any more -/
theorem e_of_L (h : PE X e (tEL X.K f)) (hl : ∀ ρ x ρ', f ρ = some (x, ρ') → ∃ xs, x = .list xs) : PE X e (tE X.K f) := by
  refine h.wk fun σ H Q h => ?_
  obtain ⟨ρ, F, x, ρ', rep, e, q⟩ := h
  obtain ⟨xs, rfl⟩ := hl _ _ _ e
  refine ⟨ρ, F, xs, ρ', rep, e, fun p vs F1 H1 rep1 st1 h0 hf hh ha => ?_⟩
  have no : ¬ Own ρ' σ p := fun o => rep.none_own h0 (st1.str p o)
  refine q _ _ H1 (rep1.frz hh hf no) ⟨⟨st1.ext.trans (Ex.new hf), fun a o hu => ?_, st1.fr, st1.own, st1.alive, st1.pen⟩, st1.str⟩ (.lst (SqL.of upd_same) (ha.mono (Ex.new hf)))
  by_cases hq : a = p
  · subst hq; exact .inr (.inl h0)
  · rw [upd_ne hq] at hu; exact st1.new a o hu
theorem e_of_K (h : PE X e (tEK X.K f)) (hl : ∀ ρ x ρ', f ρ = some (x, ρ') → ∃ xs, x = .dict xs) : PE X e (tE X.K f) := by
  refine h.wk fun σ H Q h => ?_
  obtain ⟨ρ, F, x, ρ', rep, e, q⟩ := h
  obtain ⟨xs, rfl⟩ := hl _ _ _ e
  refine ⟨ρ, F, xs, ρ', rep, e, fun p vs F1 H1 rep1 st1 h0 hf hh ha => ?_⟩
  have no : ¬ Own ρ' σ p := fun o => rep.none_own h0 (st1.str p o)
  refine q _ _ H1 (rep1.frz hh hf no) ⟨⟨st1.ext.trans (Ex.new hf), fun a o hu => ?_, st1.fr, st1.own, st1.alive, st1.pen⟩, st1.str⟩ (.dct upd_same (ha.mono (Ex.new hf)))
  by_cases hq : a = p
  · subst hq; exact .inr (.inl h0)
  · rw [upd_ne hq] at hu; exact st1.new a o hu
theorem e_ix (hu : X.A.units + 64 < cLine) (ha : PE X a (tE X.K fa)) (hb : PE X b (tE X.K fb)) (hs : PlainIx b) : PE X (.Subscript a b pos) (tE X.K fun ρ => bnd (fa ρ) fun x ρ => bnd (fb ρ) fun y ρ => ret (ixD x y) ρ) := by
  refine (pe_ix (ix_any (by omega)) ha hb hs).wk fun σ H Q h => ?_
  obtain ⟨ρ, F, z, ρ', rep, e, q⟩ := h
  obtain ⟨x, ρ1, e1, e⟩ := bnd_eq e
  obtain ⟨y, ρ2, e2, e⟩ := bnd_eq e
  obtain ⟨z', e3, e⟩ := ret_eq e
  cases e
  refine ⟨ρ, F, x, ρ1, rep, e1, fun vx F1 H1 rep1 st1 rp1 => ⟨ρ1, F1, y, ρ', rep1, e2, fun vy F2 H2 rep2 st2 rp2 => ?_⟩⟩
  exact rb_ix rep2 (rp1.mono st2.ext) rp2 e3 fun v F3 H3 rep3 st3 rp3 => q v F3 H3 rep3 ((st1.trans st2).trans st3) rp3
theorem Rep.at_ {K : PySem.W.Frag} {ρ : En} {σ : L2.St} {F H : Hp} {i : Nat} {s : Sv} (r : Rep K ρ σ F H) (h : ρ[i]? = some (some s)) : ∃ v, σ[i]? = some (some v) := by
  cases s with
  | d x => obtain ⟨v, h1, _⟩ := r.dat i x h; exact ⟨v, h1⟩
  | own b xs => obtain ⟨p, _, h1, _⟩ := r.own i b xs h; exact ⟨_, h1⟩
  | x => exact ⟨_, r.xc i h⟩
  | od xs => obtain ⟨p, _, h1, _⟩ := r.odc i xs h; exact ⟨_, h1⟩
theorem at_rp {K : PySem.W.Frag} {F : Hp} {vs : List V} {ds : List PyData} {i : Int} {z : PyData} (ha : RpA K F vs ds) (hi : atI ds i = some z) : ∃ v, atI vs i = some v ∧ Rp K F v z := by
  unfold atI at hi ⊢
  rw [ha.len]
  cases hn : ixN ds.length i with
  | none => rw [hn] at hi; cases hi
  | some j =>
    rw [hn] at hi
    exact ha.get hi
/-- x[e], x a list of one's own (or data) that stays so -/
theorem e_oix (hu : X.A.units + 64 < cLine) {x : Str} {i : Nat} {px : Pos} (hN : X.N[i]? = some x) (hv : Vis X.env.scope x) (hd : (x == ("__debug__" : Str)) = false) (hcd : (x == ("__classdict__" : Str)) = false) (hb : PE X b (tE X.K fb)) (hs : PlainIx b) :
    PE X (.Subscript (.Name x px) b pos) (tE X.K fun ρ => match ρ[i]? with
    | some (some _) => bnd (fb ρ) fun y ρ => match ρ[i]? with
      | some (some (Sv.own _ xs)) => ret (ixD (.list xs) y) ρ
      | some (some (Sv.d x)) => ret (ixD x y) ρ
      | some (some (Sv.od xs)) => ret (ixD (.dict xs) y) ρ
      | _ => none
    | _ => none) := by
  refine (pe_ix (ix_any (by omega)) (pe_var hN hv hd hcd) hb hs).wk fun σ H Q h => ?_
  obtain ⟨ρ, F, z, ρ', rep, e, q⟩ := h
  simp only at e
  split at e
  · rename_i sv hsv
    obtain ⟨v, hv0⟩ := rep.at_ hsv
    obtain ⟨y, ρ1, e1, e⟩ := bnd_eq e
    refine ⟨v, hv0, ρ, F, y, ρ1, rep, e1, fun vy F1 H1 rep1 st1 rp1 => ?_⟩
    split at e
    · rename_i bb xs hx
      obtain ⟨z', e3, e⟩ := ret_eq e
      cases e
      obtain ⟨p, vs, h1, h2, h3, h4⟩ := rep1.own i bb xs hx
      rw [hv0] at h1; cases h1
      have hk : ∃ k, y = .int k := by
        cases y with
        | int k => exact ⟨k, rfl⟩
        | _ => cases e3
      obtain ⟨k, rfl⟩ := hk
      cases rp1
      obtain ⟨w, g1, g2⟩ := at_rp h4 e3
      exact .inl ⟨p, vs, k, w, rfl, rfl, SqL.of h3, g1, q w F1 H1 rep1 st1 g2⟩
    · rename_i x' hx
      obtain ⟨z', e3, e⟩ := ret_eq e
      cases e
      obtain ⟨w, h1, h2⟩ := rep1.dat i x' hx
      rw [hv0] at h1; cases h1
      exact rb_ix rep1 h2 rp1 e3 fun v F3 H3 rep3 st3 rp3 => q v F3 H3 rep3 (st1.trans st3) rp3
    · rename_i xs hx
      obtain ⟨z', e3, e⟩ := ret_eq e
      cases e
      obtain ⟨p, vs, h1, h2, h3, h4⟩ := rep1.odc i xs hx
      rw [hv0] at h1; cases h1
      simp only [ixD] at e3
      split at e3
      · rename_i k hk
        have ek := keyD_eq hk
        subst ek
        cases rp1.key
        obtain ⟨w, g1, g2⟩ := (h4.get k).1 z e3
        exact .inr (.inr ⟨p, w, rfl, by rw [← g1]; exact DGet.k h3, q w F1 H1 rep1 st1 g2⟩)
      · cases e3
    · cases e
  · cases e
variable {lo hi : Option Expr} {fl fh : En → Option (Option PyData × En)}
theorem o_none : PO X none (tO X.K fun ρ => some (none, ρ)) := po_none.wk fun σ H Q h => by
  obtain ⟨ρ, F, x, i, ρ', rep, e, e2, q⟩ := h
  cases e
  cases e2
  exact q F H rep StpE.refl
theorem o_some (ha : PE X a (tE X.K fa)) : PO X (some a) (tO X.K fun ρ => bnd (fa ρ) fun x ρ => some (some x, ρ)) := (po_some ha).wk fun σ H Q h => by
  obtain ⟨ρ, F, x, i, ρ', rep, e, e2, q⟩ := h
  obtain ⟨y, ρ1, e1, e⟩ := bnd_eq e
  cases e
  refine ⟨ρ, F, y, ρ', rep, e1, fun v F1 H1 rep1 st1 rp1 => ?_⟩
  cases rp1 <;> simp only [partD] at e2 <;> first | (cases e2; done) | skip
  cases e2
  exact ⟨_, rfl, q F1 H1 rep1 st1⟩
theorem e_sl {p2 : Pos} (ha : PE X a (tE X.K fa)) (hl : PO X lo (tO X.K fl)) (hh : PO X hi (tO X.K fh)) : PE X (.Subscript a (.Slice lo hi none p2) pos) (tE X.K fun ρ => bnd (fa ρ) fun x ρ => bnd (fl ρ) fun l ρ => bnd (fh ρ) fun h ρ => match partD l, partD h with
    | some l, some h => ret (slD x l h) ρ
    | _, _ => none) := by
  refine (pe_slice sl_any ha hl hh).wk fun σ H Q h => ?_
  obtain ⟨ρ, F, z, ρ', rep, e, q⟩ := h
  obtain ⟨x, ρ1, e1, e⟩ := bnd_eq e
  obtain ⟨l, ρ2, e2, e⟩ := bnd_eq e
  obtain ⟨h, ρ3, e3, e⟩ := bnd_eq e
  split at e
  · rename_i l' h' p1 p2
    obtain ⟨z', e4, e⟩ := ret_eq e
    cases e
    refine ⟨ρ, F, x, ρ1, rep, e1, fun vx F1 H1 rep1 st1 rp1 => ⟨ρ1, F1, l, l', ρ2, rep1, e2, p1, fun F2 H2 rep2 st2 => ⟨ρ2, F2, h, h', ρ', rep2, e3, p2, fun F3 H3 rep3 st3 => ?_⟩⟩⟩
    exact sl_rb rep3 ((rp1.mono st2.ext).mono st3.ext) e4 fun v F4 H4 rep4 st4 rp4 => q v F4 H4 rep4 (((st1.trans st2).trans st3).trans st4) rp4
  · cases e
/-! built-ins by their names -/
theorem e_b1 {bb : B1} {p : Pos} (hc : X.calm = true) (hgd : X.A.guards = some []) (hu : X.A.units + 64 < cLine) (hb : ∀ t, bb ≠ .isi t) (hg : Gl X bb.nm) (hm : X.mg bb.nm = none) (ha : PE X a (tE X.K fa))
    (he : starEach [a] X.env = (false, eval a X.env) :: starEach [] X.env) : PE X (.Call (.Name bb.nm p) [a] [] pos) (tE X.K fun ρ => bnd (fa ρ) fun x ρ => ret (b1D bb x) ρ) := by
  obtain ⟨r, hr, rb⟩ := b1_any (X := X) (b := bb) hc hgd hu hb
  have fin : ∀ σ H Q, tE X.K (fun ρ => bnd (fa ρ) fun x ρ => ret (b1D bb x) ρ) σ H Q → tCB r (tCons (tE X.K fa) tNil) σ H Q := fun σ H Q h => by
    obtain ⟨ρ, F, z, ρ', rep, e, q⟩ := h
    obtain ⟨x, ρ1, e1, e⟩ := bnd_eq e
    obtain ⟨z', e3, e⟩ := ret_eq e
    cases e
    exact ⟨ρ, F, x, ρ', rep, e1, fun vx F1 H1 rep1 st1 rp1 => rb rep1 rp1 e3 fun v F2 H2 rep2 st2 rp2 => q v F2 H2 rep2 (st1.trans st2) rp2⟩
  cases bb with
  | isi t => exact absurd rfl (hb t)
  | len => exact (pe_callB (id := "len") hr hg hm (by decide +kernel) (pa_cons ha pa_nil he) (by decide +kernel) (by decide +kernel) he rfl).wk fin
  | abs => exact (pe_callB (id := "abs") hr hg hm (by decide +kernel) (pa_cons ha pa_nil he) (by decide +kernel) (by decide +kernel) he rfl).wk fin
  | all => exact (pe_callB (id := "all") hr hg hm (by decide +kernel) (pa_cons ha pa_nil he) (by decide +kernel) (by decide +kernel) he rfl).wk fin
  | any => exact (pe_callB (id := "any") hr hg hm (by decide +kernel) (pa_cons ha pa_nil he) (by decide +kernel) (by decide +kernel) he rfl).wk fin
  | repr => exact (pe_callB (id := "repr") hr hg hm (by decide +kernel) (pa_cons ha pa_nil he) (by decide +kernel) (by decide +kernel) he rfl).wk fin
  | int => exact (pe_callTy (T := "int") hr hg hm (by decide +kernel) (pa_cons ha pa_nil he) (by decide +kernel) (by decide +kernel) he rfl).wk fin
  | tuple => exact (pe_callTy (T := "tuple") hr hg hm (by decide +kernel) (pa_cons ha pa_nil he) (by decide +kernel) (by decide +kernel) he rfl).wk fin
  | str => exact (pe_callTy (T := "str") hr hg hm (by decide +kernel) (pa_cons ha pa_nil he) (by decide +kernel) (by decide +kernel) he rfl).wk fin
  | sum => exact (pe_callB (id := "sum") hr hg hm (by decide +kernel) (pa_cons ha pa_nil he) (by decide +kernel) (by decide +kernel) he rfl).wk fin
  | srt => exact (pe_callB (id := "sorted") hr hg hm (by decide +kernel) (pa_cons ha pa_nil he) (by decide +kernel) (by decide +kernel) he rfl).wk fin
  | list => exact (pe_callTy (T := "list") hr hg hm (by decide +kernel) (pa_cons ha pa_nil he) (by decide +kernel) (by decide +kernel) he rfl).wk fin
theorem e_isi {t : Ty} {p p2 : Pos} (hg : Gl X "isinstance") (hm : X.mg "isinstance" = none) (hgt : Gl X t.nm) (hmt : X.mg t.nm = none) (ha : PE X a (tE X.K fa))
    (he : starEach [a, .Name t.nm p2] X.env = (false, eval a X.env) :: starEach [.Name t.nm p2] X.env) : PE X (.Call (.Name "isinstance" p) [a, .Name t.nm p2] [] pos) (tE X.K fun ρ => bnd (fa ρ) fun x ρ => ret (b1D (.isi t) x) ρ) := by
  have hb : bootBuiltins t.nm = some (.type t.nm) := by cases t <;> decide +kernel
  have hT : PE X (.Name t.nm p2) (tC (.ty t.nm)) := pe_bltn (v := .ty t.nm) hgt hmt hb rfl (by cases t <;> decide +kernel) (by cases t <;> decide +kernel)
  refine (pe_callB (id := "isinstance") call_isi hg hm (by decide +kernel) (pa_cons ha (pa_cons hT pa_nil rfl) he) (by decide +kernel) (by decide +kernel) he rfl).wk fun σ H Q h => ?_
  obtain ⟨ρ, F, z, ρ', rep, e, q⟩ := h
  obtain ⟨x, ρ1, e1, e⟩ := bnd_eq e
  obtain ⟨z', e3, e⟩ := ret_eq e
  cases e
  cases e3
  exact ⟨ρ, F, x, ρ', rep, e1, fun vx F1 H1 rep1 st1 rp1 => ⟨vx, .ty t.nm, _, _, _, rfl, .ty _, rp_ty rep1.ex rp1, kit_isi X.K t x, q _ F1 H1 rep1 st1 (.bl _)⟩⟩
theorem e_b2 {bb : B2} {p : Pos} (hc : X.calm = true) (hg : Gl X bb.nm) (hm : X.mg bb.nm = none) (ha : PE X a (tE X.K fa)) (hb : PE X b (tE X.K fb))
    (he : starEach [a, b] X.env = (false, eval a X.env) :: starEach [b] X.env) (he2 : starEach [b] X.env = (false, eval b X.env) :: starEach [] X.env) (hpl : (backTo pos (starEach [b] X.env)).any (·.1) = false) :
    PE X (.Call (.Name bb.nm p) [a, b] [] pos) (tE X.K fun ρ => bnd (fa ρ) fun x ρ => bnd (fb ρ) fun y ρ => ret (b2D bb x y) ρ) := by
  obtain ⟨r, hr, rb⟩ := b2_any (X := X) (b := bb) hc
  have hbt : bootBuiltins bb.nm = some (.builtin bb.nm) := by cases bb <;> decide +kernel
  refine (pe_callB (id := bb.nm) hr hg hm hbt (pa_cons ha (pa_cons hb pa_nil he2) he) (by cases bb <;> decide +kernel) (by cases bb <;> decide +kernel) he hpl).wk fun σ H Q h => ?_
  obtain ⟨ρ, F, z, ρ', rep, e, q⟩ := h
  obtain ⟨x, ρ1, e1, e⟩ := bnd_eq e
  obtain ⟨y, ρ2, e2, e⟩ := bnd_eq e
  obtain ⟨z', e3, e⟩ := ret_eq e
  cases e
  exact ⟨ρ, F, x, ρ1, rep, e1, fun vx F1 H1 rep1 st1 rp1 => ⟨ρ1, F1, y, ρ', rep1, e2, fun vy F2 H2 rep2 st2 rp2 => rb rep2 (rp1.mono st2.ext) rp2 e3 fun v F3 H3 rep3 st3 rp3 => q v F3 H3 rep3 ((st1.trans st2).trans st3) rp3⟩⟩
end
/-! ### count, index -/
section
variable {X : Cx}
def rCntF (K : PySem.W.Frag) : V → List V → Hp → VK → Prop := fun x xs H Q => ∃ (a : Addr) (ys : List V) (y : V), x = V.ref a ∧ xs = [y] ∧ SqL K H a ys ∧ flatV y = true ∧ ys.all flatV = true ∧ Q (.int (ys.countP fun z => eqV z y : Nat)) H
theorem cnt_eqU {y : V} : ∀ {ys : List V} {us : List Value}, Vals ys us → ys.all flatV = true → us.countP (eqU y) = ys.countP fun z => eqV z y
  | _, _, .nil, _ => rfl
  | z :: zs, u :: us, .cons r t, f => by
    rw [List.all_cons, Bool.and_eq_true] at f
    rw [List.countP_cons, List.countP_cons, cnt_eqU t f.2, eqU_of r f.1]
theorem mt_cntF : MtR X "list.count" (rCntF X.K) := by
  intro pins s σ H x xs v us Q I rx rxs h
  obtain ⟨a, ys, y, rfl, rfl, hs, fy, fys, q⟩ := h
  cases rx
  obtain ⟨uy, rfl, ry⟩ := rxs.one
  obtain ⟨its, rv, ⟨⟨cls, dd, data, sl⟩, n, ho, hc, hdn, hd⟩, hlen⟩ := I.list hs
  simp only at hc hd
  subst hc hd
  refine call_meets PySem.F.slot_list_count ⟨_, ho, rfl⟩ PySem.F.entry_list_count (PySem.F.args_list_count_2 _ _)
    (SeqAt.list_countAt a its.toArray n dd sl uy (eqU y)) ⟨ho, fun u' hu' => mem_eqAt ry fy rv fys u' (by simpa using hu'), ?_⟩
  refine ⟨.int (ys.countP fun z => eqV z y : Nat), H, I.tok _, ⟨s.toks, ?_⟩, q⟩
  show Value.int ((its.toArray.toList.countP (eqU y) : Nat) : Int) s.toks = _
  rw [show its.toArray.toList = its from rfl, cnt_eqU rv fys]
end
section
variable {X : Cx} {a b : Expr} {fa fb : En → Option (PyData × En)}
theorem RpA.cnt {K : PySem.W.Frag} {F : Hp} {x : V} {d : PyData} (hx : Rp K F x d) (fx : flat d = true) : ∀ {vs : List V} {ds : List PyData}, RpA K F vs ds → ds.all flat = true → (vs.countP fun z => eqV z x) = ds.countP fun y => PyData.eqv y d
  | _, _, .nil, _ => rfl
  | _, _, .cons h t, f => by
    rw [List.all_cons, Bool.and_eq_true] at f
    rw [List.countP_cons, List.countP_cons, RpA.cnt hx fx t f.2, h.eqV hx f.1 fx]
theorem e_cnt {apos cpos : Pos} (ha : PE X a (tE X.K fa)) (hb : PE X b (tE X.K fb)) (hbase : attributeBase a "count" X.env (eval a X.env) = eval a X.env) (hs : starEach [b] X.env = (false, eval b X.env) :: starEach [] X.env) (hline : (apos.endLine == cpos.line) = true) :
    PE X (.Call (.Attribute a "count" apos) [b] [] cpos) (tE X.K fun ρ => bnd (fa ρ) fun x ρ => bnd (fb ρ) fun y ρ => ret (cntD x y) ρ) := by
  refine (pe_bm PySem.F.plainAttrs_list PySem.F.slot_list_count PySem.F.type_list_count mt_cntF ha (a_cons hb a_nil hs) hbase (by rw [hs]; rfl) hline hs rfl).wk fun σ H Q h => ?_
  obtain ⟨ρ, F, z, ρ', rep, e, q⟩ := h
  obtain ⟨x, ρ1, e1, e⟩ := bnd_eq e
  obtain ⟨y, ρ2, e2, e⟩ := bnd_eq e
  obtain ⟨z', e3, e⟩ := ret_eq e
  cases e
  cases x <;> simp only [cntD] at e3 <;> first | (cases e3; done) | skip
  rename_i xs
  split at e3
  · rename_i hc
    cases e3
    rw [Bool.and_eq_true] at hc
    refine ⟨ρ, F, _, ρ1, rep, e1, fun vx F1 H1 rep1 st1 rp1 => ?_⟩
    cases rp1 with
    | lst h1 h2 =>
      refine ⟨.inl ⟨rfl, _, rep1.exL h1⟩, ρ1, F1, [y], ρ', rep1, by simp only [e2, bnd], fun vs F2 H2 rep2 st2 rp2 => ?_⟩
      obtain ⟨v, rfl, rv⟩ := rp2.inv1
      have h2' := h2.mono st2.ext
      refine ⟨_, _, v, rfl, rfl, rep2.exL (ex_l st2.ext h1), rv.flatV hc.1, h2'.flatA hc.2, ?_⟩
      rw [h2'.cnt rv hc.1 hc.2]
      exact q _ F2 H2 rep2 (st1.trans st2) (.int _)
  · cases e3
theorem RpA.idx {K : PySem.W.Frag} {F : Hp} {x : V} {d : PyData} (hx : Rp K F x d) (fx : flat d = true) : ∀ {vs : List V} {ds : List PyData} {j : Nat}, RpA K F vs ds → ds.all flat = true → (ds.findIdx? fun y => PyData.eqv y d) = some j → (∃ z, vs[j]? = some z ∧ eqV z x = true) ∧ ∀ (m : Nat) (z' : V), m < j → vs[m]? = some z' → eqV z' x = false
  | _, _, _, .nil, _, e => by simp at e
  | v :: vs, y :: ds, j, .cons h t, f, e => by
    rw [List.all_cons, Bool.and_eq_true] at f
    rw [List.findIdx?_cons] at e
    have hq := h.eqV hx f.1 fx
    split at e
    · rename_i ht
      cases e
      exact ⟨⟨v, rfl, hq.trans ht⟩, fun m z' hm => absurd hm (Nat.not_lt_zero m)⟩
    · rename_i hf
      obtain ⟨j', e', rfl⟩ := Option.map_eq_some_iff.mp e
      obtain ⟨⟨z, h1, h2⟩, h3⟩ := RpA.idx hx fx t f.2 e'
      refine ⟨⟨z, by simpa using h1, h2⟩, fun m z' hm hz => ?_⟩
      cases m with
      | zero =>
        simp at hz
        subst hz
        rw [hq]
        simpa using hf
      | succ m => exact h3 m z' (by omega) (by simpa using hz)
theorem e_idx {apos cpos : Pos} (ha : PE X a (tE X.K fa)) (hb : PE X b (tE X.K fb)) (hbase : attributeBase a "index" X.env (eval a X.env) = eval a X.env) (hs : starEach [b] X.env = (false, eval b X.env) :: starEach [] X.env) (hline : (apos.endLine == cpos.line) = true) :
    PE X (.Call (.Attribute a "index" apos) [b] [] cpos) (tE X.K fun ρ => bnd (fa ρ) fun x ρ => bnd (fb ρ) fun y ρ => ret (idxD x y) ρ) := by
  refine (pe_bm PySem.F.plainAttrs_list PySem.F.slot_list_index PySem.F.type_list_index mt_index ha (a_cons hb a_nil hs) hbase (by rw [hs]; rfl) hline hs rfl).wk fun σ H Q h => ?_
  obtain ⟨ρ, F, z, ρ', rep, e, q⟩ := h
  obtain ⟨x, ρ1, e1, e⟩ := bnd_eq e
  obtain ⟨y, ρ2, e2, e⟩ := bnd_eq e
  obtain ⟨z', e3, e⟩ := ret_eq e
  cases e
  cases x <;> simp only [idxD] at e3 <;> first | (cases e3; done) | skip
  rename_i xs
  split at e3
  · rename_i hc
    obtain ⟨j, e4, rfl⟩ := Option.map_eq_some_iff.mp e3
    rw [Bool.and_eq_true] at hc
    refine ⟨ρ, F, _, ρ1, rep, e1, fun vx F1 H1 rep1 st1 rp1 => ?_⟩
    cases rp1 with
    | lst h1 h2 =>
      refine ⟨.inl ⟨rfl, _, rep1.exL h1⟩, ρ1, F1, [y], ρ', rep1, by simp only [e2, bnd], fun vs F2 H2 rep2 st2 rp2 => ?_⟩
      obtain ⟨v, rfl, rv⟩ := rp2.inv1
      have h2' := h2.mono st2.ext
      obtain ⟨⟨z, g1, g2⟩, g3⟩ := h2'.idx rv hc.1 hc.2 e4
      exact ⟨_, _, v, j, z, rfl, rfl, rep2.exL (ex_l st2.ext h1), rv.flatV hc.1, h2'.flatA hc.2, g1, g2, g3, q _ F2 H2 rep2 (st1.trans st2) (.int _)⟩
  · cases e3
end
end Wh

set_option Elab.async false
set_option linter.all false
set_option maxRecDepth 100000
set_option maxHeartbeats 1000000
set_option exponentiation.threshold 5000
/-! Wh7b: enumerate and zip over lists and tuples in any mix. -/
namespace Wh
open PySem PySem.Spec PyProof.Rows L2 Evl
variable [Tbl]

inductive Sk where
  | l | t
def SqK (K : PySem.W.Frag) (k : Sk) (H : Hp) (a : Addr) (xs : List V) : Prop := match k with
  | .l => SqL K H a xs
  | .t => SqT K H a xs
def IsItK (k : Sk) (h : Heap) (it a : Addr) (i : Nat) : Prop := match k with
  | .l => h.IsListIter it a i
  | .t => h.IsTupleIter it a i
def IsSqK (k : Sk) (h : Heap) (a : Addr) (items : Array Value) : Prop := match k with
  | .l => h.IsList a items
  | .t => h.IsTuple a items
def itObj (k : Sk) (a : Addr) : Obj := match k with
  | .l => { cls := .type "list_iterator", data := .fields #[.ref a, .int 0 0] }
  | .t => { cls := .type "tuple_iterator", data := .fields #[.ref a, .int 0 0] }
theorem drawsK (k : Sk) {prog : Program} {w : World} {A : Around} (hh : A.handled = none) (it a : Addr) (hne : a ≠ it) (items : Array Value) :
    Draws prog w A it [it, a] items.size (fun i v => items[i]? = some v) (fun i h => IsItK k h it a i ∧ IsSqK k h a items) := by
  cases k
  · exact Draws.list hh it a hne items
  · exact Draws.tuple hh it a hne items
theorem beginsK (k : Sk) (a : Addr) (items : Array Value) : Begins (.ref a) (itObj k a) fun h => IsSqK k h a items := by
  cases k
  · exact begins_list a items
  · exact begins_tuple a items
theorem itK_obj {k : Sk} {h : Heap} {it a : Addr} {i : Nat} (s : IsItK k h it a i) : ∃ o, h.get? it = some o ∧ ∀ v, o.data ≠ .cell v := by
  cases k with
  | l => obtain ⟨o, e, _, d⟩ := s; exact ⟨o, e, fun v q => by rw [d] at q; cases q⟩
  | t => obtain ⟨o, e, _, d⟩ := s; exact ⟨o, e, fun v q => by rw [d] at q; cases q⟩
theorem itK_at {k : Sk} {h h' : Heap} {it a : Addr} {i : Nat} (s : IsItK k h it a i) (e : ∀ o, h.get? it = some o → h'.get? it = some o) : IsItK k h' it a i := by
  cases k with
  | l => obtain ⟨o, q, r⟩ := s; exact ⟨o, e o q, r⟩
  | t => obtain ⟨o, q, r⟩ := s; exact ⟨o, e o q, r⟩
theorem itK_of {k : Sk} {h : Heap} {it a : Addr} (e : h.get? it = some (itObj k a)) : IsItK k h it a 0 := by
  cases k
  · exact ⟨_, e, rfl, rfl⟩
  · exact ⟨_, e, rfl, rfl⟩
theorem sqK_lt {k : Sk} {h : Heap} {a : Addr} {items : Array Value} (s : IsSqK k h a items) : a < h.objs.size := by
  cases k with
  | l => obtain ⟨o, e, _⟩ := s; exact Heap.lt_size e
  | t => obtain ⟨o, e, _⟩ := s; exact Heap.lt_size e
section
variable {X : Cx} {pins : List (Addr × Obj)} {σ : L2.St} {H : Hp} {s : Shared} {a : Addr} {xs ys : List V}
theorem inv_sqK {k : Sk} (I : Inv X pins σ H s) (h : SqK X.K k H a xs) : ∃ its : List Value, Vals xs its ∧ IsSqK k s.heap a its.toArray := by
  cases k with
  | l => obtain ⟨its, r, p, _⟩ := I.list h; exact ⟨its, r, p.isList⟩
  | t => obtain ⟨its, r, p, _⟩ := I.tuple h; exact ⟨its, r, p⟩
theorem inv_injK {k : Sk} (I : Inv X pins σ H s) (h : SqK X.K k H a xs) (h' : SqK X.K k H a ys) : xs = ys := by
  cases k with
  | l => exact I.list_inj h h'
  | t => exact I.tuple_inj h h'
end
theorem exK {K : PySem.W.Frag} {k : Sk} {F H : Hp} (e : Ex F H) {a : Addr} {xs : List V} (h : SqK K k F a xs) : SqK K k H a xs := by
  cases k with
  | l => exact ex_l e h
  | t => exact ex_t e h

/-! ### enumerate -/
def JE (K : PySem.W.Frag) (k : Sk) (a : Addr) (b : Int) : It :=
  ⟨fun i H => ∃ (xs : List V) (x : V), SqK K k H a xs ∧ xs[i]? = some x,
   fun i H v H' => ∃ T x, v = .ref T ∧ H T = none ∧ H' = upd H T (.tup [.int (b + (i : Nat)), x]) ∧ ∀ xs, SqK K k H a xs → xs[i]? = some x,
   fun i H => ∃ xs : List V, SqK K k H a xs ∧ xs.length = i⟩
theorem turn_JE {P : Program} {w : World} {K : PySem.W.Frag} {elts : List Expr} {kk : Nat} {tpos : Pos} {k : Sk} {b : Int} (a e it : Addr) (hne : e ≠ it) (hae : a ≠ e) (hai : a ≠ it) :
    Turn P w K (.Tuple elts kk tpos) (JE K k a b) [e, it] e (fun i h => (∃ old, IsEnum h e it (b + (i : Nat)) old) ∧ IsItK k h it a i ) where
  mem := by simp
  obj := fun i h st c hc => by
    obtain ⟨⟨old, he⟩, hi⟩ := st
    rcases (by simpa using hc : c = e ∨ c = it) with rfl | rfl
    · exact ⟨_, he, fun v q => nomatch q⟩
    · exact itK_obj hi
  keep := fun i h h' st q => by
    obtain ⟨⟨old, he⟩, hi⟩ := st
    exact ⟨⟨old, q e (by simp) _ he⟩, itK_at hi fun o z => q it (by simp) o z⟩
  item := by
    intro X hP hw hK hc i pins s σ H E I hf st hg
    subst hP hw hK
    obtain ⟨⟨old, he⟩, hit⟩ := st
    obtain ⟨xs, x, hq, hx⟩ := hg
    obtain ⟨its, rv, p⟩ := inv_sqK I hq
    obtain ⟨u, hu, ru⟩ := rv.get hx
    have hhd : X.A.in1.handled = none := by simp [I.ok.hd hc]
    have G := GoesN.enumFrom (prog := X.prog) (w := X.w) (A := X.A) (elts := elts) (x1 := kk) (pos := tpos) b (drawsK k hhd it a hai its.toArray) e hne (by simp [hne, hae.symm]) (by simp)
    have hi : i < its.toArray.size := by
      have := lt_of_get hu
      simpa using this
    refine wpAny_mono (G.goes i s (fun v s2 => ∃ x' H', Inv X pins σ H' s2 ∧ RelV x' v ∧ (JE X.K k a b).yld i H x' H' ∧ ((∃ old, IsEnum s2.heap e it (b + ((i + 1 : Nat) : Int)) old) ∧ IsItK k s2.heap it a (i + 1)) ∧ ∀ c ∈ [e, it], H' c = none) E hi ⟨⟨old, he⟩, hit, p⟩ fun v h' tk hY st' hk htk => ?_) (fun r s1 q => ?_) fun _ _ z => z
    · obtain ⟨T, t, y, rfl, hT, hy, hTup⟩ := hY
      obtain ⟨he', hit', _⟩ := st'
      have hy' : y = u := by
        have h1 : its.toArray[i]? = some u := by simpa using hu
        rw [h1] at hy; cases hy; rfl
      subst hy'
      have new : ObjOk X.prog X.w (upd H T (.tup [.int (b + (i : Nat)), x])) h' T (.tup [.int (b + (i : Nat)), x]) :=
        ⟨by show 2 ≤ sizeLine; decide, [.int (b + (i : Int)) t, y], .cons ⟨_, rfl⟩ (.cons ru .nil), hTup⟩
      have hTn : ∀ c ∈ [e, it], c ≠ T := fun c hc z => by
        subst z
        rcases (by simpa using hc : c = e ∨ c = it) with rfl | rfl
        · exact Nat.lt_irrefl _ (Nat.lt_of_lt_of_le (Heap.lt_size he) hT)
        · obtain ⟨o, eo, _⟩ := itK_obj hit
          exact Nat.lt_irrefl _ (Nat.lt_of_lt_of_le (Heap.lt_size eo) hT)
      have I1 := I.turnedNew (t' := tk) (h' := h') (ch := [e, it]) hk hf hT new
      refine ⟨.ref T, _, I1, rfl, ⟨T, x, rfl, I.hok.fresh hT, rfl, fun zs hz => by rw [inv_injK I hz hq]; exact hx⟩, ⟨he', hit'⟩, fun c hc => ?_⟩
      rw [upd_ne (hTn c hc)]
      exact (hf c hc).1
    · obtain ⟨v, rfl, q⟩ := q
      exact ⟨v, rfl, q⟩
  done := by
    intro X hP hw hK hc i pins s σ H E I hf st hg
    subst hP hw hK
    obtain ⟨⟨old, he⟩, hit⟩ := st
    obtain ⟨xs, hq, rfl⟩ := hg
    obtain ⟨its, rv, p⟩ := inv_sqK I hq
    have hhd : X.A.in1.handled = none := by simp [I.ok.hd hc]
    have hl : xs.length = its.toArray.size := by simpa using rv.length
    rw [hl] at hit
    exact wpAny_pyNext_enum_endD (drawsK k hhd it a hai its.toArray) he ⟨hit, p⟩ fun h' hx => ⟨rfl, I.turnedL (t' := s.toks) (ch := [e, it]) (fun c o hc q => hx c o (fun z => hc (by simp [z])) q) hf⟩
  self := fun A i s Q E st h => by
    obtain ⟨⟨old, he⟩, _⟩ := st
    exact wpAny_pyIter_enum he h
theorem meets_en1 {v : Value} {o : Obj} {H : Heap → Prop} (B : Begins v o H) :
    Meets (Builtin.«enumerate.__new__» ⟨[.type "enumerate", v], []⟩) (fun _ R s => H s.heap ∧ R (.ok (.ret (.ref (s.heap.push o).objs.size)))
      { s with heap := (s.heap.push o).push { cls := .type "enumerate", data := .fields #[.none, .bool false, .ref s.heap.objs.size, rawInt 0, .none, .none] } }) := .of_wp fun prog w A R s h => by
    obtain ⟨hp, g, d, tk, os⟩ := s
    obtain ⟨h1, h⟩ := h
    have hsub := sub_enumerate
    have q1 : ∀ {A' : Around} {E : Value → Shared → Prop} {Q : Value → Shared → Prop}, Q (.ref hp.objs.size) ⟨hp.push o, g, d, tk, os⟩ → wpAny (model prog w) A' (pyIter v) Q E ⟨hp, g, d, tk, os⟩ := fun q => B.iter prog w _ _ ⟨hp, g, d, tk, os⟩ _ h1 q
    wp_walk using q1
    refine wpAny_stack_any fun st => wpAny_pure ?_
    split
    · rename_i c _ _ _ _ _
      cases (c == Value.type "enumerate") <;> (wp_walk using q1; exact ⟨_, rfl, h⟩)
    · (wp_walk using q1; exact ⟨_, rfl, h⟩)
theorem en1_begins {prog : Program} {w : World} {A : Around} {E : Value → Shared → Prop} {s : Shared} {v : Value} {o : Obj} {H : Heap → Prop} {Q : Value → Shared → Prop} (B : Begins v o H) (h1 : H s.heap)
    (h : ∀ h', IsEnum h' (s.heap.objs.size + 1) s.heap.objs.size 0 .none → h'.get? s.heap.objs.size = some o → (∀ b u, s.heap.get? b = some u → h'.get? b = some u) → Q (.ref (s.heap.objs.size + 1)) { s with heap := h' }) :
    wpAny (model prog w) A (call (.type "enumerate") [v]) Q E s := by
  refine callType_new F.called_enumerate (by decide) (F.typeCall_enumerate_1 _) (F.newCall_enumerate_1 _) (fun obj => F.args_object_init_2 obj _) F.entry_enumerate_new (meets_en1 B) ⟨h1, ?_⟩
  have hz : (s.heap.push o).objs.size = s.heap.objs.size + 1 := Heap.size_push ..
  show _ ∧ _
  rw [hz]
  have he : IsEnum ((s.heap.push o).push { cls := .type "enumerate", data := .fields #[.none, .bool false, .ref s.heap.objs.size, rawInt 0, .none, .none] }) (s.heap.objs.size + 1) s.heap.objs.size 0 .none := by
    have z := Heap.get?_push_size (s.heap.push o) (o := { cls := .type "enumerate", data := .fields #[.none, .bool false, .ref s.heap.objs.size, rawInt 0, .none, .none] }) rfl
    rw [hz] at z
    exact z
  exact ⟨⟨_, he, rfl⟩, h _ he (Heap.get?_push_of_some _ (Heap.get?_push_size _ B.free)) fun b u x => Heap.get?_push_of_some _ (Heap.get?_push_of_some _ x)⟩
def iEn (K : PySem.W.Frag) (ta : TA) : TI := fun σ H R => ta σ H fun vs H1 => ∃ k a xs, vs = [.ref a] ∧ SqK K k H1 a xs ∧ R (JE K k a 0) H1
theorem pi_en {X : Cx} {e : Expr} {ta : TA} {p pos tpos : Pos} {elts : List Expr} {kk : Nat} (hg : Gl X "enumerate") (hm : X.mg "enumerate" = none) (ha : PA X [e] ta) (hs : starEach [e] X.env = [(false, eval e X.env)]) :
    PI X (.Tuple elts kk tpos) (.Call (.Name "enumerate" p) [e] [] pos) (iEn X.K ta) := by
  refine ⟨fun pins s σ H R I h => ?_⟩
  refine Call_ (ld_blt I hg hm boot_enumerate (PyProof.Rows.callWith_type1 (thn (ha.run pos pins s σ H _ I h) fun us s1 ⟨vs, H1, I1, r1, q1⟩ => ?_) hs rfl))
  obtain ⟨k, a, xs, rfl, hq, q⟩ := q1
  obtain ⟨u, rfl, ru⟩ := vals1 r1
  cases ru
  obtain ⟨its, rv, p'⟩ := inv_sqK I1 hq
  refine en1_begins (beginsK k a its.toArray) p' fun h' he hit hk => wpAny_pyIter_enum he ?_
  have hlt := sqK_lt p'
  have I2 : Inv X pins σ H1 { s1 with heap := h' } := I1.kept (t' := s1.toks) hk
  refine ⟨s1.heap.objs.size + 1, [s1.heap.objs.size + 1, s1.heap.objs.size], _, _, H1, rfl, I2, turn_JE a (s1.heap.objs.size + 1) s1.heap.objs.size (Nat.succ_ne_self _) (Nat.ne_of_lt (Nat.lt_succ_of_lt hlt)) (Nat.ne_of_lt hlt), ⟨⟨.none, he⟩, itK_of hit⟩, fun c hc => ?_, q⟩
  have hle : s1.heap.objs.size ≤ c := by
    rcases (by simpa using hc : c = s1.heap.objs.size + 1 ∨ c = s1.heap.objs.size) with z | z
    · rw [z]; exact Nat.le_succ _
    · rw [z]; exact Nat.le_refl _
  exact I1.fpOk hle (I1.hok.fresh hle)

/-! ### zip -/
def JZ (K : PySem.W.Frag) (k1 k2 : Sk) (a b : Addr) : It :=
  ⟨fun i H => ∃ (xs ys : List V) (x y : V), SqK K k1 H a xs ∧ SqK K k2 H b ys ∧ xs[i]? = some x ∧ ys[i]? = some y,
   fun i H v H' => ∃ T x y, v = .ref T ∧ H T = none ∧ H' = upd H T (.tup [x, y]) ∧ (∀ xs, SqK K k1 H a xs → xs[i]? = some x) ∧ ∀ ys, SqK K k2 H b ys → ys[i]? = some y,
   fun i H => ∃ xs ys : List V, SqK K k1 H a xs ∧ SqK K k2 H b ys ∧ min xs.length ys.length = i⟩
structure Ap (a b z TI TO i1 i2 : Addr) : Prop where
  sep : ZipSep2 z TI TO i1 i2 [i1, a] [i2, b]
  h1 : a ≠ i1
  h2 : b ≠ i2
theorem turn_JZ {P : Program} {w : World} {K : PySem.W.Frag} {elts : List Expr} {kk : Nat} {tpos : Pos} {k1 k2 : Sk} {a b z TI TO i1 i2 : Addr} (S : Ap a b z TI TO i1 i2) :
    Turn P w K (.Tuple elts kk tpos) (JZ K k1 k2 a b) [z, TI, TO, i1, i2] z (fun i h => IsZip h z TI TO .none ∧ IsTupOf2 h TI (.ref i1) (.ref i2) ∧ (∃ u v, IsTupOf2 h TO u v) ∧ IsItK k1 h i1 a i ∧ IsItK k2 h i2 b i) where
  mem := by simp
  obj := fun i h st c hc => by
    obtain ⟨hz, hTI, ⟨u, v, hTO⟩, h1, h2⟩ := st
    rcases (by simpa using hc : c = z ∨ c = TI ∨ c = TO ∨ c = i1 ∨ c = i2) with q | q | q | q | q <;> rw [q]
    · exact ⟨_, hz, fun v q => nomatch q⟩
    · exact ⟨_, hTI, fun v q => nomatch q⟩
    · exact ⟨_, hTO, fun v q => nomatch q⟩
    · exact itK_obj h1
    · exact itK_obj h2
  keep := fun i h h' st q => by
    obtain ⟨hz, hTI, ⟨u, v, hTO⟩, h1, h2⟩ := st
    exact ⟨q z (by simp) _ hz, q TI (by simp) _ hTI, ⟨u, v, q TO (by simp) _ hTO⟩, itK_at h1 fun o e => q i1 (by simp) o e, itK_at h2 fun o e => q i2 (by simp) o e⟩
  item := by
    intro X hP hw hK hc i pins s σ H E I hf st hg
    subst hP hw hK
    obtain ⟨hz, hTI, hTO, hi1, hi2⟩ := st
    obtain ⟨xs, ys, x, y, hqx, hqy, hx, hy⟩ := hg
    obtain ⟨its, rv, p1⟩ := inv_sqK I hqx
    obtain ⟨its2, rv2, p2⟩ := inv_sqK I hqy
    obtain ⟨u, hu, ru⟩ := rv.get hx
    obtain ⟨u2, hu2, ru2⟩ := rv2.get hy
    have hhd : X.A.in1.handled = none := by simp [I.ok.hd hc]
    have G := GoesN.zip2 (prog := X.prog) (w := X.w) (A := X.A) (elts := elts) (x1 := kk) (pos := tpos) S.sep (drawsK k1 hhd i1 a S.h1 its.toArray) (drawsK k2 hhd i2 b S.h2 its2.toArray)
    have hi : i < min its.toArray.size its2.toArray.size := by
      have := lt_of_get hu
      have := lt_of_get hu2
      simp
      omega
    have live : ∀ c ∈ [z, TI, TO, i1, i2], ∃ o, s.heap.get? c = some o := fun c hc => by
      obtain ⟨u', v', hTO'⟩ := hTO
      rcases (by simpa using hc : c = z ∨ c = TI ∨ c = TO ∨ c = i1 ∨ c = i2) with q | q | q | q | q <;> rw [q]
      · exact ⟨_, hz⟩
      · exact ⟨_, hTI⟩
      · exact ⟨_, hTO'⟩
      · obtain ⟨o, e, _⟩ := itK_obj hi1; exact ⟨o, e⟩
      · obtain ⟨o, e, _⟩ := itK_obj hi2; exact ⟨o, e⟩
    have hwr : ∀ c, c ∉ [z, TI, TO, i1, i2] → c ∉ [z, TO, i1, i2] := fun c hc q => hc (by
      rcases (by simpa using q : c = z ∨ c = TO ∨ c = i1 ∨ c = i2) with e | e | e | e <;> simp [e])
    refine wpAny_mono (G.goes i s (fun v s2 => ∃ x' H', Inv X pins σ H' s2 ∧ RelV x' v ∧ (JZ X.K k1 k2 a b).yld i H x' H' ∧ (IsZip s2.heap z TI TO .none ∧ IsTupOf2 s2.heap TI (.ref i1) (.ref i2) ∧ (∃ u v, IsTupOf2 s2.heap TO u v) ∧ IsItK k1 s2.heap i1 a (i + 1) ∧ IsItK k2 s2.heap i2 b (i + 1)) ∧ ∀ c ∈ [z, TI, TO, i1, i2], H' c = none) E hi ⟨hz, hTI, hTO, ⟨hi1, p1⟩, hi2, p2⟩ fun v h' tk hY st' hk htk => ?_) (fun r s1 q => ?_) fun _ _ z => z
    · obtain ⟨T, y1, y2, rfl, hT, hy1, hy2, hTup⟩ := hY
      obtain ⟨g1, g2, g3, ⟨g4, _⟩, g5, _⟩ := st'
      have e1 : y1 = u := by
        have h1 : its.toArray[i]? = some u := by simpa using hu
        rw [h1] at hy1; cases hy1; rfl
      have e2 : y2 = u2 := by
        have h1 : its2.toArray[i]? = some u2 := by simpa using hu2
        rw [h1] at hy2; cases hy2; rfl
      subst e1 e2
      have new : ObjOk X.prog X.w (upd H T (.tup [x, y])) h' T (.tup [x, y]) := ⟨by show 2 ≤ sizeLine; decide, [y1, y2], .cons ru (.cons ru2 .nil), hTup⟩
      have I1 := I.turnedNew (t' := tk) (h' := h') (ch := [z, TI, TO, i1, i2]) (fun c o hc q => hk c o (hwr c hc) q) hf hT new
      refine ⟨.ref T, _, I1, rfl, ⟨T, x, y, rfl, I.hok.fresh hT, rfl, (fun zs h => by rw [inv_injK I h hqx]; exact hx), fun zs h => by rw [inv_injK I h hqy]; exact hy⟩, ⟨g1, g2, g3, g4, g5⟩, fun c hc => ?_⟩
      have hn : c ≠ T := fun e => by
        obtain ⟨o, ho⟩ := live c hc
        rw [e] at ho
        exact Nat.lt_irrefl _ (Nat.lt_of_lt_of_le (Heap.lt_size ho) hT)
      rw [upd_ne hn]
      exact (hf c hc).1
    · obtain ⟨v, rfl, q⟩ := q
      exact ⟨v, rfl, q⟩
  done := by
    intro X hP hw hK hc i pins s σ H E I hf st hg
    subst hP hw hK
    obtain ⟨hz, hTI, hTO, hi1, hi2⟩ := st
    obtain ⟨xs, ys, hqx, hqy, rfl⟩ := hg
    obtain ⟨its, rv, p1⟩ := inv_sqK I hqx
    obtain ⟨its2, rv2, p2⟩ := inv_sqK I hqy
    have hhd : X.A.in1.handled = none := by simp [I.ok.hd hc]
    have G := GoesN.zip2 (prog := X.prog) (w := X.w) (A := X.A) (elts := elts) (x1 := kk) (pos := tpos) S.sep (drawsK k1 hhd i1 a S.h1 its.toArray) (drawsK k2 hhd i2 b S.h2 its2.toArray)
    have hl : min xs.length ys.length = min its.toArray.size its2.toArray.size := by
      rw [rv.length, rv2.length]; simp
    rw [hl] at hi1 hi2
    refine wpAny_mono (G.stops s (fun s1 => Inv X pins σ H s1) E ⟨hz, hTI, hTO, ⟨hi1, p1⟩, hi2, p2⟩ fun h' tk hk htk => I.turnedL (t' := tk) (ch := [z, TI, TO, i1, i2]) (fun c o hc q => hk c o (fun q => hc (by
      rcases (by simpa using q : c = z ∨ c = TO ∨ c = i1 ∨ c = i2) with e | e | e | e <;> simp [e])) q) hf) (fun r s1 q => q) fun _ _ z => z
  self := fun A i s Q E st h => wpAny_pyIter_zip st.1 h
def iZp (K : PySem.W.Frag) (ta : TA) : TI := fun σ H R => ta σ H fun vs H1 => ∃ k1 k2 a b xs ys, vs = [.ref a, .ref b] ∧ SqK K k1 H1 a xs ∧ SqK K k2 H1 b ys ∧ R (JZ K k1 k2 a b) H1
theorem pi_zp {X : Cx} {e e2 : Expr} {ta : TA} {p pos tpos : Pos} {elts : List Expr} {kk : Nat} (hg : Gl X "zip") (hm : X.mg "zip" = none) (ha : PA X [e, e2] ta)
    (hs : starEach [e, e2] X.env = (false, eval e X.env) :: starEach [e2] X.env) (hpl : (backTo pos (starEach [e2] X.env)).any (·.1) = false) : PI X (.Tuple elts kk tpos) (.Call (.Name "zip" p) [e, e2] [] pos) (iZp X.K ta) := by
  refine ⟨fun pins s σ H R I h => ?_⟩
  refine Call_ (ld_blt I hg hm PyProof.Rows.boot_zip (PyProof.Rows.callWith_type1 (thn (ha.run pos pins s σ H _ I h) fun us s1 ⟨vs, H1, I1, r1, q1⟩ => ?_) hs hpl))
  obtain ⟨k1, k2, a, b, xs, ys, rfl, hqx, hqy, q⟩ := q1
  obtain ⟨u1, u2, rfl, ru1, ru2⟩ := vals2 r1
  cases ru1
  cases ru2
  obtain ⟨its, rv, p1⟩ := inv_sqK I1 hqx
  obtain ⟨its2, rv2, p2⟩ := inv_sqK I1 hqy
  have l1 := sqK_lt p1
  have l2 := sqK_lt p2
  refine zip_begins2 (beginsK k1 a its.toArray) (beginsK k2 b its2.toArray) p1 p2 fun h' hz hTI hTO h1 h2 hsz hk => wpAny_pyIter_zip hz ?_
  have I2 : Inv X pins σ H1 { s1 with heap := h' } := I1.kept (t' := s1.toks) hk
  have S : Ap a b (s1.heap.objs.size + 4) (s1.heap.objs.size + 2) (s1.heap.objs.size + 3) s1.heap.objs.size (s1.heap.objs.size + 1) :=
    ⟨zip_sep2 (fun c hc => by rw [List.mem_singleton.mp hc]; exact l1) (fun c hc => by rw [List.mem_singleton.mp hc]; exact l2), Nat.ne_of_lt l1, Nat.ne_of_lt (Nat.lt_succ_of_lt l2)⟩
  refine ⟨s1.heap.objs.size + 4, [s1.heap.objs.size + 4, s1.heap.objs.size + 2, s1.heap.objs.size + 3, s1.heap.objs.size, s1.heap.objs.size + 1], _, _, H1, rfl, I2, turn_JZ S, ⟨hz, hTI, ⟨_, _, hTO⟩, itK_of h1, itK_of h2⟩, fun c hc => ?_, q⟩
  have hle : s1.heap.objs.size ≤ c := by
    rcases (by simpa using hc : c = s1.heap.objs.size + 4 ∨ c = s1.heap.objs.size + 2 ∨ c = s1.heap.objs.size + 3 ∨ c = s1.heap.objs.size ∨ c = s1.heap.objs.size + 1) with z | z | z | z | z <;> rw [z]
    · exact Nat.le_add_right _ _
    · exact Nat.le_add_right _ _
    · exact Nat.le_add_right _ _
    · exact Nat.le_refl _
    · exact Nat.le_add_right _ _
  exact I1.fpOk hle (I1.hok.fresh hle)
end Wh

set_option Elab.async false
set_option linter.all false
set_option maxRecDepth 100000
set_option maxHeartbeats 1000000
set_option exponentiation.threshold 5000
/-! Wh7c: sorted, set, divmod, str. -/
namespace Wh
open PySem PySem.Spec PyProof.Rows L2 Evl
variable [Tbl]

section
variable {P : Program} {w : World} {A : Around} {E : Value → Shared → Prop} {s : Shared}
abbrev newSet (w : World) : Obj := { cls := .type "set", dict := none, data := .set #[] 0 (.fresh 0 0 (!w.params.followText "set-order")) }
set_option maxHeartbeats 3200000 in
/-- set(l), l a list of ints -/
theorem set_lst {l : Addr} {items : Array Value} (ns : List Int) {Q : Value → Shared → Prop} (hh : A.handled = none) (hl : s.heap.IsList l items) (hit : IntsAre items.toList ns) (hb : ns.length + 1 < scanBound)
    (h : ∀ (h' : Heap) (tk c : Nat), SetR w h' s.heap.objs.size (fun j => decide (j ∈ ns)) c → c ≤ ns.length → (∀ b o, s.heap.get? b = some o → h'.get? b = some o) → Q (.ref s.heap.objs.size) { s with heap := h', toks := tk }) :
    wpAny (model P w) A (call (.type "set") [.ref l]) Q E s := by
  have hisz : items.size = ns.length := by rw [← Array.length_toList]; exact IntsAre.length hit
  obtain ⟨c0, tl0, hmro⟩ := F.called_set.mro
  have k1 := F.called_set.made
  have k2 := F.called_set.sub
  refine wpAny_call (codeAny_of_tree (show wpAny _ _ (callAny (.type "set") _) _ _ _ from ?_))
  refine wpAny_pure ⟨Code.quiet_builtin _ (by decide +kernel), codeAny_builtin F.entry_type_call ?_⟩
  rw [Around.under_plain (weight_type_call_type "set" [.ref l] []) rfl]
  have k3 := F.called_set.notType
  have k4 := F.called_set.canCreate
  have k5 := F.typeCall_set_1 (.ref l)
  repeat (any_goals (first | assumption | wp_step))
  refine codeAny_mono (code_set_led1 (.ref l) (E := E) (Q₁ := fun obj s₁ => obj = .ref s.heap.objs.size ∧ s₁ = { s with heap := s.heap.push (newSet w) }) ⟨rfl, rfl⟩) fun r s₁ hr => ?_
  match r, hr with
  | .ok (.ret obj), hr =>
    obtain ⟨rfl, rfl⟩ := hr
    have hS : (s.heap.push (newSet w)).get? s.heap.objs.size = some (newSet w) := Heap.get?_push_size _ rfl
    have hT : Shared.TypeIs { s with heap := s.heap.push (newSet w) } (.ref s.heap.objs.size) "set" := ⟨_, hS, rfl⟩
    have k6 := F.called_set.init.lookup
    have k7 := F.called_set.init.bind (.ref s.heap.objs.size)
    repeat (any_goals (first | assumption | wp_step))
    refine codeAny_mono (codeAny_call_builtin (R := wants (fun r s₂ => r = .none ∧ ∃ h' tk c, s₂ = { s with heap := h', toks := tk } ∧ SetR w h' s.heap.objs.size (fun j => decide (j ∈ ns)) c ∧ c ≤ ns.length ∧ (∀ b o, s.heap.get? b = some o → h'.get? b = some o)) E)
      F.called_set.init.plain F.entry_set_init (check_set_init_1 hT ?_)) fun r₂ s₂ hr₂ => ?_
    · obtain ⟨⟨ocls, odict, odata, oslots⟩, hol, hcl, nl, hdl⟩ := hl
      simp only at hcl hdl
      subst hcl hdl
      have hol' := Heap.get?_push_of_some (newSet w) hol
      have k8 := F.sub_list_set
      have k9 := F.sub_list_frozenset
      have k10 : (Value.type "list" == Value.type "dict") = false := by decide
      have hl1 : (s.heap.push (newSet w)).IsList l items := ⟨_, hol', rfl, nl, rfl⟩
      unfold Builtin.«set.__init__» noKeywords Builtin.Frozenset.updateFrom
      generalize hPI : pyIter = PI
      wp_walk
      subst hPI
      refine wpAny_pyIter_list hl1 (wpAny_bind (wpAny_runValue ?_))
      have hlS : l < s.heap.objs.size := Heap.lt_size hol
      have hh3 : A.in1.in1.in1.handled = none := by simp [hh]
      have z1 : (s.heap.push (newSet w)).objs.size = s.heap.objs.size + 1 := Heap.size_push ..
      have n1 : l ≠ (s.heap.push (newSet w)).objs.size := by rw [z1]; exact Nat.ne_of_lt (Nat.lt_succ_of_lt hlS)
      have n2 : s.heap.objs.size ∉ [(s.heap.push (newSet w)).objs.size, l] := by
        rw [z1]
        simp only [List.mem_cons, List.not_mem_nil, or_false, not_or]
        exact ⟨Nat.ne_of_lt (Nat.lt_succ_self _), Nat.ne_of_gt hlS⟩
      have hval : ∀ (i : Nat) (v : Value), items[i]? = some v → ∃ k t, ns[i]? = some k ∧ v = .int k t := fun i v hv => by
        have hi : i < ns.length := hisz ▸ (Array.getElem?_eq_some_iff.mp hv).1
        obtain ⟨t, e⟩ := PyProof.Rows.IntsAre.int_at hit i v (by rw [Array.getElem?_toList]; exact hv)
        refine ⟨ns[i], t, List.getElem?_eq_getElem hi, ?_⟩
        rw [e, List.getD_eq_getElem?_getD, List.getElem?_eq_getElem hi] <;> rfl
      refine set_update_ints ((Walks.list hh3 _ l n1 items).toS) s.heap.objs.size n2 ns hisz hb hval (items.size - 0) 0 _ (by omega) (Nat.zero_le _) ⟨⟨_, Heap.get?_push_size _ rfl, rfl, rfl⟩, hl1.push _⟩ ⟨0, Nat.le_refl 0, setR_new_at (Heap.get?_push_of_some _ hS)⟩ fun s' c' hm hc' hS' => ?_
      obtain ⟨h', g2, d', tk', os'⟩ := s'
      obtain rfl : g2 = s.gens := hm.gens
      obtain rfl : d' = s.drawn := hm.drawn
      obtain rfl : os' = s.os := hm.os
      refine wpAny_pure (show wpAny _ _ (PySem.ret Value.none) _ _ _ from wpAny_pure ⟨rfl, h', tk', c', rfl, hS', hisz ▸ hc', fun b o e => ?_⟩)
      have hb0 : b < s.heap.objs.size := Heap.lt_size e
      refine hm.heap b o ?_ (Heap.get?_push_of_some _ (Heap.get?_push_of_some _ e))
      simp only [List.mem_cons, List.not_mem_nil, or_false, not_or, z1]
      exact ⟨Nat.ne_of_lt hb0, Nat.ne_of_lt (Nat.lt_succ_of_lt hb0)⟩
    · match r₂, hr₂ with
      | .ok (.ret r), hr₂ =>
        obtain ⟨rfl, h', tk, c', rfl, hS', hc', hk'⟩ := hr₂
        repeat (any_goals (first | assumption | wp_step))
        exact h _ _ _ hS' hc' hk'
      | .error _, hr₂ => exact hr₂
      | .ok .next, hr₂ => exact hr₂.elim
      | .ok .brk, hr₂ => exact hr₂.elim
      | .ok .cont, hr₂ => exact hr₂.elim
  | .error _, hr => exact hr
  | .ok .next, hr => exact hr.elim
  | .ok .brk, hr => exact hr.elim
  | .ok .cont, hr => exact hr.elim
end
section
variable {X : Cx}
theorem ints_vals : ∀ {ns : List Int} {us : List Value}, Vals (ns.map V.int) us → IntsAre us ns := fun h => RZ.intsAre_vals h
def rSetI (K : PySem.W.Frag) (w : World) : List V → Hp → VK → Prop := fun vs H Q => ∃ (k : Sk) (a : Addr) (ns : List Int), vs = [V.ref a] ∧ SqK K k H a (ns.map V.int) ∧ ns.length < 64 ∧ ∀ p n, H p = none → n ≤ ns.length → Q (.ref p) (upd H p (SetO w p (fun j => decide (j ∈ ns)) n))
theorem cr_setI (hc : X.calm = true) : CallR X (.type "set") (rSetI X.K X.w) := by
  intro pins s σ H xs us Q I r h
  obtain ⟨k, a, ns, rfl, hs, hl, q⟩ := h
  obtain ⟨u, rfl, ru⟩ := vals1 r
  cases ru
  obtain ⟨its, rv, p⟩ := inv_sqK I hs
  have hb : ns.length + 1 < scanBound := by unfold scanBound; omega
  have fin : ∀ (h' : Heap) (tk c : Nat), SetR X.w h' s.heap.objs.size (fun j => decide (j ∈ ns)) c → c ≤ ns.length → (∀ b o, s.heap.get? b = some o → h'.get? b = some o) → EP X pins σ Q (.ref s.heap.objs.size) { s with heap := h', toks := tk } := fun h' tk c hS hc hk =>
    ⟨.ref _, _, I.laid (t' := tk) hk (Nat.le_refl _) (setO_new hS), rfl, q _ c (I.hok.fresh (Nat.le_refl _)) hc⟩
  cases k with
  | l => exact set_lst ns (I.ok.hd hc) p (by simpa using ints_vals rv) hb fin
  | t => exact call_set_tupI ns (I.ok.hd hc) p (by simpa using ints_vals rv) hb fin
end

end Wh

set_option Elab.async false
set_option linter.all false
set_option maxRecDepth 100000
set_option maxHeartbeats 1000000
set_option exponentiation.threshold 5000
/-! Wh7d: sorted(set(x)), tuple(range(n)), membership, new lists. -/
namespace Wh
open PySem PySem.Spec PyProof.Rows L2 Evl
variable [Tbl]

section
variable {X : Cx} {c : Cfg} {pos : Pos} {a b : Expr} {fa fb : En → Option (PyData × En)}
/-- sorted(set(a)) -/
theorem l_srs {p p2 pos2 : Pos} (hc : X.calm = true) (hg : Gl X "sorted") (hm : X.mg "sorted" = none) (hg2 : Gl X "set") (hm2 : X.mg "set" = none) (ha : PE X a (tE X.K fa)) (he : starEach [a] X.env = (false, eval a X.env) :: starEach [] X.env) :
    PE X (.Call (.Name "sorted" p) [.Call (.Name "set" p2) [a] [] pos2] [] pos) (tEL X.K fun ρ => bnd (fa ρ) fun x ρ => ret (srsD x) ρ) := by
  have h1 := pe_callTy (pos := pos2) (p := p2) (T := "set") (cr_setI hc) hg2 hm2 (by decide +kernel) (pa_cons ha pa_nil he) (by decide +kernel) (by decide +kernel) he rfl
  refine (pe_callB (id := "sorted") (cr_sortedSet hc) hg hm (by decide +kernel) (pa_cons h1 pa_nil rfl) (by decide +kernel) (by decide +kernel) rfl rfl).wk fun σ H Q h => ?_
  obtain ⟨ρ, F, zs, ρ', rep, e, q⟩ := h
  obtain ⟨x, ρ1, e1, e⟩ := bnd_eq e
  obtain ⟨z', e3, e⟩ := ret_eq e
  cases e
  refine ⟨ρ, F, x, ρ', rep, e1, fun vx F1 H1 rep1 st1 rp1 => ?_⟩
  have key : ∀ (k : Sk) (a : Addr) (vs : List V) (ds : List PyData), vx = .ref a → SqK X.K k F1 a vs → RpA X.K F1 vs ds → srsL ds = some (.list zs) → rSetI X.K X.w [vx] H1 fun x2 H2 => rSortedSet X.w [x2] H2 Q := fun k a vs ds hv hs hr hl => by
    unfold srsL at hl
    cases hi : intsD ds with
    | none => rw [hi] at hl; cases hl
    | some ns =>
      rw [hi] at hl
      simp only at hl
      split at hl
      · rename_i hlen
        cases hl
        rw [ints_eq hi] at hr
        rw [hr.ints] at hs
        refine ⟨k, a, ns, by rw [hv], exK rep1.ex hs, hlen, fun p n hp hn => ⟨p, _, n, rfl, upd_same, by omega, fun ms p' hs1 hs2 hs3 hp' => ?_⟩⟩
        have e : ms = srtU ns := strict_uniq hs1 (srtU_srt ns) fun z => by
          rw [hs2 z, srtU_mem]; simp
        subst e
        have hp0 : H1 p' = none := upd_none' hp'
        have st2 : StpE ρ' σ F1 H1 ρ' F1 (upd H1 p (SetO X.w p (fun j => decide (j ∈ ns)) n)) := StpE.layOff hp
        exact q p' _ F1 _ ((rep1.layOff hp).layOff hp') ((st1.trans st2).trans (StpE.layOff hp')) (st1.alive p' hp0) (fresh_back rep1.ex hp0) upd_same (RpA.ofInts _)
      · cases hl
  cases rp1 <;> simp only [srsD] at e3 <;> first | (cases e3; done) | skip
  · rename_i a vs ds h2 h3
    exact key .l a vs ds rfl h2 h3 e3
  · rename_i a vs ds h2 h3
    exact key .t a vs ds rfl h2 h3 e3
/-- tuple(range(a)) -/
theorem e_trg {p p2 pos2 : Pos} (hc : X.calm = true) (hg : Gl X "tuple") (hm : X.mg "tuple" = none) (hg2 : Gl X "range") (hm2 : X.mg "range" = none) (ha : PE X a (tE X.K fa)) (he : starEach [a] X.env = (false, eval a X.env) :: starEach [] X.env) :
    PE X (.Call (.Name "tuple" p) [.Call (.Name "range" p2) [a] [] pos2] [] pos) (tE X.K fun ρ => bnd (fa ρ) fun x ρ => ret (trgD x) ρ) := by
  refine (pe_tupRg hc hg hm (prg_1 hg2 hm2 ha he) rfl).wk fun σ H Q h => ?_
  obtain ⟨ρ, F, z, ρ', rep, e, q⟩ := h
  obtain ⟨x, ρ1, e1, e⟩ := bnd_eq e
  obtain ⟨z', e3, e⟩ := ret_eq e
  cases e
  refine ⟨ρ, F, x, ρ', rep, e1, fun vx F1 H1 rep1 st1 rp1 => ?_⟩
  cases rp1 <;> simp only [trgD] at e3 <;> first | (cases e3; done) | skip
  rename_i n
  split at e3
  · rename_i hn
    cases e3
    refine ⟨n, rfl, ⟨by omega, by omega, by omega, by omega, by omega⟩, fun p' hp' => ?_⟩
    refine layT rep1 (fun v F2 H2 rep2 st2 rp2 => q v F2 H2 rep2 (st1.trans st2) rp2) hp' ?_
    unfold rgV
    rw [show n - 0 = n by omega]
    generalize n.toNat = m
    have : ∀ l : List Nat, RpA X.K F1 (l.map fun i => V.int (0 + (i : Nat))) (l.map fun (k : Nat) => PyData.int (k : Int)) := fun l => by
      induction l with
      | nil => exact .nil
      | cons k l ih =>
        refine .cons ?_ ih
        show Rp X.K F1 (V.int (0 + (k : Int))) (PyData.int (k : Int))
        rw [Int.zero_add]
        exact .int _
    exact this _
  · cases e3
/-- x in l, l a list of one's own that stays so -/
theorem e_oin (hu : X.A.units + 64 < cLine) {neg : Bool} {op : CmpOp} {x : Str} {i : Nat} {px : Pos} (hop : op = if neg then .NotIn else .In) (hN : X.N[i]? = some x) (hv : Vis X.env.scope x) (hd : (x == ("__debug__" : Str)) = false) (hcd : (x == ("__classdict__" : Str)) = false) (ha : PE X a (tE X.K fa)) :
    PE X (.Compare a [op] [.Name x px] pos) (tE X.K fun ρ => bnd (fa ρ) fun x ρ => match ρ[i]? with
    | some (some (Sv.own _ xs)) => bnd (ret (inD x xs) ρ) fun r ρ => some (.bool (if neg then !r else r), ρ)
    | some (some (Sv.d y)) => bnd (ret (cmpD (if neg then .nin else .inn) x y) ρ) fun r ρ => some (.bool r, ρ)
    | some (some (Sv.od xs)) => bnd (ret (dinD x xs) ρ) fun r ρ => some (.bool (if neg then !r else r), ρ)
    | _ => none) := by
  have ho : OpR X (compareOp op) (fun x y H Q => (rIn X.K neg x y H Q ∨ rInD X.K neg x y H Q) ∨ rInK neg x y H Q) := by
    cases neg <;> subst hop
    · exact (op_in_seq.or (op_inD (by omega))).or (op_inK (by omega))
    · exact (op_notIn_seq.or (op_notInD (by omega))).or (op_notInK (by omega))
  refine (pe_cmpR ho ha (pe_var hN hv hd hcd) (by subst hop; cases neg <;> rfl)).wk fun σ H Q h => ?_
  obtain ⟨ρ, F, z, ρ', rep, e, q⟩ := h
  obtain ⟨y, ρ1, e1, e⟩ := bnd_eq e
  refine ⟨ρ, F, y, ρ1, rep, e1, fun vx F1 H1 rep1 st1 rp1 => ?_⟩
  split at e
  · rename_i bb xs hx
    obtain ⟨r, ρ2, e2, e⟩ := bnd_eq e
    obtain ⟨r', e3, e4⟩ := ret_eq e2
    cases e4
    cases e
    obtain ⟨p, vs, h1, h2, h3, h4⟩ := rep1.own i bb xs hx
    refine ⟨_, h1, ?_⟩
    unfold inD at e3
    split at e3
    · rename_i hc
      rw [Bool.and_eq_true] at hc
      cases e3
      refine .inl (.inl ⟨p, vs, rfl, .inl (SqL.of h3), rp1.flatV hc.1, h4.flatA hc.2, ?_⟩)
      rw [RpA.inV rp1 hc.1 h4 hc.2]
      have := q (.bl (if neg then !(xs.any fun z => PyData.eqv z y) else xs.any fun z => PyData.eqv z y)) F1 H1 rep1 st1 (.bl _)
      exact this
    · cases e3
  · rename_i y' hx
    obtain ⟨r, ρ2, e2, e⟩ := bnd_eq e
    obtain ⟨r', e3, e4⟩ := ret_eq e2
    cases e4
    cases e
    obtain ⟨w, h1, h2⟩ := rep1.dat i y' hx
    exact ⟨w, h1, rbc_in (neg := neg) rfl rep1 rp1 h2 e3 (q _ F1 H1 rep1 st1 (.bl _))⟩
  · rename_i xs hx
    obtain ⟨r, ρ2, e2, e⟩ := bnd_eq e
    obtain ⟨r', e3, e4⟩ := ret_eq e2
    cases e4
    cases e
    obtain ⟨p, vs, h1, h2, h3, h4⟩ := rep1.odc i xs hx
    refine ⟨_, h1, .inr ?_⟩
    unfold dinD at e3
    split at e3
    · rename_i k hk
      cases e3
      have ek := keyD_eq hk
      subst ek
      cases rp1.key
      refine ⟨p, _, rfl, DGet.k h3, ?_⟩
      rw [h4.some]
      exact q (.bl (if neg then !(dgetD xs (kD k)).isSome else (dgetD xs (kD k)).isSome)) F1 H1 rep1 st1 (.bl _)
    · cases e3
  · cases e
theorem t_oin (hu : X.A.units + 64 < cLine) {neg : Bool} {op : CmpOp} {x : Str} {i : Nat} {px : Pos} (hop : op = if neg then .NotIn else .In) (hN : X.N[i]? = some x) (hv : Vis X.env.scope x) (hd : (x == ("__debug__" : Str)) = false) (hcd : (x == ("__classdict__" : Str)) = false) (ha : PE X a (tE X.K fa)) :
    PT X (.Compare a [op] [.Name x px] pos) (tT X.K fun ρ => bnd (bnd (fa ρ) fun x ρ => match ρ[i]? with
    | some (some (Sv.own _ xs)) => bnd (ret (inD x xs) ρ) fun r ρ => some (.bool (if neg then !r else r), ρ)
    | some (some (Sv.d y)) => bnd (ret (cmpD (if neg then .nin else .inn) x y) ρ) fun r ρ => some (.bool r, ρ)
    | some (some (Sv.od xs)) => bnd (ret (dinD x xs) ρ) fun r ρ => some (.bool (if neg then !r else r), ρ)
    | _ => none) fun x ρ => ret (truD x) ρ) := by
  have ho : OpR X (compareOp op) (fun x y H Q => (rIn X.K neg x y H Q ∨ rInD X.K neg x y H Q) ∨ rInK neg x y H Q) := by
    cases neg <;> subst hop
    · exact (op_in_seq.or (op_inD (by omega))).or (op_inK (by omega))
    · exact (op_notIn_seq.or (op_notInD (by omega))).or (op_notInK (by omega))
  refine (pt_cmpR ho ha (pe_var hN hv hd hcd) (by subst hop; cases neg <;> rfl)).wk fun σ H Q h => ?_
  obtain ⟨ρ, F, z, ρ', rep, e, q⟩ := h
  obtain ⟨w0, ρ0, e, e'⟩ := bnd_eq e
  obtain ⟨z0, g1, g2⟩ := ret_eq e'
  cases g2
  obtain ⟨y, ρ1, e1, e⟩ := bnd_eq e
  refine ⟨ρ, F, y, ρ1, rep, e1, fun vx F1 H1 rep1 st1 rp1 => ?_⟩
  split at e
  · rename_i bb xs hx
    obtain ⟨r, ρ2, e2, e⟩ := bnd_eq e
    obtain ⟨r', e3, e4⟩ := ret_eq e2
    cases e4
    cases e
    cases g1
    obtain ⟨p, vs, h1, h2, h3, h4⟩ := rep1.own i bb xs hx
    refine ⟨_, h1, ?_⟩
    unfold inD at e3
    split at e3
    · rename_i hc
      rw [Bool.and_eq_true] at hc
      cases e3
      refine .inl (.inl ⟨p, vs, rfl, .inl (SqL.of h3), rp1.flatV hc.1, h4.flatA hc.2, ?_⟩)
      rw [RpA.inV rp1 hc.1 h4 hc.2]
      exact ⟨_, rfl, q F1 H1 rep1 st1⟩
    · cases e3
  · rename_i y' hx
    obtain ⟨r, ρ2, e2, e⟩ := bnd_eq e
    obtain ⟨r', e3, e4⟩ := ret_eq e2
    cases e4
    cases e
    cases g1
    obtain ⟨w, h1, h2⟩ := rep1.dat i y' hx
    exact ⟨w, h1, rbc_in (neg := neg) rfl rep1 rp1 h2 e3 ⟨_, rfl, q F1 H1 rep1 st1⟩⟩
  · rename_i xs hx
    obtain ⟨r, ρ2, e2, e⟩ := bnd_eq e
    obtain ⟨r', e3, e4⟩ := ret_eq e2
    cases e4
    cases e
    cases g1
    obtain ⟨p, vs, h1, h2, h3, h4⟩ := rep1.odc i xs hx
    refine ⟨_, h1, .inr ?_⟩
    unfold dinD at e3
    split at e3
    · rename_i k hk
      cases e3
      have ek := keyD_eq hk
      subst ek
      cases rp1.key
      refine ⟨p, _, rfl, DGet.k h3, ?_⟩
      rw [h4.some]
      exact ⟨_, rfl, q F1 H1 rep1 st1⟩
    · cases e3
  · cases e
/-- len(l), l a list of one's own that stays so -/
theorem e_olen {x : Str} {i : Nat} {p px : Pos} (hg : Gl X "len") (hm : X.mg "len" = none) (hN : X.N[i]? = some x) (hv : Vis X.env.scope x) (hd : (x == ("__debug__" : Str)) = false) (hcd : (x == ("__classdict__" : Str)) = false) :
    PE X (.Call (.Name "len" p) [.Name x px] [] pos) (tE X.K fun ρ => match ρ[i]? with
    | some (some (Sv.own _ xs)) => some (.int xs.length, ρ)
    | some (some (Sv.d y)) => ret (b1D .len y) ρ
    | some (some (Sv.od xs)) => some (.int xs.length, ρ)
    | _ => none) := by
  refine (pe_callB (id := "len") (call_len_seq.or (call_len_str.or call_lenD)) hg hm (by decide +kernel) (pa_cons (pe_var hN hv hd hcd) pa_nil rfl) (by decide +kernel) (by decide +kernel) rfl rfl).wk fun σ H Q h => ?_
  obtain ⟨ρ, F, z, ρ', rep, e, q⟩ := h
  simp only at e
  split at e
  · rename_i bb xs hx
    cases e
    obtain ⟨p, vs, h1, h2, h3, h4⟩ := rep.own i bb xs hx
    refine ⟨_, h1, .inl ⟨p, vs, rfl, .inl (SqL.of h3), ?_⟩⟩
    rw [h4.len]
    exact q _ F H rep StpE.refl (.int _)
  · rename_i y' hx
    obtain ⟨z', e3, e⟩ := ret_eq e
    cases e
    obtain ⟨w, h1, h2⟩ := rep.dat i y' hx
    refine ⟨w, h1, ?_⟩
    cases h2 <;> simp only [b1D] at e3 <;> first | (cases e3; done) | skip
    · split at e3
      · cases e3
        exact .inr (.inl ⟨_, rfl, by assumption, q _ F H rep StpE.refl (.int _)⟩)
      · cases e3
    · rename_i a vs ds g1 g2
      cases e3
      exact .inl ⟨a, vs, rfl, .inl (rep.exL g1), by rw [g2.len]; exact q _ F H rep StpE.refl (.int _)⟩
    · rename_i a vs ds g1 g2
      cases e3
      exact .inl ⟨a, vs, rfl, .inr (rep.exT g1), by rw [g2.len]; exact q _ F H rep StpE.refl (.int _)⟩
    · rename_i a vs ds g1 g2
      cases e3
      exact .inr (.inr ⟨a, vs, rfl, rep.ex _ _ g1, by rw [g2.len]; exact q _ F H rep StpE.refl (.int _)⟩)
  · rename_i xs hx
    cases e
    obtain ⟨p, vs, h1, h2, h3, h4⟩ := rep.odc i xs hx
    refine ⟨_, h1, .inr (.inr ⟨p, vs, rfl, h3, ?_⟩)⟩
    rw [h4.len]
    exact q _ F H rep StpE.refl (.int _)
  · cases e
/-- a + b, a new list -/
theorem l_cat (ha : PE X a (tE X.K fa)) (hb : PE X b (tE X.K fb)) : PE X (.BinOp a .Add b pos) (tEL X.K fun ρ => bnd (fa ρ) fun x ρ => bnd (fb ρ) fun y ρ => ret (binD .add x y) ρ) := by
  refine (pe_op op_catL ha hb).wk fun σ H Q h => ?_
  obtain ⟨ρ, F, zs, ρ', rep, e, q⟩ := h
  obtain ⟨x, ρ1, e1, e⟩ := bnd_eq e
  obtain ⟨y, ρ2, e2, e⟩ := bnd_eq e
  obtain ⟨z', e3, e⟩ := ret_eq e
  cases e
  refine ⟨ρ, F, x, ρ1, rep, e1, fun vx F1 H1 rep1 st1 rp1 => ⟨ρ1, F1, y, ρ', rep1, e2, fun vy F2 H2 rep2 st2 rp2 => ?_⟩⟩
  have rp1' := rp1.mono st2.ext
  cases x <;> cases y <;> simp only [binD] at e3 <;> first | (cases e3; done) | (split at e3 <;> first | (cases e3; done) | skip)
  · cases rp1' with
    | lst h1 h2 => cases rp2 with
      | lst h3 h4 =>
        rename_i hz _ _ _ _
        cases e3
        have st := st1.trans st2
        exact ⟨_, _, _, _, rfl, rfl, rep2.exL h1, rep2.exL h3, by rw [h2.len, h4.len]; exact hz, fun p hp => q p _ F2 _ (rep2.layOff hp) (st.trans (StpE.layOff hp)) (st.alive p hp) (fresh_back rep2.ex hp) upd_same (h2.append h4)⟩
/-- list(a), a new list -/
theorem l_list {p : Pos} (hg : Gl X "list") (hm : X.mg "list" = none) (ha : PE X a (tE X.K fa)) (he : starEach [a] X.env = (false, eval a X.env) :: starEach [] X.env) : PE X (.Call (.Name "list" p) [a] [] pos) (tEL X.K fun ρ => bnd (fa ρ) fun x ρ => ret (b1D .list x) ρ) := by
  refine (pe_callTy (T := "list") call_list_of hg hm (by decide +kernel) (pa_cons ha pa_nil he) (by decide +kernel) (by decide +kernel) he rfl).wk fun σ H Q h => ?_
  obtain ⟨ρ, F, zs, ρ', rep, e, q⟩ := h
  obtain ⟨x, ρ1, e1, e⟩ := bnd_eq e
  obtain ⟨z', e3, e⟩ := ret_eq e
  cases e
  refine ⟨ρ, F, x, ρ', rep, e1, fun vx F1 H1 rep1 st1 rp1 => ?_⟩
  cases rp1 <;> simp only [b1D] at e3 <;> first | (cases e3; done) | skip
  · rename_i a vs ds h1 h2
    cases e3
    exact ⟨a, vs, rfl, .inl (rep1.exL h1), fun p hp => q p _ F1 _ (rep1.layOff hp) (st1.trans (StpE.layOff hp)) (st1.alive p hp) (fresh_back rep1.ex hp) upd_same h2⟩
  · rename_i a vs ds h1 h2
    cases e3
    exact ⟨a, vs, rfl, .inr (rep1.exT h1), fun p hp => q p _ F1 _ (rep1.layOff hp) (st1.trans (StpE.layOff hp)) (st1.alive p hp) (fresh_back rep1.ex hp) upd_same h2⟩
end
end Wh

set_option Elab.async false
set_option linter.all false
set_option maxRecDepth 100000
set_option maxHeartbeats 1000000
set_option exponentiation.threshold 5000
/-! Wh7e: x[::-1] of tuples and lists. -/
namespace Wh
open PySem PySem.Spec PyProof.Rows L2 Evl HT
variable [Tbl]
section
variable {prog : Program} {w : World} {A : Around} {E : Value → Shared → Prop} {s : Shared}
theorem rev_pick (xs : Array Value) : ((List.range xs.size).filterMap fun (k : Nat) => xs[((xs.size : Int) - 1 + (k : Int) * (-1)).toNat]?).toArray = xs.toList.reverse.toArray := by
  have e : (fun (k : Nat) => xs[((xs.size : Int) - 1 + (k : Int) * (-1)).toNat]?) = fun k => (fun j => xs[j]?) ((fun k => xs.size - 1 - k) k) := by
    funext k
    have : ((xs.size : Int) - 1 + (k : Int) * (-1)).toNat = xs.size - 1 - k := by omega
    rw [this]
  rw [e]
  have e2 : (List.range xs.size).filterMap (fun k => (fun j => xs[j]?) ((fun k => xs.size - 1 - k) k)) = ((List.range xs.size).map fun k => xs.size - 1 - k).filterMap (fun j => xs[j]?) := by
    rw [List.filterMap_map]; rfl
  rw [e2, PySem.W.krv_range, List.filterMap_reverse, PySem.W.krv_all]
theorem sliceApplied_rev {sl : Addr} {vl vu vs : Value} {n : Nat} {Q : Int × Int × Nat → Shared → Prop} (hs : s.heap.IsSliceOf sl vl vu vs) (pl : IsPart vl none) (pu : IsPart vu none) (ps : IsPart vs (some (-1)))
    (h : Q ((n : Int) - 1, -1, n) s) : wpAny (model prog w) A (Builtin.Slice.sliceApplied (.ref sl) (pure (n : Int))) Q E s := by
  obtain ⟨os, hos, hcs, hds⟩ := id hs
  unfold Builtin.Slice.sliceApplied Builtin.Slice.sliceFields
  refine wpAny_bind (wpAny_bind (wpAny_field hos hds (x := vl) rfl (wpAny_bind (wpAny_field hos hds (x := vu) rfl (wpAny_bind (wpAny_field hos hds (x := vs) rfl (wpAny_pure ?_)))))))
  refine wpAny_bind (slicePart_ ps ?_)
  show wpAny _ _ (if ((-1 : Int) == 0) = true then _ else _) _ _ s
  rw [if_neg (by decide)]
  refine wpAny_bind (slicePart_ pl (wpAny_bind (slicePart_ pu (wpAny_bind (wpAny_pure ?_)))))
  have e : Builtin.Slice.sliceAdjust none none (-1) (n : Int) = ((n : Int) - 1, -1) := rfl
  have e2 : Builtin.Slice.slicePlaces ((n : Int) - 1) (-1) (-1) = n := by
    unfold Builtin.Slice.slicePlaces
    rw [if_neg (by decide)]
    by_cases h : (n : Int) - 1 > -1
    · rw [if_pos h, show (- -1 : Int) = 1 by decide, Int.ediv_one]
      omega
    · rw [if_neg h]
      omega
  show wpAny _ _ (match Builtin.Slice.sliceAdjust none none (-1) (n : Int) with | (lo, hi) => pure (lo, (-1 : Int), Builtin.Slice.slicePlaces lo hi (-1))) _ _ s
  rw [e]
  show wpAny _ _ (pure ((n : Int) - 1, (-1 : Int), Builtin.Slice.slicePlaces ((n : Int) - 1) (-1) (-1))) _ _ s
  rw [e2]
  exact wpAny_pure h
theorem getItem_tuple_rev {t sl : Addr} {items : Array Value} {vl vu vs : Value} {Q : Value → Shared → Prop} (ht : IsTup s.heap t items) (hs : s.heap.IsSliceOf sl vl vu vs) (pl : IsPart vl none) (pu : IsPart vu none) (ps : IsPart vs (some (-1)))
    (h : Q (.ref s.heap.objs.size) { s with heap := s.heap.push { cls := .type "tuple", data := .seq items.toList.reverse.toArray } })
    (hsz : items.size ≤ sizeLine) : wpAny (model prog w) A (getItem (.ref t) (.ref sl)) Q E s := by
  have htake : sizeOk (.seq items.toList.reverse.toArray) := by
    show items.toList.reverse.toArray.size ≤ sizeLine
    rw [List.size_toArray, List.length_reverse, Array.length_toList]
    omega
  obtain ⟨os, hos, hcs, hds⟩ := id hs
  have hTs : s.TypeIs (.ref sl) "slice" := ⟨os, hos, hcs⟩
  unfold getItem
  try with_reducible refine wpAny_holding ?_
  first | refine wpAny_bind (wpAny_pure ?_) | skip
  refine wpAny_bind (wpAny_sequenceKey ht.typeIs (by decide) ?_)
  refine wpAny_bind (wpAny_callSpecial?_slot (name := Str.ofString "__getitem__") ht.typeIs PyProof.Rows.slot_tuple_getitem
    (wpAny_call_entry PyProof.Rows.slot_tuple_getitem ht.typeIs entry_tuple_getitem ?_ (args_tuple_getitem _ _)))
  show wpAny _ _ (Builtin.Tuple.tupleItemsOf (.ref t) >>= _) _ _ s
  refine wpAny_bind (tupleItemsOf_ ht ?_)
  refine wpAny_bind (wpAny_typeOf hTs ?_)
  rw [if_pos (by decide)]
  refine wpAny_bind (sliceApplied_rev hs pl pu ps ?_)
  show wpAny _ _ (if (((items.size : Int) - 1) == 0 && (-1 : Int) == 1 && items.size == items.size) = true then _ else _) _ _ s
  rw [if_neg (by simp), rev_pick]
  first
    | exact wpAny_bind (m := Builtin.Tuple.tupleExact _) (wpAny_newObj_type (wpAny_pure ⟨_, rfl, wpAny_pure h⟩) htake)
    | exact wpAny_bind (m := Builtin.Tuple.tupleExact _) (wpAny_newObj_type (wpAny_bind (wpAny_pure (wpAny_pure ⟨_, rfl, wpAny_pure h⟩))) htake)
end
section
variable {X : Cx} {c : Cfg} {pos : Pos} {a b : Expr} {fa fb : En → Option (PyData × En)}
def tRevT (K : PySem.W.Frag) (te : TE) : TE := fun σ H Q => te σ H fun x H1 => ∃ a xs, x = .ref a ∧ SqT K H1 a xs ∧ ∀ p, H1 p = none → Q (.ref p) (upd H1 p (.tup xs.reverse))
theorem pe_revT {e : Expr} {te : TE} {k : Nat} {p1 p2 p3 pos : Pos} (he : PE X e te) : PE X (.Subscript e (.Slice none none (some (.UnaryOp .USub (.Constant (.int 1) k p1) p2)) p3) pos) (tRevT X.K te) := by
  refine ⟨fun pins s σ H Q I h => ?_⟩
  refine Subscript_ (thn (he.run pins s σ H _ I h) fun v s1 ⟨x, H1, I1, r1, q1⟩ => ?_)
  obtain ⟨a, xs, ex, hx, q⟩ := q1
  subst ex
  cases r1
  have hst : PO X (some (.UnaryOp .USub (.Constant (.int 1) k p1) p2)) (tPart (tUn (rU fun i => .int (-i)) (tC (.int 1)))) := po_some (pe_un un_neg pe_int)
  refine wpAny_Slice (thn (po_none.run pins s1 σ H1 (fun o H2 => o = none ∧ H2 = H1) I1 ⟨rfl, rfl⟩) fun vl s2 ⟨l, H2, I2, pl, el, e2⟩ => ?_)
  subst el e2
  refine thn (po_none.run pins s2 σ H2 (fun o H3 => o = none ∧ H3 = H2) I2 ⟨rfl, rfl⟩) fun vu s3 ⟨u, H3, I3, pu, eu, e3⟩ => ?_
  subst eu e3
  refine thn (hst.run pins s3 σ H3 (fun o H4 => o = some (-1) ∧ H4 = H3) I3 ⟨1, rfl, -1, rfl, rfl, rfl⟩) fun vs s4 ⟨o, H4, I4, ps, eo, e4⟩ => ?_
  subst eo e4
  have I5 : Inv X pins σ H4 { s4 with heap := s4.heap.push { cls := .type "slice", data := .fields #[vl, vu, vs] } } := I4.kept (t' := s4.toks) fun b ob q => Heap.get?_push_of_some _ q
  obtain ⟨its, r, ht, hz⟩ := I5.tuple hx
  have hlen := r.length
  show wpAny (model X.prog X.w) X.A (subscriptTail e (.Slice none none (some (.UnaryOp .USub (.Constant (.int 1) k p1) p2)) p3) (.ref a) (.ref s4.heap.objs.size)) (EP X pins σ Q) X.xe { s4 with heap := s4.heap.push { cls := .type "slice", data := .fields #[vl, vu, vs] } }
  refine tail_any (ops := [.ref a, .ref s4.heap.objs.size]) ht.typeIs (PyProof.Rows.slot_tuple_getitem.lookup) ?_ (by with_unfolding_all rfl)
  refine getItem_tuple_rev ht (Heap.IsSliceOf.new _ vl vu vs) pl pu ps ?_ (by rw [List.size_toArray]; omega)
  refine ⟨.ref _, _, I5.laid (t' := s4.toks) (o := .tup xs.reverse) (fun b ob q => Heap.get?_push_of_some _ q) (Nat.le_refl _) ?_, rfl, q _ (I5.hok.fresh (Nat.le_refl _))⟩
  exact ⟨by rw [List.length_reverse]; exact hz, _, r.reverse, IsTup.new _ _⟩
theorem RpA.reverse {K : PySem.W.Frag} {F : Hp} : ∀ {vs : List V} {ds : List PyData}, RpA K F vs ds → RpA K F vs.reverse ds.reverse
  | _, _, .nil => .nil
  | _, _, .cons h t => by
    rw [List.reverse_cons, List.reverse_cons]
    exact (RpA.reverse t).append (RpA.one h)
theorem e_rev {k : Nat} {p1 p2 p3 : Pos} (ha : PE X a (tE X.K fa)) : PE X (.Subscript a (.Slice none none (some (.UnaryOp .USub (.Constant (.int 1) k p1) p2)) p3) pos) (tE X.K fun ρ => bnd (fa ρ) fun x ρ => ret (revD x) ρ) := by
  have h1 := pe_revL (k := k) (p1 := p1) (p2 := p2) (p3 := p3) (pos := pos) ha
  have h2 := pe_revT (k := k) (p1 := p1) (p2 := p2) (p3 := p3) (pos := pos) ha
  refine ⟨fun pins s σ H Q I h => ?_⟩
  obtain ⟨ρ, F, z, ρ', rep, e, q⟩ := h
  obtain ⟨x, ρ1, e1, e⟩ := bnd_eq e
  obtain ⟨z', e3, e⟩ := ret_eq e
  cases e
  cases x <;> simp only [revD] at e3 <;> first | (cases e3; done) | skip
  · cases e3
    refine h1.run pins s σ H Q I ⟨ρ, F, _, ρ', rep, e1, fun vx F1 H1 rep1 st1 rp1 => ?_⟩
    cases rp1
    rename_i a vs h2 h3
    exact ⟨a, vs, rfl, rep1.exL h2, fun p hp => layL rep1 (fun v F2 H2 rep2 st2 rp2 => q v F2 H2 rep2 (st1.trans st2) rp2) hp h3.reverse⟩
  · cases e3
    refine h2.run pins s σ H Q I ⟨ρ, F, _, ρ', rep, e1, fun vx F1 H1 rep1 st1 rp1 => ?_⟩
    cases rp1
    rename_i a vs h2 h3
    exact ⟨a, vs, rfl, rep1.exT h2, fun p hp => layT rep1 (fun v F2 H2 rep2 st2 rp2 => q v F2 H2 rep2 (st1.trans st2) rp2) hp h3.reverse⟩
end
end Wh

set_option Elab.async false
set_option linter.all false
set_option maxRecDepth 100000
set_option maxHeartbeats 2000000
/-! Wh7s: zip(a, b, strict=True) of sequences of one length. -/
namespace Wh
open PySem PySem.Spec PyProof.Rows L2 Evl
abbrev IsZs (h : Heap) (zz ti to : Addr) (f : Value) : Prop :=
  h.get? zz = some { cls := .type "zip", dict := none, slots := #[], data := .fields #[f, .bool false, .bool true, .ref ti, .ref to] }
section
variable {prog : Program} {w : World} {A : Around} {E : Value → Shared → Prop} {s : Shared}
theorem nx_item {it : Addr} {fp : List Addr} {n i : Nat} {P : Nat → Value → Prop} {St : Nat → Heap → Prop} (D : Draws prog w A it fp n P St) {Q : Option Value → Shared → Prop} (hi : i < n) (st : St i s.heap)
    (h : ∀ x h' tk, P i x → St (i + 1) h' → Heap.SameBut it s.heap h' → Q (some x) { s with heap := h', toks := tk }) : wpAny (model prog w) A (Builtin.SmallTypes.nextOrEnd (.ref it)) Q E s := by
  unfold Builtin.SmallTypes.nextOrEnd
  exact wpAny_bind (wpAny_attempt (D.item i s _ _ hi st fun x h' tk a b c => wpAny_pure (h x h' tk a b c)))
theorem nx_done {it : Addr} {fp : List Addr} {n : Nat} {P : Nat → Value → Prop} {St : Nat → Heap → Prop} (D : Draws prog w A it fp n P St) {Q : Option Value → Shared → Prop} (st : St n s.heap)
    (h : ∀ h', Heap.ExtBut it s.heap h' → Q none { s with heap := h' }) : wpAny (model prog w) A (Builtin.SmallTypes.nextOrEnd (.ref it)) Q E s := by
  unfold Builtin.SmallTypes.nextOrEnd
  refine wpAny_bind (wpAny_attempt (D.done s _ _ st fun h' e a b => ?_))
  obtain ⟨o, ho, hc⟩ := b
  exact wpAny_bind (wpAny_isInstance (T := "StopIteration") (b := true) ⟨o, ho, hc⟩ isSubtype_stop (wpAny_pure (h h' a)))
variable {z TI TO i1 i2 : Addr} {fp1 fp2 : List Addr} {n i : Nat} {P1 P2 : Nat → Value → Prop} {St1 St2 : Nat → Heap → Prop} {a1 a2 : Value}
theorem zs_item {Q : Value → Shared → Prop} (S : ZipSep2 z TI TO i1 i2 fp1 fp2) (D1 : Draws prog w A i1 fp1 n P1 St1) (D2 : Draws prog w A i2 fp2 n P2 St2)
    (kz : IsZs s.heap z TI TO .none) (kI : IsTupOf2 s.heap TI (.ref i1) (.ref i2)) (kO : IsTupOf2 s.heap TO a1 a2) (t1 : St1 i s.heap) (t2 : St2 i s.heap) (lt : i < n)
    (kQ : ∀ x1 x2 h' tk, P1 i x1 → P2 i x2 → IsZs h' z TI TO (rawInt s.heap.objs.size) → IsTupOf2 h' TO x1 x2 → St1 (i + 1) h' → St2 (i + 1) h' → IsTupOf2 h' s.heap.objs.size x1 x2 → h'.objs.size = s.heap.objs.size + 1 →
      (∀ c o, c ≠ z → c ≠ TO → c ≠ i1 → c ≠ i2 → s.heap.get? c = some o → h'.get? c = some o) → Q (.ref s.heap.objs.size) { s with heap := h', toks := tk }) :
    wpAny (model prog w) A (Builtin.«zip.__next__» ⟨[.ref z], []⟩) (fun fin s' => ∃ v, fin = .done (.ret v) ∧ Q v s') E s := by
  obtain ⟨H0, g, d, k0, os⟩ := s
  show wpAny _ _ (field (.ref z) 2 >>= _) _ _ ⟨H0, g, d, k0, os⟩
  refine wpAny_bind (wpAny_field kz rfl (x := .bool true) rfl ?_)
  show wpAny _ _ (field (.ref z) 3 >>= _) _ _ ⟨H0, g, d, k0, os⟩
  refine wpAny_bind (wpAny_field kz rfl (x := .ref TI) rfl ?_)
  refine wpAny_bind (wpAny_seqItems kI rfl ?_)
  show wpAny _ _ (Builtin.SmallTypes.ownedTupleIsFree (.ref z) >>= _) _ _ ⟨H0, g, d, k0, os⟩
  refine wpAny_bind (by
    rw [Builtin.SmallTypes.ownedTupleIsFree]
    refine wpAny_bind (wpAny_field kz rfl (x := .none) rfl (wpAny_pure ?_))
    simp only [if_true]
    refine (wpAny_bind (wpAny_rule ?_))
    refine wpAny_bind (wpAny_field kz rfl (x := .ref TO) rfl ?_)
    refine wpAny_bind (wpAny_setField_rec kz (by simp) fun G0 z0 q0 => ?_)
    replace z0 : IsZs G0 z TI TO .ellipsis := z0
    replace q0 : Heap.SameBut z H0 G0 := q0
    refine wpAny_bind ?_
    simp only [List.forIn_cons, List.forIn_nil, List.zipIdx_cons, List.zipIdx_nil]
    refine (wpAny_bind (wpAny_bind (wpAny_onRaise ?_)))
    show wpAny _ _ (Builtin.SmallTypes.nextOrEnd (.ref i1)) _ _ ⟨G0, g, d, k0, os⟩
    refine nx_item (s := ⟨G0, g, d, k0, os⟩) D1 lt (D1.over t1 q0 S.zf1) fun x1 G1 k1 y1 u1 q1 => ?_
    replace q1 : Heap.SameBut i1 G0 G1 := q1
    have o1 : IsTupOf2 G1 TO a1 a2 := q1.extBut _ _ S.Ti1 (q0.extBut _ _ S.TOz kO)
    refine wpAny_bind (wpAny_seqItems (s := ⟨G1, g, d, k1, os⟩) o1 rfl ?_)
    refine wpAny_bind (updateSeq_IsTupOf2 (s := ⟨G1, g, d, k1, os⟩) o1 fun G2 o2 q2 => ?_)
    replace o2 : IsTupOf2 G2 TO x1 a2 := o2
    replace q2 : Heap.SameBut TO G1 G2 := q2
    refine (wpAny_bind (wpAny_letGo (wpAny_pure ?_)))
    refine (wpAny_bind (wpAny_bind (wpAny_onRaise ?_)))
    show wpAny _ _ (Builtin.SmallTypes.nextOrEnd (.ref i2)) _ _ ⟨G2, g, d, k1, os⟩
    refine nx_item (s := ⟨G2, g, d, k1, os⟩) D2 lt (D2.over (D2.over (D2.over t2 q0 S.zf2) q1 S.sep1_2) q2 S.Tf2) fun x2 G3 k2 y2 u2 q3 => ?_
    replace q3 : Heap.SameBut i2 G2 G3 := q3
    have o3 : IsTupOf2 G3 TO x1 a2 := q3.extBut _ _ S.Ti2 o2
    refine wpAny_bind (wpAny_seqItems (s := ⟨G3, g, d, k2, os⟩) o3 rfl ?_)
    refine wpAny_bind (updateSeq_IsTupOf2 (s := ⟨G3, g, d, k2, os⟩) o3 fun G4 o4 q4 => ?_)
    replace o4 : IsTupOf2 G4 TO x1 x2 := o4
    replace q4 : Heap.SameBut TO G3 G4 := q4
    refine (wpAny_bind (wpAny_letGo (wpAny_pure (wpAny_pure ?_))))
    refine wpAny_bind (wpAny_seqItems (s := ⟨G4, g, d, k2, os⟩) o4 rfl ?_)
    refine (wpAny_bind (wpAny_newTuple ?_))
    have sz : G4.objs.size = H0.objs.size := by rw [q4.1, q3.1, q2.1, q1.1, q0.1]
    have z4 : IsZs G4 z TI TO .ellipsis := q4.extBut _ _ S.TOz.symm (q3.extBut _ _ S.zi2 (q2.extBut _ _ S.TOz.symm (q1.extBut _ _ S.zi1 z0)))
    have kk : ∀ c o, c ≠ z → c ≠ TO → c ≠ i1 → c ≠ i2 → H0.get? c = some o → G4.get? c = some o := fun c o n1 n2 n3 n4 e =>
      q4.extBut _ _ n2 (q3.extBut _ _ n4 (q2.extBut _ _ n2 (q1.extBut _ _ n3 (q0.extBut _ _ n1 e))))
    have w1 : St1 (i + 1) G4 := D1.over (D1.over (D1.over u1 q2 S.Tf1) q3 S.sep2_1) q4 S.Tf1
    have w2 : St2 (i + 1) G4 := D2.over u2 q4 S.Tf2
    have zl : z < G4.objs.size := Heap.lt_size z4
    show wpAny _ _ (Builtin.SmallTypes.ownedTupleHandOut (.ref z) (.ref G4.objs.size) >>= _) _ _ ⟨G4.push { cls := .type "tuple", data := .seq #[x1, x2] }, g, d, k2, os⟩
    refine wpAny_bind ?_
    rw [Builtin.SmallTypes.ownedTupleHandOut]
    have z5 : IsZs (G4.push { cls := .type "tuple", data := .seq #[x1, x2] }) z TI TO .ellipsis := Heap.get?_push_of_some _ z4
    refine wpAny_bind (wpAny_setField_rec z5 (by simp) fun G6 z6 q6 => ?_)
    replace z6 : IsZs G6 z TI TO (rawInt G4.objs.size) := z6
    refine wpAny_setField_rec z6 (by simp) fun G7 z7 q7 => ?_
    replace z7 : IsZs G7 z TI TO (rawInt G4.objs.size) := z7
    replace q6 : Heap.SameBut z (G4.push { cls := .type "tuple", data := .seq #[x1, x2] }) G6 := q6
    replace q7 : Heap.SameBut z G6 G7 := q7
    have up : ∀ c o, c ≠ z → G4.get? c = some o → G7.get? c = some o := fun c o n1 e => q7.extBut _ _ n1 (q6.extBut _ _ n1 (Heap.get?_push_of_some _ e))
    have o7 : IsTupOf2 G7 G4.objs.size x1 x2 := q7.extBut _ _ (Nat.ne_of_gt zl) (q6.extBut _ _ (Nat.ne_of_gt zl) (Heap.get?_push_size _ rfl))
    have s7 : G7.objs.size = G4.objs.size + 1 := by rw [q7.1, q6.1, Heap.size_push]
    rw [sz] at z7 o7 s7
    refine wpAny_pure ⟨_, rfl, ?_⟩
    show Q (.ref G4.objs.size) ⟨G7, g, d, k2, os⟩
    rw [sz]
    exact kQ x1 x2 G7 k2 y1 y2 z7 (up _ _ S.TOz o4) (D1.frame _ _ _ w1 fun b hb o e => up b o (fun q => S.zf1 (q ▸ hb)) e) (D2.frame _ _ _ w2 fun b hb o e => up b o (fun q => S.zf2 (q ▸ hb)) e) o7 s7 fun c o n1 n2 n3 n4 e => up c o n1 (kk c o n1 n2 n3 n4 e))
theorem zs_end {Q : Fin → Shared → Prop} (S : ZipSep2 z TI TO i1 i2 fp1 fp2) (D1 : Draws prog w A i1 fp1 n P1 St1) (D2 : Draws prog w A i2 fp2 n P2 St2) (hd : A.handled = none)
    (kz : IsZs s.heap z TI TO .none) (kI : IsTupOf2 s.heap TI (.ref i1) (.ref i2)) (kO : IsTupOf2 s.heap TO a1 a2) (t1 : St1 n s.heap) (t2 : St2 n s.heap)
    (kE : ∀ h' tk e, (∀ c o, c ≠ z → c ≠ TO → c ≠ i1 → c ≠ i2 → s.heap.get? c = some o → h'.get? c = some o) → (∃ o, h'.get? e = some o ∧ o.cls = .type "StopIteration") → E (.ref e) { s with heap := h', toks := tk }) :
    wpAny (model prog w) A (Builtin.«zip.__next__» ⟨[.ref z], []⟩) Q E s := by
  obtain ⟨H0, g, d, k0, os⟩ := s
  show wpAny _ _ (field (.ref z) 2 >>= _) _ _ ⟨H0, g, d, k0, os⟩
  refine wpAny_bind (wpAny_field kz rfl (x := .bool true) rfl ?_)
  show wpAny _ _ (field (.ref z) 3 >>= _) _ _ ⟨H0, g, d, k0, os⟩
  refine wpAny_bind (wpAny_field kz rfl (x := .ref TI) rfl ?_)
  refine wpAny_bind (wpAny_seqItems kI rfl ?_)
  show wpAny _ _ (Builtin.SmallTypes.ownedTupleIsFree (.ref z) >>= _) _ _ ⟨H0, g, d, k0, os⟩
  refine wpAny_bind (by
    rw [Builtin.SmallTypes.ownedTupleIsFree]
    refine wpAny_bind (wpAny_field kz rfl (x := .none) rfl (wpAny_pure ?_))
    simp only [if_true]
    refine (wpAny_bind (wpAny_rule ?_))
    refine wpAny_bind (wpAny_field kz rfl (x := .ref TO) rfl ?_)
    refine wpAny_bind (wpAny_setField_rec kz (by simp) fun G0 z0 q0 => ?_)
    replace z0 : IsZs G0 z TI TO .ellipsis := z0
    replace q0 : Heap.SameBut z H0 G0 := q0
    refine wpAny_bind ?_
    simp only [List.forIn_cons, List.forIn_nil, List.zipIdx_cons, List.zipIdx_nil]
    refine (wpAny_bind (wpAny_bind (wpAny_onRaise ?_)))
    show wpAny _ _ (Builtin.SmallTypes.nextOrEnd (.ref i1)) _ _ ⟨G0, g, d, k0, os⟩
    refine nx_done (s := ⟨G0, g, d, k0, os⟩) D1 (D1.over t1 q0 S.zf1) fun G1 q1 => ?_
    replace q1 : Heap.ExtBut i1 G0 G1 := q1
    have z1 : IsZs G1 z TI TO .ellipsis := q1 _ _ S.zi1 z0
    show wpAny _ _ (setField (.ref z) 0 .none >>= _) _ _ ⟨G1, g, d, k0, os⟩
    refine wpAny_bind (wpAny_setField_rec (s := ⟨G1, g, d, k0, os⟩) z1 (by simp) fun G2 z2 q2 => ?_)
    replace q2 : Heap.SameBut z G1 G2 := q2
    refine wpAny_bind ?_
    have u2 : St2 n G2 := D2.over (D2.frame _ _ _ (D2.over t2 q0 S.zf2) fun b hb o e => q1 b o (fun x => S.sep1_2 (x ▸ hb)) e) q2 S.zf2
    refine wpAny_bind ?_
    show wpAny _ _ (forIn [((.ref i2 : Value), 1)] PUnit.unit _) _ _ ⟨G2, g, d, k0, os⟩
    rw [List.forIn_cons]
    refine wpAny_bind (wpAny_bind ?_)
    refine nx_done (s := ⟨G2, g, d, k0, os⟩) D2 u2 fun G3 q3 => ?_
    replace q3 : Heap.ExtBut i2 G2 G3 := q3
    refine wpAny_pure (wpAny_pure ?_)
    refine (wpAny_bind (wpAny_rule ?_))
    show wpAny _ _ (newExc (.type "StopIteration") [] >>= _) _ _ ⟨G3, g, d, k0, os⟩
    have far : ∀ c o, c ≠ z → c ≠ i1 → c ≠ i2 → H0.get? c = some o → G3.get? c = some o := fun c o n1 n2 n3 e => q3 _ _ n3 (q2.extBut _ _ n1 (q1 _ _ n2 (q0.extBut _ _ n1 e)))
    refine wpAny_bind ?_
    simp only [newExc, newTuple]
    refine wpAny_bind (wpAny_newObj_type (wpAny_bind (m := firstArgMember _ _) (wpAny_of_eq (a := Value.none) (by first | rfl | (simp only [firstArgMember]; rfl)) (wpAny_newObj_type ?_ (by size_fits)))) (by size_fits))
    rw [raiseNew]
    refine (wpAny_bind (wpAny_handled ?_))
    rw [hd]
    refine (wpAny_bind (wpAny_pure (wpAny_throw ?_)))
    exact kE _ _ _ (fun c o n1 _ n3 n4 e => Heap.get?_push_of_some _ (Heap.get?_push_of_some _ (far c o n1 n3 n4 e))) ⟨_, Heap.get?_push_size _ rfl, rfl⟩)
theorem zs_go {elts : List Expr} {kk : Nat} {pos : Pos} {T : Addr} {Q : Unit → Shared → Prop} (kz : IsZs s.heap z TI TO (rawInt T)) (kQ : ∀ h', IsZs h' z TI TO .none → Heap.SameBut z s.heap h' → Q () { s with heap := h' }) :
    wpAny (model prog w) A (letOwnedTupleGo (.Tuple elts kk pos) (.ref z) (.ref T)) Q E s := by
  rw [letOwnedTupleGo]
  refine (wpAny_bind (wpAny_load kz ?_))
  show wpAny _ _ (if (["enumerate", "zip", "dict_itemiterator", "dict_reverseitemiterator", "odict_iterator", "itertools.zip_longest", "itertools.pairwise"].contains "zip" && (#[rawInt T, .bool false, .bool true, .ref TI, .ref TO] : Array Value)[0]? == some (rawInt T)) = true then _ else _) Q E s
  rw [if_pos (by simp)]
  refine (wpAny_bind (wpAny_rule ?_))
  show wpAny _ _ (setField (.ref z) 0 .none) _ _ s
  exact wpAny_setField_rec kz (by simp) fun h' a b => kQ h' a b
theorem zs_iter {f0 : Value} {Q : Value → Shared → Prop} (kz : IsZs s.heap z TI TO f0) (h : Q (.ref z) s) : wpAny (model prog w) A (pyIter (.ref z)) Q E s := by
  have ht : s.TypeIs (.ref z) "zip" := ⟨_, kz, rfl⟩
  refine wpAny_pyIter_slot ht F.slot_zip_iter (wpAny_call_entry F.slot_zip_iter ht F.entry_zip_iter ?_ (F.args_zip_iter_1 _))
  exact wpAny_pure ⟨_, rfl, "zip", _, ht, F.slot_zip_next.lookup, h⟩
theorem zs_walks (S : ZipSep2 z TI TO i1 i2 fp1 fp2) (D1 : Draws prog w A.in1 i1 fp1 n P1 St1) (D2 : Draws prog w A.in1 i2 fp2 n P2 St2) (hd : A.in1.handled = none) :
    WalksT prog w A z (z :: TI :: TO :: (fp1 ++ fp2)) [z, TO, i1, i2] n (fun i vals => ∃ x1 x2, P1 i x1 ∧ P2 i x2 ∧ vals = #[x1, x2])
      (fun i h => IsZs h z TI TO .none ∧ IsTupOf2 h TI (.ref i1) (.ref i2) ∧ (∃ a1 a2, IsTupOf2 h TO a1 a2) ∧ St1 i h ∧ St2 i h)
      (fun i T h => IsZs h z TI TO (rawInt T) ∧ IsTupOf2 h TI (.ref i1) (.ref i2) ∧ (∃ a1 a2, IsTupOf2 h TO a1 a2) ∧ St1 (i + 1) h ∧ St2 (i + 1) h ∧ T ≠ z ∧ T ≠ TO ∧ T ≠ i1 ∧ T ≠ i2) where
  sub := fun c hc => by
    rcases (by simpa using hc : c = z ∨ c = TO ∨ c = i1 ∨ c = i2) with rfl | rfl | rfl | rfl
    · simp
    · simp
    · simp [S.mem1]
    · simp [S.mem2]
  frame := fun i h h' st kp => by
    obtain ⟨b1, b2, ⟨u, v, b3⟩, b4, b5⟩ := st
    exact ⟨kp z (by simp) _ b1, kp TI (by simp) _ b2, ⟨u, v, kp TO (by simp) _ b3⟩, D1.frame _ _ _ b4 fun b hb o e => kp b (by simp [hb]) o e, D2.frame _ _ _ b5 fun b hb o e => kp b (by simp [hb]) o e⟩
  item := fun i s Q E hi st kQ => by
    obtain ⟨b1, b2, ⟨u, v, b3⟩, b4, b5⟩ := st
    have ht : s.TypeIs (.ref z) "zip" := ⟨_, b1, rfl⟩
    rw [pyNext]
    refine wpAny_bind (wpAny_attempt (wpAny_callSpecial?_slot (name := Str.ofString "__next__") ht F.slot_zip_next (wpAny_call_entry F.slot_zip_next ht F.entry_zip_next (zs_item S D1 D2 b1 b2 b3 b4 b5 hi fun x1 x2 h' tk y1 y2 c1 c2 c3 c4 c5 c6 c7 => wpAny_pure ?_) (F.args_zip_next_1 _))))
    have ne : ∀ {c o}, s.heap.get? c = some o → s.heap.objs.size ≠ c := fun e => Nat.ne_of_gt (Heap.lt_size e)
    obtain ⟨_, l1⟩ := D1.live _ _ b4
    obtain ⟨_, l2⟩ := D2.live _ _ b5
    exact kQ _ _ h' tk ⟨x1, x2, y1, y2, rfl⟩ (Nat.le_refl _) ⟨_, c5, rfl, _, rfl⟩ ⟨c1, c7 _ _ S.TIz S.TITO S.TIi1 S.TIi2 b2, ⟨_, _, c2⟩, c3, c4, ne b1, ne b3, ne l1, ne l2⟩
      fun c o hc e => c7 c o (fun q => hc (by simp [q])) (fun q => hc (by simp [q])) (fun q => hc (by simp [q])) (fun q => hc (by simp [q])) e
  go := fun elts k pos i T s Q E hm kQ => by
    obtain ⟨b1, b2, ⟨u, v, b3⟩, b4, b5, _⟩ := hm
    exact zs_go b1 fun h' c1 c2 => kQ h' ⟨c1, c2.extBut _ _ S.TIz b2, ⟨u, v, c2.extBut _ _ S.TOz b3⟩, D1.over b4 c2 S.zf1, D2.over b5 c2 S.zf2⟩ fun c o hc e => c2.extBut _ _ (fun q => hc (by simp [q])) e
  apart := fun i T h hm hT => by
    obtain ⟨_, _, _, _, _, n1, n2, n3, n4⟩ := hm
    rcases (by simpa using hT : T = z ∨ T = TO ∨ T = i1 ∨ T = i2) with e | e | e | e
    · exact n1 e
    · exact n2 e
    · exact n3 e
    · exact n4 e
  done := fun s Q E st kQ => by
    obtain ⟨b1, b2, ⟨u, v, b3⟩, b4, b5⟩ := st
    have ht : s.TypeIs (.ref z) "zip" := ⟨_, b1, rfl⟩
    rw [pyNext]
    refine wpAny_bind (wpAny_attempt (wpAny_callSpecial?_slot (name := Str.ofString "__next__") ht F.slot_zip_next (wpAny_call_entry F.slot_zip_next ht F.entry_zip_next (zs_end S D1 D2 hd b1 b2 b3 b4 b5 fun h' tk e kp he => ?_) (F.args_zip_next_1 _))))
    obtain ⟨o, ho, hc⟩ := he
    exact wpAny_bind (wpAny_isInstance (T := "StopIteration") (b := true) ⟨o, ho, hc⟩ isSubtype_stop (wpAny_pure (kQ h' tk fun c o hc e => kp c o (fun q => hc (by simp [q])) (fun q => hc (by simp [q])) (fun q => hc (by simp [q])) (fun q => hc (by simp [q])) e)))
  self := fun i s Q E st kQ => zs_iter st.1 kQ
end
/-! it begins -/
def kwS : List (Str × Value) := [(Str.ofString "strict", .bool true)]
theorem zs_t (a b : Value) : checkTypeCall "zip" ⟨[a, b], kwS⟩ = pure () := by kernel_rfl
theorem zs_n (a b : Value) : checkBuiltinCall "zip.__new__" ⟨[.type "zip", a, b], kwS⟩ = pure () := by kernel_rfl
theorem zs_o (obj a b : Value) : argsOk "object.__init__" ⟨[obj, a, b], kwS⟩ := by unfold argsOk; kernel_rfl
abbrev zsH (h : Heap) (o1 o2 : Obj) : Heap := (gzO2 h o1 o2).push { cls := .type "zip", data := .fields #[.none, .bool false, .bool true, .ref ((h.push o1).push o2).objs.size, .ref (gzT2 h o1 o2).objs.size] }
theorem zs_meets {v1 v2 : Value} {o1 o2 : Obj} {H1 H2 : Heap → Prop} (B1 : Begins v1 o1 H1) (B2 : Begins v2 o2 H2) :
    Meets (Builtin.«zip.__new__» ⟨[.type "zip", v1, v2], kwS⟩) (fun _ R s => (H1 s.heap ∧ H2 s.heap) ∧ R (.ok (.ret (.ref (gzO2 s.heap o1 o2).objs.size))) { s with heap := zsH s.heap o1 o2 }) :=
  .of_wp fun prog w A R s h => by
    obtain ⟨hp, g, d, tk, os⟩ := s
    obtain ⟨⟨h1, h2⟩, h⟩ := h
    have hsub := sub_zip
    have q1 : ∀ {A' : Around} {E : Value → Shared → Prop} {Q : Value → Shared → Prop}, Q (.ref hp.objs.size) ⟨hp.push o1, g, d, tk, os⟩ → wpAny (model prog w) A' (pyIter v1) Q E ⟨hp, g, d, tk, os⟩ := fun q => B1.iter prog w _ _ ⟨hp, g, d, tk, os⟩ _ h1 q
    have q2 : ∀ {A' : Around} {E : Value → Shared → Prop} {Q : Value → Shared → Prop}, Q (.ref (hp.push o1).objs.size) ⟨(hp.push o1).push o2, g, d, tk, os⟩ → wpAny (model prog w) A' (pyIter v2) Q E ⟨hp.push o1, g, d, tk, os⟩ := fun q => B2.iter prog w _ _ ⟨hp.push o1, g, d, tk, os⟩ _ (B2.keeps _ _ h2 fun b o' e => Heap.get?_push_of_some _ e) q
    have e1 : (Str.ofString "strict" == ("strict" : Str)) = true := by decide +kernel
    have e2 : (Str.ofString "strict" != ("strict" : Str)) = false := by decide +kernel
    unfold kwS
    wp_walk using q1, q2
    exact ⟨_, rfl, h⟩
section
variable {prog : Program} {w : World} {A : Around} {E : Value → Shared → Prop} {s : Shared}
theorem zs_begins {v1 v2 : Value} {o1 o2 : Obj} {H1 H2 : Heap → Prop} {Q : Value → Shared → Prop} (B1 : Begins v1 o1 H1) (B2 : Begins v2 o2 H2) (h1 : H1 s.heap) (h2 : H2 s.heap)
    (h : ∀ h', IsZs h' (s.heap.objs.size + 4) (s.heap.objs.size + 2) (s.heap.objs.size + 3) .none → IsTupOf2 h' (s.heap.objs.size + 2) (.ref s.heap.objs.size) (.ref (s.heap.objs.size + 1)) → IsTupOf2 h' (s.heap.objs.size + 3) .none .none → h'.get? s.heap.objs.size = some o1 → h'.get? (s.heap.objs.size + 1) = some o2 →
      (∀ c o, s.heap.get? c = some o → h'.get? c = some o) → Q (.ref (s.heap.objs.size + 4)) { s with heap := h' }) : wpAny (model prog w) A (call (.type "zip") [v1, v2] kwS) Q E s := by
  refine callType_newKw F.called_zip (by decide) (zs_t _ _) (zs_n _ _) (fun obj => zs_o obj _ _) F.entry_zip_new (zs_meets B1 B2) ⟨⟨h1, h2⟩, ?_⟩
  have y1 : (s.heap.push o1).objs.size = s.heap.objs.size + 1 := Heap.size_push ..
  have y2 : ((s.heap.push o1).push o2).objs.size = s.heap.objs.size + 2 := by rw [Heap.size_push, y1]
  have yT : (gzT2 s.heap o1 o2).objs.size = s.heap.objs.size + 3 := by rw [Heap.size_push, y2]
  have yO : (gzO2 s.heap o1 o2).objs.size = s.heap.objs.size + 4 := by rw [Heap.size_push, yT]
  have aZ : (zsH s.heap o1 o2).get? (gzO2 s.heap o1 o2).objs.size = some { cls := .type "zip", data := .fields #[.none, .bool false, .bool true, .ref ((s.heap.push o1).push o2).objs.size, .ref (gzT2 s.heap o1 o2).objs.size] } := Heap.get?_push_size _ rfl
  have aO : (zsH s.heap o1 o2).get? (gzT2 s.heap o1 o2).objs.size = some { cls := .type "tuple", data := .seq #[.none, .none] } := Heap.get?_push_of_some _ (Heap.get?_push_size _ rfl)
  have aT : (zsH s.heap o1 o2).get? ((s.heap.push o1).push o2).objs.size = some { cls := .type "tuple", data := .seq #[.ref s.heap.objs.size, .ref (s.heap.push o1).objs.size] } := Heap.get?_push_of_some _ (Heap.get?_push_of_some _ (Heap.get?_push_size _ rfl))
  have a1 : (zsH s.heap o1 o2).get? s.heap.objs.size = some o1 := Heap.get?_push_of_some _ (Heap.get?_push_of_some _ (Heap.get?_push_of_some _ (Heap.get?_push_of_some _ (Heap.get?_push_size _ B1.free))))
  have a2 : (zsH s.heap o1 o2).get? (s.heap.push o1).objs.size = some o2 := Heap.get?_push_of_some _ (Heap.get?_push_of_some _ (Heap.get?_push_of_some _ (Heap.get?_push_size _ B2.free)))
  rw [yO, yT, y2] at aZ
  rw [yT] at aO
  rw [y2, y1] at aT
  rw [y1] at a2
  show _ ∧ _
  rw [yO]
  exact ⟨⟨_, aZ, rfl⟩, h _ aZ aT aO a1 a2 fun c o e => Heap.get?_push_of_some _ (Heap.get?_push_of_some _ (Heap.get?_push_of_some _ (Heap.get?_push_of_some _ (Heap.get?_push_of_some _ e))))⟩
end
section
variable {M : Model} {A : Around} {E : Value → Shared → Prop} {s : Shared} {env : Env}
/-- a class called with keywords -/
theorem cw_type {pos : Pos} {T : String} {e : Expr} {rest : List Expr} {kws : List Keyword} {Q : Value → Shared → Prop}
    (h : wpAny M A (spliced (backTo pos (starEach (e :: rest) env))) (fun vs s1 => wpAny M A (evalAll ((backToKw pos (keywordEach kws env)).map (·.2))) (fun ks s2 => wpAny M A (call (.type T) vs (((backToKw pos (keywordEach kws env)).filterMap (·.1)).zip ks)) Q E s2) E s1) E s)
    (he : backTo pos (starEach (e :: rest) env) = (false, eval e env) :: backTo pos (starEach rest env)) (hp : (backTo pos (starEach (e :: rest) env)).any (·.1) = false)
    (ha : (backToKw pos (keywordEach kws env)).all (·.1.isSome) = true) (hk : (backToKw pos (keywordEach kws env)).any (·.1.isNone) = false) :
    wpAny M A (callWith pos (.type T) [] (backTo pos (starEach (e :: rest) env)) (backToKw pos (keywordEach kws env))) Q E s := by
  have z : wpAny M A (evalArgs (.type T) true (backTo pos (starEach (e :: rest) env)) (backToKw pos (keywordEach kws env))) (fun a s1 => wpAny M A (call (.type T) ([] ++ a.pos) a.kw) Q E s1) E s := by
    rw [he] at h ⊢
    exact evalArgs_kwB ha h
  rw [callWith]
  refine wpAny_bind (wpAny_holding (wpAny_mono z (fun a s1 q1 => (wpAny_bind (wpAny_standAt ?_))) fun _ _ q => q))
  simp only [hp, hk, Bool.or_false]
  exact wpAny_bind (wpAny_pure (wpAny_bind (wpAny_mono q1 (fun r s2 hr => wpAny_bind (wpAny_holding (wpAny_point (wpAny_pure hr)))) fun _ _ q => q)))
end
/-! ### the rule -/
variable [Tbl]
def JZs (K : PySem.W.Frag) (k1 k2 : Sk) (a b : Addr) : It :=
  ⟨fun i H => ∃ (xs ys : List V) (x y : V), SqK K k1 H a xs ∧ SqK K k2 H b ys ∧ xs.length = ys.length ∧ xs[i]? = some x ∧ ys[i]? = some y,
   fun i H v H' => ∃ T x y, v = .ref T ∧ H T = none ∧ H' = upd H T (.tup [x, y]) ∧ (∀ xs, SqK K k1 H a xs → xs[i]? = some x) ∧ ∀ ys, SqK K k2 H b ys → ys[i]? = some y,
   fun i H => ∃ xs ys : List V, SqK K k1 H a xs ∧ SqK K k2 H b ys ∧ xs.length = i ∧ ys.length = i⟩
theorem turn_JZs {P : Program} {w : World} {K : PySem.W.Frag} {elts : List Expr} {kk : Nat} {tpos : Pos} {k1 k2 : Sk} {a b z TI TO i1 i2 : Addr} (S : Ap a b z TI TO i1 i2) :
    Turn P w K (.Tuple elts kk tpos) (JZs K k1 k2 a b) [z, TI, TO, i1, i2] z (fun i h => IsZs h z TI TO .none ∧ IsTupOf2 h TI (.ref i1) (.ref i2) ∧ (∃ u v, IsTupOf2 h TO u v) ∧ IsItK k1 h i1 a i ∧ IsItK k2 h i2 b i) where
  mem := by simp
  obj := fun i h st c hc => by
    obtain ⟨hz, hTI, ⟨u, v, hTO⟩, h1, h2⟩ := st
    rcases (by simpa using hc : c = z ∨ c = TI ∨ c = TO ∨ c = i1 ∨ c = i2) with q | q | q | q | q <;> rw [q]
    · exact ⟨_, hz, fun v q => nomatch q⟩
    · exact ⟨_, hTI, fun v q => nomatch q⟩
    · exact ⟨_, hTO, fun v q => nomatch q⟩
    · exact itK_obj h1
    · exact itK_obj h2
  keep := fun i h h' st q => by
    obtain ⟨hz, hTI, ⟨u, v, hTO⟩, h1, h2⟩ := st
    exact ⟨q z (by simp) _ hz, q TI (by simp) _ hTI, ⟨u, v, q TO (by simp) _ hTO⟩, itK_at h1 fun o e => q i1 (by simp) o e, itK_at h2 fun o e => q i2 (by simp) o e⟩
  item := by
    intro X hP hw hK hc i pins s σ H E I hf st hg
    subst hP hw hK
    obtain ⟨hz, hTI, hTO, hi1, hi2⟩ := st
    obtain ⟨xs, ys, x, y, hqx, hqy, hlen, hx, hy⟩ := hg
    obtain ⟨its, rv, p1⟩ := inv_sqK I hqx
    obtain ⟨its2, rv2, p2⟩ := inv_sqK I hqy
    obtain ⟨u, hu, ru⟩ := rv.get hx
    obtain ⟨u2, hu2, ru2⟩ := rv2.get hy
    have hhd : X.A.in1.handled = none := by simp [I.ok.hd hc]
    have same : its2.toArray.size = its.toArray.size := by
      have e1 := rv.length
      have e2 := rv2.length
      simp
      omega
    have dr2 := drawsK k2 (prog := X.prog) (w := X.w) hhd i2 b S.h2 its2.toArray
    rw [same] at dr2
    have G := (GoesN.ofWalksT (elts := elts) (k := kk) (pos := tpos) (zs_walks (prog := X.prog) (w := X.w) (A := X.A) S.sep (drawsK k1 hhd i1 a S.h1 its.toArray) dr2 hhd))
    have hi : i < its.toArray.size := by
      have := lt_of_get hu
      simp
      omega
    have live : ∀ c ∈ [z, TI, TO, i1, i2], ∃ o, s.heap.get? c = some o := fun c hc => by
      obtain ⟨u', v', hTO'⟩ := hTO
      rcases (by simpa using hc : c = z ∨ c = TI ∨ c = TO ∨ c = i1 ∨ c = i2) with q | q | q | q | q <;> rw [q]
      · exact ⟨_, hz⟩
      · exact ⟨_, hTI⟩
      · exact ⟨_, hTO'⟩
      · obtain ⟨o, e, _⟩ := itK_obj hi1; exact ⟨o, e⟩
      · obtain ⟨o, e, _⟩ := itK_obj hi2; exact ⟨o, e⟩
    have hwr : ∀ c, c ∉ [z, TI, TO, i1, i2] → c ∉ [z, TO, i1, i2] := fun c hc q => hc (by
      rcases (by simpa using q : c = z ∨ c = TO ∨ c = i1 ∨ c = i2) with e | e | e | e <;> simp [e])
    refine wpAny_mono (G.goes i s (fun v s2 => ∃ x' H', Inv X pins σ H' s2 ∧ RelV x' v ∧ (JZs X.K k1 k2 a b).yld i H x' H' ∧ (IsZs s2.heap z TI TO .none ∧ IsTupOf2 s2.heap TI (.ref i1) (.ref i2) ∧ (∃ u v, IsTupOf2 s2.heap TO u v) ∧ IsItK k1 s2.heap i1 a (i + 1) ∧ IsItK k2 s2.heap i2 b (i + 1)) ∧ ∀ c ∈ [z, TI, TO, i1, i2], H' c = none) E hi ⟨hz, hTI, hTO, ⟨hi1, p1⟩, hi2, p2⟩ fun v h' tk hY st' hk htk => ?_) (fun r s1 q => ?_) fun _ _ z => z
    · obtain ⟨T, vals, rfl, hT, ⟨y1, y2, hy1, hy2, rfl⟩, hTup⟩ := hY
      obtain ⟨g1, g2, g3, ⟨g4, _⟩, g5, _⟩ := st'
      have e1 : y1 = u := by
        have h1 : its.toArray[i]? = some u := by simpa using hu
        rw [h1] at hy1; cases hy1; rfl
      have e2 : y2 = u2 := by
        have h1 : its2.toArray[i]? = some u2 := by simpa using hu2
        rw [h1] at hy2; cases hy2; rfl
      subst e1 e2
      have new : ObjOk X.prog X.w (upd H T (.tup [x, y])) h' T (.tup [x, y]) := ⟨by show 2 ≤ sizeLine; decide, [y1, y2], .cons ru (.cons ru2 .nil), hTup⟩
      have I1 := I.turnedNew (t' := tk) (h' := h') (ch := [z, TI, TO, i1, i2]) (fun c o hc q => hk c o (hwr c hc) q) hf hT new
      refine ⟨.ref T, _, I1, rfl, ⟨T, x, y, rfl, I.hok.fresh hT, rfl, (fun zs h => by rw [inv_injK I h hqx]; exact hx), fun zs h => by rw [inv_injK I h hqy]; exact hy⟩, ⟨g1, g2, g3, g4, g5⟩, fun c hc => ?_⟩
      have hn : c ≠ T := fun e => by
        obtain ⟨o, ho⟩ := live c hc
        rw [e] at ho
        exact Nat.lt_irrefl _ (Nat.lt_of_lt_of_le (Heap.lt_size ho) hT)
      rw [upd_ne hn]
      exact (hf c hc).1
    · obtain ⟨v, rfl, q⟩ := q
      exact ⟨v, rfl, q⟩
  done := by
    intro X hP hw hK hc i pins s σ H E I hf st hg
    subst hP hw hK
    obtain ⟨hz, hTI, hTO, hi1, hi2⟩ := st
    obtain ⟨xs, ys, hqx, hqy, rfl, hlen⟩ := hg
    obtain ⟨its, rv, p1⟩ := inv_sqK I hqx
    obtain ⟨its2, rv2, p2⟩ := inv_sqK I hqy
    have hhd : X.A.in1.handled = none := by simp [I.ok.hd hc]
    have same : its2.toArray.size = its.toArray.size := by
      have e1 := rv.length
      have e2 := rv2.length
      simp
      omega
    have dr2 := drawsK k2 (prog := X.prog) (w := X.w) hhd i2 b S.h2 its2.toArray
    rw [same] at dr2
    have G := (GoesN.ofWalksT (elts := elts) (k := kk) (pos := tpos) (zs_walks (prog := X.prog) (w := X.w) (A := X.A) S.sep (drawsK k1 hhd i1 a S.h1 its.toArray) dr2 hhd))
    have hl : xs.length = its.toArray.size := by
      rw [rv.length]; simp
    rw [hl] at hi1 hi2
    refine wpAny_mono (G.stops s (fun s1 => Inv X pins σ H s1) E ⟨hz, hTI, hTO, ⟨hi1, p1⟩, hi2, p2⟩ fun h' tk hk htk => I.turnedL (t' := tk) (ch := [z, TI, TO, i1, i2]) (fun c o hc q => hk c o (fun q => hc (by
      rcases (by simpa using q : c = z ∨ c = TO ∨ c = i1 ∨ c = i2) with e | e | e | e <;> simp [e])) q) hf) (fun r s1 q => q) fun _ _ z => z
  self := fun A i s Q E st h => zs_iter st.1 h
def iZs (K : PySem.W.Frag) (ta : TA) : TI := fun σ H R => ta σ H fun vs H1 => ∃ k1 k2 a b xs ys, vs = [.ref a, .ref b] ∧ SqK K k1 H1 a xs ∧ SqK K k2 H1 b ys ∧ xs.length = ys.length ∧ R (JZs K k1 k2 a b) H1
theorem pi_zs {X : Cx} {e e2 : Expr} {ta : TA} {p pos tpos kp cp : Pos} {cj : Nat} {elts : List Expr} {kk : Nat} (hg : Gl X "zip") (hm : X.mg "zip" = none) (ha : PA X [e, e2] ta)
    (hs : starEach [e, e2] X.env = (false, eval e X.env) :: starEach [e2] X.env) (hpl : (backTo pos (starEach [e2] X.env)).any (·.1) = false) : PI X (.Tuple elts kk tpos) (.Call (.Name "zip" p) [e, e2] [⟨some "strict", .Constant (.bool true) cj cp, kp⟩] pos) (iZs X.K ta) := by
  refine ⟨fun pins s σ H R I h => ?_⟩
  have hb : backTo pos (starEach [e, e2] X.env) = (false, eval e X.env) :: backTo pos (starEach [e2] X.env) := by rw [hs]; rfl
  refine wpAny_Call_Name_kw (ld_blt I hg hm PyProof.Rows.boot_zip (cw_type (kws := [⟨some "strict", .Constant (.bool true) cj cp, kp⟩]) (thn (ha.run pos pins s σ H _ I h) fun us s1 ⟨vs, H1, I1, r1, q1⟩ => ?_) hb (by rw [hb]; show (false || _) = false; rw [hpl]; rfl) rfl rfl))
  refine kws_cons ?_
  obtain ⟨k1, k2, a, b, xs, ys, rfl, hqx, hqy, hlen, q⟩ := q1
  refine thn ((pe_bl (X := X) (b := true)).run pins s1 σ H1 (fun v H2 => v = .bl true ∧ H2 = H1) I1 ⟨rfl, rfl⟩) fun u s2 ⟨v, H2, I2, r2, ev, eH⟩ => ?_
  subst ev eH
  cases r2
  refine kws_nil ?_
  obtain ⟨u1, u2, rfl, ru1, ru2⟩ := vals2 r1
  cases ru1
  cases ru2
  obtain ⟨its, rv, p1⟩ := inv_sqK I2 hqx
  obtain ⟨its2, rv2, p2⟩ := inv_sqK I2 hqy
  have l1 := sqK_lt p1
  have l2 := sqK_lt p2
  show wpAny _ _ (call (.type "zip") [.ref a, .ref b] kwS) _ _ s2
  refine zs_begins (beginsK k1 a its.toArray) (beginsK k2 b its2.toArray) p1 p2 fun h' hz hTI hTO h1 h2 hk => zs_iter hz ?_
  have I3 : Inv X pins σ H2 { s2 with heap := h' } := I2.kept (t' := s2.toks) hk
  have S : Ap a b (s2.heap.objs.size + 4) (s2.heap.objs.size + 2) (s2.heap.objs.size + 3) s2.heap.objs.size (s2.heap.objs.size + 1) :=
    ⟨zip_sep2 (fun c hc => by rw [List.mem_singleton.mp hc]; exact l1) (fun c hc => by rw [List.mem_singleton.mp hc]; exact l2), Nat.ne_of_lt l1, Nat.ne_of_lt (Nat.lt_succ_of_lt l2)⟩
  refine ⟨s2.heap.objs.size + 4, [s2.heap.objs.size + 4, s2.heap.objs.size + 2, s2.heap.objs.size + 3, s2.heap.objs.size, s2.heap.objs.size + 1], _, _, H2, rfl, I3, turn_JZs S, ⟨hz, hTI, ⟨_, _, hTO⟩, itK_of h1, itK_of h2⟩, fun c hc => ?_, q⟩
  have hle : s2.heap.objs.size ≤ c := by
    rcases (by simpa using hc : c = s2.heap.objs.size + 4 ∨ c = s2.heap.objs.size + 2 ∨ c = s2.heap.objs.size + 3 ∨ c = s2.heap.objs.size ∨ c = s2.heap.objs.size + 1) with z | z | z | z | z <;> rw [z]
    · exact Nat.le_add_right _ _
    · exact Nat.le_add_right _ _
    · exact Nat.le_add_right _ _
    · exact Nat.le_refl _
    · exact Nat.le_add_right _ _
  exact I2.fpOk hle (I2.hok.fresh hle)
end Wh

set_option Elab.async false
set_option linter.all false
set_option maxRecDepth 100000
set_option maxHeartbeats 2000000
/-! Wh7t: zip(a, b, c). -/
namespace Wh
open PySem PySem.Spec PyProof.Rows L2 Evl
variable [Tbl]
def JZ3 (K : PySem.W.Frag) (k1 k2 k3 : Sk) (a b c : Addr) : It :=
  ⟨fun i H => ∃ (xs ys zs : List V) (x y z : V), SqK K k1 H a xs ∧ SqK K k2 H b ys ∧ SqK K k3 H c zs ∧ xs[i]? = some x ∧ ys[i]? = some y ∧ zs[i]? = some z,
   fun i H v H' => ∃ T x y z, v = .ref T ∧ H T = none ∧ H' = upd H T (.tup [x, y, z]) ∧ (∀ xs, SqK K k1 H a xs → xs[i]? = some x) ∧ (∀ ys, SqK K k2 H b ys → ys[i]? = some y) ∧ ∀ zs, SqK K k3 H c zs → zs[i]? = some z,
   fun i H => ∃ xs ys zs : List V, SqK K k1 H a xs ∧ SqK K k2 H b ys ∧ SqK K k3 H c zs ∧ min (min xs.length ys.length) zs.length = i⟩
structure Ap3 (a b c z TI TO i1 i2 i3 : Addr) : Prop where
  sep : ZipSep3 z TI TO i1 i2 i3 [i1, a] [i2, b] [i3, c]
  h1 : a ≠ i1
  h2 : b ≠ i2
  h3 : c ≠ i3
theorem turn_JZ3 {P : Program} {w : World} {K : PySem.W.Frag} {elts : List Expr} {kk : Nat} {tpos : Pos} {k1 k2 k3 : Sk} {a b c z TI TO i1 i2 i3 : Addr} (S : Ap3 a b c z TI TO i1 i2 i3) :
    Turn P w K (.Tuple elts kk tpos) (JZ3 K k1 k2 k3 a b c) [z, TI, TO, i1, i2, i3] z (fun i h => IsZip h z TI TO .none ∧ IsTupOf3 h TI (.ref i1) (.ref i2) (.ref i3) ∧ (∃ u v t, IsTupOf3 h TO u v t) ∧ IsItK k1 h i1 a i ∧ IsItK k2 h i2 b i ∧ IsItK k3 h i3 c i) where
  mem := by simp
  obj := fun i h st q hq => by
    obtain ⟨hz, hTI, ⟨u, v, t, hTO⟩, h1, h2, h3⟩ := st
    rcases (by simpa using hq : q = z ∨ q = TI ∨ q = TO ∨ q = i1 ∨ q = i2 ∨ q = i3) with e | e | e | e | e | e <;> rw [e]
    · exact ⟨_, hz, fun v q => nomatch q⟩
    · exact ⟨_, hTI, fun v q => nomatch q⟩
    · exact ⟨_, hTO, fun v q => nomatch q⟩
    · exact itK_obj h1
    · exact itK_obj h2
    · exact itK_obj h3
  keep := fun i h h' st q => by
    obtain ⟨hz, hTI, ⟨u, v, t, hTO⟩, h1, h2, h3⟩ := st
    exact ⟨q z (by simp) _ hz, q TI (by simp) _ hTI, ⟨u, v, t, q TO (by simp) _ hTO⟩, itK_at h1 fun o e => q i1 (by simp) o e, itK_at h2 fun o e => q i2 (by simp) o e, itK_at h3 fun o e => q i3 (by simp) o e⟩
  item := by
    intro X hP hw hK hc i pins s σ H E I hf st hg
    subst hP hw hK
    obtain ⟨hz, hTI, hTO, hi1, hi2, hi3⟩ := st
    obtain ⟨xs, ys, zs, x, y, t, hqx, hqy, hqz, hx, hy, ht⟩ := hg
    obtain ⟨its, rv, p1⟩ := inv_sqK I hqx
    obtain ⟨its2, rv2, p2⟩ := inv_sqK I hqy
    obtain ⟨its3, rv3, p3⟩ := inv_sqK I hqz
    obtain ⟨u, hu, ru⟩ := rv.get hx
    obtain ⟨u2, hu2, ru2⟩ := rv2.get hy
    obtain ⟨u3, hu3, ru3⟩ := rv3.get ht
    have hhd : X.A.in1.handled = none := by simp [I.ok.hd hc]
    have G := GoesN.zip3 (prog := X.prog) (w := X.w) (A := X.A) (elts := elts) (x1 := kk) (pos := tpos) S.sep (drawsK k1 hhd i1 a S.h1 its.toArray) (drawsK k2 hhd i2 b S.h2 its2.toArray) (drawsK k3 hhd i3 c S.h3 its3.toArray)
    have live : ∀ q ∈ [z, TI, TO, i1, i2, i3], ∃ o, s.heap.get? q = some o := fun q hq => by
      obtain ⟨u', v', t', hTO'⟩ := hTO
      rcases (by simpa using hq : q = z ∨ q = TI ∨ q = TO ∨ q = i1 ∨ q = i2 ∨ q = i3) with e | e | e | e | e | e <;> rw [e]
      · exact ⟨_, hz⟩
      · exact ⟨_, hTI⟩
      · exact ⟨_, hTO'⟩
      · obtain ⟨o, e, _⟩ := itK_obj hi1; exact ⟨o, e⟩
      · obtain ⟨o, e, _⟩ := itK_obj hi2; exact ⟨o, e⟩
      · obtain ⟨o, e, _⟩ := itK_obj hi3; exact ⟨o, e⟩
    have hwr : ∀ q, q ∉ [z, TI, TO, i1, i2, i3] → q ∉ [z, TO, i1, i2, i3] := fun q hq r => hq (by
      rcases (by simpa using r : q = z ∨ q = TO ∨ q = i1 ∨ q = i2 ∨ q = i3) with e | e | e | e | e <;> simp [e])
    refine wpAny_mono (G.goes i s (fun v s2 => ∃ x' H', Inv X pins σ H' s2 ∧ RelV x' v ∧ (JZ3 X.K k1 k2 k3 a b c).yld i H x' H' ∧ (IsZip s2.heap z TI TO .none ∧ IsTupOf3 s2.heap TI (.ref i1) (.ref i2) (.ref i3) ∧ (∃ u v t, IsTupOf3 s2.heap TO u v t) ∧ IsItK k1 s2.heap i1 a (i + 1) ∧ IsItK k2 s2.heap i2 b (i + 1) ∧ IsItK k3 s2.heap i3 c (i + 1)) ∧ ∀ q ∈ [z, TI, TO, i1, i2, i3], H' q = none) E (by
      have := lt_of_get hu
      have := lt_of_get hu2
      have := lt_of_get hu3
      simp
      omega) ⟨hz, hTI, hTO, ⟨hi1, p1⟩, ⟨hi2, p2⟩, hi3, p3⟩ fun v h' tk hY st' hk htk => ?_) (fun r s1 q => ?_) fun _ _ z => z
    · obtain ⟨T, y1, y2, y3, rfl, hT, hy1, hy2, hy3, hTup⟩ := hY
      obtain ⟨g1, g2, g3, ⟨g4, _⟩, ⟨g5, _⟩, g6, _⟩ := st'
      have e1 : y1 = u := by
        have h1 : its.toArray[i]? = some u := by simpa using hu
        rw [h1] at hy1; cases hy1; rfl
      have e2 : y2 = u2 := by
        have h1 : its2.toArray[i]? = some u2 := by simpa using hu2
        rw [h1] at hy2; cases hy2; rfl
      have e3 : y3 = u3 := by
        have h1 : its3.toArray[i]? = some u3 := by simpa using hu3
        rw [h1] at hy3; cases hy3; rfl
      subst e1 e2 e3
      have new : ObjOk X.prog X.w (upd H T (.tup [x, y, t])) h' T (.tup [x, y, t]) := ⟨by show 3 ≤ sizeLine; decide, [y1, y2, y3], .cons ru (.cons ru2 (.cons ru3 .nil)), hTup⟩
      have I1 := I.turnedNew (t' := tk) (h' := h') (ch := [z, TI, TO, i1, i2, i3]) (fun c o hc q => hk c o (hwr c hc) q) hf hT new
      refine ⟨.ref T, _, I1, rfl, ⟨T, x, y, t, rfl, I.hok.fresh hT, rfl, (fun zs h => by rw [inv_injK I h hqx]; exact hx), (fun zs h => by rw [inv_injK I h hqy]; exact hy), fun zs h => by rw [inv_injK I h hqz]; exact ht⟩, ⟨g1, g2, g3, g4, g5, g6⟩, fun q hq => ?_⟩
      have hn : q ≠ T := fun e => by
        obtain ⟨o, ho⟩ := live q hq
        rw [e] at ho
        exact Nat.lt_irrefl _ (Nat.lt_of_lt_of_le (Heap.lt_size ho) hT)
      rw [upd_ne hn]
      exact (hf q hq).1
    · obtain ⟨v, rfl, q⟩ := q
      exact ⟨v, rfl, q⟩
  done := by
    intro X hP hw hK hc i pins s σ H E I hf st hg
    subst hP hw hK
    obtain ⟨hz, hTI, hTO, hi1, hi2, hi3⟩ := st
    obtain ⟨xs, ys, zs, hqx, hqy, hqz, rfl⟩ := hg
    obtain ⟨its, rv, p1⟩ := inv_sqK I hqx
    obtain ⟨its2, rv2, p2⟩ := inv_sqK I hqy
    obtain ⟨its3, rv3, p3⟩ := inv_sqK I hqz
    have hhd : X.A.in1.handled = none := by simp [I.ok.hd hc]
    have G := GoesN.zip3 (prog := X.prog) (w := X.w) (A := X.A) (elts := elts) (x1 := kk) (pos := tpos) S.sep (drawsK k1 hhd i1 a S.h1 its.toArray) (drawsK k2 hhd i2 b S.h2 its2.toArray) (drawsK k3 hhd i3 c S.h3 its3.toArray)
    have hl : min (min xs.length ys.length) zs.length = min (min its.toArray.size its2.toArray.size) its3.toArray.size := by
      rw [rv.length, rv2.length, rv3.length]; simp
    rw [hl] at hi1 hi2 hi3
    refine wpAny_mono (G.stops s (fun s1 => Inv X pins σ H s1) E (by first | exact ⟨hz, hTI, hTO, ⟨hi1, p1⟩, ⟨hi2, p2⟩, hi3, p3⟩ | exact ⟨hz, hTI, hTO, ⟨by simpa [Nat.min_assoc] using hi1, p1⟩, ⟨by simpa [Nat.min_assoc] using hi2, p2⟩, by simpa [Nat.min_assoc] using hi3, p3⟩) fun h' tk hk htk => I.turnedL (t' := tk) (ch := [z, TI, TO, i1, i2, i3]) (fun q o hq r => hk q o (fun r => hq (by
      rcases (by simpa using r : q = z ∨ q = TO ∨ q = i1 ∨ q = i2 ∨ q = i3) with e | e | e | e | e <;> simp [e])) r) hf) (fun r s1 q => q) fun _ _ z => z
  self := fun A i s Q E st h => wpAny_pyIter_zip st.1 h
def iZ3 (K : PySem.W.Frag) (ta : TA) : TI := fun σ H R => ta σ H fun vs H1 => ∃ k1 k2 k3 a b c xs ys zs, vs = [.ref a, .ref b, .ref c] ∧ SqK K k1 H1 a xs ∧ SqK K k2 H1 b ys ∧ SqK K k3 H1 c zs ∧ R (JZ3 K k1 k2 k3 a b c) H1
theorem pi_z3 {X : Cx} {e e2 e3 : Expr} {ta : TA} {p pos tpos : Pos} {elts : List Expr} {kk : Nat} (hg : Gl X "zip") (hm : X.mg "zip" = none) (ha : PA X [e, e2, e3] ta)
    (hs : starEach [e, e2, e3] X.env = (false, eval e X.env) :: starEach [e2, e3] X.env) (hpl : (backTo pos (starEach [e2, e3] X.env)).any (·.1) = false) : PI X (.Tuple elts kk tpos) (.Call (.Name "zip" p) [e, e2, e3] [] pos) (iZ3 X.K ta) := by
  refine ⟨fun pins s σ H R I h => ?_⟩
  refine Call_ (ld_blt I hg hm PyProof.Rows.boot_zip (PyProof.Rows.callWith_type1 (thn (ha.run pos pins s σ H _ I h) fun us s1 ⟨vs, H1, I1, r1, q1⟩ => ?_) hs hpl))
  obtain ⟨k1, k2, k3, a, b, c, xs, ys, zs, rfl, hqx, hqy, hqz, q⟩ := q1
  obtain ⟨u1, u2, u3, rfl, ru1, ru2, ru3⟩ : ∃ u1 u2 u3, us = [u1, u2, u3] ∧ RelV (.ref a) u1 ∧ RelV (.ref b) u2 ∧ RelV (.ref c) u3 := by
    cases r1 with
    | cons r1 r =>
      cases r with
      | cons r2 r =>
        cases r with
        | cons r3 r => cases r; exact ⟨_, _, _, rfl, r1, r2, r3⟩
  cases ru1
  cases ru2
  cases ru3
  obtain ⟨its, rv, p1⟩ := inv_sqK I1 hqx
  obtain ⟨its2, rv2, p2⟩ := inv_sqK I1 hqy
  obtain ⟨its3, rv3, p3⟩ := inv_sqK I1 hqz
  have l1 := sqK_lt p1
  have l2 := sqK_lt p2
  have l3 := sqK_lt p3
  refine zip_begins3 (beginsK k1 a its.toArray) (beginsK k2 b its2.toArray) (beginsK k3 c its3.toArray) p1 p2 p3 fun h' hz hTI hTO h1 h2 h3 hsz hk => wpAny_pyIter_zip hz ?_
  have I2 : Inv X pins σ H1 { s1 with heap := h' } := I1.kept (t' := s1.toks) hk
  have S : Ap3 a b c (s1.heap.objs.size + 5) (s1.heap.objs.size + 3) (s1.heap.objs.size + 4) s1.heap.objs.size (s1.heap.objs.size + 1) (s1.heap.objs.size + 2) :=
    ⟨zip_sep3 (fun c hc => by rw [List.mem_singleton.mp hc]; exact l1) (fun c hc => by rw [List.mem_singleton.mp hc]; exact l2) (fun c hc => by rw [List.mem_singleton.mp hc]; exact l3), Nat.ne_of_lt l1, Nat.ne_of_lt (Nat.lt_succ_of_lt l2), Nat.ne_of_lt (Nat.lt_succ_of_lt (Nat.lt_succ_of_lt l3))⟩
  refine ⟨s1.heap.objs.size + 5, [s1.heap.objs.size + 5, s1.heap.objs.size + 3, s1.heap.objs.size + 4, s1.heap.objs.size, s1.heap.objs.size + 1, s1.heap.objs.size + 2], _, _, H1, rfl, I2, turn_JZ3 S, ⟨hz, hTI, ⟨_, _, _, hTO⟩, itK_of h1, itK_of h2, itK_of h3⟩, fun q hq => ?_, by assumption⟩
  have hle : s1.heap.objs.size ≤ q := by
    rcases (by simpa using hq : q = s1.heap.objs.size + 5 ∨ q = s1.heap.objs.size + 3 ∨ q = s1.heap.objs.size + 4 ∨ q = s1.heap.objs.size ∨ q = s1.heap.objs.size + 1 ∨ q = s1.heap.objs.size + 2) with z | z | z | z | z | z <;> rw [z]
    · exact Nat.le_add_right _ _
    · exact Nat.le_add_right _ _
    · exact Nat.le_add_right _ _
    · exact Nat.le_refl _
    · exact Nat.le_add_right _ _
    · exact Nat.le_add_right _ _
  exact I1.fpOk hle (I1.hok.fresh hle)
end Wh

set_option Elab.async false
set_option linter.all false
set_option maxRecDepth 100000
set_option maxHeartbeats 1000000
set_option exponentiation.threshold 5000
/-! Wh8: iterables, targets, comprehensions. -/
namespace Wh
open PySem PySem.Spec PyProof.Rows L2 Evl
variable [Tbl]

/-! ### what is walked -/
/-- J goes over the items, as they stand in F -/
structure Wlk (K : PySem.W.Frag) (J : It) (F : Hp) (items : List PyData) : Prop where
  go : ∀ (i : Nat) (F1 H1 : Hp), Ex F F1 → Ex F1 H1 → i < items.length → J.go i H1
  yld : ∀ (i : Nat) (F1 H1 : Hp) (x : V) (H' : Hp) (d : PyData), Ex F F1 → Ex F1 H1 → items[i]? = some d → J.yld i H1 x H' → (H' = H1 ∧ Rp K F1 x d) ∨ ∃ (T : Addr) (o : HO), noT o ∧ H1 T = none ∧ H' = upd H1 T o ∧ Rp K (upd F1 T o) x d
  stop : ∀ (i : Nat) (F1 H1 : Hp), Ex F F1 → Ex F1 H1 → items.length = i → J.stop i H1
def tIt (K : PySem.W.Frag) (f : En → Option (List PyData × En)) : TI := fun σ H R => ∃ ρ F xs ρ', Rep K ρ σ F H ∧ f ρ = some (xs, ρ') ∧ ∀ J F' H', Rep K ρ' σ F' H' → StpE ρ σ F H ρ' F' H' → Wlk K J F' xs → R J H'
section
variable {X : Cx} {tg iter a b : Expr} {fa fb : En → Option (PyData × En)} {pos p : Pos}
theorem wlk_tup {K : PySem.W.Frag} {F : Hp} {a : Addr} {vs : List V} {ds : List PyData} (h : SqT K F a vs) (ha : RpA K F vs ds) : Wlk K (Itt K a) F ds := by
  refine ⟨fun i F1 H1 e1 e2 hi => ?_, fun i F1 H1 x H' d e1 e2 hd hy => ?_, fun i F1 H1 e1 e2 hi => ?_⟩
  · obtain ⟨v, h1, _⟩ := ha.get (List.getElem?_eq_getElem hi)
    exact ⟨vs, v, ex_t (e1.trans e2) h, h1⟩
  · obtain ⟨rfl, hy⟩ := hy
    obtain ⟨v, h1, h2⟩ := ha.get hd
    have := hy vs (ex_t (e1.trans e2) h)
    rw [h1] at this; cases this
    exact .inl ⟨rfl, h2.mono e1⟩
  · exact ⟨vs, ex_t (e1.trans e2) h, by rw [ha.len]; omega⟩
theorem wlk_range {K : PySem.W.Frag} {F : Hp} {lo hi : Int} : Wlk K (Itr lo (hi - lo).toNat) F (rngD lo hi) := by
  have hl : (rngD lo hi).length = (hi - lo).toNat := by simp [rngD]
  refine ⟨fun i F1 H1 e1 e2 h => by rw [hl] at h; exact h, fun i F1 H1 x H' d e1 e2 hd hy => ?_, fun i F1 H1 e1 e2 h => by rw [hl] at h; exact Nat.le_of_eq h⟩
  obtain ⟨rfl, rfl⟩ := hy
  refine .inl ⟨rfl, ?_⟩
  have hi' := lt_of_get hd
  rw [hl] at hi'
  have : (rngD lo hi)[i]? = some (.int (lo + (i : Int))) := by
    unfold rngD
    rw [List.getElem?_map, List.getElem?_range hi']
    rfl
  rw [this] at hd; cases hd
  exact .int _
theorem PI_or {w1 w2 : TI} (h1 : PI X tg iter w1) (h2 : PI X tg iter w2) : PI X tg iter (fun σ H R => w1 σ H R ∨ w2 σ H R) := ⟨fun pins s σ H R I h => h.elim (h1.run pins s σ H R I) (h2.run pins s σ H R I)⟩
theorem i_seq (ha : PE X a (tE X.K fa)) : PI X tg a (tIt X.K fun ρ => bnd (fa ρ) fun x ρ => ret (seqD x) ρ) := by
  refine (PI_or (pi_list ha) (pi_tup ha)).wk fun σ H R h => ?_
  obtain ⟨ρ, F, xs, ρ', rep, e, q⟩ := h
  obtain ⟨x, ρ1, e1, e⟩ := bnd_eq e
  obtain ⟨ys, e2, e⟩ := ret_eq e
  cases e
  cases x <;> simp only [seqD] at e2 <;> first | (cases e2; done) | skip
  · cases e2
    refine .inl ⟨ρ, F, _, ρ', rep, e1, fun v F1 H1 rep1 st1 rp1 => ?_⟩
    cases rp1 with
    | lst h1 h2 => exact ⟨_, rfl, ⟨_, rep1.exL h1⟩, q _ F1 H1 rep1 st1 ⟨fun i F2 H2 e1 e2 hi => by
        obtain ⟨v, g1, _⟩ := h2.get (List.getElem?_eq_getElem hi)
        exact ⟨_, v, ex_l (e1.trans e2) h1, g1⟩, fun i F2 H2 x H' d e1 e2 hd hy => by
        obtain ⟨rfl, hy⟩ := hy
        obtain ⟨v, g1, g2⟩ := h2.get hd
        have := hy _ (ex_l (e1.trans e2) h1)
        rw [g1] at this; cases this
        exact .inl ⟨rfl, g2.mono e1⟩, fun i F2 H2 e1 e2 hi => ⟨_, ex_l (e1.trans e2) h1, by rw [h2.len]; omega⟩⟩⟩
  · cases e2
    refine .inr ⟨ρ, F, _, ρ', rep, e1, fun v F1 H1 rep1 st1 rp1 => ?_⟩
    cases rp1 with
    | tup h1 h2 => exact ⟨_, rfl, ⟨_, rep1.exT h1⟩, q _ F1 H1 rep1 st1 (wlk_tup h1 h2)⟩
theorem smallI_iff {i : Int} (h : smallI i = true) : -(2 ^ 62) ≤ i ∧ i < 2 ^ 62 := by
  unfold smallI at h
  rw [Bool.and_eq_true, decide_eq_true_eq, decide_eq_true_eq] at h
  exact h
theorem i_rng1 (hg : Gl X "range") (hm : X.mg "range" = none) (ha : PE X a (tE X.K fa)) (hs : starEach [a] X.env = (false, eval a X.env) :: starEach [] X.env) : PI X tg (.Call (.Name "range" p) [a] [] pos) (tIt X.K fun ρ => bnd (fa ρ) fun x ρ => match x with
    | .int n => if smallI n then some (rngD 0 n, ρ) else none
    | _ => none) := by
  refine (pi_range1 hg hm (pa_cons ha pa_nil hs) (by rw [hs]; rfl)).wk fun σ H R h => ?_
  obtain ⟨ρ, F, xs, ρ', rep, e, q⟩ := h
  obtain ⟨x, ρ1, e1, e⟩ := bnd_eq e
  have hk : ∃ k, x = .int k := by
    cases x with
    | int k => exact ⟨k, rfl⟩
    | _ => cases e
  obtain ⟨k, rfl⟩ := hk
  simp only at e
  split at e
  · rename_i hs
    cases e
    refine ⟨ρ, F, _, ρ', rep, e1, fun v F1 H1 rep1 st1 rp1 => ?_⟩
    cases rp1
    have w := wlk_range (K := X.K) (F := F1) (lo := 0) (hi := k)
    rw [show k - 0 = k by omega] at w
    exact ⟨k, rfl, (smallI_iff hs).1, (smallI_iff hs).2, q _ F1 H1 rep1 st1 w⟩
  · cases e
theorem i_rng2 (hg : Gl X "range") (hm : X.mg "range" = none) (ha : PE X a (tE X.K fa)) (hb : PE X b (tE X.K fb)) (hs : starEach [a, b] X.env = (false, eval a X.env) :: starEach [b] X.env) (hs2 : starEach [b] X.env = (false, eval b X.env) :: starEach [] X.env) :
    PI X tg (.Call (.Name "range" p) [a, b] [] pos) (tIt X.K fun ρ => bnd (fa ρ) fun x ρ => bnd (fb ρ) fun y ρ => match x, y with
    | .int i, .int j => if smallI i && smallI j then some (rngD i j, ρ) else none
    | _, _ => none) := by
  refine (pi_range2 hg hm (pa_cons ha (pa_cons hb pa_nil hs2) hs) (by rw [hs, hs2]; rfl) (by rw [hs2]; rfl)).wk fun σ H R h => ?_
  obtain ⟨ρ, F, xs, ρ', rep, e, q⟩ := h
  obtain ⟨x, ρ1, e1, e⟩ := bnd_eq e
  obtain ⟨y, ρ2, e2, e⟩ := bnd_eq e
  have hk : ∃ i j, x = .int i ∧ y = .int j := by
    cases x <;> cases y <;> first | exact ⟨_, _, rfl, rfl⟩ | cases e
  obtain ⟨i, j, rfl, rfl⟩ := hk
  simp only at e
  · split at e
    · rename_i hs
      rw [Bool.and_eq_true] at hs
      cases e
      refine ⟨ρ, F, _, ρ1, rep, e1, fun v F1 H1 rep1 st1 rp1 => ⟨ρ1, F1, _, ρ', rep1, e2, fun w F2 H2 rep2 st2 rp2 => ?_⟩⟩
      cases rp1
      cases rp2
      exact ⟨i, j, rfl, ⟨(smallI_iff hs.1).1, (smallI_iff hs.1).2, (smallI_iff hs.2).1, (smallI_iff hs.2).2⟩, q _ F2 H2 rep2 (st1.trans st2) wlk_range⟩
    · cases e
/-! zip, enumerate -/
theorem zipD_get : ∀ {xs ys : List PyData} {i : Nat} {d : PyData}, (zipD xs ys)[i]? = some d → ∃ x y, xs[i]? = some x ∧ ys[i]? = some y ∧ d = .tuple [x, y]
  | [], _, _, _, h => by simp [zipD] at h
  | _ :: _, [], _, _, h => by simp [zipD] at h
  | x :: xs, y :: ys, 0, d, h => by simp [zipD] at h; exact ⟨x, y, rfl, rfl, h.symm⟩
  | x :: xs, y :: ys, i + 1, d, h => by
    have h' : (zipD xs ys)[i]? = some d := by simpa [zipD] using h
    obtain ⟨u, v, h1, h2, h3⟩ := zipD_get h'
    exact ⟨u, v, by simpa using h1, by simpa using h2, h3⟩
theorem zipD_len : ∀ {xs ys : List PyData}, (zipD xs ys).length = min xs.length ys.length
  | [], _ => by simp [zipD]
  | _ :: _, [] => by simp [zipD]
  | x :: xs, y :: ys => by simp only [zipD, List.length_cons, zipD_len (xs := xs) (ys := ys)]; omega
theorem enumD_get : ∀ {xs : List PyData} {n i : Nat} {d : PyData}, (enumD n xs)[i]? = some d → ∃ x, xs[i]? = some x ∧ d = .tuple [.int ((n + i : Nat) : Int), x]
  | [], _, _, _, h => by simp [enumD] at h
  | x :: xs, n, 0, d, h => by simp [enumD] at h; exact ⟨x, rfl, by rw [← h] <;> rfl⟩
  | x :: xs, n, i + 1, d, h => by
    have h' : (enumD (n + 1) xs)[i]? = some d := by simpa [enumD] using h
    obtain ⟨u, h1, h3⟩ := enumD_get h'
    exact ⟨u, by simpa using h1, by rw [h3, show n + 1 + i = n + (i + 1) by omega]⟩
theorem enumD_len : ∀ {xs : List PyData} {n : Nat}, (enumD n xs).length = xs.length
  | [], _ => rfl
  | x :: xs, n => by simp only [enumD, List.length_cons, enumD_len (xs := xs)]
theorem pair_new {K : PySem.W.Frag} {F1 : Hp} {T : Addr} {vx vy : V} {x y : PyData} (hn : F1 T = none) (h1 : Rp K F1 vx x) (h2 : Rp K F1 vy y) : Rp K (upd F1 T (.tup [vx, vy])) (.ref T) (.tuple [x, y]) :=
  .tup (SqT.of upd_same) (.cons (h1.mono (Ex.new hn)) (.cons (h2.mono (Ex.new hn)) .nil))
theorem ex_none {F1 H1 : Hp} {T : Addr} (e : Ex F1 H1) (h : H1 T = none) : F1 T = none := by
  cases hf : F1 T with
  | none => rfl
  | some o => rw [e T o hf] at h; cases h
theorem wlk_zip {K : PySem.W.Frag} {F : Hp} {k1 k2 : Sk} {a b : Addr} {vs ws : List V} {xs ys : List PyData} (h : SqK K k1 F a vs) (ha : RpA K F vs xs) (h' : SqK K k2 F b ws) (hb : RpA K F ws ys) : Wlk K (JZ K k1 k2 a b) F (zipD xs ys) := by
  have l1 := ha.len
  have l2 := hb.len
  refine ⟨fun i F1 H1 e1 e2 hi => ?_, fun i F1 H1 x H' d e1 e2 hd hy => ?_, fun i F1 H1 e1 e2 hi => ?_⟩
  · rw [zipD_len] at hi
    exact ⟨vs, ws, vs[i], ws[i], exK (e1.trans e2) h, exK (e1.trans e2) h', List.getElem?_eq_getElem (by omega), List.getElem?_eq_getElem (by omega)⟩
  · obtain ⟨T, u, v, rfl, hT, rfl, g1, g2⟩ := hy
    obtain ⟨dx, dy, d1, d2, rfl⟩ := zipD_get hd
    obtain ⟨u', k1, k2⟩ := ha.get d1
    obtain ⟨v', k3, k4⟩ := hb.get d2
    have := g1 vs (exK (e1.trans e2) h); rw [k1] at this; cases this
    have := g2 ws (exK (e1.trans e2) h'); rw [k3] at this; cases this
    exact .inr ⟨T, _, (fun _ z => by cases z), hT, rfl, pair_new (ex_none e2 hT) (k2.mono e1) (k4.mono e1)⟩
  · rw [zipD_len] at hi
    exact ⟨vs, ws, exK (e1.trans e2) h, exK (e1.trans e2) h', by omega⟩
theorem wlk_enum {K : PySem.W.Frag} {F : Hp} {k : Sk} {a : Addr} {vs : List V} {xs : List PyData} (h : SqK K k F a vs) (ha : RpA K F vs xs) : Wlk K (JE K k a 0) F (enumD 0 xs) := by
  have l1 := ha.len
  refine ⟨fun i F1 H1 e1 e2 hi => ?_, fun i F1 H1 x H' d e1 e2 hd hy => ?_, fun i F1 H1 e1 e2 hi => ?_⟩
  · rw [enumD_len] at hi
    exact ⟨vs, vs[i], exK (e1.trans e2) h, List.getElem?_eq_getElem (by omega)⟩
  · obtain ⟨T, u, rfl, hT, rfl, g1⟩ := hy
    obtain ⟨dx, d1, rfl⟩ := enumD_get hd
    obtain ⟨u', k1, k2⟩ := ha.get d1
    have := g1 vs (exK (e1.trans e2) h); rw [k1] at this; cases this
    refine .inr ⟨T, _, (fun _ z => by cases z), hT, rfl, pair_new (ex_none e2 hT) ?_ (k2.mono e1)⟩
    rw [Int.zero_add, Nat.zero_add]
    exact .int _
  · rw [enumD_len] at hi
    exact ⟨vs, exK (e1.trans e2) h, by omega⟩
theorem rp_sq {K : PySem.W.Frag} {F : Hp} {v : V} {x : PyData} {xs : List PyData} (h : Rp K F v x) (e : seqD x = some xs) : ∃ k a vs, v = .ref a ∧ SqK K k F a vs ∧ RpA K F vs xs := by
  cases h <;> simp only [seqD] at e <;> first | (cases e; done) | skip
  · cases e; exact ⟨.l, _, _, rfl, by assumption, by assumption⟩
  · cases e; exact ⟨.t, _, _, rfl, by assumption, by assumption⟩
theorem zipK_seq {x y : PyData} {zs : List PyData} (h : zipK x y = some zs) : ∃ xs ys, seqD x = some xs ∧ seqD y = some ys ∧ zs = zipD xs ys := by
  cases x <;> cases y <;> simp only [zipK] at h <;> first | (cases h; done) | (cases h; exact ⟨_, _, rfl, rfl, rfl⟩)
theorem i_zip {elts : List Expr} {kk : Nat} {tpos : Pos} (hg : Gl X "zip") (hm : X.mg "zip" = none) (ha : PE X a (tE X.K fa)) (hb : PE X b (tE X.K fb)) (hs : starEach [a, b] X.env = (false, eval a X.env) :: starEach [b] X.env) (hs2 : starEach [b] X.env = (false, eval b X.env) :: starEach [] X.env) :
    PI X (.Tuple elts kk tpos) (.Call (.Name "zip" p) [a, b] [] pos) (tIt X.K fun ρ => bnd (fa ρ) fun x ρ => bnd (fb ρ) fun y ρ => ret (zipK x y) ρ) := by
  refine (pi_zp hg hm (pa_cons ha (pa_cons hb pa_nil hs2) hs) hs (by rw [hs2]; rfl)).wk fun σ H R h => ?_
  obtain ⟨ρ, F, zs, ρ', rep, e, q⟩ := h
  obtain ⟨x, ρ1, e1, e⟩ := bnd_eq e
  obtain ⟨y, ρ2, e2, e⟩ := bnd_eq e
  obtain ⟨zs', e3, e⟩ := ret_eq e
  cases e
  refine ⟨ρ, F, _, ρ1, rep, e1, fun v F1 H1 rep1 st1 rp1 => ⟨ρ1, F1, _, ρ', rep1, e2, fun w F2 H2 rep2 st2 rp2 => ?_⟩⟩
  obtain ⟨xs, ys, s1, s2, rfl⟩ := zipK_seq e3
  obtain ⟨k1, a1, vs, rfl, q1, r1⟩ := rp_sq (rp1.mono st2.ext) s1
  obtain ⟨k2, a2, ws, rfl, q2, r2⟩ := rp_sq rp2 s2
  exact ⟨k1, k2, _, _, _, _, rfl, exK rep2.ex q1, exK rep2.ex q2, q _ F2 H2 rep2 (st1.trans st2) (wlk_zip q1 r1 q2 r2)⟩
theorem wlk_zips {K : PySem.W.Frag} {F : Hp} {k1 k2 : Sk} {a b : Addr} {vs ws : List V} {xs ys : List PyData} (h : SqK K k1 F a vs) (ha : RpA K F vs xs) (h' : SqK K k2 F b ws) (hb : RpA K F ws ys) (hl : xs.length = ys.length) : Wlk K (JZs K k1 k2 a b) F (zipD xs ys) := by
  have l1 := ha.len
  have l2 := hb.len
  refine ⟨fun i F1 H1 e1 e2 hi => ?_, fun i F1 H1 x H' d e1 e2 hd hy => ?_, fun i F1 H1 e1 e2 hi => ?_⟩
  · rw [zipD_len] at hi
    exact ⟨vs, ws, vs[i], ws[i], exK (e1.trans e2) h, exK (e1.trans e2) h', by omega, List.getElem?_eq_getElem (by omega), List.getElem?_eq_getElem (by omega)⟩
  · obtain ⟨T, u, v, rfl, hT, rfl, g1, g2⟩ := hy
    obtain ⟨dx, dy, d1, d2, rfl⟩ := zipD_get hd
    obtain ⟨u', k1, k2⟩ := ha.get d1
    obtain ⟨v', k3, k4⟩ := hb.get d2
    have := g1 vs (exK (e1.trans e2) h); rw [k1] at this; cases this
    have := g2 ws (exK (e1.trans e2) h'); rw [k3] at this; cases this
    exact .inr ⟨T, _, (fun _ z => by cases z), hT, rfl, pair_new (ex_none e2 hT) (k2.mono e1) (k4.mono e1)⟩
  · rw [zipD_len] at hi
    exact ⟨vs, ws, exK (e1.trans e2) h, exK (e1.trans e2) h', by omega, by omega⟩
theorem zipKs_seq {x y : PyData} {zs : List PyData} (h : zipKs x y = some zs) : ∃ xs ys, seqD x = some xs ∧ seqD y = some ys ∧ zs = zipD xs ys ∧ xs.length = ys.length := by
  unfold zipKs at h
  split at h
  · rename_i xs ys h1 h2
    split at h
    · rename_i hl
      cases h
      exact ⟨xs, ys, h1, h2, rfl, hl⟩
    · cases h
  · cases h
theorem i_zips {elts : List Expr} {kk : Nat} {tpos kp cp : Pos} {cj : Nat} (hg : Gl X "zip") (hm : X.mg "zip" = none) (ha : PE X a (tE X.K fa)) (hb : PE X b (tE X.K fb)) (hs : starEach [a, b] X.env = (false, eval a X.env) :: starEach [b] X.env) (hs2 : starEach [b] X.env = (false, eval b X.env) :: starEach [] X.env) :
    PI X (.Tuple elts kk tpos) (.Call (.Name "zip" p) [a, b] [⟨some "strict", .Constant (.bool true) cj cp, kp⟩] pos) (tIt X.K fun ρ => bnd (fa ρ) fun x ρ => bnd (fb ρ) fun y ρ => ret (zipKs x y) ρ) := by
  refine (pi_zs hg hm (pa_cons ha (pa_cons hb pa_nil hs2) hs) hs (by rw [hs2]; rfl)).wk fun σ H R h => ?_
  obtain ⟨ρ, F, zs, ρ', rep, e, q⟩ := h
  obtain ⟨x, ρ1, e1, e⟩ := bnd_eq e
  obtain ⟨y, ρ2, e2, e⟩ := bnd_eq e
  obtain ⟨zs', e3, e⟩ := ret_eq e
  cases e
  refine ⟨ρ, F, _, ρ1, rep, e1, fun v F1 H1 rep1 st1 rp1 => ⟨ρ1, F1, _, ρ', rep1, e2, fun w F2 H2 rep2 st2 rp2 => ?_⟩⟩
  obtain ⟨xs, ys, s1, s2, rfl, hl⟩ := zipKs_seq e3
  obtain ⟨k1, a1, vs, rfl, q1, r1⟩ := rp_sq (rp1.mono st2.ext) s1
  obtain ⟨k2, a2, ws, rfl, q2, r2⟩ := rp_sq rp2 s2
  exact ⟨k1, k2, _, _, _, _, rfl, exK rep2.ex q1, exK rep2.ex q2, by rw [r1.len, r2.len]; exact hl, q _ F2 H2 rep2 (st1.trans st2) (wlk_zips q1 r1 q2 r2 hl)⟩
/-! three -/
theorem zipD3_get : ∀ {xs ys zs : List PyData} {i : Nat} {d : PyData}, (zipD3 xs ys zs)[i]? = some d → ∃ x y z, xs[i]? = some x ∧ ys[i]? = some y ∧ zs[i]? = some z ∧ d = .tuple [x, y, z]
  | [], _, _, _, _, h => by simp [zipD3] at h
  | _ :: _, [], _, _, _, h => by simp [zipD3] at h
  | _ :: _, _ :: _, [], _, _, h => by simp [zipD3] at h
  | x :: xs, y :: ys, z :: zs, 0, d, h => by simp [zipD3] at h; exact ⟨x, y, z, rfl, rfl, rfl, h.symm⟩
  | x :: xs, y :: ys, z :: zs, i + 1, d, h => by
    have h' : (zipD3 xs ys zs)[i]? = some d := by simpa [zipD3] using h
    obtain ⟨u, v, w, h1, h2, h3, h4⟩ := zipD3_get h'
    exact ⟨u, v, w, by simpa using h1, by simpa using h2, by simpa using h3, h4⟩
theorem zipD3_len : ∀ {xs ys zs : List PyData}, (zipD3 xs ys zs).length = min (min xs.length ys.length) zs.length
  | [], _, _ => by simp [zipD3]
  | _ :: _, [], _ => by simp [zipD3]
  | _ :: _, _ :: _, [] => by simp [zipD3]
  | x :: xs, y :: ys, z :: zs => by simp only [zipD3, List.length_cons, zipD3_len (xs := xs) (ys := ys) (zs := zs)]; omega
theorem three_new {K : PySem.W.Frag} {F1 : Hp} {T : Addr} {vx vy vz : V} {x y z : PyData} (hn : F1 T = none) (h1 : Rp K F1 vx x) (h2 : Rp K F1 vy y) (h3 : Rp K F1 vz z) : Rp K (upd F1 T (.tup [vx, vy, vz])) (.ref T) (.tuple [x, y, z]) :=
  .tup (SqT.of upd_same) (.cons (h1.mono (Ex.new hn)) (.cons (h2.mono (Ex.new hn)) (.cons (h3.mono (Ex.new hn)) .nil)))
theorem wlk_zip3 {K : PySem.W.Frag} {F : Hp} {k1 k2 k3 : Sk} {a b c : Addr} {vs ws us : List V} {xs ys zs : List PyData} (h : SqK K k1 F a vs) (ha : RpA K F vs xs) (h' : SqK K k2 F b ws) (hb : RpA K F ws ys) (h3 : SqK K k3 F c us) (hc : RpA K F us zs) : Wlk K (JZ3 K k1 k2 k3 a b c) F (zipD3 xs ys zs) := by
  have l1 := ha.len
  have l2 := hb.len
  have l3 := hc.len
  refine ⟨fun i F1 H1 e1 e2 hi => ?_, fun i F1 H1 x H' d e1 e2 hd hy => ?_, fun i F1 H1 e1 e2 hi => ?_⟩
  · rw [zipD3_len] at hi
    exact ⟨vs, ws, us, vs[i], ws[i], us[i], exK (e1.trans e2) h, exK (e1.trans e2) h', exK (e1.trans e2) h3, List.getElem?_eq_getElem (by omega), List.getElem?_eq_getElem (by omega), List.getElem?_eq_getElem (by omega)⟩
  · obtain ⟨T, u, v, w, rfl, hT, rfl, g1, g2, g3⟩ := hy
    obtain ⟨dx, dy, dz, d1, d2, d3, rfl⟩ := zipD3_get hd
    obtain ⟨u', k1, k2⟩ := ha.get d1
    obtain ⟨v', k3, k4⟩ := hb.get d2
    obtain ⟨w', k5, k6⟩ := hc.get d3
    have := g1 vs (exK (e1.trans e2) h); rw [k1] at this; cases this
    have := g2 ws (exK (e1.trans e2) h'); rw [k3] at this; cases this
    have := g3 us (exK (e1.trans e2) h3); rw [k5] at this; cases this
    exact .inr ⟨T, _, (fun _ z => by cases z), hT, rfl, three_new (ex_none e2 hT) (k2.mono e1) (k4.mono e1) (k6.mono e1)⟩
  · rw [zipD3_len] at hi
    exact ⟨vs, ws, us, exK (e1.trans e2) h, exK (e1.trans e2) h', exK (e1.trans e2) h3, by omega⟩
theorem zipK3_seq {x y z : PyData} {ts : List PyData} (h : zipK3 x y z = some ts) : ∃ xs ys zs, seqD x = some xs ∧ seqD y = some ys ∧ seqD z = some zs ∧ ts = zipD3 xs ys zs := by
  unfold zipK3 at h
  split at h
  · rename_i xs ys zs h1 h2 h3
    cases h
    exact ⟨xs, ys, zs, h1, h2, h3, rfl⟩
  · cases h
theorem i_zip3 {d : Expr} {fd : En → Option (PyData × En)} {elts : List Expr} {kk : Nat} {tpos : Pos} (hg : Gl X "zip") (hm : X.mg "zip" = none) (ha : PE X a (tE X.K fa)) (hb : PE X b (tE X.K fb)) (hd : PE X d (tE X.K fd)) (hs : starEach [a, b, d] X.env = (false, eval a X.env) :: starEach [b, d] X.env) (hs2 : starEach [b, d] X.env = (false, eval b X.env) :: starEach [d] X.env) (hs3 : starEach [d] X.env = (false, eval d X.env) :: starEach [] X.env) :
    PI X (.Tuple elts kk tpos) (.Call (.Name "zip" p) [a, b, d] [] pos) (tIt X.K fun ρ => bnd (fa ρ) fun x ρ => bnd (fb ρ) fun y ρ => bnd (fd ρ) fun u ρ => ret (zipK3 x y u) ρ) := by
  refine (pi_z3 hg hm (pa_cons ha (pa_cons hb (pa_cons hd pa_nil hs3) hs2) hs) hs (by rw [hs2, hs3]; rfl)).wk fun σ H R h => ?_
  obtain ⟨ρ, F, zs, ρ', rep, e, q⟩ := h
  obtain ⟨x, ρ1, e1, e⟩ := bnd_eq e
  obtain ⟨y, ρ2, e2, e⟩ := bnd_eq e
  obtain ⟨t, ρ3, e3, e⟩ := bnd_eq e
  obtain ⟨zs', e4, e⟩ := ret_eq e
  cases e
  refine ⟨ρ, F, _, ρ1, rep, e1, fun v F1 H1 rep1 st1 rp1 => ⟨ρ1, F1, _, ρ2, rep1, e2, fun w F2 H2 rep2 st2 rp2 => ⟨ρ2, F2, _, ρ', rep2, e3, fun u F3 H3 rep3 st3 rp3 => ?_⟩⟩⟩
  obtain ⟨xs, ys, zs, s1, s2, s3, rfl⟩ := zipK3_seq e4
  obtain ⟨k1, a1, vs, rfl, q1, r1⟩ := rp_sq ((rp1.mono st2.ext).mono st3.ext) s1
  obtain ⟨k2, a2, ws, rfl, q2, r2⟩ := rp_sq (rp2.mono st3.ext) s2
  obtain ⟨k3, a3, us, rfl, q3, r3⟩ := rp_sq rp3 s3
  exact ⟨k1, k2, k3, _, _, _, _, _, _, rfl, exK rep3.ex q1, exK rep3.ex q2, exK rep3.ex q3, q _ F3 H3 rep3 ((st1.trans st2).trans st3) (wlk_zip3 q1 r1 q2 r2 q3 r3)⟩
theorem i_enum {elts : List Expr} {kk : Nat} {tpos : Pos} (hg : Gl X "enumerate") (hm : X.mg "enumerate" = none) (ha : PE X a (tE X.K fa)) (hs : starEach [a] X.env = (false, eval a X.env) :: starEach [] X.env) :
    PI X (.Tuple elts kk tpos) (.Call (.Name "enumerate" p) [a] [] pos) (tIt X.K fun ρ => bnd (fa ρ) fun x ρ => bnd (ret (seqD x) ρ) fun xs ρ => some (enumD 0 xs, ρ)) := by
  refine (pi_en hg hm (pa_cons ha pa_nil hs) hs).wk fun σ H R h => ?_
  obtain ⟨ρ, F, zs, ρ', rep, e, q⟩ := h
  obtain ⟨x, ρ1, e1, e⟩ := bnd_eq e
  obtain ⟨xs, ρ2, e2, e⟩ := bnd_eq e
  obtain ⟨xs', e3, e4⟩ := ret_eq e2
  cases e4
  cases e
  refine ⟨ρ, F, _, ρ', rep, e1, fun v F1 H1 rep1 st1 rp1 => ?_⟩
  obtain ⟨k1, a1, vs, rfl, q1, r1⟩ := rp_sq rp1 e3
  exact ⟨k1, _, _, rfl, exK rep1.ex q1, q _ F1 H1 rep1 st1 (wlk_enum q1 r1)⟩
end

/-! ### targets -/
mutual
def slotsT : Tg → List Nat
  | .name i => [i]
  | .tup ts => slotsTs ts
def slotsTs : List Tg → List Nat
  | [] => []
  | t :: ts => slotsT t ++ slotsTs ts
end
structure Sub (ρ : En) (σ : L2.St) (ρ' : En) (σ' : L2.St) : Prop where
  own : ∀ a, Own ρ' σ' a → Own ρ σ a
  pen : ∀ (i : Nat) (xs' : List PyData), ρ'[i]? = some (some (Sv.own true xs')) → σ'[i]? = σ[i]? ∧ ∃ xs, ρ[i]? = some (some (Sv.own true xs))
theorem Sub.refl {ρ : En} {σ : L2.St} : Sub ρ σ ρ σ := ⟨fun _ h => h, fun _ xs h => ⟨rfl, xs, h⟩⟩
theorem Sub.trans {ρ ρ1 ρ2 : En} {σ σ1 σ2 : L2.St} (a : Sub ρ σ ρ1 σ1) (b : Sub ρ1 σ1 ρ2 σ2) : Sub ρ σ ρ2 σ2 := ⟨fun x h => a.own x (b.own x h), fun i xs h => by
  obtain ⟨h1, ys, h2⟩ := b.pen i xs h
  obtain ⟨h3, zs, h4⟩ := a.pen i ys h2
  exact ⟨h1.trans h3, zs, h4⟩⟩
theorem Stp.same {ρ ρ' : En} {σ σ' : L2.St} {F H : Hp} (h : Sub ρ σ ρ' σ') : Stp ρ σ F H ρ' σ' F H := ⟨Ex.refl F, fun _ _ h => .inl h, fun _ _ h _ _ => h, fun a o => .inl (h.own a o), fun _ h => h, h.pen⟩
def tG (K : PySem.W.Frag) (sl : List Nat) (f : PyData → En → Option En) : TG := fun v σ H Q => ∃ ρ F x ρ', Rep K ρ σ F H ∧ Rp K F v x ∧ f x ρ = some ρ' ∧
  ∀ σ', Rep K ρ' σ' F H → Sub ρ σ ρ' σ' → (∀ j, j ∉ sl → σ'[j]? = σ[j]?) → σ'.length = σ.length → Q σ' H
def tGs (K : PySem.W.Frag) (sl : List Nat) (f : List PyData → En → Option En) : TGs := fun vs σ H Q => ∃ ρ F xs ρ', Rep K ρ σ F H ∧ RpA K F vs xs ∧ f xs ρ = some ρ' ∧
  ∀ σ', Rep K ρ' σ' F H → Sub ρ σ ρ' σ' → (∀ j, j ∉ sl → σ'[j]? = σ[j]?) → σ'.length = σ.length → Q σ' H
theorem _root_.L2.PGs.wk {X : Cx} {es : List Expr} {t t' : TGs} (h : PGs X es t) (w : ∀ v σ H Q, t' v σ H Q → t v σ H Q) : PGs X es t' := ⟨fun pins s σ H v u Q I r q => h.run pins s σ H v u Q I r (w _ _ _ _ q)⟩
section
variable {X : Cx} {tg : Expr} {es : List Expr} {pos : Pos}
theorem g_name {i : Nat} {x : Str} (hN : X.N.Nodup) (hi : X.N[i]? = some x) (hx : Loc X.env.scope x) (hf : X.fn x = true ∨ X.env.scope.names.lookup x = some .local) : PG X (.Name x pos) (tG X.K (slotsT (.name i)) (bindT (.name i))) := by
  refine (pg_name hN hi hx hf).wk fun v σ H Q h => ?_
  obtain ⟨ρ, F, y, ρ', rep, rp, e, q⟩ := h
  simp only [bindT] at e
  split at e
  · cases e
    refine q _ (rep.setD rp) ⟨fun a h => own_setD h, pen_setD⟩ (fun j hj => ?_) (by simp)
    simp only [slotsT, List.mem_singleton] at hj
    rw [get_set, if_neg (fun e => hj e.symm)]
  · cases e
theorem gs_nil : PGs X [] (tGs X.K (slotsTs []) (bindTs [])) := by
  refine pgs_nil.wk fun v σ H Q h => ?_
  obtain ⟨ρ, F, y, ρ', rep, rp, e, q⟩ := h
  cases rp with
  | nil =>
    simp only [bindTs] at e
    cases e
    exact ⟨rfl, q σ rep Sub.refl (fun _ _ => rfl) rfl⟩
  | cons _ _ => simp only [bindTs] at e; cases e
theorem gs_cons {t : Tg} {ts : List Tg} (h1 : PG X tg (tG X.K (slotsT t) (bindT t))) (h2 : PGs X es (tGs X.K (slotsTs ts) (bindTs ts))) (hs : (assignEach (tg :: es) X.env).map (·.2) = assign tg X.env :: (assignEach es X.env).map (·.2)) :
    PGs X (tg :: es) (tGs X.K (slotsTs (t :: ts)) (bindTs (t :: ts))) := by
  refine (pgs_cons h1 h2 hs).wk fun v σ H Q h => ?_
  obtain ⟨ρ, F, y, ρ', rep, rp, e, q⟩ := h
  cases rp with
  | nil => simp only [bindTs] at e; cases e
  | cons r rr =>
    simp only [bindTs] at e
    split at e
    · cases e
    · rename_i ρ1 h1
      refine ⟨_, _, rfl, ρ, F, _, ρ1, rep, r, h1, fun σ1 rep1 o1 k1 l1 => ⟨ρ1, F, _, ρ', rep1, rr, e, fun σ2 rep2 o2 k2 l2 => ?_⟩⟩
      refine q σ2 rep2 (o1.trans o2) (fun j hj => ?_) (l2.trans l1)
      simp only [slotsTs, List.mem_append, not_or] at hj
      rw [k2 j hj.2, k1 j hj.1]
theorem bindTs_len : ∀ {ts : List Tg} {xs : List PyData} {ρ ρ' : En}, bindTs ts xs ρ = some ρ' → xs.length = ts.length
  | [], [], _, _, _ => rfl
  | [], _ :: _, _, _, h => by simp only [bindTs] at h; cases h
  | _ :: _, [], _, _, h => by simp only [bindTs] at h; cases h
  | t :: ts, x :: xs, ρ, ρ', h => by
    simp only [bindTs] at h
    split at h
    · cases h
    · simp [bindTs_len h]
theorem g_tup {ts : List Tg} {k : Nat} (hc : X.calm = true) (h : PGs X es (tGs X.K (slotsTs ts) (bindTs ts))) (hn : (assignEach es X.env).length = ts.length) (hst : (assignEach es X.env).findIdx? (·.1) = none) : PG X (.Tuple es k pos) (tG X.K (slotsT (.tup ts)) (bindT (.tup ts))) := by
  refine (pg_tup hc h hn hst).wk fun v σ H Q h => ?_
  obtain ⟨ρ, F, y, ρ', rep, rp, e, q⟩ := h
  cases rp <;> simp only [bindT] at e <;> first | (cases e; done) | skip
  rename_i a vs ds h1 h2
  exact ⟨a, vs, rfl, rep.exT h1, by rw [h2.len]; exact bindTs_len e, ρ, F, ds, ρ', rep, h2, e, fun σ' r o k l => q σ' r o (by simpa only [slotsT] using k) l⟩
end

/-! ### slots forgotten and taken back -/
theorem wipe_in {σ : L2.St} : ∀ {vs : List Nat} {i : Nat}, i ∈ vs → (wipe σ vs)[i]? = if i < σ.length then some none else none
  | v :: vs, i, h => by
    unfold wipe
    rw [get_set, wipe_length]
    by_cases e : v = i
    · rw [if_pos e, e]
    · rw [if_neg e]
      rcases List.mem_cons.mp h with h | h
      · exact absurd h.symm e
      · exact wipe_in h
theorem wipe_eq {σ σ' : L2.St} {vs : List Nat} (h : ∀ j, j ∉ vs → σ'[j]? = σ[j]?) (hl : σ'.length = σ.length) : wipe σ' vs = wipe σ vs := by
  refine List.ext_getElem? fun i => ?_
  by_cases hi : i ∈ vs
  · rw [wipe_in hi, wipe_in hi, hl]
  · rw [wipe_out hi, wipe_out hi, h i hi]
theorem wipeE_len (ρ : En) : ∀ vs : List Nat, (wipeE ρ vs).length = ρ.length
  | [] => rfl
  | v :: vs => by unfold wipeE; rw [List.length_set, wipeE_len ρ vs]
theorem wipeE_in {ρ : En} : ∀ {vs : List Nat} {i : Nat}, i ∈ vs → (wipeE ρ vs)[i]? = if i < ρ.length then some none else none
  | v :: vs, i, h => by
    unfold wipeE
    rw [get_set, wipeE_len]
    by_cases e : v = i
    · rw [if_pos e, e]
    · rw [if_neg e]
      rcases List.mem_cons.mp h with h | h
      · exact absurd h.symm e
      · exact wipeE_in h
theorem wipeE_out {ρ : En} {i : Nat} : ∀ {vs : List Nat}, i ∉ vs → (wipeE ρ vs)[i]? = ρ[i]?
  | [], _ => rfl
  | v :: vs, h => by
    simp only [List.mem_cons, not_or] at h
    unfold wipeE
    rw [get_set, if_neg (fun e => h.1 e.symm), wipeE_out h.2]
theorem backE_len (ρ ρ' : En) : ∀ vs : List Nat, (backE ρ ρ' vs).length = ρ'.length
  | [] => rfl
  | v :: vs => by unfold backE; rw [List.length_set, backE_len ρ ρ' vs]
theorem backE_in {ρ ρ' : En} : ∀ {vs : List Nat} {i : Nat}, i ∈ vs → (backE ρ ρ' vs)[i]? = if i < ρ'.length then some ((ρ[i]?).getD none) else none
  | v :: vs, i, h => by
    unfold backE
    rw [get_set, backE_len]
    by_cases e : v = i
    · rw [if_pos e, e]
    · rw [if_neg e]
      rcases List.mem_cons.mp h with h | h
      · exact absurd h.symm e
      · exact backE_in h
theorem backE_out {ρ ρ' : En} {i : Nat} : ∀ {vs : List Nat}, i ∉ vs → (backE ρ ρ' vs)[i]? = ρ'[i]?
  | [], _ => rfl
  | v :: vs, h => by
    simp only [List.mem_cons, not_or] at h
    unfold backE
    rw [get_set, if_neg (fun e => h.1 e.symm), backE_out h.2]
section
variable {K : PySem.W.Frag} {ρ ρ1 ρ2 : En} {σ σ2 : L2.St} {F F1 H H1 : Hp} {vs : List Nat}
theorem Rep.wipe (r : Rep K ρ σ F H) (vs : List Nat) : Rep K (wipeE ρ vs) (L2.wipe σ vs) F H := by
  have out : ∀ (i : Nat) (s : Sv), (wipeE ρ vs)[i]? = some (some s) → i ∉ vs := fun i s h hi => by
    rw [wipeE_in hi] at h
    split at h <;> cases h
  refine ⟨by rw [wipeE_len, wipe_length]; exact r.len, r.wl, fun i x h => ?_, fun i b xs h => ?_, fun i j s t p h1 k1 h2 k2 h3 h4 => ?_, fun i h => ?_, fun i xs h => ?_⟩
  rotate_right
  · have hi := out i _ h
    rw [wipeE_out hi] at h
    rw [wipe_out hi]
    exact r.odc i xs h
  rotate_right
  · have hi := out i _ h
    rw [wipeE_out hi] at h
    rw [wipe_out hi]
    exact r.xc i h
  · have hi := out i _ h
    rw [wipeE_out hi] at h
    rw [wipe_out hi]
    exact r.dat i x h
  · have hi := out i _ h
    rw [wipeE_out hi] at h
    rw [wipe_out hi]
    exact r.own i b xs h
  · have hi := out i _ h1
    have hj := out j _ h2
    rw [wipeE_out hi] at h1
    rw [wipeE_out hj] at h2
    rw [wipe_out hi] at h3
    rw [wipe_out hj] at h4
    exact r.dis i j s t p h1 k1 h2 k2 h3 h4
theorem own_wipe {a : Addr} (h : Own (wipeE ρ vs) (L2.wipe σ vs) a) : Own ρ σ a := by
  obtain ⟨i, s, h1, hs, h2⟩ := h
  have hi : i ∉ vs := fun hi => by
    rw [wipeE_in hi] at h1
    split at h1 <;> cases h1
  rw [wipeE_out hi] at h1
  rw [wipe_out hi] at h2
  exact ⟨i, s, h1, hs, h2⟩
theorem sub_wipe : Sub ρ σ (wipeE ρ vs) (L2.wipe σ vs) := ⟨fun a h => own_wipe h, fun i xs h => by
  have hi : i ∉ vs := fun hi => by
    rw [wipeE_in hi] at h
    split at h <;> cases h
  rw [wipeE_out hi] at h
  exact ⟨wipe_out hi, xs, h⟩⟩
/-- ρ1, σ: ahead of the block; ρ2, σ2: in it -/
theorem Rep.back (r1 : Rep K ρ1 σ F1 H1) (e : Ex F1 F) (r2 : Rep K ρ2 σ2 F H) (hw : L2.wipe σ2 vs = L2.wipe σ vs) (hn : vs.all (notOwn ρ1) = true) : Rep K (backE ρ1 ρ2 vs) σ F H := by
  have same : ∀ i, i ∉ vs → σ2[i]? = σ[i]? := fun i hi => by
    have this : (L2.wipe σ2 vs)[i]? = (L2.wipe σ vs)[i]? := by rw [hw]
    rw [wipe_out hi, wipe_out hi] at this
    exact this
  have hlen : σ2.length = σ.length := by
    have := congrArg List.length hw
    rw [wipe_length, wipe_length] at this
    exact this
  have noown : ∀ (i : Nat) (s : Sv), isOw s = true → (backE ρ1 ρ2 vs)[i]? = some (some s) → i ∉ vs := fun i s hs h hi => by
    rw [backE_in hi] at h
    split at h
    · have := List.all_eq_true.mp hn i hi
      unfold notOwn at this
      cases hq : ρ1[i]? with
      | none => rw [hq] at h; cases h
      | some s' =>
        rw [hq] at h this
        simp only [Option.getD_some, Option.some.injEq] at h
        subst h
        cases s <;> first | (cases this; done) | cases hs
    · cases h
  refine ⟨by rw [backE_len, r2.len, hlen], r2.wl, fun i x h => ?_, fun i b xs h => ?_, fun i j s t p h1 k1 h2 k2 h3 h4 => ?_, fun i h => ?_, fun i xs h => ?_⟩
  rotate_right
  · have hi := noown i _ rfl h
    rw [backE_out hi] at h
    rw [← same i hi]
    exact r2.odc i xs h
  rotate_right
  · by_cases hi : i ∈ vs
    · rw [backE_in hi] at h
      split at h
      · cases hq : ρ1[i]? with
        | none => rw [hq] at h; cases h
        | some s =>
          rw [hq] at h
          simp only [Option.getD_some, Option.some.injEq] at h
          subst h
          exact r1.xc i hq
      · cases h
    · rw [backE_out hi] at h
      rw [← same i hi]
      exact r2.xc i h
  · by_cases hi : i ∈ vs
    · rw [backE_in hi] at h
      split at h
      · cases hq : ρ1[i]? with
        | none => rw [hq] at h; cases h
        | some s =>
          rw [hq] at h
          simp only [Option.getD_some, Option.some.injEq] at h
          subst h
          obtain ⟨v, g1, g2⟩ := r1.dat i x hq
          exact ⟨v, g1, g2.mono e⟩
      · cases h
    · rw [backE_out hi] at h
      rw [← same i hi]
      exact r2.dat i x h
  · have hi := noown i _ rfl h
    rw [backE_out hi] at h
    rw [← same i hi]
    exact r2.own i b xs h
  · have hi := noown i _ k1 h1
    have hj := noown j _ k2 h2
    rw [backE_out hi] at h1
    rw [backE_out hj] at h2
    rw [← same i hi] at h3
    rw [← same j hj] at h4
    exact r2.dis i j s t p h1 k1 h2 k2 h3 h4
theorem own_back {a : Addr} (h : Own (backE ρ1 ρ2 vs) σ a) (hw : L2.wipe σ2 vs = L2.wipe σ vs) (hn : vs.all (notOwn ρ1) = true) : Own ρ2 σ2 a := by
  obtain ⟨i, s, h1, hs, h2⟩ := h
  have hi : i ∉ vs := fun hi => by
    rw [backE_in hi] at h1
    split at h1
    · have := List.all_eq_true.mp hn i hi
      unfold notOwn at this
      cases hq : ρ1[i]? with
      | none => rw [hq] at h1; cases h1
      | some s' =>
        rw [hq] at h1 this
        simp only [Option.getD_some, Option.some.injEq] at h1
        subst h1
        cases s <;> first | (cases this; done) | cases hs
    · cases h1
  have same : σ2[i]? = σ[i]? := by
    have this : (L2.wipe σ2 vs)[i]? = (L2.wipe σ vs)[i]? := by rw [hw]
    rw [wipe_out hi, wipe_out hi] at this
    exact this
  rw [backE_out hi] at h1
  exact ⟨i, s, h1, hs, by rw [same]; exact h2⟩
theorem sub_back (hw : L2.wipe σ2 vs = L2.wipe σ vs) (hn : vs.all (notOwn ρ1) = true) : Sub ρ2 σ2 (backE ρ1 ρ2 vs) σ := ⟨fun a h => own_back h hw hn, fun i xs h => by
  have hi : i ∉ vs := fun hi => by
    rw [backE_in hi] at h
    split at h
    · have := List.all_eq_true.mp hn i hi
      unfold notOwn at this
      cases hq : ρ1[i]? with
      | none => rw [hq] at h; cases h
      | some s =>
        rw [hq] at h this
        simp only [Option.getD_some, Option.some.injEq] at h
        subst h
        cases this
    · cases h
  have same : σ2[i]? = σ[i]? := by
    have this : (L2.wipe σ2 vs)[i]? = (L2.wipe σ vs)[i]? := by rw [hw]
    rw [wipe_out hi, wipe_out hi] at this
    exact this
  rw [backE_out hi] at h
  exact ⟨same.symm, xs, h⟩⟩
end
end Wh

set_option Elab.async false
set_option linter.all false
set_option maxRecDepth 100000
set_option maxHeartbeats 1000000
set_option exponentiation.threshold 5000
/-! Wh9: comprehensions. -/
namespace Wh
open PySem PySem.Spec PyProof.Rows L2 Evl
variable [Tbl]
section
variable {K : PySem.W.Frag} {ρ ρ' : En} {σ σ' : L2.St} {F F' H H' : Hp} {D : Addr} {o : HO}
theorem Stp.offD (s : Stp ρ σ F H ρ' σ' F' H') (h : H D = none) : Stp ρ σ F H ρ' σ' F' (upd H' D o) :=
  ⟨s.ext, s.new, fun a u ha no nt => by rw [upd_ne (ne_of_none ha h)]; exact s.fr a u ha no nt, s.own, fun a ha => s.alive a (upd_none' ha), s.pen⟩
theorem Rep.off (r : Rep K ρ σ F H) (hf : F D = none) (no : ¬ Own ρ σ D) {o' : HO} (hD : H D = some o') (nt : noT o') (nx : ∀ q, o' ≠ LamX.CodeO D q) : Rep K ρ σ F (upd H D o) := by
  refine ⟨r.len, ⟨fun a u ha => ?_, fun p hp => ?_, r.wl.nt⟩, r.dat, fun i b xs hx => ?_, r.dis, r.xc, fun i xs hx => ?_⟩
  · rw [upd_ne (ne_of_none ha hf)]; exact r.ex a u ha
  · obtain ⟨ps, h1, h2, h3⟩ := r.wl.tab p hp
    have n1 : p.1 ≠ D := fun z => by rw [z, hD] at h1; cases h1; exact nt _ rfl
    refine ⟨ps, by rw [upd_ne n1]; exact h1, h2, fun pos cv hc => ?_⟩
    obtain ⟨c, e1, e2⟩ := h3 pos cv hc
    have n2 : c ≠ D := fun z => by rw [z, hD] at e2; exact nx _ (Option.some.inj e2)
    exact ⟨c, e1, by rw [upd_ne n2]; exact e2⟩
  · obtain ⟨q, vs, h1, h2, h3, h4⟩ := r.own i b xs hx
    have hq : q ≠ D := fun z => no ⟨i, _, hx, rfl, by rw [← z]; exact h1⟩
    exact ⟨q, vs, h1, h2, by rw [upd_ne hq]; exact h3, h4⟩
  · obtain ⟨q, vs, h1, h2, h3, h4⟩ := r.odc i xs hx
    have hq : q ≠ D := fun z => no ⟨i, _, hx, rfl, by rw [← z]; exact h1⟩
    exact ⟨q, vs, h1, h2, by rw [upd_ne hq]; exact h3, h4⟩
end
/-- one turn of a comprehension -/
def stepC (tg : Tg) (gt : En → Option (Bool × En)) (fe : En → Option (PyData × En)) (own : List Nat) (ρ1 : En) : PyData → En → Option (Option PyData × En) := fun x ρ2 => match bindT tg x (wipeE ρ2 own) with
  | none => none
  | some ρ3 => bnd (gt ρ3) fun r ρ4 => match r with
    | false => some (none, backE ρ1 ρ4 own)
    | true => bnd (fe ρ4) fun y ρ5 => some (some y, backE ρ1 ρ5 own)
section
variable {X : Cx} {elt tgE iter : Expr} {ifs : List Expr} {scope : Scope} {ownS : List (Str × Nat)} {pos : Pos} {tg : Tg} {fi : En → Option (List PyData × En)} {gt : En → Option (Bool × En)} {fe : En → Option (PyData × En)} {own : List Nat}
theorem lc_rd (hsl : ∀ j ∈ slotsT tg, j ∈ own) (σ : L2.St) (H : Hp) (Q : VK)
    (h : tEL X.K (fun ρ => if own.all (notOwn ρ) then bnd (fi ρ) fun xs ρ1 => if own.all (notOwn ρ1) ∧ xs.length ≤ 100000 then bnd (cmpI (stepC tg gt fe own ρ1) xs ρ1) fun ys ρ6 => some (.list ys, ρ6) else none else none) σ H Q) :
    tLc (tIt X.K fi) (tG X.K (slotsT tg) (bindT tg)) (tT X.K gt) (tE X.K fe) own σ H Q := by
  obtain ⟨ρ, F, ys, ρ6, rep, e, q⟩ := h
  simp only at e
  split at e
  case isFalse => cases e
  obtain ⟨items, ρ1, e1, e⟩ := bnd_eq e
  split at e
  case isFalse => cases e
  rename_i hn0 hn
  obtain ⟨hn, hz⟩ := hn
  obtain ⟨ys', ρ6', e2, e⟩ := bnd_eq e
  cases e
  refine ⟨ρ, F, items, ρ1, rep, e1, fun J F1 H1 rep1 st1 wl => fun D hD => ?_⟩
  have nD : ¬ Own ρ1 σ D := rep1.none_own hD
  have fD : F1 D = none := fresh_back rep1.ex hD
  refine ⟨fun i m H' => ∃ F' ρ' vs1 ys1 ys2, Rep X.K ρ' σ F' H' ∧ Stp ρ1 σ F1 H1 ρ' σ F' H' ∧ (∀ a, Own ρ' σ a → Own ρ1 σ a) ∧ F' D = none ∧ H' D = some (.lst vs1) ∧ RpA X.K F' vs1 ys1 ∧ cmpI (stepC tg gt fe own ρ1) (items.drop i) ρ' = some (ys2, ρ6) ∧ ys = ys1 ++ ys2 ∧ vs1.length ≤ i ∧ i ≤ items.length ∧ m = items.length - i,
    ⟨items.length, F1, ρ1, [], [], ys, rep1.layOff hD, (StpE.layOff hD).toStp, fun _ h => h, fD, upd_same, .nil, e2, rfl, Nat.le_refl _, Nat.zero_le _, rfl⟩, ?_⟩
  rintro i m H' ⟨F', ρ', vs1, ys1, ys2, rep', stp, ow, f', h', rpa, hcm, hys, hlen, hi, rfl⟩
  have no' : ¬ Own ρ' σ D := fun o => nD (ow D o)
  by_cases hlt : i < items.length
  · have hd : items[i]? = some items[i] := List.getElem?_eq_getElem hlt
    have hdrop : items.drop i = items[i] :: items.drop (i + 1) := List.drop_eq_getElem_cons hlt
    rw [hdrop] at hcm
    simp only [cmpI] at hcm
    refine .inr ⟨wl.go i F' H' stp.ext rep'.ex hlt, fun H'' => ∃ m', m' < items.length - i ∧ (∃ F' ρ' vs1 ys1 ys2, Rep X.K ρ' σ F' H'' ∧ Stp ρ1 σ F1 H1 ρ' σ F' H'' ∧ (∀ a, Own ρ' σ a → Own ρ1 σ a) ∧ F' D = none ∧ H'' D = some (.lst vs1) ∧ RpA X.K F' vs1 ys1 ∧ cmpI (stepC tg gt fe own ρ1) (items.drop (i + 1)) ρ' = some (ys2, ρ6) ∧ ys = ys1 ++ ys2 ∧ vs1.length ≤ i + 1 ∧ i + 1 ≤ items.length ∧ m' = items.length - (i + 1)), fun H'' n => n, fun x H2 hy => ?_⟩
    obtain ⟨F2, rep2, st2, rp2⟩ : ∃ F2, Rep X.K ρ' σ F2 H2 ∧ StpE ρ' σ F' H' ρ' F2 H2 ∧ Rp X.K F2 x items[i] := by
      rcases wl.yld i F' H' x H2 _ stp.ext rep'.ex hd hy with ⟨rfl, h⟩ | ⟨T, o, nTo, hT, rfl, h⟩
      · exact ⟨F', rep', StpE.refl, h⟩
      · exact ⟨_, rep'.lay hT nTo, StpE.lay rep' hT, h⟩
    -- the turn's own evaluation
    cases hst : stepC tg gt fe own ρ1 items[i] ρ' with
    | none => rw [hst] at hcm; cases hcm
    | some pr =>
    rw [hst] at hcm
    unfold stepC at hst
    split at hst
    · cases hst
    rename_i ρ3 hb
    obtain ⟨r, ρ4, hg, hst⟩ := bnd_eq hst
    refine ⟨wipeE ρ' own, F2, items[i], ρ3, rep2.wipe own, rp2, hb, fun σ2 rep3 o3 k3 l3 => ?_⟩
    have hw : L2.wipe σ2 own = L2.wipe σ own := by
      rw [wipe_eq (σ := L2.wipe σ own) (σ' := σ2) (fun j hj => k3 j fun z => hj (hsl j z)) l3]
      exact wipe_eq (fun j hj => wipe_out hj) (wipe_length σ own)
    refine ⟨hw, ρ3, F2, r, ρ4, rep3, hg, fun F4 H4 rep4 st4 => ?_⟩
    have s2 : Stp ρ1 σ F1 H1 ρ' σ F2 H2 := stp.trans st2.toStp
    have s3 : Stp ρ1 σ F1 H1 ρ3 σ2 F2 H2 := s2.trans (Stp.same (sub_wipe.trans o3))
    have s4 : Stp ρ1 σ F1 H1 ρ4 σ2 F4 H4 := s3.trans st4.toStp
    have ow3 : ∀ a, Own ρ3 σ2 a → Own ρ1 σ a := fun a o => ow a (own_wipe (o3.own a o))
    have ow4 : ∀ a, Own ρ4 σ2 a → Own ρ1 σ a := fun a o => ow3 a (st4.str a o)
    have h2D : H2 D = some (.lst vs1) := st2.fr D _ h' no' (fun _ z => by cases z)
    have f2D : F2 D = none := by
      cases hx : F2 D with
      | none => rfl
      | some o =>
        rcases st2.new D o hx with z | z | z
        · rw [f'] at z; cases z
        · rw [h'] at z; cases z
        · exact absurd z no'
    have h4D : H4 D = some (.lst vs1) := st4.fr D _ h2D (fun o => nD (ow3 D o)) (fun _ z => by cases z)
    have f4D : F4 D = none := by
      cases hx : F4 D with
      | none => rfl
      | some o =>
        rcases st4.new D o hx with z | z | z
        · rw [f2D] at z; cases z
        · rw [h2D] at z; cases z
        · exact absurd (ow3 D z) nD
    cases r with
    | false =>
      cases hst
      refine L2.iteF ?_
      simp only at hcm
      exact ⟨items.length - (i + 1), by omega, F4, backE ρ1 ρ4 own, vs1, ys1, ys2, Rep.back rep1 s4.ext rep4 hw hn, s4.trans (Stp.same (sub_back hw hn)), fun a o => ow4 a (own_back o hw hn), f4D, h4D, (rpa.mono st2.ext).mono st4.ext, hcm, hys, by omega, hlt, rfl⟩
    | true =>
      obtain ⟨y, ρ5, he, hst⟩ := bnd_eq hst
      cases hst
      refine L2.iteT ?_
      simp only at hcm
      split at hcm
      · cases hcm
      rename_i ys3 ρ7 hcm'
      cases hcm
      refine ⟨ρ4, F4, y, ρ5, rep4, he, fun vy F5 H5 rep5 st5 rp5 => ?_⟩
      have s5 : Stp ρ1 σ F1 H1 ρ5 σ2 F5 H5 := s4.trans st5.toStp
      have ow5 : ∀ a, Own ρ5 σ2 a → Own ρ1 σ a := fun a o => ow4 a (st5.str a o)
      have h5D : H5 D = some (.lst vs1) := st5.fr D _ h4D (fun o => nD (ow4 D o)) (fun _ z => by cases z)
      have f5D : F5 D = none := by
        cases hx : F5 D with
        | none => rfl
        | some o =>
          rcases st5.new D o hx with z | z | z
          · rw [f4D] at z; cases z
          · rw [h4D] at z; cases z
          · exact absurd (ow4 D z) nD
      have r5 : Rep X.K ρ5 σ2 F5 (upd H5 D (.lst (vs1 ++ [vy]))) := rep5.off f5D (fun o => nD (ow5 D o)) h5D (fun _ z => by cases z) (fun _ z => by unfold LamX.CodeO at z; cases z)
      refine ⟨vs1, h5D, Nat.lt_of_le_of_lt (Nat.le_trans hlen hi) (Nat.lt_of_le_of_lt hz (by decide)), items.length - (i + 1), by omega, F5, backE ρ1 ρ5 own, vs1 ++ [vy], ys1 ++ [y], ys3, Rep.back rep1 s5.ext r5 hw hn,
        (s5.trans (Stp.same (sub_back hw hn))).offD hD, fun a o => ow5 a (own_back o hw hn), f5D, upd_same, (((rpa.mono st2.ext).mono st4.ext).mono st5.ext).append (.one rp5), hcm', ?_, ?_, hlt, rfl⟩
      · rw [hys, List.append_assoc]; rfl
      · rw [List.length_append]; simp; omega
  · have hi' : i = items.length := by omega
    subst hi'
    rw [List.drop_length] at hcm
    simp only [cmpI] at hcm
    cases hcm
    rw [List.append_nil] at hys
    subst hys
    exact .inl ⟨wl.stop _ F' H' stp.ext rep'.ex rfl, q D vs1 F' H' rep' (st1.trans ⟨stp, ow⟩) (st1.alive D hD) f' h' rpa⟩
theorem l_comp (hc : X.calm = true) (hN : X.N.Nodup) (hi : PI X tgE iter (tIt X.K fi)) (ok : BlkOk X.N X.env.scope scope ownS) (ho : ownS.map (·.2) = own) (hsl : ∀ j ∈ slotsT tg, j ∈ own)
    (hg : ∀ (s : Shared) (H : Hp) (C : Addr) (cl : List (Str × Addr)) (fp : List Addr), PG (X.blk s H scope (compEnvC scope cl C X.env) fp) tgE (tG X.K (slotsT tg) (bindT tg)))
    (ht : ∀ (s : Shared) (H : Hp) (C : Addr) (cl : List (Str × Addr)) (fp : List Addr), PTs (X.blk s H scope (compEnvC scope cl C X.env) fp) ifs (tT X.K gt))
    (he : ∀ (s : Shared) (H : Hp) (C : Addr) (cl : List (Str × Addr)) (fp : List Addr), PE (X.blk s H scope (compEnvC scope cl C X.env) fp) elt (tE X.K fe)) (hs : ∀ x, foldedSetIterable iter X.env x = pure x) :
    PE X (.ListComp elt [⟨tgE, iter, ifs, 0⟩] scope pos) (tEL X.K (fun ρ => if own.all (notOwn ρ) then bnd (fi ρ) fun xs ρ1 => if own.all (notOwn ρ1) ∧ xs.length ≤ 100000 then bnd (cmpI (stepC tg gt fe own ρ1) xs ρ1) fun ys ρ6 => some (.list ys, ρ6) else none else none)) := by
  subst ho
  exact (pe_lc hc hN hi ok hg ht he hs).wk (lc_rd hsl)
/-- name = [..] on one line -/
theorem s_setLc {i : Nat} {y : Str} {py spos : Pos} (hc : X.calm = true) (hN : X.N.Nodup) (hy : X.N[i]? = some y) (hyl : X.env.scope.names.lookup y = some .local)
    (hsw : swapsWith (.ListComp elt [⟨tgE, iter, ifs, 0⟩] scope pos) (some (.Name y py)) spos.line X.env = pure true) (hi : PI X tgE iter (tIt X.K fi)) (ok : BlkOk X.N X.env.scope scope ownS) (ho : ownS.map (·.2) = own) (hsl : ∀ j ∈ slotsT tg, j ∈ own)
    (hg : ∀ (s : Shared) (H : Hp) (C : Addr) (cl : List (Str × Addr)) (fp : List Addr), PG (X.blk s H scope (compEnvC scope cl C X.env) fp) tgE (tG X.K (slotsT tg) (bindT tg)))
    (ht : ∀ (s : Shared) (H : Hp) (C : Addr) (cl : List (Str × Addr)) (fp : List Addr), PTs (X.blk s H scope (compEnvC scope cl C X.env) fp) ifs (tT X.K gt))
    (he : ∀ (s : Shared) (H : Hp) (C : Addr) (cl : List (Str × Addr)) (fp : List Addr), PE (X.blk s H scope (compEnvC scope cl C X.env) fp) elt (tE X.K fe)) (hs : ∀ x, foldedSetIterable iter X.env x = pure x) :
    PS X (.Assign [.Name y py] (.ListComp elt [⟨tgE, iter, ifs, 0⟩] scope pos) spos) (tAsg (tEL X.K (fun ρ => if own.all (notOwn ρ) then bnd (fi ρ) fun xs ρ1 => if own.all (notOwn ρ1) ∧ xs.length ≤ 100000 then bnd (cmpI (stepC tg gt fe own ρ1) xs ρ1) fun ys ρ6 => some (.list ys, ρ6) else none else none)) (gName i)) := by
  subst ho
  exact (ps_setLc hc hN hy hyl hsw hi ok hg ht he hs).wk fun D σ H h => lc_rd hsl σ H _ h
theorem ts_nil : PTs X [] (tT X.K fun ρ => some (true, ρ)) := ⟨fun pins s σ H Q I h => pts_nil.run pins s σ H Q I (by
  obtain ⟨ρ, F, z, ρ', rep, e, q⟩ := h
  cases e
  exact q F H rep StpE.refl)⟩
theorem ts_one {t : Expr} (h : PT X t (tT X.K gt)) : PTs X [t] (tT X.K gt) := pts_one h
/-! dict displays: none, one pair -/
theorem e_dct0 : PE X (.Dict [] [] pos) (tE X.K fun ρ => some (.dict [], ρ)) := pe_dnewK.wk fun σ H Q h p hp => by
  obtain ⟨ρ, F, z, ρ', rep, e, q⟩ := h
  cases e
  exact q _ _ _ (rep.lay hp) (StpE.lay rep hp) (.dct upd_same .nil)
theorem e_dct0K : PE X (.Dict [] [] pos) (tEK X.K fun ρ => some (.dict [], ρ)) := pe_dnewK.wk fun σ H Q h p hp => by
  obtain ⟨ρ, F, z, ρ', rep, e, q⟩ := h
  cases e
  exact q p [] F _ (rep.layOff hp) (StpE.layOff hp) hp (fresh_back rep.ex hp) upd_same .nil
theorem e_dct1 {a b : Expr} {fa fb : En → Option (PyData × En)} (ha : PE X a (tE X.K fa)) (hb : PE X b (tE X.K fb)) : PE X (.Dict [some a] [b] pos) (tE X.K fun ρ => bnd (fa ρ) fun x ρ => bnd (fb ρ) fun y ρ => match keyD x with
    | some _ => some (.dict [(x, y)], ρ)
    | none => none) := (pe_disp (pps_cons ha hb pps_nil) rfl rfl (fun z => by cases z) (by simp)).wk fun σ H Q h p hp => by
  obtain ⟨ρ, F, z, ρ', rep, e, q⟩ := h
  obtain ⟨x, ρ1, e1, e⟩ := bnd_eq e
  obtain ⟨y, ρ2, e2, e⟩ := bnd_eq e
  split at e
  · rename_i kk hk
    cases e
    have nO : ¬ Own ρ σ p := rep.none_own hp
    refine ⟨ρ, F, x, ρ1, rep.layOff hp, e1, fun vx F1 H1 rep1 st1 rp1 => ⟨ρ1, F1, y, ρ', rep1, e2, fun vy F2 H2 rep2 st2 rp2 => ?_⟩⟩
    have h1 : H1 p = some (.dK []) := st1.fr p _ upd_same nO (fun _ z => by cases z)
    have nO1 : ¬ Own ρ1 σ p := fun o => nO (st1.str p o)
    have h2 : H2 p = some (.dK []) := st2.fr p _ h1 nO1 (fun _ z => by cases z)
    have nO2 : ¬ Own ρ' σ p := fun o => nO1 (st2.str p o)
    have st := ((StpE.layOff (F := F) hp).trans st1).trans st2
    have f2 : F2 p = none := by
      cases hx : F2 p with
      | none => rfl
      | some o =>
        rcases ((st1.trans st2).toStp).new p o hx with z | z | z
        · rw [fresh_back rep.ex hp] at z; cases z
        · rw [upd_same] at z; cases z
        · exact absurd z nO
    have hv : vx = kV kk := by
      cases rp1 <;> simp only [keyD] at hk <;> first | (cases hk; rfl) | cases hk
    have hx : x = kD kk := by
      cases x <;> simp only [keyD] at hk <;> first | (cases hk; rfl) | cases hk
    refine ⟨h2, [(kk, vy)], by rw [hv]; rfl, by simp, ?_⟩
    have em : mergeK [] [(kk, vy)] = [(kk, vy)] := rfl
    rw [em]
    have r3 : Rep X.K ρ' σ F2 (upd H2 p (.dK [(kk, vy)])) := rep2.off f2 nO2 h2 (fun _ z => by cases z) (fun _ z => by cases z)
    refine q (.ref p) (upd F2 p (.dK [(kk, vy)])) _ (r3.frz upd_same f2 nO2) ⟨⟨st.ext.trans (Ex.new f2), fun a o ho => ?_, fun a o ho no nt => ?_, st.own, fun a ha => st.alive a (upd_none' ha), st.pen⟩, st.str⟩ ?_
    · by_cases ea : a = p
      · subst ea; exact .inr (.inl hp)
      · rw [upd_ne ea] at ho; exact st.new a o ho
    · rw [upd_ne (ne_of_none ho hp)]
      exact st.fr a o ho no nt
    · rw [hx]
      exact .dct upd_same (.cons (rp2.mono (Ex.new f2)) .nil)
  · cases e
end
end Wh

set_option Elab.async false
set_option linter.all false
set_option maxRecDepth 100000
set_option maxHeartbeats 1000000
set_option exponentiation.threshold 5000
/-! Wh9k: comprehensions of any kind: dicts, sets. -/
namespace Wh
open PySem PySem.Spec PyProof.Rows L2 Evl
variable [Tbl]
/-- a comprehension's reading, whatever is gathered at D -/
def tCm (ob : Addr → HO) (st : Addr → L2.St → Hp → (Hp → Prop) → Prop) (wi : TI) (g : TG) (tt : TT) (vs : List Nat) : TE := fun σ H Q => wi σ H fun J H1 => ∀ D, H1 D = none → ∃ W : Nat → Nat → Hp → Prop, (∃ m, W 0 m (upd H1 D (ob D))) ∧ ∀ i m H, W i m H →
  (J.stop i H ∧ Q (.ref D) H) ∨ (J.go i H ∧ ∃ Nx : Hp → Prop, (∀ H', Nx H' → ∃ m', m' < m ∧ W (i + 1) m' H') ∧ ∀ x H', J.yld i H x H' → g x (L2.wipe σ vs) H' fun σ2 H2 => L2.wipe σ2 vs = L2.wipe σ vs ∧ tt σ2 H2 fun b H3 =>
    if b = true then st D σ2 H3 Nx else Nx H3)
/-- how what is gathered grows -/
structure Gath (K : PySem.W.Frag) (ob : Addr → HO) (st : Addr → L2.St → Hp → (Hp → Prop) → Prop) (fe : En → Option (PyData × En)) (P : List PyData → Prop) (acc : Addr → Hp → HO → List PyData → Prop) : Prop where
  zero : ∀ D F, acc D F (ob D) []
  mono : ∀ D F F' o ys, acc D F o ys → Ex F F' → acc D F' o ys
  plain : ∀ D F o ys, acc D F o ys → noT o ∧ ∀ q, o ≠ LamX.CodeO D q
  pre : ∀ a b, P (a ++ b) → P a
  step : ∀ {D : Addr} {F4 H4 : Hp} {o : HO} {ys : List PyData} {ρ4 ρ5 : En} {σ2 : L2.St} {y : PyData} {Nx : Hp → Prop}, Rep K ρ4 σ2 F4 H4 → fe ρ4 = some (y, ρ5) → H4 D = some o → ¬ Own ρ4 σ2 D → acc D F4 o ys → ys.length ≤ 100000 → P (ys ++ [y]) →
    (∀ F5 H5 o', Rep K ρ5 σ2 F5 H5 → StpE ρ4 σ2 F4 H4 ρ5 F5 H5 → H5 D = some o → acc D F5 o' (ys ++ [y]) → Nx (upd H5 D o')) → st D σ2 H4 Nx
section
variable {X : Cx} {elt tgE iter : Expr} {ifs : List Expr} {scope : Scope} {ownS : List (Str × Nat)} {pos : Pos} {tg : Tg} {fi : En → Option (List PyData × En)} {gt : En → Option (Bool × En)} {fe : En → Option (PyData × En)} {own : List Nat}
  {ob : Addr → HO} {st : Addr → L2.St → Hp → (Hp → Prop) → Prop} {P : List PyData → Prop} {acc : Addr → Hp → HO → List PyData → Prop}
theorem cm_rd (G : Gath X.K ob st fe P acc) (hsl : ∀ j ∈ slotsT tg, j ∈ own) {σ : L2.St} {H : Hp} {Q : VK} {ρ ρ1 ρ6 : En} {F : Hp} {items ys : List PyData} (rep : Rep X.K ρ σ F H) (e1 : fi ρ = some (items, ρ1)) (hn : own.all (notOwn ρ1) = true) (hz : items.length ≤ 100000)
    (e2 : cmpI (stepC tg gt fe own ρ1) items ρ1 = some (ys, ρ6)) (hP : P ys)
    (q : ∀ D o F' H', Rep X.K ρ6 σ F' H' → StpE ρ σ F H ρ6 F' H' → H D = none → F' D = none → H' D = some o → acc D F' o ys → Q (.ref D) H') :
    tCm ob st (tIt X.K fi) (tG X.K (slotsT tg) (bindT tg)) (tT X.K gt) own σ H Q := by
  refine ⟨ρ, F, items, ρ1, rep, e1, fun J F1 H1 rep1 st1 wl => fun D hD => ?_⟩
  have nD : ¬ Own ρ1 σ D := rep1.none_own hD
  have fD : F1 D = none := fresh_back rep1.ex hD
  refine ⟨fun i m H' => ∃ F' ρ' o ys1 ys2, Rep X.K ρ' σ F' H' ∧ Stp ρ1 σ F1 H1 ρ' σ F' H' ∧ (∀ a, Own ρ' σ a → Own ρ1 σ a) ∧ F' D = none ∧ H' D = some o ∧ acc D F' o ys1 ∧ cmpI (stepC tg gt fe own ρ1) (items.drop i) ρ' = some (ys2, ρ6) ∧ ys = ys1 ++ ys2 ∧ ys1.length ≤ i ∧ i ≤ items.length ∧ m = items.length - i,
    ⟨items.length, F1, ρ1, _, [], ys, rep1.layOff hD, (StpE.layOff hD).toStp, fun _ h => h, fD, upd_same, G.zero D F1, e2, rfl, Nat.le_refl _, Nat.zero_le _, rfl⟩, ?_⟩
  rintro i m H' ⟨F', ρ', o, ys1, ys2, rep', stp, ow, f', h', hacc, hcm, hys, hlen, hi, rfl⟩
  have no' : ¬ Own ρ' σ D := fun o => nD (ow D o)
  obtain ⟨pl1, pl2⟩ := G.plain _ _ _ _ hacc
  by_cases hlt : i < items.length
  · have hd : items[i]? = some items[i] := List.getElem?_eq_getElem hlt
    rw [List.drop_eq_getElem_cons hlt] at hcm
    simp only [cmpI] at hcm
    refine .inr ⟨wl.go i F' H' stp.ext rep'.ex hlt, fun H'' => ∃ m', m' < items.length - i ∧ (∃ F' ρ' o ys1 ys2, Rep X.K ρ' σ F' H'' ∧ Stp ρ1 σ F1 H1 ρ' σ F' H'' ∧ (∀ a, Own ρ' σ a → Own ρ1 σ a) ∧ F' D = none ∧ H'' D = some o ∧ acc D F' o ys1 ∧ cmpI (stepC tg gt fe own ρ1) (items.drop (i + 1)) ρ' = some (ys2, ρ6) ∧ ys = ys1 ++ ys2 ∧ ys1.length ≤ i + 1 ∧ i + 1 ≤ items.length ∧ m' = items.length - (i + 1)), fun H'' n => n, fun x H2 hy => ?_⟩
    obtain ⟨F2, rep2, st2, rp2⟩ : ∃ F2, Rep X.K ρ' σ F2 H2 ∧ StpE ρ' σ F' H' ρ' F2 H2 ∧ Rp X.K F2 x items[i] := by
      rcases wl.yld i F' H' x H2 _ stp.ext rep'.ex hd hy with ⟨rfl, h⟩ | ⟨T, o, nTo, hT, rfl, h⟩
      · exact ⟨F', rep', StpE.refl, h⟩
      · exact ⟨_, rep'.lay hT nTo, StpE.lay rep' hT, h⟩
    cases hst : stepC tg gt fe own ρ1 items[i] ρ' with
    | none => rw [hst] at hcm; cases hcm
    | some pr =>
    rw [hst] at hcm
    unfold stepC at hst
    split at hst
    · cases hst
    rename_i ρ3 hb
    obtain ⟨r, ρ4, hg, hst⟩ := bnd_eq hst
    refine ⟨wipeE ρ' own, F2, items[i], ρ3, rep2.wipe own, rp2, hb, fun σ2 rep3 o3 k3 l3 => ?_⟩
    have hw : L2.wipe σ2 own = L2.wipe σ own := by
      rw [wipe_eq (σ := L2.wipe σ own) (σ' := σ2) (fun j hj => k3 j fun z => hj (hsl j z)) l3]
      exact wipe_eq (fun j hj => wipe_out hj) (wipe_length σ own)
    refine ⟨hw, ρ3, F2, r, ρ4, rep3, hg, fun F4 H4 rep4 st4 => ?_⟩
    have s2 : Stp ρ1 σ F1 H1 ρ' σ F2 H2 := stp.trans st2.toStp
    have s3 : Stp ρ1 σ F1 H1 ρ3 σ2 F2 H2 := s2.trans (Stp.same (sub_wipe.trans o3))
    have s4 : Stp ρ1 σ F1 H1 ρ4 σ2 F4 H4 := s3.trans st4.toStp
    have ow3 : ∀ a, Own ρ3 σ2 a → Own ρ1 σ a := fun a o => ow a (own_wipe (o3.own a o))
    have ow4 : ∀ a, Own ρ4 σ2 a → Own ρ1 σ a := fun a o => ow3 a (st4.str a o)
    have h2D : H2 D = some o := st2.fr D _ h' no' pl1
    have out : ∀ {ρa ρb : En} {σa : L2.St} {Fa Ha Fb Hb : Hp}, StpE ρa σa Fa Ha ρb Fb Hb → Fa D = none → Ha D = some o → ¬ Own ρa σa D → Fb D = none := fun {ρa ρb σa Fa Ha Fb Hb} s a1 a2 a3 => by
      cases hx : Fb D with
      | none => rfl
      | some u =>
        rcases s.new D u hx with z | z | z
        · rw [a1] at z; cases z
        · rw [a2] at z; cases z
        · exact absurd z a3
    have f2D : F2 D = none := out st2 f' h' no'
    have h4D : H4 D = some o := st4.fr D _ h2D (fun o => nD (ow3 D o)) pl1
    have f4D : F4 D = none := out st4 f2D h2D fun o => nD (ow3 D o)
    have acc4 : acc D F4 o ys1 := G.mono _ _ _ _ _ (G.mono _ _ _ _ _ hacc st2.ext) st4.ext
    cases r with
    | false =>
      cases hst
      refine L2.iteF ?_
      simp only at hcm
      exact ⟨items.length - (i + 1), by omega, F4, backE ρ1 ρ4 own, o, ys1, ys2, Rep.back rep1 s4.ext rep4 hw hn, s4.trans (Stp.same (sub_back hw hn)), fun a o => ow4 a (own_back o hw hn), f4D, h4D, acc4, hcm, hys, by omega, hlt, rfl⟩
    | true =>
      obtain ⟨y, ρ5, he, hst⟩ := bnd_eq hst
      cases hst
      refine L2.iteT ?_
      simp only at hcm
      split at hcm
      · cases hcm
      rename_i ys3 ρ7 hcm'
      cases hcm
      have hys' : ys = (ys1 ++ [y]) ++ ys3 := by rw [hys, List.append_assoc]; rfl
      refine G.step rep4 he h4D (fun o => nD (ow4 D o)) acc4 (by omega) (G.pre _ ys3 (by rw [← hys']; exact hP)) fun F5 H5 o' rep5 st5 h5D acc5 => ?_
      have s5 : Stp ρ1 σ F1 H1 ρ5 σ2 F5 H5 := s4.trans st5.toStp
      have ow5 : ∀ a, Own ρ5 σ2 a → Own ρ1 σ a := fun a o => ow4 a (st5.str a o)
      have f5D : F5 D = none := out st5 f4D h4D fun o => nD (ow4 D o)
      have r5 : Rep X.K ρ5 σ2 F5 (upd H5 D o') := rep5.off f5D (fun o => nD (ow5 D o)) h5D pl1 pl2
      exact ⟨items.length - (i + 1), by omega, F5, backE ρ1 ρ5 own, o', ys1 ++ [y], ys3, Rep.back rep1 s5.ext r5 hw hn,
        (s5.trans (Stp.same (sub_back hw hn))).offD hD, fun a o => ow5 a (own_back o hw hn), f5D, upd_same, acc5, hcm', hys', by rw [List.length_append]; simp; omega, hlt, rfl⟩
  · have hi' : i = items.length := by omega
    subst hi'
    rw [List.drop_length] at hcm
    simp only [cmpI] at hcm
    cases hcm
    rw [List.append_nil] at hys
    subst hys
    exact .inl ⟨wl.stop _ F' H' stp.ext rep'.ex rfl, q D o F' H' rep' (st1.trans ⟨stp, ow⟩) (st1.alive D hD) f' h' hacc⟩
end
/-! ### dicts -/
theorem mrgD_app : ∀ (a b : List PyData) (acc : List (PyData × PyData)), mrgD acc (a ++ b) = (mrgD acc a).bind fun k => mrgD k b
  | [], b, acc => rfl
  | x :: a, b, acc => by
    simp only [List.cons_append, mrgD]
    cases pairD x with
    | none => rfl
    | some p => exact mrgD_app a b _
theorem pairD_eq {x : PyData} {p : PyData × PyData} (h : pairD x = some p) : ∃ k, p.1 = kD k ∧ x = .tuple [kD k, p.2] := by
  unfold pairD at h
  split at h
  · split at h
    · rename_i k hk
      cases h
      exact ⟨k, keyD_eq hk, by rw [← keyD_eq hk]⟩
    · cases h
  · cases h
theorem length_dput (kds : List (PyData × PyData)) (x y : PyData) : (dputD kds x y).length ≤ kds.length + 1 := by
  unfold dputD
  split <;> simp
theorem mrgD_len : ∀ (a : List PyData) (acc k : List (PyData × PyData)), mrgD acc a = some k → k.length ≤ acc.length + a.length
  | [], acc, k, h => by simp only [mrgD] at h; cases h; simp
  | x :: a, acc, k, h => by
    simp only [mrgD] at h
    split at h
    · have := mrgD_len a _ k h
      have := length_dput acc ‹PyData × PyData›.1 ‹PyData × PyData›.2
      simp only [List.length_cons]
      omega
    · cases h
def accK (K : PySem.W.Frag) (_ : Addr) (F : Hp) (o : HO) (ys : List PyData) : Prop := ∃ kvs kds, o = .dK kvs ∧ RpK K F kvs kds ∧ mrgD [] ys = some kds
def stK (tk tv : TE) (D : Addr) (σ : L2.St) (H3 : Hp) (Nx : Hp → Prop) : Prop := tk σ H3 fun y H4 => tv σ H4 fun z H5 => ∃ kvs k, y = kV k ∧ H5 D = some (.dK kvs) ∧ kvs.length < sizeLine ∧ Nx (upd H5 D (.dK (putK kvs k z)))
theorem gathK {K : PySem.W.Frag} {fk fv : En → Option (PyData × En)} : Gath K (fun _ => .dK []) (stK (tE K fk) (tE K fv)) (fun ρ => bnd (fk ρ) fun x ρ => bnd (fv ρ) fun y ρ => some (.tuple [x, y], ρ)) (fun ys => ∃ kds, mrgD [] ys = some kds) (accK K) where
  zero D F := ⟨[], [], rfl, .nil, rfl⟩
  mono D F F' o ys h e := by
    obtain ⟨kvs, kds, h1, h2, h3⟩ := h
    exact ⟨kvs, kds, h1, h2.mono e, h3⟩
  plain D F o ys h := by
    obtain ⟨kvs, kds, rfl, h2, h3⟩ := h
    exact ⟨fun _ z => (by cases z), fun _ z => by unfold LamX.CodeO at z; cases z⟩
  pre a b h := by
    obtain ⟨kds, h⟩ := h
    rw [mrgD_app] at h
    cases ha : mrgD [] a with
    | none => rw [ha] at h; cases h
    | some k => exact ⟨k, rfl⟩
  step := fun {D F4 H4 o ys ρ4 ρ5 σ2 y Nx} rep4 he hD no hacc hl hP q => by
    obtain ⟨x, ρa, e1, he⟩ := bnd_eq he
    obtain ⟨z, ρb, e2, he⟩ := bnd_eq he
    cases he
    obtain ⟨kvs, kds, rfl, h2, h3⟩ := hacc
    obtain ⟨kds', h4⟩ := hP
    rw [mrgD_app, h3] at h4
    simp only [Option.bind_some, mrgD] at h4
    cases hp : pairD (.tuple [x, z]) with
    | none => rw [hp] at h4; cases h4
    | some p =>
      obtain ⟨k, g1, g2⟩ := pairD_eq hp
      injection g2 with g2
      injection g2 with g3 g4
      injection g4 with g4 _
      subst g3
      refine ⟨ρ4, F4, _, ρa, rep4, e1, fun vy Fa Ha repa sta rpa => ?_⟩
      cases rpa.key
      refine ⟨ρa, Fa, z, ρ5, repa, e2, fun vz Fb Hb repb stb rpb => ?_⟩
      have hDa : Ha D = some (.dK kvs) := sta.fr D _ hD no (fun _ z => by cases z)
      have hDb : Hb D = some (.dK kvs) := stb.fr D _ hDa (fun o => no (sta.str D o)) (fun _ z => by cases z)
      have hz : kds.length ≤ ys.length := by have := mrgD_len _ _ _ h3; simpa using this
      refine ⟨kvs, k, rfl, hDb, by rw [h2.len]; exact Nat.lt_of_le_of_lt (Nat.le_trans hz hl) (by decide), q Fb Hb _ repb (sta.trans stb) hDb ⟨_, dputD kds (kD k) z, rfl, ((h2.mono sta.ext).mono stb.ext).put rpb k, ?_⟩⟩
      rw [mrgD_app, h3]
      simp only [Option.bind_some, mrgD, hp]
      rw [g1, ← g4]
section
variable {X : Cx} {kx vx tgE iter : Expr} {ifs : List Expr} {scope : Scope} {ownS : List (Str × Nat)} {pos : Pos} {tg : Tg} {fi : En → Option (List PyData × En)} {gt : En → Option (Bool × En)} {fk fv : En → Option (PyData × En)} {own : List Nat}
/-- the evaluation of a dict comprehension -/
def evDc (tg : Tg) (fi : En → Option (List PyData × En)) (gt : En → Option (Bool × En)) (fe : En → Option (PyData × En)) (own : List Nat) : En → Option (PyData × En) := fun ρ => if own.all (notOwn ρ) then bnd (fi ρ) fun xs ρ1 => if own.all (notOwn ρ1) ∧ xs.length ≤ 100000 then bnd (cmpI (stepC tg gt fe own ρ1) xs ρ1) fun ys ρ6 => match mrgD [] ys with
      | some kds => some (.dict kds, ρ6)
      | none => none else none else none
theorem dc_rd (hsl : ∀ j ∈ slotsT tg, j ∈ own) (σ : L2.St) (H : Hp) (Q : VK)
    (h : tEK X.K (evDc tg fi gt (fun ρ => bnd (fk ρ) fun x ρ => bnd (fv ρ) fun y ρ => some (.tuple [x, y], ρ)) own) σ H Q) :
    tDc (tIt X.K fi) (tG X.K (slotsT tg) (bindT tg)) (tT X.K gt) (tE X.K fk) (tE X.K fv) own σ H Q := by
  obtain ⟨ρ, F, kds, ρ6, rep, e, q⟩ := h
  unfold evDc at e
  split at e
  case isFalse => cases e
  obtain ⟨items, ρ1, e1, e⟩ := bnd_eq e
  split at e
  case isFalse => cases e
  rename_i hn0 hn
  obtain ⟨ys, ρ6', e2, e⟩ := bnd_eq e
  split at e
  · rename_i kds' hk
    cases e
    exact cm_rd (gathK (K := X.K) (fk := fk) (fv := fv)) hsl rep e1 hn.1 hn.2 e2 ⟨_, hk⟩ fun D o F' H' r s a b c d => by
      obtain ⟨kvs, kds2, rfl, h2, h3⟩ := d
      rw [hk] at h3
      cases h3
      exact q D kvs F' H' r s a b c h2
  · cases e
theorem dc_dict (fe : En → Option (PyData × En)) : ∀ ρ x ρ', evDc tg fi gt fe own ρ = some (x, ρ') → ∃ xs, x = .dict xs := fun ρ x ρ' e => by
  unfold evDc at e
  split at e
  case isFalse => cases e
  obtain ⟨items, ρ1, e1, e⟩ := bnd_eq e
  split at e
  case isFalse => cases e
  obtain ⟨ys, ρ6', e2, e⟩ := bnd_eq e
  split at e
  · cases e; exact ⟨_, rfl⟩
  · cases e
theorem k_comp (hc : X.calm = true) (hN : X.N.Nodup) (hi : PI X tgE iter (tIt X.K fi)) (ok : BlkOk X.N X.env.scope scope ownS) (ho : ownS.map (·.2) = own) (hsl : ∀ j ∈ slotsT tg, j ∈ own)
    (hg : ∀ (s : Shared) (H : Hp) (C : Addr) (cl : List (Str × Addr)) (fp : List Addr), PG (X.blk s H scope (compEnvC scope cl C X.env) fp) tgE (tG X.K (slotsT tg) (bindT tg)))
    (ht : ∀ (s : Shared) (H : Hp) (C : Addr) (cl : List (Str × Addr)) (fp : List Addr), PTs (X.blk s H scope (compEnvC scope cl C X.env) fp) ifs (tT X.K gt))
    (hk : ∀ (s : Shared) (H : Hp) (C : Addr) (cl : List (Str × Addr)) (fp : List Addr), PE (X.blk s H scope (compEnvC scope cl C X.env) fp) kx (tE X.K fk))
    (hv : ∀ (s : Shared) (H : Hp) (C : Addr) (cl : List (Str × Addr)) (fp : List Addr), PE (X.blk s H scope (compEnvC scope cl C X.env) fp) vx (tE X.K fv)) (hs : ∀ x, foldedSetIterable iter X.env x = pure x) :
    PE X (.DictComp kx vx [⟨tgE, iter, ifs, 0⟩] scope pos) (tEK X.K (evDc tg fi gt (fun ρ => bnd (fk ρ) fun x ρ => bnd (fv ρ) fun y ρ => some (.tuple [x, y], ρ)) own)) := by
  subst ho
  exact (pe_dc hc hN hi ok hg ht hk hv hs).wk fun σ H Q h => dc_rd hsl σ H Q h
/-- y = {..} -/
theorem s_setDc {i : Nat} {y : Str} {py spos : Pos} (hc : X.calm = true) (hN : X.N.Nodup) (hy : X.N[i]? = some y) (hyl : X.env.scope.names.lookup y = some .local)
    (hsw : swapsWith (.DictComp kx vx [⟨tgE, iter, ifs, 0⟩] scope pos) (some (.Name y py)) spos.line X.env = pure true) (hi : PI X tgE iter (tIt X.K fi)) (ok : BlkOk X.N X.env.scope scope ownS) (ho : ownS.map (·.2) = own) (hsl : ∀ j ∈ slotsT tg, j ∈ own)
    (hg : ∀ (s : Shared) (H : Hp) (C : Addr) (cl : List (Str × Addr)) (fp : List Addr), PG (X.blk s H scope (compEnvC scope cl C X.env) fp) tgE (tG X.K (slotsT tg) (bindT tg)))
    (ht : ∀ (s : Shared) (H : Hp) (C : Addr) (cl : List (Str × Addr)) (fp : List Addr), PTs (X.blk s H scope (compEnvC scope cl C X.env) fp) ifs (tT X.K gt))
    (hk : ∀ (s : Shared) (H : Hp) (C : Addr) (cl : List (Str × Addr)) (fp : List Addr), PE (X.blk s H scope (compEnvC scope cl C X.env) fp) kx (tE X.K fk))
    (hv : ∀ (s : Shared) (H : Hp) (C : Addr) (cl : List (Str × Addr)) (fp : List Addr), PE (X.blk s H scope (compEnvC scope cl C X.env) fp) vx (tE X.K fv)) (hs : ∀ x, foldedSetIterable iter X.env x = pure x) :
    PS X (.Assign [.Name y py] (.DictComp kx vx [⟨tgE, iter, ifs, 0⟩] scope pos) spos) (tAsg (tEK X.K (evDc tg fi gt (fun ρ => bnd (fk ρ) fun x ρ => bnd (fv ρ) fun y ρ => some (.tuple [x, y], ρ)) own)) (gName i)) := by
  subst ho
  refine ⟨fun pins s σ H D I h => ?_⟩
  have h := dc_rd hsl σ H _ h
  rw [exec_Assign_Name_used _ _ _ _ hsw]
  refine wpAny_bind (wpAny_standAt (wpAny_bind ?_))
  show wpAny _ X.A (do let _ ← comprehension (.DictComp kx vx [⟨tgE, iter, ifs, 0⟩] scope pos) scope X.env (firstIterPos [⟨tgE, iter, ifs, 0⟩] pos) newDict false (eval iter X.env) (some (assign (.Name y py) X.env))) _ _ s
  refine wpAny_bind (thn (dc_core (Qf := fun _ s' => SP X pins D .next s') hc hN I hi ok hg ht hk hv hs h fun L C s' m H' I' q hn f => ?_) fun _ s' hq => wpAny_pure (wpAny_pure hq))
  show wpAny _ _ (assign (.Name y py) X.env (.ref L)) _ _ _
  refine wpAny_assign_Name (store_ok2 (v := V.ref L) I' hN hy (.inl hyl) rfl (fun s2 I2 ⟨a, sb, ha⟩ => ?_) (.inr hyl))
  obtain ⟨g0, g1, g2, g3, g4, g5⟩ := f
  have nCa : C ≠ a := ha.elim (fun z => by rw [z]; exact g1) fun z e => g4 y a z e.symm
  exact ⟨m, hn.sameBut sb nCa, fun h3 sb3 => ⟨_, H', I2.turned (t' := s2.toks) (fun b o hb e => (sb3.2 b hb).trans e) g0 g1 g3 g4 g5, q⟩⟩
end
/-! ### sets of whole numbers, sorted -/
theorem heap_at (a : Addr) (o : Obj) (ho : ∀ c d s, o ≠ ⟨c, d, .freed, s⟩) : ∃ h : Heap, h.get? a = some o := by
  refine ⟨⟨Array.replicate (a + 1) o, {}⟩, ?_⟩
  unfold Heap.get?
  have e : (Array.replicate (a + 1) o)[a]? = some o := by simp
  rw [e]
  obtain ⟨c, d, dt, s⟩ := o
  cases dt <;> first | rfl | exact absurd rfl (ho c d s)
theorem setO_code {w : World} {a : Addr} {S : Int → Bool} {n : Nat} {q : Str} : SetO w a S n ≠ LamX.CodeO a q := fun z => by
  unfold SetO LamX.CodeO at z
  injection z with z
  obtain ⟨h, hh⟩ := heap_at a { cls := .none, data := .fields #[.none, .str q default] } (fun c d s e => by cases e)
  have e := congrFun z h
  have c2 : ∃ (oc : Obj) (vs : Array Value) (t : Tok), h.get? a = some oc ∧ oc.data = .fields vs ∧ vs[1]? = some (.str q t) := ⟨_, _, _, hh, rfl, rfl⟩
  rw [← e] at c2
  obtain ⟨o, es, ep, t, h1, h2, h3, _⟩ := c2
  rw [hh] at h1
  cases h1
  cases h3
theorem setO_tbl {w : World} {a : Addr} {S : Int → Bool} {n : Nat} : noT (SetO w a S n) := fun ps z => by unfold SetO at z; cases z
section
variable {X : Cx}
def obS (w : World) (D : Addr) : HO := SetO w D (fun _ => false) 0
def stS (w : World) (te : TE) (D : Addr) (σ : L2.St) (H3 : Hp) (Nx : Hp → Prop) : Prop := te σ H3 fun y H4 => ∃ (k : Int) (S : Int → Bool) (n : Nat), y = .int k ∧ H4 D = some (SetO w D S n) ∧ n + 1 < scanBound ∧ Nx (upd H4 D (SetO w D (fun j => S j || decide (j = k)) (if S k = true then n else n + 1)))
/-- set.add, D at hand -/
theorem add_int {pins : List (Addr × Obj)} {σ : L2.St} {H : Hp} {s : Shared} {E : Value → Shared → Prop} {D : Addr} {S : Int → Bool} {n : Nat} {k : Int} {u : Value} {Q : Value → Shared → Prop} (I : Inv X pins σ H s) (hD : H D = some (SetO X.w D S n)) (rm : n + 1 < scanBound) (ru : RelV (.int k) u)
    (fin : ∀ s', Inv X pins σ (upd H D (SetO X.w D (fun j => S j || decide (j = k)) (if S k = true then n else n + 1))) s' → Q .none s') : wpAny (model X.prog X.w) X.A (call (.builtin "set.add") [.ref D, u]) Q E s := by
  obtain ⟨tk, rfl⟩ := ru
  refine setR_add (setO_get I hD) rm fun h' sb nw => fin _ ?_
  have ⟨o, _, _, _, at_, _⟩ := nw
  exact I.write (e := D) (t' := s.toks + 1) (by rw [hD]; trivial) (.inl rfl) (fun b v hb hv => (sb.2 b hb).trans hv) ⟨o, at_⟩ (setO_new nw)
theorem set_fresh (w : World) {h : Heap} : SetR w (h.push { cls := .type "set", dict := none, data := .set #[] 0 (.fresh 0 0 (!w.params.followText "set-order")) }) h.objs.size (fun _ => false) 0 := by
  have := setR_new_at (w := w) (ns := []) (Heap.get?_push_size (o := { cls := .type "set", dict := none, data := .set #[] 0 (.fresh 0 0 (!w.params.followText "set-order")) }) h rfl)
  exact this.congr fun k => by simp
variable {elt tgt itr : Expr} {tests : List Expr} {sc : Scope} {ow : List (Str × Nat)} {ps : Pos} {wi : TI} {g : TG} {tt : TT} {te : TE}
/-- {elt for .. in .. if ..}, whole numbers -/
theorem pe_setI (calm : X.calm = true) (ndN : X.N.Nodup) (pI : PI X tgt itr wi) (bk : BlkOk X.N X.env.scope sc ow)
    (pG : ∀ (s : Shared) (H : Hp) (C : Addr) (cl : List (Str × Addr)) (fp : List Addr), PG (X.blk s H sc (compEnvC sc cl C X.env) fp) tgt g)
    (pT : ∀ (s : Shared) (H : Hp) (C : Addr) (cl : List (Str × Addr)) (fp : List Addr), PTs (X.blk s H sc (compEnvC sc cl C X.env) fp) tests tt)
    (pE : ∀ (s : Shared) (H : Hp) (C : Addr) (cl : List (Str × Addr)) (fp : List Addr), PE (X.blk s H sc (compEnvC sc cl C X.env) fp) elt te) (noFold : ∀ x, foldedSetIterable itr X.env x = pure x) :
    PE X (.SetComp elt [⟨tgt, itr, tests, 0⟩] sc ps) (tCm (obS X.w) (stS X.w te) wi g tt (ow.map (·.2))) := by
  refine ⟨fun pins s σ H Q I rd => ?_⟩
  rw [arm_eval_SetComp]
  have inCell : ∀ y ∈ sc.names, y.2 = .free → ∃ c, X.env.cells.lookup y.1 = some c := fun y hy e => I.ok.has _ (bk.free y hy e)
  refine wpAny_comprehension_free (use := none) rfl noFold (closure_ok inCell) bk.kind (fun y hy e => by rw [bk.uniq y hy, e]) (thn (pI.run pins s σ H _ I rd) fun xv sa hx => thn hx fun itv sb hb => ?_)
  obtain ⟨ia, fp, tn, J, Hb, rfl, Ib, T, tnb, fpb, q⟩ := hb
  refine PySem.wpAny_newSet_raw fun led hled => newEnv_comp ?_
  subst hled
  generalize eD : sb.heap.objs.size = D
  have newD : Hb D = none := Ib.hok.fresh (Nat.le_of_eq eD)
  obtain ⟨W, ⟨m0, W0⟩, turn⟩ := q D newD
  generalize eO : ({ cls := .type "set", dict := none, data := .set #[] 0 (.fresh 0 0 (!X.w.params.followText "set-order")) } : Obj) = oS
  generalize e3 : ({ sb with heap := sb.heap.push oS } : Shared) = sd
  have hp3 : sd.heap = sb.heap.push oS := by rw [← e3]
  have Id : Inv X pins σ (upd Hb D (obS X.w D)) sd := by
    rw [← e3]
    refine Ib.laid (t' := sb.toks) (fun b o e => Heap.get?_push_of_some _ e) (Nat.le_of_eq eD) ?_
    rw [← eD, ← eO]
    exact setO_new (set_fresh X.w)
  have below : ∀ b ∈ fp, b < sb.heap.objs.size := fun b hb => let ⟨_, e, _⟩ := T.obj _ _ tnb b hb; Heap.lt_size e
  have fpd : ∀ b ∈ fp, FpOk X pins (upd Hb D (obS X.w D)) b ∧ b < sd.heap.objs.size := fun b hb => by
    have lt := below b hb
    refine ⟨⟨by rw [upd_ne (by rw [← eD]; exact Nat.ne_of_lt lt)]; exact (fpb b hb).1, (fpb b hb).2⟩, ?_⟩
    rw [hp3, Heap.size_push]
    exact Nat.lt_succ_of_lt lt
  have tnd : tn 0 sd.heap := T.keep _ _ _ tnb fun b _ o e => by rw [hp3]; exact Heap.get?_push_of_some _ e
  have Ie := block_start Id bk ndN fpd
  generalize eC : cellsFrom (sd.heap.objs.size + 1) sc.names (cloFrom X.env.cells sc.names []) = cs at Ie
  have gG := pG sd (upd Hb D (obS X.w D)) sd.heap.objs.size cs fp
  have gT := pT sd (upd Hb D (obS X.w D)) sd.heap.objs.size cs fp
  have gE := pE sd (upd Hb D (obS X.w D)) sd.heap.objs.size cs fp
  show codeAny _ _ (.compStart (.SetComp elt [⟨tgt, itr, tests, 0⟩] sc ps) 0 (.ref ia) (.ref D) (compEnvC sc cs sd.heap.objs.size X.env)) (compPost (model X.prog X.w) X.A X.xe none (EP X pins σ Q) (.ref D) sd.heap.objs.size) { sd with heap := pushCells (sd.heap.push { cls := .type "dict", data := .dict #[] }) sc.names }
  have nfp : ∀ b ∈ fp, (upd Hb D (obS X.w D)) b = none := fun b hb => (fpd b hb).1.1
  generalize eE : compEnvC sc cs sd.heap.objs.size X.env = ce at Ie gG gT gE ⊢
  have cL : ce.locals = sd.heap.objs.size := by subst eE; rfl
  generalize eH : upd Hb D (obS X.w D) = Hd at Id Ie gG gT gE W0 fpd nfp
  generalize e4 : ({ sd with heap := pushCells (sd.heap.push { cls := .type "dict", data := .dict #[] }) sc.names } : Shared) = se at Ie ⊢
  have tne : tn 0 se.heap := T.keep _ _ _ tnd fun b _ o e => by rw [← e4]; exact pushCells_keeps _ _ _ _ (Heap.get?_push_of_some _ e)
  have fpk : ∀ {σ' : L2.St} {H' : Hp} {s' : Shared}, Inv (X.blk sd Hd sc ce fp) [] σ' H' s' → (∀ b ∈ fp, H' b = none) → ∀ b ∈ fp, FpOk (X.blk sd Hd sc ce fp) [] H' b := fun {σ' H' s'} I' hn b hb =>
    ⟨hn b hb, (I'.ok.exf b hb).1, I'.ok.exfs b hb, .inl hb, fun x c e => (I'.ok.exf b hb).2 x c e, fun p hp => absurd (show p ∈ ([] : List (Addr × Obj)) ++ [] from hp) (by simp)⟩
  have run : codeAny (model X.prog X.w) X.A (.compLoop (.SetComp elt [⟨tgt, itr, tests, 0⟩] sc ps) 0 (.ref ia) (.ref D) ce) (compPost (model X.prog X.w) X.A X.xe none (EP X pins σ Q) (.ref D) sd.heap.objs.size) se := by
    refine PySem.compLoop_set_any (fun n s' => ∃ i H', Inv (X.blk sd Hd sc ce fp) [] (L2.wipe σ (ow.map (·.2))) H' s' ∧ tn i s'.heap ∧ (∀ b ∈ fp, H' b = none) ∧ W i n H') ?_ m0 ⟨0, Hd, Ie, tne, nfp, W0⟩
    rintro n s5 ⟨i, H5, I5, tn5, n5, w5⟩
    rcases turn i n H5 w5 with ⟨halt, qq⟩ | ⟨go, Nx, hNx, stp⟩
    · refine thnF (T.done (X.blk sd Hd sc ce fp) rfl rfl rfl calm i [] s5 _ H5 (fun _ _ => False) I5 (fpk I5 n5) tn5 halt) fun r s6 ⟨hr, I6⟩ => ?_
      subst hr
      have I7 : Inv X pins σ H5 s6 := Id.call' (ch := fp) I6.os I6.base I6.hok I6.bare fun b hb => let z := (fpd b hb).1.2; ⟨z.2.2.1, z.1, z.2.2.2.1, z.2.2.2.2⟩
      have nC : H5 sd.heap.objs.size = none := cL ▸ (show H5 ce.locals = none from I6.free)
      obtain ⟨m, hm, _⟩ := I6.loc
      have hm : s6.heap.Ns ce.locals m := hm
      rw [cL] at hm
      obtain ⟨f0, f1, f2, f3, f4, f5⟩ := Id.fpOk (Nat.le_refl _) nC
      exact ⟨m, hm, fun h'' sbt => ⟨.ref D, H5, I7.turned (t' := s6.toks) (fun b o hb e => (sbt.2 b hb).trans e) f0 f1 f3 f4 f5, rfl, qq⟩⟩
    · refine thnF (T.item (X.blk sd Hd sc ce fp) rfl rfl rfl calm i [] s5 _ H5 (fun _ _ => False) I5 (fpk I5 n5) tn5 go) fun r s6 ⟨u, hr, h6⟩ => ?_
      subst hr
      refine thnF h6 fun _ s7 ⟨x, H7, I7, r7, y7, tn7, n7⟩ => ?_
      have I7' := I7.pinned (fpk I7 n7) (T.obj _ _ tn7)
      refine thnF (gG.run _ s7 _ H7 x u _ I7' r7 (stp x H7 y7)) fun _ s8 ⟨σ8, H8, I8, hw8, q8⟩ => ?_
      refine thnF (gT.run _ s8 σ8 H8 _ I8 q8) fun b s9 ⟨H9, I9, q9⟩ => ?_
      have fin : ∀ {s' : Shared} {H' : Hp}, Inv (X.blk sd Hd sc ce fp) ([] ++ pinsAt fp s7.heap) σ8 H' s' → Nx H' → ∃ m, m < n ∧ ∃ i H', Inv (X.blk sd Hd sc ce fp) [] (L2.wipe σ (ow.map (·.2))) H' s' ∧ tn i s'.heap ∧ (∀ b ∈ fp, H' b = none) ∧ W i m H' := fun {s' H'} I' nx => by
        obtain ⟨m', hm, w'⟩ := hNx H' nx
        have pn : ∀ b ∈ fp, ∀ o, s7.heap.get? b = some o → s'.heap.get? b = some o ∧ H' b = none := fun b hb o e =>
          let z := I'.pin (b, o) (List.mem_append_right _ (List.mem_append_right _ (mem_pinsAt hb e)))
          ⟨z.1, z.2.1⟩
        have hl : (L2.wipe σ (ow.map (·.2))).length = σ8.length := by rw [← hw8, wipe_length]
        refine ⟨m', hm, i + 1, H', (I'.unpinned (pins := [])).weak hl (fun j v e => ?_), T.keep _ _ _ tn7 fun b hb o e => (pn b hb o e).1, fun b hb => ?_, w'⟩
        · rw [← hw8] at e
          exact (wipe_some e).1
        · obtain ⟨o, e, _⟩ := T.obj _ _ tn7 b hb
          exact (pn b hb o e).2
      cases b with
      | false =>
        simp only [Bool.false_eq_true, if_false] at q9 ⊢
        exact fin I9 q9
      | true =>
        simp only [if_true] at q9 ⊢
        refine thnF (gE.run _ s9 σ8 H9 _ I9 q9) fun z s10 ⟨y, H10, I10, r10, k, S, c, ey, hD, rm, nx⟩ => ?_
        subst ey
        exact add_int (X := X.blk sd Hd sc ce fp) I10 hD rm r10 fun s11 I11 => fin I11 nx
  exact PySem.codeAny_compStart_set run (T.self X.A 0 _ _ _ tne run)
def accS (w : World) (D : Addr) (_ : Hp) (o : HO) (ys : List PyData) : Prop := ∃ ns n, intsD ys = some ns ∧ n ≤ ns.length ∧ o = SetO w D (fun j => decide (j ∈ ns)) n
theorem intsD_app : ∀ (a b : List PyData), intsD (a ++ b) = (intsD a).bind fun x => (intsD b).map (x ++ ·)
  | [], b => by simp [intsD]
  | x :: a, b => by
    cases x <;> simp only [List.cons_append, intsD] <;> try rfl
    rw [intsD_app a b]
    cases intsD a <;> simp
    cases intsD b <;> simp
theorem gathS {K : PySem.W.Frag} {w : World} {fe : En → Option (PyData × En)} : Gath K (obS w) (stS w (tE K fe)) fe (fun ys => ∃ ns, intsD ys = some ns ∧ ns.length < 64) (accS w) where
  zero D F := ⟨[], 0, rfl, Nat.le_refl _, by unfold obS; congr⟩
  mono D F F' o ys h e := h
  plain D F o ys h := by
    obtain ⟨ns, n, _, _, rfl⟩ := h
    exact ⟨setO_tbl, fun _ => setO_code⟩
  pre a b h := by
    obtain ⟨ns, h, hl⟩ := h
    rw [intsD_app] at h
    cases ha : intsD a with
    | none => rw [ha] at h; cases h
    | some x =>
      refine ⟨x, rfl, ?_⟩
      rw [ha] at h
      simp only [Option.bind_some, Option.map_eq_some_iff] at h
      obtain ⟨y, _, rfl⟩ := h
      rw [List.length_append] at hl
      omega
  step := fun {D F4 H4 o ys ρ4 ρ5 σ2 y Nx} rep4 he hD no hacc hl hP q => by
    obtain ⟨ns, n, h1, h2, rfl⟩ := hacc
    obtain ⟨ns', h3, h4⟩ := hP
    rw [intsD_app, h1] at h3
    have hy : ∃ k, y = .int k := by
      cases y with
      | int k => exact ⟨k, rfl⟩
      | _ => simp [intsD] at h3
    obtain ⟨k, rfl⟩ := hy
    simp [intsD] at h3
    subst h3
    rw [List.length_append] at h4
    refine ⟨ρ4, F4, _, ρ5, rep4, he, fun vy Fa Ha repa sta rpa => ?_⟩
    cases rpa
    have hDa := sta.fr D _ hD no setO_tbl
    have eq : (fun j => decide (j ∈ ns) || decide (j = k)) = fun j => decide (j ∈ ns ++ [k]) := by
      funext j
      simp [List.mem_append, Bool.decide_or]
    refine ⟨k, _, n, rfl, hDa, by unfold scanBound; omega, q Fa Ha _ repa sta hDa ⟨ns ++ [k], (if decide (k ∈ ns) = true then n else n + 1), by rw [intsD_app, h1]; rfl, ?_, by rw [eq]⟩⟩
    rw [List.length_append]
    simp only [List.length_singleton]
    split <;> omega
end
section
variable {X : Cx} {elt tgE iter : Expr} {ifs : List Expr} {scope : Scope} {ownS : List (Str × Nat)} {pos : Pos} {tg : Tg} {fi : En → Option (List PyData × En)} {gt : En → Option (Bool × En)} {fe : En → Option (PyData × En)} {own : List Nat}
/-- the evaluation of sorted({..}) -/
def evSc (tg : Tg) (fi : En → Option (List PyData × En)) (gt : En → Option (Bool × En)) (fe : En → Option (PyData × En)) (own : List Nat) : En → Option (PyData × En) := fun ρ => if own.all (notOwn ρ) then bnd (fi ρ) fun xs ρ1 => if own.all (notOwn ρ1) ∧ xs.length ≤ 100000 then bnd (cmpI (stepC tg gt fe own ρ1) xs ρ1) fun ys ρ6 => ret (srsL ys) ρ6 else none else none
theorem srsL_lst {ys : List PyData} {x : PyData} (h : srsL ys = some x) : ∃ ns, intsD ys = some ns ∧ ns.length < 64 ∧ x = .list ((srtU ns).map .int) := by
  unfold srsL at h
  cases hi : intsD ys with
  | none => rw [hi] at h; cases h
  | some ns =>
    rw [hi] at h
    simp only at h
    split at h
    · cases h; exact ⟨ns, rfl, by assumption, rfl⟩
    · cases h
theorem sc_list : ∀ ρ x ρ', evSc tg fi gt fe own ρ = some (x, ρ') → ∃ xs, x = .list xs := fun ρ x ρ' e => by
  unfold evSc at e
  split at e
  case isFalse => cases e
  obtain ⟨items, ρ1, e1, e⟩ := bnd_eq e
  split at e
  case isFalse => cases e
  obtain ⟨ys, ρ6', e2, e⟩ := bnd_eq e
  obtain ⟨z, e3, e⟩ := ret_eq e
  cases e
  obtain ⟨ns, _, _, rfl⟩ := srsL_lst e3
  exact ⟨_, rfl⟩
theorem l_scomp {p : Pos} (hc : X.calm = true) (hN : X.N.Nodup) (hg0 : Gl X "sorted") (hm : X.mg "sorted" = none) (hi : PI X tgE iter (tIt X.K fi)) (ok : BlkOk X.N X.env.scope scope ownS) (ho : ownS.map (·.2) = own) (hsl : ∀ j ∈ slotsT tg, j ∈ own)
    (hg : ∀ (s : Shared) (H : Hp) (C : Addr) (cl : List (Str × Addr)) (fp : List Addr), PG (X.blk s H scope (compEnvC scope cl C X.env) fp) tgE (tG X.K (slotsT tg) (bindT tg)))
    (ht : ∀ (s : Shared) (H : Hp) (C : Addr) (cl : List (Str × Addr)) (fp : List Addr), PTs (X.blk s H scope (compEnvC scope cl C X.env) fp) ifs (tT X.K gt))
    (he : ∀ (s : Shared) (H : Hp) (C : Addr) (cl : List (Str × Addr)) (fp : List Addr), PE (X.blk s H scope (compEnvC scope cl C X.env) fp) elt (tE X.K fe)) (hs : ∀ x, foldedSetIterable iter X.env x = pure x) {cpos : Pos} :
    PE X (.Call (.Name "sorted" p) [.SetComp elt [⟨tgE, iter, ifs, 0⟩] scope cpos] [] pos) (tEL X.K (evSc tg fi gt fe own)) := by
  subst ho
  refine (pe_callB (id := "sorted") (cr_sortedSet hc) hg0 hm (by decide +kernel) (pa_cons (pe_setI hc hN hi ok hg ht he hs) pa_nil rfl) (by decide +kernel) (by decide +kernel) rfl rfl).wk fun σ H Q h => ?_
  obtain ⟨ρ, F, zs, ρ6, rep, e, q⟩ := h
  unfold evSc at e
  split at e
  case isFalse => cases e
  obtain ⟨items, ρ1, e1, e⟩ := bnd_eq e
  split at e
  case isFalse => cases e
  rename_i hn0 hn
  obtain ⟨ys, ρ6', e2, e⟩ := bnd_eq e
  obtain ⟨z, e3, e⟩ := ret_eq e
  cases e
  obtain ⟨ns, g1, g2, g3⟩ := srsL_lst e3
  cases g3
  show tCm (obS X.w) (stS X.w (tE X.K fe)) (tIt X.K fi) (tG X.K (slotsT tg) (bindT tg)) (tT X.K gt) (ownS.map (·.2)) σ H (fun v H1 => rSortedSet X.w [v] H1 Q)
  refine cm_rd (gathS (K := X.K) (w := X.w) (fe := fe)) hsl rep e1 hn.1 hn.2 e2 ⟨ns, g1, g2⟩ fun D o F' H' r s a b c d => ?_
  obtain ⟨ns', n, k1, k2, rfl⟩ := d
  rw [g1] at k1
  cases k1
  refine ⟨D, _, n, rfl, c, by omega, fun ms p' hs1 hs2 hs3 hp' => ?_⟩
  have e : ms = srtU ns := strict_uniq hs1 (srtU_srt ns) fun z => by
    rw [hs2 z, srtU_mem]; simp
  subst e
  exact q p' _ F' _ (r.layOff hp') (s.trans (StpE.layOff hp')) (s.alive p' hp') (fresh_back r.ex hp') upd_same (RpA.ofInts _)
end
end Wh

set_option Elab.async false
set_option linter.all false
set_option maxRecDepth 100000
set_option maxHeartbeats 1000000
set_option exponentiation.threshold 5000
/-! Wh9v: dict(list(d.items())), None in d.values(). -/
namespace Wh
open PySem PySem.Spec PyProof.Rows L2 Evl
variable [Tbl]
theorem entry_contains : entryFor table "proto.contains_iter" = some Builtin.«proto.contains_iter» := entryFor_of_fast (by kernel_rfl)
theorem plain_contains : plainId "proto.contains_iter" = true := by decide +kernel
theorem no_contains : typeLookup (.type "dict_values") "__contains__" = pure none := by
  unfold typeLookup
  kernel_rfl
section
variable {X : Cx} {pins : List (Addr × Obj)} {σ : L2.St} {H : Hp} {it d : Addr} {ep : Nat} {vs : List (Key × Value)} {E : Value → Shared → Prop} {Q : Value → Shared → Prop} {b : Bool}
theorem vin_eq {s : Shared} {A : Around} (hu : A.units < cLine) (I : Inv X pins σ H s) {v : V} {u : Value} {xs : List PyData} (hv : Rp X.K H v (.tuple xs)) (r : RelV v u) (hl : (PyData.tuple xs).canLay0 = true) : SeqAt.EqAt A s u .none false := by
  obtain ⟨as, h1, _⟩ := Rp.reads I _ _ _ hv r
  have := SeqAt.eqAt_reads (.tuple xs) .none A s u .none as [] h1 .none hl rfl (by simp [PyData.depth]; exact hu)
  simpa [PyData.eqv] using this
theorem vin_same (A : Around) (s : Shared) : SeqAt.EqAt A s .none .none true := by
  intro prog w E Q hq
  unfold eqBool
  refine wpAny_holding ?_
  simp only [beq_self_eq_true, if_true]
  exact wpAny_bind (wpAny_rule (wpAny_pure hq))
theorem vin_loop {A : Around} (hh : A.handled = none) (hu : A.in1.units < cLine) (hit : FpOk X pins H it) (hdd : it ≠ d) : ∀ (k i : Nat) (s : Shared) (kvs : List (Key × V)) (kds : List (PyData × PyData)), vs.length - i = k → i ≤ vs.length → Inv X pins σ H s → s.heap.IsValIter it d i vs.length ep → s.heap.DictAt (mixKind X.prog X.w) d vs ep →
    KV kvs (vs.drop i) → RpK X.K H kvs kds → vinD .none kds = some b → (∀ s', Inv X pins σ H s' → Q (.bool b) s') →
    codeAny (model X.prog X.w) A (.builtin "proto.contains_iter" ⟨[.ref it, .none], []⟩) (fun r s' => match r with | .ok (.ret v) => Q v s' | .ok _ => False | .error e => E e s') s := by
  obtain ⟨f0, f1, f2, f3, f4, f5⟩ := hit
  intro k
  induction k with
  | zero =>
    intro i s kvs kds hk hi I st hm kv rk hv hQ
    have e : i = vs.length := by omega
    subst e
    rw [List.drop_length] at kv
    cases kv
    cases rk
    cases hv
    refine codeAny_builtin entry_contains ?_
    rw [Around.under_plainId plain_contains _]
    show wpAny _ A.in1 (pyNext (.ref it) >>= _) _ _ s
    refine wpAny_bind (wpAny_pyNext_values_end (by simpa using hh) st hm (by simp) fun h' eb => ?_)
    refine wpAny_bind (wpAny_rule (wpAny_pure ?_))
    exact hQ _ (I.turned (t' := s.toks) (fun c o hc e => eb c o hc e) f0 f1 f3 f4 f5)
  | succ k ih =>
    intro i s kvs kds hk hi I st hm kv rk hv hQ
    have hlt : i < vs.length := by omega
    rw [List.drop_eq_getElem_cons hlt] at kv
    generalize hq : vs[i] = q at kv
    have hx : vs[i]? = some (q.1, q.2) := by rw [List.getElem?_eq_getElem hlt, hq]
    cases kv with
    | @cons p _ ps _ r1 r2 =>
    obtain ⟨kk, v⟩ := p
    obtain ⟨r1, r3⟩ := r1
    cases rk with
    | cons rp rk =>
    refine codeAny_builtin entry_contains ?_
    rw [Around.under_plainId plain_contains _]
    show wpAny _ A.in1 (pyNext (.ref it) >>= _) _ _ s
    refine wpAny_bind (wpAny_pyNext_values_item st hm hx fun h' st' sb => ?_)
    have I' : Inv X pins σ H { s with heap := h' } := I.turned (t' := s.toks) (fun c o hc e => (sb.2 c hc).trans e) f0 f1 f3 f4 f5
    have hm' : h'.DictAt (mixKind X.prog X.w) d vs ep := hm.extBut sb.extBut (Ne.symm hdd)
    simp only [vinD] at hv
    split at hv
    · rename_i h1 h2
      cases hv
      cases rp
      have r3 : q.2 = Value.none := r3
      rw [r3]
      refine wpAny_bind (vin_same _ _ _ _ _ _ ?_)
      simp only [if_true]
      exact wpAny_bind (wpAny_rule (wpAny_pure (hQ _ I')))
    · rename_i xs h1 h2
      split at hv
      · rename_i hl
        refine wpAny_bind (vin_eq hu I' rp r3 hl _ _ _ _ ?_)
        simp only [Bool.false_eq_true, if_false]
        exact wpAny_pure ⟨plainId_quiet plain_contains _, ih (i + 1) _ _ _ (by omega) hlt I' st' hm' r2 rk hv hQ⟩
      · cases hv
    · cases hv
/-- the reading of None in d.values() -/
def tVin (K : PySem.W.Frag) (ta to : TE) : TE := fun σ H Q => ta σ H fun x H1 => to σ H1 fun y H2 => ∃ d kvs kds b, x = .non ∧ y = .ref d ∧ H2 d = some (.dK kvs) ∧ RpK K H2 kvs kds ∧ vinD .none kds = some b ∧ Q (.bl b) H2
variable {a o : Expr} {ta to : TE} {pos apos cpos : Pos}
theorem vin_run (hc : X.calm = true) (hu : X.A.units + 64 < cLine) (ha : PE X a ta) (ho : PE X o to) (hbase : attributeBase o "values" X.env (eval o X.env) = eval o X.env) (hline : (apos.endLine == cpos.line) = true) {s : Shared} {QQ : VK} (I : Inv X pins σ H s) (h : tVin X.K ta to σ H QQ) :
    wpAny (model X.prog X.w) X.A (eval a X.env) (fun v s1 => wpAny (model X.prog X.w) X.A (eval (.Call (.Attribute o "values" apos) [] [] cpos) X.env) (fun u s2 => wpAny (model X.prog X.w) X.A (compareOp .In v u) (EP X pins σ QQ) X.xe s2) X.xe s1) X.xe s := by
  refine thn (ha.run pins s σ H _ I h) fun v s1 ⟨x, H1, I1, r1, q1⟩ => ?_
  refine wpAny_Call_method (T := "dict") (id := "dict.values") hbase rfl hline F.plainAttrs_dict F.slot_dict_values F.type_dict_values (thn (ho.run pins s1 σ H1 _ I1 q1) fun u s2 ⟨y, H2, I2, r2, d, kvs, kds, bb, ex, ey, hd, rk, hv, q⟩ => ?_)
  subst ex ey
  obtain rfl : u = Value.ref d := r2
  obtain rfl : v = Value.none := r1
  obtain ⟨hz, hs0, vs, kv, hdo⟩ := I2.hok d _ hd
  obtain ⟨ep, hat⟩ := hdo.dictAt
  refine ⟨hdo.typeIs, hdo.mapOf.noDict, ?_⟩
  show wpAny _ _ (callWith cpos (.builtin "dict.values") [.ref d] [] []) _ X.xe s2
  refine method_meetsIn F.slot_dict_values F.entry_dict_values rfl (PySem.evalArgs_none ⟨rfl, hdo.typeIs, F.args_dict_values_1 _, _, meets_dict_values (mixKind X.prog X.w) d hs0, ⟨vs, hdo⟩, ?_⟩)
  have I3 : Inv X pins σ H2 { s2 with heap := s2.heap.push { cls := .type "dict_values", data := .fields #[.ref d] } } := I2.kept (t' := s2.toks) fun b ob q => Heap.get?_push_of_some _ q
  have hV : Heap.IsValuesView (s2.heap.push { cls := .type "dict_values", data := .fields #[.ref d] }) s2.heap.objs.size d := ⟨_, Heap.get?_push_size _ rfl, rfl, rfl⟩
  have hD := hat.push { cls := .type "dict_values", data := .fields #[.ref d] }
  generalize e3 : ({ s2 with heap := s2.heap.push { cls := .type "dict_values", data := .fields #[.ref d] } } : Shared) = s3 at I3
  have e3h : s3.heap = s2.heap.push { cls := .type "dict_values", data := .fields #[.ref d] } := by rw [← e3]
  rw [← e3h] at hV hD
  show wpAny _ X.A (compareOp .In Value.none (.ref s2.heap.objs.size)) _ _ s3
  unfold compareOp
  refine wpAny_bind ?_
  unfold contains
  refine wpAny_holding ?_
  simp only [stdlibNamesSay?]
  refine wpAny_bind (wpAny_specialOf hV.typeIs no_contains ?_)
  simp only [show ((none : Option Value) == some Value.none) = false from rfl, Bool.false_eq_true, if_false]
  refine wpAny_bind (wpAny_callSpecialUnlessNone?_none hV.typeIs no_contains ?_)
  refine wpAny_bind (wpAny_rule ?_)
  refine wpAny_bind (wpAny_tryCatch (wpAny_pyIter_values (knd := mixKind X.prog X.w) hV hD ?_))
  generalize e4 : ({ s3 with heap := s3.heap.push { cls := .type "dict_valueiterator", data := .fields #[.ref d, .int 0 0, .int vs.length 0, .int ep 0] } } : Shared) = s4
  have I4 : Inv X pins σ H2 s4 := by rw [← e4]; exact I3.kept (t' := s3.toks) fun b ob q => Heap.get?_push_of_some _ q
  have e4h : s4.heap = s3.heap.push { cls := .type "dict_valueiterator", data := .fields #[.ref d, .int 0 0, .int vs.length 0, .int ep 0] } := by rw [← e4]
  have free : H2 s3.heap.objs.size = none := I3.hok.fresh (Nat.le_refl _)
  refine wpAny_bind (wpAny_runValue (vin_loop (vs := vs) (d := d) (ep := ep) (I4.ok.hd hc) (by simp; omega) (I3.fpOk (Nat.le_refl _) free) (fun z => ?_) vs.length 0 s4 kvs kds rfl (Nat.zero_le _) I4 ?_ ?_ (by simpa using kv) rk hv fun s' I' => ?_))
  · rw [z] at free; rw [free] at hd; cases hd
  · rw [e4h]; exact ⟨_, Heap.get?_push_size _ rfl, rfl, rfl⟩
  · rw [e4h]; exact hD.push _
  · exact wpAny_pure (wpAny_pure ⟨.bl bb, H2, I', rfl, q⟩)
theorem pe_vin (hc : X.calm = true) (hu : X.A.units + 64 < cLine) (ha : PE X a ta) (ho : PE X o to) (hbase : attributeBase o "values" X.env (eval o X.env) = eval o X.env) (hline : (apos.endLine == cpos.line) = true) : PE X (.Compare a [.In] [.Call (.Attribute o "values" apos) [] [] cpos] pos) (tVin X.K ta to) :=
  ⟨fun pins s σ H Q I h => wpAny_Compare1 (vin_run hc hu ha ho hbase hline I h) rfl⟩
theorem pt_vin (hc : X.calm = true) (hu : X.A.units + 64 < cLine) (ha : PE X a ta) (ho : PE X o to) (hbase : attributeBase o "values" X.env (eval o X.env) = eval o X.env) (hline : (apos.endLine == cpos.line) = true) : PT X (.Compare a [.In] [.Call (.Attribute o "values" apos) [] [] cpos] pos) (tTest (tVin X.K ta to)) := by
  refine ⟨fun pins s σ H Q I h => ?_⟩
  refine wpAny_isTrue_Compare1 (thn (vin_run hc hu ha ho hbase hline I h) fun v s1 h1 => thn h1 fun u s2 h2 => thn h2 fun c s3 ⟨z, H3, I3, r3, k, e, q3⟩ => ?_) rfl
  subst e
  cases r3
  exact wpAny_truthy_bool ⟨H3, I3, q3⟩
end
/-! by evaluation -/
section
variable {X : Cx} {a o : Expr} {fa fo : En → Option (PyData × En)} {pos apos cpos : Pos}
def evVin (fa fo : En → Option (PyData × En)) : En → Option (PyData × En) := fun ρ => bnd (fa ρ) fun x ρ => bnd (fo ρ) fun y ρ => match y with
    | .dict xs => bnd (ret (vinD x xs) ρ) fun r ρ => some (.bool r, ρ)
    | _ => none
theorem vinD_none {x : PyData} {xs : List (PyData × PyData)} {b : Bool} (h : vinD x xs = some b) : x = .none := by
  cases xs with
  | nil =>
    simp only [vinD] at h
    split at h
    · rfl
    · cases h
  | cons p r =>
    simp only [vinD] at h
    split at h
    · rfl
    · rfl
    · cases h
theorem vin_rd {σ : L2.St} {H : Hp} {Q : VK} {P : Bool → Hp → Prop} {ρ : En} {F : Hp} {z : PyData} {ρ' : En} (rep : Rep X.K ρ σ F H) (e : evVin fa fo ρ = some (z, ρ')) (q : ∀ b F' H', z = .bool b → Rep X.K ρ' σ F' H' → StpE ρ σ F H ρ' F' H' → Q (.bl b) H') : tVin X.K (tE X.K fa) (tE X.K fo) σ H Q := by
  unfold evVin at e
  obtain ⟨x, ρ1, e1, e⟩ := bnd_eq e
  obtain ⟨y, ρ2, e2, e⟩ := bnd_eq e
  split at e
  · rename_i xs
    obtain ⟨r, ρ3, e3, e⟩ := bnd_eq e
    obtain ⟨r', e4, e5⟩ := ret_eq e3
    cases e5
    cases e
    have := vinD_none e4
    subst this
    refine ⟨ρ, F, _, ρ1, rep, e1, fun vx F1 H1 rep1 st1 rp1 => ⟨ρ1, F1, _, ρ', rep1, e2, fun vy F2 H2 rep2 st2 rp2 => ?_⟩⟩
    cases rp1
    cases rp2 with
    | dct h1 h2 => exact ⟨_, _, xs, r, rfl, rfl, rep2.ex _ _ h1, h2.mono rep2.ex, e4, q r F2 H2 rfl rep2 (st1.trans st2)⟩
  · cases e
theorem e_vin (hc : X.calm = true) (hu : X.A.units + 64 < cLine) (ha : PE X a (tE X.K fa)) (ho : PE X o (tE X.K fo)) (hbase : attributeBase o "values" X.env (eval o X.env) = eval o X.env) (hline : (apos.endLine == cpos.line) = true) : PE X (.Compare a [.In] [.Call (.Attribute o "values" apos) [] [] cpos] pos) (tE X.K (evVin fa fo)) :=
  (pe_vin hc hu ha ho hbase hline).wk fun σ H Q h => by
    obtain ⟨ρ, F, z, ρ', rep, e, q⟩ := h
    exact vin_rd (P := fun _ _ => True) rep e fun b F' H' ez r s => by subst ez; exact q _ F' H' r s (.bl _)
theorem t_vin (hc : X.calm = true) (hu : X.A.units + 64 < cLine) (ha : PE X a (tE X.K fa)) (ho : PE X o (tE X.K fo)) (hbase : attributeBase o "values" X.env (eval o X.env) = eval o X.env) (hline : (apos.endLine == cpos.line) = true) : PT X (.Compare a [.In] [.Call (.Attribute o "values" apos) [] [] cpos] pos) (tT X.K fun ρ => bnd (evVin fa fo ρ) fun x ρ => ret (truD x) ρ) :=
  (pt_vin hc hu ha ho hbase hline).wk fun σ H Q h => by
    obtain ⟨ρ, F, z, ρ', rep, e, q⟩ := h
    obtain ⟨w0, ρ0, e, e'⟩ := bnd_eq e
    obtain ⟨z0, g1, g2⟩ := ret_eq e'
    cases g2
    exact vin_rd (P := fun _ _ => True) rep e fun b F' H' ez r s => by subst ez; cases g1; exact ⟨_, rfl, q F' H' r s⟩
/-! dict(list(d.items())) -/
theorem Rep.grow {K : PySem.W.Frag} {ρ : En} {σ : L2.St} {F H H' : Hp} (r : Rep K ρ σ F H) (e : ∀ b o, H b = some o → H' b = some o) : Rep K ρ σ F H' := by
  refine ⟨r.len, ⟨fun a u ha => e _ _ (r.ex a u ha), fun p hp => (r.wl.tab p hp).ext e, r.wl.nt⟩, r.dat, fun i b xs hx => ?_, r.dis, r.xc, fun i xs hx => ?_⟩
  · obtain ⟨q, vs, h1, h2, h3, h4⟩ := r.own i b xs hx
    exact ⟨q, vs, h1, h2, e _ _ h3, h4⟩
  · obtain ⟨q, vs, h1, h2, h3, h4⟩ := r.odc i xs hx
    exact ⟨q, vs, h1, h2, e _ _ h3, h4⟩
theorem StpE.grow {ρ : En} {σ : L2.St} {F H H' : Hp} (e : ∀ b o, H b = some o → H' b = some o) : StpE ρ σ F H ρ F H' :=
  ⟨⟨Ex.refl F, fun _ _ h => .inl h, fun a o h _ _ => e a o h, fun _ h => .inl h, fun a h => (by
    cases hx : H a with
    | none => rfl
    | some o => rw [e a o hx] at h; cases h), fun i xs h => ⟨rfl, xs, h⟩⟩, fun _ h => h⟩
theorem RpK.dup {K : PySem.W.Frag} {F : Hp} : ∀ {kvs : List (Key × V)} {kds : List (PyData × PyData)}, RpK K F kvs kds → ∀ {acc : List (Key × V)} {acd : List (PyData × PyData)}, RpK K F acc acd → RpK K F (mergeK acc kvs) (kds.foldl (fun acc p => dputD acc p.1 p.2) acd)
  | _, _, .nil, _, _, h => h
  | _, _, .cons (k := k) r t, _, _, h => by
    have := RpK.dup t (h.put r k)
    exact this
theorem k_ddup {p p2 : Pos} (hc : X.calm = true) (hg : Gl X "dict") (hm : X.mg "dict" = none) (hg2 : Gl X "list") (hm2 : X.mg "list" = none) (ho : PE X o (tE X.K fo)) (hbase : attributeBase o "items" X.env (eval o X.env) = eval o X.env) (hline : (apos.endLine == cpos.line) = true) {lpos : Pos} :
    PE X (.Call (.Name "dict" p) [.Call (.Name "list" p2) [.Call (.Attribute o "items" apos) [] [] cpos] [] lpos] [] pos) (tEK X.K fun ρ => bnd (fo ρ) fun x ρ => match x with
    | .dict xs => some (.dict (dupD xs), ρ)
    | _ => none) := by
  refine (pe_callTy (T := "dict") (call_dictP hc) hg hm (by decide +kernel) (pa_cons (LiI.pe_listItems hc ho hg2 hm2 (by decide +kernel) hbase hline rfl) pa_nil rfl) (by decide +kernel) (by decide +kernel) rfl rfl).wk fun σ H Q h => ?_
  obtain ⟨ρ, F, zs, ρ', rep, e, q⟩ := h
  obtain ⟨x, ρ1, e1, e⟩ := bnd_eq e
  split at e
  · rename_i xs
    cases e
    refine ⟨ρ, F, _, ρ', rep, e1, fun vx F1 H1 rep1 st1 rp1 => ?_⟩
    cases rp1 with
    | dct h1 h2 =>
      refine ⟨_, _, rfl, rep1.ex _ _ h1, fun H' p' ts g1 g2 g3 g4 g5 g6 => ?_⟩
      refine ⟨p', ts, _, rfl, SqL.of g5, Paired.mapP g6 fun t q z => SqT.of z, fun r hr => ?_⟩
      have rep2 := rep1.grow g1
      exact q r _ F1 _ (rep2.layOff hr) ((st1.trans (StpE.grow g1)).trans (StpE.layOff hr)) ((st1.trans (StpE.grow g1)).alive r hr) (fresh_back rep2.ex hr) upd_same (RpK.dup h2 .nil)
  · cases e
end
end Wh

set_option Elab.async false
set_option linter.all false
set_option maxRecDepth 100000
set_option maxHeartbeats 1000000
set_option exponentiation.threshold 5000
/-! Wh10: defs and calls, statements. -/
namespace Wh
open PySem PySem.Spec PyProof.Rows L2 Evl
variable [Tbl]

/-! ### a def keeps its promise where no repr runs around it -/
/-- how a call of the def at f ends, for arguments of which sp holds -/
structure FnG (P : Program) (w : World) (K : PySem.W.Frag) (mg : Str → Option Value) (base : Heap) (CX : CXT) (k : Nat) (f : Addr) (fd : FuncData) (ps : List Str) (sp : Sp) : Prop where
  many : ∀ {vs : List V} {H : Hp} {Q : VK} {E : XK}, sp vs H Q E → ps.length = vs.length
  goes : ∀ {A : Around} {fs : List PySem.Env} {s : Shared} {H : Hp} {ar : Args} {us : List Value} {vs : List V} {Q : VK} {E : XK}, A.guards = some [] → Room k A → Env0 P w K mg base A fs s H → Vals vs us → BindsTo s fd ar (ps.zip us) → sp vs H Q E →
    codeAny (model P w) A (.call (.ref f) ar) (fun r s' => CR CX fs P w H s Q E r s') s
theorem FnG.imp {P : Program} {w : World} {K : PySem.W.Frag} {mg : Str → Option Value} {base : Heap} {CX : CXT} {k : Nat} {f : Addr} {fd : FuncData} {ps : List Str} {sp sp' : Sp} (F : FnG P w K mg base CX k f fd ps sp) (h : ∀ {vs H Q E}, sp' vs H Q E → sp vs H Q E) : FnG P w K mg base CX k f fd ps sp' :=
  ⟨fun q => F.many (h q), fun g r e v b q => F.goes g r e v b (h q)⟩
section
variable {X : Cx} {k : Nat} {f : Addr} {fd : FuncData} {ps : List Str} {sp : Sp} {x : Str} {p pos : Pos} {e : Expr} {es : List Expr} {t : TA}
/-- the callee's end in the caller's words -/
theorem cr_ep {pins : List (Addr × Obj)} {σ : L2.St} {H : Hp} {s s' : Shared} {Q : VK} {r : Result} (I : Inv X pins σ H s) (h : CR CX0 X.stack X.prog X.w H s Q E0 r s') : ∃ u, r = .ok (.ret u) ∧ EP X pins σ Q u s' := by
  match r, h with
  | .ok (.ret u), h => exact ⟨u, rfl, I.after h⟩
  | .ok .next, h => exact h.elim
  | .ok .brk, h => exact h.elim
  | .ok .cont, h => exact h.elim
  | .error _, h => exact h.elim
theorem goes_call {pins : List (Addr × Obj)} {σ : L2.St} {H : Hp} {s : Shared} {Q : VK} {us : List Value} {vs : List V} (F : FnG X.prog X.w X.K X.mg X.base CX0 k f fd ps sp) (room : Room k X.A) (gd : X.A.guards = some []) (bs : Binds X.K fd ps []) (I : Inv X pins σ H s) (va : Vals vs us) (h : sp vs H Q E0) :
    wpAny (model X.prog X.w) X.A (call (.ref f) us) (EP X pins σ Q) X.xe s := by
  have n : (us ++ ([] : List Value)).length = ps.length := by rw [List.append_nil, ← va.length, F.many h]
  have b := bs s us I.kIn n
  simp only [List.append_nil] at b
  refine wpAny_call (codeAny_mono (F.goes gd room I.env0 va b h) fun r s' q => ?_)
  obtain ⟨u, rfl, w⟩ := cr_ep I q
  exact w
theorem pe_callG (F : FnG X.prog X.w X.K X.mg X.base CX0 k f fd ps sp) (room : Room k X.A) (gd : X.A.guards = some []) (gl : Gl X x) (hm : X.mg x = some (.ref f)) (kp : PySem.W.keepIn X.K (.ref f) = true) (bs : Binds X.K fd ps [])
    (args : PA X (e :: es) t) (hdb : (x == ("__debug__" : Str)) = false) (he : starEach (e :: es) X.env = (false, eval e X.env) :: starEach es X.env) (hpl : (backTo pos (starEach es X.env)).any (·.1) = false) :
    PE X (.Call (.Name x p) (e :: es) [] pos) (fun σ H Q => t σ H fun vs H' => sp vs H' Q E0) where
  run := fun pins s σ H Q I h => wpAny_Call_Name_kw (ld_glob I gl hm (PySem.W.callWith_K (h₀ := X.base) I.mod.kin kp
    (thn (args.run pos pins s σ H _ I h) fun us s' ⟨vs, H', J, va, q⟩ => ⟨J.kIn, goes_call F room gd bs J va q⟩) he hpl) hdb)
theorem pe_callG0 (F : FnG X.prog X.w X.K X.mg X.base CX0 k f fd ps sp) (room : Room k X.A) (gd : X.A.guards = some []) (gl : Gl X x) (hm : X.mg x = some (.ref f)) (kp : PySem.W.keepIn X.K (.ref f) = true) (bs : Binds X.K fd ps []) (hdb : (x == ("__debug__" : Str)) = false) :
    PE X (.Call (.Name x p) [] [] pos) (fun σ H Q => sp [] H Q E0) where
  run := fun pins s σ H Q I h => wpAny_Call_Name_kw (ld_glob I gl hm (PySem.W.callWith_K0 I.kIn kp (goes_call (us := []) F room gd bs I .nil h)) hdb)
end
/-! ### the promise of a def by its evaluation -/
abbrev CallF := Option (List PyData) → List PyData → Option (PyData × Option (List PyData))
def NewIn (F H F' : Hp) : Prop := ∀ a o, F' a = some o → F a = some o ∨ H a = none
def spF (K : PySem.W.Frag) (g : CallF) : Sp := fun vs H Q _ =>
  (∃ F xs x, Wl F H ∧ RpA K F vs xs ∧ g none xs = some (x, none) ∧ ∀ v F' H', Ex F F' → Wl F' H' → NewIn F H F' → (∀ a o, H a = some o → noT o → H' a = some o) → (∀ a, H' a = none → H a = none) → Rp K F' v x → Q v H') ∨
  (∃ F p ws pen vs' xs x pen', vs = .ref p :: vs' ∧ Wl F H ∧ F p = none ∧ H p = some (.lst ws) ∧ RpA K F ws pen ∧ RpA K F vs' xs ∧ g (some pen) xs = some (x, some pen') ∧
    ∀ v F' H' ws', Ex F F' → Wl F' H' → NewIn F H F' → (∀ a o, H a = some o → a ≠ p → noT o → H' a = some o) → (∀ a, H' a = none → H a = none) → H' p = some (.lst ws') → RpA K F' ws' pen' → Rp K F' v x → Q v H')
section
variable {K : PySem.W.Frag} {ρ : En} {σ : L2.St} {F H F' H' : Hp} {i : Nat}
theorem Rep.call (r : Rep K ρ σ F H) (e : Ex F F') (wl : Wl F' H') (nw : NewIn F H F') (fr : ∀ a o, H a = some o → noT o → H' a = some o) : Rep K ρ σ F' H' := by
  refine ⟨r.len, wl, fun i x hx => ?_, fun i b xs hx => ?_, r.dis, r.xc, fun i xs hx => ?_⟩
  · obtain ⟨v, h1, h2⟩ := r.dat i x hx
    exact ⟨v, h1, h2.mono e⟩
  · obtain ⟨q, vs, h1, h2, h3, h4⟩ := r.own i b xs hx
    refine ⟨q, vs, h1, ?_, fr _ _ h3 (fun _ z => by cases z), h4.mono e⟩
    cases hq : F' q with
    | none => rfl
    | some o =>
      rcases nw q o hq with z | z
      · rw [h2] at z; cases z
      · rw [h3] at z; cases z
  · obtain ⟨q, vs, h1, h2, h3, h4⟩ := r.odc i xs hx
    refine ⟨q, vs, h1, ?_, fr _ _ h3 (fun _ z => by cases z), h4.mono e⟩
    cases hq : F' q with
    | none => rfl
    | some o =>
      rcases nw q o hq with z | z
      · rw [h2] at z; cases z
      · rw [h3] at z; cases z
theorem StpE.call (e : Ex F F') (nw : NewIn F H F') (fr : ∀ a o, H a = some o → noT o → H' a = some o) (al : ∀ a, H' a = none → H a = none) : StpE ρ σ F H ρ F' H' :=
  ⟨⟨e, fun a o h => (nw a o h).elim .inl fun z => .inr (.inl z), fun a o h _ nt => fr a o h nt, fun _ h => .inl h, al, fun i xs h => ⟨rfl, xs, h⟩⟩, fun _ h => h⟩
theorem Rep.callp (r : Rep K ρ σ F H) {bb : Bool} {xs ys : List PyData} {p : Addr} {ws' : List V} (h : ρ[i]? = some (some (.own bb xs))) (hp : σ[i]? = some (some (.ref p))) (e : Ex F F') (wl : Wl F' H') (nw : NewIn F H F')
    (fr : ∀ a o, H a = some o → a ≠ p → noT o → H' a = some o) (hH : H' p = some (.lst ws')) (ha : RpA K F' ws' ys) : Rep K (ρ.set i (some (.own bb ys))) σ F' H' := by
  have hl := lt_of_get h
  have out : ∀ q, F q = none → (∃ o, H q = some o) → F' q = none := fun q hq ⟨vs, hh⟩ => by
    cases hx : F' q with
    | none => rfl
    | some o =>
      rcases nw q o hx with z | z
      · rw [hq] at z; cases z
      · rw [hh] at z; cases z
  refine ⟨by simp [r.len], wl, fun j y hy => ?_, fun j b zs hj => ?_, fun j k s t q h1 k1 h2 k2 h3 h4 => ?_, xc_give r.xc (fun z => by cases z), fun j zs hj => ?_⟩
  · rw [get_set] at hy
    split at hy
    · (try rw [if_pos hl] at hy); cases hy
    · obtain ⟨v, h1, h2⟩ := r.dat j y hy
      exact ⟨v, h1, h2.mono e⟩
  · rw [get_set] at hj
    split at hj
    · rename_i e'
      subst e'
      (try rw [if_pos hl] at hj)
      cases hj
      obtain ⟨q, vs, g1, g2, g3, g4⟩ := r.own i _ _ h
      rw [hp] at g1; cases g1
      exact ⟨p, ws', hp, out p g2 ⟨_, g3⟩, hH, ha⟩
    · rename_i e'
      obtain ⟨q', ws, g1, g2, g3, g4⟩ := r.own j b zs hj
      have hq : q' ≠ p := fun z => e' (r.dis i j _ _ p h rfl hj rfl hp (by rw [← z]; exact g1))
      exact ⟨q', ws, g1, out q' g2 ⟨_, g3⟩, fr _ _ g3 hq (fun _ z => by cases z), g4.mono e⟩
  · obtain ⟨s', g1, g2⟩ := back_own h rfl h1 k1
    obtain ⟨t', g3, g4⟩ := back_own h rfl h2 k2
    exact r.dis j k s' t' q g1 g2 g3 g4 h3 h4
  · rw [get_set] at hj
    split at hj
    · (try rw [if_pos hl] at hj); cases hj
    · rename_i e'
      obtain ⟨q', ws, g1, g2, g3, g4⟩ := r.odc j zs hj
      have hq : q' ≠ p := fun z => e' (r.dis i j _ _ p h rfl hj rfl hp (by rw [← z]; exact g1))
      exact ⟨q', ws, g1, out q' g2 ⟨_, g3⟩, fr _ _ g3 hq (fun _ z => by cases z), g4.mono e⟩
theorem StpE.callp {bb : Bool} {xs ys : List PyData} {p : Addr} {ws' : List V} (h : ρ[i]? = some (some (.own bb xs))) (hp : σ[i]? = some (some (.ref p))) (e : Ex F F') (nw : NewIn F H F') (fr : ∀ a o, H a = some o → a ≠ p → noT o → H' a = some o) (al : ∀ a, H' a = none → H a = none) (hH : H' p = some (.lst ws')) :
    StpE ρ σ F H (ρ.set i (some (.own bb ys))) F' H' :=
  ⟨⟨e, fun a o h => (nw a o h).elim .inl fun z => .inr (.inl z), fun a o hx no nt => fr a o hx (fun z => no (by rw [z]; exact ⟨i, _, h, rfl, hp⟩)) nt, fun a o => .inl (own_putO h o), al, pen_putO h⟩, fun a o => own_putO h o⟩
end
/-- what the table's defs promise, at the context -/
def CallOk (X : Cx) (call : Str → CallF) (kw : Str → List Kw) (k : Nat) : Prop := ∀ f po xs r, koK (kw f) = false → call f po xs = some r → ∃ fa fd ps, FnG X.prog X.w X.K X.mg X.base CX0 k fa fd ps (spF X.K (call f)) ∧ X.mg f = some (.ref fa) ∧ PySem.W.keepIn X.K (.ref fa) = true ∧ Binds X.K fd ps []
/-- .. of those that hand back a new list -/
def spL (K : PySem.W.Frag) (g : CallF) : Sp := fun vs H Q _ => ∃ F xs ys, Wl F H ∧ RpA K F vs xs ∧ g none xs = some (.list ys, none) ∧
  ∀ p ws F' H', Ex F F' → Wl F' H' → NewIn F H F' → (∀ a o, H a = some o → noT o → H' a = some o) → (∀ a, H' a = none → H a = none) → H p = none → F' p = none → H' p = some (.lst ws) → RpA K F' ws ys → Q (.ref p) H'
def CallOkL (X : Cx) (call : Str → CallF) (fr : Str → Bool) (kw : Str → List Kw) (k : Nat) : Prop := ∀ f xs r, koK (kw f) = false → fr f = true → call f none xs = some r → ∃ fa fd ps, FnG X.prog X.w X.K X.mg X.base CX0 k fa fd ps (spL X.K (call f)) ∧ X.mg f = some (.ref fa) ∧ PySem.W.keepIn X.K (.ref fa) = true ∧ Binds X.K fd ps []
section
variable {X : Cx} {c : Cfg} {k : Nat} {x y : Str} {p py pos : Pos} {a : Expr} {es : List Expr} {fs : En → Option (List PyData × En)} {i : Nat}
theorem PE.never {e : Expr} {t : TE} (h : ∀ σ H Q, ¬ t σ H Q) : PE X e t := ⟨fun _ _ σ H Q _ q => (h σ H Q q).elim⟩
theorem e_call {kw : Str → List Kw} {e : Expr} (hC : CallOk X c.call kw k) (hko : koK (kw x) = false) (hr : Room k X.A) (hgd : X.A.guards = some []) (hg : Gl X x) (hdb : (x == ("__debug__" : Str)) = false) (ha : PA X (e :: es) (tA X.K fs)) (he : starEach (e :: es) X.env = (false, eval e X.env) :: starEach es X.env) (hpl : (backTo pos (starEach es X.env)).any (·.1) = false) :
    PE X (.Call (.Name x p) (e :: es) [] pos) (tE X.K fun ρ => bnd (fs ρ) fun xs ρ => match c.call x none xs with
    | some (x, none) => some (x, ρ)
    | _ => none) := by
  by_cases hx : ∃ xs r, c.call x none xs = some r
  case neg =>
    refine PE.never fun σ H Q h => ?_
    obtain ⟨ρ, F, z, ρ', rep, e, q⟩ := h
    obtain ⟨xs, ρ1, e1, e⟩ := bnd_eq e
    split at e
    · rename_i h
      exact hx ⟨xs, _, h⟩
    · cases e
  obtain ⟨xs0, r0, h0⟩ := hx
  obtain ⟨fa, fd, ps, FG, hm, hk, hb⟩ := hC x none xs0 r0 hko h0
  refine (pe_callG FG hr hgd hg hm hk hb ha hdb he hpl).wk fun σ H Q h => ?_
  obtain ⟨ρ, F, z, ρ', rep, e, q⟩ := h
  obtain ⟨xs, ρ1, e1, e⟩ := bnd_eq e
  split at e
  · rename_i z' hc
    cases e
    refine ⟨ρ, F, xs, ρ', rep, e1, fun vs F1 H1 rep1 st1 rp1 => .inl ⟨F1, xs, z, rep1.wl, rp1, hc, fun v F2 H2 e2 ex2 nw fr al rp2 => ?_⟩⟩
    exact q v F2 H2 (rep1.call e2 ex2 nw fr) (st1.trans (StpE.call e2 nw fr al)) rp2
  · cases e
theorem e_call0 {kw : Str → List Kw} (hC : CallOk X c.call kw k) (hko : koK (kw x) = false) (hr : Room k X.A) (hgd : X.A.guards = some []) (hg : Gl X x) (hdb : (x == ("__debug__" : Str)) = false) :
    PE X (.Call (.Name x p) [] [] pos) (tE X.K fun ρ => bnd (some (([] : List PyData), ρ)) fun xs ρ => match c.call x none xs with
    | some (x, none) => some (x, ρ)
    | _ => none) := by
  by_cases hx : ∃ xs r, c.call x none xs = some r
  case neg =>
    refine PE.never fun σ H Q h => ?_
    obtain ⟨ρ, F, z, ρ', rep, e, q⟩ := h
    obtain ⟨xs, ρ1, e1, e⟩ := bnd_eq e
    split at e
    · rename_i h
      exact hx ⟨xs, _, h⟩
    · cases e
  obtain ⟨xs0, r0, h0⟩ := hx
  obtain ⟨fa, fd, ps, FG, hm, hk, hb⟩ := hC x none xs0 r0 hko h0
  refine (pe_callG0 FG hr hgd hg hm hk hb hdb).wk fun σ H Q h => ?_
  obtain ⟨ρ, F, z, ρ', rep, e, q⟩ := h
  obtain ⟨xs, ρ1, e1, e⟩ := bnd_eq e
  cases e1
  split at e
  · rename_i z' hc
    cases e
    exact .inl ⟨F, [], z, rep.wl, .nil, hc, fun v F2 H2 e2 ex2 nw fr al rp2 => q v F2 H2 (rep.call e2 ex2 nw fr) (StpE.call e2 nw fr al) rp2⟩
  · cases e
theorem e_callp {kw : Str → List Kw} (hC : CallOk X c.call kw k) (hko : koK (kw x) = false) (hr : Room k X.A) (hgd : X.A.guards = some []) (hg : Gl X x) (hdb : (x == ("__debug__" : Str)) = false)
    (hN : X.N[i]? = some y) (hv : Vis X.env.scope y) (hd : (y == ("__debug__" : Str)) = false) (hcd : (y == ("__classdict__" : Str)) = false) (ha : PA X es (tA X.K fs))
    (he : starEach (.Name y py :: es) X.env = (false, eval (.Name y py) X.env) :: starEach es X.env) (hpl : (backTo pos (starEach es X.env)).any (·.1) = false) :
    PE X (.Call (.Name x p) (.Name y py :: es) [] pos) (tE X.K fun ρ => match ρ[i]? with
    | some (some _) => bnd (fs ρ) fun xs ρ => match ρ[i]? with
      | some (some (Sv.own b p)) => match c.call x (some p) xs with
        | some (x, some q) => some (x, ρ.set i (some (.own b q)))
        | _ => none
      | _ => none
    | _ => none) := by
  by_cases hx : ∃ po xs r, c.call x po xs = some r
  case neg =>
    refine PE.never fun σ H Q h => ?_
    obtain ⟨ρ, F, z, ρ', rep, e, q⟩ := h
    simp only at e
    split at e
    · obtain ⟨xs, ρ1, e1, e⟩ := bnd_eq e
      split at e
      · split at e
        · rename_i h
          exact hx ⟨_, xs, _, h⟩
        · cases e
      · cases e
    · cases e
  obtain ⟨po0, xs0, r0, h0⟩ := hx
  obtain ⟨fa, fd, ps, FG, hm, hk, hb⟩ := hC x po0 xs0 r0 hko h0
  refine (pe_callG FG hr hgd hg hm hk hb (pa_cons (pe_var hN hv hd hcd) ha he) hdb he hpl).wk fun σ H Q h => ?_
  obtain ⟨ρ, F, z, ρ', rep, e, q⟩ := h
  simp only at e
  split at e
  · rename_i sv hsv
    obtain ⟨v, hv0⟩ := rep.at_ hsv
    obtain ⟨xs, ρ1, e1, e⟩ := bnd_eq e
    refine ⟨v, hv0, ρ, F, xs, ρ1, rep, e1, fun vs F1 H1 rep1 st1 rp1 => ?_⟩
    split at e
    · rename_i bb pen hpen
      split at e
      · rename_i z' pen' hc
        cases e
        obtain ⟨q0, ws, h1, h2, h3, h4⟩ := rep1.own i bb pen hpen
        rw [hv0] at h1; cases h1
        refine .inr ⟨F1, q0, ws, pen, vs, xs, z, pen', rfl, rep1.wl, h2, h3, h4, rp1, hc, fun v F2 H2 ws' e2 ex2 nw fr al hp ra rp2 => ?_⟩
        exact q v F2 H2 (rep1.callp hpen hv0 e2 ex2 nw fr hp ra) (st1.trans (StpE.callp hpen hv0 e2 nw fr al hp)) rp2
      · cases e
    · cases e
  · cases e
theorem l_call {kw : Str → List Kw} {fr : Str → Bool} {e : Expr} (hC : CallOkL X c.call fr kw k) (hko : koK (kw x) = false) (hf : fr x = true) (hr : Room k X.A) (hgd : X.A.guards = some []) (hg : Gl X x) (hdb : (x == ("__debug__" : Str)) = false) (ha : PA X (e :: es) (tA X.K fs)) (he : starEach (e :: es) X.env = (false, eval e X.env) :: starEach es X.env) (hpl : (backTo pos (starEach es X.env)).any (·.1) = false) :
    PE X (.Call (.Name x p) (e :: es) [] pos) (tEL X.K fun ρ => bnd (fs ρ) fun xs ρ => match c.call x none xs with
    | some (x, none) => some (x, ρ)
    | _ => none) := by
  by_cases hx : ∃ xs r, c.call x none xs = some r
  case neg =>
    refine PE.never fun σ H Q h => ?_
    obtain ⟨ρ, F, z, ρ', rep, e, q⟩ := h
    obtain ⟨xs, ρ1, e1, e⟩ := bnd_eq e
    split at e
    · rename_i h
      exact hx ⟨xs, _, h⟩
    · cases e
  obtain ⟨xs0, r0, h0⟩ := hx
  obtain ⟨fa, fd, ps, FG, hm, hk, hb⟩ := hC x xs0 r0 hko hf h0
  refine (pe_callG FG hr hgd hg hm hk hb ha hdb he hpl).wk fun σ H Q h => ?_
  obtain ⟨ρ, F, zs, ρ', rep, e, q⟩ := h
  obtain ⟨xs, ρ1, e1, e⟩ := bnd_eq e
  split at e
  · rename_i z' hc
    cases e
    refine ⟨ρ, F, xs, ρ', rep, e1, fun vs F1 H1 rep1 st1 rp1 => ⟨F1, xs, zs, rep1.wl, rp1, hc, fun p' ws F2 H2 e2 ex2 nw fr' al h0 hf2 hh ra => ?_⟩⟩
    exact q p' ws F2 H2 (rep1.call e2 ex2 nw fr') (st1.trans (StpE.call e2 nw fr' al)) (st1.alive p' h0) hf2 hh ra
  · cases e
/-! keywords, defaults -/
theorem kw_fst (pos : Pos) (env : PySem.Env) : ∀ kws : List Keyword, (backToKw pos (keywordEach kws env)).map (·.1) = kws.map (·.arg)
  | [] => rfl
  | ⟨nm, e, kp⟩ :: kws => by
    show _ :: (backToKw pos (keywordEach kws env)).map (·.1) = _
    rw [kw_fst pos env kws]; rfl
theorem kw_all {pos : Pos} {env : PySem.Env} {kws : List Keyword} {ks : List Str} (h : kws.map (·.arg) = ks.map some) : (backToKw pos (keywordEach kws env)).all (·.1.isSome) = true ∧ (backToKw pos (keywordEach kws env)).filterMap (·.1) = ks ∧ (backToKw pos (keywordEach kws env)).any (·.1.isNone) = false := by
  have e := kw_fst pos env kws
  rw [h] at e
  generalize backToKw pos (keywordEach kws env) = l at e
  clear h
  induction ks generalizing l with
  | nil => cases l with
    | nil => exact ⟨rfl, rfl, rfl⟩
    | cons _ _ => cases e
  | cons k ks ih => cases l with
    | nil => cases e
    | cons x l =>
      simp only [List.map_cons, List.cons.injEq] at e
      obtain ⟨h1, h2, h3⟩ := ih l e.2
      simp [List.all_cons, List.filterMap_cons, List.any_cons, e.1, h1, h2, h3]
theorem k_nil : PK X [] (tA X.K fun ρ => some ([], ρ)) := ⟨fun pos pins s σ H Q I h => pk_nil.run pos pins s σ H Q I (by
  obtain ⟨ρ, F, z, ρ', rep, e, q⟩ := h
  cases e
  exact q [] F H rep StpE.refl .nil)⟩
theorem k_cons {nm : Option Str} {kpos : Pos} {kws : List Keyword} {fa : En → Option (PyData × En)} (ha : PE X a (tE X.K fa)) (hr : PK X kws (tA X.K fs)) : PK X (⟨nm, a, kpos⟩ :: kws) (tA X.K fun ρ => bnd (fa ρ) fun x ρ => bnd (fs ρ) fun xs ρ => some (x :: xs, ρ)) := ⟨fun pos pins s σ H Q I h => (pk_cons (nm := nm) (kpos := kpos) ha hr).run pos pins s σ H Q I (by
  obtain ⟨ρ, F, z, ρ', rep, e, q⟩ := h
  obtain ⟨x, ρ1, e1, e⟩ := bnd_eq e
  obtain ⟨xs, ρ2, e2, e⟩ := bnd_eq e
  cases e
  exact ⟨ρ, F, x, ρ1, rep, e1, fun v F1 H1 rep1 st1 rp1 => ⟨ρ1, F1, xs, ρ', rep1, e2, fun vs F2 H2 rep2 st2 rp2 => q (v :: vs) F2 H2 rep2 (st1.trans st2) (.cons (rp1.mono st2.ext) rp2)⟩⟩)⟩
/-- how a call of such a shape binds -/
structure KwOk (K : PySem.W.Frag) (fd : FuncData) (ps : List Str) (sh : Kw) : Prop where
  go : ∀ {F : Hp} {vs zs : List V} {xs xs2 ys : List PyData} (s : Shared) (us ws : List Value), K.In s.heap → Vals vs us → Vals zs ws → RpA K F vs xs → RpA K F zs xs2 → xs.length = sh.n → xs2.length = sh.ks.length → pickD (xs ++ xs2) sh.ix = some ys →
    ∃ bs vs', BindsTo s fd ⟨us, sh.ks.zip ws⟩ (ps.zip bs) ∧ Vals vs' bs ∧ RpA K F vs' ys
def CallOkK (X : Cx) (call : Str → CallF) (kw : Str → List Kw) (k : Nat) : Prop := ∀ f sh xs r, sh ∈ kw f → call f none xs = some r → ∃ fa fd ps, FnG X.prog X.w X.K X.mg X.base CX0 k fa fd ps (spF X.K (call f)) ∧ X.mg f = some (.ref fa) ∧ PySem.W.keepIn X.K (.ref fa) = true ∧ KwOk X.K fd ps sh
theorem goes_kw {f : Addr} {fd : FuncData} {ps : List Str} {sp : Sp} {pins : List (Addr × Obj)} {σ : L2.St} {H : Hp} {s : Shared} {Q : VK} {us bs : List Value} {kvs : List (Str × Value)} {vs : List V} (F : FnG X.prog X.w X.K X.mg X.base CX0 k f fd ps sp) (room : Room k X.A) (gd : X.A.guards = some []) (I : Inv X pins σ H s)
    (b : BindsTo s fd ⟨us, kvs⟩ (ps.zip bs)) (va : Vals vs bs) (h : sp vs H Q E0) : wpAny (model X.prog X.w) X.A (call (.ref f) us kvs) (EP X pins σ Q) X.xe s := by
  refine wpAny_call (codeAny_mono (F.goes gd room I.env0 va b h) fun r s' q => ?_)
  obtain ⟨u, rfl, w⟩ := cr_ep I q
  exact w
variable {kws : List Keyword} {fk : En → Option (List PyData × En)} {sh : Kw} {kw : Str → List Kw}
theorem e_callk {e : Expr} (hC : CallOkK X c.call kw k) (hsh : sh ∈ kw x) (hr : Room k X.A) (hgd : X.A.guards = some []) (hg : Gl X x) (hdb : (x == ("__debug__" : Str)) = false) (ha : PA X (e :: es) (tA X.K fs)) (hkw : PK X kws (tA X.K fk)) (hks : kws.map (·.arg) = sh.ks.map some)
    (hl1 : ∀ ρ xs ρ', fs ρ = some (xs, ρ') → xs.length = sh.n) (hl2 : ∀ ρ xs ρ', fk ρ = some (xs, ρ') → xs.length = sh.ks.length)
    (he : starEach (e :: es) X.env = (false, eval e X.env) :: starEach es X.env) (hpl : (backTo pos (starEach (e :: es) X.env)).any (·.1) = false) :
    PE X (.Call (.Name x p) (e :: es) kws pos) (tE X.K fun ρ => bnd (bnd (fs ρ) fun xs ρ => bnd (fk ρ) fun ys ρ => some (xs ++ ys, ρ)) fun xs ρ => match pickD xs sh.ix with
    | some ys => match c.call x none ys with
      | some (x, none) => some (x, ρ)
      | _ => none
    | none => none) := by
  refine ⟨fun pins s σ H Q I h => ?_⟩
  obtain ⟨ρ, F, z, ρ', rep, e0, q⟩ := h
  obtain ⟨xs, ρ1, e1, e0⟩ := bnd_eq e0
  obtain ⟨xs1, ρ2, e2, e1⟩ := bnd_eq e1
  obtain ⟨xs2, ρ3, e3, e1⟩ := bnd_eq e1
  cases e1
  split at e0
  · rename_i ys hp
    split at e0
    · rename_i z' hc
      cases e0
      obtain ⟨fa, fd, ps, FG, hm, hk, kb⟩ := hC x sh ys _ hsh hc
      obtain ⟨k1, k2, k3⟩ := kw_all (pos := pos) (env := X.env) hks
      refine wpAny_Call_Name_kw (ld_glob I hg hm ?_ hdb)
      refine PySem.W.callWith_KW (h₀ := X.base) I.mod.kin hk k1 (thn (ha.run pos pins s σ H (fun vs H1 => ∃ F1, Rep X.K ρ2 σ F1 H1 ∧ StpE ρ σ F H ρ2 F1 H1 ∧ RpA X.K F1 vs xs1) I ⟨ρ, F, xs1, ρ2, rep, e2, fun vs F1 H1 a b c => ⟨F1, a, b, c⟩⟩) fun us s1 ⟨vs, H1, I1, r1, F1, rep1, st1, rp1⟩ => ?_) (by rw [hpl, k3]; rfl) he
      refine thn (hkw.run pos pins s1 σ H1 (fun vs H2 => ∃ F2, Rep X.K ρ' σ F2 H2 ∧ StpE ρ2 σ F1 H1 ρ' F2 H2 ∧ RpA X.K F2 vs xs2) I1 ⟨ρ2, F1, xs2, ρ', rep1, e3, fun vs F1 H1 a b c => ⟨F1, a, b, c⟩⟩) fun ws s2 ⟨zs, H2, I2, r2, F2, rep2, st2, rp2⟩ => ⟨I2.kIn, ?_⟩
      rw [k2]
      obtain ⟨bs, vs', hb, hv, ra⟩ := kb.go (F := F2) s2 us ws I2.kIn r1 r2 (rp1.mono st2.ext) rp2 (hl1 _ _ _ e2) (hl2 _ _ _ e3) hp
      exact goes_kw FG hr hgd I2 hb hv (.inl ⟨F2, ys, z, rep2.wl, ra, hc, fun v F3 H3 e4 ex4 nw fr al rp4 => q v F3 H3 (rep2.call e4 ex4 nw fr) ((st1.trans st2).trans (StpE.call e4 nw fr al)) rp4⟩)
    · cases e0
  · cases e0
theorem e_callk0 (hC : CallOkK X c.call kw k) (hsh : sh ∈ kw x) (hn : sh.n = 0) (hr : Room k X.A) (hgd : X.A.guards = some []) (hg : Gl X x) (hdb : (x == ("__debug__" : Str)) = false) (hkw : PK X kws (tA X.K fk)) (hks : kws.map (·.arg) = sh.ks.map some) (hl2 : ∀ ρ xs ρ', fk ρ = some (xs, ρ') → xs.length = sh.ks.length) :
    PE X (.Call (.Name x p) [] kws pos) (tE X.K fun ρ => bnd (fk ρ) fun xs ρ => match pickD xs sh.ix with
    | some ys => match c.call x none ys with
      | some (x, none) => some (x, ρ)
      | _ => none
    | none => none) := by
  refine ⟨fun pins s σ H Q I h => ?_⟩
  obtain ⟨ρ, F, z, ρ', rep, e0, q⟩ := h
  obtain ⟨xs2, ρ1, e3, e0⟩ := bnd_eq e0
  split at e0
  · rename_i ys hp
    split at e0
    · rename_i z' hc
      cases e0
      obtain ⟨fa, fd, ps, FG, hm, hk, kb⟩ := hC x sh ys _ hsh hc
      obtain ⟨k1, k2, k3⟩ := kw_all (pos := pos) (env := X.env) hks
      refine wpAny_Call_Name_kw (ld_glob I hg hm ?_ hdb)
      refine PySem.W.callWith_KW0 (h₀ := X.base) I.mod.kin hk k1 (thn (hkw.run pos pins s σ H (fun vs H2 => ∃ F2, Rep X.K ρ' σ F2 H2 ∧ StpE ρ σ F H ρ' F2 H2 ∧ RpA X.K F2 vs xs2) I ⟨ρ, F, xs2, ρ', rep, e3, fun vs F1 H1 a b c => ⟨F1, a, b, c⟩⟩) fun ws s2 ⟨zs, H2, I2, r2, F2, rep2, st2, rp2⟩ => ⟨I2.kIn, ?_⟩) (by rw [k3]; rfl)
      rw [k2]
      obtain ⟨bs, vs', hb, hv, ra⟩ := kb.go (F := F2) s2 [] ws I2.kIn .nil r2 .nil rp2 hn.symm (hl2 _ _ _ e3) hp
      exact goes_kw FG hr hgd I2 hb hv (.inl ⟨F2, ys, z, rep2.wl, ra, hc, fun v F3 H3 e4 ex4 nw fr al rp4 => q v F3 H3 (rep2.call e4 ex4 nw fr) (st2.trans (StpE.call e4 nw fr al)) rp4⟩)
    · cases e0
  · cases e0
end
end Wh

set_option Elab.async false
set_option linter.all false
set_option maxRecDepth 100000
set_option maxHeartbeats 1000000
set_option exponentiation.threshold 5000
/-! Wh10b: calls that raise, lambdas that are handed to a def. -/
namespace Wh
open PySem PySem.Spec PyProof.Rows L2 Evl
variable [Tbl]

/-! ### calls that raise -/
/-- a def that raises: the class, by its name in the module -/
def spX (K : PySem.W.Frag) (mg : Str → Option Value) (g : List PyData → Option Str) : Sp := fun vs H _ E =>
  ∃ F xs e C, Wl F H ∧ RpA K F vs xs ∧ g xs = some e ∧ mg e = some (.ref C) ∧ ∀ F' H', Ex F F' → Wl F' H' → NewIn F H F' → (∀ a o, H a = some o → noT o → H' a = some o) → (∀ a, H' a = none → H a = none) → E (.ref C) none H'
def CallOkX (X : Cx) (exc : Str → List PyData → Option Str) (kw : Str → List Kw) (k : Nat) : Prop := ∀ f xs e, koK (kw f) = false → exc f xs = some e → ∃ fa fd ps, FnG X.prog X.w X.K X.mg X.base (L2.CX X.prog X.w) k fa fd ps (spX X.K X.mg (exc f)) ∧ X.mg f = some (.ref fa) ∧ PySem.W.keepIn X.K (.ref fa) = true ∧ Binds X.K fd ps []
/-- .. by keywords -/
def CallOkXK (X : Cx) (exc : Str → List PyData → Option Str) (kw : Str → List Kw) (k : Nat) : Prop := ∀ f sh xs e, sh ∈ kw f → exc f xs = some e → ∃ fa fd ps, FnG X.prog X.w X.K X.mg X.base (L2.CX X.prog X.w) k fa fd ps (spX X.K X.mg (exc f)) ∧ X.mg f = some (.ref fa) ∧ PySem.W.keepIn X.K (.ref fa) = true ∧ KwOk X.K fd ps sh
/-- the reading of a call that raises -/
def tX (K : PySem.W.Frag) (mg : Str → Option Value) (fs : En → Option (List PyData × En)) (g : List PyData → Option Str) (W : WX) : TE := fun σ H _ =>
  ∃ ρ F xs ρ1 e C, Rep K ρ σ F H ∧ fs ρ = some (xs, ρ1) ∧ g xs = some e ∧ mg e = some (.ref C) ∧ ∀ F' H', Rep K ρ1 σ F' H' → StpE ρ σ F H ρ1 F' H' → W (.ref C) none σ H'
section
variable {X : Cx} {k : Nat} {f : Addr} {fd : FuncData} {ps : List Str} {sp : Sp} {x : Str} {p pos : Pos} {e : Expr} {es : List Expr} {t : TA} {W : WX} {exc : Str → List PyData → Option Str} {fs : En → Option (List PyData × En)}
theorem PA_nox (h : PA X.nox es t) : PA X es t := ⟨fun pos pins s σ H Q I hw =>
  wpAny_mono (h.run pos pins s σ H Q (I.wish _) hw) (fun _ _ ⟨v, H', I', r, q⟩ => ⟨v, H', I'.unwish, r, q⟩) fun _ _ z => False.elim z⟩
theorem PK_nox {kws : List Keyword} {t : TA} (h : PK X.nox kws t) : PK X kws t := ⟨fun pos pins s σ H Q I hw =>
  wpAny_mono (h.run pos pins s σ H Q (I.wish _) hw) (fun _ _ ⟨v, H', I', r, q⟩ => ⟨v, H', I'.unwish, r, q⟩) fun _ _ z => False.elim z⟩
theorem PS_nox {st : Stmt} {t : TS} (h : PS X.nox st t) : PS X st t := ⟨fun pins s σ H D I hw =>
  wpAny_mono (h.run pins s σ H D (I.wish _) hw) (fun _ _ q => q.unwish) fun _ _ z => False.elim z⟩
theorem goes_callX {pins : List (Addr × Obj)} {σ : L2.St} {H : Hp} {s : Shared} {Q : VK} {us : List Value} {vs : List V} (F : FnG X.prog X.w X.K X.mg X.base (L2.CX X.prog X.w) k f fd ps sp) (room : Room k X.A) (gd : X.A.guards = some []) (bs : Binds X.K fd ps []) (tk : L2.Takes X W) (I : Inv X pins σ H s) (va : Vals vs us) (h : sp vs H Q (WE W σ)) :
    wpAny (model X.prog X.w) X.A (call (.ref f) us) (EP X pins σ Q) X.xe s := by
  have n : (us ++ ([] : List Value)).length = ps.length := by rw [List.append_nil, ← va.length, F.many h]
  have b := bs s us I.kIn n
  simp only [List.append_nil] at b
  refine wpAny_call (codeAny_mono (F.goes gd room I.env0 va b h) fun r s' q => ?_)
  match r, q with
  | .error e, q => exact passAt tk σ pins H s e s' I q
  | .ok (.ret u), q => exact I.after q
  | .ok .next, q => exact q.elim
  | .ok .brk, q => exact q.elim
  | .ok .cont, q => exact q.elim
theorem x_call {kw : Str → List Kw} (hC : CallOkX X exc kw k) (hko : koK (kw x) = false) (tk : L2.Takes X W) (hr : Room k X.A) (hgd : X.A.guards = some []) (hg : Gl X x) (hdb : (x == ("__debug__" : Str)) = false) (ha : PA X (e :: es) (tA X.K fs)) (he : starEach (e :: es) X.env = (false, eval e X.env) :: starEach es X.env) (hpl : (backTo pos (starEach es X.env)).any (·.1) = false) :
    PE X (.Call (.Name x p) (e :: es) [] pos) (tX X.K X.mg fs (exc x) W) := by
  refine ⟨fun pins s σ H Q I h => ?_⟩
  obtain ⟨ρ, F, xs, ρ1, en, C, rep, e1, e2, hm, q⟩ := h
  obtain ⟨fa, fd, ps, FG, hf, hk, hb⟩ := hC x xs en hko e2
  refine wpAny_Call_Name_kw (ld_glob I hg hf (PySem.W.callWith_K (h₀ := X.base) I.mod.kin hk
    (thn (ha.run pos pins s σ H (fun vs H1 => ∃ F1, Rep X.K ρ1 σ F1 H1 ∧ StpE ρ σ F H ρ1 F1 H1 ∧ RpA X.K F1 vs xs) I ⟨ρ, F, xs, ρ1, rep, e1, fun vs F1 H1 a b c => ⟨F1, a, b, c⟩⟩) fun us s' ⟨vs, H', J, va, F1, rep1, st1, rp1⟩ => ⟨J.kIn, goes_callX FG hr hgd hb tk J va ?_⟩) he hpl) hdb)
  exact ⟨F1, xs, en, C, rep1.wl, rp1, e2, hm, fun F' H' x1 x2 nw fr al => q F' H' (rep1.call x1 x2 nw fr) (st1.trans (StpE.call x1 nw fr al))⟩
theorem goes_kwX {f : Addr} {fd : FuncData} {ps : List Str} {sp : Sp} {pins : List (Addr × Obj)} {σ : L2.St} {H : Hp} {s : Shared} {Q : VK} {us bs : List Value} {kvs : List (Str × Value)} {vs : List V} (F : FnG X.prog X.w X.K X.mg X.base (L2.CX X.prog X.w) k f fd ps sp) (room : Room k X.A) (gd : X.A.guards = some []) (tk : L2.Takes X W) (I : Inv X pins σ H s)
    (b : BindsTo s fd ⟨us, kvs⟩ (ps.zip bs)) (va : Vals vs bs) (h : sp vs H Q (WE W σ)) : wpAny (model X.prog X.w) X.A (call (.ref f) us kvs) (EP X pins σ Q) X.xe s := by
  refine wpAny_call (codeAny_mono (F.goes gd room I.env0 va b h) fun r s' q => ?_)
  match r, q with
  | .error e, q => exact passAt tk σ pins H s e s' I q
  | .ok (.ret u), q => exact I.after q
  | .ok .next, q => exact q.elim
  | .ok .brk, q => exact q.elim
  | .ok .cont, q => exact q.elim
/-- the reading of a call by keywords that raises -/
def tXK (K : PySem.W.Frag) (mg : Str → Option Value) (fs fk : En → Option (List PyData × En)) (ix : List (Nat ⊕ PyData)) (g : List PyData → Option Str) (W : WX) : TE := fun σ H _ =>
  ∃ ρ F xs ρ1 xs2 ρ2 ys e C, Rep K ρ σ F H ∧ fs ρ = some (xs, ρ1) ∧ fk ρ1 = some (xs2, ρ2) ∧ pickD (xs ++ xs2) ix = some ys ∧ g ys = some e ∧ mg e = some (.ref C) ∧ ∀ F' H', Rep K ρ2 σ F' H' → StpE ρ σ F H ρ2 F' H' → W (.ref C) none σ H'
theorem x_callk {kw : Str → List Kw} {sh : Kw} {kws : List Keyword} {fk : En → Option (List PyData × En)} (hC : CallOkXK X exc kw k) (hsh : sh ∈ kw x) (tk : L2.Takes X W) (hr : Room k X.A) (hgd : X.A.guards = some []) (hg : Gl X x) (hdb : (x == ("__debug__" : Str)) = false) (ha : PA X (e :: es) (tA X.K fs)) (hkw : PK X kws (tA X.K fk)) (hks : kws.map (·.arg) = sh.ks.map some)
    (hl1 : ∀ ρ xs ρ', fs ρ = some (xs, ρ') → xs.length = sh.n) (hl2 : ∀ ρ xs ρ', fk ρ = some (xs, ρ') → xs.length = sh.ks.length)
    (he : starEach (e :: es) X.env = (false, eval e X.env) :: starEach es X.env) (hpl : (backTo pos (starEach (e :: es) X.env)).any (·.1) = false) :
    PE X (.Call (.Name x p) (e :: es) kws pos) (tXK X.K X.mg fs fk sh.ix (exc x) W) := by
  refine ⟨fun pins s σ H Q I h => ?_⟩
  obtain ⟨ρ, F, xs1, ρ2, xs2, ρ', ys, en, C, rep, e2, e3, hp, hx, hmg, q⟩ := h
  obtain ⟨fa, fd, ps, FG, hm, hk, kb⟩ := hC x sh ys en hsh hx
  obtain ⟨k1, k2, k3⟩ := kw_all (pos := pos) (env := X.env) hks
  refine wpAny_Call_Name_kw (ld_glob I hg hm ?_ hdb)
  refine PySem.W.callWith_KW (h₀ := X.base) I.mod.kin hk k1 (thn (ha.run pos pins s σ H (fun vs H1 => ∃ F1, Rep X.K ρ2 σ F1 H1 ∧ StpE ρ σ F H ρ2 F1 H1 ∧ RpA X.K F1 vs xs1) I ⟨ρ, F, xs1, ρ2, rep, e2, fun vs F1 H1 a b c => ⟨F1, a, b, c⟩⟩) fun us s1 ⟨vs, H1, I1, r1, F1, rep1, st1, rp1⟩ => ?_) (by rw [hpl, k3]; rfl) he
  refine thn (hkw.run pos pins s1 σ H1 (fun vs H2 => ∃ F2, Rep X.K ρ' σ F2 H2 ∧ StpE ρ2 σ F1 H1 ρ' F2 H2 ∧ RpA X.K F2 vs xs2) I1 ⟨ρ2, F1, xs2, ρ', rep1, e3, fun vs F1 H1 a b c => ⟨F1, a, b, c⟩⟩) fun ws s2 ⟨zs, H2, I2, r2, F2, rep2, st2, rp2⟩ => ⟨I2.kIn, ?_⟩
  rw [k2]
  obtain ⟨bs, vs', hb, hv, ra⟩ := kb.go (F := F2) s2 us ws I2.kIn r1 r2 (rp1.mono st2.ext) rp2 (hl1 _ _ _ e2) (hl2 _ _ _ e3) hp
  exact goes_kwX FG hr hgd tk I2 hb hv ⟨F2, ys, en, C, rep2.wl, ra, hx, hmg, fun F3 H3 e4 ex4 nw fr al => q F3 H3 (rep2.call e4 ex4 nw fr) ((st1.trans st2).trans (StpE.call e4 nw fr al))⟩
end
end Wh

set_option Elab.async false
set_option linter.all false
set_option maxRecDepth 100000
set_option maxHeartbeats 1000000
set_option exponentiation.threshold 5000
/-! Wh10c: x(lambda: f(a, ..)). -/
namespace Wh
open PySem PySem.Spec PyProof.Rows L2 Evl LamX
variable [Tbl]
section
variable {X : Cx} {pins : List (Addr × Obj)} {σ : L2.St} {H HZ : Hp} {s s1 : Shared}
/-- the lambda is made; nothing that was tracked is gone -/
theorem lam_makeA {T : List (Addr × Str)} {c P : Addr} {params : Arguments} {body : Expr} {scope : Scope} {pos : Pos} {E : Value → Shared → Prop} {Q : Value → Shared → Prop} (I : Inv X pins σ H s) (TB : TabB X.base X.mg c P) (hcode : X.env.code = .ref c)
    (hm : (P, X.env.qual ++ "<lambda>") ∈ T) (hu : ∀ p ∈ T, p.1 = P → p.2 = X.env.qual ++ "<lambda>") (hT : Tabs T H) (hdef : defaultsOf params X.env = ([], [])) (hfree : ∀ y ∈ scope.names, y.2 = .free → ∃ c, X.env.cells.lookup y.1 = some c)
    (h : ∀ (f c' : Addr) (pm ctv : Value) (H1 : Hp) (s' : Shared), Inv X pins σ H1 s' → ExtN H H1 → (∀ a, H1 a = none → H a = none) → Tabs T H1 →
      s'.heap.get? f = some (PySem.W.kla_obj "<lambda>" (X.env.qual ++ "<lambda>") params body scope (cloFrom X.env.cells scope.names []) pm c' ctv) → H1 f = none → f ∉ frs X.stack → H1 c' = some (CodeO c' (X.env.qual ++ "<lambda>")) → Q (.ref f) s') :
    wpAny (model X.prog X.w) X.A (eval (.Lambda params body scope pos) X.env) Q E s := by
  obtain ⟨ps, hP, ht, ha⟩ := hT _ hm
  have bP : s.heap.BuiltinsAt X.mg P := TB.bm.keeps I.bk
  have hP' : s.heap.get? P = some { cls := .none, data := .fields ps } := I.hok P _ hP
  have out : ∀ f, s.heap.objs.size ≤ f → f ∉ frs X.stack := fun f hf z => (List.mem_cons.mp (I.stkSub _ z)).elim (fun e => by
    have h1 := I.lt
    rw [← e] at h1
    exact Nat.lt_irrefl _ (Nat.lt_of_lt_of_le h1 hf)) fun e => I.nofs hf e
  refine PySem.W.kla_eval hdef ?_
  cases hc : codeAmong pos ps.toList with
  | some cv =>
    obtain ⟨c', rfl, hco⟩ := ha pos cv hc
    refine PySem.W.kla_makeFunctionHit (mg := X.mg) (c := c) (P := P) (ps := ps) (closure_ok hfree) I.ok.glob (I.mod.glob.keeps I.bk) hcode (TB.code.keeps I.bk) hP' ht hc bP fun ctv h' tk hx hsz => ?_
    exact h h'.objs.size c' ((X.mg "__name__").getD .none) ctv H _ (I.kept fun b o e => Heap.get?_push_of_some _ (hx b o e)) (ExtN.refl H) (fun _ z => z) hT (Heap.get?_push_size _ rfl) (I.hok.fresh hsz) (out _ hsz) hco
  | none =>
    refine PySem.W.kla_makeFunction (mg := X.mg) (c := c) (P := P) (ps := ps) (closure_ok hfree) I.ok.glob (I.mod.glob.keeps I.bk) hcode (TB.code.keeps I.bk) hP' ht hc TB.gP bP fun c' ctv h' tk hx hge hlt hrec htb => ?_
    obtain ⟨c2, oc, vs, t, e2, hoc, hd, hv⟩ := hrec
    cases e2
    have hsz : s.heap.objs.size ≤ h'.objs.size := Nat.le_trans hge (Nat.le_of_lt hlt)
    have nC : H c' = none := I.hok.fresh hge
    have nPC : P ≠ c' := ne_of_none hP nC
    have I1 := inv_table (t' := tk) (more := #[rawInt pos.line, rawInt pos.col, .ref c']) (h' := h'.push (PySem.W.kla_obj "<lambda>" (X.env.qual ++ "<lambda>") params body scope (cloFrom X.env.cells scope.names []) ((X.mg "__name__").getD .none) c' ctv)) I hP
      (fun b o hb e => Heap.get?_push_of_some _ (hx b o hb e)) (Heap.get?_push_of_some _ htb) hge ⟨oc, vs, t, Heap.get?_push_of_some _ hoc, hd, hv⟩
    have keepN : ExtN H (upd (upd H P (.tbl (ps ++ #[rawInt pos.line, rawInt pos.col, .ref c']))) c' (CodeO c' (X.env.qual ++ "<lambda>"))) := fun b o e n => by
      have n1 : b ≠ P := fun z => n ps (Option.some.inj (e.symm.trans (by rw [z]; exact hP)))
      rw [upd_ne (ne_of_none e nC), upd_ne n1]
      exact e
    have eL : (ps ++ #[rawInt pos.line, rawInt pos.col, .ref c']).toList = ps.toList ++ [rawInt pos.line, rawInt pos.col, .ref c'] := by simp
    refine h h'.objs.size c' ((X.mg "__name__").getD .none) ctv _ _ I1 keepN (fun a z => upd_none' (upd_none' z)) (fun p hp => ?_) (Heap.get?_push_size _ rfl) ?_ (out _ hsz) upd_same
    · by_cases hb : p.1 = P
      · rw [hu p hp hb, hb]
        refine ⟨_, by rw [upd_ne nPC, upd_same], by rw [eL]; exact PySem.TriplesOk_snoc _ _ _ _ ht, fun p' cv hcv => ?_⟩
        rw [eL] at hcv
        rcases among_app _ ht hcv with z | z
        · obtain ⟨c0, e1, e2⟩ := ha p' cv z
          exact ⟨c0, e1, keepN _ _ e2 codeO_ne⟩
        · exact ⟨c', z, upd_same⟩
      · obtain ⟨ps', a1, a2, a3⟩ := hT p hp
        refine ⟨ps', by rw [upd_ne (ne_of_none a1 nC), upd_ne hb]; exact a1, a2, fun p' cv hcv => ?_⟩
        obtain ⟨c0, e1, e2⟩ := a3 p' cv hcv
        exact ⟨c0, e1, keepN _ _ e2 codeO_ne⟩
    · have n1 : h'.objs.size ≠ c' := Nat.ne_of_gt hlt
      have n2 : h'.objs.size ≠ P := Nat.ne_of_gt (Nat.lt_of_lt_of_le (Heap.lt_size hP') hsz)
      rw [upd_ne n1, upd_ne n2]
      exact I.hok.fresh hsz
/-- the lambda runs, called from within the def that got it; no repr runs around -/
theorem act_goes {qg : Str} {sg : Scope} {g f c' : Addr} {cdg pm ctv : Value} {params : Arguments} {body : Expr} {scope : Scope} {k : Nat} {E : XK} {tb : TE} {Q : VK}
    (I : Inv X pins σ H s) (L : LamS X.env.scope scope) (hgd : X.A.guards = some [])
    (hbind : bindArgs (PySem.W.kla_fn "<lambda>" (X.env.qual ++ "<lambda>") params body scope (cloFrom X.env.cells scope.names []) pm (.ref c') ctv) ⟨[], []⟩ = pure [])
    (hr : Room (k + 1) (X.A.deeper (envOfC qg sg s.heap.objs.size g cdg)))
    (hbody : ∀ (A : Around) (outer : List PySem.Env) (s : Shared) (H : Hp), A.guards = some [] → Room k (A.deeper (lamEnv X scope s.heap.objs.size f c')) → PE (lamCx X A outer s H E scope f c') body tb)
    (e0 : Env0 X.prog X.w X.K X.mg X.base (X.A.deeper (envOfC qg sg s.heap.objs.size g cdg)) (envOfC qg sg s.heap.objs.size g cdg :: X.stack) s1 HZ) (nl : s1.heap.NoLimit)
    (of1 : s1.heap.get? f = some (PySem.W.kla_obj "<lambda>" (X.env.qual ++ "<lambda>") params body scope (cloFrom X.env.cells scope.names []) pm c' ctv)) (un : Un (frs X.stack) [] H HZ s.heap s1.heap)
    (hc : ∃ (oc : Obj) (vs : Array Value) (t : Tok), s1.heap.get? c' = some oc ∧ oc.data = .fields vs ∧ vs[1]? = some (.str (X.env.qual ++ "<lambda>") t)) (ht : tb σ HZ Q) :
    codeAny (model X.prog X.w) (X.A.deeper (envOfC qg sg s.heap.objs.size g cdg)) (.call (.ref f) ⟨[], []⟩) (CR (L2.CX X.prog X.w) (envOfC qg sg s.heap.objs.size g cdg :: X.stack) X.prog X.w HZ s1 Q E) s1 := by
  obtain ⟨oc, vs, t, hoc, hdc, hvc⟩ := hc
  refine PySem.W.kla_callFunE hr.depth of1 rfl L.co L.gen rfl ⟨c', oc, vs, t, rfl, hoc, hdc, hvc⟩ ?_
  rw [hbind]
  refine wpAny_pure (wpAny_newFunctionEnv (fun y hy => (L.own y hy).2) (fun y hy => absurd hy (by simp)) (fun h₁ hns hsb => ⟨nl.fresh _ hsb, ?_⟩) L.kind)
  have kp : ∀ b o, s1.heap.get? b = some o → h₁.get? b = some o := fun b o e => hsb.extBut b o (Nat.ne_of_lt (Heap.lt_size e)) (Heap.get?_push_of_some _ e)
  have J : Inv (lamCx X (X.A.deeper (envOfC qg sg s.heap.objs.size g cdg)) (envOfC qg sg s.heap.objs.size g cdg :: X.stack) s1 HZ E scope f c') [] σ HZ { s1 with heap := h₁, toks := s1.toks + ([] : List (Str × Value)).length } :=
    lam_start2 I L e0 hr.hd un hns kp
  refine PySem.W.kla_codeExpr (wpAny_mono ((hbody (X.A.deeper (envOfC qg sg s.heap.objs.size g cdg)) (envOfC qg sg s.heap.objs.size g cdg :: X.stack) s1 HZ hgd (hr.deeper _)).run [] _ _ HZ Q J ht) (fun v s' hq => ?_) fun e s' hq => hq)
  obtain ⟨w', H', J', rv, q⟩ := hq
  exact ⟨w', H', J'.os, J'.bare, J'.base, J'.hok, rv, q⟩
/-- a(), in that def -/
theorem pe_actG {CXg : CXT} {Eg : XK} {Ng : List Str} {qg : Str} {sg : Scope} {g f c' : Addr} {cdg pm ctv : Value} {params : Arguments} {body : Expr} {scope : Scope} {k i : Nat} {a : Str} {pn : List (Addr × Obj)} {xe : Value → Shared → Prop} {W : WX} {E : XK} {tb : TE} {p1 p2 : Pos}
    (I : Inv X pins σ H s) (L : LamS X.env.scope scope) (hgd : X.A.guards = some []) (hf : s.heap.get? f = some (PySem.W.kla_obj "<lambda>" (X.env.qual ++ "<lambda>") params body scope (cloFrom X.env.cells scope.names []) pm c' ctv)) (hfn : H f = none) (hfr : f ∉ frs X.stack)
    (hbind : bindArgs (PySem.W.kla_fn "<lambda>" (X.env.qual ++ "<lambda>") params body scope (cloFrom X.env.cells scope.names []) pm (.ref c') ctv) ⟨[], []⟩ = pure [])
    (tk : L2.Takes ((cxOf CXg X.prog X.w X.K X.mg X.base Ng qg sg g cdg X.A X.stack s H Eg).tr pn xe) W) (hW : ∀ cls d σ' H', E cls d H' → W cls d σ' H') (hr : Room (k + 1) (X.A.deeper (envOfC qg sg s.heap.objs.size g cdg)))
    (hbody : ∀ (A : Around) (outer : List PySem.Env) (s : Shared) (H : Hp), A.guards = some [] → Room k (A.deeper (lamEnv X scope s.heap.objs.size f c')) → PE (lamCx X A outer s H E scope f c') body tb)
    (hN : Ng[i]? = some a) (hv : Vis sg a) (hd : (a == ("__debug__" : Str)) = false) (hcd : (a == ("__classdict__" : Str)) = false) :
    PE ((cxOf CXg X.prog X.w X.K X.mg X.base Ng qg sg g cdg X.A X.stack s H Eg).tr pn xe) (.Call (.Name a p1) [] [] p2)
      (fun σZ HZ Q => σZ[i]? = some (some (.ref f)) ∧ HZ c' = some (CodeO c' (X.env.qual ++ "<lambda>")) ∧ tb σ HZ Q) := by
  refine ⟨fun pinsZ sZ σZ HZ Q IZ h => ?_⟩
  obtain ⟨hs, hc, ht⟩ := h
  refine wpAny_Call_Name_kw (thn ((pe_var (pos := p1) (i := i) hN hv hd hcd).run pinsZ sZ σZ HZ (fun v H1 => v = .ref f ∧ H1 = HZ) IZ ⟨.ref f, hs, rfl, rfl⟩) fun u s1 ⟨v, H1, I1, r1, ev, eH⟩ => ?_)
  subst ev
  rw [eH] at I1
  obtain rfl : u = Value.ref f := r1
  have of1 : s1.heap.get? f = some (PySem.W.kla_obj "<lambda>" (X.env.qual ++ "<lambda>") params body scope (cloFrom X.env.cells scope.names []) pm c' ctv) := I1.base.keep f _ hf hfn hfr (fun z => nomatch (show f ∈ ([] : List Addr) from z))
  refine PySem.W.callWith_F0 ⟨_, _, _, _, of1⟩ ?_
  have rc := act_goes (s1 := s1) (HZ := HZ) (Q := Q) I L hgd hbind hr hbody I1.env0 I1.nolimit of1 I1.base (I1.hok c' _ hc).1 ht
  refine wpAny_call (codeAny_mono rc fun r s' hq => ?_)
  match r, hq with
  | .error e, hq => exact passes_call tk hW pinsZ σZ HZ s1 e s' I1 hq
  | .ok (.ret u), hq => exact I1.after hq
  | .ok .next, hq => exact hq.elim
  | .ok .brk, hq => exact hq.elim
  | .ok .cont, hq => exact hq.elim
end
/-- the items of what is made of what a lambda tells, and the object -/
def toldO (ws : List (Str × PyData)) (v : V) : List V × HO := if toldL ws then ([v], .lst [v]) else ([.str "told", v], .tup [.str "told", v])
/-- what the def makes of what the lambda tells or raises: ("told", v), [v], or by the class -/
def TSaid (K : PySem.W.Frag) (mg : Str → Option Value) (ws : List (Str × PyData)) : (XK → Hp → VK → Prop) → Hp → VK → Prop := fun tl H Q =>
  tl (fun cls d H' => ∃ e C w F, cls = .ref C ∧ d = none ∧ mg e = some (.ref C) ∧ ws.lookup e = some w ∧ Wl F H' ∧ ∀ v F' H'', Ex F F' → Wl F' H'' → NewIn F H' F' → (∀ a o, H' a = some o → noT o → H'' a = some o) → (∀ a, H'' a = none → H' a = none) → Rp K F' v w → Q v H'')
    H fun v H' => (toldO ws v).1.length ≤ sizeLine ∧ ∀ p, H' p = none → Q (.ref p) (upd H' p (toldO ws v).2)
/-- the reading of x(lambda: ..) -/
def tLamA (T : List (Addr × Str)) (TT : (XK → Hp → VK → Prop) → Hp → VK → Prop) (t : XK → TE) : TE := fun σ H Q => Tabs T H ∧ ∀ H1, ExtN H H1 → (∀ a, H1 a = none → H a = none) → Tabs T H1 → TT (fun E H' Q' => t E σ H' Q') H1 Q
/-- a def that says what a lambda tells -/
def Says1 (X : Cx) (x : Str) (ws : List (Str × PyData)) : Prop :=
  ∃ (a : Str) (g : Addr) (pg : Arguments) (bg : List Stmt) (sg : Scope) (dV kV doc pm cdv ct oc : Value) (an od : Option Addr) (osl : Array (Option Value)) (Ng : List Str),
    X.mg x = some (.ref g) ∧ PySem.W.keepIn X.K (.ref g) = true ∧ X.K.lookup g = some ⟨oc, od, .func (PySem.W.fnOf x x pg bg sg dV kV doc pm an cdv ct), osl⟩ ∧ PySem.W.codeIn X.K cdv x = true ∧
    L2.Binds X.K (PySem.W.fnOf x x pg bg sg dV kV doc pm an cdv ct) [a] [] ∧ FnScope Ng [a] sg ∧ Ng[0]? = some a ∧ Vis sg a ∧ (a == ("__debug__" : Str)) = false ∧ (a == ("__classdict__" : Str)) = false ∧
    GivesTo X Ng x sg g cdv bg a (X.env.qual ++ "<lambda>") (TSaid X.K X.mg ws) ∧ ∀ e w, ws.lookup e = some w → ∃ C, X.mg e = some (.ref C)
/-- what a context brings for x(lambda: ..) -/
def SaysTo (X : Cx) (x : Str) (ws : List (Str × PyData)) : Prop := Says1 X x ws ∧ ∃ c P, TabB X.base X.mg c P ∧ X.env.code = .ref c ∧ (P, X.env.qual ++ "<lambda>") ∈ Tbl.T ∧ ∀ p ∈ Tbl.T, p.1 = P → p.2 = X.env.qual ++ "<lambda>"
/-- .. wherever it is called from -/
def SayD (K : PySem.W.Frag) (mg : Str → Option Value) (x : Str) (ws : List (Str × PyData)) : Prop := ∀ X : Cx, X.K = K → X.mg = mg → X.A.guards = some [] → Room 5 X.A → Says1 X x ws
section
variable {X : Cx} {x : Str} {ws : List (Str × PyData)} {params : Arguments} {body : Expr} {scope : Scope} {t : XK → TE} {p lpos pos : Pos} {k : Nat}
theorem pe_said (S : SaysTo X x ws) (hg : Gl X x) (hdb : (x == ("__debug__" : Str)) = false) (hr : Room (k + 2) X.A) (hgd : X.A.guards = some []) (L : LamS X.env.scope scope) (hdef : defaultsOf params X.env = ([], []))
    (hbind : ∀ (q : Str) (cl : List (Str × Addr)) (pm cv ctv : Value), bindArgs (PySem.W.kla_fn "<lambda>" q params body scope cl pm cv ctv) ⟨[], []⟩ = pure [])
    (hbody : ∀ (A : Around) (outer : List PySem.Env) (s : Shared) (H : Hp) (E : XK) (f c' : Addr), A.guards = some [] → Room k (A.deeper (lamEnv X scope s.heap.objs.size f c')) → PE (lamCx X A outer s H E scope f c') body (t E)) :
    PE X (.Call (.Name x p) [.Lambda params body scope lpos] [] pos) (tLamA Tbl.T (TSaid X.K X.mg ws) t) := by
  obtain ⟨⟨a, g, pg, bg, sg, dV, kV, doc, pm, cdv, ct, oc, an, od, osl, Ng, hm, hk, lk, hcg, hb, Sg, hNg, hva, hd, hcd, hG, _⟩, c, P, TB, hcode, hmT, hu⟩ := S
  refine ⟨fun pins s σ H Q I h => ?_⟩
  obtain ⟨hT, h⟩ := h
  refine wpAny_Call_Name_kw (ld_glob I hg hm ?_ hdb)
  refine PySem.W.callWith_K (h₀ := X.base) I.ok.mod.kin hk ?_ (by rfl) (by rfl)
  show wpAny _ _ (spliced ((false, eval (.Lambda params body scope lpos) X.env) :: backTo pos (starEach [] X.env))) _ _ s
  refine Calls.spliced_cons (lam_makeA I TB hcode hmT hu hT hdef (L.has I.ok) fun f c' pm' ctv H1 s' I1 eN al T1 hf hfn hfr hco => ?_)
  refine Calls.spliced_nil ⟨I1.kIn, ?_⟩
  have rc : codeAny (model X.prog X.w) X.A (.call (.ref g) ⟨[.ref f], []⟩) (CR C8.CX0 X.stack X.prog X.w H1 s' Q C8.E0) s' := by
    refine run_ofS (N := Ng) (ps := [a]) (us := [.ref f]) (vs := [.ref f]) lk hcg Sg hr I1.env0 (hb s' [.ref f] I1.kIn rfl) (.cons rfl .nil) rfl fun hr' => ?_
    obtain ⟨t', ht', hq'⟩ := hG f c' s' H1 Q (fun E H' Q' => t E σ H' Q') (fun W pn xe E p1 p2 tk hW => pe_actG (i := 0) I1 L hgd hf hfn hfr (hbind _ _ _ _ _) tk hW hr' (fun A outer s H hgd hr2 => hbody A outer s H E f c' hgd hr2) hNg hva hd hcd) hco (h H1 eN al T1)
    exact ⟨t', ht'.nox, hq'⟩
  refine wpAny_call (codeAny_mono rc fun r s2 hq => ?_)
  match r, hq with
  | .error e, hq => exact (show False from hq).elim
  | .ok (.ret u), hq => exact I1.after hq
  | .ok .next, hq => exact hq.elim
  | .ok .brk, hq => exact hq.elim
  | .ok .cont, hq => exact hq.elim
end
/-- the tables grow, nothing else -/
theorem Rep.tabs {K : PySem.W.Frag} {ρ : En} {σ : L2.St} {F H H1 : Hp} (r : Rep K ρ σ F H) (e : ExtN H H1) (t : Tabs Tbl.T H1) : Rep K ρ σ F H1 :=
  ⟨r.len, ⟨fun a o h => e a o (r.ex a o h) (r.wl.nt a o h), t, r.wl.nt⟩, r.dat, fun i b xs h => by
    obtain ⟨p, vs, h1, h2, h3, h4⟩ := r.own i b xs h
    exact ⟨p, vs, h1, h2, e _ _ h3 (fun _ z => by cases z), h4⟩, r.dis, r.xc, fun i xs h => by
    obtain ⟨p, vs, h1, h2, h3, h4⟩ := r.odc i xs h
    exact ⟨p, vs, h1, h2, e _ _ h3 (fun _ z => by cases z), h4⟩⟩
theorem StpE.tabs {ρ : En} {σ : L2.St} {F H H1 : Hp} (e : ExtN H H1) (al : ∀ a, H1 a = none → H a = none) : StpE ρ σ F H ρ F H1 :=
  ⟨⟨Ex.refl F, fun _ _ h => .inl h, fun a o h _ nt => e a o h nt, fun _ h => .inl h, al, fun i xs h => ⟨rfl, xs, h⟩⟩, fun _ h => h⟩
section
variable {X : Cx} {c : Cfg} {k : Nat} {x f : Str} {ws : List (Str × PyData)} {params : Arguments} {scope : Scope} {p pf lpos bpos pos : Pos} {e : Expr} {es : List Expr} {fs : En → Option (List PyData × En)}
theorem takes_lam {A : Around} {outer : List PySem.Env} {s : Shared} {H : Hp} {E : XK} {f c' : Addr} : L2.Takes (lamCx X A outer s H E scope f c') (fun cls d _ H => E cls d H) := takes_of rfl rfl rfl rfl
theorem told_len {v : V} : (toldO ws v).1.length ≤ sizeLine := by
  unfold toldO
  split <;> simp [sizeLine]
theorem told_noT {v : V} : noT (toldO ws v).2 := by
  unfold toldO
  split <;> exact fun _ z => by cases z
omit [Tbl] in
theorem told_rp {K : PySem.W.Frag} {F : Hp} {v : V} {y : PyData} {p0 : Addr} (hf : F p0 = none) (r : Rp K F v y) : Rp K (upd F p0 (toldO ws v).2) (.ref p0) (tellD ws y) := by
  have e : Ex F (upd F p0 (toldO ws v).2) := Ex.new hf
  have r := r.mono e
  unfold toldO tellD at *
  split
  · rename_i h
    rw [if_pos h] at r e
    exact .lst (SqL.of upd_same) (.cons r .nil)
  · rename_i h
    rw [if_neg h] at r e
    exact .tup (SqT.of upd_same) (.cons (.str _) (.cons r .nil))
/-- the lambda's body: it tells or it raises -/
def tBody (K : PySem.W.Frag) (mg : Str → Option Value) (c : Cfg) (f : Str) (fs : En → Option (List PyData × En)) (E : XK) : TE := fun σ H Q => ∃ ρ F xs ρ1, Rep K ρ σ F H ∧ fs ρ = some (xs, ρ1) ∧
  ((∃ x, c.call f none xs = some (x, none) ∧ ∀ v F' H', Rep K ρ1 σ F' H' → StpE ρ σ F H ρ1 F' H' → Rp K F' v x → Q v H') ∨ ∃ e C, c.exc f xs = some e ∧ mg e = some (.ref C) ∧ ∀ F' H', Rep K ρ1 σ F' H' → StpE ρ σ F H ρ1 F' H' → E (.ref C) none H')
theorem e_said {kw : Str → List Kw} (S : SaysTo X x ws) (hC : CallOk X c.call kw k) (hX : CallOkX X c.exc kw k) (hko : koK (kw f) = false) (hg : Gl X x) (hdb : (x == ("__debug__" : Str)) = false) (hr : Room (k + 2) X.A) (hgd : X.A.guards = some []) (L : LamS X.env.scope scope) (hdef : defaultsOf params X.env = ([], []))
    (hbind : ∀ (q : Str) (cl : List (Str × Addr)) (pm cv ctv : Value), bindArgs (PySem.W.kla_fn "<lambda>" q params (.Call (.Name f pf) (e :: es) [] bpos) scope cl pm cv ctv) ⟨[], []⟩ = pure [])
    (hgf : scope.names.lookup f = some .globalImplicit) (hdf : (f == ("__debug__" : Str)) = false)
    (he : ∀ env, starEach (e :: es) env = (false, eval e env) :: starEach es env) (hpl : ∀ env, (backTo bpos (starEach es env)).any (·.1) = false)
    (ha : ∀ (A : Around) (outer : List PySem.Env) (s : Shared) (H : Hp) (E : XK) (f c' : Addr), A.guards = some [] → Room k (A.deeper (lamEnv X scope s.heap.objs.size f c')) → PA (lamCx X A outer s H E scope f c').nox (e :: es) (tA X.K fs)) :
    PE X (.Call (.Name x p) [.Lambda params (.Call (.Name f pf) (e :: es) [] bpos) scope lpos] [] pos) (tE X.K fun ρ => bnd (fs ρ) fun xs ρ => match c.call f none xs with
    | some (x, none) => some (tellD ws x, ρ)
    | _ => match c.exc f xs with
      | some e => match ws.lookup e with
        | some w => some (w, ρ)
        | none => none
      | none => none) := by
  refine (pe_said (k := k) (t := tBody X.K X.mg c f fs) S hg hdb hr hgd L hdef hbind fun A outer s H E fa c' hgA hrA => ?_).wk fun σ H Q h => ?_
  · have gl : Gl (lamCx X A outer s H E scope fa c') f := hgf
    have hA := ha A outer s H E fa c' hgA hrA
    have p1 := PE.nox (X := lamCx X A outer s H E scope fa c') (e_call (X := (lamCx X A outer s H E scope fa c').nox) (p := pf) (pos := bpos) (c := c) (k := k) hC hko hrA hgA hgf hdf hA (he _) (hpl _))
    have p2 := x_call (X := lamCx X A outer s H E scope fa c') (p := pf) (pos := bpos) (exc := c.exc) (k := k) hX hko takes_lam hrA hgA gl hdf (PA_nox hA) (he _) (hpl _)
    refine ⟨fun pins s σ H Q I h => ?_⟩
    obtain ⟨ρ, F, xs, ρ1, rep, e1, ⟨z, e2, q⟩ | ⟨en, C, e2, hm, q⟩⟩ := h
    · refine p1.run pins s σ H Q I ⟨ρ, F, z, ρ1, rep, ?_, q⟩
      show bnd (fs ρ) _ = _
      rw [e1, bnd_some, e2]
    · exact p2.run pins s σ H Q I ⟨ρ, F, xs, ρ1, en, C, rep, e1, e2, hm, q⟩
  · obtain ⟨ρ, F, z, ρ', rep, e0, q⟩ := h
    obtain ⟨xs, ρ1, e1, e0⟩ := bnd_eq e0
    refine ⟨rep.wl.tab, fun H1 eN al T1 => ⟨ρ, F, xs, ρ1, rep.tabs eN T1, e1, ?_⟩⟩
    have st1 := StpE.tabs (ρ := ρ) (σ := σ) (F := F) eN al
    split at e0
    · rename_i y hc
      cases e0
      refine .inl ⟨y, hc, fun v F' H' rep' st' rp' => ⟨told_len, fun p0 hp => ?_⟩⟩
      have hn := told_noT (ws := ws) (v := v)
      refine q (.ref p0) (upd F' p0 (toldO ws v).2) (upd H' p0 (toldO ws v).2) (rep'.lay hp hn) ((st1.trans st').trans (StpE.lay rep' hp)) (told_rp (fresh_back rep'.ex hp) rp')
    · split at e0
      · rename_i en hx
        split at e0
        · rename_i w hw
          cases e0
          obtain ⟨⟨_, _, _, _, _, _, _, _, _, _, _, _, _, _, _, _, _, _, _, _, _, _, _, _, _, _, _, hcl⟩, _⟩ := S
          obtain ⟨C, hm⟩ := hcl en z hw
          refine .inr ⟨en, C, hx, hm, fun F' H' rep' st' => ⟨en, C, z, F', rfl, rfl, hm, hw, rep'.wl, fun v F2 H2 x1 x2 nw fr al' rp => ?_⟩⟩
          exact q v F2 H2 (rep'.call x1 x2 nw fr) ((st1.trans st').trans (StpE.call x1 nw fr al')) rp
        · cases e0
      · cases e0
variable {kws : List Keyword} {fk : En → Option (List PyData × En)}
/-- .. by keywords -/
def tBodyK (K : PySem.W.Frag) (mg : Str → Option Value) (c : Cfg) (f : Str) (fs fk : En → Option (List PyData × En)) (ix : List (Nat ⊕ PyData)) (E : XK) : TE := fun σ H Q => ∃ ρ F xs ρ1 xs2 ρ2 ys, Rep K ρ σ F H ∧ fs ρ = some (xs, ρ1) ∧ fk ρ1 = some (xs2, ρ2) ∧ pickD (xs ++ xs2) ix = some ys ∧
  ((∃ x, c.call f none ys = some (x, none) ∧ ∀ v F' H', Rep K ρ2 σ F' H' → StpE ρ σ F H ρ2 F' H' → Rp K F' v x → Q v H') ∨ ∃ e C, c.exc f ys = some e ∧ mg e = some (.ref C) ∧ ∀ F' H', Rep K ρ2 σ F' H' → StpE ρ σ F H ρ2 F' H' → E (.ref C) none H')
theorem e_saidk {kw : Str → List Kw} {sh : Kw} (S : SaysTo X x ws) (hC : CallOkK X c.call kw k) (hX : CallOkXK X c.exc kw k) (hsh : sh ∈ kw f) (hg : Gl X x) (hdb : (x == ("__debug__" : Str)) = false) (hr : Room (k + 2) X.A) (hgd : X.A.guards = some []) (L : LamX.LamS X.env.scope scope) (hdef : defaultsOf params X.env = ([], []))
    (hbind : ∀ (q : Str) (cl : List (Str × Addr)) (pm cv ctv : Value), bindArgs (PySem.W.kla_fn "<lambda>" q params (.Call (.Name f pf) (e :: es) kws bpos) scope cl pm cv ctv) ⟨[], []⟩ = pure [])
    (hgf : scope.names.lookup f = some .globalImplicit) (hdf : (f == ("__debug__" : Str)) = false) (hks : kws.map (·.arg) = sh.ks.map some)
    (hl1 : ∀ ρ xs ρ', fs ρ = some (xs, ρ') → xs.length = sh.n) (hl2 : ∀ ρ xs ρ', fk ρ = some (xs, ρ') → xs.length = sh.ks.length)
    (he : ∀ env, starEach (e :: es) env = (false, eval e env) :: starEach es env) (hpl : ∀ env, (backTo bpos (starEach (e :: es) env)).any (·.1) = false)
    (ha : ∀ (A : Around) (outer : List PySem.Env) (s : Shared) (H : Hp) (E : XK) (f c' : Addr), A.guards = some [] → Room k (A.deeper (lamEnv X scope s.heap.objs.size f c')) → PA (lamCx X A outer s H E scope f c').nox (e :: es) (tA X.K fs) ∧ PK (lamCx X A outer s H E scope f c').nox kws (tA X.K fk)) :
    PE X (.Call (.Name x p) [.Lambda params (.Call (.Name f pf) (e :: es) kws bpos) scope lpos] [] pos) (tE X.K fun ρ => bnd (bnd (fs ρ) fun xs ρ => bnd (fk ρ) fun ys ρ => some (xs ++ ys, ρ)) fun xs ρ => match pickD xs sh.ix with
    | some ys => match c.call f none ys with
      | some (x, none) => some (tellD ws x, ρ)
      | _ => match c.exc f ys with
        | some e => match ws.lookup e with
          | some w => some (w, ρ)
          | none => none
        | none => none
    | none => none) := by
  refine (pe_said (k := k) (t := tBodyK X.K X.mg c f fs fk sh.ix) S hg hdb hr hgd L hdef hbind fun A outer s H E fa c' hgA hrA => ?_).wk fun σ H Q h => ?_
  · have gl : Gl (lamCx X A outer s H E scope fa c') f := hgf
    obtain ⟨hA, hK⟩ := ha A outer s H E fa c' hgA hrA
    have p1 := PE.nox (X := lamCx X A outer s H E scope fa c') (e_callk (X := (lamCx X A outer s H E scope fa c').nox) (p := pf) (pos := bpos) (c := c) (k := k) hC hsh hrA hgA hgf hdf hA hK hks hl1 hl2 (he _) (hpl _))
    have p2 := x_callk (X := lamCx X A outer s H E scope fa c') (p := pf) (pos := bpos) (exc := c.exc) (k := k) hX hsh takes_lam hrA hgA gl hdf (PA_nox hA) (PK_nox hK) hks hl1 hl2 (he _) (hpl _)
    refine ⟨fun pins s σ H Q I h => ?_⟩
    obtain ⟨ρ, F, xs, ρ1, xs2, ρ2, ys, rep, e1, e2, hpk, ⟨z, e3, q⟩ | ⟨en, C, e3, hm, q⟩⟩ := h
    · refine p1.run pins s σ H Q I ⟨ρ, F, z, ρ2, rep, ?_, q⟩
      show bnd (bnd (fs ρ) _) _ = _
      rw [e1, bnd_some, e2, bnd_some, bnd_some, hpk]
      simp only [e3]
    · exact p2.run pins s σ H Q I ⟨ρ, F, xs, ρ1, xs2, ρ2, ys, en, C, rep, e1, e2, hpk, e3, hm, q⟩
  · obtain ⟨ρ, F, z, ρ', rep, e0, q⟩ := h
    obtain ⟨xs, ρ1, e1, e0⟩ := bnd_eq e0
    obtain ⟨xs1, ρ2, e2, e1⟩ := bnd_eq e1
    obtain ⟨xs2, ρ3, e3, e1⟩ := bnd_eq e1
    cases e1
    split at e0
    case h_2 => cases e0
    rename_i ys hpk
    refine ⟨rep.wl.tab, fun H1 eN al T1 => ⟨ρ, F, xs1, ρ2, xs2, ρ1, ys, rep.tabs eN T1, e2, e3, hpk, ?_⟩⟩
    have st1 := StpE.tabs (ρ := ρ) (σ := σ) (F := F) eN al
    split at e0
    · rename_i y hc
      cases e0
      refine .inl ⟨y, hc, fun v F' H' rep' st' rp' => ⟨told_len, fun p0 hp => ?_⟩⟩
      have hn := told_noT (ws := ws) (v := v)
      refine q (.ref p0) (upd F' p0 (toldO ws v).2) (upd H' p0 (toldO ws v).2) (rep'.lay hp hn) ((st1.trans st').trans (StpE.lay rep' hp)) (told_rp (fresh_back rep'.ex hp) rp')
    · split at e0
      · rename_i en hx
        split at e0
        · rename_i w hw
          cases e0
          obtain ⟨⟨_, _, _, _, _, _, _, _, _, _, _, _, _, _, _, _, _, _, _, _, _, _, _, _, _, _, _, hcl⟩, _⟩ := S
          obtain ⟨C, hm⟩ := hcl en z hw
          refine .inr ⟨en, C, hx, hm, fun F' H' rep' st' => ⟨en, C, z, F', rfl, rfl, hm, hw, rep'.wl, fun v F2 H2 x1 x2 nw fr al' rp => ?_⟩⟩
          exact q v F2 H2 (rep'.call x1 x2 nw fr) ((st1.trans st').trans (StpE.call x1 nw fr al')) rp
        · cases e0
      · cases e0
end
end Wh

set_option Elab.async false
set_option linter.all false
set_option maxRecDepth 100000
set_option maxHeartbeats 1000000
set_option exponentiation.threshold 5000
/-! Wh11: statements. -/
namespace Wh
open PySem PySem.Spec PyProof.Rows L2 Evl
variable [Tbl]

def RetC (K : PySem.W.Frag) (fr : Bool) (ρ : En) (σ : L2.St) (F H : Hp) (x : PyData) (ρ' : En) (rt : VK) : Prop := match fr with
  | false => ∀ v σ' F' H', Rep K ρ' σ' F' H' → Stp ρ σ F H ρ' σ' F' H' → Rp K F' v x → rt v H'
  | true => ∃ ys, x = .list ys ∧ ∀ p ws σ' F' H', Rep K ρ' σ' F' H' → Stp ρ σ F H ρ' σ' F' H' → H p = none → F' p = none → H' p = some (.lst ws) → RpA K F' ws ys → rt (.ref p) H'
def EndC (K : PySem.W.Frag) (fr : Bool) (D : Ends) (ρ : En) (σ : L2.St) (F H : Hp) (fl : Fl) (ρ' : En) : Prop := match fl with
  | .next => ∀ σ' F' H', Rep K ρ' σ' F' H' → Stp ρ σ F H ρ' σ' F' H' → D.nx σ' H'
  | .brk => ∀ σ' F' H', Rep K ρ' σ' F' H' → Stp ρ σ F H ρ' σ' F' H' → D.bk σ' H'
  | .cont => ∀ σ' F' H', Rep K ρ' σ' F' H' → Stp ρ σ F H ρ' σ' F' H' → D.ct σ' H'
  | .ret x => RetC K fr ρ σ F H x ρ' D.rt
def tS (K : PySem.W.Frag) (fr : Bool) (f : En → Option (Fl × En)) : TS := fun D σ H => ∃ ρ F fl ρ', Rep K ρ σ F H ∧ f ρ = some (fl, ρ') ∧ EndC K fr D ρ σ F H fl ρ'
section
variable {K : PySem.W.Frag} {fr : Bool} {D : Ends} {ρ ρ1 ρ' : En} {σ σ1 : L2.St} {F F1 H H1 : Hp} {fl : Fl}
theorem EndC.step (k : EndC K fr D ρ σ F H fl ρ') (st : Stp ρ σ F H ρ1 σ1 F1 H1) : EndC K fr D ρ1 σ1 F1 H1 fl ρ' := by
  cases fl with
  | next => exact fun σ' F' H' r s => k σ' F' H' r (st.trans s)
  | brk => exact fun σ' F' H' r s => k σ' F' H' r (st.trans s)
  | cont => exact fun σ' F' H' r s => k σ' F' H' r (st.trans s)
  | ret x =>
    cases fr with
    | false => exact fun v σ' F' H' r s => k v σ' F' H' r (st.trans s)
    | true =>
      obtain ⟨ys, e, k⟩ := k
      exact ⟨ys, e, fun p ws σ' F' H' r s h0 => k p ws σ' F' H' r (st.trans s) (st.alive p h0)⟩
end
section
variable {X : Cx} {fr : Bool} {pos : Pos} {st : Stmt} {rest a b : List Stmt} {f g : En → Option (Fl × En)} {e : Expr} {fe : En → Option (PyData × En)} {gt : En → Option (Bool × En)} {i : Nat}
theorem ss_nil : PSs X [] (tS X.K fr fun ρ => some (.next, ρ)) := pss_nil.wk fun D σ H h => by
  obtain ⟨ρ, F, fl, ρ', rep, e, k⟩ := h
  cases e
  exact k σ F H rep Stp.refl
theorem ss_cons (h1 : PS X st (tS X.K fr f)) (h2 : PSs X rest (tS X.K fr g)) : PSs X (st :: rest) (tS X.K fr fun ρ => bnd (f ρ) fun fl ρ => match fl with
    | .next => g ρ
    | f => some (f, ρ)) := (pss_cons h1 h2).wk fun D σ H h => by
  obtain ⟨ρ, F, fl, ρ', rep, e, k⟩ := h
  obtain ⟨fl1, ρ1, e1, e⟩ := bnd_eq e
  cases fl1 with
  | next => exact ⟨ρ, F, .next, ρ1, rep, e1, fun σ1 F1 H1 rep1 st1 => ⟨ρ1, F1, fl, ρ', rep1, e, k.step st1⟩⟩
  | brk => cases e; exact ⟨ρ, F, .brk, ρ', rep, e1, k⟩
  | cont => cases e; exact ⟨ρ, F, .cont, ρ', rep, e1, k⟩
  | ret x => cases e; exact ⟨ρ, F, .ret x, ρ', rep, e1, k⟩
theorem s_of_set {st : Stmt} (h : PS X st (tAsg (tE X.K fe) (gName i))) : PS X st (tS X.K fr fun ρ => bnd (fe ρ) fun x ρ => if i < ρ.length then some (.next, ρ.set i (some (.d x))) else none) := h.wk fun D σ H h => by
  obtain ⟨ρ, F, fl, ρ', rep, e, k⟩ := h
  obtain ⟨x, ρ1, e1, e⟩ := bnd_eq e
  split at e
  · cases e
    exact ⟨ρ, F, x, ρ1, rep, e1, fun v F1 H1 rep1 st1 rp1 => k _ F1 H1 (rep1.setD rp1) (st1.toStp.trans Stp.setD)⟩
  · cases e
theorem tE_of_L {K : PySem.W.Frag} (hl : ∀ ρ x ρ', fe ρ = some (x, ρ') → ∃ xs, x = .list xs) (σ : L2.St) (H : Hp) (Q : VK) (h : tE K fe σ H Q) : tEL K fe σ H Q := by
  obtain ⟨ρ, F, x, ρ', rep, e, q⟩ := h
  obtain ⟨xs, rfl⟩ := hl _ _ _ e
  refine ⟨ρ, F, xs, ρ', rep, e, fun p vs F1 H1 rep1 st1 h0 hf hh ha => ?_⟩
  have no : ¬ Own ρ' σ p := fun o => rep.none_own h0 (st1.str p o)
  refine q _ _ H1 (rep1.frz hh hf no) ⟨⟨st1.ext.trans (Ex.new hf), fun a o hu => ?_, st1.fr, st1.own, st1.alive, st1.pen⟩, st1.str⟩ (.lst (SqL.of upd_same) (ha.mono (Ex.new hf)))
  by_cases hq : a = p
  · subst hq; exact .inr (.inl h0)
  · rw [upd_ne hq] at hu; exact st1.new a o hu
theorem s_of_setL {st : Stmt} (h : PS X st (tAsg (tEL X.K fe) (gName i))) (hl : ∀ ρ x ρ', fe ρ = some (x, ρ') → ∃ xs, x = .list xs) : PS X st (tS X.K fr fun ρ => bnd (fe ρ) fun x ρ => if i < ρ.length then some (.next, ρ.set i (some (.d x))) else none) :=
  s_of_set (h.wk fun D σ H h => tE_of_L hl σ H _ h)
theorem s_of_seto {st : Stmt} (h : PS X st (tAsg (tEL X.K fe) (gName i))) : PS X st (tS X.K fr fun ρ => bnd (fe ρ) fun x ρ => match x with
    | .list xs => if i < ρ.length then some (.next, ρ.set i (some (.own false xs))) else none
    | _ => none) := h.wk fun D σ H h => by
  obtain ⟨ρ, F, fl, ρ', rep, e, k⟩ := h
  obtain ⟨x, ρ1, e1, e⟩ := bnd_eq e
  have hx : ∃ xs, x = .list xs := by
    cases x with
    | list xs => exact ⟨xs, rfl⟩
    | _ => cases e
  obtain ⟨xs, rfl⟩ := hx
  simp only at e
  split at e
  · cases e
    refine ⟨ρ, F, xs, ρ1, rep, e1, fun p vs F1 H1 rep1 st1 h0 hf hh ha => k _ F1 H1 (rep1.setO hf hh (fun o => rep.none_own h0 (st1.str p o)) ha) ?_⟩
    have st1' := st1.toStp
    refine ⟨st1'.ext, st1'.new, st1'.fr, fun q hq => ?_, st1'.alive, fun j ys hj => ?_⟩
    · obtain ⟨j, s, h1, hs, h2⟩ := hq
      rw [get_set] at h1 h2
      by_cases ej : i = j
      · rw [if_pos ej] at h2
        split at h2
        · cases h2; exact .inr h0
        · cases h2
      · rw [if_neg ej] at h1 h2
        exact st1'.own q ⟨j, s, h1, hs, h2⟩
    · rw [get_set] at hj
      split at hj
      · first | (split at hj <;> cases hj) | cases hj
      · rename_i ej
        rw [get_set, if_neg ej]
        exact st1'.pen j ys hj
  · cases e
theorem s_of_setk {st : Stmt} (h : PS X st (tAsg (tEK X.K fe) (gName i))) : PS X st (tS X.K fr fun ρ => bnd (fe ρ) fun x ρ => match x with
    | .dict xs => if i < ρ.length then some (.next, ρ.set i (some (.od xs))) else none
    | _ => none) := h.wk fun D σ H h => by
  obtain ⟨ρ, F, fl, ρ', rep, e, k⟩ := h
  obtain ⟨x, ρ1, e1, e⟩ := bnd_eq e
  have hx : ∃ xs, x = .dict xs := by
    cases x with
    | dict xs => exact ⟨xs, rfl⟩
    | _ => cases e
  obtain ⟨xs, rfl⟩ := hx
  simp only at e
  split at e
  · cases e
    refine ⟨ρ, F, xs, ρ1, rep, e1, fun p vs F1 H1 rep1 st1 h0 hf hh ha => k _ F1 H1 (rep1.setK hf hh (fun o => rep.none_own h0 (st1.str p o)) ha) ?_⟩
    have st1' := st1.toStp
    refine ⟨st1'.ext, st1'.new, st1'.fr, fun q hq => ?_, st1'.alive, fun j ys hj => ?_⟩
    · obtain ⟨j, s, h1, hs, h2⟩ := hq
      rw [get_set] at h1 h2
      by_cases ej : i = j
      · rw [if_pos ej] at h2
        split at h2
        · cases h2; exact .inr h0
        · cases h2
      · rw [if_neg ej] at h1 h2
        exact st1'.own q ⟨j, s, h1, hs, h2⟩
    · rw [get_set] at hj
      split at hj
      · first | (split at hj <;> cases hj) | cases hj
      · rename_i ej
        rw [get_set, if_neg ej]
        exact st1'.pen j ys hj
  · cases e
theorem tE_of_K {K : PySem.W.Frag} (hl : ∀ ρ x ρ', fe ρ = some (x, ρ') → ∃ xs, x = .dict xs) (σ : L2.St) (H : Hp) (Q : VK) (h : tE K fe σ H Q) : tEK K fe σ H Q := by
  obtain ⟨ρ, F, x, ρ', rep, e, q⟩ := h
  obtain ⟨xs, rfl⟩ := hl _ _ _ e
  refine ⟨ρ, F, xs, ρ', rep, e, fun p vs F1 H1 rep1 st1 h0 hf hh ha => ?_⟩
  have no : ¬ Own ρ' σ p := fun o => rep.none_own h0 (st1.str p o)
  refine q _ _ H1 (rep1.frz hh hf no) ⟨⟨st1.ext.trans (Ex.new hf), fun a o hu => ?_, st1.fr, st1.own, st1.alive, st1.pen⟩, st1.str⟩ (.dct upd_same (ha.mono (Ex.new hf)))
  by_cases hq : a = p
  · subst hq; exact .inr (.inl h0)
  · rw [upd_ne hq] at hu; exact st1.new a o hu
theorem s_of_setK {st : Stmt} (h : PS X st (tAsg (tEK X.K fe) (gName i))) (hl : ∀ ρ x ρ', fe ρ = some (x, ρ') → ∃ xs, x = .dict xs) : PS X st (tS X.K fr fun ρ => bnd (fe ρ) fun x ρ => if i < ρ.length then some (.next, ρ.set i (some (.d x))) else none) :=
  s_of_set (h.wk fun D σ H h => tE_of_K hl σ H _ h)
theorem s_expr (he : PE X e (tE X.K fe)) (hs : swapsWith e none pos.line X.env = pure false) : PS X (.Expr e pos) (tS X.K fr fun ρ => bnd (fe ρ) fun _ ρ => some (.next, ρ)) := (ps_expr he hs).wk fun D σ H h => by
  obtain ⟨ρ, F, fl, ρ', rep, e, k⟩ := h
  obtain ⟨x, ρ1, e1, e⟩ := bnd_eq e
  cases e
  exact ⟨ρ, F, x, ρ', rep, e1, fun v F1 H1 rep1 st1 rp1 => k σ F1 H1 rep1 st1.toStp⟩
theorem s_ret (he : PE X e (tE X.K fe)) : PS X (.Return (some e) pos) (tS X.K false fun ρ => bnd (fe ρ) fun x ρ => some (.ret x, ρ)) := (ps_ret he).wk fun D σ H h => by
  obtain ⟨ρ, F, fl, ρ', rep, e, k⟩ := h
  obtain ⟨x, ρ1, e1, e⟩ := bnd_eq e
  cases e
  exact ⟨ρ, F, x, ρ', rep, e1, fun v F1 H1 rep1 st1 rp1 => k v σ F1 H1 rep1 st1.toStp rp1⟩
theorem s_retL (he : PE X e (tEL X.K fe)) : PS X (.Return (some e) pos) (tS X.K true fun ρ => bnd (fe ρ) fun x ρ => some (.ret x, ρ)) := (ps_ret he).wk fun D σ H h => by
  obtain ⟨ρ, F, fl, ρ', rep, e, k⟩ := h
  obtain ⟨x, ρ1, e1, e⟩ := bnd_eq e
  cases e
  obtain ⟨ys, rfl, k⟩ := k
  exact ⟨ρ, F, ys, ρ', rep, e1, fun p ws F1 H1 rep1 st1 h0 hf hh ha => k p ws σ F1 H1 rep1 st1.toStp h0 hf hh ha⟩
theorem s_retN : PS X (.Return none pos) (tS X.K false fun ρ => some (.ret .none, ρ)) := ps_retN.wk fun D σ H h => by
  obtain ⟨ρ, F, fl, ρ', rep, e, k⟩ := h
  cases e
  exact k .non σ F H rep Stp.refl .non
theorem s_pass : PS X (.Pass pos) (tS X.K fr fun ρ => some (.next, ρ)) := ps_pass.wk fun D σ H h => by
  obtain ⟨ρ, F, fl, ρ', rep, e, k⟩ := h
  cases e
  exact k σ F H rep Stp.refl
theorem s_doc {x : Str} {j : Nat} {pos' : Pos} : PS X (.Expr (.Constant (.str x) j pos) pos') (tS X.K fr fun ρ => some (.next, ρ)) := ps_doc.wk fun D σ H h => by
  obtain ⟨ρ, F, fl, ρ', rep, e, k⟩ := h
  cases e
  exact k σ F H rep Stp.refl
theorem s_brk : PS X (.Break pos) (tS X.K fr fun ρ => some (.brk, ρ)) := ps_break.wk fun D σ H h => by
  obtain ⟨ρ, F, fl, ρ', rep, e, k⟩ := h
  cases e
  exact k σ F H rep Stp.refl
theorem s_cont : PS X (.Continue pos) (tS X.K fr fun ρ => some (.cont, ρ)) := ps_continue.wk fun D σ H h => by
  obtain ⟨ρ, F, fl, ρ', rep, e, k⟩ := h
  cases e
  exact k σ F H rep Stp.refl
theorem s_never : PS X st (tS X.K fr fun _ => none) := ps_never.wk fun D σ H h => by
  obtain ⟨ρ, F, fl, ρ', rep, e, k⟩ := h
  cases e
theorem s_ite {t : Expr} (ht : PT X t (tT X.K gt)) (ha : PSs X a (tS X.K fr f)) (hb : PSs X b (tS X.K fr g)) : PS X (.If t a b pos) (tS X.K fr fun ρ => bnd (gt ρ) fun r ρ => match r with
    | true => f ρ
    | false => g ρ) := (ps_if ht ha hb).wk fun D σ H h => by
  obtain ⟨ρ, F, fl, ρ', rep, e, k⟩ := h
  obtain ⟨r, ρ1, e1, e⟩ := bnd_eq e
  refine ⟨ρ, F, r, ρ1, rep, e1, fun F1 H1 rep1 st1 => ?_⟩
  cases r with
  | true => exact L2.iteT ⟨ρ1, F1, fl, ρ', rep1, e, k.step st1.toStp⟩
  | false => exact L2.iteF ⟨ρ1, F1, fl, ρ', rep1, e, k.step st1.toStp⟩
/-! unpacking -/
theorem s_unp {ts : List Tg} {tg : Expr} (h : PS X st (tAsg (tE X.K fe) (tG X.K (slotsT (.tup ts)) (bindT (.tup ts))))) : PS X st (tS X.K fr fun ρ => bnd (fe ρ) fun x ρ => match bindT (.tup ts) x ρ with
    | none => none
    | some ρ => some (.next, ρ)) := h.wk fun D σ H h => by
  obtain ⟨ρ, F, fl, ρ', rep, e, k⟩ := h
  obtain ⟨x, ρ1, e1, e⟩ := bnd_eq e
  split at e
  · cases e
  · rename_i ρ2 hb
    cases e
    exact ⟨ρ, F, x, ρ1, rep, e1, fun v F1 H1 rep1 st1 rp1 => ⟨ρ1, F1, x, ρ', rep1, rp1, hb, fun σ' rep2 sb _ _ => k σ' F1 H1 rep2 (st1.toStp.trans (Stp.same sb))⟩⟩
variable {fs : En → Option (List PyData × En)} {j l : Nat}
/-- a, b = x, y: stores swapped -/
theorem s_par2 {x y : Str} {a b : Expr} {px py pt pt2 : Pos} {kt k2 : Nat} (hc : X.calm = true) (hN : X.N.Nodup) (hi : X.N[i]? = some x) (hj : X.N[j]? = some y) (hij : i ≠ j)
    (hx : X.env.scope.names.lookup x = some .local) (hy : X.env.scope.names.lookup y = some .local) (ha : PA X [a, b] (tA X.K fs))
    (hw : swappedStores [.Tuple [.Name x px, .Name y py] kt pt] (.Tuple [a, b] k2 pt2) X.env = pure (some [x, y])) (hs : swapsWithSole [.Tuple [.Name x px, .Name y py] kt pt] (.Tuple [a, b] k2 pt2) pos.line X.env = pure false) :
    PS X (.Assign [.Tuple [.Name x px, .Name y py] kt pt] (.Tuple [a, b] k2 pt2) pos) (tS X.K fr fun ρ => bnd (fs ρ) fun xs ρ => match setAll [i, j] xs ρ with
    | none => none
    | some ρ => some (.next, ρ)) := (ps_par hc hN hi hj hij hx hy ha hw hs).wk fun D σ H h => by
  obtain ⟨ρ, F, fl, ρ', rep, e, k⟩ := h
  obtain ⟨xs, ρ1, e1, e⟩ := bnd_eq e
  split at e
  · cases e
  · rename_i ρ2 hb
    cases e
    refine ⟨ρ, F, xs, ρ1, rep, e1, fun vs F1 H1 rep1 st1 rp1 => ?_⟩
    cases rp1 with
    | nil => simp only [setAll] at hb; cases hb
    | cons r1 rp1 =>
      cases rp1 with
      | nil => simp only [setAll] at hb; split at hb <;> cases hb
      | cons r2 rp1 =>
        cases rp1 with
        | cons _ _ =>
          simp only [setAll] at hb
          split at hb
          · split at hb <;> cases hb
          · cases hb
        | nil =>
          simp only [setAll] at hb
          split at hb
          · split at hb
            · cases hb
              exact ⟨_, _, rfl, k _ F1 H1 ((rep1.setD r1).setD r2) ((st1.toStp.trans Stp.setD).trans Stp.setD)⟩
            · cases hb
          · cases hb
/-! several names at once, some of which take new lists of one's own -/
inductive RpO (K : PySem.W.Frag) (H F H' : Hp) : List Nat → List V → List PyData → Prop
  | nil : RpO K H F H' [] [] []
  | dat {v : V} {d : PyData} {os : List Nat} {vs : List V} {ds : List PyData} : Rp K F v d → RpO K H F H' os vs ds → RpO K H F H' (0 :: os) (v :: vs) (d :: ds)
  | own {p : Addr} {ws : List V} {xs : List PyData} {os : List Nat} {vs : List V} {ds : List PyData} : H p = none → F p = none → H' p = some (.lst ws) → RpA K F ws xs → (∀ j k : Nat, os[j]? = some (k + 1) → vs[j]? ≠ some (V.ref p)) → RpO K H F H' os vs ds → RpO K H F H' (1 :: os) (V.ref p :: vs) (.list xs :: ds)
  | ownK {p : Addr} {ws : List (Key × V)} {xs : List (PyData × PyData)} {os : List Nat} {vs : List V} {ds : List PyData} : H p = none → F p = none → H' p = some (.dK ws) → RpK K F ws xs → (∀ j k : Nat, os[j]? = some (k + 1) → vs[j]? ≠ some (V.ref p)) → RpO K H F H' os vs ds → RpO K H F H' (2 :: os) (V.ref p :: vs) (.dict xs :: ds)
theorem RpO.fresh {K : PySem.W.Frag} {H F H' : Hp} : ∀ {os : List Nat} {vs : List V} {ds : List PyData} {j k : Nat} {p : Addr}, RpO K H F H' os vs ds → os[j]? = some (k + 1) → vs[j]? = some (V.ref p) → H p = none
  | _, _, _, _, _, _, .nil, h, _ => by simp at h
  | _, _, _, 0, _, _, .dat _ _, h, _ => by simp at h
  | _, _, _, 0, _, _, .own h0 _ _ _ _ _, _, e => by simp at e; subst e; exact h0
  | _, _, _, 0, _, _, .ownK h0 _ _ _ _ _, _, e => by simp at e; subst e; exact h0
  | _, _, _, j + 1, _, _, .dat _ t, h, e => RpO.fresh (j := j) t (by simpa using h) (by simpa using e)
  | _, _, _, j + 1, _, _, .own _ _ _ _ _ t, h, e => RpO.fresh (j := j) t (by simpa using h) (by simpa using e)
  | _, _, _, j + 1, _, _, .ownK _ _ _ _ _ t, h, e => RpO.fresh (j := j) t (by simpa using h) (by simpa using e)
theorem RpO.early {K : PySem.W.Frag} {H1 H F H' : Hp} (e : ∀ a, H1 a = none → H a = none) : ∀ {os : List Nat} {vs : List V} {ds : List PyData}, RpO K H1 F H' os vs ds → RpO K H F H' os vs ds
  | _, _, _, .nil => .nil
  | _, _, _, .dat h t => .dat h (RpO.early e t)
  | _, _, _, .own h0 h1 h2 h3 h4 t => .own (e _ h0) h1 h2 h3 h4 (RpO.early e t)
  | _, _, _, .ownK h0 h1 h2 h3 h4 t => .ownK (e _ h0) h1 h2 h3 h4 (RpO.early e t)
def LstAt : List Nat → List PyData → Prop
  | 1 :: os, x :: xs => (∃ ys, x = .list ys) ∧ LstAt os xs
  | 2 :: os, x :: xs => (∃ ys, x = .dict ys) ∧ LstAt os xs
  | _ :: os, _ :: xs => LstAt os xs
  | _, _ => True
theorem setAllK_lst : ∀ {is : List Nat} {os : List Nat} {ds : List PyData} {ρ ρ' : En}, setAllK is os ds ρ = some ρ' → LstAt os ds
  | _, [], _, _, _, _ => by simp [LstAt]
  | _, 0 :: _, [], _, _, _ => by simp [LstAt]
  | _, 1 :: _, [], _, _, _ => by simp [LstAt]
  | _, 2 :: _, [], _, _, _ => by simp [LstAt]
  | _, (_ + 3) :: _, [], _, _, _ => by simp [LstAt]
  | [], 0 :: _, _ :: _, _, _, h => by simp [setAllK] at h
  | [], 1 :: _, _ :: _, _, _, h => by simp [setAllK] at h
  | [], 2 :: _, _ :: _, _, _, h => by simp [setAllK] at h
  | [], (_ + 3) :: _, _ :: _, _, _, h => by simp [setAllK] at h
  | i :: is, (_ + 3) :: _, _ :: _, _, _, h => by simp [setAllK] at h
  | i :: is, 1 :: os, x :: xs, ρ, ρ', h => by
    rw [setAllK_1] at h
    split at h
    · split at h
      · exact ⟨⟨_, rfl⟩, setAllK_lst h⟩
      · cases h
    · cases h
  | i :: is, 2 :: os, x :: xs, ρ, ρ', h => by
    rw [setAllK_2] at h
    split at h
    · split at h
      · exact ⟨⟨_, rfl⟩, setAllK_lst h⟩
      · cases h
    · cases h
  | i :: is, 0 :: os, x :: xs, ρ, ρ', h => by
    rw [setAllK_0] at h
    split at h
    · exact setAllK_lst (os := os) h
    · cases h
def tAF (K : PySem.W.Frag) (os : List Nat) (f : En → Option (List PyData × En)) : TA := fun σ H Q => ∃ ρ F x ρ', Rep K ρ σ F H ∧ f ρ = some (x, ρ') ∧ LstAt os x ∧ ∀ vs F' H', Rep K ρ' σ F' H' → StpE ρ σ F H ρ' F' H' → RpO K H F' H' os vs x → Q vs H'
theorem af_nil : PA X [] (tAF X.K [] fun ρ => some ([], ρ)) := pa_nil.wk fun σ H Q h => by
  obtain ⟨ρ, F, x, ρ', rep, e, _, q⟩ := h
  cases e
  exact q [] F H rep StpE.refl .nil
theorem af_dat {a : Expr} {es : List Expr} {fa : En → Option (PyData × En)} {fs : En → Option (List PyData × En)} {os : List Nat} (ha : PE X a (tE X.K fa)) (hr : PA X es (tAF X.K os fs)) (hs : starEach (a :: es) X.env = (false, eval a X.env) :: starEach es X.env) :
    PA X (a :: es) (tAF X.K (0 :: os) fun ρ => bnd (fa ρ) fun x ρ => bnd (fs ρ) fun xs ρ => some (x :: xs, ρ)) := by
  refine (pa_cons ha hr hs).wk fun σ H Q h => ?_
  obtain ⟨ρ, F, z, ρ', rep, e, ls, q⟩ := h
  obtain ⟨x, ρ1, e1, e⟩ := bnd_eq e
  obtain ⟨xs, ρ2, e2, e⟩ := bnd_eq e
  cases e
  exact ⟨ρ, F, x, ρ1, rep, e1, fun v F1 H1 rep1 st1 rp1 => ⟨ρ1, F1, xs, ρ', rep1, e2, ls, fun vs F2 H2 rep2 st2 rp2 => q (v :: vs) F2 H2 rep2 (st1.trans st2) (.dat (rp1.mono st2.ext) (rp2.early st1.alive))⟩⟩
theorem af_own {a : Expr} {es : List Expr} {fa : En → Option (PyData × En)} {fs : En → Option (List PyData × En)} {os : List Nat} (ha : PE X a (tEL X.K fa)) (hr : PA X es (tAF X.K os fs)) (hs : starEach (a :: es) X.env = (false, eval a X.env) :: starEach es X.env) : PA X (a :: es) (tAF X.K (1 :: os) fun ρ => bnd (fa ρ) fun x ρ => bnd (fs ρ) fun xs ρ => some (x :: xs, ρ)) := by
  refine (pa_cons ha hr hs).wk fun σ H Q h => ?_
  obtain ⟨ρ, F, z, ρ', rep, e, ls, q⟩ := h
  obtain ⟨x, ρ1, e1, e⟩ := bnd_eq e
  obtain ⟨xs, ρ2, e2, e⟩ := bnd_eq e
  cases e
  obtain ⟨ys, rfl⟩ := ls.1
  refine ⟨ρ, F, ys, ρ1, rep, e1, fun p ws F1 H1 rep1 st1 h0 hf hh hA => ⟨ρ1, F1, xs, ρ', rep1, e2, ls.2, fun vs F2 H2 rep2 st2 rp2 => ?_⟩⟩
  have no : ¬ Own ρ1 σ p := fun o => rep.none_own h0 (st1.str p o)
  have f2 : F2 p = none := by
    cases hx : F2 p with
    | none => rfl
    | some o =>
      rcases st2.new p o hx with h | h | h
      · rw [hf] at h; cases h
      · rw [hh] at h; cases h
      · exact absurd h no
  refine q (V.ref p :: vs) F2 H2 rep2 (st1.trans st2) (.own h0 f2 (st2.fr p _ hh no (fun _ z => by cases z)) (hA.mono st2.ext) (fun j k hj hv => ?_) (rp2.early st1.alive))
  have := rp2.fresh hj hv
  rw [hh] at this; cases this
theorem af_ownK {a : Expr} {es : List Expr} {fa : En → Option (PyData × En)} {fs : En → Option (List PyData × En)} {os : List Nat} (ha : PE X a (tEK X.K fa)) (hr : PA X es (tAF X.K os fs)) (hs : starEach (a :: es) X.env = (false, eval a X.env) :: starEach es X.env) : PA X (a :: es) (tAF X.K (2 :: os) fun ρ => bnd (fa ρ) fun x ρ => bnd (fs ρ) fun xs ρ => some (x :: xs, ρ)) := by
  refine (pa_cons ha hr hs).wk fun σ H Q h => ?_
  obtain ⟨ρ, F, z, ρ', rep, e, ls, q⟩ := h
  obtain ⟨x, ρ1, e1, e⟩ := bnd_eq e
  obtain ⟨xs, ρ2, e2, e⟩ := bnd_eq e
  cases e
  obtain ⟨ys, rfl⟩ := ls.1
  refine ⟨ρ, F, ys, ρ1, rep, e1, fun p ws F1 H1 rep1 st1 h0 hf hh hA => ⟨ρ1, F1, xs, ρ', rep1, e2, ls.2, fun vs F2 H2 rep2 st2 rp2 => ?_⟩⟩
  have no : ¬ Own ρ1 σ p := fun o => rep.none_own h0 (st1.str p o)
  have f2 : F2 p = none := by
    cases hx : F2 p with
    | none => rfl
    | some o =>
      rcases st2.new p o hx with h | h | h
      · rw [hf] at h; cases h
      · rw [hh] at h; cases h
      · exact absurd h no
  refine q (V.ref p :: vs) F2 H2 rep2 (st1.trans st2) (.ownK h0 f2 (st2.fr p _ hh no (fun _ z => by cases z)) (hA.mono st2.ext) (fun j k hj hv => ?_) (rp2.early st1.alive))
  have := rp2.fresh hj hv
  rw [hh] at this; cases this
def setsV : List Nat → List V → L2.St → L2.St
  | i :: is, v :: vs, σ => setsV is vs (σ.set i (some v))
  | _, _, σ => σ
theorem Stp.setO {ρ ρ1 : En} {σ σ1 : L2.St} {F F1 H H1 : Hp} {p : Addr} {xs : List PyData} {i : Nat} (st1 : Stp ρ σ F H ρ1 σ1 F1 H1) (h0 : H p = none) : Stp ρ σ F H (ρ1.set i (some (.own false xs))) (σ1.set i (some (V.ref p))) F1 H1 := by
  refine ⟨st1.ext, st1.new, st1.fr, fun q hq => ?_, st1.alive, fun j ys hj => ?_⟩
  · obtain ⟨j, s, h1, hs, h2⟩ := hq
    rw [get_set] at h1 h2
    by_cases ej : i = j
    · rw [if_pos ej] at h2
      split at h2
      · cases h2; exact .inr h0
      · cases h2
    · rw [if_neg ej] at h1 h2
      exact st1.own q ⟨j, s, h1, hs, h2⟩
  · rw [get_set] at hj
    split at hj
    · first | (split at hj <;> cases hj) | cases hj
    · rename_i ej
      rw [get_set, if_neg ej]
      exact st1.pen j ys hj
theorem own_setO {ρ : En} {σ : L2.St} {i : Nat} {p q : Addr} {xs : List PyData} (o : Own (ρ.set i (some (.own false xs))) (σ.set i (some (V.ref p))) q) : q = p ∨ Own ρ σ q := by
  obtain ⟨j, s, h1, hs, h2⟩ := o
  rw [get_set] at h1 h2
  by_cases ej : i = j
  · rw [if_pos ej] at h2
    split at h2
    · cases h2; exact .inl rfl
    · cases h2
  · rw [if_neg ej] at h1 h2
    exact .inr ⟨j, s, h1, hs, h2⟩
theorem Stp.setK {ρ ρ1 : En} {σ σ1 : L2.St} {F F1 H H1 : Hp} {p : Addr} {xs : List (PyData × PyData)} {i : Nat} (st1 : Stp ρ σ F H ρ1 σ1 F1 H1) (h0 : H p = none) : Stp ρ σ F H (ρ1.set i (some (.od xs))) (σ1.set i (some (V.ref p))) F1 H1 := by
  refine ⟨st1.ext, st1.new, st1.fr, fun q hq => ?_, st1.alive, fun j ys hj => ?_⟩
  · obtain ⟨j, s, h1, hs, h2⟩ := hq
    rw [get_set] at h1 h2
    by_cases ej : i = j
    · rw [if_pos ej] at h2
      split at h2
      · cases h2; exact .inr h0
      · cases h2
    · rw [if_neg ej] at h1 h2
      exact st1.own q ⟨j, s, h1, hs, h2⟩
  · rw [get_set] at hj
    split at hj
    · first | (split at hj <;> cases hj) | cases hj
    · rename_i ej
      rw [get_set, if_neg ej]
      exact st1.pen j ys hj
theorem own_setK {ρ : En} {σ : L2.St} {i : Nat} {p q : Addr} {xs : List (PyData × PyData)} (o : Own (ρ.set i (some (.od xs))) (σ.set i (some (V.ref p))) q) : q = p ∨ Own ρ σ q := by
  obtain ⟨j, s, h1, hs, h2⟩ := o
  rw [get_set] at h1 h2
  by_cases ej : i = j
  · rw [if_pos ej] at h2
    split at h2
    · cases h2; exact .inl rfl
    · cases h2
  · rw [if_neg ej] at h1 h2
    exact .inr ⟨j, s, h1, hs, h2⟩
theorem stores {K : PySem.W.Frag} {ρ : En} {σ : L2.St} {F H F1 H1 : Hp} : ∀ {is : List Nat} {os : List Nat} {vs : List V} {ds : List PyData} {ρ1 ρ2 : En} {σ1 : L2.St}, RpO K H F1 H1 os vs ds → setAllK is os ds ρ1 = some ρ2 → Rep K ρ1 σ1 F1 H1 → Stp ρ σ F H ρ1 σ1 F1 H1 →
    (∀ (j k : Nat) (p : Addr), os[j]? = some (k + 1) → vs[j]? = some (V.ref p) → ¬ Own ρ1 σ1 p) → Rep K ρ2 (setsV is vs σ1) F1 H1 ∧ Stp ρ σ F H ρ2 (setsV is vs σ1) F1 H1 ∧ is.length = vs.length
  | [], _, _, _, ρ1, ρ2, σ1, .nil, e, r, st, _ => by
    simp only [setAllK] at e; cases e; exact ⟨r, st, rfl⟩
  | _ :: _, _, _, _, ρ1, ρ2, σ1, .nil, e, r, st, _ => by simp only [setAllK] at e; cases e
  | [], _, _, _, ρ1, ρ2, σ1, .dat _ _, e, r, st, _ => by simp only [setAllK] at e; cases e
  | [], _, _, _, ρ1, ρ2, σ1, .own _ _ _ _ _ _, e, r, st, _ => by simp only [setAllK] at e; cases e
  | [], _, _, _, ρ1, ρ2, σ1, .ownK _ _ _ _ _ _, e, r, st, _ => by simp only [setAllK] at e; cases e
  | i :: is, _, _, _, ρ1, ρ2, σ1, .dat h t, e, r, st, no => by
    rw [setAllK_0] at e
    split at e
    · obtain ⟨a1, a2, a3⟩ := stores t e (r.setD h) (st.trans Stp.setD) fun j k p hj hv o => no (j + 1) k p (by simpa using hj) (by simpa using hv) (own_setD o)
      exact ⟨a1, a2, by simp [a3]⟩
    · cases e
  | i :: is, _, _, _, ρ1, ρ2, σ1, .own (p := p) h0 h1 h2 h3 h4 t, e, r, st, no => by
    rw [setAllK_1] at e
    simp only at e
    split at e
    · obtain ⟨a1, a2, a3⟩ := stores t e (r.setO h1 h2 (no 0 0 p rfl rfl) h3) (st.setO h0) fun j k q hj hv o => by
        rcases own_setO o with rfl | o
        · exact h4 j k hj hv
        · exact no (j + 1) k q (by simpa using hj) (by simpa using hv) o
      exact ⟨a1, a2, by simp [a3]⟩
    · cases e
  | i :: is, _, _, _, ρ1, ρ2, σ1, .ownK (p := p) h0 h1 h2 h3 h4 t, e, r, st, no => by
    rw [setAllK_2] at e
    simp only at e
    split at e
    · obtain ⟨a1, a2, a3⟩ := stores t e (r.setK h1 h2 (no 0 1 p rfl rfl) h3) (st.setK h0) fun j k q hj hv o => by
        rcases own_setK o with rfl | o
        · exact h4 j k hj hv
        · exact no (j + 1) k q (by simpa using hj) (by simpa using hv) o
      exact ⟨a1, a2, by simp [a3]⟩
    · cases e
theorem s_paro2 {os : List Nat} {x y : Str} {a b : Expr} {px py pt pt2 : Pos} {kt k2 : Nat} (hc : X.calm = true) (hN : X.N.Nodup) (hi : X.N[i]? = some x) (hj : X.N[j]? = some y) (hij : i ≠ j)
    (hx : X.env.scope.names.lookup x = some .local) (hy : X.env.scope.names.lookup y = some .local) (ha : PA X [a, b] (tAF X.K os fs))
    (hw : swappedStores [.Tuple [.Name x px, .Name y py] kt pt] (.Tuple [a, b] k2 pt2) X.env = pure (some [x, y])) (hs : swapsWithSole [.Tuple [.Name x px, .Name y py] kt pt] (.Tuple [a, b] k2 pt2) pos.line X.env = pure false) :
    PS X (.Assign [.Tuple [.Name x px, .Name y py] kt pt] (.Tuple [a, b] k2 pt2) pos) (tS X.K fr fun ρ => bnd (fs ρ) fun xs ρ => match setAllK [i, j] os xs ρ with
    | none => none
    | some ρ => some (.next, ρ)) := (ps_par hc hN hi hj hij hx hy ha hw hs).wk fun D σ H h => by
  obtain ⟨ρ, F, fl, ρ', rep, e, k⟩ := h
  obtain ⟨xs, ρ1, e1, e⟩ := bnd_eq e
  split at e
  · cases e
  · rename_i ρ2 hb
    cases e
    refine ⟨ρ, F, xs, ρ1, rep, e1, setAllK_lst hb, fun vs F1 H1 rep1 st1 rp1 => ?_⟩
    obtain ⟨a1, a2, a3⟩ := stores rp1 hb rep1 st1.toStp fun j k p hj hv o => rep.none_own (rp1.fresh hj hv) (st1.str p o)
    match vs, a3 with
    | [v, w], _ => exact ⟨v, w, rfl, k _ F1 H1 a1 a2⟩
theorem s_paro3 {os : List Nat} {x y z : Str} {a b c : Expr} {px py pz pt pt2 : Pos} {kt k2 : Nat} (hc : X.calm = true) (hN : X.N.Nodup) (hi : X.N[i]? = some x) (hj : X.N[j]? = some y) (hl : X.N[l]? = some z) (hij : i ≠ j) (hil : i ≠ l) (hjl : j ≠ l)
    (hx : X.env.scope.names.lookup x = some .local) (hy : X.env.scope.names.lookup y = some .local) (hz : X.env.scope.names.lookup z = some .local) (ha : PA X [a, b, c] (tAF X.K os fs))
    (hw : swappedStores [.Tuple [.Name x px, .Name y py, .Name z pz] kt pt] (.Tuple [a, b, c] k2 pt2) X.env = pure (some [x, y, z])) (hs : swapsWithSole [.Tuple [.Name x px, .Name y py, .Name z pz] kt pt] (.Tuple [a, b, c] k2 pt2) pos.line X.env = pure false) :
    PS X (.Assign [.Tuple [.Name x px, .Name y py, .Name z pz] kt pt] (.Tuple [a, b, c] k2 pt2) pos) (tS X.K fr fun ρ => bnd (fs ρ) fun xs ρ => match setAllK [i, j, l] os xs ρ with
    | none => none
    | some ρ => some (.next, ρ)) := (ps_par3 hc hN hi hj hl hij hil hjl hx hy hz ha hw hs).wk fun D σ H h => by
  obtain ⟨ρ, F, fl, ρ', rep, e, k⟩ := h
  obtain ⟨xs, ρ1, e1, e⟩ := bnd_eq e
  split at e
  · cases e
  · rename_i ρ2 hb
    cases e
    refine ⟨ρ, F, xs, ρ1, rep, e1, setAllK_lst hb, fun vs F1 H1 rep1 st1 rp1 => ?_⟩
    obtain ⟨a1, a2, a3⟩ := stores rp1 hb rep1 st1.toStp fun j k p hj hv o => rep.none_own (rp1.fresh hj hv) (st1.str p o)
    match vs, a3 with
    | [u, v, w], _ => exact ⟨u, v, w, rfl, k _ F1 H1 a1 a2⟩
/-! a list, a dict of one's own is changed -/
/-- what stores an item -/
def rSetLK : TSet := fun o i v H Q => rSetL o i v H Q ∨ rSetD o i v H Q
theorem set_LK (hu : X.A.units + 1 < cLine) : PSet X rSetLK := by
  intro pins s σ H o i v ov iv u Q I ro ri rv h
  rcases h with h | h
  · exact set_list pins s σ H o i v ov iv u Q I ro ri rv h
  · exact set_dict hu pins s σ H o i v ov iv u Q I ro ri rv h
/-- the item stored, from the slot's look -/
theorem sto_ok {K : PySem.W.Frag} {ρ ρ' : En} {σ : L2.St} {F H : Hp} {x y : PyData} {v vy w : V} {i : Nat} {Q : Hp → Prop} (rep : Rep K ρ σ F H) (hw : σ[i]? = some (some w)) (rx : Rp K F v x) (ry : Rp K F vy y) (e : stoI x i y ρ = some ρ')
    (q : ∀ H', Rep K ρ' σ F H' → StpE ρ σ F H ρ' F H' → Q H') : rSetLK w vy v H Q := by
  unfold stoI at e
  split at e
  · rename_i bb xs kk hx
    split at e
    · rename_i jj hj
      cases e
      cases ry
      obtain ⟨p, vs, g1, g2, g3, g4⟩ := rep.own i bb xs hx
      rw [hw] at g1; cases g1
      exact .inl ⟨p, vs, kk, jj, rfl, rfl, g3, by rw [g4.len]; exact hj, q _ (rep.putO hx hw (g4.set rx jj)) (StpE.putO hx hw)⟩
    · cases e
  · rename_i xs hx
    split at e
    · rename_i k hk
      split at e
      · rename_i hz
        cases e
        have ek := keyD_eq hk
        subst ek
        cases ry.key
        obtain ⟨p, vs, g1, g2, g3, g4⟩ := rep.odc i xs hx
        rw [hw] at g1; cases g1
        exact .inr ⟨p, _, rfl, DPut.k g3 (by rw [g4.len]; exact hz), q _ (rep.putK hx hw (g4.put rx k)) (StpE.putK hx hw)⟩
      · cases e
    · cases e
  · cases e
theorem s_seti (hu : X.A.units + 64 < cLine) {x : Str} {px ps : Pos} {b : Expr} {fb : En → Option (PyData × En)} (hN : X.N[i]? = some x) (hv : Vis X.env.scope x) (hd : (x == ("__debug__" : Str)) = false) (hcd : (x == ("__classdict__" : Str)) = false) (he : PE X e (tE X.K fe)) (hb : PE X b (tE X.K fb))
    (hs : swapsWithSole [.Subscript (.Name x px) b ps] e pos.line X.env = pure false) (hw : swappedStores [.Subscript (.Name x px) b ps] e X.env = pure none) (h1 : (assignEach [.Subscript (.Name x px) b ps] X.env).map (·.2) = [assign (.Subscript (.Name x px) b ps) X.env])
    (ha : ∀ v, assign (.Subscript (.Name x px) b ps) X.env v = (do
      let ov ← holding [v] (eval (.Name x px) X.env)
      let iv ← holding [v, ov] (eval b X.env)
      standAt ps
      holding [v, ov, iv] (setItem ov iv v)
      release [v, ov, iv] [])) :
    PS X (.Assign [.Subscript (.Name x px) b ps] e pos) (tS X.K fr fun ρ => bnd (fe ρ) fun x ρ => match ρ[i]? with
    | some (some _) => bnd (fb ρ) fun y ρ => match ρ[i]?, y with
      | some (some (Sv.own b xs)), .int k => match ixN xs.length k with
        | some j => some (.next, ρ.set i (some (.own b (xs.set j x))))
        | none => none
      | some (some (Sv.od xs)), y => match keyD y with
        | some _ => if xs.length < sizeLine then some (.next, ρ.set i (some (.od (dputD xs y x)))) else none
        | none => none
      | _, _ => none
    | _ => none) := (ps_asg he (pg_sub (pe_var hN hv hd hcd) hb (set_LK (by omega)) ha) hs hw h1).wk fun D σ H h => by
  obtain ⟨ρ, F, fl, ρ', rep, e, k⟩ := h
  obtain ⟨x, ρ1, e1, e⟩ := bnd_eq e
  split at e
  · rename_i sv hsv
    obtain ⟨y, ρ2, e2, e⟩ := bnd_eq e
    have es : fl = .next ∧ stoI x i y ρ2 = some ρ' := by
      unfold stoI
      split at e
      · rename_i bb xs kk hx
        split at e
        · rename_i jj hj
          cases e
          first
          | exact ⟨rfl, rfl⟩
          | (rw [hx]
             simp only [hj]
             exact ⟨trivial, trivial⟩)
        · cases e
      · rename_i xs hx
        split at e
        · rename_i kk hk
          split at e
          · rename_i hz
            cases e
            first
            | exact ⟨rfl, rfl⟩
            | exact ⟨rfl, if_pos hz⟩
            | (rw [hx]
               have ek := keyD_eq hk
               subst ek
               cases kk <;> simp only [kD, keyD, hz, if_true] <;> exact ⟨trivial, trivial⟩)
          · cases e
        · cases e
      · cases e
    obtain ⟨rfl, es⟩ := es
    refine ⟨ρ, F, x, ρ1, rep, e1, fun v F1 H1 rep1 st1 rp1 => ?_⟩
    obtain ⟨w, hw0⟩ := rep1.at_ hsv
    refine ⟨w, hw0, ρ1, F1, _, ρ2, rep1, e2, fun vy F2 H2 rep2 st2 rp2 => ?_⟩
    exact sto_ok rep2 hw0 (rp1.mono st2.ext) rp2 es fun H' rep3 st3 => k σ F2 _ rep3 ((st1.trans st2).trans st3).toStp
  · cases e
theorem s_app {x : Str} {px pa pc : Pos} (hN : X.N[i]? = some x) (hv : Vis X.env.scope x) (hd : (x == ("__debug__" : Str)) = false) (hcd : (x == ("__classdict__" : Str)) = false) (he : PE X e (tE X.K fe)) (hst : starEach [e] X.env = (false, eval e X.env) :: starEach [] X.env)
    (hline : (pa.endLine == pc.line) = true) : PS X (.Expr (.Call (.Attribute (.Name x px) "append" pa) [e] [] pc) pos) (tS X.K fr fun ρ => match ρ[i]? with
    | some (some (Sv.own _ _)) => bnd (fe ρ) fun x ρ => match ρ[i]? with
      | some (some (Sv.own b xs)) => if xs.length < sizeLine then some (.next, ρ.set i (some (.own b (xs ++ [x])))) else none
      | _ => none
    | _ => none) := (ps_expr (pe_bm PySem.F.plainAttrs_list PySem.F.slot_list_append PySem.F.type_list_append mt_append (pe_var hN hv hd hcd) (pa_cons he pa_nil hst) rfl (by rw [hst]; rfl) hline hst rfl) rfl).wk fun D σ H h => by
  obtain ⟨ρ, F, fl, ρ', rep, e, k⟩ := h
  simp only at e
  split at e
  · rename_i b0 xs0 hx0
    obtain ⟨x, ρ1, e1, e⟩ := bnd_eq e
    split at e
    · rename_i bb xs hx
      split at e
      · rename_i hz
        cases e
        obtain ⟨p0, vs0, g1, g2, g3, g4⟩ := rep.own i b0 xs0 hx0
        refine ⟨_, g1, Or.inl ⟨rfl, vs0, SqL.of g3⟩, ρ, F, x, ρ1, rep, e1, fun v F1 H1 rep1 st1 rp1 => ?_⟩
        obtain ⟨p, vs, q1, q2, q3, q4⟩ := rep1.own i bb xs hx
        rw [g1] at q1; cases q1
        refine ⟨p0, vs, v, rfl, rfl, q3, by rw [q4.len]; exact hz, ?_⟩
        exact k σ F1 _ (rep1.putO hx g1 (q4.append (.one rp1))) (st1.trans (StpE.putO hx g1)).toStp
      · cases e
    · cases e
  · cases e
/-! loops -/
theorem s_for {tgE iter : Expr} {tg : Tg} {fi : En → Option (List PyData × En)} (hp : PassesOwn (model X.prog X.w) X.A X.env X.xe) (hc : X.calm = true) (hi : PI X tgE iter (tIt X.K fi)) (hg : PG X tgE (tG X.K (slotsT tg) (bindT tg))) (hb : PSs X a (tS X.K fr f))
    (hs : ∀ x, foldedSetIterable iter X.env x = pure x) : PS X (.For tgE iter a [] pos) (tS X.K fr fun ρ => bnd (fi ρ) fun xs ρ => forI (fun x ρ => match bindT tg x ρ with
      | none => none
      | some ρ => f ρ) xs ρ) := (ps_for hp hc hi hg hb hs).wk fun D σ H h => by
  obtain ⟨ρ, F, fl, ρ', rep, e, k⟩ := h
  obtain ⟨items, ρ1, e1, e⟩ := bnd_eq e
  refine ⟨ρ, F, items, ρ1, rep, e1, fun J F1 H1 rep1 st1 wl => ?_⟩
  have k1 := k.step st1.toStp
  generalize hstep : (fun x ρ => match bindT tg x ρ with
      | none => none
      | some ρ => f ρ) = step at e
  refine ⟨fun i m σ' H' => ∃ ρ2 F2, Rep X.K ρ2 σ' F2 H' ∧ Stp ρ1 σ F1 H1 ρ2 σ' F2 H' ∧ forI step (items.drop i) ρ2 = some (fl, ρ') ∧ i ≤ items.length ∧ m = items.length - i, ⟨items.length, ρ1, F1, rep1, Stp.refl, e, Nat.zero_le _, rfl⟩, ?_⟩
  rintro i m σ' H' ⟨ρ2, F2, rep2, st2, hf, hi', rfl⟩
  by_cases hlt : i < items.length
  · have hd : items[i]? = some items[i] := List.getElem?_eq_getElem hlt
    rw [List.drop_eq_getElem_cons hlt] at hf
    simp only [forI] at hf
    refine .inr ⟨wl.go i F2 H' st2.ext rep2.ex hlt, fun σ'' H'' => ∃ ρ2 F2, Rep X.K ρ2 σ'' F2 H'' ∧ Stp ρ1 σ F1 H1 ρ2 σ'' F2 H'' ∧ forI step (items.drop (i + 1)) ρ2 = some (fl, ρ'), fun σ'' H'' n => ?_, fun x H2 hy => ?_⟩
    · obtain ⟨ρ3, F3, q1, q2, q3⟩ := n
      exact ⟨items.length - (i + 1), by omega, ρ3, F3, q1, q2, q3, hlt, rfl⟩
    · obtain ⟨F3, rep3, st3, rp3⟩ : ∃ F3, Rep X.K ρ2 σ' F3 H2 ∧ StpE ρ2 σ' F2 H' ρ2 F3 H2 ∧ Rp X.K F3 x items[i] := by
        rcases wl.yld i F2 H' x H2 _ st2.ext rep2.ex hd hy with ⟨rfl, h⟩ | ⟨T, o, nTo, hT, rfl, h⟩
        · exact ⟨F2, rep2, StpE.refl, h⟩
        · exact ⟨_, rep2.lay hT nTo, StpE.lay rep2 hT, h⟩
      have s3 := st2.trans st3.toStp
      cases hs1 : step items[i] ρ2 with
      | none => rw [hs1] at hf; cases hf
      | some pr =>
        obtain ⟨fl1, ρ4⟩ := pr
        rw [hs1] at hf
        rw [← hstep] at hs1
        simp only at hs1
        split at hs1
        · cases hs1
        rename_i ρ5 hb5
        refine ⟨ρ2, F3, items[i], ρ5, rep3, rp3, hb5, fun σ5 rep5 sb5 _ _ => ⟨ρ5, F3, fl1, ρ4, rep5, hs1, ?_⟩⟩
        have s5 : Stp ρ1 σ F1 H1 ρ5 σ5 F3 H2 := s3.trans (Stp.same sb5)
        cases fl1 with
        | next => exact fun σ6 F6 H6 rep6 st6 => ⟨ρ4, F6, rep6, s5.trans st6, hf⟩
        | cont => exact fun σ6 F6 H6 rep6 st6 => ⟨ρ4, F6, rep6, s5.trans st6, hf⟩
        | brk =>
          simp only at hf
          cases hf
          exact fun σ6 F6 H6 rep6 st6 => k1 σ6 F6 H6 rep6 (s5.trans st6)
        | ret y =>
          simp only at hf
          cases hf
          exact EndC.step (fl := .ret y) k1 s5
  · have hi2 : i = items.length := by omega
    subst hi2
    rw [List.drop_length] at hf
    simp only [forI] at hf
    cases hf
    exact .inl ⟨wl.stop _ F2 H' st2.ext rep2.ex rfl, k1 σ' F2 H' rep2 st2⟩
theorem s_wh {t : Expr} {n : Nat} (hp : PassesOwn (model X.prog X.w) X.A X.env X.xe) (ht : PT X t (tT X.K gt)) (hb : PSs X a (tS X.K fr f)) : PS X (.While t a [] pos) (tS X.K fr (whI gt f n)) := (ps_while hp ht hb).wk fun D σ H h => by
  obtain ⟨ρ, F, fl, ρ', rep, e, k⟩ := h
  refine ⟨fun m σ' H' => ∃ ρ2 F2, Rep X.K ρ2 σ' F2 H' ∧ Stp ρ σ F H ρ2 σ' F2 H' ∧ whI gt f m ρ2 = some (fl, ρ'), ⟨n, ρ, F, rep, Stp.refl, e⟩, ?_⟩
  rintro m σ' H' ⟨ρ2, F2, rep2, st2, hw⟩
  cases m with
  | zero => simp only [whI] at hw; cases hw
  | succ m =>
    simp only [whI] at hw
    split at hw
    · cases hw
    · rename_i ρ3 h3
      cases hw
      exact ⟨ρ2, F2, false, ρ', rep2, h3, fun F3 H3 rep3 st3 => L2.iteF (k σ' F3 H3 rep3 (st2.trans st3.toStp))⟩
    · rename_i ρ3 h3
      refine ⟨ρ2, F2, true, ρ3, rep2, h3, fun F3 H3 rep3 st3 => L2.iteT ⟨fun σ'' H'' => ∃ ρ2 F2, Rep X.K ρ2 σ'' F2 H'' ∧ Stp ρ σ F H ρ2 σ'' F2 H'' ∧ whI gt f m ρ2 = some (fl, ρ'), fun σ'' H'' n => ⟨m, Nat.lt_succ_self m, n⟩, ?_⟩⟩
      have s3 := st2.trans st3.toStp
      split at hw
      · cases hw
      · rename_i ρ4 h4
        exact ⟨ρ3, F3, .next, ρ4, rep3, h4, fun σ6 F6 H6 rep6 st6 => ⟨ρ4, F6, rep6, s3.trans st6, hw⟩⟩
      · rename_i ρ4 h4
        exact ⟨ρ3, F3, .cont, ρ4, rep3, h4, fun σ6 F6 H6 rep6 st6 => ⟨ρ4, F6, rep6, s3.trans st6, hw⟩⟩
      · rename_i ρ4 h4
        cases hw
        exact ⟨ρ3, F3, .brk, ρ', rep3, h4, fun σ6 F6 H6 rep6 st6 => k σ6 F6 H6 rep6 (s3.trans st6)⟩
      · rename_i y ρ4 h4
        cases hw
        exact ⟨ρ3, F3, .ret y, ρ', rep3, h4, EndC.step (fl := .ret y) k s3⟩
end
end Wh

set_option Elab.async false
set_option linter.all false
set_option maxRecDepth 100000
set_option maxHeartbeats 1000000
set_option exponentiation.threshold 5000
/-! Wh11k: several stores at once, items among them; l.pop(0). -/
namespace Wh
open PySem PySem.Spec PyProof.Rows L2 Evl
variable [Tbl]
section
variable {X : Cx} {c : Cfg} {fr : Bool} {pos : Pos} {tg : Expr} {es : List Expr} {i : Nat}
/-- targets one after the other -/
def tGP (K : PySem.W.Frag) (f : List PyData → En → Option En) : TGs := fun vs σ H Q => ∃ ρ F xs ρ', Rep K ρ σ F H ∧ RpA K F vs xs ∧ f xs ρ = some ρ' ∧ ∀ σ' F' H', Rep K ρ' σ' F' H' → Stp ρ σ F H ρ' σ' F' H' → Q σ' H'
theorem gp_nil {e : Ep → En → Option (PyData × En)} : PGs X [] (tGP X.K (stoS e [])) := by
  refine pgs_nil.wk fun v σ H Q h => ?_
  obtain ⟨ρ, F, y, ρ', rep, rp, e, q⟩ := h
  cases rp with
  | nil => simp only [stoS] at e; cases e; exact ⟨rfl, q σ F H rep Stp.refl⟩
  | cons _ _ => simp only [stoS] at e; cases e
theorem gp_name {e : Ep → En → Option (PyData × En)} {ts : List (Nat × Option Ep)} {x : Str} {p : Pos} (hN : X.N.Nodup) (hi : X.N[i]? = some x) (hx : Loc X.env.scope x) (hf : X.fn x = true ∨ X.env.scope.names.lookup x = some .local) (h2 : PGs X es (tGP X.K (stoS e ts)))
    (hs : (assignEach (.Name x p :: es) X.env).map (·.2) = assign (.Name x p) X.env :: (assignEach es X.env).map (·.2)) : PGs X (.Name x p :: es) (tGP X.K (stoS e ((i, none) :: ts))) := by
  refine (pgs_cons (pg_name hN hi hx hf) h2 hs).wk fun v σ H Q h => ?_
  obtain ⟨ρ, F, y, ρ', rep, rp, e, q⟩ := h
  cases rp with
  | nil => simp only [stoS] at e; cases e
  | cons r rr =>
    simp only [stoS] at e
    split at e
    · exact ⟨_, _, rfl, _, F, _, ρ', rep.setD r, rr, e, fun σ' F' H' a b => q σ' F' H' a (Stp.setD.trans b)⟩
    · cases e
theorem gp_sub {ts : List (Nat × Option Ep)} {a : Ep} {x : Str} {b : Expr} {px ps : Pos} (hu : X.A.units + 64 < cLine) (hN : X.N[i]? = some x) (hv : Vis X.env.scope x) (hd : (x == ("__debug__" : Str)) = false) (hcd : (x == ("__classdict__" : Str)) = false) (hb : PE X b (tE X.K (ev c a))) (h2 : PGs X es (tGP X.K (stoS (ev c) ts)))
    (ha : ∀ v, assign (.Subscript (.Name x px) b ps) X.env v = (do
      let ov ← holding [v] (eval (.Name x px) X.env)
      let iv ← holding [v, ov] (eval b X.env)
      standAt ps
      holding [v, ov, iv] (setItem ov iv v)
      release [v, ov, iv] []))
    (hs : (assignEach (.Subscript (.Name x px) b ps :: es) X.env).map (·.2) = assign (.Subscript (.Name x px) b ps) X.env :: (assignEach es X.env).map (·.2)) : PGs X (.Subscript (.Name x px) b ps :: es) (tGP X.K (stoS (ev c) ((i, some a) :: ts))) := by
  refine (pgs_cons (pg_sub (pe_var hN hv hd hcd) hb (set_LK (by omega)) ha) h2 hs).wk fun v σ H Q h => ?_
  obtain ⟨ρ, F, y, ρ', rep, rp, e, q⟩ := h
  cases rp with
  | nil => simp only [stoS] at e; cases e
  | cons r rr =>
    simp only [stoS] at e
    split at e
    · rename_i sv hsv
      split at e
      · rename_i z ρ1 e1
        split at e
        · rename_i ρ2 e2
          obtain ⟨w, hw0⟩ := rep.at_ hsv
          refine ⟨_, _, rfl, w, hw0, ρ, F, z, ρ1, rep, e1, fun vy F2 H2 rep2 st2 rp2 => ?_⟩
          refine sto_ok rep2 hw0 (r.mono st2.ext) rp2 e2 fun H' rep3 st3 => ?_
          exact ⟨ρ2, F2, _, ρ', rep3, rr.mono st2.ext, e, fun σ' F' H' a b => q σ' F' H' a ((st2.trans st3).toStp.trans b)⟩
        · cases e
      · cases e
    · cases e
theorem stoS_len {e : Ep → En → Option (PyData × En)} : ∀ {ts : List (Nat × Option Ep)} {xs : List PyData} {ρ ρ' : En}, stoS e ts xs ρ = some ρ' → xs.length = ts.length
  | [], [], _, _, _ => rfl
  | [], _ :: _, _, _, h => by simp only [stoS] at h; cases h
  | (_, none) :: _, [], _, _, h => by simp only [stoS] at h; cases h
  | (_, some _) :: _, [], _, _, h => by simp only [stoS] at h; cases h
  | (_, none) :: ts, x :: xs, ρ, ρ', h => by
    simp only [stoS] at h
    split at h
    · simp [stoS_len h]
    · cases h
  | (_, some _) :: ts, x :: xs, ρ, ρ', h => by
    simp only [stoS] at h
    split at h
    · split at h
      · split at h
        · simp [stoS_len h]
        · cases h
      · cases h
    · cases h
theorem s_parS {ts : List (Nat × Option Ep)} {tgs vs : List Expr} {kt k2 : Nat} {pt p2 : Pos} {fs : En → Option (List PyData × En)} (hc : X.calm = true) (h : PGs X tgs (tGP X.K (stoS (ev c) ts))) (hn : (assignEach tgs X.env).length = ts.length) (hst : (assignEach tgs X.env).findIdx? (·.1) = none)
    (hv : PA X vs (tA X.K fs)) (hl : ∀ ρ xs ρ', fs ρ = some (xs, ρ') → xs.length ≤ sizeLine) (hw : swappedStores [.Tuple tgs kt pt] (.Tuple vs k2 p2) X.env = pure none) :
    PS X (.Assign [.Tuple tgs kt pt] (.Tuple vs k2 p2) pos) (tS X.K fr fun ρ => bnd (fs ρ) fun xs ρ => match stoS (ev c) ts xs ρ with
    | none => none
    | some ρ => some (.next, ρ)) := (ps_asg (e_tup hv hl) (pg_tup hc h hn hst) rfl hw rfl).wk fun D σ H hh => by
  obtain ⟨ρ, F, fl, ρ', rep, e, k⟩ := hh
  obtain ⟨xs, ρ1, e1, e⟩ := bnd_eq e
  split at e
  · cases e
  · rename_i ρ2 e2
    cases e
    refine ⟨ρ, F, .tuple xs, ρ1, rep, by show bnd (fs ρ) _ = _; rw [e1]; rfl, fun v F1 H1 rep1 st1 rp1 => ?_⟩
    cases rp1 with
    | tup h1 h2 => exact ⟨_, _, rfl, rep1.exT h1, by rw [h2.len]; exact stoS_len e2, ρ1, F1, xs, ρ', rep1, h2, e2, fun σ' F' H' a b => k σ' F' H' a (st1.toStp.trans b)⟩
/-- names that take what stands in a tuple, one after the other -/
def gNames (is : List Nat) : TGs := fun vs σ H Q => vs.length = is.length ∧ Q (setsV is vs σ) H
inductive NmAll (X : Cx) : List Expr → List Nat → Prop
  | nil : NmAll X [] []
  | cons {x : Str} {p : Pos} {es : List Expr} {i : Nat} {is : List Nat} : X.N[i]? = some x → Loc X.env.scope x → (X.fn x = true ∨ X.env.scope.names.lookup x = some .local) → NmAll X es is → NmAll X (.Name x p :: es) (i :: is)
theorem names_pg (hN : X.N.Nodup) : ∀ {es : List Expr} {is : List Nat}, NmAll X es is → PGs X es (gNames is) ∧ (assignEach es X.env).length = is.length ∧ (assignEach es X.env).findIdx? (·.1) = none
  | _, _, .nil => ⟨pgs_nil.wk fun v σ H Q h => by
      obtain ⟨h1, h2⟩ := h
      have : v = [] := List.eq_nil_of_length_eq_zero h1
      subst this
      exact ⟨rfl, h2⟩, rfl, rfl⟩
  | _, _, .cons (x := x) (p := p) (es := es) (i := i) (is := is) a b d t => by
    obtain ⟨h1, h2, h3⟩ := names_pg hN t
    refine ⟨(pgs_cons (pg_name hN a b d) h1 rfl).wk fun v σ H Q h => ?_, by rw [show assignEach (.Name x p :: es) X.env = (false, assign (.Name x p) X.env) :: assignEach es X.env from rfl]; simp [h2], ?_⟩
    · obtain ⟨g1, g2⟩ := h
      cases v with
      | nil => cases g1
      | cons u vs => exact ⟨u, vs, rfl, Nat.succ.inj g1, g2⟩
    · rw [show assignEach (.Name x p :: es) X.env = (false, assign (.Name x p) X.env) :: assignEach es X.env from rfl, List.findIdx?_cons, h3]
      rfl
theorem s_paroT {is : List Nat} {os : List Nat} {tgs vs : List Expr} {kt k2 : Nat} {pt p2 : Pos} {fs : En → Option (List PyData × En)} (hc : X.calm = true) (hN : X.N.Nodup) (hn : NmAll X tgs is) (ha : PA X vs (tAF X.K os fs)) (hl : is.length ≤ 1000) (hw : swappedStores [.Tuple tgs kt pt] (.Tuple vs k2 p2) X.env = pure none) :
    PS X (.Assign [.Tuple tgs kt pt] (.Tuple vs k2 p2) pos) (tS X.K fr fun ρ => bnd (fs ρ) fun xs ρ => match setAllK is os xs ρ with
    | none => none
    | some ρ => some (.next, ρ)) := by
  obtain ⟨n1, n2, n3⟩ := names_pg hN hn
  refine (ps_asg (pe_tup ha) (pg_tup hc n1 n2 n3) rfl hw rfl).wk fun D σ H hh => ?_
  obtain ⟨ρ, F, fl, ρ', rep, e, k⟩ := hh
  obtain ⟨xs, ρ1, e1, e⟩ := bnd_eq e
  split at e
  · cases e
  · rename_i ρ2 hb
    cases e
    refine ⟨ρ, F, xs, ρ1, rep, e1, setAllK_lst hb, fun vs F1 H1 rep1 st1 rp1 => ?_⟩
    obtain ⟨a1, a2, a3⟩ := stores rp1 hb rep1 st1.toStp fun j k p hj hv o => rep.none_own (rp1.fresh hj hv) (st1.str p o)
    refine ⟨by rw [← a3]; exact Nat.le_trans hl (by decide), fun p hp => ⟨p, vs, rfl, SqT.of upd_same, a3.symm, a3.symm, ?_⟩⟩
    exact k _ F1 _ (a1.layOff hp) (a2.offD (st1.alive p hp))
/-- l.pop(0) -/
theorem e_opop {x : Str} {px pa pc pz : Pos} {j : Nat} (hN : X.N[i]? = some x) (hv : Vis X.env.scope x) (hd : (x == ("__debug__" : Str)) = false) (hcd : (x == ("__classdict__" : Str)) = false) (hline : (pa.endLine == pc.line) = true) :
    PE X (.Call (.Attribute (.Name x px) "pop" pa) [.Constant (.int 0) j pz] [] pc) (tE X.K fun ρ => match ρ[i]? with
    | some (some (Sv.own b (x :: xs))) => some (x, ρ.set i (some (.own b xs)))
    | _ => none) := by
  refine (pe_bm PySem.F.plainAttrs_list PySem.F.slot_list_pop PySem.F.type_list_pop mt_popAt (pe_var hN hv hd hcd) (pa_cons pe_int pa_nil rfl) rfl rfl hline rfl rfl).wk fun σ H Q h => ?_
  obtain ⟨ρ, F, z, ρ', rep, e, q⟩ := h
  simp only at e
  split at e
  · rename_i bb y ys hx
    cases e
    obtain ⟨p, vs, g1, g2, g3, g4⟩ := rep.own i bb _ hx
    cases g4 with
    | @cons v vs d ds r rr =>
      refine ⟨_, g1, Or.inl ⟨rfl, _, SqL.of g3⟩, p, v :: vs, 0, 0, v, rfl, rfl, g3, by decide, by decide, by simp [seqIndex?], rfl, ?_⟩
      exact q v F _ (rep.putO hx g1 rr) (StpE.putO hx g1) r
  · cases e
end
end Wh

set_option Elab.async false
set_option linter.all false
set_option maxRecDepth 100000
set_option maxHeartbeats 1000000
set_option exponentiation.threshold 5000
/-! Wh11n: a list of one's own lent for a while, its last item taken, a list put behind it, comprehensions with two fors, len(set(x)). -/
namespace Wh
open PySem PySem.Spec PyProof.Rows L2 Evl
theorem tame_at : ∀ {ρ : En}, tame ρ = true → ∀ {i : Nat}, (∀ b q, ρ[i]? = some (some (.own b q)) → noHA q = true) ∧ ∀ q, ρ[i]? ≠ some (some (.od q))
  | [], _, i => by simp
  | s :: r, h, 0 => by
    unfold tame at h
    split at h
    · rename_i heq; cases heq
    · rename_i heq
      cases heq
      rw [Bool.and_eq_true] at h
      refine ⟨fun b q e => ?_, fun q e => ?_⟩
      · simp at e; rw [← e.2]; exact h.1
      · simp at e
    · cases h
    · rename_i h1 h2 heq
      cases heq
      refine ⟨fun b q e => ?_, fun q e => ?_⟩
      · simp at e; exact absurd e (h1 b q)
      · simp at e; exact absurd e (h2 q)
  | s :: r, h, i + 1 => by
    have h' : tame r = true := by
      unfold tame at h
      split at h
      · rename_i heq; cases heq
      · rename_i heq; cases heq; exact (Bool.and_eq_true_iff.mp h).2
      · cases h
      · rename_i heq; cases heq; exact h
    have := tame_at (i := i) h'
    simpa using this
def delH (F : Hp) (p : Addr) : Hp := fun a => if a = p then none else F a
theorem delH_at {F : Hp} {p a : Addr} {o : HO} : delH F p a = some o ↔ a ≠ p ∧ F a = some o := by
  unfold delH
  split
  · rename_i h; simp [h]
  · rename_i h; simp [h]
theorem delH_same {F : Hp} {p : Addr} : delH F p p = none := by unfold delH; simp
section
variable {K : PySem.W.Frag} {F : Hp} {p : Addr} {vs : List V}
theorem sqT_del {a : Addr} {xs : List V} (hp : F p = some (.lst vs)) (h : SqT K F a xs) : SqT K (delH F p) a xs := by
  rcases h with (h | ⟨ob, h⟩) | h
  · exact .inl (.inl (delH_at.mpr ⟨fun z => (by rw [z, hp] at h; cases h), h⟩))
  · exact .inl (.inr ⟨ob, delH_at.mpr ⟨fun z => (by rw [z, hp] at h; cases h), h⟩⟩)
  · exact .inr h
mutual
theorem Rp.del (hp : F p = some (.lst vs)) : ∀ {v : V} {d : PyData}, noH d = true → Rp K F v d → Rp K (delH F p) v d
  | _, _, _, .non => .non
  | _, _, _, .bl b => .bl b
  | _, _, _, .int i => .int i
  | _, _, _, .str x => .str x
  | _, _, h, .tup s a => .tup (sqT_del hp s) (RpA.del hp (by simpa only [noH] using h) a)
  | _, _, h, .lst _ _ => by simp [noH] at h
  | _, _, h, .dct _ _ => by simp [noH] at h
theorem RpA.del (hp : F p = some (.lst vs)) : ∀ {ws : List V} {ds : List PyData}, noHA ds = true → RpA K F ws ds → RpA K (delH F p) ws ds
  | _, _, _, .nil => .nil
  | _, _, h, .cons r t => by
    simp only [noHA, Bool.and_eq_true] at h
    exact .cons (Rp.del hp h.1 r) (RpA.del hp h.2 t)
end
end
variable [Tbl]
/-- a list of one's own is lent, and comes back -/
theorem lend_core {K : PySem.W.Frag} {ρ : En} {σ : L2.St} {F H : Hp} {j : Nat} {b : Bool} {xs : List PyData} (rep : Rep K ρ σ F H) (hj : ρ[j]? = some (some (.own b xs))) :
    ∃ Ff, Rep K (ρ.set j (some (.d (.list xs)))) σ Ff H ∧ ∀ ρ' F' H', Rep K ρ' σ F' H' → StpE (ρ.set j (some (.d (.list xs)))) σ Ff H ρ' F' H' →
      (∀ (i : Nat) (x : PyData), ρ'[i]? = some (some (Sv.d x)) → (ρ.set j (some (Sv.d (.list xs))))[i]? = some (some (Sv.d x))) → tame ρ' = true →
      ∃ F2, Rep K (ρ'.set j (some (.own b xs))) σ F2 H' ∧ StpE ρ σ F H (ρ'.set j (some (.own b xs))) F2 H' ∧ ∀ v x, noH x = true → Rp K F' v x → Rp K F2 v x := by
  obtain ⟨p, vs, h1, h2, h3, h4⟩ := rep.own j b xs hj
  have hjl : j < ρ.length := lt_of_get hj
  refine ⟨_, rep.give hj h1 h2 h3 h4, fun ρ' F' H' rep' st hd ht => ?_⟩
  have gv := StpE.give (ρ := ρ) (σ := σ) (F := F) (H := H) hj h1 h2 (vs := vs)
  have e1 : Ex (upd F p (.lst vs)) F' := st.ext
  have hp' : F' p = some (.lst vs) := e1 p _ upd_same
  have hH' : H' p = some (.lst vs) := rep'.ex p _ hp'
  have eF : Ex F F' := (Ex.new h2).trans e1
  have eF2 : Ex F (delH F' p) := fun a o ha => delH_at.mpr ⟨ne_of_none ha h2, eF a o ha⟩
  have hl : ρ'.length = ρ.length := by rw [rep'.len, rep.len]
  have hjl' : j < ρ'.length := by rw [hl]; exact hjl
  have ownF : ∀ a, Own (ρ.set j (some (.d (.list xs)))) σ a → Own ρ σ a := gv.str
  have get : ∀ i s, i ≠ j → (ρ'.set j (some (Sv.own b xs)))[i]? = some (some s) → ρ'[i]? = some (some s) := fun i s hi e => by
    rwa [List.getElem?_set_ne (Ne.symm hi)] at e
  have getj : ∀ s, (ρ'.set j (some (Sv.own b xs)))[j]? = some (some s) → s = .own b xs := fun s e => by
    rw [List.getElem?_set_self hjl'] at e
    cases e; rfl
  have pOwn : ∀ i s, i ≠ j → ρ'[i]? = some (some s) → isOw s = true → σ[i]? ≠ some (some (V.ref p)) := fun i s hi e hs hv => by
    obtain ⟨f0, _⟩ := rep'.own_some (p := p) ⟨i, s, e, hs, hv⟩
    rw [hp'] at f0
    cases f0
  have own2 : ∀ a, Own (ρ'.set j (some (.own b xs))) σ a → Own ρ σ a := fun a ⟨i, s, e, hs, hv⟩ => by
    by_cases hi : i = j
    · subst hi
      exact ⟨i, _, hj, rfl, hv⟩
    · exact ownF a (st.str a ⟨i, s, get i s hi e, hs, hv⟩)
  refine ⟨delH F' p, ⟨?_, ⟨fun a o ha => rep'.ex a o (delH_at.mp ha).2, rep'.wl.tab, fun a o ha => rep'.wl.nt a o (delH_at.mp ha).2⟩, fun i x hx => ?_, fun i c ys hx => ?_, fun i i' s t q hs ws ht' wt h5 h6 => ?_, fun i hx => ?_, fun i ks hx => ?_⟩,
    ⟨⟨eF2, fun a o ha => ?_, fun a o ha no nt => st.fr a o ha (fun z => no (ownF a z)) nt, fun a o => .inl (own2 a o), st.alive, fun i ys hx => ?_⟩, own2⟩, fun v x hn r => Rp.del hp' hn r⟩
  · rw [List.length_set]; exact rep'.len
  · by_cases hi : i = j
    · subst hi; cases getj _ hx
    · have q := hd i x (get i _ hi hx)
      rw [List.getElem?_set_ne (Ne.symm hi)] at q
      obtain ⟨v, g1, g2⟩ := rep.dat i x q
      exact ⟨v, g1, g2.mono eF2⟩
  · by_cases hi : i = j
    · subst hi
      cases getj _ hx
      exact ⟨p, vs, h1, delH_same, hH', h4.mono eF2⟩
    · have hx' := get i _ hi hx
      obtain ⟨q, ws, g1, g2, g3, g4⟩ := rep'.own i c ys hx'
      refine ⟨q, ws, g1, ?_, g3, RpA.del hp' ((tame_at ht).1 _ _ hx') g4⟩
      unfold delH
      split
      · rfl
      · exact g2
  · by_cases hi : i = j
    · by_cases hi' : i' = j
      · rw [hi, hi']
      · subst hi
        rw [h1] at h5
        cases h5
        exact absurd h6 (pOwn i' t hi' (get i' t hi' ht') wt)
    · by_cases hi' : i' = j
      · subst hi'
        rw [h1] at h6
        cases h6
        exact absurd h5 (pOwn i s hi (get i s hi hs) ws)
      · exact rep'.dis i i' s t q (get i s hi hs) ws (get i' t hi' ht') wt h5 h6
  · by_cases hi : i = j
    · subst hi; cases getj _ hx
    · exact rep'.xc i (get i _ hi hx)
  · by_cases hi : i = j
    · subst hi; cases getj _ hx
    · exact absurd (get i _ hi hx) ((tame_at ht).2 _)
  · obtain ⟨g1, g2⟩ := delH_at.mp ha
    rcases st.new a o g2 with z | z | z
    · rw [upd_ne g1] at z; exact .inl z
    · exact .inr (.inl z)
    · exact .inr (.inr (ownF a z))
  · by_cases hi : i = j
    · subst hi
      cases getj _ hx
      exact ⟨rfl, xs, hj⟩
    · obtain ⟨g1, zs, g2⟩ := st.pen i ys (get i _ hi hx)
      rw [List.getElem?_set_ne (Ne.symm hi)] at g2
      exact ⟨g1, zs, g2⟩
/-- what is evaluated with a list of one's own lent; st: it is known to keep what is data -/
def lendF (st : En → Bool) (j : Nat) (f : En → Option (PyData × En)) : En → Option (PyData × En) := fun ρ => match ρ[j]? with
  | some (some (.own b xs)) => if st (ρ.set j (some (.d (.list xs)))) then bnd (f (ρ.set j (some (.d (.list xs))))) fun x ρ' => if noH x && tame ρ' then some (x, ρ'.set j (some (.own b xs))) else none else none
  | _ => f ρ
def Keeps (st : En → Bool) (f : En → Option (PyData × En)) : Prop := ∀ ρ x ρ', st ρ = true → f ρ = some (x, ρ') → ∀ (i : Nat) (y : PyData), ρ'[i]? = some (some (Sv.d y)) → ρ[i]? = some (some (Sv.d y))
section
variable {X : Cx} {e : Expr} {f : En → Option (PyData × En)} {st : En → Bool} {j : Nat}
theorem e_lend (h : PE X e (tE X.K f)) (hs : Keeps st f) : PE X e (tE X.K (lendF st j f)) := h.wk fun σ H Q q => by
  obtain ⟨ρ, F, x, ρ', rep, e0, k⟩ := q
  unfold lendF at e0
  split at e0
  · rename_i b xs hj
    split at e0
    · rename_i hst
      obtain ⟨y, ρ1, e1, e0⟩ := bnd_eq e0
      split at e0
      · rename_i hc
        cases e0
        rw [Bool.and_eq_true] at hc
        obtain ⟨Ff, repf, back⟩ := lend_core rep hj
        refine ⟨_, Ff, x, ρ1, repf, e1, fun v F' H' rep' st' rp => ?_⟩
        obtain ⟨F2, r2, s2, b2⟩ := back ρ1 F' H' rep' st' (hs _ _ _ hst e1) hc.2
        exact k v F2 H' r2 s2 (b2 v x hc.1 rp)
      · cases e0
    · cases e0
  · exact ⟨ρ, F, x, ρ', rep, e0, k⟩
theorem t_lend (h : PT X e (tT X.K fun ρ => bnd (f ρ) fun x ρ => ret (truD x) ρ)) (hs : Keeps st f) : PT X e (tT X.K fun ρ => bnd (lendF st j f ρ) fun x ρ => ret (truD x) ρ) := h.wk fun σ H Q q => by
  obtain ⟨ρ, F, x, ρ', rep, e0, k⟩ := q
  obtain ⟨y, ρ2, e0, e3⟩ := bnd_eq e0
  unfold lendF at e0
  split at e0
  · rename_i b xs hj
    split at e0
    · rename_i hst
      obtain ⟨y', ρ1, e1, e0⟩ := bnd_eq e0
      split at e0
      · rename_i hc
        cases e0
        rw [Bool.and_eq_true] at hc
        obtain ⟨z, e4, e5⟩ := ret_eq e3
        cases e5
        obtain ⟨Ff, repf, back⟩ := lend_core rep hj
        refine ⟨_, Ff, x, ρ1, repf, ?_, fun F' H' rep' st' => ?_⟩
        · show bnd (f _) _ = _
          rw [e1, bnd_some, e4]; rfl
        · obtain ⟨F2, r2, s2, b2⟩ := back ρ1 F' H' rep' st' (hs _ _ _ hst e1) hc.2
          exact k F2 H' r2 s2
      · cases e0
    · cases e0
  · refine ⟨ρ, F, x, ρ', rep, ?_, k⟩
    show bnd (f _) _ = _
    rw [e0]
    exact e3
end
section
variable {X : Cx} {fr : Bool} {i : Nat} {e : Expr} {fe : En → Option (PyData × En)} {pos : Pos}
/-- l.pop() -/
theorem e_opope {x : Str} {px pa pc : Pos} (hN : X.N[i]? = some x) (hv : Vis X.env.scope x) (hd : (x == ("__debug__" : Str)) = false) (hcd : (x == ("__classdict__" : Str)) = false) (hline : (pa.endLine == pc.line) = true) :
    PE X (.Call (.Attribute (.Name x px) "pop" pa) [] [] pc) (tE X.K fun ρ => match ρ[i]? with
    | some (some (Sv.own b xs)) => match xs[xs.length - 1]? with
      | some y => some (y, ρ.set i (some (.own b xs.dropLast)))
      | none => none
    | _ => none) := by
  refine (pe_bm0 PySem.F.plainAttrs_list PySem.F.slot_list_pop PySem.F.type_list_pop mt_pop (pe_var hN hv hd hcd) rfl hline).wk fun σ H Q h => ?_
  obtain ⟨ρ, F, z, ρ', rep, e, q⟩ := h
  simp only at e
  split at e
  · rename_i bb ys hx
    split at e
    · rename_i y hy
      cases e
      obtain ⟨p, vs, g1, g2, g3, g4⟩ := rep.own i bb _ hx
      obtain ⟨v, hv1, hv2⟩ := g4.get hy
      refine ⟨_, g1, Or.inl ⟨rfl, _, SqL.of g3⟩, p, vs, v, rfl, rfl, g3, by rw [g4.len]; exact hv1, ?_⟩
      have r2 : RpA X.K F vs.dropLast ys.dropLast := by
        rw [List.dropLast_eq_take, List.dropLast_eq_take, g4.len]
        exact g4.take _
      exact q v F _ (rep.putO hx g1 r2) (StpE.putO hx g1) hv2
    · cases e
  · cases e
/-- l.extend(b), b any list -/
def rExtendS (K : PySem.W.Frag) : V → List V → Hp → VK → Prop := fun x vs H Q => ∃ l b xs zs, x = .ref l ∧ vs = [.ref b] ∧ H l = some (.lst xs) ∧ SqL K H b zs ∧ xs.length + zs.length ≤ sizeLine ∧ Q .non (upd H l (.lst (xs ++ zs)))
omit [Tbl] in
theorem mt_extendS {X : Cx} : MtM X "list.extend" (rExtendS X.K) := by
  intro pins s σ H x vs v us Q I rx rv h
  obtain ⟨l, b, xs, zs, rfl, rfl, hH, hB, hz, q⟩ := h
  cases rx
  obtain ⟨u, rfl, ru⟩ := rv.one
  cases ru
  obtain ⟨z, its, n, r, hl, e⟩ := I.lstM hH
  obtain ⟨its2, r2, pl, hz2⟩ := I.list hB
  obtain ⟨o2, n2, e2, c2, d2, dt2⟩ := pl
  have l1 : its.toArray.size = xs.length := by rw [List.size_toArray, r.length]
  have l2 : its2.toArray.size = zs.length := by rw [List.size_toArray, r2.length]
  refine wpAny_call_entry PySem.F.slot_list_extend ⟨_, e, rfl⟩ PySem.F.entry_list_extend ?_ (PySem.F.args_list_extend_2 _ _)
  show wpAny _ _ (Builtin.List.listExtendWith (.ref l) (.ref b) .none) _ _ s
  unfold Builtin.List.listExtendWith
  refine wpAny_bind (wpAny_typeOf (T := "list") ⟨o2, e2, c2⟩ ?_)
  have ht : (Value.type "list" == Value.type "list") = true := by rfl
  rw [if_pos (by rw [ht]; simp)]
  refine wpAny_bind (listItems_at e2 dt2 ?_)
  refine wpAny_bind (listItems_at e rfl ?_)
  have hsz : its.toArray.size + its2.toArray.size ≤ sizeLine := by omega
  have hlong : ¬ (!its.toArray.isEmpty && Builtin.List.listTooLong (its.toArray.size + its2.toArray.size)) = true := by
    rw [notLongL hsz, Bool.and_false]
    exact Bool.false_ne_true
  rw [if_neg hlong]
  refine wpAny_bind (listUpdate_at e rfl ?_ (by rw [List.size_toArray]; omega) (by rw [Array.size_append]; omega))
  refine wpAny_pure ⟨_, rfl, ?_⟩
  refine ⟨.non, _, I.lset (its' := its ++ its2) hH e (by simp) (r.append r2) ?_, rfl, q⟩
  rw [List.length_append]
  omega
/-- l.extend(e) -/
theorem s_ext {x : Str} {px pa pc : Pos} (hN : X.N[i]? = some x) (hv : Vis X.env.scope x) (hd : (x == ("__debug__" : Str)) = false) (hcd : (x == ("__classdict__" : Str)) = false) (he : PE X e (tE X.K fe)) (hst : starEach [e] X.env = (false, eval e X.env) :: starEach [] X.env)
    (hline : (pa.endLine == pc.line) = true) : PS X (.Expr (.Call (.Attribute (.Name x px) "extend" pa) [e] [] pc) pos) (tS X.K fr fun ρ => match ρ[i]? with
    | some (some (Sv.own _ _)) => bnd (fe ρ) fun x ρ => match ρ[i]?, x with
      | some (some (Sv.own b xs)), .list ys => if xs.length + ys.length ≤ sizeLine then some (.next, ρ.set i (some (.own b (xs ++ ys)))) else none
      | _, _ => none
    | _ => none) := (ps_expr (pe_bm PySem.F.plainAttrs_list PySem.F.slot_list_extend PySem.F.type_list_extend mt_extendS (pe_var hN hv hd hcd) (pa_cons he pa_nil hst) rfl (by rw [hst]; rfl) hline hst rfl) rfl).wk fun D σ H h => by
  obtain ⟨ρ, F, fl, ρ', rep, e, k⟩ := h
  simp only at e
  split at e
  · rename_i b0 xs0 hx0
    obtain ⟨x, ρ1, e1, e⟩ := bnd_eq e
    split at e
    · rename_i bb xs ys hx
      split at e
      · rename_i hz
        cases e
        obtain ⟨p0, vs0, g1, g2, g3, g4⟩ := rep.own i b0 xs0 hx0
        refine ⟨_, g1, Or.inl ⟨rfl, vs0, SqL.of g3⟩, ρ, F, .list ys, ρ1, rep, e1, fun v F1 H1 rep1 st1 rp1 => ?_⟩
        cases rp1 with
        | @lst pb wb _ hb ra =>
          obtain ⟨p, vs, q1, q2, q3, q4⟩ := rep1.own i bb xs hx
          rw [g1] at q1; cases q1
          refine ⟨p0, pb, vs, wb, rfl, rfl, q3, rep1.exL hb, by rw [q4.len, ra.len]; exact hz, ?_⟩
          exact k σ F1 _ (rep1.putO hx g1 (q4.append ra)) (st1.trans (StpE.putO hx g1)).toStp
      · cases e
    · cases e
  · cases e
end

/-! ### two fors -/
/-- a turn of the outer for -/
def stepC2 (t1 : Tg) (g1 : En → Option (Bool × En)) (fi2 : En → Option (List PyData × En)) (t2 : Tg) (g2 : En → Option (Bool × En)) (fe : En → Option (PyData × En)) (own own2 : List Nat) (ρ1 : En) : PyData → En → Option (List PyData × En) := fun x ρ2 => match bindT t1 x (wipeE ρ2 own) with
  | none => none
  | some ρ3 => bnd (g1 ρ3) fun r ρ4 => match r with
    | false => some ([], backE ρ1 ρ4 own)
    | true => bnd (fi2 ρ4) fun ys ρ5 => if own2.all (notOwn ρ5) ∧ ys.length ≤ 100000 then bnd (cmpI (stepC t2 g2 fe own2 ρ5) ys ρ5) fun zs ρ6 => some (zs, backE ρ1 ρ6 own) else none
def evC2 (t1 : Tg) (fi : En → Option (List PyData × En)) (g1 : En → Option (Bool × En)) (t2 : Tg) (fi2 : En → Option (List PyData × En)) (g2 : En → Option (Bool × En)) (fe : En → Option (PyData × En)) (own own2 : List Nat) : En → Option (PyData × En) := fun ρ =>
  if own.all (notOwn ρ) then bnd (fi ρ) fun xs ρ1 => if own.all (notOwn ρ1) ∧ xs.length ≤ 100000 then bnd (cmpL (stepC2 t1 g1 fi2 t2 g2 fe own own2 ρ1) xs ρ1) fun ys ρ6 => if ys.length ≤ 100000 then some (.list ys, ρ6) else none else none else none
section
variable {X : Cx} {elt tg1E iter1 tg2E iter2 : Expr} {ifs1 ifs2 : List Expr} {scope : Scope} {ownS : List (Str × Nat)} {pos : Pos} {t1 t2 : Tg} {fi fi2 : En → Option (List PyData × En)} {g1 g2 : En → Option (Bool × En)} {fe : En → Option (PyData × En)} {own own2 : List Nat}
theorem lc2_rd (hsl : ∀ j ∈ slotsT t1, j ∈ own) (hsl2 : ∀ j ∈ slotsT t2, j ∈ own2) (σ : L2.St) (H : Hp) (Q : VK)
    (h : tEL X.K (evC2 t1 fi g1 t2 fi2 g2 fe own own2) σ H Q) :
    tLc2 (tIt X.K fi) (tG X.K (slotsT t1) (bindT t1)) (tT X.K g1) (tIt X.K fi2) (tG X.K (slotsT t2) (bindT t2)) (tT X.K g2) (tE X.K fe) own own2 σ H Q := by
  obtain ⟨ρ, F, ys, ρ6, rep, e, q⟩ := h
  unfold evC2 at e
  split at e
  case isFalse => cases e
  obtain ⟨items, ρ1, e1, e⟩ := bnd_eq e
  split at e
  case isFalse => cases e
  rename_i hn0 hn
  obtain ⟨hn, hz⟩ := hn
  obtain ⟨ys', ρ6', e2, e⟩ := bnd_eq e
  split at e
  case isFalse => cases e
  rename_i hzz
  cases e
  have lim : ∀ {n : Nat}, n ≤ 100000 → n < sizeLine := fun h => Nat.lt_of_le_of_lt h (by decide)
  refine ⟨ρ, F, items, ρ1, rep, e1, fun J F1 H1 rep1 st1 wl => fun D hD => ?_⟩
  have nD : ¬ Own ρ1 σ D := rep1.none_own hD
  have fD : F1 D = none := fresh_back rep1.ex hD
  refine ⟨fun i m H' => ∃ F' ρ' vs1 ys1 ys2, Rep X.K ρ' σ F' H' ∧ Stp ρ1 σ F1 H1 ρ' σ F' H' ∧ (∀ a, Own ρ' σ a → Own ρ1 σ a) ∧ F' D = none ∧ H' D = some (.lst vs1) ∧ RpA X.K F' vs1 ys1 ∧ cmpL (stepC2 t1 g1 fi2 t2 g2 fe own own2 ρ1) (items.drop i) ρ' = some (ys2, ρ6) ∧ ys = ys1 ++ ys2 ∧ i ≤ items.length ∧ m = items.length - i,
    ⟨items.length, F1, ρ1, [], [], ys, rep1.layOff hD, (StpE.layOff hD).toStp, fun _ h => h, fD, upd_same, .nil, e2, rfl, Nat.zero_le _, rfl⟩, ?_⟩
  rintro i m H' ⟨F', ρ', vs1, ys1, ys2, rep', stp, ow, f', h', rpa, hcm, hys, hi, rfl⟩
  have no' : ¬ Own ρ' σ D := fun o => nD (ow D o)
  by_cases hlt : i < items.length
  · have hd : items[i]? = some items[i] := List.getElem?_eq_getElem hlt
    have hdrop : items.drop i = items[i] :: items.drop (i + 1) := List.drop_eq_getElem_cons hlt
    rw [hdrop] at hcm
    simp only [cmpL] at hcm
    refine .inr ⟨wl.go i F' H' stp.ext rep'.ex hlt, fun H'' => ∃ m', m' < items.length - i ∧ (∃ F' ρ' vs1 ys1 ys2, Rep X.K ρ' σ F' H'' ∧ Stp ρ1 σ F1 H1 ρ' σ F' H'' ∧ (∀ a, Own ρ' σ a → Own ρ1 σ a) ∧ F' D = none ∧ H'' D = some (.lst vs1) ∧ RpA X.K F' vs1 ys1 ∧ cmpL (stepC2 t1 g1 fi2 t2 g2 fe own own2 ρ1) (items.drop (i + 1)) ρ' = some (ys2, ρ6) ∧ ys = ys1 ++ ys2 ∧ i + 1 ≤ items.length ∧ m' = items.length - (i + 1)), fun H'' n => n, fun x H2 hy => ?_⟩
    obtain ⟨F2, rep2, st2, rp2⟩ : ∃ F2, Rep X.K ρ' σ F2 H2 ∧ StpE ρ' σ F' H' ρ' F2 H2 ∧ Rp X.K F2 x items[i] := by
      rcases wl.yld i F' H' x H2 _ stp.ext rep'.ex hd hy with ⟨rfl, h⟩ | ⟨T, o, nTo, hT, rfl, h⟩
      · exact ⟨F', rep', StpE.refl, h⟩
      · exact ⟨_, rep'.lay hT nTo, StpE.lay rep' hT, h⟩
    cases hst : stepC2 t1 g1 fi2 t2 g2 fe own own2 ρ1 items[i] ρ' with
    | none => rw [hst] at hcm; cases hcm
    | some pr =>
    obtain ⟨zs, ρn⟩ := pr
    rw [hst] at hcm
    simp only at hcm
    split at hcm
    · cases hcm
    rename_i ys3 ρ7 hcm'
    cases hcm
    have hys2 : ys = (ys1 ++ zs) ++ ys3 := by rw [hys, List.append_assoc]
    have zlen : ys1.length + zs.length ≤ 100000 := by
      have := congrArg List.length hys2
      simp only [List.length_append] at this
      omega
    unfold stepC2 at hst
    split at hst
    · cases hst
    rename_i ρ3 hb
    obtain ⟨r, ρ4, hg, hst⟩ := bnd_eq hst
    refine ⟨wipeE ρ' own, F2, items[i], ρ3, rep2.wipe own, rp2, hb, fun σ2 rep3 o3 k3 l3 => ?_⟩
    have hw : L2.wipe σ2 own = L2.wipe σ own := by
      rw [wipe_eq (σ := L2.wipe σ own) (σ' := σ2) (fun j hj => k3 j fun z => hj (hsl j z)) l3]
      exact wipe_eq (fun j hj => wipe_out hj) (wipe_length σ own)
    refine ⟨hw, ρ3, F2, r, ρ4, rep3, hg, fun F4 H4 rep4 st4 => ?_⟩
    have s2 : Stp ρ1 σ F1 H1 ρ' σ F2 H2 := stp.trans st2.toStp
    have s3 : Stp ρ1 σ F1 H1 ρ3 σ2 F2 H2 := s2.trans (Stp.same (sub_wipe.trans o3))
    have s4 : Stp ρ1 σ F1 H1 ρ4 σ2 F4 H4 := s3.trans st4.toStp
    have ow3 : ∀ a, Own ρ3 σ2 a → Own ρ1 σ a := fun a o => ow a (own_wipe (o3.own a o))
    have ow4 : ∀ a, Own ρ4 σ2 a → Own ρ1 σ a := fun a o => ow3 a (st4.str a o)
    have out : ∀ {ρa ρb : En} {σa σb : L2.St} {Fa Ha Fb Hb : Hp} {o : HO}, Stp ρa σa Fa Ha ρb σb Fb Hb → Fa D = none → Ha D = some o → ¬ Own ρa σa D → Fb D = none := fun {ρa ρb σa σb Fa Ha Fb Hb o} s a1 a2 a3 => by
      cases hx : Fb D with
      | none => rfl
      | some u =>
        rcases s.new D u hx with z | z | z
        · rw [a1] at z; cases z
        · rw [a2] at z; cases z
        · exact absurd z a3
    have h2D : H2 D = some (.lst vs1) := st2.fr D _ h' no' (fun _ z => by cases z)
    have f2D : F2 D = none := out st2.toStp f' h' no'
    have h4D : H4 D = some (.lst vs1) := st4.fr D _ h2D (fun o => nD (ow3 D o)) (fun _ z => by cases z)
    have f4D : F4 D = none := out st4.toStp f2D h2D (fun o => nD (ow3 D o))
    have rpa4 : RpA X.K F4 vs1 ys1 := (rpa.mono st2.ext).mono st4.ext
    cases r with
    | false =>
      cases hst
      refine L2.iteF ?_
      exact ⟨items.length - (i + 1), by omega, F4, backE ρ1 ρ4 own, vs1, ys1, ys3, Rep.back rep1 s4.ext rep4 hw hn, s4.trans (Stp.same (sub_back hw hn)), fun a o => ow4 a (own_back o hw hn), f4D, h4D, rpa4, hcm', hys, hlt, rfl⟩
    | true =>
      obtain ⟨its, ρ5, he2, hst⟩ := bnd_eq hst
      split at hst
      case isFalse => cases hst
      rename_i hn2
      obtain ⟨hn2, hz2⟩ := hn2
      obtain ⟨zs', ρ8, he3, hst⟩ := bnd_eq hst
      cases hst
      refine L2.iteT ?_
      refine ⟨ρ4, F4, its, ρ5, rep4, he2, fun J1 F5 H5 rep5 st5 wl1 => ?_⟩
      have s5 : Stp ρ1 σ F1 H1 ρ5 σ2 F5 H5 := s4.trans st5.toStp
      have ow5 : ∀ a, Own ρ5 σ2 a → Own ρ1 σ a := fun a o => ow4 a (st5.str a o)
      have h5D : H5 D = some (.lst vs1) := st5.fr D _ h4D (fun o => nD (ow4 D o)) (fun _ z => by cases z)
      have f5D : F5 D = none := out st5.toStp f4D h4D (fun o => nD (ow4 D o))
      refine ⟨fun j k H' => ∃ Fj ρj vs2 zs1 zs2, Rep X.K ρj σ2 Fj H' ∧ (Stp ρ1 σ F1 H1 ρj σ2 Fj H' ∧ Ex F5 Fj) ∧ (∀ a, Own ρj σ2 a → Own ρ5 σ2 a) ∧ Fj D = none ∧ H' D = some (.lst vs2) ∧ RpA X.K Fj vs2 (ys1 ++ zs1) ∧ cmpI (stepC t2 g2 fe own2 ρ5) (its.drop j) ρj = some (zs2, ρ8) ∧ zs = zs1 ++ zs2 ∧ j ≤ its.length ∧ k = its.length - j,
        ⟨its.length, F5, ρ5, vs1, [], zs, rep5, ⟨s5, Ex.refl F5⟩, fun _ h => h, f5D, h5D, by rw [List.append_nil]; exact rpa4.mono st5.ext, he3, rfl, Nat.zero_le _, rfl⟩, ?_⟩
      rintro j k Hj ⟨Fj, ρj, vs2, zs1, zs2, repj, ⟨stj, exj⟩, owj, fj, hj, rpj, hcj, hzs, hjl, rfl⟩
      have noj : ¬ Own ρj σ2 D := fun o => nD (ow5 D (owj D o))
      by_cases hlj : j < its.length
      · have hdj : its[j]? = some its[j] := List.getElem?_eq_getElem hlj
        rw [List.drop_eq_getElem_cons hlj] at hcj
        simp only [cmpI] at hcj
        refine .inr ⟨wl1.go j Fj Hj exj repj.ex hlj, fun H' => ∃ k', k' < its.length - j ∧ (∃ Fj ρj vs2 zs1 zs2, Rep X.K ρj σ2 Fj H' ∧ (Stp ρ1 σ F1 H1 ρj σ2 Fj H' ∧ Ex F5 Fj) ∧ (∀ a, Own ρj σ2 a → Own ρ5 σ2 a) ∧ Fj D = none ∧ H' D = some (.lst vs2) ∧ RpA X.K Fj vs2 (ys1 ++ zs1) ∧ cmpI (stepC t2 g2 fe own2 ρ5) (its.drop (j + 1)) ρj = some (zs2, ρ8) ∧ zs = zs1 ++ zs2 ∧ j + 1 ≤ its.length ∧ k' = its.length - (j + 1)), fun H' n => n, fun y Hy hyl => ?_⟩
        obtain ⟨Fy, repy, sty, rpy⟩ : ∃ F2, Rep X.K ρj σ2 F2 Hy ∧ StpE ρj σ2 Fj Hj ρj F2 Hy ∧ Rp X.K F2 y its[j] := by
          rcases wl1.yld j Fj Hj y Hy _ exj repj.ex hdj hyl with ⟨rfl, h⟩ | ⟨T, o, nTo, hT, rfl, h⟩
          · exact ⟨Fj, repj, StpE.refl, h⟩
          · exact ⟨_, repj.lay hT nTo, StpE.lay repj hT, h⟩
        cases hsj : stepC t2 g2 fe own2 ρ5 its[j] ρj with
        | none => rw [hsj] at hcj; cases hcj
        | some pr =>
        rw [hsj] at hcj
        unfold stepC at hsj
        split at hsj
        · cases hsj
        rename_i ρ9 hb9
        obtain ⟨r9, ρ10, hg9, hsj⟩ := bnd_eq hsj
        refine ⟨wipeE ρj own2, Fy, its[j], ρ9, repy.wipe own2, rpy, hb9, fun σ3 rep9 o9 k9 l9 => ?_⟩
        have hw2 : L2.wipe σ3 own2 = L2.wipe σ2 own2 := by
          rw [wipe_eq (σ := L2.wipe σ2 own2) (σ' := σ3) (fun j hj => k9 j fun z => hj (hsl2 j z)) l9]
          exact wipe_eq (fun j hj => wipe_out hj) (wipe_length σ2 own2)
        refine ⟨hw2, ρ9, Fy, r9, ρ10, rep9, hg9, fun F10 H10 rep10 st10 => ?_⟩
        have sy : Stp ρ1 σ F1 H1 ρj σ2 Fy Hy := stj.trans sty.toStp
        have s9 : Stp ρ1 σ F1 H1 ρ9 σ3 Fy Hy := sy.trans (Stp.same (sub_wipe.trans o9))
        have s10 : Stp ρ1 σ F1 H1 ρ10 σ3 F10 H10 := s9.trans st10.toStp
        have ex10 : Ex F5 F10 := (exj.trans sty.ext).trans st10.ext
        have ow9 : ∀ a, Own ρ9 σ3 a → Own ρ5 σ2 a := fun a o => owj a (own_wipe (o9.own a o))
        have ow10 : ∀ a, Own ρ10 σ3 a → Own ρ5 σ2 a := fun a o => ow9 a (st10.str a o)
        have hyD : Hy D = some (.lst vs2) := sty.fr D _ hj noj (fun _ z => by cases z)
        have fyD : Fy D = none := out sty.toStp fj hj noj
        have h10D : H10 D = some (.lst vs2) := st10.fr D _ hyD (fun o => nD (ow5 D (ow9 D o))) (fun _ z => by cases z)
        have f10D : F10 D = none := out st10.toStp fyD hyD (fun o => nD (ow5 D (ow9 D o)))
        have rp10 : RpA X.K F10 vs2 (ys1 ++ zs1) := (rpj.mono sty.ext).mono st10.ext
        cases r9 with
        | false =>
          cases hsj
          refine L2.iteF ?_
          simp only at hcj
          exact ⟨its.length - (j + 1), by omega, F10, backE ρ5 ρ10 own2, vs2, zs1, zs2, Rep.back rep5 ex10 rep10 hw2 hn2, ⟨s10.trans (Stp.same (sub_back hw2 hn2)), ex10⟩, fun a o => ow10 a (own_back o hw2 hn2), f10D, h10D, rp10, hcj, hzs, hlj, rfl⟩
        | true =>
          obtain ⟨z, ρ11, he4, hsj⟩ := bnd_eq hsj
          cases hsj
          refine L2.iteT ?_
          simp only at hcj
          split at hcj
          · cases hcj
          rename_i zs3 ρ12 hcj'
          cases hcj
          refine ⟨ρ10, F10, z, ρ11, rep10, he4, fun vz F11 H11 rep11 st11 rp11 => ?_⟩
          have s11 : Stp ρ1 σ F1 H1 ρ11 σ3 F11 H11 := s10.trans st11.toStp
          have ow11 : ∀ a, Own ρ11 σ3 a → Own ρ5 σ2 a := fun a o => ow10 a (st11.str a o)
          have h11D : H11 D = some (.lst vs2) := st11.fr D _ h10D (fun o => nD (ow5 D (ow10 D o))) (fun _ z => by cases z)
          have f11D : F11 D = none := out st11.toStp f10D h10D (fun o => nD (ow5 D (ow10 D o)))
          have r11 : Rep X.K ρ11 σ3 F11 (upd H11 D (.lst (vs2 ++ [vz]))) := rep11.off f11D (fun o => nD (ow5 D (ow11 D o))) h11D (fun _ z => by cases z) (fun _ z => by unfold LamX.CodeO at z; cases z)
          have vlen : vs2.length = ys1.length + zs1.length := by rw [rpj.len, List.length_append]
          have zl : zs.length = zs1.length + (zs3.length + 1) := by rw [hzs, List.length_append, List.length_cons]
          have nxt : cmpI (stepC t2 g2 fe own2 ρ5) (its.drop (j + 1)) (backE ρ5 ρ11 own2) = some (zs3, ρ8) := hcj'
          have ex11 : Ex F5 F11 := ex10.trans st11.ext
          refine ⟨vs2, h11D, lim (by omega), its.length - (j + 1), by omega, F11, backE ρ5 ρ11 own2, vs2 ++ [vz], zs1 ++ [z], zs3, Rep.back rep5 ex11 r11 hw2 hn2,
            ⟨(s11.trans (Stp.same (sub_back hw2 hn2))).offD hD, ex11⟩, fun a o => ow11 a (own_back o hw2 hn2), f11D, upd_same, ?_, nxt, ?_, hlj, rfl⟩
          · rw [← List.append_assoc]
            exact (rp10.mono st11.ext).append (.one rp11)
          · rw [hzs, List.append_assoc]; rfl
      · have hj' : j = its.length := by omega
        subst hj'
        rw [List.drop_length] at hcj
        simp only [cmpI] at hcj
        cases hcj
        rw [List.append_nil] at hzs
        rw [← hzs] at rpj
        refine .inl ⟨wl1.stop _ Fj Hj exj repj.ex rfl, ?_⟩
        exact ⟨items.length - (i + 1), by omega, Fj, backE ρ1 _ own, vs2, ys1 ++ zs, ys3, Rep.back rep1 stj.ext repj hw hn, stj.trans (Stp.same (sub_back hw hn)), fun a o => ow5 a (owj a (own_back o hw hn)), fj, hj, rpj, hcm', hys2, hlt, rfl⟩
  · have hi' : i = items.length := by omega
    subst hi'
    rw [List.drop_length] at hcm
    simp only [cmpL] at hcm
    cases hcm
    rw [List.append_nil] at hys
    subst hys
    exact .inl ⟨wl.stop _ F' H' stp.ext rep'.ex rfl, q D vs1 F' H' rep' (st1.trans ⟨stp, ow⟩) (st1.alive D hD) f' h' rpa⟩
end
/-! ### len(set(x)) -/
omit [Tbl] in
theorem fold_dd : ∀ (ns acc : List Int), ns.foldl PyProof.Rows.step_dedup acc = ddI acc ns
  | [], acc => rfl
  | x :: xs, acc => by
    show xs.foldl PyProof.Rows.step_dedup (PyProof.Rows.step_dedup acc x) = ddI acc (x :: xs)
    unfold PyProof.Rows.step_dedup ddI
    split
    · exact fold_dd xs acc
    · exact fold_dd xs _
omit [Tbl] in
theorem first_dd (ns : List Int) : PyProof.Rows.firstMet (fun i => ns.getD i 0) ns.length = ddI [] ns := by
  unfold PyProof.Rows.firstMet
  rw [← fold_dd]
  congr 1
  refine List.ext_getElem (by simp) fun i h1 h2 => ?_
  simp [List.getD_eq_getElem?_getD, List.getElem?_eq_getElem h2]
omit [Tbl] in
def tLenSetD (K : PySem.W.Frag) (ta : TE) : TE := fun σ H Q => ta σ H fun x H1 => ∃ (l : Addr) (ns : List Int), x = .ref l ∧ SqL K H1 l (ns.map V.int) ∧ ns.length ≤ 4000 ∧ Q (.int ((ddI [] ns).length : Nat)) H1
omit [Tbl] in
theorem pe_lenSetD {X : Cx} {a : Expr} {ta : TE} {p p2 q pos : Pos} (hg : Gl X "len") (hm : X.mg "len" = none) (hg2 : Gl X "set") (hm2 : X.mg "set" = none) (ha : PE X a ta) (hc : X.calm = true)
    (na : starEach [a] X.env = (false, eval a X.env) :: starEach [] X.env) : PE X (.Call (.Name "len" p) [.Call (.Name "set" p2) [a] [] q] [] pos) (tLenSetD X.K ta) := by
  refine ⟨fun pins s σ H Q I h => ?_⟩
  refine Call_ (ld_blt I hg hm PySem.boot_len ?_)
  refine PyProof.Rows.callWith_builtin1 (PyProof.Rows.args_cons ?_ rfl) rfl rfl
  refine Call_ (ld_blt I hg2 hm2 PyProof.Rows.boot_set ?_)
  refine PyProof.Rows.callWith_type1 (PyProof.Rows.args_cons (thn (ha.run pins s σ H _ I h) fun v s1 ⟨x, H1, I1, r1, q1⟩ => PyProof.Rows.args_nil ?_) na) na rfl
  obtain ⟨l, ns, rfl, hq, hl, q1⟩ := q1
  cases r1
  obtain ⟨its, r, pl, hz⟩ := I1.list hq
  have hlen : its.toArray.size = ns.length := by rw [List.size_toArray, ← r.length, List.length_map]
  refine call_set_list (I1.ok.hd hc) pl.isList (ns := ns) (by simpa using r.ints) (by rw [hlen]; unfold scanBound; omega) fun h' tk hS hk => ?_
  refine PyProof.Rows.args_nil ?_
  rw [hlen] at hS
  have hle := PyProof.Rows.firstMet_length_le (fun i => ns.getD i 0) ns.length
  rw [first_dd] at hS hle
  obtain ⟨o, es, ep, t, ho, hex, hd, _, _, _, hf, hn⟩ := hS
  have I2 : Inv X pins σ H1 { s1 with heap := h', toks := tk } := I1.kept fun b o e => hk b o (Heap.lt_size e) e
  exact call_len_set ho hex hd hf (by rw [hn] <;> omega) ⟨.int ((ddI [] ns).length : Nat), H1, I2.tok _, ⟨_, by rw [hn]⟩, q1⟩
section
variable {X : Cx} {a : Expr} {fa : En → Option (PyData × En)} {p p2 pos2 pos : Pos}
theorem e_lset (hc : X.calm = true) (hg : Gl X "len") (hm : X.mg "len" = none) (hg2 : Gl X "set") (hm2 : X.mg "set" = none) (ha : PE X a (tE X.K fa)) (na : starEach [a] X.env = (false, eval a X.env) :: starEach [] X.env) :
    PE X (.Call (.Name "len" p) [.Call (.Name "set" p2) [a] [] pos2] [] pos) (tE X.K fun ρ => bnd (fa ρ) fun x ρ => ret (lsetD x) ρ) := by
  refine (pe_lenSetD hg hm hg2 hm2 ha hc na).wk fun σ H Q h => ?_
  obtain ⟨ρ, F, z, ρ', rep, e, q⟩ := h
  obtain ⟨x, ρ1, e1, e⟩ := bnd_eq e
  obtain ⟨z', e3, e⟩ := ret_eq e
  cases e
  refine ⟨ρ, F, x, ρ', rep, e1, fun vx F1 H1 rep1 st1 rp1 => ?_⟩
  cases rp1 <;> simp only [lsetD] at e3 <;> first | (cases e3; done) | skip
  rename_i a' vs ds h2 h3
  split at e3
  · rename_i ns hi
    split at e3
    · rename_i hl
      cases e3
      rw [ints_eq hi] at h3
      rw [h3.ints] at h2
      exact ⟨a', ns, rfl, rep1.exL h2, hl, q _ F1 H1 rep1 st1 (.int _)⟩
    · cases e3
  · cases e3
end
/-! ### tuple(range(a, b, -1)) -/
def rgN (i j : Int) : List V := (List.range (i - j).toNat).map fun (k : Nat) => V.int (i - (k : Int))
omit [Tbl] in
theorem vals_rgN {i j : Int} {acc : Array Value} (h : ItemsOf (fun k v => ∃ t, v = .int (i + k * (-1)) t) acc (i - j).toNat) : Vals (rgN i j) acc.toList := by
  have e : acc.toList.length = (i - j).toNat := by rw [Array.length_toList]; exact h.1
  unfold rgN
  rw [← e]
  refine vals_of_get acc.toList _ fun k u hk => ?_
  obtain ⟨t, rfl⟩ := h.2 k u (by rw [← hk, Array.getElem?_toList])
  exact ⟨t, by rw [Int.mul_neg, Int.mul_one, Int.sub_eq_add_neg]⟩
section
variable {X : Cx} {a b d : Expr} {fa fb fd : En → Option (PyData × En)} {p p2 pos2 pos : Pos}
theorem e_trn (hc : X.calm = true) (hg : Gl X "tuple") (hm : X.mg "tuple" = none) (hg2 : Gl X "range") (hm2 : X.mg "range" = none) (ha : PE X a (tE X.K fa)) (hb : PE X b (tE X.K fb)) (hd : PE X d (tE X.K fd)) (hdv : ∀ ρ, fd ρ = some (.int (-1), ρ))
    (na : starEach [a, b, d] X.env = (false, eval a X.env) :: starEach [b, d] X.env) (nb : starEach [b, d] X.env = (false, eval b X.env) :: starEach [d] X.env) (nd : starEach [d] X.env = (false, eval d X.env) :: starEach [] X.env) (hpl : (backTo pos2 (starEach [b, d] X.env)).any (·.1) = false)
    (nr : starEach [.Call (.Name "range" p2) [a, b, d] [] pos2] X.env = (false, eval (.Call (.Name "range" p2) [a, b, d] [] pos2) X.env) :: starEach [] X.env) :
    PE X (.Call (.Name "tuple" p) [.Call (.Name "range" p2) [a, b, d] [] pos2] [] pos) (tE X.K fun ρ => bnd (fa ρ) fun x ρ => bnd (fb ρ) fun y ρ => ret (trnD x y) ρ) := by
  refine ⟨fun pins s σ H Q I h => ?_⟩
  obtain ⟨ρ, F, z, ρ', rep, e, q⟩ := h
  obtain ⟨x, ρ1, e1, e⟩ := bnd_eq e
  obtain ⟨y, ρ2, e2, e⟩ := bnd_eq e
  obtain ⟨z', e3, e⟩ := ret_eq e
  cases e
  have hA : PA X [a, b, d] (tA X.K fun ρ => bnd (fa ρ) fun x ρ => bnd (bnd (fb ρ) fun y ρ => bnd (bnd (fd ρ) fun z ρ => bnd (some (([] : List PyData), ρ)) fun xs ρ => some (z :: xs, ρ)) fun xs ρ => some (y :: xs, ρ)) fun xs ρ => some (x :: xs, ρ)) := a_cons ha (a_cons hb (a_cons hd a_nil nd) nb) na
  refine Call_ (ld_blt I hg hm boot_tuple (PyProof.Rows.callWith_type1 (PyProof.Rows.args_cons ?_ nr) nr))
  refine Call_ (ld_blt I hg2 hm2 boot_range (PyProof.Rows.callWith_type1 (thn (hA.run pos2 pins s σ H (fun vs H1 => ∃ F1, Rep X.K ρ' σ F1 H1 ∧ StpE ρ σ F H ρ' F1 H1 ∧ RpA X.K F1 vs [x, y, .int (-1)]) I ⟨ρ, F, [x, y, .int (-1)], ρ', rep, by simp only [e1, bnd_some, e2, hdv], fun vs F1 H1 a b c => ⟨F1, a, b, c⟩⟩) fun us s1 ⟨vs, H1, I1, r1, F1, rep1, st1, rp⟩ => ?_) na hpl))
  obtain ⟨i, j, rfl, rfl⟩ : ∃ i j, x = .int i ∧ y = .int j := by
    clear rp rep1
    cases x <;> cases y <;> simp only [trnD] at e3 <;> first | (cases e3; done) | exact ⟨_, _, rfl, rfl⟩
  simp only [trnD] at e3
  split at e3
  case isFalse => cases e3
  rename_i hb
  cases e3
  cases rp with
  | cons r2 rp =>
    cases rp with
    | cons r3 rp =>
      cases rp with
      | cons r4 rp =>
        cases rp
        cases r2
        cases r3
        cases r4
        cases r1 with
        | cons u1 rr =>
          cases rr with
          | cons u2 rr =>
            cases rr with
            | cons u3 rr =>
              cases rr
              obtain ⟨t, rfl⟩ := u1
              obtain ⟨t', rfl⟩ := u2
              obtain ⟨t'', rfl⟩ := u3
              obtain ⟨c0, c1, c2, c3⟩ := L2.RgC.neg (i := i) (j := j) (by omega) (by omega) (by omega) (by omega)
              refine call_range_3 c0 ?_ (.inl (PyProof.noPylong_small c1))
              have I2 : L2.Inv X pins σ H1 { s1 with heap := s1.heap.push { cls := .type "range", data := .fields #[.int i t, .int j t', .int (-1) t''] } } := I1.kept (t' := s1.toks) fun b o e => Heap.get?_push_of_some _ e
              refine PyProof.Rows.args_nil ?_
              refine call_tuple_range (n := (i - j).toNat) (I2.ok.hd hc) (IsRange.new ..) c2 c3 (by omega) fun h' tk acc hk hi => ?_
              have I3 := I2.kept (t' := tk) hk
              refine ⟨.ref h'.objs.size, upd H1 h'.objs.size (.tup (rgN i j)), I3.laid (t' := tk) (fun c o e => Heap.get?_push_of_some _ e) (Nat.le_refl _) (show ObjOk X.prog X.w _ _ _ (.tup (rgN i j)) from ⟨?_, acc.toList, vals_rgN hi, ?_⟩), rfl, ?_⟩
              · unfold rgN
                rw [List.length_map, List.length_range, sizeLine_eq]; omega
              · rw [Array.toArray_toList]; exact IsTup.new _ _
              · have h0 : H1 h'.objs.size = none := I3.hok.fresh (Nat.le_refl _)
                refine layT rep1 (fun v F2 H2 rep2 st2 rp2 => q v F2 H2 rep2 (st1.trans st2) rp2) h0 ?_
                unfold rgN
                generalize (i - j).toNat = m
                have : ∀ l : List Nat, RpA X.K F1 (l.map fun (k : Nat) => V.int (i - (k : Int))) (l.map fun (k : Nat) => PyData.int (i - (k : Int))) := fun l => by
                  induction l with
                  | nil => exact .nil
                  | cons k l ih => exact .cons (.int _) ih
                exact this _
end
/-! ### list(x), x a list of one's own -/
section
variable {X : Cx} {i : Nat}
theorem l_ocopy {x : Str} {p px pos : Pos} (hg : Gl X "list") (hm : X.mg "list" = none) (hN : X.N[i]? = some x) (hv : Vis X.env.scope x) (hd : (x == ("__debug__" : Str)) = false) (hcd : (x == ("__classdict__" : Str)) = false) :
    PE X (.Call (.Name "list" p) [.Name x px] [] pos) (tEL X.K fun ρ => match ρ[i]? with
    | some (some (Sv.own _ xs)) => some (.list xs, ρ)
    | some (some (Sv.d y)) => ret (b1D .list y) ρ
    | _ => none) := by
  refine (pe_callTy (T := "list") call_list_of hg hm (by decide +kernel) (pa_cons (pe_var hN hv hd hcd) pa_nil rfl) (by decide +kernel) (by decide +kernel) rfl rfl).wk fun σ H Q h => ?_
  obtain ⟨ρ, F, zs, ρ', rep, e, q⟩ := h
  simp only at e
  split at e
  · rename_i bb xs hx
    cases e
    obtain ⟨p0, vs, h1, h2, h3, h4⟩ := rep.own i bb _ hx
    exact ⟨_, h1, p0, vs, rfl, .inl (SqL.of h3), fun q0 hq => q q0 _ F _ (rep.layOff hq) (StpE.layOff hq) hq (fresh_back rep.ex hq) upd_same h4⟩
  · rename_i y hx
    obtain ⟨z', e3, e⟩ := ret_eq e
    cases e
    obtain ⟨v, h1, h2⟩ := rep.dat i y hx
    refine ⟨v, h1, ?_⟩
    cases h2 <;> simp only [b1D] at e3 <;> first | (cases e3; done) | skip
    · rename_i a vs ds g1 g2
      cases e3
      exact ⟨a, vs, rfl, .inl (rep.exL g1), fun q0 hq => q q0 _ F _ (rep.layOff hq) (StpE.layOff hq) hq (fresh_back rep.ex hq) upd_same g2⟩
    · rename_i a vs ds g1 g2
      cases e3
      exact ⟨a, vs, rfl, .inr (rep.exT g1), fun q0 hq => q q0 _ F _ (rep.layOff hq) (StpE.layOff hq) hq (fresh_back rep.ex hq) upd_same g2⟩
  · cases e
end
end Wh

set_option Elab.async false
set_option linter.all false
set_option maxRecDepth 100000
set_option maxHeartbeats 1000000
set_option exponentiation.threshold 5000
/-! Wh12: from the text to the small language. -/
namespace Wh
open PySem PySem.Spec PyProof.Rows L2 Evl

/-- what a translation knows: names by slot, the scope that runs, the written one, the slots that are kept as lists of one's own, the defs that take a list first and change it, those that hand back a new list, shapes of calls; whether all may be used; calls on the exception that is held; defs that say what a lambda tells; classes that are raised -/
structure Tc where
  N : List Str
  sc : Scope
  raw : Scope
  ow : List Nat
  pf : Str → Bool
  fr : Str → Bool
  kw : Str → List Kw
  cm : Bool
  ec : Str → List Str → Option (Nat × PyData)
  sd : Str → Option (List (Str × PyData))
  cl : List Str
def plainName (x : Str) : Bool := !(x == ("__debug__" : Str)) && !(x == ("__classdict__" : Str))
def visK : Option NameKind → Bool
  | some .local => true
  | some .cell => true
  | some .free => true
  | _ => false
def slotOf (T : Tc) (x : Str) : Option Nat := match T.N.findIdx? (· == x) with
  | none => none
  | some i => if visK (T.sc.names.lookup x) && plainName x then some i else none
def glb (T : Tc) (x : Str) : Bool := (T.sc.names.lookup x == some .globalImplicit) && plainName x
def noStar : Expr → Bool
  | .Starred _ _ => false
  | _ => true
def noSlice : Expr → Bool
  | .Slice _ _ _ _ => false
  | _ => true
def noSet : Expr → Bool
  | .Set _ _ _ => false
  | _ => true
def plainTest : Expr → Bool
  | .UnaryOp .Not _ _ => false
  | .BoolOp _ _ _ => false
  | .IfExp _ _ _ _ => false
  | .Compare _ _ _ _ => false
  | _ => true
def conD : Const → Option PyData
  | .none => some PyData.none
  | .bool b => some (.bool b)
  | .int i => some (.int i)
  | .str x => some (.str x)
  | _ => none
def tyNm (x : Str) : Option Ty :=
  if x = Str.ofString "int" then some .int else if x = Str.ofString "bool" then some .bool else if x = Str.ofString "str" then some .str else if x = Str.ofString "tuple" then some .tuple else if x = Str.ofString "list" then some .list else if x = Str.ofString "dict" then some .dict else none
def b1Nm (x : Str) : Option B1 :=
  if x = Str.ofString "len" then some .len else if x = Str.ofString "abs" then some .abs else if x = Str.ofString "int" then some .int else if x = Str.ofString "all" then some .all else if x = Str.ofString "any" then some .any
  else if x = Str.ofString "repr" then some .repr else if x = Str.ofString "tuple" then some .tuple else if x = Str.ofString "list" then some .list else if x = Str.ofString "str" then some .str else if x = Str.ofString "sorted" then some .srt else if x = Str.ofString "sum" then some .sum else none
def b2Nm (x : Str) : Option B2 := if x = Str.ofString "max" then some .max else if x = Str.ofString "min" then some .min else if x = Str.ofString "divmod" then some .dvm else none
/-- the built-ins that the language knows: the module must not bind them -/
def bltNames : List String := ["len", "abs", "int", "all", "any", "repr", "tuple", "list", "isinstance", "bool", "str", "dict", "max", "min", "range", "enumerate", "zip", "sorted", "set", "divmod", "sum"]
def trA (r : Expr → Option Ep) : List Expr → Option (List Ep)
  | [] => some []
  | e :: es => match noStar e, r e, trA r es with
    | true, some a, some as => some (a :: as)
    | _, _, _ => none
def trOp (r : Expr → Option Ep) : Option Expr → Option (Option Ep)
  | none => some none
  | some e => match r e with
    | some a => some (some a)
    | none => none
def trB (r : Expr → Option Ep) (op : BoolOp) : List Expr → Option Ep
  | [] => none
  | [e] => r e
  | e :: f :: es => match r e, trB r op (f :: es) with
    | some a, some b => match op with
      | .And => some (.and a b)
      | .Or => some (.or a b)
    | _, _ => none
def trBT (r : Expr → Option Tp) (op : BoolOp) : List Expr → Option Tp
  | [] => none
  | [e] => r e
  | e :: f :: es => match r e, trBT r op (f :: es) with
    | some a, some b => match op with
      | .And => some (.and a b)
      | .Or => some (.or a b)
    | _, _ => none
def locK (T : Tc) (x : Str) : Bool := ((T.raw.names.lookup x == some .local) && (T.sc.names.lookup x == some .local)) || ((T.raw.names.lookup x == some .cell) && (T.sc.names.lookup x == some .cell))
def trG (T : Tc) : Nat → Expr → Option Tg
  | 0, _ => none
  | n + 1, .Name x _ => match T.N.findIdx? (· == x) with
    | some i => if locK T x then some (.name i) else none
    | none => none
  | n + 1, .Tuple es _ _ => match es.mapM (fun e => if noStar e then trG T n e else none) with
    | some ts => if T.cm then some (.tup ts) else none
    | none => none
  | _, _ => none
def isTup : Expr → Bool
  | .Tuple _ _ _ => true
  | _ => false
def trI (r : Expr → Option Ep) (T : Tc) (tg : Expr) : Expr → Option It'
  | .Call (.Name f p) args [] pos =>
    if f = Str.ofString "range" then
      (if glb T f then match args with
        | [a] => if noStar a then (r a).map .rng1 else none
        | [a, b] => match noStar a, noStar b, r a, r b with
          | true, true, some x, some y => some (.rng2 x y)
          | _, _, _, _ => none
        | _ => none
      else none)
    else if f = Str.ofString "zip" then
      (if glb T f && isTup tg then match args with
        | [a, b] => match noStar a, noStar b, r a, r b with
          | true, true, some x, some y => some (.zip x y)
          | _, _, _, _ => none
        | [a, b, d] => match noStar a, noStar b, noStar d, r a, r b, r d with
          | true, true, true, some x, some y, some z => some (.zip3 x y z)
          | _, _, _, _, _, _ => none
        | _ => none
      else none)
    else if f = Str.ofString "enumerate" then
      (if glb T f && isTup tg then match args with
        | [a] => match noStar a, r a with
          | true, some x => some (.enum x)
          | _, _ => none
        | _ => none
      else none)
    else (r (.Call (.Name f p) args [] pos)).map .seq
  | .Call (.Name f p) [a, b] [⟨some k, .Constant (.bool true) j cp, kp⟩] pos =>
    if f = Str.ofString "zip" ∧ k = Str.ofString "strict" then
      (if glb T f && isTup tg then match noStar a, noStar b, r a, r b with
        | true, true, some x, some y => some (.zips x y)
        | _, _, _, _ => none
      else none)
    else none
  | e => if noSet e then (r e).map .seq else none
/-- a list of one's own that is lent, not given away (it stands twice in ow) -/
def lentS (T : Tc) (i : Nat) : Bool := decide (2 ≤ T.ow.count i)
def lentArg (T : Tc) : List Expr → Option Nat
  | [] => none
  | .Name x _ :: es => match slotOf T x with
    | some i => if lentS T i then some i else lentArg T es
    | none => lentArg T es
  | _ :: es => lentArg T es
def lendW (o : Option Nat) (x : Ep) : Ep := match o with
  | some j => .lend j x
  | none => x
def trCall (r : Expr → Option Ep) (T : Tc) (f : Str) (args : List Expr) : Option Ep :=
  if !glb T f then none
  else if f = Str.ofString "isinstance" then match args with
    | [a, .Name t _] => match tyNm t, noStar a, glb T t, r a with
      | some ty, true, true, some x => some (.b1 (.isi ty) x)
      | _, _, _, _ => none
    | _ => none
  else if !T.cm then none
  else match b1Nm f with
    | some b => match args with
      | [a] => match noStar a, r a with
        | true, some x => some (.b1 b x)
        | _, _ => none
      | _ => none
    | none => match b2Nm f with
      | some b => match args with
        | [a, d] => match noStar a, noStar d, r a, r d with
          | true, true, some x, some y => some (.b2 b x y)
          | _, _, _, _ => none
        | _ => none
      | none => if T.pf f then match args with
          | .Name y _ :: es => match slotOf T y, trA r es, koK (T.kw f) with
            | some i, some xs, false => some (lendW (lentArg T es) (.callp f i xs))
            | _, _, _ => none
          | _ => none
        else match (T.kw f).find? (fun sh => sh.ks.isEmpty && sh.n == args.length) with
          | some sh => match args with
            | _ :: _ => (trA r args).map fun xs => .callk f xs sh.ix
            | [] => none
          | none => match trA r args, koK (T.kw f) with
            | some xs, false => some (lendW (lentArg T args) (.call f xs))
            | _, _ => none
def sameKs : List Keyword → List Str → Bool
  | [], [] => true
  | k :: kws, x :: ks => (k.arg == some x) && noStar k.value && sameKs kws ks
  | _, _ => false
/-- f(a, .., k = v, ..) -/
def trCallK (r : Expr → Option Ep) (T : Tc) (f : Str) (args : List Expr) (kws : List Keyword) : Option Ep :=
  if !(T.cm && glb T f) then none
  else match (T.kw f).find? (fun sh => sameKs kws sh.ks && sh.n == args.length) with
    | some sh => match trA r args, trA r (kws.map (·.value)) with
      | some xs, some ys => some (.callk f (xs ++ ys) sh.ix)
      | _, _ => none
    | none => none
def noCall0 : Expr → Bool
  | .Call (.Name _ _) [] [] _ => false
  | _ => true
def trNest (r : Expr → Option Ep) (T : Tc) (f : Str) (args : List Expr) : Option Ep := match args with
  | [.Call (.Name g _) [a, b, .UnaryOp .USub (.Constant (.int 1) _ _) _] [] _] =>
    if f = Str.ofString "tuple" ∧ g = Str.ofString "range" then (if T.cm && (glb T f && glb T g && noStar a && noStar b) then match r a, r b with
      | some x, some y => some (.trn x y)
      | _, _ => none
      else none) else none
  | [.Call (.Name g _) [a] [] _] =>
    if f = Str.ofString "sorted" ∧ g = Str.ofString "set" then (if T.cm && (glb T f && glb T g && noStar a) then (r a).map .srs else none)
    else if f = Str.ofString "tuple" ∧ g = Str.ofString "range" then (if T.cm && (glb T f && glb T g && noStar a) then (r a).map .trg else none)
    else if f = Str.ofString "dict" ∧ g = Str.ofString "list" then match a with
      | .Call (.Attribute o m pa) [] [] pc => if m = Str.ofString "items" ∧ (T.cm && (glb T f && glb T g && noCall0 o && (pa.endLine == pc.line))) = true then (r o).map .ddup else none
      | _ => none
    else if f = Str.ofString "len" ∧ g = Str.ofString "set" then (if T.cm && (glb T f && glb T g && noStar a) then (r a).map .lset else none)
    else none
  | [.Name x _] => if f = Str.ofString "len" ∧ glb T f = true then match slotOf T x with
      | some i => if T.ow.contains i then some (.olen i) else none
      | none => none
    else if f = Str.ofString "list" ∧ (T.cm && glb T f) = true then match slotOf T x with
      | some i => if lentS T i then some (.ocopy i) else none
      | none => none
    else none
  | _ => none
def trNil (T : Tc) (a : Expr) (o : COp) : Option Ep := match a with
  | .Name x _ => match slotOf T x with
    | some i => if lentS T i then some (.lend i (.cmp o (.var i) (.lst []))) else none
    | none => none
  | _ => none
def trIn (r : Expr → Option Ep) (T : Tc) (a : Expr) (o : CmpOp) (b : Expr) : Option Ep := match o, b with
  | .Eq, .List [] _ => trNil T a .eq
  | .NotEq, .List [] _ => trNil T a .ne
  | .In, .Name x _ => match slotOf T x with
    | some i => if T.ow.contains i then (r a).map fun y => .oin false y i else none
    | none => none
  | .NotIn, .Name x _ => match slotOf T x with
    | some i => if T.ow.contains i then (r a).map fun y => .oin true y i else none
    | none => none
  | .In, .Call (.Attribute o m pa) [] [] pc => if m = Str.ofString "values" ∧ (T.cm && (noCall0 o && (pa.endLine == pc.line))) = true then match r a, r o with
      | some x, some y => some (.vin x y)
      | _, _ => none
    else none
  | _, _ => none
def glbName (T : Tc) : Expr → Option Str
  | .Name x _ => match slotOf T x with
    | some _ => none
    | none => if glb T x then some x else none
  | _ => none
def isZero : Expr → Bool
  | .Constant (.int 0) _ _ => true
  | _ => false
/-- x.pop(0), x a list of one's own -/
def trPop (T : Tc) (o : Expr) (m : Str) (pa : Pos) (args : List Expr) (pos : Pos) : Option Ep := match o, args with
  | .Name x _, [a] => if m = Str.ofString "pop" ∧ (isZero a && (pa.endLine == pos.line)) = true then match slotOf T x with
      | some i => if T.ow.contains i then some (.opop i) else none
      | none => none
    else none
  | .Name x _, [] => if m = Str.ofString "pop" ∧ (pa.endLine == pos.line) = true then match slotOf T x with
      | some i => if T.ow.contains i then some (.opope i) else none
      | none => none
    else none
  | _, _ => none
def trMeth (r : Expr → Option Ep) (T : Tc) (o : Expr) (m : Str) (pa : Pos) (args : List Expr) (pos : Pos) : Option Ep := match args with
  | [a] => match noStar a, pa.endLine == pos.line, r a with
    | true, true, some y =>
      if m = Str.ofString "get" then (glbName T o).map fun x => .gget x y
      else if m = Str.ofString "count" then (if noCall0 o then (r o).map fun x => .cnt x y else none)
      else if m = Str.ofString "index" then (if noCall0 o then (r o).map fun x => .idx x y else none)
      else none
    | _, _, _ => none
  | _ => none
def ownOf (T : Tc) (scope : Scope) : List (Str × Nat) := scope.names.filterMap fun y => if y.2 == .local || y.2 == .cell then (T.N.findIdx? (· == y.1)).map fun i => (y.1, i) else none
def blkT (T : Tc) (scope : Scope) : Tc := { T with sc := relS scope T.sc, raw := scope, ec := fun _ _ => none, sd := fun _ => none }
def trTs (r : Expr → Option Tp) : List Expr → Option (List Tp)
  | [] => some []
  | [t] => (r t).map fun x => [x]
  | _ => none
def trComp (rE : Tc → Expr → Option Ep) (rT : Tc → Expr → Option Tp) (T : Tc) (elt : Expr) (gens : List Comprehension) (scope : Scope) : Option Ep := match gens with
  | [⟨tg, iter, ifs, 0⟩] => match trI (rE T) T tg iter, trG (blkT T scope) 8 tg, trTs (rT (blkT T scope)) ifs, rE (blkT T scope) elt with
    | some it, some t, some cs, some x => if T.cm && blkC T.N T.sc scope (ownOf T scope) && (slotsT t).all (fun j => ((ownOf T scope).map (·.2)).contains j) && noSet iter then some (.comp x t it cs ((ownOf T scope).map (·.2))) else none
    | _, _, _, _ => none
  | [⟨tg, iter, ifs, 0⟩, ⟨tg2, iter2, ifs2, 0⟩] => match trI (rE T) T tg iter, trG (blkT T scope) 8 tg, trTs (rT (blkT T scope)) ifs, rE (blkT T scope) elt with
    | some it, some t, some cs, some x => match trI (rE (blkT T scope)) (blkT T scope) tg2 iter2, trG (blkT T scope) 8 tg2, trTs (rT (blkT T scope)) ifs2 with
      | some it2, some t2, some cs2 => if T.cm && blkC T.N T.sc scope (ownOf T scope) && (slotsT t).all (fun j => ((ownOf T scope).map (·.2)).contains j) && (slotsT t2).all (fun j => ((ownOf T scope).map (·.2)).contains j) && noSet iter && noSet iter2 then some (.comp2 x t it cs t2 it2 cs2 ((ownOf T scope).map (·.2)) (slotsT t2)) else none
      | _, _, _ => none
    | _, _, _, _ => none
  | _ => none
/-- {k: v for ..} -/
def trDComp (rE : Tc → Expr → Option Ep) (rT : Tc → Expr → Option Tp) (T : Tc) (kx vx : Expr) (gens : List Comprehension) (scope : Scope) : Option Ep := match gens with
  | [⟨tg, iter, ifs, 0⟩] => match trI (rE T) T tg iter, trG (blkT T scope) 8 tg, trTs (rT (blkT T scope)) ifs, rE (blkT T scope) kx, rE (blkT T scope) vx with
    | some it, some t, some cs, some x, some y => if T.cm && blkC T.N T.sc scope (ownOf T scope) && (slotsT t).all (fun j => ((ownOf T scope).map (·.2)).contains j) && noSet iter then some (.dcomp x y t it cs ((ownOf T scope).map (·.2))) else none
    | _, _, _, _, _ => none
  | _ => none
/-- sorted({x for ..}) -/
def trSComp (rE : Tc → Expr → Option Ep) (rT : Tc → Expr → Option Tp) (T : Tc) (f : Str) (args : List Expr) : Option Ep := match args with
  | [.SetComp elt [⟨tg, iter, ifs, 0⟩] scope _] => match trI (rE T) T tg iter, trG (blkT T scope) 8 tg, trTs (rT (blkT T scope)) ifs, rE (blkT T scope) elt with
    | some it, some t, some cs, some x => if f = Str.ofString "sorted" ∧ (T.cm && glb T f && blkC T.N T.sc scope (ownOf T scope) && (slotsT t).all (fun j => ((ownOf T scope).map (·.2)).contains j) && noSet iter) = true then some (.scomp x t it cs ((ownOf T scope).map (·.2))) else none
    | _, _, _, _ => none
  | _ => none
def namesOf : List Expr → Option (List Str)
  | [] => some []
  | .Name x _ :: es => (namesOf es).map (x :: ·)
  | _ => none
def trEc (T : Tc) (f : Expr) (args : List Expr) (kws : List Keyword) : Option (Nat × PyData) := match f, kws, namesOf args with
  | .Name f _, [], some ns => T.ec f ns
  | _, _, _ => none
/-- a lambda's own -/
def lamT (T : Tc) (scope : Scope) : Tc := { T with sc := scope, raw := scope, ow := [], cm := false, ec := fun _ _ => none, sd := fun _ => none }
def noPar (p : Arguments) : Bool := p.posonlyargs.isEmpty && p.args.isEmpty && p.vararg.isNone && p.kwonlyargs.isEmpty && p.kwarg.isNone && p.defaults.isEmpty && p.kw_defaults.isEmpty
/-- x(lambda: f(a, ..)) -/
def trSaid (rE : Tc → Expr → Option Ep) (T : Tc) (x : Str) (args : List Expr) : Option Ep := match T.sd x, args with
  | some ws, [.Lambda params (.Call (.Name f _) (a :: as) [] _) scope _] =>
    if T.cm && glb T x && noPar params && LamX.lamSB T.sc scope && glb (lamT T scope) f && !T.pf f && !koK (T.kw f) then (trA (rE (lamT T scope)) (a :: as)).map (.said x ws f) else none
  | some ws, [.Lambda params (.Call (.Name f _) (a :: as) (k :: kws) _) scope _] =>
    if T.cm && glb T x && noPar params && LamX.lamSB T.sc scope && glb (lamT T scope) f then match (T.kw f).find? (fun sh => sameKs (k :: kws) sh.ks && sh.n == (a :: as).length) with
      | some sh => match trA (rE (lamT T scope)) (a :: as), trA (rE (lamT T scope)) ((k :: kws).map (·.value)) with
        | some xs, some ys => some (.saidk x ws f (xs ++ ys) sh.ix)
        | _, _ => none
      | none => none
    else none
  | _, _ => none
def stepE (rE : Tc → Expr → Option Ep) (rT : Tc → Expr → Option Tp) (T : Tc) : Expr → Option Ep
  | .Constant k _ _ => (conD k).map .con
  | .Name x _ => match slotOf T x with
    | some i => some (.var i)
    | none => if glb T x then some (.glob x) else none
  | .BinOp a o b _ => match o, a with
    | .Mult, .List es _ => match trA (rE T) es, rE T b with
      | some xs, some y => some (.repl xs y)
      | _, _ => none
    | _, _ => match opOf o, rE T a, rE T b with
      | some bo, some x, some y => some (.bin bo x y)
      | _, _, _ => none
  | .UnaryOp .USub a _ => (rE T a).map .neg
  | .UnaryOp .Not a _ => (rE T a).map .not
  | .Compare a ops cs _ => match ops, cs with
    | [o], [b] => match trIn (rE T) T a o b with
      | some z => some z
      | none => match cmpOf o, rE T a, rE T b with
        | some co, some x, some y => if behindInMarks o b then none else some (.cmp co x y)
        | _, _, _ => none
    | [o, o'], [b, d] => match cmpOf o, cmpOf o', rE T a, rE T b, rE T d with
      | some co, some co', some x, some y, some z => if lastMarks [o, o'] [b, d] then none else some (.chain co co' x y z)
      | _, _, _, _, _ => none
    | _, _ => none
  | .BoolOp op vs _ => match vs with
    | a :: b :: r => trB (rE T) op (a :: b :: r)
    | _ => none
  | .IfExp t a b _ => match rT T t, rE T a, rE T b with
    | some c, some x, some y => some (.ite c x y)
    | _, _, _ => none
  | .Tuple es _ _ => (trA (rE T) es).map .tup
  | .List es _ => (trA (rE T) es).map .lst
  | .Subscript a s _ => match s with
    | .Slice lo hi none _ => match rE T a, trOp (rE T) lo, trOp (rE T) hi with
      | some x, some l, some h => some (.sl x l h)
      | _, _, _ => none
    | .Slice none none (some (.UnaryOp .USub (.Constant (.int 1) _ _) _)) _ => (rE T a).map .rev
    | _ => if noSlice s then match a with
        | .Name x _ => match slotOf T x with
          | some i => if T.ow.contains i then (rE T s).map (.oix i) else (rE T s).map (.ix (.var i))
          | none => match glb T x, rE T s with
            | true, some y => some (.ix (.glob x) y)
            | _, _ => none
        | _ => match rE T a, rE T s with
          | some x, some y => some (.ix x y)
          | _, _ => none
      else none
  | .Call f args kws pos => match trEc T f args kws with
    | some (i, d) => some (.xcon i d)
    | none => match f, kws with
      | .Name f _, [] => match trSaid rE T f args with
        | some x => some x
        | none => match trSComp rE rT T f args with
          | some x => some x
          | none => match trNest (rE T) T f args with
            | some x => some x
            | none => trCall (rE T) T f args
      | .Name f _, k :: kws => trCallK (rE T) T f args (k :: kws)
      | .Attribute o m pa, [] => match trPop T o m pa args pos with
        | some x => some x
        | none => trMeth (rE T) T o m pa args pos
      | _, _ => none
  | .ListComp elt gens scope _ => trComp rE rT T elt gens scope
  | .DictComp kx vx gens scope _ => trDComp rE rT T kx vx gens scope
  | .Attribute _ _ _ => some .bad
  | .Dict ks vs _ => match ks, vs with
    | [], [] => some .dct0
    | [some a], [b] => match rE T a, rE T b with
      | some x, some y => some (.dct1 x y)
      | _, _ => none
    | _, _ => none
  | _ => none
def stepT (rE : Tc → Expr → Option Ep) (rT : Tc → Expr → Option Tp) (T : Tc) (e : Expr) : Option Tp := match e with
  | .UnaryOp .Not a _ => (rT T a).map .not
  | .BoolOp op vs _ => trBT (rT T) op vs
  | .IfExp _ _ _ _ => none
  | .Compare a ops cs _ => match ops, cs with
    | [o], [b] => match trIn (rE T) T a o b with
      | some z => some (.leaf z)
      | none => match cmpOf o, rE T a, rE T b with
        | some co, some x, some y => if behindInMarks o b then none else some (.leaf (.cmp co x y))
        | _, _, _ => none
    | [o, o'], [b, d] => match cmpOf o, cmpOf o', rE T a, rE T b, rE T d with
      | some co, some co', some x, some y, some z => if lastMarks [o, o'] [b, d] then none else some (.leaf (.chain co co' x y z))
      | _, _, _, _, _ => none
    | _, _ => none
  | e => if plainTest e then (rE T e).map .leaf else none
def trs : Nat → (Tc → Expr → Option Ep) × (Tc → Expr → Option Tp)
  | 0 => (fun _ _ => none, fun _ _ => none)
  | n + 1 => (stepE (trs n).1 (trs n).2, stepT (trs n).1 (trs n).2)
/-- is it a new list? -/
def fresh (T : Tc) : Ep → Bool
  | .lst _ => true
  | .repl _ _ => true
  | .comp _ _ _ _ _ => true
  | .comp2 _ _ _ _ _ _ _ _ _ => true
  | .ocopy _ => true
  | .call f es => T.fr f && !es.isEmpty
  | .bin .add _ _ => true
  | .b1 .list _ => true
  | .srs _ => true
  | .scomp _ _ _ _ _ => true
  | _ => false
/-- is it a new dict? -/
def freshK : Ep → Bool
  | .dcomp _ _ _ _ _ _ => true
  | .ddup _ => true
  | .dct0 => true
  | _ => false
end Wh

set_option Elab.async false
set_option linter.all false
set_option maxRecDepth 100000
set_option maxHeartbeats 2000000
set_option exponentiation.threshold 5000
/-! Wh13: the translation of expressions is sound. -/
namespace Wh
open PySem PySem.Spec PyProof.Rows L2 Evl
variable [Tbl]

/-- what a context must bring -/
structure Ct (X : Cx) (c : Cfg) (k : Nat) (T : Tc) : Prop where
  hN : X.N = T.N
  hsc : X.env.scope = T.sc
  nd : T.N.Nodup
  kind : T.sc.kind = .function
  calm : T.cm = true → X.calm = true
  gd : X.A.guards = some []
  room : T.cm = true → Room (k + 5) X.A
  un : X.A.units + 64 < cLine
  xe : X.xe = fun _ _ => False
  call : CallOk X c.call T.kw k
  callL : CallOkL X c.call T.fr T.kw k
  callK : CallOkK X c.call T.kw k
  glob : GlobOk X.K X.w X.mg c.glob
  blt : ∀ b ∈ bltNames, X.mg (Str.ofString b) = none
  fn : ∀ x, T.raw.names.lookup x = some .cell → X.fn x = true
  exc : CallOkX X c.exc T.kw k
  excK : CallOkXK X c.exc T.kw k
  said : ∀ x ws, T.sd x = some ws → SaysTo X x ws
  ec : ∀ f ns i d, T.ec f ns = some (i, d) → ∀ (args : List Expr) (p pos : Pos), namesOf args = some ns → PE X (.Call (.Name f p) args [] pos) (tE X.K fun ρ => match ρ[i]? with
    | some (some .x) => some (d, ρ)
    | _ => none)

section
variable {X : Cx} {c : Cfg} {k : Nat} {T : Tc}
theorem findIdx_get {N : List Str} {x : Str} {i : Nat} (h : N.findIdx? (· == x) = some i) : N[i]? = some x := by
  obtain ⟨hi, h1, _⟩ := List.findIdx?_eq_some_iff_getElem.mp h
  rw [List.getElem?_eq_getElem hi]
  simp only [beq_iff_eq] at h1
  rw [h1]
theorem vis_of {sc : Scope} {x : Str} (h : visK (sc.names.lookup x) = true) : Vis sc x := by
  unfold visK at h
  split at h
  · exact .inl (by assumption)
  · exact .inr (.inl (by assumption))
  · exact .inr (.inr (by assumption))
  · cases h
theorem plain_of {x : Str} (h : plainName x = true) : (x == ("__debug__" : Str)) = false ∧ (x == ("__classdict__" : Str)) = false := by
  unfold plainName at h
  simpa using h
theorem slot_of (C : Ct X c k T) {x : Str} {i : Nat} (h : slotOf T x = some i) : X.N[i]? = some x ∧ Vis X.env.scope x ∧ (x == ("__debug__" : Str)) = false ∧ (x == ("__classdict__" : Str)) = false := by
  unfold slotOf at h
  split at h
  · cases h
  · rename_i j hj
    split at h
    · rename_i hc
      cases h
      rw [Bool.and_eq_true] at hc
      refine ⟨by rw [C.hN]; exact findIdx_get hj, by rw [C.hsc]; exact vis_of hc.1, plain_of hc.2⟩
    · cases h
theorem gl_of (C : Ct X c k T) {x : Str} (h : glb T x = true) : Gl X x ∧ (x == ("__debug__" : Str)) = false := by
  unfold glb at h
  rw [Bool.and_eq_true] at h
  refine ⟨?_, (plain_of h.2).1⟩
  show X.env.scope.names.lookup x = _
  rw [C.hsc]
  exact beq_iff_eq.mp h.1
theorem star_of {e : Expr} {es : List Expr} (env : PySem.Env) (h : noStar e = true) : starEach (e :: es) env = (false, eval e env) :: starEach es env := by
  cases e <;> first | rfl | (simp [noStar] at h)
theorem ix_plain {b : Expr} (h : noSlice b = true) : PlainIx b := by
  intro o i
  cases b <;> first | rfl | (simp [noSlice] at h)
theorem set_fold {e : Expr} (env : PySem.Env) (h : noSet e = true) : ∀ x, foldedSetIterable e env x = pure x := by
  intro x
  cases e <;> first | rfl | (simp [noSet] at h)
theorem test_plain {e : Expr} {env : PySem.Env} (h : plainTest e = true) : ∀ whole, isTrue e env whole = (do let v ← whole; standAt e.pos; holding [v] (truthy v)) := by
  intro whole
  cases e with
  | UnaryOp op a p => cases op <;> first | rfl | (simp [plainTest] at h)
  | BoolOp _ _ _ => simp [plainTest] at h
  | IfExp _ _ _ _ => simp [plainTest] at h
  | Compare _ _ _ _ => simp [plainTest] at h
  | _ => rfl

/-! what the recursion brings -/
def SE (c : Cfg) (k : Nat) (r : Tc → Expr → Option Ep) : Prop := ∀ {X : Cx} {T : Tc}, Ct X c k T → ∀ {e : Expr} {x : Ep}, r T e = some x → PE X e (tE X.K (ev c x))
def ST (c : Cfg) (k : Nat) (r : Tc → Expr → Option Tp) : Prop := ∀ {X : Cx} {T : Tc}, Ct X c k T → ∀ {e : Expr} {x : Tp}, r T e = some x → PT X e (tT X.K (evT c x))
variable {rE : Tc → Expr → Option Ep} {rT : Tc → Expr → Option Tp}
theorem a_of (hE : SE c k rE) (C : Ct X c k T) : ∀ {es : List Expr} {xs : List Ep}, trA (rE T) es = some xs → PA X es (tA X.K (evs c xs)) ∧ (∀ pos, (backTo pos (starEach es X.env)).any (·.1) = false) ∧ (∀ e r, es = e :: r → noStar e = true)
  | [], xs, h => by
    simp only [trA] at h
    cases h
    exact ⟨a_nil, fun _ => rfl, fun _ _ z => by cases z⟩
  | e :: es, xs, h => by
    simp only [trA] at h
    split at h
    · rename_i a as h1 h2 h3
      cases h
      obtain ⟨ih, ih2, _⟩ := a_of hE C h3
      have hs := star_of (es := es) X.env h1
      refine ⟨a_cons (hE C h2) ih hs, fun pos => ?_, fun e' r z => by cases z; exact h1⟩
      rw [hs]
      show (false || (backTo pos (starEach es X.env)).any (·.1)) = false
      rw [ih2 pos]; rfl
    · cases h
theorem evs_len : ∀ {xs : List Ep} {ρ ρ' : En} {ys : List PyData}, evs c xs ρ = some (ys, ρ') → ys.length = xs.length
  | [], _, _, _, h => by simp only [evs] at h; cases h; rfl
  | x :: xs, ρ, ρ', ys, h => by
    simp only [evs] at h
    obtain ⟨y, ρ1, e1, h⟩ := bnd_eq h
    obtain ⟨zs, ρ2, e2, h⟩ := bnd_eq h
    cases h
    simp [evs_len e2]
theorem b_of (hE : SE c k rE) (C : Ct X c k T) {op : BoolOp} {pos : Pos} : ∀ {es : List Expr} {x : Ep}, trB (rE T) op es = some x → PE X (.BoolOp op es pos) (tE X.K (ev c x))
  | [], x, h => by simp only [trB] at h; cases h
  | [e], x, h => by
    simp only [trB] at h
    exact pe_one (hE C h)
  | e :: f :: es, x, h => by
    simp only [trB] at h
    split at h
    · rename_i a b h1 h2
      have ih := b_of hE C (op := op) (pos := pos) h2
      cases op with
      | And =>
        cases h
        exact e_and (hE C h1) ih
      | Or =>
        cases h
        exact e_or (hE C h1) ih
    · cases h
theorem bt_of (hT : ST c k rT) (C : Ct X c k T) {op : BoolOp} {pos : Pos} : ∀ {es : List Expr} {x : Tp}, trBT (rT T) op es = some x → PW X (.BoolOp op es pos) (tT X.K (evT c x))
  | [], x, h => by simp only [trBT] at h; cases h
  | [e], x, h => by
    simp only [trBT] at h
    cases op with
    | And => exact pw_and1 (hT C h)
    | Or => exact pw_or1 (hT C h)
  | e :: f :: es, x, h => by
    simp only [trBT] at h
    split at h
    · rename_i a b h1 h2
      have ih := bt_of hT C (op := op) (pos := pos) h2
      cases op with
      | And =>
        cases h
        exact t_and (hT C h1) ih
      | Or =>
        cases h
        exact t_or (hT C h1) ih
    · cases h
theorem o_of (hE : SE c k rE) (C : Ct X c k T) : ∀ {e : Option Expr} {x : Option Ep}, trOp (rE T) e = some x → PO X e (tO X.K (evO c x))
  | none, x, h => by
    simp only [trOp] at h
    cases h
    exact o_none
  | some e, x, h => by
    simp only [trOp] at h
    split at h
    · rename_i a h1
      cases h
      exact o_some (hE C h1)
    · cases h
/-! targets -/
theorem loc_of (C : Ct X c k T) {x : Str} (h : locK T x = true) : Loc X.env.scope x ∧ (X.fn x = true ∨ X.env.scope.names.lookup x = some .local) := by
  unfold locK at h
  rw [C.hsc]
  simp only [Bool.or_eq_true, Bool.and_eq_true, beq_iff_eq] at h
  rcases h with ⟨h1, h2⟩ | ⟨h1, h2⟩
  · exact ⟨.inl h2, .inr h2⟩
  · exact ⟨.inr h2, .inl (C.fn x h1)⟩
theorem assign_star {e : Expr} {es : List Expr} (env : PySem.Env) (h : noStar e = true) : assignEach (e :: es) env = (false, assign e env) :: assignEach es env := by
  cases e <;> first | rfl | (simp [noStar] at h)
theorem g_of (C : Ct X c k T) : ∀ {n : Nat} {e : Expr} {t : Tg}, trG T n e = some t → PG X e (tG X.K (slotsT t) (bindT t))
  | 0, e, t, h => by simp only [trG] at h; cases h
  | n + 1, e, t, h => by
    cases e with
    | Name x p =>
      simp only [trG] at h
      split at h
      · rename_i i hi
        split at h
        · rename_i hl
          cases h
          obtain ⟨h1, h2⟩ := loc_of C hl
          exact g_name (by rw [C.hN]; exact C.nd) (by rw [C.hN]; exact findIdx_get hi) h1 h2
        · cases h
      · cases h
    | Tuple es kk p =>
      simp only [trG] at h
      split at h
      · rename_i ts hts
        by_cases hcm : T.cm = true
        case neg =>
          rw [if_neg hcm] at h
          cases h
        rw [if_pos hcm] at h
        cases h
        have key : ∀ {es : List Expr} {ts : List Tg}, es.mapM (fun e => if noStar e then trG T n e else none) = some ts → PGs X es (tGs X.K (slotsTs ts) (bindTs ts)) ∧ (assignEach es X.env).length = ts.length ∧ (assignEach es X.env).findIdx? (·.1) = none := by
          intro es
          induction es with
          | nil =>
            intro ts h
            simp only [List.mapM_nil] at h
            cases h
            exact ⟨gs_nil, rfl, rfl⟩
          | cons e es ih =>
            intro ts h
            rw [List.mapM_cons] at h
            cases hn : noStar e with
            | false => rw [hn] at h; cases h
            | true =>
              rw [hn] at h
              simp only [if_true] at h
              cases hg : trG T n e with
              | none => rw [hg] at h; cases h
              | some t =>
                rw [hg] at h
                cases hm : es.mapM (fun e => if noStar e then trG T n e else none) with
                | none => simp only [hm] at h; cases h
                | some ts' =>
                  simp only [hm] at h
                  cases h
                  obtain ⟨i1, i2, i3⟩ := ih hm
                  have ha := assign_star (es := es) X.env hn
                  refine ⟨gs_cons (g_of C hg) i1 (by rw [ha]; rfl), by rw [ha]; simp [i2], ?_⟩
                  rw [ha, List.findIdx?_cons]
                  simp [i3]
        obtain ⟨k1, k2, k3⟩ := key hts
        exact g_tup (C.calm hcm) k1 k2 k3
      · cases h
    | _ => simp only [trG] at h; cases h
/-! what is walked -/
theorem blt_of (C : Ct X c k T) {b : String} (h : b ∈ bltNames) : X.mg (Str.ofString b) = none := C.blt b h
theorem i_of (hE : SE c k rE) (C : Ct X c k T) {tg e : Expr} {x : It'} (h : trI (rE T) T tg e = some x) : PI X tg e (tIt X.K (evI c x)) := by
  have seq : ∀ {e : Expr} {x : It'}, (rE T e).map It'.seq = some x → PI X tg e (tIt X.K (evI c x)) := fun {e x} h => by
    obtain ⟨y, h1, h2⟩ := Option.map_eq_some_iff.mp h
    subst h2
    exact i_seq (hE C h1)
  unfold trI at h
  split at h
  · rename_i f p args pos
    split at h
    · rename_i hf
      subst hf
      split at h
      · rename_i hg
        obtain ⟨g1, _⟩ := gl_of C hg
        split at h
        · rename_i a
          split at h
          · rename_i hs
            obtain ⟨y, h1, h2⟩ := Option.map_eq_some_iff.mp h
            subst h2
            exact i_rng1 g1 (blt_of C (by decide)) (hE C h1) (star_of X.env hs)
          · cases h
        · rename_i a b
          split at h
          · rename_i x y s1 s2 h1 h2
            cases h
            exact i_rng2 g1 (blt_of C (by decide)) (hE C h1) (hE C h2) (star_of X.env s1) (star_of X.env s2)
          · cases h
        · cases h
      · cases h
    · split at h
      · rename_i hf
        subst hf
        split at h
        · rename_i hg
          rw [Bool.and_eq_true] at hg
          obtain ⟨g1, _⟩ := gl_of C hg.1
          split at h
          · rename_i a b
            split at h
            · rename_i x y s1 s2 h1 h2
              cases h
              cases tg <;> first | (cases hg.2; done) | skip
              exact i_zip g1 (blt_of C (by decide)) (hE C h1) (hE C h2) (star_of X.env s1) (star_of X.env s2)
            · cases h
          · rename_i a b d
            split at h
            · rename_i x y z s1 s2 s3 h1 h2 h3
              cases h
              cases tg <;> first | (cases hg.2; done) | skip
              exact i_zip3 g1 (blt_of C (by decide)) (hE C h1) (hE C h2) (hE C h3) (star_of X.env s1) (star_of X.env s2) (star_of X.env s3)
            · cases h
          · cases h
        · cases h
      · split at h
        · rename_i hf
          subst hf
          split at h
          · rename_i hg
            rw [Bool.and_eq_true] at hg
            obtain ⟨g1, _⟩ := gl_of C hg.1
            split at h
            · rename_i a
              split at h
              · rename_i x s1 h1
                cases h
                cases tg <;> first | (cases hg.2; done) | skip
                exact i_enum g1 (blt_of C (by decide)) (hE C h1) (star_of X.env s1)
              · cases h
            · cases h
          · cases h
        · exact seq h
  · rename_i f p a b kw j cp kp pos
    split at h
    · rename_i hf
      obtain ⟨rfl, rfl⟩ := hf
      split at h
      · rename_i hg
        rw [Bool.and_eq_true] at hg
        obtain ⟨g1, _⟩ := gl_of C hg.1
        split at h
        · rename_i x y s1 s2 h1 h2
          cases h
          cases tg <;> first | (cases hg.2; done) | skip
          exact i_zips g1 (blt_of C (by decide)) (hE C h1) (hE C h2) (star_of X.env s1) (star_of X.env s2)
        · cases h
      · cases h
    · cases h
  · split at h
    · exact seq h
    · cases h
/-! calls -/
theorem tyNm_of {x : Str} {t : Ty} (h : tyNm x = some t) : x = Str.ofString t.nm := by
  unfold tyNm at h
  repeat' split at h
  all_goals (cases h; first | assumption | done)
theorem b1Nm_of {x : Str} {t : B1} (h : b1Nm x = some t) : x = Str.ofString t.nm ∧ (∀ y, t ≠ .isi y) := by
  unfold b1Nm at h
  repeat' split at h
  all_goals (cases h; first | exact ⟨by assumption, fun y z => by cases z⟩ | done)
theorem b2Nm_of {x : Str} {t : B2} (h : b2Nm x = some t) : x = Str.ofString t.nm := by
  unfold b2Nm at h
  repeat' split at h
  all_goals (cases h; first | assumption | done)
theorem find_sh {l : List Kw} {p : Kw → Bool} {sh : Kw} (h : l.find? p = some sh) : sh ∈ l ∧ p sh = true := ⟨List.mem_of_find?_eq_some h, List.find?_some h⟩
theorem trA_len {r : Expr → Option Ep} : ∀ {es : List Expr} {xs : List Ep}, trA r es = some xs → xs.length = es.length
  | [], _, h => by simp only [trA] at h; cases h; rfl
  | e :: es, _, h => by
    simp only [trA] at h
    split at h
    · rename_i h3
      cases h
      simp [trA_len h3]
    · cases h
theorem evs_app : ∀ (xs ys : List Ep) (ρ : En), evs c (xs ++ ys) ρ = bnd (evs c xs ρ) fun us ρ => bnd (evs c ys ρ) fun vs ρ => some (us ++ vs, ρ)
  | [], ys, ρ => by
    simp only [List.nil_append, evs, bnd]
    cases evs c ys ρ <;> rfl
  | x :: xs, ys, ρ => by
    simp only [List.cons_append, evs]
    cases ev c x ρ with
    | none => rfl
    | some p =>
      obtain ⟨u, ρ1⟩ := p
      simp only [bnd]
      rw [evs_app xs ys ρ1]
      simp only [bnd]
      cases evs c xs ρ1 with
      | none => rfl
      | some p2 =>
        obtain ⟨us, ρ2⟩ := p2
        simp only
        cases evs c ys ρ2 <;> rfl
theorem ev_callk0 (f : Str) (xs : List Ep) (ix : List (Nat ⊕ PyData)) : ev c (.callk f xs ix) = fun ρ => bnd (bnd (evs c xs ρ) fun us ρ => bnd (some (([] : List PyData), ρ)) fun ys ρ => some (us ++ ys, ρ)) fun xs ρ => match pickD xs ix with
    | some ys => match c.call f none ys with
      | some (x, none) => some (x, ρ)
      | _ => none
    | none => none := by
  funext ρ
  simp only [ev]
  cases evs c xs ρ with
  | none => rfl
  | some p => obtain ⟨us, ρ1⟩ := p; simp only [bnd, List.append_nil] <;> rfl
theorem ev_callk1 (f : Str) (xs ys : List Ep) (ix : List (Nat ⊕ PyData)) : ev c (.callk f (xs ++ ys) ix) = fun ρ => bnd (bnd (evs c xs ρ) fun us ρ => bnd (evs c ys ρ) fun ys ρ => some (us ++ ys, ρ)) fun xs ρ => match pickD xs ix with
    | some ys => match c.call f none ys with
      | some (x, none) => some (x, ρ)
      | _ => none
    | none => none := by
  funext ρ
  simp only [ev]
  rw [evs_app] <;> rfl
theorem kws_of (hE : SE c k rE) (C : Ct X c k T) : ∀ {kws : List Keyword} {ks : List Str} {ys : List Ep}, sameKs kws ks = true → trA (rE T) (kws.map (·.value)) = some ys → PK X kws (tA X.K (evs c ys)) ∧ kws.map (·.arg) = ks.map some ∧ ys.length = ks.length
  | [], [], ys, _, h => by
    simp only [List.map_nil, trA] at h
    cases h
    exact ⟨k_nil, rfl, rfl⟩
  | [], _ :: _, _, h, _ => by cases h
  | _ :: _, [], _, h, _ => by cases h
  | ⟨nm, e, kp⟩ :: kws, x :: ks, ys, hk, h => by
    simp only [sameKs, Bool.and_eq_true, beq_iff_eq] at hk
    simp only [List.map_cons, trA] at h
    split at h
    · rename_i a as h1 h2 h3
      cases h
      obtain ⟨i1, i2, i3⟩ := kws_of hE C hk.2 h3
      refine ⟨k_cons (hE C h2) i1, ?_, by simp [i3]⟩
      simp only [List.map_cons, i2, hk.1.1]
    · cases h
theorem callk_of (hE : SE c k rE) (C : Ct X c k T) {f : Str} {args : List Expr} {kws : List Keyword} {p pos : Pos} {x : Ep} (h : trCallK (rE T) T f args kws = some x) : PE X (.Call (.Name f p) args kws pos) (tE X.K (ev c x)) ∧ fresh T x = false := by
  unfold trCallK at h
  split at h
  · cases h
  rename_i hg
  have hg' : T.cm = true ∧ glb T f = true := by simpa using hg
  obtain ⟨g1, g2⟩ := gl_of C hg'.2
  have room : Room k X.A := (C.room hg'.1).mono (by omega)
  split at h
  · rename_i sh hsh
    obtain ⟨m1, m2⟩ := find_sh hsh
    rw [Bool.and_eq_true] at m2
    have hn : sh.n = args.length := by simpa using m2.2
    split at h
    · rename_i xs ys h1 h2
      cases h
      obtain ⟨a1, a2, a3⟩ := a_of hE C h1
      obtain ⟨b1, b2, b3⟩ := kws_of hE C m2.1 h2
      refine ⟨?_, rfl⟩
      cases args with
      | nil =>
        simp only [trA] at h1
        cases h1
        exact e_callk0 C.callK m1 (by rw [hn]; rfl) room C.gd g1 g2 b1 b2 (fun ρ us ρ' e => by rw [evs_len e]; exact b3)
      | cons e es =>
        have hs := star_of (es := es) X.env (a3 e es rfl)
        rw [ev_callk1]
        exact e_callk C.callK m1 room C.gd g1 g2 a1 b1 b2 (fun ρ us ρ' e => by rw [evs_len e, trA_len h1, hn]) (fun ρ us ρ' e => by rw [evs_len e, b3]) hs (a2 pos)
    · cases h
  · cases h
theorem base_of {o : Expr} {m : Str} (env : PySem.Env) (h : noCall0 o = true) : attributeBase o m env (eval o env) = eval o env := by
  unfold attributeBase
  split
  · cases h
  · rfl
theorem nest_of (hE : SE c k rE) (C : Ct X c k T) {f : Str} {args : List Expr} {p pos : Pos} {x : Ep} (h : trNest (rE T) T f args = some x) :
    PE X (.Call (.Name f p) args [] pos) (tE X.K (ev c x)) ∧ (fresh T x = true → PE X (.Call (.Name f p) args [] pos) (tEL X.K (ev c x))) ∧ (freshK x = true → PE X (.Call (.Name f p) args [] pos) (tEK X.K (ev c x))) := by
  unfold trNest at h
  split at h
  · rename_i g pg a b j0 p1 p2' pos2
    split at h
    · rename_i hf
      obtain ⟨rfl, rfl⟩ := hf
      split at h
      · rename_i hg
        simp only [Bool.and_eq_true] at hg
        split at h
        · rename_i x y h1 h2
          cases h
          refine ⟨?_, fun z => (by cases z), fun z => by cases z⟩
          have hd : PE X (.UnaryOp .USub (.Constant (.int 1) j0 p1) p2') (tE X.K fun ρ => bnd (ev c (.con (.int 1)) ρ) fun x ρ => match x with
            | .int i => some (.int (-i), ρ)
            | _ => none) := e_neg (e_con (X := X) (k := .int 1) (j := j0) (pos := p1) (d := .int 1) rfl)
          have := e_trn (pos := pos) (p := p) (p2 := pg) (pos2 := pos2) (C.calm hg.1) (gl_of C hg.2.1.1.1).1 (blt_of C (b := "tuple") (by decide)) (gl_of C hg.2.1.1.2).1 (blt_of C (b := "range") (by decide)) (hE C h1) (hE C h2) hd (fun ρ => rfl) (star_of X.env hg.2.1.2) (star_of X.env hg.2.2) (star_of X.env rfl) (by rw [star_of X.env hg.2.2]; rfl) (star_of X.env rfl)
          exact this
        · cases h
      · cases h
    · cases h
  · rename_i g pg a pos2
    split at h
    · rename_i hf
      obtain ⟨rfl, rfl⟩ := hf
      split at h
      · rename_i hg
        simp only [Bool.and_eq_true] at hg
        obtain ⟨y, h1, rfl⟩ := Option.map_eq_some_iff.mp h
        have hL := l_srs (pos := pos) (p := p) (p2 := pg) (pos2 := pos2) (C.calm hg.1) (gl_of C hg.2.1.1).1 (blt_of C (by decide)) (gl_of C hg.2.1.2).1 (blt_of C (by decide)) (hE C h1) (star_of X.env hg.2.2)
        refine ⟨e_of_L hL fun ρ z ρ' e => ?_, fun _ => hL, fun z => by cases z⟩
        obtain ⟨w, ρ1, e1, e⟩ := bnd_eq e
        obtain ⟨w', e3, e⟩ := ret_eq e
        cases e
        have key : ∀ xs, srsL xs = some z → ∃ ys, z = .list ys := fun xs h => by
          unfold srsL at h
          split at h
          · split at h
            · cases h; exact ⟨_, rfl⟩
            · cases h
          · cases h
        cases w <;> simp only [srsD] at e3 <;> first | (cases e3; done) | exact key _ e3
      · cases h
    · split at h
      · rename_i hf
        obtain ⟨rfl, rfl⟩ := hf
        split at h
        · rename_i hg
          simp only [Bool.and_eq_true] at hg
          obtain ⟨y, h1, rfl⟩ := Option.map_eq_some_iff.mp h
          exact ⟨e_trg (C.calm hg.1) (gl_of C hg.2.1.1).1 (blt_of C (by decide)) (gl_of C hg.2.1.2).1 (blt_of C (by decide)) (hE C h1) (star_of X.env hg.2.2), fun z => (by cases z), fun z => by cases z⟩
        · cases h
      · split at h
        · rename_i hf
          obtain ⟨rfl, rfl⟩ := hf
          split at h
          · rename_i o m pa pc
            split at h
            · rename_i hg
              obtain ⟨rfl, hg⟩ := hg
              simp only [Bool.and_eq_true] at hg
              obtain ⟨y, h1, rfl⟩ := Option.map_eq_some_iff.mp h
              have hK := k_ddup (pos := pos) (p := p) (p2 := pg) (lpos := pos2) (C.calm hg.1) (gl_of C hg.2.1.1.1).1 (blt_of C (by decide)) (gl_of C hg.2.1.1.2).1 (blt_of C (by decide)) (hE C h1) (base_of X.env hg.2.1.2) hg.2.2
              refine ⟨e_of_K hK fun ρ z ρ' e => ?_, fun z => (by cases z), fun _ => hK⟩
              obtain ⟨w, ρ1, e1, e⟩ := bnd_eq e
              split at e
              · cases e; exact ⟨_, rfl⟩
              · cases e
            · cases h
          · cases h
        · split at h
          · rename_i hf
            obtain ⟨rfl, rfl⟩ := hf
            split at h
            · rename_i hg
              simp only [Bool.and_eq_true] at hg
              obtain ⟨y, h1, rfl⟩ := Option.map_eq_some_iff.mp h
              refine ⟨?_, fun z => (by cases z), fun z => by cases z⟩
              have := e_lset (pos := pos) (p := p) (p2 := pg) (pos2 := pos2) (C.calm hg.1) (gl_of C hg.2.1.1).1 (blt_of C (b := "len") (by decide)) (gl_of C hg.2.1.2).1 (blt_of C (b := "set") (by decide)) (hE C h1) (star_of X.env hg.2.2)
              exact this
            · cases h
          · cases h
  · rename_i y py
    split at h
    · rename_i hf
      obtain ⟨rfl, hg⟩ := hf
      split at h
      · rename_i i hi
        split at h
        · cases h
          obtain ⟨s1, s2, s3, s4⟩ := slot_of C hi
          refine ⟨?_, fun z => (by cases z), fun z => by cases z⟩
          have := e_olen (pos := pos) (p := p) (px := py) (gl_of C hg).1 (blt_of C (b := "len") (by decide)) s1 s2 s3 s4
          exact this
        · cases h
      · cases h
    · split at h
      · rename_i hf
        obtain ⟨rfl, hg⟩ := hf
        rw [Bool.and_eq_true] at hg
        split at h
        · rename_i i hi
          split at h
          · cases h
            obtain ⟨s1, s2, s3, s4⟩ := slot_of C hi
            have hL := l_ocopy (pos := pos) (p := p) (px := py) (gl_of C hg.2).1 (blt_of C (b := "list") (by decide)) s1 s2 s3 s4
            have eE : ev c (.ocopy i) = fun ρ => match ρ[i]? with
              | some (some (Sv.own _ xs)) => some (.list xs, ρ)
              | some (some (Sv.d y)) => ret (b1D .list y) ρ
              | _ => none := by
              funext ρ
              simp only [ev] <;> rfl
            rw [eE]
            refine ⟨e_of_L hL fun ρ z ρ' e => ?_, fun _ => hL, fun z => by cases z⟩
            split at e
            · cases e; exact ⟨_, rfl⟩
            · obtain ⟨w, e3, e⟩ := ret_eq e
              cases e
              rename_i y _
              cases y <;> simp only [b1D] at e3 <;> first | (cases e3; done) | (cases e3; exact ⟨_, rfl⟩)
            · cases e
          · cases h
        · cases h
      · cases h
  · cases h
/-! lists that are lent -/
theorem plainV_ok {ρ ρ' : En} {e : Ep} {x : PyData} (h : plainV ρ e = true) (he : ev c e ρ = some (x, ρ')) : ρ' = ρ := by
  cases e <;> simp only [plainV] at h <;> first | (cases h; done) | skip
  · simp only [ev] at he
    cases he; rfl
  · rename_i i
    simp only [ev] at he
    split at h
    · rename_i y hy
      rw [hy] at he
      cases he; rfl
    · cases h
theorem plainVs_ok : ∀ {es : List Ep} {ρ ρ' : En} {xs : List PyData}, plainVs ρ es = true → evs c es ρ = some (xs, ρ') → ρ' = ρ
  | [], ρ, ρ', xs, _, h => by simp only [evs] at h; cases h; rfl
  | e :: es, ρ, ρ', xs, hp, h => by
    simp only [plainVs, Bool.and_eq_true] at hp
    simp only [evs] at h
    obtain ⟨y, ρ1, e1, h⟩ := bnd_eq h
    obtain ⟨ys, ρ2, e2, h⟩ := bnd_eq h
    cases h
    have := plainV_ok hp.1 e1
    subst this
    exact plainVs_ok hp.2 e2
theorem stays_ok (a : Ep) : Keeps (fun ρ => stays ρ a) (ev c a) := by
  intro ρ x ρ' hs0 he0 i y hy
  have hs : stays ρ a = true := hs0
  clear hs0
  unfold stays at hs
  split at hs
  · simp only [ev] at he0
    obtain ⟨xs, ρ1, e1, he1⟩ := bnd_eq he0
    have e := plainVs_ok hs e1
    split at he1
    · cases he1; rw [e] at hy; exact hy
    · cases he1
  · simp only [ev] at he0
    split at he0
    · obtain ⟨xs, ρ1, e1, he1⟩ := bnd_eq he0
      have e := plainVs_ok hs e1
      split at he1
      · split at he1
        · cases he1
          rw [List.getElem?_set] at hy
          split at hy
          · split at hy <;> simp at hy
          · rw [e] at hy; exact hy
        · cases he1
      · cases he1
    · cases he0
  · simp only [ev, evs] at he0
    obtain ⟨u, ρ1, e1, he1⟩ := bnd_eq he0
    have e := plainV_ok hs e1
    obtain ⟨v, ρ2, e2, he2⟩ := bnd_eq he1
    have e6 : ρ2 = ρ1 := by
      split at e2
      · obtain ⟨_, _, e7, e8⟩ := bnd_eq e2
        cases e7
        cases e8; rfl
      · cases e2
    obtain ⟨r, ρ3, e3, he3⟩ := bnd_eq he2
    obtain ⟨r', e4, e5⟩ := ret_eq e3
    have e9 : ρ' = ρ2 := by
      cases e5
      cases he3
      rfl
    rw [e9, e6, e] at hy; exact hy
  · cases hs
theorem ev_lend (j : Nat) (a : Ep) : ev c (.lend j a) = lendF (fun ρ => stays ρ a) j (ev c a) := by
  funext ρ
  simp only [ev, lendF] <;> rfl
theorem lend_of {e : Expr} {o : Option Nat} {x : Ep} (h : PE X e (tE X.K (ev c x))) : PE X e (tE X.K (ev c (lendW o x))) := by
  cases o with
  | none => exact h
  | some j =>
    show PE X e (tE X.K (ev c (.lend j x)))
    rw [ev_lend]
    exact e_lend h (stays_ok x)
theorem nil_of (C : Ct X c k T) {a : Expr} {o : CmpOp} {co : COp} {pl pos : Pos} {x : Ep} (ho : cmpOf o = some co) (hm : behindInMarks o (.List [] pl) = false) (h : trNil T a co = some x) : PE X (.Compare a [o] [.List [] pl] pos) (tE X.K (ev c x)) ∧ PT X (.Compare a [o] [.List [] pl] pos) (tT X.K (evT c (.leaf x))) ∧ fresh T x = false ∧ freshK x = false := by
  unfold trNil at h
  split at h
  · rename_i y py
    split at h
    · rename_i i hi
      split at h
      · cases h
        obtain ⟨s1, s2, s3, s4⟩ := slot_of C hi
        have hu : X.A.units + 64 < cLine := C.un
        have pv : PE X (.Name y py) (tE X.K (ev c (.var i))) := e_var s1 s2 s3 s4
        have pl0 : PE X (.List [] pl) (tE X.K (ev c (.lst []))) := by
          have hL : PE X (.List [] pl) (tEL X.K (ev c (.lst []))) := by
            have e : ev c (.lst []) = fun ρ => bnd (some (([] : List PyData), ρ)) fun ys ρ => some (.list ys, ρ) := by
              funext ρ; simp only [ev, evs]; rfl
            rw [e]
            exact l_lst a_nil fun ρ ys ρ' e => by cases e; simp
          refine e_of_L hL fun ρ z ρ' e => ?_
          simp only [ev, evs] at e
          split at e
          · obtain ⟨zs, ρ1, e1, e⟩ := bnd_eq e
            cases e; exact ⟨_, rfl⟩
          · cases e
        refine ⟨?_, ?_, rfl, rfl⟩
        · rw [ev_lend]
          exact e_lend (e_cmp hu ho (by simpa using hm) pv pl0) (stays_ok _)
        · have e1 : evT c (.leaf (.lend i (.cmp co (.var i) (.lst [])))) = fun ρ => bnd (lendF (fun ρ => stays ρ (.cmp co (.var i) (.lst []))) i (ev c (.cmp co (.var i) (.lst []))) ρ) fun x ρ => ret (truD x) ρ := by
            funext ρ
            simp only [evT, ev_lend]
          rw [e1]
          refine t_lend ?_ (stays_ok _)
          have e2 : evT c (.leaf (.cmp co (.var i) (.lst []))) = fun ρ => bnd (ev c (.cmp co (.var i) (.lst [])) ρ) fun x ρ => ret (truD x) ρ := by
            funext ρ
            simp only [evT]
          rw [← e2]
          exact t_cmp hu ho (by simpa using hm) pv pl0
      · cases h
    · cases h
  · cases h
theorem in_of (hE : SE c k rE) (C : Ct X c k T) {a b : Expr} {o : CmpOp} {pos : Pos} {x : Ep} (h : trIn (rE T) T a o b = some x) : PE X (.Compare a [o] [b] pos) (tE X.K (ev c x)) ∧ PT X (.Compare a [o] [b] pos) (tT X.K (evT c (.leaf x))) ∧ fresh T x = false ∧ freshK x = false := by
  unfold trIn at h
  split at h
  · exact nil_of C rfl rfl h
  · exact nil_of C rfl rfl h
  · rename_i y py
    split at h
    · rename_i i hi
      obtain ⟨s1, s2, s3, s4⟩ := slot_of C hi
      split at h
      · obtain ⟨z, h1, rfl⟩ := Option.map_eq_some_iff.mp h
        refine ⟨?_, ?_, rfl, rfl⟩
        · have := e_oin C.un (pos := pos) (px := py) (neg := false) rfl s1 s2 s3 s4 (hE C h1)
          exact this
        · have := t_oin C.un (pos := pos) (px := py) (neg := false) rfl s1 s2 s3 s4 (hE C h1)
          exact this
      · cases h
    · cases h
  · rename_i y py
    split at h
    · rename_i i hi
      obtain ⟨s1, s2, s3, s4⟩ := slot_of C hi
      split at h
      · obtain ⟨z, h1, rfl⟩ := Option.map_eq_some_iff.mp h
        refine ⟨?_, ?_, rfl, rfl⟩
        · have := e_oin C.un (pos := pos) (px := py) (neg := true) rfl s1 s2 s3 s4 (hE C h1)
          exact this
        · have := t_oin C.un (pos := pos) (px := py) (neg := true) rfl s1 s2 s3 s4 (hE C h1)
          exact this
      · cases h
    · cases h
  · rename_i o m pa pc
    split at h
    · rename_i hg
      obtain ⟨rfl, hg⟩ := hg
      simp only [Bool.and_eq_true] at hg
      split at h
      · rename_i y z h1 h2
        cases h
        refine ⟨?_, ?_, rfl, rfl⟩
        · have := e_vin (pos := pos) (C.calm hg.1) C.un (hE C h1) (hE C h2) (base_of X.env hg.2.1) hg.2.2
          exact this
        · have := t_vin (pos := pos) (C.calm hg.1) C.un (hE C h1) (hE C h2) (base_of X.env hg.2.1) hg.2.2
          exact this
      · cases h
    · cases h
  · cases h
theorem call_of (hE : SE c k rE) (C : Ct X c k T) {f : Str} {args : List Expr} {p pos : Pos} {x : Ep} (h : trCall (rE T) T f args = some x) :
    PE X (.Call (.Name f p) args [] pos) (tE X.K (ev c x)) ∧ (fresh T x = true → PE X (.Call (.Name f p) args [] pos) (tEL X.K (ev c x))) := by
  unfold trCall at h
  split at h
  · cases h
  rename_i hg
  obtain ⟨g1, g2⟩ := gl_of C (by simpa using hg)
  have hu : X.A.units + 64 < cLine := C.un
  split at h
  · rename_i hf
    subst hf
    split at h
    · rename_i a t pt
      split at h
      · rename_i ty y h1 h2 h3 h4
        cases h
        have ht := tyNm_of h1
        subst ht
        refine ⟨e_isi g1 (blt_of C (by decide)) (gl_of C h3).1 (blt_of C (by cases ty <;> decide)) (hE C h4) (star_of X.env h2), fun z => by cases z⟩
      · cases h
    · cases h
  by_cases hcm : T.cm = true
  case neg =>
    rw [if_pos (by simpa using hcm)] at h
    cases h
  rw [if_neg (by simpa using hcm)] at h
  have room : Room k X.A := (C.room hcm).mono (by omega)
  have calm := C.calm hcm
  · split at h
    · rename_i b hb
      obtain ⟨e1, e2⟩ := b1Nm_of hb
      subst e1
      split at h
      · rename_i a
        split at h
        · rename_i y h1 h2
          cases h
          refine ⟨e_b1 calm C.gd hu e2 g1 (blt_of C (by cases b <;> first | decide | exact absurd rfl (e2 _))) (hE C h2) (star_of X.env h1), fun z => ?_⟩
          cases b <;> first | (cases z; done) | skip
          exact l_list g1 (blt_of C (by decide)) (hE C h2) (star_of X.env h1)
        · cases h
      · cases h
    · split at h
      · rename_i b hb
        have e1 := b2Nm_of hb
        subst e1
        split at h
        · rename_i a d
          split at h
          · rename_i y z s1 s2 h1 h2
            cases h
            have hs2 := star_of (es := []) X.env s2
            refine ⟨e_b2 calm g1 (blt_of C (by cases b <;> decide)) (hE C h1) (hE C h2) (star_of X.env s1) hs2 (by rw [hs2]; rfl), fun z => by cases z⟩
          · cases h
        · cases h
      · split at h
        · split at h
          · rename_i y py es
            split at h
            · rename_i i xs h1 h2 hko
              cases h
              obtain ⟨s1, s2, s3, s4⟩ := slot_of C h1
              obtain ⟨a1, a2, _⟩ := a_of hE C h2
              exact ⟨lend_of (e_callp C.call hko room C.gd g1 g2 s1 s2 s3 s4 a1 rfl (a2 pos)), fun z => by
                unfold lendW at z
                split at z <;> cases z⟩
            · cases h
          · cases h
        · split at h
          · rename_i sh hsh
            obtain ⟨m1, m2⟩ := find_sh hsh
            rw [Bool.and_eq_true] at m2
            have hks : sh.ks = [] := by simpa using m2.1
            have hn : sh.n = args.length := by simpa using m2.2
            split at h
            · rename_i e es
              obtain ⟨xs, h1, h2⟩ := Option.map_eq_some_iff.mp h
              subst h2
              obtain ⟨a1, a2, a3⟩ := a_of hE C h1
              have hs := star_of (es := es) X.env (a3 e es rfl)
              refine ⟨?_, fun z => by cases z⟩
              rw [ev_callk0]
              exact e_callk C.callK m1 room C.gd g1 g2 a1 k_nil (by rw [hks]; rfl) (fun ρ ys ρ' e => by rw [evs_len e, trA_len h1, hn]) (fun ρ ys ρ' e => by cases e; rw [hks]; rfl) hs (a2 pos)
            · cases h
          split at h
          case h_2 => cases h
          rename_i xs h1 hko
          cases h
          obtain ⟨a1, a2, a3⟩ := a_of hE C h1
          have nol : ∀ {P : Prop}, (fresh T (lendW (lentArg T args) (.call f xs)) = true → lentArg T args = none → P) → fresh T (lendW (lentArg T args) (.call f xs)) = true → P := fun {P} g z => by
            cases hl : lentArg T args with
            | none => exact g z hl
            | some j => rw [hl] at z; cases z
          cases args with
          | nil =>
            simp only [trA] at h1
            cases h1
            refine ⟨lend_of (e_call0 C.call hko room C.gd g1 g2), nol fun z hl => ?_⟩
            rw [hl] at z
            simp only [lendW, fresh, List.isEmpty_nil, Bool.not_true, Bool.and_false] at z
            cases z
          | cons e es =>
            have hs := star_of (es := es) X.env (a3 e es rfl)
            have hpl := a2 pos
            rw [hs] at hpl
            refine ⟨lend_of (e_call C.call hko room C.gd g1 g2 a1 hs hpl), nol fun z hl => ?_⟩
            rw [hl] at z ⊢
            exact l_call C.callL hko (Bool.and_eq_true_iff.mp z).1 room C.gd g1 g2 a1 hs hpl
/-! comprehensions -/
theorem gname_of (C : Ct X c k T) {o : Expr} {x : Str} (h : glbName T o = some x) : ∃ p, o = .Name x p ∧ glb T x = true := by
  unfold glbName at h
  split at h
  · split at h
    · cases h
    · split at h
      · cases h; exact ⟨_, rfl, by assumption⟩
      · cases h
  · cases h
theorem meth_of (hE : SE c k rE) (C : Ct X c k T) {o : Expr} {m : Str} {pa pos : Pos} {args : List Expr} {x : Ep} (h : trMeth (rE T) T o m pa args pos = some x) : PE X (.Call (.Attribute o m pa) args [] pos) (tE X.K (ev c x)) ∧ fresh T x = false := by
  unfold trMeth at h
  split at h
  · rename_i a
    split at h
    · rename_i y s1 hl h1
      have hs := star_of (es := []) X.env s1
      split at h
      · rename_i hm
        subst hm
        obtain ⟨z, h2, rfl⟩ := Option.map_eq_some_iff.mp h
        obtain ⟨p, rfl, hg⟩ := gname_of C h2
        obtain ⟨g1, g2⟩ := gl_of C hg
        exact ⟨e_gget g1 C.glob g2 (hE C h1) ⟨rfl, by rw [hs]; rfl, hl, by rw [hs]; rfl⟩, rfl⟩
      · split at h
        · rename_i hm
          subst hm
          split at h
          · rename_i hn
            obtain ⟨z, h2, rfl⟩ := Option.map_eq_some_iff.mp h
            exact ⟨e_cnt (hE C h2) (hE C h1) (base_of X.env hn) hs hl, rfl⟩
          · cases h
        · split at h
          · rename_i hm
            subst hm
            split at h
            · rename_i hn
              obtain ⟨z, h2, rfl⟩ := Option.map_eq_some_iff.mp h
              exact ⟨e_idx (hE C h2) (hE C h1) (base_of X.env hn) hs hl, rfl⟩
            · cases h
          · cases h
    · cases h
  · cases h
theorem pop_of (C : Ct X c k T) {o : Expr} {m : Str} {pa pos : Pos} {args : List Expr} {x : Ep} (h : trPop T o m pa args pos = some x) : PE X (.Call (.Attribute o m pa) args [] pos) (tE X.K (ev c x)) ∧ fresh T x = false ∧ freshK x = false := by
  unfold trPop at h
  split at h
  · rename_i y py a
    split at h
    · rename_i hg
      obtain ⟨rfl, hg⟩ := hg
      rw [Bool.and_eq_true] at hg
      split at h
      · rename_i i hi
        split at h
        · cases h
          obtain ⟨s1, s2, s3, s4⟩ := slot_of C hi
          obtain ⟨j, pz, rfl⟩ : ∃ j pz, a = .Constant (.int 0) j pz := by
            have := hg.1
            unfold isZero at this
            split at this
            · exact ⟨_, _, rfl⟩
            · cases this
          refine ⟨?_, rfl, rfl⟩
          have := e_opop (px := py) (j := j) (pz := pz) s1 s2 s3 s4 hg.2
          exact this
        · cases h
      · cases h
    · cases h
  · rename_i y py
    split at h
    · rename_i hg
      obtain ⟨rfl, hg⟩ := hg
      split at h
      · rename_i i hi
        split at h
        · cases h
          obtain ⟨s1, s2, s3, s4⟩ := slot_of C hi
          refine ⟨?_, rfl, rfl⟩
          have := e_opope (px := py) s1 s2 s3 s4 hg
          exact this
        · cases h
      · cases h
    · cases h
  · cases h
theorem blk_ct (C : Ct X c k T) {s : Shared} {H : Hp} {scope : Scope} {a : Addr} {cl : List (Str × Addr)} {fp : List Addr} (hk : scope.kind = .function) : Ct (X.blk s H scope (compEnvC scope cl a X.env) fp) c k (blkT T scope) where
  hN := C.hN
  hsc := by
    show relS scope X.env.scope = relS scope T.sc
    rw [C.hsc]
  nd := C.nd
  kind := hk
  calm := C.calm
  gd := C.gd
  room := C.room
  un := C.un
  xe := rfl
  call := C.call
  callL := C.callL
  callK := C.callK
  glob := C.glob
  blt := C.blt
  fn := fun x h => by
    show (scope.names.lookup x == some .cell) = true
    rw [beq_iff_eq]
    exact h
  exc := C.exc
  excK := C.excK
  said := fun _ _ h => nomatch h
  ec := fun _ _ _ _ h => nomatch h
theorem ts_of (hT : ST c k rT) (C : Ct X c k T) : ∀ {es : List Expr} {xs : List Tp}, trTs (rT T) es = some xs → PTs X es (tT X.K (evTs c xs))
  | [], xs, h => by
    simp only [trTs] at h
    cases h
    exact ts_nil
  | [e], xs, h => by
    simp only [trTs] at h
    obtain ⟨y, h1, h2⟩ := Option.map_eq_some_iff.mp h
    subst h2
    exact ts_one (hT C h1)
  | _ :: _ :: _, xs, h => by simp only [trTs] at h; cases h
theorem comp_parts (hE : SE c k rE) (hT : ST c k rT) (C : Ct X c k T) {elt : Expr} {gens : List Comprehension} {scope : Scope} {x : Ep} (hg1 : gens.length = 1) (h : trComp rE rT T elt gens scope = some x) :
    ∃ tg iter ifs own t it cs y, gens = [⟨tg, iter, ifs, 0⟩] ∧ x = .comp y t it cs (own.map (·.2)) ∧ PI X tg iter (tIt X.K (evI c it)) ∧ BlkOk X.N X.env.scope scope own ∧ (∀ j ∈ slotsT t, j ∈ own.map (·.2)) ∧
      (∀ (s : Shared) (H : Hp) (C : Addr) (cl : List (Str × Addr)) (fp : List Addr), PG (X.blk s H scope (compEnvC scope cl C X.env) fp) tg (tG X.K (slotsT t) (bindT t))) ∧
      (∀ (s : Shared) (H : Hp) (C : Addr) (cl : List (Str × Addr)) (fp : List Addr), PTs (X.blk s H scope (compEnvC scope cl C X.env) fp) ifs (tT X.K (evTs c cs))) ∧
      (∀ (s : Shared) (H : Hp) (C : Addr) (cl : List (Str × Addr)) (fp : List Addr), PE (X.blk s H scope (compEnvC scope cl C X.env) fp) elt (tE X.K (ev c y))) ∧ (∀ x, foldedSetIterable iter X.env x = pure x) ∧ X.calm = true := by
  unfold trComp at h
  split at h
  · rename_i tg iter ifs
    split at h
    · rename_i it t cs y h2 h3 h4 h5
      split at h
      · rename_i hc
        cases h
        simp only [Bool.and_eq_true] at hc
        obtain ⟨⟨⟨hcm, hb⟩, hs⟩, hn⟩ := hc
        have ok := blkOk_by hb
        refine ⟨tg, iter, ifs, ownOf T scope, t, it, cs, y, rfl, rfl, i_of hE C h2, by rw [C.hN, C.hsc]; exact ok, fun j hj => ?_, fun s H a cl fp => g_of (blk_ct C ok.kind) h3, fun s H a cl fp => ts_of hT (blk_ct C ok.kind) h4, fun s H a cl fp => hE (blk_ct C ok.kind) h5, set_fold X.env hn, C.calm hcm⟩
        have := List.all_eq_true.mp hs j hj
        simpa using this
      · cases h
    · cases h
  · simp at hg1
  · cases h
omit [Tbl] in
theorem ev_comp2 (y : Ep) (t t2 : Tg) (it it2 : It') (cs cs2 : List Tp) (own own2 : List Nat) : ev c (.comp2 y t it cs t2 it2 cs2 own own2) = evC2 t (evI c it) (evTs c cs) t2 (evI c it2) (evTs c cs2) (ev c y) own own2 := by
  funext ρ
  simp only [ev, evC2] <;> rfl
theorem comp2_of (hE : SE c k rE) (hT : ST c k rT) (C : Ct X c k T) {elt : Expr} {gens : List Comprehension} {scope : Scope} {pos : Pos} {x : Ep} (hg1 : gens.length ≠ 1) (h : trComp rE rT T elt gens scope = some x) :
    PE X (.ListComp elt gens scope pos) (tEL X.K (ev c x)) ∧ (∀ ρ y ρ', ev c x ρ = some (y, ρ') → ∃ xs, y = .list xs) := by
  unfold trComp at h
  split at h
  · simp at hg1
  · rename_i tg iter ifs tg2 iter2 ifs2
    split at h
    · rename_i it t cs y h2 h3 h4 h5
      split at h
      · rename_i it2 t2 cs2 k2 k3 k4
        split at h
        · rename_i hc
          cases h
          simp only [Bool.and_eq_true] at hc
          obtain ⟨⟨⟨⟨⟨hcm, hb⟩, hs⟩, hs2⟩, hn⟩, hn2⟩ := hc
          have ok := blkOk_by hb
          have sub : ∀ {l : List Nat}, l.all (fun j => ((ownOf T scope).map (·.2)).contains j) = true → ∀ j ∈ l, j ∈ (ownOf T scope).map (·.2) := fun {l} hl j hj => by
            have := List.all_eq_true.mp hl j hj
            simpa using this
          refine ⟨?_, fun ρ z ρ' e => ?_⟩
          · rw [ev_comp2]
            exact (pe_lc2 (C.calm hcm) (by rw [C.hN]; exact C.nd) (i_of hE C h2) (by rw [C.hN, C.hsc]; exact ok) (sub hs2) (fun s H a cl fp => g_of (blk_ct C ok.kind) h3) (fun s H a cl fp => ts_of hT (blk_ct C ok.kind) h4) (fun s H a cl fp => i_of hE (blk_ct C ok.kind) k2)
              (fun s H a cl fp => g_of (blk_ct C ok.kind) k3) (fun s H a cl fp => ts_of hT (blk_ct C ok.kind) k4) (fun s H a cl fp => hE (blk_ct C ok.kind) h5) (set_fold X.env hn) (fun env => set_fold env hn2)).wk (lc2_rd (sub hs) fun j hj => hj)
          · rw [ev_comp2] at e
            unfold evC2 at e
            split at e
            · obtain ⟨xs, ρ1, e1, e⟩ := bnd_eq e
              split at e
              · obtain ⟨ys, ρ2, e2, e⟩ := bnd_eq e
                split at e
                · cases e; exact ⟨_, rfl⟩
                · cases e
              · cases e
            · cases e
        · cases h
      · cases h
    · cases h
  · cases h
omit [Tbl] in
theorem ev_comp (y : Ep) (t : Tg) (it : It') (cs : List Tp) (own : List Nat) : ev c (.comp y t it cs own) = fun ρ => if own.all (notOwn ρ) then bnd (evI c it ρ) fun xs ρ1 => if own.all (notOwn ρ1) ∧ xs.length ≤ 100000 then bnd (cmpI (stepC t (evTs c cs) (ev c y) own ρ1) xs ρ1) fun ys ρ6 => some (.list ys, ρ6) else none else none := by
  funext ρ
  simp only [ev] <;> rfl
theorem comp_list {y : Ep} {t : Tg} {it : It'} {cs : List Tp} {own : List Nat} {ρ ρ' : En} {x : PyData} (h : ev c (.comp y t it cs own) ρ = some (x, ρ')) : ∃ xs, x = .list xs := by
  rw [ev_comp] at h
  simp only at h
  split at h
  · obtain ⟨xs, ρ1, e1, h⟩ := bnd_eq h
    split at h
    · obtain ⟨ys, ρ2, e2, h⟩ := bnd_eq h
      cases h
      exact ⟨_, rfl⟩
    · cases h
  · cases h
theorem comp_of (hE : SE c k rE) (hT : ST c k rT) (C : Ct X c k T) {elt : Expr} {gens : List Comprehension} {scope : Scope} {pos : Pos} {x : Ep} (h : trComp rE rT T elt gens scope = some x) :
    PE X (.ListComp elt gens scope pos) (tEL X.K (ev c x)) ∧ (∀ ρ y ρ', ev c x ρ = some (y, ρ') → ∃ xs, y = .list xs) := by
  by_cases hg1 : gens.length = 1
  case neg => exact comp2_of hE hT C hg1 h
  obtain ⟨tg, iter, ifs, own, t, it, cs, y, rfl, rfl, h1, h2, h3, h4, h5, h6, h7, hcm⟩ := comp_parts hE hT C hg1 h
  refine ⟨?_, fun ρ z ρ' e => comp_list e⟩
  rw [ev_comp]
  exact l_comp hcm (by rw [C.hN]; exact C.nd) h1 h2 rfl h3 h4 h5 h6 h7
theorem ev_dcomp (x y : Ep) (t : Tg) (it : It') (cs : List Tp) (own : List Nat) : ev c (.dcomp x y t it cs own) = evDc t (evI c it) (evTs c cs) (fun ρ => bnd (ev c x ρ) fun u ρ => bnd (ev c y ρ) fun v ρ => some (.tuple [u, v], ρ)) own := by
  funext ρ
  simp only [ev, evDc] <;> rfl
theorem ev_scomp (y : Ep) (t : Tg) (it : It') (cs : List Tp) (own : List Nat) : ev c (.scomp y t it cs own) = evSc t (evI c it) (evTs c cs) (ev c y) own := by
  funext ρ
  simp only [ev, evSc] <;> rfl
theorem dcomp_parts (hE : SE c k rE) (hT : ST c k rT) (C : Ct X c k T) {kx vx : Expr} {gens : List Comprehension} {scope : Scope} {x : Ep} (h : trDComp rE rT T kx vx gens scope = some x) :
    ∃ tg iter ifs own t it cs u v, gens = [⟨tg, iter, ifs, 0⟩] ∧ x = .dcomp u v t it cs (own.map (·.2)) ∧ PI X tg iter (tIt X.K (evI c it)) ∧ BlkOk X.N X.env.scope scope own ∧ (∀ j ∈ slotsT t, j ∈ own.map (·.2)) ∧
      (∀ (s : Shared) (H : Hp) (C : Addr) (cl : List (Str × Addr)) (fp : List Addr), PG (X.blk s H scope (compEnvC scope cl C X.env) fp) tg (tG X.K (slotsT t) (bindT t))) ∧
      (∀ (s : Shared) (H : Hp) (C : Addr) (cl : List (Str × Addr)) (fp : List Addr), PTs (X.blk s H scope (compEnvC scope cl C X.env) fp) ifs (tT X.K (evTs c cs))) ∧
      (∀ (s : Shared) (H : Hp) (C : Addr) (cl : List (Str × Addr)) (fp : List Addr), PE (X.blk s H scope (compEnvC scope cl C X.env) fp) kx (tE X.K (ev c u))) ∧
      (∀ (s : Shared) (H : Hp) (C : Addr) (cl : List (Str × Addr)) (fp : List Addr), PE (X.blk s H scope (compEnvC scope cl C X.env) fp) vx (tE X.K (ev c v))) ∧ (∀ x, foldedSetIterable iter X.env x = pure x) ∧ X.calm = true := by
  unfold trDComp at h
  split at h
  · rename_i tg iter ifs
    split at h
    · rename_i it t cs u v h2 h3 h4 h5 h6
      split at h
      · rename_i hc
        cases h
        simp only [Bool.and_eq_true] at hc
        obtain ⟨⟨⟨hcm, hb⟩, hs⟩, hn⟩ := hc
        have ok := blkOk_by hb
        refine ⟨tg, iter, ifs, ownOf T scope, t, it, cs, u, v, rfl, rfl, i_of hE C h2, by rw [C.hN, C.hsc]; exact ok, fun j hj => ?_, fun s H a cl fp => g_of (blk_ct C ok.kind) h3, fun s H a cl fp => ts_of hT (blk_ct C ok.kind) h4, fun s H a cl fp => hE (blk_ct C ok.kind) h5, fun s H a cl fp => hE (blk_ct C ok.kind) h6, set_fold X.env hn, C.calm hcm⟩
        have := List.all_eq_true.mp hs j hj
        simpa using this
      · cases h
    · cases h
  · cases h
theorem dcomp_of (hE : SE c k rE) (hT : ST c k rT) (C : Ct X c k T) {kx vx : Expr} {gens : List Comprehension} {scope : Scope} {pos : Pos} {x : Ep} (h : trDComp rE rT T kx vx gens scope = some x) :
    PE X (.DictComp kx vx gens scope pos) (tEK X.K (ev c x)) ∧ (∀ ρ y ρ', ev c x ρ = some (y, ρ') → ∃ xs, y = .dict xs) ∧ fresh T x = false := by
  obtain ⟨tg, iter, ifs, own, t, it, cs, u, v, rfl, rfl, h1, h2, h3, h4, h5, h6, h7, h8, hcm⟩ := dcomp_parts hE hT C h
  refine ⟨?_, fun ρ z ρ' e => ?_, rfl⟩
  · rw [ev_dcomp]
    exact k_comp hcm (by rw [C.hN]; exact C.nd) h1 h2 rfl h3 h4 h5 h6 h7 h8
  · rw [ev_dcomp] at e
    exact dc_dict _ _ _ _ e
theorem scomp_of (hE : SE c k rE) (hT : ST c k rT) (C : Ct X c k T) {f : Str} {args : List Expr} {p pos : Pos} {x : Ep} (h : trSComp rE rT T f args = some x) :
    PE X (.Call (.Name f p) args [] pos) (tE X.K (ev c x)) ∧ PE X (.Call (.Name f p) args [] pos) (tEL X.K (ev c x)) ∧ freshK x = false := by
  unfold trSComp at h
  split at h
  · rename_i elt tg iter ifs scope p2
    split at h
    · rename_i it t cs y h2 h3 h4 h5
      split at h
      · rename_i hc
        cases h
        obtain ⟨rfl, hc⟩ := hc
        simp only [Bool.and_eq_true] at hc
        obtain ⟨⟨⟨⟨hcm, hgl⟩, hb⟩, hs⟩, hn⟩ := hc
        have ok := blkOk_by hb
        have hsl : ∀ j ∈ slotsT t, j ∈ (ownOf T scope).map (·.2) := fun j hj => by
          have := List.all_eq_true.mp hs j hj
          simpa using this
        have hL := l_scomp (pos := pos) (p := p) (cpos := p2) (C.calm hcm) (by rw [C.hN]; exact C.nd) (gl_of C hgl).1 (blt_of C (by decide)) (i_of hE C h2) (by rw [C.hN, C.hsc]; exact ok) rfl hsl (fun s H a cl fp => g_of (blk_ct C ok.kind) h3) (fun s H a cl fp => ts_of hT (blk_ct C ok.kind) h4) (fun s H a cl fp => hE (blk_ct C ok.kind) h5) (set_fold X.env hn)
        refine ⟨?_, ?_, rfl⟩
        · rw [ev_scomp]
          exact e_of_L hL sc_list
        · rw [ev_scomp]
          exact hL
      · cases h
    · cases h
  · cases h
/-! x(lambda: f(a, ..)) -/
theorem ev_xcon (i : Nat) (d : PyData) : ev c (.xcon i d) = fun ρ => match ρ[i]? with
    | some (some .x) => some (d, ρ)
    | _ => none := by
  funext ρ
  simp only [ev] <;> rfl
theorem ev_said (x f : Str) (ws : List (Str × PyData)) (es : List Ep) : ev c (.said x ws f es) = fun ρ => bnd (evs c es ρ) fun xs ρ => match c.call f none xs with
    | some (x, none) => some (tellD ws x, ρ)
    | _ => match c.exc f xs with
      | some e => match ws.lookup e with
        | some w => some (w, ρ)
        | none => none
      | none => none := by
  funext ρ
  simp only [ev] <;> rfl
theorem stars_no {r : Expr → Option Ep} : ∀ {es : List Expr} {xs : List Ep}, trA r es = some xs → ∀ (pos : Pos) (env : PySem.Env), (backTo pos (starEach es env)).any (·.1) = false
  | [], _, _, _, _ => rfl
  | e :: es, xs, h, pos, env => by
    simp only [trA] at h
    split at h
    · rename_i a as h1 h2 h3
      rw [star_of env h1]
      exact stars_no h3 pos env
    · cases h
theorem lam_ct (C : Ct X c k T) {scope : Scope} (L : LamX.LamS T.sc scope) {A : Around} {outer : List PySem.Env} {s : Shared} {H : Hp} {E : XK} {f c' : Addr} (hg : A.guards = some []) (hr : Room k (A.deeper (LamX.lamEnv X scope s.heap.objs.size f c'))) : Ct (LamX.lamCx X A outer s H E scope f c').nox c k (lamT T scope) where
  hN := C.hN
  hsc := rfl
  nd := C.nd
  kind := L.kind
  calm := fun h => nomatch h
  gd := hg
  room := fun h => nomatch h
  un := by
    have := hr.un
    show (A.deeper (LamX.lamEnv X scope s.heap.objs.size f c')).units + 64 < cLine
    omega
  xe := rfl
  call := C.call
  callL := C.callL
  callK := C.callK
  glob := C.glob
  blt := C.blt
  fn := fun x h => absurd rfl (L.own _ (PySem.mem_of_lookup h)).2
  exc := C.exc
  excK := C.excK
  said := fun _ _ h => nomatch h
  ec := fun _ _ _ _ h => nomatch h
theorem par_none {p : Arguments} (h : noPar p = true) : p = ⟨[], [], none, [], [], none, []⟩ := by
  obtain ⟨a, b, d, e, f, g, i⟩ := p
  simp only [noPar, Bool.and_eq_true, List.isEmpty_iff, Option.isNone_iff_eq_none] at h
  obtain ⟨⟨⟨⟨⟨⟨h1, h2⟩, h3⟩, h4⟩, h5⟩, h6⟩, h7⟩ := h
  subst h1 h2 h3 h4 h5 h6 h7
  rfl
theorem said_of (hE : SE c k rE) (C : Ct X c k T) {x : Str} {args : List Expr} {p pos : Pos} {z : Ep} (h : trSaid rE T x args = some z) :
    PE X (.Call (.Name x p) args [] pos) (tE X.K (ev c z)) ∧ (fresh T z = true → PE X (.Call (.Name x p) args [] pos) (tEL X.K (ev c z))) := by
  unfold trSaid at h
  split at h
  · rename_i ws params f pf a as bpos scope lpos hsd
    split at h
    · rename_i hc
      simp only [Bool.and_eq_true] at hc
      obtain ⟨⟨⟨⟨⟨⟨hcm, hgx⟩, hpar⟩, hlam⟩, hgf⟩, hpf⟩, hko⟩ := hc
      obtain ⟨us, h1, rfl⟩ := Option.map_eq_some_iff.mp h
      refine ⟨?_, fun z => by cases z⟩
      have L := LamX.lamS_by hlam
      have hp := par_none hpar
      subst hp
      obtain ⟨g1, g2⟩ := gl_of C hgx
      have star : noStar a = true := by
        simp only [trA] at h1
        split at h1
        · assumption
        · cases h1
      unfold glb at hgf
      rw [Bool.and_eq_true] at hgf
      rw [ev_said]
      refine e_said (C.said x ws hsd) C.call C.exc (by simpa using hko) g1 g2 ((C.room hcm).mono (by omega)) C.gd (by rw [C.hsc]; exact L) rfl (fun _ _ _ _ _ => rfl) (beq_iff_eq.mp hgf.1) (plain_of hgf.2).1 (fun env => star_of env star) (fun env => ?_) fun A outer s H E fa c' hgA hrA => ?_
      · have h2 := stars_no h1 bpos env
        rw [star_of env star] at h2
        exact h2
      · obtain ⟨a1, _, _⟩ := a_of hE (lam_ct C L hgA hrA) h1
        exact a1
    · cases h
  · rename_i ws params f pf a as kw1 kws bpos scope lpos hsd
    split at h
    case isFalse => cases h
    rename_i hc
    simp only [Bool.and_eq_true] at hc
    obtain ⟨⟨⟨⟨hcm, hgx⟩, hpar⟩, hlam⟩, hgf⟩ := hc
    split at h
    case h_2 => cases h
    rename_i sh hsh
    split at h
    case h_2 => cases h
    rename_i xs ys h1 h2
    cases h
    refine ⟨?_, fun z => by cases z⟩
    obtain ⟨m1, m2⟩ := find_sh hsh
    rw [Bool.and_eq_true] at m2
    have hn : sh.n = (a :: as).length := by simpa using m2.2
    have L := LamX.lamS_by hlam
    have hp := par_none hpar
    subst hp
    obtain ⟨g1, g2⟩ := gl_of C hgx
    have star : noStar a = true := by
      simp only [trA] at h1
      split at h1
      · assumption
      · cases h1
    unfold glb at hgf
    rw [Bool.and_eq_true] at hgf
    have hv : ∀ {ks : List Keyword} {xs : List Str}, sameKs ks xs = true → ks.map (·.arg) = xs.map some := fun {ks} => by
      induction ks with
      | nil => intro xs h; cases xs with
        | nil => rfl
        | cons _ _ => cases h
      | cons q ks ih => intro xs h; cases xs with
        | nil => cases h
        | cons y ys =>
          simp only [sameKs, Bool.and_eq_true, beq_iff_eq] at h
          rw [List.map_cons, List.map_cons, h.1.1, ih h.2]
    have hks := hv m2.1
    have e0 : ev c (.saidk x ws f (xs ++ ys) sh.ix) = fun ρ => bnd (bnd (evs c xs ρ) fun us ρ => bnd (evs c ys ρ) fun vs ρ => some (us ++ vs, ρ)) fun xs ρ => match pickD xs sh.ix with
        | some ys => match c.call f none ys with
          | some (x, none) => some (tellD ws x, ρ)
          | _ => match c.exc f ys with
            | some e => match ws.lookup e with
              | some w => some (w, ρ)
              | none => none
            | none => none
        | none => none := by
      funext ρ
      simp only [ev, evs_app] <;> rfl
    rw [e0]
    refine e_saidk (C.said x ws hsd) C.callK C.excK m1 g1 g2 ((C.room hcm).mono (by omega)) C.gd (by rw [C.hsc]; exact L) rfl (fun _ _ _ _ _ => rfl) (beq_iff_eq.mp hgf.1) (plain_of hgf.2).1 hks (fun ρ ys ρ' e => by rw [evs_len e, trA_len h1, hn]) (fun ρ zs ρ' e => by
        have h3 := congrArg List.length hks
        rw [List.length_map, List.length_map] at h3
        rw [evs_len e, trA_len h2, List.length_map, h3]) (fun env => star_of env star) (fun env => stars_no h1 bpos env) fun A outer s H E fa c' hgA hrA => ?_
    obtain ⟨a1, _, _⟩ := a_of hE (lam_ct C L hgA hrA) h1
    exact ⟨a1, (kws_of hE (lam_ct C L hgA hrA) m2.1 h2).1⟩
  · cases h
/-! expressions -/
def SE2 (c : Cfg) (k : Nat) (r : Tc → Expr → Option Ep) : Prop := ∀ {X : Cx} {T : Tc}, Ct X c k T → ∀ {e : Expr} {x : Ep}, r T e = some x → fresh T x = true → PE X e (tEL X.K (ev c x))
theorem lst_ok {xs : List Ep} {ρ ρ' : En} {ys : List PyData} (hl : xs.length ≤ sizeLine) (h : evs c xs ρ = some (ys, ρ')) : ys.length ≤ sizeLine := by rw [evs_len h]; exact hl
theorem never_if {P : Prop} [Decidable P] {e : Expr} {f : En → Option (PyData × En)} (hp : P → PE X e (tE X.K f)) : PE X e (tE X.K fun ρ => if P then f ρ else none) := by
  by_cases h : P
  · simp only [if_pos h]; exact hp h
  · simp only [if_neg h]
    exact PE.never fun σ H Q q => by
      obtain ⟨ρ, F, x, ρ', _, e, _⟩ := q
      cases e
theorem never_ifL {P : Prop} [Decidable P] {e : Expr} {f : En → Option (PyData × En)} (hp : P → PE X e (tEL X.K f)) : PE X e (tEL X.K fun ρ => if P then f ρ else none) := by
  by_cases h : P
  · simp only [if_pos h]; exact hp h
  · simp only [if_neg h]
    exact PE.never fun σ H Q q => by
      obtain ⟨ρ, F, x, ρ', _, e, _⟩ := q
      cases e
theorem ev_lst (xs : List Ep) : ev c (.lst xs) = fun ρ => if xs.length ≤ sizeLine then bnd (evs c xs ρ) fun ys ρ => some (.list ys, ρ) else none := by funext ρ; simp only [ev]
theorem ev_tup (xs : List Ep) : ev c (.tup xs) = fun ρ => if xs.length ≤ sizeLine then bnd (evs c xs ρ) fun ys ρ => some (.tuple ys, ρ) else none := by funext ρ; simp only [ev]
theorem ev_repl (xs : List Ep) (y : Ep) : ev c (.repl xs y) = fun ρ => if xs.length ≤ sizeLine then bnd (evs c xs ρ) fun xs ρ => bnd (ev c y ρ) fun y ρ => match y with
      | .int k => if -(2 ^ 63) ≤ k ∧ k < 2 ^ 63 ∧ xs.length * k.toNat ≤ sizeLine then some (.list (List.replicate k.toNat xs).flatten, ρ) else none
      | _ => none
    else none := by funext ρ; simp only [ev] <;> rfl
theorem stepE_ok (hE : SE c k rE) (hT : ST c k rT) : SE c k (stepE rE rT) ∧ SE2 c k (stepE rE rT) := by
  have both : ∀ {X : Cx} {T : Tc}, Ct X c k T → ∀ {e : Expr} {x : Ep}, stepE rE rT T e = some x → PE X e (tE X.K (ev c x)) ∧ (fresh T x = true → PE X e (tEL X.K (ev c x))) := by
    intro X T C e x h
    have hu : X.A.units + 64 < cLine := C.un
    cases e with
    | Constant kk j pos =>
      simp only [stepE] at h
      obtain ⟨d, h1, h2⟩ := Option.map_eq_some_iff.mp h
      subst h2
      refine ⟨?_, fun z => by cases z⟩
      have := e_con (X := X) (k := kk) (j := j) (pos := pos) (d := d) (by cases kk <;> first | exact h1 | cases h1)
      exact this
    | Name n pos =>
      simp only [stepE] at h
      split at h
      · rename_i i hi
        cases h
        obtain ⟨s1, s2, s3, s4⟩ := slot_of C hi
        exact ⟨e_var s1 s2 s3 s4, fun z => by cases z⟩
      · split at h
        · rename_i hg
          cases h
          obtain ⟨g1, g2⟩ := gl_of C hg
          exact ⟨e_glob g1 C.glob g2, fun z => by cases z⟩
        · cases h
    | BinOp a o b pos =>
      simp only [stepE] at h
      split at h
      · rename_i es p2
        split at h
        · rename_i xs y h1 h2
          cases h
          obtain ⟨a1, _, _⟩ := a_of hE C h1
          have hL : PE X (.BinOp (.List es p2) .Mult b pos) (tEL X.K (ev c (.repl xs y))) := by
            rw [ev_repl]
            exact never_ifL fun hl => l_repl a1 (fun ρ ys ρ' e => lst_ok hl e) (hE C h2)
          refine ⟨e_of_L hL fun ρ z ρ' e => ?_, fun _ => hL⟩
          rw [ev_repl] at e
          simp only at e
          split at e
          · obtain ⟨zs, ρ1, e1, e⟩ := bnd_eq e
            obtain ⟨w, ρ2, e2, e⟩ := bnd_eq e
            split at e
            · split at e
              · cases e; exact ⟨_, rfl⟩
              · cases e
            · cases e
          · cases e
        · cases h
      · split at h
        · rename_i bo u v h1 h2 h3
          cases h
          refine ⟨e_bin h1 (hE C h2) (hE C h3), fun z => ?_⟩
          cases o <;> first | (cases h1; cases z; done) | (cases h1; done) | skip
          cases h1
          exact l_cat (hE C h2) (hE C h3)
        · cases h
    | UnaryOp op a pos =>
      cases op <;> simp only [stepE] at h <;> first | (cases h; done) | skip
      · obtain ⟨y, h1, h2⟩ := Option.map_eq_some_iff.mp h
        subst h2
        exact ⟨e_not (hE C h1), fun z => by cases z⟩
      · obtain ⟨y, h1, h2⟩ := Option.map_eq_some_iff.mp h
        subst h2
        exact ⟨e_neg (hE C h1), fun z => by cases z⟩
    | Compare a ops cs pos =>
      simp only [stepE] at h
      split at h
      · split at h
        · rename_i z hz
          cases h
          obtain ⟨i1, i2, i3, _⟩ := in_of hE C (pos := pos) hz
          exact ⟨i1, fun z => by rw [i3] at z; cases z⟩
        split at h
        · rename_i co u v h1 h2 h3
          split at h
          · cases h
          · rename_i hm
            cases h
            exact ⟨e_cmp hu h1 (by simpa using hm) (hE C h2) (hE C h3), fun z => by cases z⟩
        · cases h
      · split at h
        · rename_i co co' u v w h1 h2 h3 h4 h5
          split at h
          · cases h
          · rename_i hm
            cases h
            exact ⟨e_chain hu h1 h2 (by simpa using hm) (hE C h3) (hE C h4) (hE C h5), fun z => by cases z⟩
        · cases h
      · cases h
    | BoolOp op vs pos =>
      simp only [stepE] at h
      split at h
      · rename_i a b r
        refine ⟨b_of hE C h, fun z => ?_⟩
        simp only [trB] at h
        split at h
        · cases op <;> (cases h; cases z)
        · cases h
      · cases h
    | IfExp t a b pos =>
      simp only [stepE] at h
      split at h
      · rename_i cc u v h1 h2 h3
        cases h
        exact ⟨e_ite (hT C h1) (hE C h2) (hE C h3), fun z => by cases z⟩
      · cases h
    | Tuple es kk pos =>
      simp only [stepE] at h
      obtain ⟨xs, h1, h2⟩ := Option.map_eq_some_iff.mp h
      subst h2
      obtain ⟨a1, _, _⟩ := a_of hE C h1
      refine ⟨?_, fun z => by cases z⟩
      rw [ev_tup]
      exact never_if fun hl => e_tup a1 fun ρ ys ρ' e => lst_ok hl e
    | List es pos =>
      simp only [stepE] at h
      obtain ⟨xs, h1, h2⟩ := Option.map_eq_some_iff.mp h
      subst h2
      obtain ⟨a1, _, _⟩ := a_of hE C h1
      have hL : PE X (.List es pos) (tEL X.K (ev c (.lst xs))) := by
        rw [ev_lst]
        exact never_ifL fun hl => l_lst a1 fun ρ ys ρ' e => lst_ok hl e
      refine ⟨e_of_L hL fun ρ z ρ' e => ?_, fun _ => hL⟩
      rw [ev_lst] at e
      simp only at e
      split at e
      · obtain ⟨zs, ρ1, e1, e⟩ := bnd_eq e
        cases e; exact ⟨_, rfl⟩
      · cases e
    | Subscript a s pos =>
      simp only [stepE] at h
      split at h
      · split at h
        · rename_i u l hh h1 h2 h3
          cases h
          exact ⟨e_sl (hE C h1) (o_of hE C h2) (o_of hE C h3), fun z => by cases z⟩
        · cases h
      · obtain ⟨y, h1, rfl⟩ := Option.map_eq_some_iff.mp h
        exact ⟨e_rev (hE C h1), fun z => by cases z⟩
      · split at h
        · rename_i hns
          have hp := ix_plain hns
          split at h
          · rename_i y py
            split at h
            · rename_i i hi
              obtain ⟨s1, s2, s3, s4⟩ := slot_of C hi
              split at h
              · obtain ⟨w, h1, h2⟩ := Option.map_eq_some_iff.mp h
                subst h2
                refine ⟨?_, fun z => by cases z⟩
                have := e_oix hu (pos := pos) (px := py) s1 s2 s3 s4 (hE C h1) hp
                exact this
              · obtain ⟨w, h1, h2⟩ := Option.map_eq_some_iff.mp h
                subst h2
                exact ⟨e_ix hu (e_var s1 s2 s3 s4) (hE C h1) hp, fun z => by cases z⟩
            · split at h
              · rename_i w hg h1
                cases h
                obtain ⟨g1, g2⟩ := gl_of C hg
                exact ⟨e_ix hu (e_glob g1 C.glob g2) (hE C h1) hp, fun z => by cases z⟩
              · cases h
          · split at h
            · rename_i u v h1 h2
              cases h
              exact ⟨e_ix hu (hE C h1) (hE C h2) hp, fun z => by cases z⟩
            · cases h
        · cases h
    | Call f args kws pos =>
      simp only [stepE] at h
      split at h
      · rename_i i d hec
        cases h
        refine ⟨?_, fun z => by cases z⟩
        unfold trEc at hec
        split at hec
        · rename_i f' pf ns hns
          rw [ev_xcon]
          exact C.ec f' ns i d hec args pf pos hns
        · cases hec
      split at h
      · split at h
        · rename_i hn
          cases h
          exact said_of hE C hn
        split at h
        · rename_i hn
          cases h
          obtain ⟨q1, q2, _⟩ := scomp_of hE hT C hn
          exact ⟨q1, fun _ => q2⟩
        split at h
        · rename_i hn
          cases h
          obtain ⟨q1, q2, _⟩ := nest_of hE C hn
          exact ⟨q1, q2⟩
        · exact call_of hE C h
      · obtain ⟨h1, h2⟩ := callk_of hE C (pos := pos) h
        exact ⟨h1, fun z => by rw [h2] at z; cases z⟩
      · split at h
        · rename_i hn
          cases h
          obtain ⟨q1, q2, _⟩ := pop_of C hn
          exact ⟨q1, fun z => by rw [q2] at z; cases z⟩
        obtain ⟨h1, h2⟩ := meth_of hE C h
        exact ⟨h1, fun z => by rw [h2] at z; cases z⟩
      · cases h
    | Attribute o m p =>
      simp only [stepE] at h
      cases h
      refine ⟨PE.never fun σ H Q hq => ?_, fun z => by cases z⟩
      obtain ⟨ρ, F, z, ρ', rep, e, q⟩ := hq
      simp only [ev] at e
      cases e
    | Dict ks vs pos =>
      simp only [stepE] at h
      split at h
      · cases h
        exact ⟨e_dct0, fun z => by cases z⟩
      · split at h
        · rename_i u v h1 h2
          cases h
          exact ⟨e_dct1 (hE C h1) (hE C h2), fun z => by cases z⟩
        · cases h
      · cases h
    | ListComp elt gens scope pos =>
      simp only [stepE] at h
      obtain ⟨h1, h2⟩ := comp_of hE hT C (pos := pos) h
      exact ⟨e_of_L h1 h2, fun _ => h1⟩
    | DictComp kx vx gens scope pos =>
      simp only [stepE] at h
      obtain ⟨h1, h2, h3⟩ := dcomp_of hE hT C (pos := pos) h
      exact ⟨e_of_K h1 h2, fun z => by rw [h3] at z; cases z⟩
    | _ => simp only [stepE] at h; cases h
  exact ⟨fun {X T} C {e x} h => (both C h).1, fun {X T} C {e x} h => (both C h).2⟩
theorem stepT_ok (hE : SE c k rE) (hT : ST c k rT) : ST c k (stepT rE rT) := by
  intro X T C e x h
  have hu : X.A.units + 64 < cLine := C.un
  have leaf : ∀ {e : Expr} {x : Tp}, (if plainTest e then (rE T e).map Tp.leaf else none) = some x → PT X e (tT X.K (evT c x)) := fun {e x} h => by
    split at h
    · rename_i hp
      obtain ⟨y, h1, h2⟩ := Option.map_eq_some_iff.mp h
      subst h2
      exact t_leaf (hE C h1) (test_plain hp)
    · cases h
  cases e with
  | UnaryOp op a pos =>
    cases op with
    | Not =>
      simp only [stepT] at h
      obtain ⟨y, h1, h2⟩ := Option.map_eq_some_iff.mp h
      subst h2
      exact t_not (hT C h1)
    | _ => exact leaf h
  | BoolOp op vs pos =>
    simp only [stepT] at h
    exact (bt_of hT C h).pt
  | IfExp _ _ _ _ => simp only [stepT] at h; cases h
  | Compare a ops cs pos =>
    simp only [stepT] at h
    split at h
    · split at h
      · rename_i z hz
        cases h
        exact (in_of hE C (pos := pos) hz).2.1
      split at h
      · rename_i co u v h1 h2 h3
        split at h
        · cases h
        · rename_i hm
          cases h
          exact t_cmp hu h1 (by simpa using hm) (hE C h2) (hE C h3)
      · cases h
    · split at h
      · rename_i co co' u v w h1 h2 h3 h4 h5
        split at h
        · cases h
        · rename_i hm
          cases h
          exact t_chain hu h1 h2 (by simpa using hm) (hE C h3) (hE C h4) (hE C h5)
      · cases h
    · cases h
  | _ => exact leaf h
theorem trs_ok : ∀ n : Nat, SE c k (trs n).1 ∧ SE2 c k (trs n).1 ∧ ST c k (trs n).2
  | 0 => ⟨fun {X T} C {e x} h => (by cases h), fun {X T} C {e x} h => (by cases h), fun {X T} C {e x} h => (by cases h)⟩
  | n + 1 => by
    obtain ⟨h1, _, h3⟩ := trs_ok n
    obtain ⟨q1, q2⟩ := stepE_ok h1 h3
    exact ⟨q1, q2, stepT_ok h1 h3⟩
end
end Wh

set_option Elab.async false
set_option linter.all false
set_option maxRecDepth 100000
set_option maxHeartbeats 2000000
set_option exponentiation.threshold 5000
/-! Wh14: statements from the text; defs; the table. -/
namespace Wh
open PySem PySem.Spec PyProof.Rows L2 Evl
variable [Tbl]

def pureOf {α : Type} : Sem α → Option α
  | .pure a => some a
  | _ => none
theorem pureOf_eq {α : Type} {t : Sem α} {a : α} (h : pureOf t = some a) : t = pure a := by
  unfold pureOf at h
  split at h
  · cases h; rfl
  · cases h
def envS (sc : Scope) : PySem.Env := { scope := sc, locals := 0, globals := 0, cells := [] }
def swp (T : Tc) (ts vs : List Expr) : Option (Option (List Str)) := pureOf (swappedStores [.Tuple ts 0 ⟨0, 0, 0, 0⟩] (.Tuple vs 0 ⟨0, 0, 0, 0⟩) (envS T.sc))
def isComp : Expr → Bool
  | .ListComp _ _ _ _ => true
  | .SetComp _ _ _ _ => true
  | .DictComp _ _ _ _ _ => true
  | _ => false
def trSs (r : Stmt → Option Sm) : List Stmt → Option (List Sm)
  | [] => some []
  | s :: ss => match r s, trSs r ss with
    | some a, some as => some (a :: as)
    | _, _ => none
def nmSlot (T : Tc) (x : Str) : Option Nat := match T.N.findIdx? (· == x) with
  | some i => if locK T x then some i else none
  | none => none
def trSet (rE : Tc → Expr → Option Ep) (T : Tc) (x : Str) (e : Expr) : Option Sm := match nmSlot T x, rE T e with
  | some i, some u => if T.ow.contains i && fresh T u then some (.seto i u) else if T.ow.contains i && freshK u then some (.setk i u) else some (.set i u)
  | _, _ => none
/-- names and what they take: slots, which are lists of one's own, expressions -/
def trAO (rE : Tc → Expr → Option Ep) (T : Tc) : List Expr → List Expr → Option (List Nat × List Nat × List Ep)
  | [], [] => some ([], [], [])
  | .Name x _ :: ts, e :: es => match nmSlot T x, noStar e, rE T e, trAO rE T ts es with
    | some i, true, some u, some (is, os, us) => some (i :: is, (if T.ow.contains i && fresh T u then 1 else if T.ow.contains i && freshK u && !isComp e then 2 else 0) :: os, u :: us)
    | _, _, _, _ => none
  | _, _ => none
/-- targets: names, items of one's own -/
def trTS (rE : Tc → Expr → Option Ep) (T : Tc) : List Expr → Option (List (Nat × Option Ep))
  | [] => some []
  | .Name x _ :: ts => match nmSlot T x, trTS rE T ts with
    | some i, some r => some ((i, none) :: r)
    | _, _ => none
  | .Subscript (.Name x _) b _ :: ts => match slotOf T x, rE T b, noSlice b, trTS rE T ts with
    | some i, some u, true, some r => some ((i, some u) :: r)
    | _, _, _, _ => none
  | _ => none
def allLoc (T : Tc) (xs : List Str) : Bool := xs.all fun x => T.sc.names.lookup x == some .local
/-- kinds written as flags, where no dict is among them -/
def parO (is os : List Nat) (us : List Ep) : Sm := if os.all fun k => decide (k < 2) then .paro is (os.map fun k => k == 1) us else .parok is os us
theorem parO_ex {c : Cfg} {is os : List Nat} {us : List Ep} {ρ : En} : ex c (parO is os us) ρ = bnd (evs c us ρ) fun xs ρ => match setAllK is os xs ρ with
    | none => none
    | some ρ => some (.next, ρ) := by
  unfold parO
  split
  · rename_i h
    rw [ex]
    simp only [setAllO_K h]
    first | done | rfl
  · rw [ex]
    first | done | rfl
/-- names, some of which take new lists, by a tuple -/
def parT (rE : Tc → Expr → Option Ep) (T : Tc) (ts vs : List Expr) : Option Sm := match trAO rE T ts vs with
  | some (is, os, us) => if (os.any fun k => decide (0 < k)) && T.cm && decide (is.length ≤ 1000) then some (parO is os us) else none
  | none => none
def trPar (rE : Tc → Expr → Option Ep) (T : Tc) (ts vs : List Expr) : Option Sm := match swp T ts vs with
  | none => none
  | some none => match parT rE T ts vs with
    | some s => some s
    | none => match trG T 8 (.Tuple ts 0 ⟨0, 0, 0, 0⟩), trA (rE T) vs with
      | some (.tup tt), some xs => some (.unp tt (.tup xs))
      | _, some xs => match trTS rE T ts with
        | some tt => if T.cm && decide (xs.length ≤ 1000) then some (.parS tt xs) else none
        | none => none
      | _, _ => none
  | some (some nms) => match ts, vs with
    | [.Name x _, .Name y _], [a, b] => match nmSlot T x, nmSlot T y, trA (rE T) [a, b] with
      | some i, some j, some xs => if T.cm && i != j && (T.sc.names.lookup x == some .local) && (T.sc.names.lookup y == some .local) && decide (nms = [x, y]) then (match trAO rE T ts vs with
          | some ([i', j'], os, us) => if (os.any fun k => decide (0 < k)) && decide (i' = i) && decide (j' = j) then some (parO [i, j] os us) else some (.par [i, j] xs)
          | _ => some (.par [i, j] xs)) else none
      | _, _, _ => none
    | [.Name x _, .Name y _, .Name z _], [a, b, d] => match trAO rE T ts vs with
      | some ([i, j, l], os, us) => if T.cm && i != j && i != l && j != l && allLoc T [x, y, z] && decide (nms = [x, y, z]) && decide (nmSlot T x = some i) && decide (nmSlot T y = some j) && decide (nmSlot T z = some l) then some (parO [i, j, l] os us) else none
      | _ => none
    | _, _ => none
/-- the class that is raised, called with a text -/
def raised (T : Tc) : Option Expr → Option Expr → Option Str
  | some (.Call (.Name x _) [.Constant (.str _) _ _] [] _), none => if T.cm && glb T x && T.cl.contains x then some x else none
  | _, _ => none
def stepS (rE : Tc → Expr → Option Ep) (rT : Tc → Expr → Option Tp) (T : Tc) (fr : Bool) (r : Stmt → Option Sm) : Stmt → Option Sm
  | .Expr e _ => match e with
    | .Constant (.str _) _ _ => some .pass
    | .Call (.Attribute (.Name x _) m pa) [a] [] pc => if m = Str.ofString "append" then match slotOf T x, noStar a, rE T a with
        | some i, true, some u => if pa.endLine == pc.line then some (.app i u) else none
        | _, _, _ => none
      else if m = Str.ofString "extend" then match slotOf T x, noStar a, rE T a with
        | some i, true, some u => if pa.endLine == pc.line then some (.ext i u) else none
        | _, _, _ => none
      else none
    | e => if isComp e then none else (rE T e).map .expr
  | .Return v _ => match v with
    | some e => match rE T e with
      | some u => if fr then (if fresh T u then some (.ret u) else none) else some (.ret u)
      | none => none
    | none => if fr then none else some .retN
  | .Assign ts v pos => match ts with
    | [.Name x px] => match v with
      | .ListComp _ _ _ _ => trSet rE T x v
      | .DictComp _ _ _ _ _ => trSet rE T x v
      | v => if isComp v then none else trSet rE T x v
    | [.Subscript (.Name x _) b _] => match slotOf T x, rE T b, rE T v with
      | some i, some u, some w => if noSlice b then some (.seti i u w) else none
      | _, _, _ => none
    | [.Tuple ts _ _] => match v with
      | .Tuple vs _ _ => trPar rE T ts vs
      | v => if isComp v then none else match trG T 8 (.Tuple ts 0 ⟨0, 0, 0, 0⟩), rE T v with
        | some (.tup tt), some u => some (.unp tt u)
        | _, _ => none
    | _ => none
  | .If t a b _ => match rT T t, trSs r a, trSs r b with
    | some c, some x, some y => some (.ite c x y)
    | _, _, _ => none
  | .For tg it body orelse _ => match orelse, trG T 8 tg, trI (rE T) T tg it, trSs r body with
    | [], some t, some i, some b => if T.cm && noSet it then some (.for_ t i b) else none
    | _, _, _, _ => none
  | .While t body orelse _ => match orelse, rT T t, trSs r body with
    | [], some c, some b => some (.wh c b)
    | _, _, _ => none
  | .Pass _ => some .pass
  | .Break _ => some .brk
  | .Continue _ => some .cont
  | .Raise e d _ => some (.fail (raised T e d))
  | _ => none
def trS (rE : Tc → Expr → Option Ep) (rT : Tc → Expr → Option Tp) (T : Tc) (fr : Bool) : Nat → Stmt → Option Sm
  | 0 => fun _ => none
  | n + 1 => stepS rE rT T fr (trS rE rT T fr n)
/-- a statement that the small language has not: it is stuck there -/
def orFail (r : Stmt → Option Sm) (st : Stmt) : Option Sm := match r st with
  | some s => some s
  | none => some (.fail none)
/-- a def's body -/
def trBody (T : Tc) (fr : Bool) (body : List Stmt) : Option (List Sm) := trSs (orFail (trS (trs 30).1 (trs 30).2 T fr 12)) body

section
variable {X : Cx} {c : Cfg} {k : Nat} {T : Tc} {rE : Tc → Expr → Option Ep} {rT : Tc → Expr → Option Tp} {fr : Bool}
theorem swapped_sc (ts : List Expr) (v : Expr) (env env' : PySem.Env) (h : env.scope = env'.scope) : swappedStores ts v env = swappedStores ts v env' := by
  unfold swappedStores PySem.Env.blockKind PySem.Env.kindOf
  rw [h]
theorem swp_of (C : Ct X c k T) {ts vs : List Expr} {r : Option (List Str)} {kt k2 : Nat} {pt p2 : Pos} (h : swp T ts vs = some r) : swappedStores [.Tuple ts kt pt] (.Tuple vs k2 p2) X.env = pure r := by
  rw [swapped_sc _ _ X.env (envS T.sc) C.hsc]
  have e : swappedStores [.Tuple ts kt pt] (.Tuple vs k2 p2) (envS T.sc) = swappedStores [.Tuple ts 0 ⟨0, 0, 0, 0⟩] (.Tuple vs 0 ⟨0, 0, 0, 0⟩) (envS T.sc) := rfl
  rw [e]
  exact pureOf_eq h
theorem swaps_no {v : Expr} (h : isComp v = false) (t : Option Expr) (l : Nat) (env : PySem.Env) : swapsWith v t l env = pure false := by
  cases v <;> first | rfl | (simp [isComp] at h)
theorem sole_no {v : Expr} (h : isComp v = false) (t : Expr) (l : Nat) (env : PySem.Env) : swapsWithSole [t] v l env = pure false := swaps_no h _ _ _
theorem nm_of (C : Ct X c k T) {x : Str} {i : Nat} (h : nmSlot T x = some i) : X.N[i]? = some x ∧ Loc X.env.scope x ∧ (X.fn x = true ∨ X.env.scope.names.lookup x = some .local) := by
  unfold nmSlot at h
  split at h
  · rename_i j hj
    split at h
    · rename_i hl
      cases h
      exact ⟨by rw [C.hN]; exact findIdx_get hj, loc_of C hl⟩
    · cases h
  · cases h
/-- swapsWith of a comprehension to a name is a plain answer -/
theorem swaps_comp (C : Ct X c k T) {elt : Expr} {gs : List Comprehension} {scope : Scope} {pos py : Pos} {y : Str} {l : Nat} : swapsWith (.ListComp elt gs scope pos) (some (.Name y py)) l X.env = pure true ∧ X.env.scope.names.lookup y = some .local ∨ swapsWith (.ListComp elt gs scope pos) (some (.Name y py)) l X.env = pure false := by
  have e : swapsWith (.ListComp elt gs scope pos) (some (.Name y py)) l X.env = pure (X.env.blockKind == .function && X.env.kindOf y == some .local && py.line == pos.line && !(scope.names.any fun (n, k) => n == y && (k == .local || k == .cell))) := rfl
  cases hb : (X.env.blockKind == .function && X.env.kindOf y == some .local && py.line == pos.line && !(scope.names.any fun (n, k) => n == y && (k == .local || k == .cell))) with
  | true =>
    rw [e, hb]
    simp only [Bool.and_eq_true, beq_iff_eq] at hb
    exact .inl ⟨rfl, hb.1.1.2⟩
  | false => rw [e, hb]; exact .inr rfl
/-! new dicts -/
theorem said_fk {x : Str} {args : List Expr} {z : Ep} (h : trSaid rE T x args = some z) : freshK z = false := by
  unfold trSaid at h
  split at h
  · split at h
    · obtain ⟨_, _, rfl⟩ := Option.map_eq_some_iff.mp h
      rfl
    · cases h
  · split at h
    · split at h
      · split at h
        · cases h; rfl
        · cases h
      · cases h
    · cases h
  · cases h
theorem callk_fk {r : Expr → Option Ep} {f : Str} {args : List Expr} {kws : List Keyword} {x : Ep} (h : trCallK r T f args kws = some x) : freshK x = false := by
  unfold trCallK at h
  repeat' (split at h)
  all_goals first | (cases h; rfl) | (cases h; done)
theorem lendW_fk {o : Option Nat} {x : Ep} (h : freshK x = false) : freshK (lendW o x) = false := by
  cases o with
  | none => exact h
  | some j => rfl
theorem call_fk {r : Expr → Option Ep} {f : Str} {args : List Expr} {x : Ep} (h : trCall r T f args = some x) : freshK x = false := by
  unfold trCall at h
  repeat' (split at h)
  all_goals first | (cases h; exact lendW_fk rfl) | (cases h; rfl) | (cases h; done) | (obtain ⟨_, _, rfl⟩ := Option.map_eq_some_iff.mp h; rfl)
theorem meth_fk {r : Expr → Option Ep} {o : Expr} {m : Str} {pa pos : Pos} {args : List Expr} {x : Ep} (h : trMeth r T o m pa args pos = some x) : freshK x = false := by
  unfold trMeth at h
  repeat' (split at h)
  all_goals first | (cases h; done) | (obtain ⟨_, _, rfl⟩ := Option.map_eq_some_iff.mp h; rfl)
theorem callK_of {qE : Tc → Expr → Option Ep} {qT : Tc → Expr → Option Tp} (hE : SE c k qE) (hT : ST c k qT) (C : Ct X c k T) {f : Expr} {args : List Expr} {kws : List Keyword} {pos : Pos} {u : Ep} (h : stepE qE qT T (.Call f args kws pos) = some u) (hk : freshK u = true) : PE X (.Call f args kws pos) (tEK X.K (ev c u)) := by
  simp only [stepE] at h
  split at h
  · cases h; cases hk
  split at h
  · split at h
    · rename_i hn
      cases h
      rw [said_fk hn] at hk; cases hk
    split at h
    · rename_i hn
      cases h
      rw [(scomp_of hE hT C (p := pos) (pos := pos) hn).2.2] at hk; cases hk
    split at h
    · rename_i hn
      cases h
      exact (nest_of hE C hn).2.2 hk
    · rw [call_fk h] at hk; cases hk
  · rw [callk_fk h] at hk; cases hk
  · split at h
    · rename_i hn
      cases h
      rw [(pop_of (c := c) C hn).2.2] at hk; cases hk
    · rw [meth_fk h] at hk; cases hk
  · cases h
theorem stepK_of {qE : Tc → Expr → Option Ep} {qT : Tc → Expr → Option Tp} (hE : SE c k qE) (hT : ST c k qT) (C : Ct X c k T) {v : Expr} {u : Ep} (hc : isComp v = false) (h : stepE qE qT T v = some u) (hk : freshK u = true) : PE X v (tEK X.K (ev c u)) := by
  cases v with
  | Call f args kws pos => exact callK_of hE hT C h hk
  | Dict ks vs pos =>
    simp only [stepE] at h
    repeat' (split at h)
    all_goals first | (cases h; cases hk; done) | (cases h; done) | (cases h; exact e_dct0K)
  | DictComp _ _ _ _ _ => cases hc
  | ListComp _ _ _ _ => cases hc
  | Compare a ops cs pos =>
    simp only [stepE] at h
    split at h
    · split at h
      · rename_i hz
        cases h
        rw [(in_of hE C (pos := pos) hz).2.2.2] at hk; cases hk
      · repeat' (split at h)
        all_goals first | (cases h; cases hk; done) | (cases h; done)
    · repeat' (split at h)
      all_goals first | (cases h; cases hk; done) | (cases h; done)
    · cases h
  | BoolOp op vs pos =>
    simp only [stepE] at h
    split at h
    · simp only [trB] at h
      split at h
      · cases op <;> (cases h; cases hk)
      · cases h
    · cases h
  | UnaryOp op a pos =>
    cases op <;> simp only [stepE] at h <;> first | (cases h; done) | (obtain ⟨_, _, rfl⟩ := Option.map_eq_some_iff.mp h; cases hk)
  | _ =>
    simp only [stepE] at h
    repeat' (split at h)
    all_goals first | (cases h; cases hk; done) | (cases h; done) | (obtain ⟨_, _, rfl⟩ := Option.map_eq_some_iff.mp h; cases hk; done)
variable (hE : SE c k rE) (hE2 : SE2 c k rE) (hT : ST c k rT)
/-- name = value, as readings -/
theorem set_of (C : Ct X c k T) {x : Str} {i : Nat} {px pos : Pos} {v : Expr} {u : Ep} (hn : nmSlot T x = some i) (hv : isComp v = false) {t : TE} (he : PE X v t) : PS X (.Assign [.Name x px] v pos) (tAsg t (gName i)) := by
  obtain ⟨h1, h2, h3⟩ := nm_of C hn
  exact ps_set (by rw [C.hN]; exact C.nd) h1 h2 he (swaps_no hv _ _ _) h3
variable {qE : Tc → Expr → Option Ep} {qT : Tc → Expr → Option Tp} (hq : rE = stepE qE qT) (hqE : SE c k qE) (hqT : ST c k qT)
include hE hE2 hT hq hqE hqT in
theorem trSet_ok (C : Ct X c k T) {x : Str} {px pos : Pos} {v : Expr} {s : Sm} (hc : isComp v = false) (h : trSet rE T x v = some s) : PS X (.Assign [.Name x px] v pos) (tS X.K fr (ex c s)) := by
  unfold trSet at h
  split at h
  · rename_i i u h1 h2
    split at h
    · rename_i hf
      rw [Bool.and_eq_true] at hf
      cases h
      exact s_of_seto (set_of C (u := u) h1 hc (hE2 C h2 hf.2))
    · split at h
      · rename_i hf
        rw [Bool.and_eq_true] at hf
        cases h
        rw [hq] at h2
        exact s_of_setk (set_of C (u := u) h1 hc (stepK_of hqE hqT C hc h2 hf.2))
      · cases h
        exact s_of_set (set_of C (u := u) h1 hc (hE C h2))
  · cases h
theorem comp_fk {qE : Tc → Expr → Option Ep} {qT : Tc → Expr → Option Tp} {elt : Expr} {gens : List Comprehension} {scope : Scope} {u : Ep} (h : trComp qE qT T elt gens scope = some u) : freshK u = false := by
  unfold trComp at h
  repeat' (split at h)
  all_goals first | (cases h; rfl) | (cases h; done)
theorem setLc2_of {qE : Tc → Expr → Option Ep} {qT : Tc → Expr → Option Tp} (hqE : SE c k qE) (hqT : ST c k qT) (C : Ct X c k T) {x : Str} {px pos p2 : Pos} {i : Nat} {elt : Expr} {gens : List Comprehension} {scope : Scope} {u : Ep} (hg1 : gens.length ≠ 1) (n1 : X.N[i]? = some x) (hl : X.env.scope.names.lookup x = some .local)
    (hsw : swapsWith (.ListComp elt gens scope p2) (some (.Name x px)) pos.line X.env = pure true) (h : trComp qE qT T elt gens scope = some u) : PS X (.Assign [.Name x px] (.ListComp elt gens scope p2) pos) (tAsg (tEL X.K (ev c u)) (gName i)) := by
  unfold trComp at h
  split at h
  · simp at hg1
  · rename_i tg iter ifs tg2 iter2 ifs2
    split at h
    · rename_i it t cs y h2 h3 h4 h5
      split at h
      · rename_i it2 t2 cs2 k2 k3 k4
        split at h
        · rename_i hc
          cases h
          simp only [Bool.and_eq_true] at hc
          obtain ⟨⟨⟨⟨⟨hcm, hb⟩, hs⟩, hs2⟩, hn⟩, hn2⟩ := hc
          have ok := blkOk_by hb
          have sub : ∀ {l : List Nat}, l.all (fun j => ((ownOf T scope).map (·.2)).contains j) = true → ∀ j ∈ l, j ∈ (ownOf T scope).map (·.2) := fun {l} hl j hj => by
            have := List.all_eq_true.mp hl j hj
            simpa using this
          rw [ev_comp2]
          exact (ps_setLc2 (C.calm hcm) (by rw [C.hN]; exact C.nd) n1 hl hsw (i_of hqE C h2) (by rw [C.hN, C.hsc]; exact ok) (sub hs2) (fun s H a cl fp => g_of (blk_ct C ok.kind) h3) (fun s H a cl fp => ts_of hqT (blk_ct C ok.kind) h4) (fun s H a cl fp => i_of hqE (blk_ct C ok.kind) k2)
            (fun s H a cl fp => g_of (blk_ct C ok.kind) k3) (fun s H a cl fp => ts_of hqT (blk_ct C ok.kind) k4) (fun s H a cl fp => hqE (blk_ct C ok.kind) h5) (set_fold X.env hn) (fun env => set_fold env hn2)).wk fun D σ H h => lc2_rd (sub hs) (fun j hj => hj) σ H _ h
        · cases h
      · cases h
    · cases h
  · cases h
include hE hE2 hq hqE hqT in
theorem trSetC_ok (C : Ct X c k T) {x : Str} {px pos p2 : Pos} {elt : Expr} {gens : List Comprehension} {scope : Scope} {s : Sm} (h : trSet rE T x (.ListComp elt gens scope p2) = some s) : PS X (.Assign [.Name x px] (.ListComp elt gens scope p2) pos) (tS X.K fr (ex c s)) := by
  unfold trSet at h
  split at h
  · rename_i i u h1 h2
    obtain ⟨n1, n2, n3⟩ := nm_of C h1
    have hND : X.N.Nodup := by rw [C.hN]; exact C.nd
    have h2' : trComp qE qT T elt gens scope = some u := by
      rw [hq] at h2
      simpa only [stepE] using h2
    have hL : PS X (.Assign [.Name x px] (.ListComp elt gens scope p2) pos) (tAsg (tEL X.K (ev c u)) (gName i)) := by
      rcases swaps_comp C (elt := elt) (gs := gens) (scope := scope) (pos := p2) (py := px) (y := x) (l := pos.line) with ⟨hsw, hl⟩ | hsw
      · by_cases hg1 : gens.length = 1
        case neg => exact setLc2_of hqE hqT C hg1 n1 hl hsw h2'
        obtain ⟨tg, iter, ifs, own, t, it, cs, y, rfl, rfl, g1, g2, g3, g4, g5, g6, g7, g8⟩ := comp_parts hqE hqT C hg1 h2'
        rw [ev_comp]
        exact s_setLc g8 hND n1 hl hsw g1 g2 rfl g3 g4 g5 g6 g7
      · exact ps_set hND n1 n2 (comp_of hqE hqT C h2').1 hsw n3
    have hl := (comp_of hqE hqT C (pos := p2) h2').2
    have hk : freshK u = false := comp_fk h2'
    rw [hk, Bool.and_false] at h
    simp only [Bool.false_eq_true, if_false] at h
    split at h
    · cases h
      exact s_of_seto hL
    · cases h
      exact s_of_setL hL hl
  · cases h
theorem swaps_dcomp (C : Ct X c k T) {kx vx : Expr} {gs : List Comprehension} {scope : Scope} {pos py : Pos} {y : Str} {l : Nat} : swapsWith (.DictComp kx vx gs scope pos) (some (.Name y py)) l X.env = pure true ∧ X.env.scope.names.lookup y = some .local ∨ swapsWith (.DictComp kx vx gs scope pos) (some (.Name y py)) l X.env = pure false := by
  have e : swapsWith (.DictComp kx vx gs scope pos) (some (.Name y py)) l X.env = pure (X.env.blockKind == .function && X.env.kindOf y == some .local && py.line == pos.line && !(scope.names.any fun (n, k) => n == y && (k == .local || k == .cell))) := rfl
  cases hb : (X.env.blockKind == .function && X.env.kindOf y == some .local && py.line == pos.line && !(scope.names.any fun (n, k) => n == y && (k == .local || k == .cell))) with
  | true =>
    rw [e, hb]
    simp only [Bool.and_eq_true, beq_iff_eq] at hb
    exact .inl ⟨rfl, hb.1.1.2⟩
  | false => rw [e, hb]; exact .inr rfl
include hE hE2 hq hqE hqT in
theorem trSetD_ok (C : Ct X c k T) {x : Str} {px pos p2 : Pos} {kx vx : Expr} {gens : List Comprehension} {scope : Scope} {s : Sm} (h : trSet rE T x (.DictComp kx vx gens scope p2) = some s) : PS X (.Assign [.Name x px] (.DictComp kx vx gens scope p2) pos) (tS X.K fr (ex c s)) := by
  unfold trSet at h
  split at h
  · rename_i i u h1 h2
    obtain ⟨n1, n2, n3⟩ := nm_of C h1
    have hND : X.N.Nodup := by rw [C.hN]; exact C.nd
    have h2' : trDComp qE qT T kx vx gens scope = some u := by
      rw [hq] at h2
      simpa only [stepE] using h2
    obtain ⟨d1, hl, hf⟩ := dcomp_of hqE hqT C (pos := p2) h2'
    have hL : PS X (.Assign [.Name x px] (.DictComp kx vx gens scope p2) pos) (tAsg (tEK X.K (ev c u)) (gName i)) := by
      rcases swaps_dcomp C (kx := kx) (vx := vx) (gs := gens) (scope := scope) (pos := p2) (py := px) (y := x) (l := pos.line) with ⟨hsw, hlo⟩ | hsw
      · obtain ⟨tg, iter, ifs, own, t, it, cs, u', v', rfl, rfl, g1, g2, g3, g4, g5, g6, g7, g8, g9⟩ := dcomp_parts hqE hqT C h2'
        rw [ev_dcomp]
        exact s_setDc g9 hND n1 hlo hsw g1 g2 rfl g3 g4 g5 g6 g7 g8
      · exact ps_set hND n1 n2 d1 hsw n3
    rw [hf, Bool.and_false] at h
    simp only [Bool.false_eq_true, if_false] at h
    split at h
    · cases h
      exact s_of_setk hL
    · cases h
      exact s_of_setK hL hl
  · cases h
include hE in
/-- several targets -/
theorem ts_ok (C : Ct X c k T) : ∀ {ts : List Expr} {tt : List (Nat × Option Ep)}, trTS rE T ts = some tt → PGs X ts (tGP X.K (stoS (ev c) tt)) ∧ (assignEach ts X.env).length = tt.length ∧ (assignEach ts X.env).findIdx? (·.1) = none
  | [], tt, h => by
    simp only [trTS] at h
    cases h
    exact ⟨gp_nil, rfl, rfl⟩
  | t :: ts, tt, h => by
    cases t with
    | Name x p =>
      simp only [trTS] at h
      split at h
      · rename_i i r h1 h2
        cases h
        obtain ⟨a1, a2, a3⟩ := ts_ok C h2
        obtain ⟨n1, n2, n3⟩ := nm_of C h1
        refine ⟨gp_name (by rw [C.hN]; exact C.nd) n1 n2 n3 a1 rfl, by rw [show assignEach (.Name x p :: ts) X.env = (false, assign (.Name x p) X.env) :: assignEach ts X.env from rfl]; simp [a2], ?_⟩
        rw [show assignEach (.Name x p :: ts) X.env = (false, assign (.Name x p) X.env) :: assignEach ts X.env from rfl, List.findIdx?_cons, a3]
        rfl
      · cases h
    | Subscript o b p =>
      cases o with
      | Name x px =>
        simp only [trTS] at h
        split at h
        · rename_i i u r h1 h2 h3 h4
          cases h
          obtain ⟨a1, a2, a3⟩ := ts_ok C h4
          obtain ⟨s1, s2, s3, s4⟩ := slot_of C h1
          refine ⟨gp_sub C.un s1 s2 s3 s4 (hE C h2) a1 (fun vv => ?_) rfl, by rw [show assignEach (.Subscript (.Name x px) b p :: ts) X.env = (false, assign (.Subscript (.Name x px) b p) X.env) :: assignEach ts X.env from rfl]; simp [a2], ?_⟩
          · cases b <;> first | rfl | (simp [noSlice] at h3)
          · rw [show assignEach (.Subscript (.Name x px) b p :: ts) X.env = (false, assign (.Subscript (.Name x px) b p) X.env) :: assignEach ts X.env from rfl, List.findIdx?_cons, a3]
            rfl
        · cases h
      | _ => simp only [trTS] at h; cases h
    | _ => simp only [trTS] at h; cases h
include hE hE2 hq hqE hqT in
theorem ao_of (C : Ct X c k T) : ∀ {ts es : List Expr} {is : List Nat} {os : List Nat} {us : List Ep}, trAO rE T ts es = some (is, os, us) → PA X es (tAF X.K os (evs c us))
  | [], [], is, os, us, h => by simp only [trAO] at h; cases h; exact af_nil
  | [], _ :: _, is, os, us, h => by simp only [trAO] at h; cases h
  | t :: ts, [], is, os, us, h => by cases t <;> (simp only [trAO] at h; cases h)
  | t :: ts, e :: es, is, os, us, h => by
    cases t <;> simp only [trAO] at h <;> first | (cases h; done) | skip
    split at h
    · rename_i i u is' os' us' h1 h2 h3 h4
      cases h
      have ih := ao_of C h4
      have hs := star_of (es := es) X.env h2
      split
      · rename_i hf
        rw [Bool.and_eq_true] at hf
        exact af_own (hE2 C h3 hf.2) ih hs
      · split
        · rename_i hf
          rw [Bool.and_eq_true, Bool.and_eq_true] at hf
          have h3' := h3
          rw [hq] at h3'
          exact af_ownK (stepK_of hqE hqT C (by simpa using hf.2) h3' hf.1.2) ih hs
        · exact af_dat (hE C h3) ih hs
    · cases h
theorem ao_names (C : Ct X c k T) : ∀ {ts es : List Expr} {is : List Nat} {os : List Nat} {us : List Ep}, trAO rE T ts es = some (is, os, us) → NmAll X ts is
  | [], [], is, os, us, h => by simp only [trAO] at h; cases h; exact .nil
  | [], _ :: _, is, os, us, h => by simp only [trAO] at h; cases h
  | t :: ts, [], is, os, us, h => by cases t <;> (simp only [trAO] at h; cases h)
  | t :: ts, e :: es, is, os, us, h => by
    cases t <;> simp only [trAO] at h <;> first | (cases h; done) | skip
    split at h
    · rename_i i u is' os' us' h1 h2 h3 h4
      cases h
      obtain ⟨n1, n2, n3⟩ := nm_of C h1
      exact .cons n1 n2 n3 (ao_names C h4)
    · cases h
include hE hE2 hq hqE hqT in
theorem trPar_ok (C : Ct X c k T) {ts vs : List Expr} {kt k2 : Nat} {pt p2 pos : Pos} {s : Sm} (h : trPar rE T ts vs = some s) : PS X (.Assign [.Tuple ts kt pt] (.Tuple vs k2 p2) pos) (tS X.K fr (ex c s)) := by
  unfold trPar at h
  split at h
  · cases h
  · rename_i hsw
    split at h
    · rename_i sm h1
      cases h
      unfold parT at h1
      split at h1
      · rename_i is os us h4
        split at h1
        · rename_i hc
          cases h1
          rw [Bool.and_eq_true, Bool.and_eq_true, decide_eq_true_eq] at hc
          simp only [funext fun ρ => parO_ex (c := c) (is := is) (os := os) (us := us) (ρ := ρ)]
          exact s_paroT (C.calm hc.1.2) (by rw [C.hN]; exact C.nd) (ao_names C h4) (ao_of hE hE2 hq hqE hqT C h4) hc.2 (swp_of C hsw)
        · cases h1
      · cases h1
    split at h
    · rename_i tt xs h1 h2
      cases h
      obtain ⟨a1, _, _⟩ := a_of hE C h2
      have hg : PG X (.Tuple ts kt pt) (tG X.K (slotsT (.tup tt)) (bindT (.tup tt))) := by
        have := g_of C (n := 8) (e := .Tuple ts kt pt) (t := .tup tt) (by simpa only [trG] using h1)
        exact this
      refine s_unp (tg := .Tuple ts kt pt) ?_
      refine ps_asg ?_ hg rfl (swp_of C hsw) rfl
      rw [ev_tup]
      exact never_if fun hl => e_tup a1 fun ρ ys ρ' e => lst_ok hl e
    · rename_i xs h2 hno
      split at h
      · rename_i tt h3
        split at h
        · rename_i hcm
          cases h
          rw [Bool.and_eq_true, decide_eq_true_eq] at hcm
          obtain ⟨a1, _, _⟩ := a_of hE C h2
          obtain ⟨b1, b2, b3⟩ := ts_ok hE C h3
          exact s_parS (C.calm hcm.1) b1 b2 b3 a1 (fun ρ ys ρ' e => lst_ok (Nat.le_trans hcm.2 (by decide)) e) (swp_of C hsw)
        · cases h
      · cases h
    · cases h
  · rename_i nms hsw
    split at h
    · rename_i x px y py
      split at h
      · rename_i i j xs h1 h2 h3
        split at h
        · rename_i hc
          simp only [Bool.and_eq_true, beq_iff_eq, bne_iff_ne, ne_eq, decide_eq_true_eq] at hc
          obtain ⟨⟨⟨⟨hcm, hij⟩, hx⟩, hy⟩, hnm⟩ := hc
          subst hnm
          obtain ⟨n1, _, _⟩ := nm_of C h1
          obtain ⟨m1, _, _⟩ := nm_of C h2
          obtain ⟨a1, _, _⟩ := a_of hE C h3
          have hND : X.N.Nodup := by rw [C.hN]; exact C.nd
          have hw := swp_of C (kt := kt) (k2 := k2) (pt := pt) (p2 := p2) hsw
          have plain := s_par2 (fr := fr) (C.calm hcm) hND n1 m1 hij (by rw [C.hsc]; exact hx) (by rw [C.hsc]; exact hy) a1 hw (pos := pos) rfl
          split at h
          · rename_i i' j' os us h4
            split at h
            · cases h
              simp only [funext fun ρ => parO_ex (c := c) (is := [i, j]) (os := os) (us := us) (ρ := ρ)]
              exact s_paro2 (C.calm hcm) hND n1 m1 hij (by rw [C.hsc]; exact hx) (by rw [C.hsc]; exact hy) (ao_of hE hE2 hq hqE hqT C h4) hw rfl
            · cases h
              exact plain
          · cases h
            exact plain
        · cases h
      · cases h
    · rename_i x px y py z pz a b d
      split at h
      · rename_i i j l os us h4
        split at h
        · rename_i hc
          cases h
          simp only [Bool.and_eq_true, beq_iff_eq, bne_iff_ne, ne_eq, decide_eq_true_eq, allLoc, List.all_cons, List.all_nil] at hc
          obtain ⟨⟨⟨⟨⟨⟨⟨⟨hcm, hij⟩, hil⟩, hjl⟩, hx, hy, hz, _⟩, hnm⟩, s1⟩, s2⟩, s3⟩ := hc
          subst hnm
          obtain ⟨n1, _, _⟩ := nm_of C s1
          obtain ⟨n2, _, _⟩ := nm_of C s2
          obtain ⟨n3, _, _⟩ := nm_of C s3
          have hND : X.N.Nodup := by rw [C.hN]; exact C.nd
          have hw := swp_of C (kt := kt) (k2 := k2) (pt := pt) (p2 := p2) hsw
          simp only [funext fun ρ => parO_ex (c := c) (is := [i, j, l]) (os := os) (us := us) (ρ := ρ)]
          exact s_paro3 (C.calm hcm) hND n1 n2 n3 hij hil hjl (by rw [C.hsc]; exact hx) (by rw [C.hsc]; exact hy) (by rw [C.hsc]; exact hz) (ao_of hE hE2 hq hqE hqT C h4) hw rfl
        · cases h
      · cases h
    · cases h
theorem ss_of {r : Stmt → Option Sm} (hr : ∀ {st s}, r st = some s → PS X st (tS X.K fr (ex c s))) : ∀ {ss : List Stmt} {xs : List Sm}, trSs r ss = some xs → PSs X ss (tS X.K fr (exs c xs))
  | [], xs, h => by
    simp only [trSs] at h
    cases h
    exact ss_nil
  | s :: ss, xs, h => by
    simp only [trSs] at h
    split at h
    · rename_i a as h1 h2
      cases h
      exact ss_cons (hr h1) (ss_of hr h2)
    · cases h
include hE hE2 hT hq hqE hqT in
theorem stepS_ok (C : Ct X c k T) {r : Stmt → Option Sm} (hr : ∀ {st s}, r st = some s → PS X st (tS X.K fr (ex c s))) {st : Stmt} {s : Sm} (h : stepS rE rT T fr r st = some s) : PS X st (tS X.K fr (ex c s)) := by
  have hp : PassesOwn (model X.prog X.w) X.A X.env X.xe := by rw [C.xe]; exact PassesOwn.never
  cases st with
  | Expr e pos =>
    simp only [stepS] at h
    split at h
    · cases h; exact s_doc
    · rename_i x px m pa a pc
      split at h
      · rename_i hm
        subst hm
        split at h
        · rename_i i u h1 h2 h3
          split at h
          · rename_i hl
            cases h
            obtain ⟨s1, s2, s3, s4⟩ := slot_of C h1
            exact s_app s1 s2 s3 s4 (hE C h3) (star_of X.env h2) hl
          · cases h
        · cases h
      · split at h
        · rename_i hm
          subst hm
          split at h
          · rename_i i u h1 h2 h3
            split at h
            · rename_i hl
              cases h
              obtain ⟨s1, s2, s3, s4⟩ := slot_of C h1
              exact s_ext s1 s2 s3 s4 (hE C h3) (star_of X.env h2) hl
            · cases h
          · cases h
        · cases h
    · split at h
      · cases h
      · rename_i hc
        obtain ⟨u, h1, h2⟩ := Option.map_eq_some_iff.mp h
        subst h2
        exact s_expr (hE C h1) (swaps_no (by simpa using hc) _ _ _)
  | Return v pos =>
    simp only [stepS] at h
    split at h
    · split at h
      · rename_i e u h1
        cases fr with
        | true =>
          simp only [if_true] at h
          split at h
          · rename_i hf
            cases h
            exact s_retL (hE2 C h1 hf)
          · cases h
        | false =>
          cases h
          exact s_ret (hE C h1)
      · cases h
    · cases fr with
      | true => cases h
      | false => cases h; exact s_retN
  | Assign ts v pos =>
    simp only [stepS] at h
    split at h
    · rename_i x px
      split at h
      · exact trSetC_ok hE hE2 hq hqE hqT C h
      · exact trSetD_ok hE hE2 hq hqE hqT C h
      · split at h
        · cases h
        · rename_i hc
          exact trSet_ok hE hE2 hT hq hqE hqT C (by simpa using hc) h
    · rename_i x px b ps
      split at h
      · rename_i i u w h1 h2 h3
        split at h
        · rename_i hc
          cases h
          obtain ⟨s1, s2, s3, s4⟩ := slot_of C h1
          refine s_seti C.un s1 s2 s3 s4 (hE C h3) (hE C h2) ?_ ?_ rfl fun vv => ?_
          · cases v <;> rfl
          · cases v <;> rfl
          · have hb := hc
            cases b <;> first | rfl | (simp [noSlice] at hb)
        · cases h
      · cases h
    · rename_i ts kt pt
      split at h
      · exact trPar_ok hE hE2 hq hqE hqT C h
      · split at h
        · cases h
        · rename_i hnt hc
          split at h
          · rename_i tt u h1 h2
            cases h
            have hg : PG X (.Tuple ts kt pt) (tG X.K (slotsT (.tup tt)) (bindT (.tup tt))) := g_of C (n := 8) (e := .Tuple ts kt pt) (t := .tup tt) (by simpa only [trG] using h1)
            refine s_unp (tg := .Tuple ts kt pt) (ps_asg (hE C h2) hg (sole_no (by simpa using hc) _ _ _) ?_ rfl)
            cases v <;> first | rfl | exact (hnt _ _ _ rfl).elim
          · cases h
    · cases h
  | If t a b pos =>
    simp only [stepS] at h
    split at h
    · rename_i cc x y h1 h2 h3
      cases h
      exact s_ite (hT C h1) (ss_of hr h2) (ss_of hr h3)
    · cases h
  | For tg it body orelse pos =>
    simp only [stepS] at h
    split at h
    · rename_i t i b h1 h2 h3
      split at h
      · rename_i hn
        cases h
        rw [Bool.and_eq_true] at hn
        exact s_for hp (C.calm hn.1) (i_of hE C h2) (g_of C h1) (ss_of hr h3) (set_fold X.env hn.2)
      · cases h
    · cases h
  | While t body orelse pos =>
    simp only [stepS] at h
    split at h
    · rename_i cc b h1 h2
      cases h
      exact s_wh hp (hT C h1) (ss_of hr h2)
    · cases h
  | Pass pos => simp only [stepS] at h; cases h; exact s_pass
  | Break pos => simp only [stepS] at h; cases h; exact s_brk
  | Continue pos => simp only [stepS] at h; cases h; exact s_cont
  | Raise a b pos => simp only [stepS] at h; cases h; exact s_never
  | _ => simp only [stepS] at h; cases h
end
/-- a def's body, as translated -/
theorem body_ok {X : Cx} {c : Cfg} {k : Nat} {T : Tc} {fr : Bool} (C : Ct X c k T) {body : List Stmt} {xs : List Sm} (h : trBody T fr body = some xs) : PSs X body (tS X.K fr (exs c xs)) := by
  obtain ⟨h1, h2, h3⟩ := trs_ok (c := c) (k := k) 30
  obtain ⟨q1, q2, q3⟩ := trs_ok (c := c) (k := k) 29
  have all : ∀ n, ∀ {st s}, trS (trs 30).1 (trs 30).2 T fr n st = some s → PS X st (tS X.K fr (ex c s)) := by
    intro n
    induction n with
    | zero => intro st s h; cases h
    | succ n ih => intro st s h; exact stepS_ok h1 h2 h3 rfl q1 q3 C ih h
  refine ss_of (fun {st s} hs => ?_) h
  unfold orFail at hs
  split at hs
  · rename_i e
    cases hs
    exact all 12 e
  · cases hs
    exact s_never
end Wh

set_option Elab.async false
set_option linter.all false
set_option maxRecDepth 100000
set_option maxHeartbeats 2000000
set_option exponentiation.threshold 5000
/-! Wh14b: statements that raise. -/
namespace Wh
open PySem PySem.Spec PyProof.Rows L2 Evl
variable [Tbl]
/-- a class of the program that can be raised with a text -/
structure ClsOk (X : Cx) (x : Str) (C : Addr) : Prop where
  mg : X.mg x = some (.ref C)
  kp : PySem.W.keepIn X.K (.ref C) = true
  ex : ∃ (B newId initId : String) (bmB : List Value), ExcBaseFacts B newId initId bmB ∧ PySem.W.excIn X.K C bmB newId = true
  rs : Raises X (.ref C)
/-- the reading of statements that raise -/
def tR (K : PySem.W.Frag) (mg : Str → Option Value) (g : En → Option Str) (W : WX) : TS := fun _ σ H => ∃ ρ F e C, Rep K ρ σ F H ∧ g ρ = some e ∧ mg e = some (.ref C) ∧ ∀ ρ' σ' F' H', Rep K ρ' σ' F' H' → Stp ρ σ F H ρ' σ' F' H' → W (.ref C) none σ' H'
section
variable {X : Cx} {c : Cfg} {k : Nat} {T : Tc} {rE : Tc → Expr → Option Ep} {rT : Tc → Expr → Option Tp} {W : WX} {fr : Bool}
/-- only a call of a def is translated to one -/
theorem call_inv {e : Expr} {f : Str} {es : List Ep} (h : stepE rE rT T e = some (.call f es)) : ∃ p args pos, e = .Call (.Name f p) args [] pos ∧ glb T f = true ∧ T.cm = true ∧ trA (rE T) args = some es ∧ koK (T.kw f) = false := by
  cases e with
  | Call g args kws pos =>
    simp only [stepE] at h
    split at h
    · cases h
    split at h
    · rename_i f' p hec
      split at h
      · rename_i z hz
        cases h
        unfold trSaid at hz
        split at hz
        · split at hz
          · obtain ⟨_, _, z⟩ := Option.map_eq_some_iff.mp hz
            cases z
          · cases hz
        · repeat' split at hz
          all_goals cases hz
        · cases hz
      split at h
      · rename_i z hz
        cases h
        unfold trSComp at hz
        repeat' split at hz
        all_goals cases hz
      split at h
      · rename_i z hz
        cases h
        unfold trNest at hz
        repeat' split at hz
        all_goals first
          | (obtain ⟨_, _, z⟩ := Option.map_eq_some_iff.mp hz; cases z; done)
          | cases hz
      · unfold trCall at h
        split at h
        · cases h
        rename_i hg
        split at h
        · repeat' split at h
          all_goals cases h
        split at h
        · cases h
        rename_i hcm
        split at h
        · repeat' split at h
          all_goals cases h
        split at h
        · repeat' split at h
          all_goals cases h
        split at h
        · split at h
          · split at h
            · have no : ∀ {o : Option Nat} {i : Nat} {xs : List Ep}, some (lendW o (.callp f' i xs)) ≠ some (Ep.call f es) := fun {o i xs} z => by
                cases o <;> cases z
              exact absurd h no
            · cases h
          · cases h
        split at h
        · split at h
          · obtain ⟨_, _, z⟩ := Option.map_eq_some_iff.mp h
            cases z
          · cases h
        · split at h
          case h_2 => cases h
          rename_i xs h1 hko
          cases hla : lentArg T args with
          | some j => rw [hla] at h; cases h
          | none =>
            rw [hla] at h
            cases h
            exact ⟨p, args, pos, rfl, by simpa using hg, by simpa using hcm, h1, hko⟩
    · unfold trCallK at h
      repeat' split at h
      all_goals cases h
    · split at h
      · rename_i z hz
        cases h
        unfold trPop at hz
        repeat' split at hz
        all_goals cases hz
      unfold trMeth at h
      repeat' split at h
      all_goals first
        | (obtain ⟨_, _, z⟩ := Option.map_eq_some_iff.mp h; cases z; done)
        | cases h
    · cases h
  | DictComp kx vx gens scope p =>
    simp only [stepE] at h
    unfold trDComp at h
    repeat' split at h
    all_goals cases h
  | BoolOp op vs p =>
    simp only [stepE] at h
    split at h
    · simp only [trB] at h
      repeat' split at h
      all_goals cases h
    · cases h
  | ListComp elt gens scope p =>
    simp only [stepE] at h
    unfold trComp at h
    repeat' split at h
    all_goals cases h
  | Compare a ops cs p =>
    simp only [stepE] at h
    split at h
    · split at h
      · rename_i z hz
        cases h
        unfold trIn trNil at hz
        repeat' split at hz
        all_goals first
          | (obtain ⟨_, _, z⟩ := Option.map_eq_some_iff.mp hz; cases z; done)
          | cases hz
      · repeat' split at h
        all_goals cases h
    · repeat' split at h
      all_goals cases h
    · cases h
  | UnaryOp op a p =>
    cases op <;> simp only [stepE] at h
    all_goals first
      | (obtain ⟨_, _, z⟩ := Option.map_eq_some_iff.mp h; cases z; done)
      | (cases h; done)
  | _ =>
    simp only [stepE] at h
    repeat' split at h
    all_goals first
      | (obtain ⟨_, _, z⟩ := Option.map_eq_some_iff.mp h; cases z; done)
      | (cases h; done)
theorem PG_nox {tg : Expr} {g : TG} (h : PG X.nox tg g) : PG X tg g := ⟨fun pins s σ H x u R I r hw =>
  wpAny_mono (h.run pins s σ H x u R (I.wish _) r hw) (fun _ _ ⟨σ', H', I', q⟩ => ⟨σ', H', I'.unwish, q⟩) fun _ _ z => False.elim z⟩
theorem xcall_of (hE : SE c k rE) (C : Ct X.nox c k T) (tk : L2.Takes X W) {e : Expr} {f : Str} {u : Ep} {es : List Ep} (h : stepE rE rT T e = some (.call f (u :: es))) : PE X e (tX X.K X.mg (evs c (u :: es)) (c.exc f) W) := by
  obtain ⟨p, args, pos, rfl, hg, hcm, h1, hko⟩ := call_inv h
  obtain ⟨a1, _, a3⟩ := a_of hE C h1
  obtain ⟨g1, g2⟩ := gl_of C hg
  cases args with
  | nil => simp only [trA] at h1; cases h1
  | cons a as =>
    have hs := star_of (es := as) X.env (a3 a as rfl)
    have hp := stars_no h1 pos X.env
    rw [hs] at hp
    exact x_call C.exc hko tk ((C.room hcm).mono (by omega)) C.gd g1 g2 (PA_nox a1) hs hp
/-- an expression that raises -/
theorem xc_of (hE : SE c k rE) (C : Ct X.nox c k T) (tk : L2.Takes X W) {e : Expr} {u : Ep} (h : stepE rE rT T e = some u) : PE X e (fun σ H _ => ∃ ρ F en Ca, Rep X.K ρ σ F H ∧ exC c u ρ = some en ∧ X.mg en = some (.ref Ca) ∧ ∀ ρ' F' H', Rep X.K ρ' σ F' H' → StpE ρ σ F H ρ' F' H' → W (.ref Ca) none σ H') := by
  refine ⟨fun pins s σ H Q I hw => ?_⟩
  obtain ⟨ρ, F, en, Ca, rep, e1, hm, q⟩ := hw
  unfold exC at e1
  split at e1
  · rename_i f u' es
    split at e1
    · rename_i xs ρ1 e2
      exact (xcall_of hE C tk h).run pins s σ H Q I ⟨ρ, F, xs, ρ1, en, Ca, rep, e2, e1, hm, fun F' H' r st => q ρ1 F' H' r st⟩
    · cases e1
  · cases e1
theorem never_R {st : Stmt} {g : En → Option Str} (h : ∀ ρ, g ρ = none) : PS X st (tR X.K X.mg g W) := ⟨fun pins s σ H D I hw => by
  obtain ⟨ρ, F, en, Ca, rep, e1, hm, q⟩ := hw
  rw [h] at e1
  cases e1⟩
theorem sx_cons {st : Stmt} {rest : List Stmt} {s : Sm} {ss : List Sm} (h1 : PS X st (tS X.K fr (ex c s))) (h2 : PS X st (tR X.K X.mg (exR c s) W)) (h3 : PSs X rest (tR X.K X.mg (exRs c ss) W)) : PSs X (st :: rest) (tR X.K X.mg (exRs c (s :: ss)) W) := by
  refine ⟨fun pins s' σ H D I hw => ?_⟩
  obtain ⟨ρ, F, en, Ca, rep, e1, hm, q⟩ := hw
  unfold exRs at e1
  split at e1
  · rename_i ρ1 e2
    refine (pss_cons h1 h3).run pins s' σ H D I ⟨ρ, F, .next, ρ1, rep, e2, fun σ1 F1 H1 rep1 st1 => ?_⟩
    exact ⟨ρ1, F1, en, Ca, rep1, e1, hm, fun ρ' σ' F' H' r st => q ρ' σ' F' H' r (st1.trans st)⟩
  · cases e1
  · exact (pss_cons h2 h3).run pins s' σ H D I ⟨ρ, F, en, Ca, rep, e1, hm, q⟩
theorem sx_of {r : Stmt → Option Sm} (hr : ∀ {st s}, r st = some s → PS X.nox st (tS X.K fr (ex c s))) (hx : ∀ {st s}, r st = some s → PS X st (tR X.K X.mg (exR c s) W)) : ∀ {ss : List Stmt} {xs : List Sm}, trSs r ss = some xs → PSs X ss (tR X.K X.mg (exRs c xs) W)
  | [], xs, h => by
    simp only [trSs] at h
    cases h
    refine ⟨fun pins s σ H D I hw => ?_⟩
    obtain ⟨ρ, F, en, Ca, rep, e1, hm, q⟩ := hw
    unfold exRs at e1
    cases e1
  | st :: ss, xs, h => by
    simp only [trSs] at h
    split at h
    · rename_i a as h1 h2
      cases h
      exact sx_cons (PS_nox (hr h1)) (hx h1) (sx_of hr hx h2)
    · cases h
theorem parO_R {is os : List Nat} {us : List Ep} {ρ : En} : exR c (parO is os us) ρ = none := by
  unfold parO
  split <;> simp only [exR]
theorem par_R {ts vs : List Expr} {s : Sm} (h : trPar rE T ts vs = some s) (ρ : En) : exR c s ρ = none := by
  have hp : ∀ {s : Sm}, parT rE T ts vs = some s → exR c s ρ = none := fun {s} h => by
    unfold parT at h
    repeat' split at h
    all_goals first
      | (cases h; done)
      | (cases h; exact parO_R)
      | (cases h; simp only [exR]; done)
  unfold trPar at h
  repeat' split at h
  all_goals first
    | (cases h; done)
    | (cases h; exact hp ‹parT rE T ts vs = some _›)
    | (cases h; exact parO_R)
    | (cases h; simp only [exR]; done)
    | (cases h; simp only [exR, exC]; done)
variable {qE : Tc → Expr → Option Ep} {qT : Tc → Expr → Option Tp}
theorem stepX_ok (hq : rE = stepE qE qT) (hqE : SE c k qE) (hT : ST c k rT) (C : Ct X.nox c k T) (tk : L2.Takes X W) (hc : X.calm = true) (hcl : ∀ x ∈ T.cl, ∃ Ca, ClsOk X x Ca) {r : Stmt → Option Sm} (hr : ∀ {st s}, r st = some s → PS X.nox st (tS X.K fr (ex c s))) (hx : ∀ {st s}, r st = some s → PS X st (tR X.K X.mg (exR c s) W)) {st : Stmt} {s : Sm} (h : stepS rE rT T fr r st = some s) :
    PS X st (tR X.K X.mg (exR c s) W) := by
  have none_of : (∀ ρ, exR c s ρ = none) → PS X st (tR X.K X.mg (exR c s) W) := never_R
  subst hq
  cases st with
  | Raise a b pos =>
    simp only [stepS] at h
    cases h
    unfold raised
    split
    · rename_i x px m j p2 pos'
      split
      · rename_i hg
        simp only [Bool.and_eq_true] at hg
        obtain ⟨⟨hcm, hgx⟩, hin⟩ := hg
        obtain ⟨Ca, hC⟩ := hcl x (by simpa using hin)
        obtain ⟨B, newId, initId, bmB, F, q⟩ := hC.ex
        obtain ⟨g1, g2⟩ := gl_of C hgx
        refine (ps_raise hc tk (pmk_own F q hC.mg hC.kp hC.rs g1 g2)).wk fun D σ H hw => ?_
        obtain ⟨ρ, F', en, Ca', rep, e1, hm, q'⟩ := hw
        simp only [exR] at e1
        cases e1
        have e2 := hC.mg
        rw [hm] at e2
        cases e2
        exact q' ρ σ F' H rep Stp.refl
      · exact never_R fun ρ => by simp only [exR]
    · exact never_R fun ρ => by simp only [exR]
  | Expr e pos =>
    simp only [stepS] at h
    split at h
    · cases h; exact never_R fun ρ => by simp only [exR]
    · split at h
      · split at h
        · split at h
          · cases h; exact never_R fun ρ => by simp only [exR]
          · cases h
        · cases h
      · split at h
        · split at h
          · split at h
            · cases h; exact never_R fun ρ => by simp only [exR]
            · cases h
          · cases h
        · cases h
    · split at h
      · cases h
      · rename_i hcm
        obtain ⟨u, h1, h2⟩ := Option.map_eq_some_iff.mp h
        subst h2
        refine (ps_expr (xc_of hqE C tk h1) (swaps_no (by simpa using hcm) _ _ _)).wk fun D σ H hw => ?_
        obtain ⟨ρ, F, en, Ca, rep, e1, hm, q⟩ := hw
        simp only [exR] at e1
        exact ⟨ρ, F, en, Ca, rep, e1, hm, fun ρ' F' H' r st => q ρ' σ F' H' r st.toStp⟩
  | Return v pos =>
    simp only [stepS] at h
    split at h
    · rename_i e
      split at h
      · rename_i u h1
        have fin : PS X (.Return (some e) pos) (tR X.K X.mg (exR c (.ret u)) W) := by
          refine (ps_ret (xc_of hqE C tk h1)).wk fun D σ H hw => ?_
          obtain ⟨ρ, F, en, Ca, rep, e1, hm, q⟩ := hw
          simp only [exR] at e1
          exact ⟨ρ, F, en, Ca, rep, e1, hm, fun ρ' F' H' r st => q ρ' σ F' H' r st.toStp⟩
        cases fr with
        | true =>
          simp only [if_true] at h
          split at h
          · cases h; exact fin
          · cases h
        | false => cases h; exact fin
      · cases h
    · cases fr with
      | true => cases h
      | false => cases h; exact never_R fun ρ => by simp only [exR]
  | If t a b pos =>
    simp only [stepS] at h
    split at h
    · rename_i cc x y h1 h2 h3
      cases h
      refine (ps_if (PT.nox (hT C h1)) (sx_of hr hx h2) (sx_of hr hx h3)).wk fun D σ H hw => ?_
      obtain ⟨ρ, F, en, Ca, rep, e1, hm, q⟩ := hw
      simp only [exR] at e1
      split at e1
      · rename_i ρ1 e2
        exact ⟨ρ, F, true, ρ1, rep, e2, fun F1 H1 rep1 st1 => L2.iteT ⟨ρ1, F1, en, Ca, rep1, e1, hm, fun ρ' σ' F' H' r st => q ρ' σ' F' H' r (st1.toStp.trans st)⟩⟩
      · rename_i ρ1 e2
        exact ⟨ρ, F, false, ρ1, rep, e2, fun F1 H1 rep1 st1 => L2.iteF ⟨ρ1, F1, en, Ca, rep1, e1, hm, fun ρ' σ' F' H' r st => q ρ' σ' F' H' r (st1.toStp.trans st)⟩⟩
      · cases e1
    · cases h
  | Assign ts v pos =>
    simp only [stepS] at h
    split at h
    · rename_i x px
      have fin : ∀ {s : Sm}, isComp v = false → trSet (stepE qE qT) T x v = some s → PS X (.Assign [.Name x px] v pos) (tR X.K X.mg (exR c s) W) := fun {s} hv h => by
        unfold trSet at h
        split at h
        · rename_i i u h1 h2
          split at h
          · cases h; exact never_R fun ρ => by simp only [exR]
          split at h
          · cases h; exact never_R fun ρ => by simp only [exR]
          · cases h
            obtain ⟨n1, n2, n3⟩ := nm_of C h1
            refine (ps_set (X := X) (by rw [show X.N = T.N from C.hN]; exact C.nd) n1 n2 (xc_of hqE C tk h2) (swaps_no hv _ _ _) n3).wk fun D σ H hw => ?_
            obtain ⟨ρ, F, en, Ca, rep, e1, hm, q⟩ := hw
            simp only [exR] at e1
            exact ⟨ρ, F, en, Ca, rep, e1, hm, fun ρ' F' H' r st => q ρ' σ F' H' r st.toStp⟩
        · cases h
      split at h
      · rename_i elt gens scope p2
        unfold trSet at h
        split at h
        · rename_i i u h1 h2
          have hu : ∀ ρ, exC c u ρ = none := fun ρ => by
            simp only [stepE] at h2
            unfold trComp at h2
            repeat' split at h2
            all_goals first
              | (cases h2; done)
              | (cases h2; simp only [exC])
          split at h
          · cases h; exact never_R fun ρ => by simp only [exR]
          split at h
          · cases h; exact never_R fun ρ => by simp only [exR]
          · cases h
            exact never_R fun ρ => by simp only [exR]; exact hu ρ
        · cases h
      · rename_i kx vx gens scope p2
        unfold trSet at h
        split at h
        · rename_i i u h1 h2
          have hu : ∀ ρ, exC c u ρ = none := fun ρ => by
            simp only [stepE] at h2
            unfold trDComp at h2
            repeat' split at h2
            all_goals first
              | (cases h2; done)
              | (cases h2; simp only [exC])
          split at h
          · cases h; exact never_R fun ρ => by simp only [exR]
          split at h
          · cases h; exact never_R fun ρ => by simp only [exR]
          · cases h
            exact never_R fun ρ => by simp only [exR]; exact hu ρ
        · cases h
      · split at h
        · cases h
        · rename_i hcm
          exact fin (by simpa using hcm) h
    · rename_i x px b ps
      split at h
      · split at h
        · cases h; exact never_R fun ρ => by simp only [exR]
        · cases h
      · cases h
    · rename_i ts kt pt
      split at h
      · exact never_R fun ρ => par_R h ρ
      · split at h
        · cases h
        · rename_i hnt hcm
          split at h
          · rename_i tt u h1 h2
            cases h
            have hg : PG X.nox (.Tuple ts kt pt) (tG X.K (slotsT (.tup tt)) (bindT (.tup tt))) := g_of C (n := 8) (e := .Tuple ts kt pt) (t := .tup tt) (by simpa only [trG] using h1)
            refine (ps_asg (xc_of hqE C tk h2) (PG_nox hg) (sole_no (by simpa using hcm) _ _ _) (by cases v <;> first | rfl | exact (hnt _ _ _ rfl).elim) rfl).wk fun D σ H hw => ?_
            obtain ⟨ρ, F, en, Ca, rep, e1, hm, q⟩ := hw
            simp only [exR] at e1
            exact ⟨ρ, F, en, Ca, rep, e1, hm, fun ρ' F' H' r st => q ρ' σ F' H' r st.toStp⟩
          · cases h
    · cases h
  | For tg it body orelse pos =>
    simp only [stepS] at h
    repeat' split at h
    all_goals first
      | (cases h; done)
      | (cases h; exact never_R fun ρ => by simp only [exR])
  | While t body orelse pos =>
    simp only [stepS] at h
    repeat' split at h
    all_goals first
      | (cases h; done)
      | (cases h; exact never_R fun ρ => by simp only [exR])
  | Pass pos => simp only [stepS] at h; cases h; exact never_R fun ρ => by simp only [exR]
  | Break pos => simp only [stepS] at h; cases h; exact never_R fun ρ => by simp only [exR]
  | Continue pos => simp only [stepS] at h; cases h; exact never_R fun ρ => by simp only [exR]
  | _ => simp only [stepS] at h; cases h
end
/-- a def's body that raises -/
theorem bodyX_ok {X : Cx} {c : Cfg} {k : Nat} {T : Tc} {fr : Bool} {W : WX} (C : Ct X.nox c k T) (tk : L2.Takes X W) (hc : X.calm = true) (hcl : ∀ x ∈ T.cl, ∃ Ca, ClsOk X x Ca) {body : List Stmt} {xs : List Sm} (h : trBody T fr body = some xs) : PSs X body (tR X.K X.mg (exRs c xs) W) := by
  obtain ⟨h1, h2, h3⟩ := trs_ok (c := c) (k := k) 30
  obtain ⟨q1, q2, q3⟩ := trs_ok (c := c) (k := k) 29
  have all : ∀ n, ∀ {st s}, trS (trs 30).1 (trs 30).2 T fr n st = some s → PS X.nox st (tS X.K fr (ex c s)) := by
    intro n
    induction n with
    | zero => intro st s h; cases h
    | succ n ih => intro st s h; exact stepS_ok h1 h2 h3 rfl q1 q3 C ih h
  have allx : ∀ n, ∀ {st s}, trS (trs 30).1 (trs 30).2 T fr n st = some s → PS X st (tR X.K X.mg (exR c s) W) := by
    intro n
    induction n with
    | zero => intro st s h; cases h
    | succ n ih => intro st s h; exact stepX_ok rfl q1 h3 C tk hc hcl (all n) ih h
  refine sx_of (fr := fr) (fun {st s} hs => ?_) (fun {st s} hs => ?_) h
  · unfold orFail at hs
    split at hs
    · rename_i e
      cases hs
      exact all 12 e
    · cases hs
      exact s_never
  · unfold orFail at hs
    split at hs
    · rename_i e
      cases hs
      exact allx 12 e
    · cases hs
      exact never_R fun ρ => by simp only [exR]
end Wh

set_option Elab.async false
set_option linter.all false
set_option maxRecDepth 100000
set_option maxHeartbeats 2000000
set_option exponentiation.threshold 5000
/-! Wh15: the table of defs keeps its promises; the law's end. -/
namespace Wh
open PySem PySem.Spec PyProof.Rows L2 Evl
variable [Tbl]

def penTab (tab : List (Str × Fn)) (x : Str) : Bool := match tab.lookup x with
  | some f => f.pen
  | none => false
def frTab (tab : List (Str × Fn)) (x : Str) : Bool := match tab.lookup x with
  | some f => f.fr
  | none => false
def kwTab (tab : List (Str × Fn)) (x : Str) : List Kw := match tab.lookup x with
  | some f => f.kw
  | none => []
theorem kwTab_at {tab : List (Str × Fn)} {x : Str} {f : Fn} (h : tab.lookup x = some f) : kwTab tab x = f.kw := by unfold kwTab; rw [h]
/-- a class of the program that can be raised with a text -/
structure ClsK (K : PySem.W.Frag) (mg : Str → Option Value) (x : Str) (C : Addr) : Prop where
  mg : mg x = some (.ref C)
  kp : PySem.W.keepIn K (.ref C) = true
  ex : ∃ (B newId initId : String) (bmB : List Value), ExcBaseFacts B newId initId bmB ∧ PySem.W.excIn K C bmB newId = true
  sub : PySem.W.subIn K (.ref C) (.type "BaseException") = some true
  ty : PySem.W.typeIn K (.ref C) = some (.type "type")
/-- a def of the text, with defaults or without -/
structure FunA (K : PySem.W.Frag) (x : Str) (st : Stmt) (f : Addr) (fd : FuncData) : Prop where
  ex : ∃ (oc : Value) (od : Option Addr) (dV kV doc pm : Value) (an : Option Addr) (cdv ct : Value) (osl : Array (Option Value)),
    fd = PySem.W.fnOf x x (defArgs st) (defBody st) (defScope st) dV kV doc pm an cdv ct ∧ K.lookup f = some ⟨oc, od, .func fd, osl⟩ ∧ PySem.W.codeIn K cdv x = true
  kp : PySem.W.keepIn K (.ref f) = true
/-- a def of the text is the table's -/
structure DefOk (K : PySem.W.Frag) (mg : Str → Option Value) (tab : List (Str × Fn)) (cs : List (Addr × Addr)) (x : Str) (f : Fn) (fa : Addr) (fd : FuncData) (st : Stmt) (N ps : List Str) (ow : List Nat) (sd : Str → Option (List (Str × PyData))) (cl : List Str) : Prop where
  F : FunA K x st fa fd
  say : ∀ y ws, sd y = some ws → SayD K mg y ws ∧ ∃ c P, (c, P) ∈ cs ∧ fd.code = .ref c ∧ (P, (x ++ ".<locals>.") ++ "<lambda>") ∈ Tbl.T ∧ ∀ p ∈ Tbl.T, p.1 = P → p.2 = (x ++ ".<locals>.") ++ "<lambda>"
  cls : ∀ y ∈ cl, ∃ C, ClsK K mg y C
  mg : mg x = some (.ref fa)
  bs : koK f.kw = false → Binds K fd ps []
  S : FnScope N ps (defScope st)
  np : ps.length = f.np
  ns : N.length = f.ns
  le : f.np ≤ f.ns
  kws : ∀ sh ∈ f.kw, KwOk K fd ps sh
  tr : trBody ⟨N, defScope st, defScope st, ow, penTab tab, frTab tab, kwTab tab, true, fun _ _ => none, sd, cl⟩ f.fr (defBody st) = some f.body
def TabOk (K : PySem.W.Frag) (mg : Str → Option Value) (tab : List (Str × Fn)) (cs : List (Addr × Addr)) : Prop := ∀ x f, tab.lookup x = some f → ∃ fa fd st N ps ow sd cl, DefOk K mg tab cs x f fa fd st N ps ow sd cl

section
variable {K : PySem.W.Frag} {F H : Hp}
theorem start_get {N : List Str} {vs : List V} {i : Nat} {v : V} (h : vs[i]? = some v) : (L2.start N vs)[i]? = some (some v) := by
  unfold L2.start
  have hi := lt_of_get h
  rw [List.getElem?_append_left (by simpa using hi), List.getElem?_map, h]; rfl
/-- the slots at a def's entry: data alone -/
theorem rep_start {f : Fn} {N : List Str} {vs : List V} {xs : List PyData} (e : Wl F H) (ha : RpA K F vs xs) (hn : N.length = f.ns) (hp : xs.length = f.np) (hle : f.np ≤ f.ns) : Rep K (startE f none xs) (L2.start N vs) F H ∧ ∀ a, ¬ Own (startE f none xs) (L2.start N vs) a := by
  have get : ∀ (i : Nat) (s : Sv), (startE f none xs)[i]? = some (some s) → ∃ x, xs[i]? = some x ∧ s = .d x := fun i s h => by
    unfold startE at h
    simp only [List.nil_append] at h
    by_cases hi : i < xs.length
    · rw [List.getElem?_append_left (by simpa using hi), List.getElem?_map, List.getElem?_eq_getElem hi] at h
      simp only [Option.map_some, Option.some.injEq] at h
      exact ⟨_, List.getElem?_eq_getElem hi, h.symm⟩
    · rw [List.getElem?_append_right (by simpa using hi), List.getElem?_replicate] at h
      split at h <;> cases h
  refine ⟨⟨?_, e, fun i x h => ?_, fun i b ys h => ?_, fun i j s t p h hs => ?_, fun i h => ?_, fun i ys h => ?_⟩, fun a o => ?_⟩
  · have := ha.len
    simp [startE, L2.start]
    omega
  · obtain ⟨y, h1, h2⟩ := get i _ h
    cases h2
    obtain ⟨v, g1, g2⟩ := ha.get h1
    exact ⟨v, start_get g1, g2⟩
  · obtain ⟨y, _, h2⟩ := get i _ h
    cases h2
  · obtain ⟨y, _, h2⟩ := get i _ h
    cases h2
    cases hs
  · obtain ⟨y, _, h2⟩ := get i _ h
    cases h2
  · obtain ⟨y, _, h2⟩ := get i _ h
    cases h2
  · obtain ⟨i, s, h1, hs, _⟩ := o
    obtain ⟨y, _, h2⟩ := get i _ h1
    cases h2
    cases hs
/-- .. with a borrowed list ahead -/
theorem rep_startP {f : Fn} {N : List Str} {p : Addr} {ws vs : List V} {pen xs : List PyData} (e : Wl F H) (hf : F p = none) (hh : H p = some (.lst ws)) (hw : RpA K F ws pen) (ha : RpA K F vs xs) (hn : N.length = f.ns) (hp : xs.length + 1 = f.np) (hle : f.np ≤ f.ns) :
    Rep K (startE f (some pen) xs) (L2.start N (.ref p :: vs)) F H ∧ (∀ a, Own (startE f (some pen) xs) (L2.start N (.ref p :: vs)) a → a = p) ∧ (L2.start N (.ref p :: vs))[0]? = some (some (.ref p)) := by
  have get : ∀ (i : Nat) (s : Sv), (startE f (some pen) xs)[i]? = some (some s) → (i = 0 ∧ s = .own true pen) ∨ ∃ j x, i = j + 1 ∧ xs[j]? = some x ∧ s = .d x := fun i s h => by
    unfold startE at h
    cases i with
    | zero =>
      simp at h
      exact .inl ⟨rfl, h.symm⟩
    | succ j =>
      simp only [List.cons_append, List.nil_append, List.getElem?_cons_succ] at h
      by_cases hi : j < xs.length
      · rw [List.getElem?_append_left (by simpa using hi), List.getElem?_map, List.getElem?_eq_getElem hi] at h
        simp only [Option.map_some, Option.some.injEq] at h
        exact .inr ⟨j, _, rfl, List.getElem?_eq_getElem hi, h.symm⟩
      · rw [List.getElem?_append_right (by simpa using hi), List.getElem?_replicate] at h
        split at h <;> cases h
  have s0 : (L2.start N (.ref p :: vs))[0]? = some (some (.ref p)) := start_get rfl
  refine ⟨⟨?_, e, fun i x h => ?_, fun i b ys h => ?_, fun i j s t q h1 k1 h2 k2 _ _ => ?_, fun i h => ?_, fun i ys h => ?_⟩, fun a o => ?_, s0⟩
  · have := ha.len
    simp [startE, L2.start]
    omega
  · rcases get i _ h with ⟨_, z⟩ | ⟨j, y, rfl, h1, h2⟩
    · cases z
    · cases h2
      obtain ⟨v, g1, g2⟩ := ha.get h1
      exact ⟨v, start_get (by simpa using g1), g2⟩
  · rcases get i _ h with ⟨rfl, z⟩ | ⟨j, y, rfl, h1, h2⟩
    · cases z
      exact ⟨p, ws, s0, hf, hh, hw⟩
    · cases h2
  · rcases get i _ h1 with ⟨rfl, _⟩ | ⟨_, _, _, _, z⟩
    · rcases get j _ h2 with ⟨rfl, _⟩ | ⟨_, _, _, _, z⟩
      · rfl
      · cases z; cases k2
    · cases z; cases k1
  · rcases get i _ h with ⟨_, z⟩ | ⟨_, _, _, _, z⟩ <;> cases z
  · rcases get i _ h with ⟨_, z⟩ | ⟨_, _, _, _, z⟩ <;> cases z
  · obtain ⟨i, s, h1, hs, h2⟩ := o
    rcases get i _ h1 with ⟨rfl, _⟩ | ⟨_, _, _, _, z⟩
    · rw [s0] at h2
      cases h2; rfl
    · cases z; cases hs
end

section
variable {P : Program} {w : World} {K : PySem.W.Frag} {mg : Str → Option Value} {base : Heap} {tab : List (Str × Fn)} {g : Str → Option PyData} {wf : Nat}
theorem run_parts {c : Cfg} {f : Fn} {p : Option (List PyData)} {xs : List PyData} {x : PyData} {q : Option (List PyData)} (h : runF c f p xs = some (x, q)) :
    p.isSome = f.pen ∧ ¬ (f.pen = true ∧ f.fr = true) ∧ xs.length + (if f.pen then 1 else 0) = f.np ∧ ∃ fl ρ, exs c f.body (startE f p xs) = some (fl, ρ) ∧ (fl = .ret x ∨ (fl = .next ∧ x = .none)) ∧ endF f x ρ = some (x, q) := by
  unfold runF at h
  by_cases hc : ((p.isSome == f.pen) && !(f.pen && f.fr) && (xs.length + (if f.pen then 1 else 0) == f.np) && decide (f.np ≤ f.ns)) = true
  · rw [if_pos hc] at h
    simp only [Bool.and_eq_true, beq_iff_eq, Bool.not_eq_true', decide_eq_true_eq] at hc
    obtain ⟨⟨⟨h1, h2⟩, h3⟩, h4⟩ := hc
    refine ⟨h1, (fun z => by rw [z.1, z.2] at h2; cases h2), h3, ?_⟩
    have fin : ∀ {y ρ}, endF f y ρ = some (x, q) → y = x := fun {y ρ} e => by
      unfold endF at e
      split at e
      · obtain ⟨_, _, z⟩ := Option.map_eq_some_iff.mp e
        cases z; rfl
      · split at e
        · split at e
          · cases e; rfl
          · cases e
        · cases e; rfl
    split at h
    · rename_i y ρ he
      have := fin h
      subst this
      exact ⟨_, ρ, he, .inl rfl, h⟩
    · rename_i ρ he
      have := fin h
      subst this
      exact ⟨_, ρ, he, .inr ⟨rfl, rfl⟩, h⟩
    · cases h
  · rw [if_neg hc] at h
    cases h
/-- a def by its body, no repr around it -/
theorem FunA.okC {CX : CXT} {k : Nat} {x : Str} {st : Stmt} {f : Addr} {fd : FuncData} {N ps : List Str} {sp : Sp} (F : FunA K x st f fd) (S : FnScope N ps (defScope st)) (many : ∀ {vs : List V} {H : Hp} {Q : VK} {E : XK}, sp vs H Q E → ps.length = vs.length)
    (body : ∀ (A : Around) (fs : List PySem.Env) (s : Shared) (H : Hp) (vs : List V) (Q : VK) (E : XK), Room k (A.deeper (envOfC x (defScope st) s.heap.objs.size f fd.code)) → A.guards = some [] → sp vs H Q E →
      ∃ t, PSs (cxOf CX P w K mg base N x (defScope st) f fd.code A fs s H E) (defBody st) t ∧ t { nx := fun _ H' => Q .non H', rt := Q } (L2.start N vs) H) : FnG P w K mg base CX (k + 1) f fd ps sp := by
  obtain ⟨oc, od, dV, kV, doc, pm, an, cd, ct, osl, rfl, lk, code⟩ := F.ex
  exact ⟨many, fun {A fs s H ar us vs Q E} gd room e0 va bn q => LamX.run_ofS lk code S room e0 bn va (many q).symm fun hr => body A fs s H vs Q E hr gd q⟩
abbrev cfI (g : Str → Option PyData) (wf : Nat) (tab : List (Str × Fn)) (k : Nat) : Cfg := ⟨callI g wf tab k, g, wf, excI g wf tab k⟩
omit [Tbl] in
theorem callI_succ {k : Nat} {y : Str} : callI g wf tab (k + 1) y = fun p xs => match tab.lookup y with
  | none => none
  | some f => runF (cfI g wf tab k) f p xs := rfl
omit [Tbl] in
theorem excI_succ {k : Nat} {y : Str} : excI g wf tab (k + 1) y = fun xs => match tab.lookup y with
  | none => none
  | some f => runX (cfI g wf tab k) f xs := rfl
omit [Tbl] in
theorem callI_look {k : Nat} {y : Str} {p : Option (List PyData)} {xs : List PyData} {r : PyData × Option (List PyData)} (h : callI g wf tab k y p xs = some r) : ∃ f, tab.lookup y = some f := by
  cases k with
  | zero => cases h
  | succ k =>
    rw [callI_succ] at h
    cases hl : tab.lookup y with
    | none => rw [hl] at h; cases h
    | some f => exact ⟨f, rfl⟩
omit [Tbl] in
theorem excI_look {k : Nat} {y : Str} {xs : List PyData} {r : Str} (h : excI g wf tab k y xs = some r) : ∃ f, tab.lookup y = some f := by
  cases k with
  | zero => cases h
  | succ k =>
    rw [excI_succ] at h
    cases hl : tab.lookup y with
    | none => rw [hl] at h; cases h
    | some f => exact ⟨f, rfl⟩
/-- what the table promises at a level -/
def Prm (P : Program) (w : World) (K : PySem.W.Frag) (mg : Str → Option Value) (base : Heap) (g : Str → Option PyData) (wf : Nat) (tab : List (Str × Fn)) (k : Nat) (y : Str) (f : Fn) (fa : Addr) (fd : FuncData) (ps : List Str) : Prop :=
  FnG P w K mg base CX0 (6 * k) fa fd ps (spF K (callI g wf tab k y)) ∧ (f.fr = true → FnG P w K mg base CX0 (6 * k) fa fd ps (spL K (callI g wf tab k y))) ∧ FnG P w K mg base (L2.CX P w) (6 * k) fa fd ps (spX K mg (excI g wf tab k y))
/-- the context of a def's body -/
theorem ct_of {CX : CXT} {E : XK} {cs : List (Addr × Addr)} {x : Str} {f : Fn} {fa : Addr} {fd : FuncData} {st : Stmt} {N ps : List Str} {ow : List Nat} {sd : Str → Option (List (Str × PyData))} {cl : List Str} {k : Nat} (D : DefOk K mg tab cs x f fa fd st N ps ow sd cl) (hG : GlobOk K w mg g) (hB : ∀ b ∈ bltNames, mg (Str.ofString b) = none) (TB : ∀ p ∈ cs, LamX.TabB base mg p.1 p.2)
    (ih : ∀ y f', tab.lookup y = some f' → ∀ {fa fd st N ps ow sd cl}, DefOk K mg tab cs y f' fa fd st N ps ow sd cl → Prm P w K mg base g wf tab k y f' fa fd ps)
    (hT : TabOk K mg tab cs) {A : Around} {fs : List PySem.Env} {s : Shared} {H : Hp} (room : Room (6 * k + 5) (A.deeper (envOfC x (defScope st) s.heap.objs.size fa fd.code))) (gd : A.guards = some []) :
    Ct (cxOf CX P w K mg base N x (defScope st) fa fd.code A fs s H E).nox (cfI g wf tab k) (6 * k) ⟨N, defScope st, defScope st, ow, penTab tab, frTab tab, kwTab tab, true, fun _ _ => none, sd, cl⟩ where
  hN := rfl
  hsc := rfl
  nd := D.S.nd
  kind := D.S.kind
  calm := fun _ => rfl
  gd := gd
  room := fun _ => room
  un := room.units
  xe := rfl
  call := fun y po xs r hko h => by
    obtain ⟨f', hl⟩ := callI_look h
    obtain ⟨fa', fd', st', N', ps', ow', sd', cl', D'⟩ := hT y f' hl
    exact ⟨fa', fd', ps', (ih y f' hl D').1, D'.mg, D'.F.kp, D'.bs (by rw [← kwTab_at hl]; exact hko)⟩
  callL := fun y xs r hko hf h => by
    obtain ⟨f', hl⟩ := callI_look h
    obtain ⟨fa', fd', st', N', ps', ow', sd', cl', D'⟩ := hT y f' hl
    refine ⟨fa', fd', ps', (ih y f' hl D').2.1 ?_, D'.mg, D'.F.kp, D'.bs (by rw [← kwTab_at hl]; exact hko)⟩
    have hf' : frTab tab y = true := hf
    unfold frTab at hf'
    rw [hl] at hf'
    exact hf'
  callK := fun y sh xs r hf h => by
    obtain ⟨f', hl⟩ := callI_look h
    obtain ⟨fa', fd', st', N', ps', ow', sd', cl', D'⟩ := hT y f' hl
    refine ⟨fa', fd', ps', (ih y f' hl D').1, D'.mg, D'.F.kp, D'.kws sh ?_⟩
    have hf' : sh ∈ kwTab tab y := hf
    unfold kwTab at hf'
    rw [hl] at hf'
    exact hf'
  glob := hG
  blt := hB
  fn := fun _ _ => rfl
  exc := fun y xs e hko h => by
    obtain ⟨f', hl⟩ := excI_look h
    obtain ⟨fa', fd', st', N', ps', ow', sd', cl', D'⟩ := hT y f' hl
    exact ⟨fa', fd', ps', (ih y f' hl D').2.2, D'.mg, D'.F.kp, D'.bs (by rw [← kwTab_at hl]; exact hko)⟩
  excK := fun y sh xs e hf h => by
    obtain ⟨f', hl⟩ := excI_look h
    obtain ⟨fa', fd', st', N', ps', ow', sd', cl', D'⟩ := hT y f' hl
    refine ⟨fa', fd', ps', (ih y f' hl D').2.2, D'.mg, D'.F.kp, D'.kws sh ?_⟩
    rw [← kwTab_at hl]
    exact hf
  said := fun y ws h => by
    obtain ⟨S, c, P', hc, hcode, hm, hu⟩ := D.say y ws h
    have e1 : (cxOf CX P w K mg base N x (defScope st) fa fd.code A fs s H E).nox.env.qual = (x ++ ".<locals>.") := rfl
    have e2 : (cxOf CX P w K mg base N x (defScope st) fa fd.code A fs s H E).nox.env.code = fd.code := rfl
    refine ⟨S (cxOf CX P w K mg base N x (defScope st) fa fd.code A fs s H E).nox rfl rfl gd (room.mono (by omega)), c, P', TB (c, P') hc, ?_, ?_, ?_⟩
    · rw [e2]; exact hcode
    · rw [e1]; exact hm
    · rw [e1]; exact hu
  ec := fun _ _ _ _ h => nomatch h
theorem spF_none {vs : List V} {H : Hp} {Q : VK} {E : XK} {c : CallF} (hc : ∀ p xs, c p xs = none) (h : spF K c vs H Q E) : False := by
  rcases h with ⟨F, xs, x, _, _, h, _⟩ | ⟨F, p, ws, pen, vs', xs, x, pen', _, _, _, _, _, _, h, _⟩
  · rw [hc] at h; cases h
  · rw [hc] at h; cases h
theorem tab_ok {cs : List (Addr × Addr)} (hT : TabOk K mg tab cs) (hG : GlobOk K w mg g) (hB : ∀ b ∈ bltNames, mg (Str.ofString b) = none) (TB : ∀ p ∈ cs, LamX.TabB base mg p.1 p.2) : ∀ (k : Nat) (y : Str) (f : Fn), tab.lookup y = some f → ∀ {fa fd st N ps ow sd cl}, DefOk K mg tab cs y f fa fd st N ps ow sd cl →
    Prm P w K mg base g wf tab k y f fa fd ps := by
  intro k
  induction k with
  | zero =>
    intro y f hl fa fd st N ps ow sd cl D
    have no : ∀ {vs H Q E}, spL K (callI g wf tab 0 y) vs H Q E → False := fun {vs H Q E} h => by
      obtain ⟨_, _, _, _, _, h, _⟩ := h
      cases h
    have noX : ∀ {vs H Q E}, spX K mg (excI g wf tab 0 y) vs H Q E → False := fun {vs H Q E} h => by
      obtain ⟨_, _, _, _, _, _, h, _⟩ := h
      cases h
    exact ⟨⟨fun h => (spF_none (fun _ _ => rfl) h).elim, fun _ _ _ _ _ h => (spF_none (fun _ _ => rfl) h).elim⟩, fun _ => ⟨fun h => (no h).elim, fun _ _ _ _ _ h => (no h).elim⟩, ⟨fun h => (noX h).elim, fun _ _ _ _ _ h => (noX h).elim⟩⟩
  | succ k ih =>
    intro y f hl fa fd st N ps ow sd cl D
    have hcall : callI g wf tab (k + 1) y = runF (cfI g wf tab k) f := by
      rw [callI_succ, hl]
    have hexc : excI g wf tab (k + 1) y = runX (cfI g wf tab k) f := by
      rw [excI_succ, hl]
    unfold Prm
    rw [hcall, hexc, show 6 * (k + 1) = 6 * k + 5 + 1 by omega]
    have hct := fun {CX : CXT} {E : XK} {A : Around} {fs : List PySem.Env} {s : Shared} {H : Hp} (room : Room (6 * k + 5) (A.deeper (envOfC y (defScope st) s.heap.objs.size fa fd.code))) (gd : A.guards = some []) => ct_of (P := P) (w := w) (base := base) (wf := wf) (CX := CX) (E := E) D hG hB TB (fun y f' hl {fa fd st N ps ow sd cl} D' => ih y f' hl D') hT (fs := fs) (H := H) room gd
    -- those that raise
    have hXx : FnG P w K mg base (L2.CX P w) (6 * k + 5 + 1) fa fd ps (spX K mg (runX (cfI g wf tab k) f)) := by
      have parts : ∀ {xs : List PyData} {e : Str}, runX (cfI g wf tab k) f xs = some e → xs.length = f.np ∧ exRs (cfI g wf tab k) f.body (startE f none xs) = some e := fun {xs e} h => by
        unfold runX at h
        split at h
        · rename_i hc
          simp only [Bool.and_eq_true, beq_iff_eq] at hc
          exact ⟨hc.1.2, h⟩
        · cases h
      refine FunA.okC D.F D.S (fun {vs H Q E} h => ?_) fun A fs s H vs Q E room gd h => ?_
      · obtain ⟨F, xs, e, C, _, ha, h, _⟩ := h
        rw [D.np, ha.len, (parts h).1]
      · obtain ⟨F, xs, e, C, wl, ha, h, hm, q⟩ := h
        obtain ⟨h1, h2⟩ := parts h
        obtain ⟨rep, no⟩ := rep_start (f := f) (N := N) wl ha D.ns h1 D.le
        have C0 := hct (CX := L2.CX P w) (E := E) (fs := fs) (H := H) room gd
        have tk : L2.Takes (cxOf (L2.CX P w) P w K mg base N y (defScope st) fa fd.code A fs s H E) (fun cls d _ H => E cls d H) := takes_of rfl rfl rfl rfl
        have B := bodyX_ok C0 tk rfl (fun x hx => by
          obtain ⟨Ca, hC⟩ := D.cls x hx
          exact ⟨Ca, hC.mg, hC.kp, hC.ex, raises_own hC.sub hC.ty⟩) D.tr
        refine ⟨_, B, startE f none xs, F, e, C, rep, h2, hm, fun ρ' σ' F' H' rep' st' => q F' H' st'.ext rep'.wl (fun a o ho => ?_) (fun a o ho nt => st'.fr a o ho (no a) nt) st'.alive⟩
        rcases st'.new a o ho with z | z | z
        · exact .inl z
        · exact .inr z
        · exact absurd z (no a)
    -- those that hand back a new list
    have hL : f.fr = true → FnG P w K mg base CX0 (6 * k + 5 + 1) fa fd ps (spL K (runF (cfI g wf tab k) f)) := fun hfr => by
      refine FunA.okC D.F D.S (fun {vs H Q E} h => ?_) fun A fs s H vs Q E room gd h => ?_
      · obtain ⟨F, xs, ys, _, ha, h, _⟩ := h
        obtain ⟨h1, h2, h3, _⟩ := run_parts h
        have hpen : f.pen = false := by rw [← h1]; rfl
        rw [hpen] at h3
        simp at h3
        rw [D.np, ha.len, h3]
      · obtain ⟨F, xs, ys, e, ha, h, q⟩ := h
        obtain ⟨h1, h2, h3, fl, ρ, h4, h5, h6⟩ := run_parts h
        have hpen : f.pen = false := by rw [← h1]; rfl
        rw [hpen] at h3
        simp at h3
        obtain ⟨rep, no⟩ := rep_start (f := f) (N := N) e ha D.ns h3 D.le
        have C := hct (CX := CX0) (E := E) (fs := fs) (H := H) room gd
        have B := (body_ok C D.tr).nox
        rw [hfr] at B
        refine ⟨_, B, startE f none xs, F, fl, ρ, rep, h4, ?_⟩
        rcases h5 with rfl | ⟨rfl, z⟩
        · refine ⟨ys, rfl, fun p ws σ' F' H' rep' st' h0 hf hh hr => q p ws F' H' st'.ext rep'.wl (fun a o ho => ?_) (fun a o ho nt => st'.fr a o ho (no a) nt) st'.alive h0 hf hh hr⟩
          rcases st'.new a o ho with z | z | z
          · exact .inl z
          · exact .inr z
          · exact absurd z (no a)
        · cases z
    refine ⟨?_, hL, hXx⟩
    cases hfr : f.fr with
    | true =>
      refine (hL hfr).imp fun {vs H Q E} h => ?_
      rcases h with ⟨F, xs, x, e, ha, h, q⟩ | ⟨F, p, ws, pen, vs', xs, x, pen', _, _, _, _, _, _, h, _⟩
      · obtain ⟨h1, h2, h3, fl, ρ, h4, h5, h6⟩ := run_parts h
        have hpen : f.pen = false := by rw [← h1]; rfl
        have hx : ∃ ys, x = .list ys := by
          unfold endF at h6
          rw [hpen, hfr] at h6
          simp only [Bool.false_eq_true, if_false, if_true] at h6
          split at h6
          · exact ⟨_, rfl⟩
          · cases h6
        obtain ⟨ys, rfl⟩ := hx
        refine ⟨F, xs, ys, e, ha, h, fun p ws F' H' e1 e2 nw fr al h0 hf hh hr => ?_⟩
        refine q (.ref p) (upd F' p (.lst ws)) H' (e1.trans (Ex.new hf)) (e2.frz hh (fun _ z => by cases z)) (fun a o ho => ?_) fr al (.lst (SqL.of upd_same) (hr.mono (Ex.new hf)))
        · by_cases ea : a = p
          · subst ea; exact .inr h0
          · rw [upd_ne ea] at ho; exact nw a o ho
      · obtain ⟨h1, h2, _⟩ := run_parts h
        exact absurd ⟨h1.symm, hfr⟩ h2
    | false =>
      refine FunA.okC D.F D.S (fun {vs H Q E} h => ?_) fun A fs s H vs Q E room gd h => ?_
      · rcases h with ⟨F, xs, x, _, ha, h, _⟩ | ⟨F, p, ws, pen, vs', xs, x, pen', rfl, _, _, _, _, ha, h, _⟩
        · obtain ⟨h1, h2, h3, _⟩ := run_parts h
          have hpen : f.pen = false := by rw [← h1]; rfl
          rw [hpen] at h3
          simp at h3
          rw [D.np, ha.len, h3]
        · obtain ⟨h1, h2, h3, _⟩ := run_parts h
          have hpen : f.pen = true := by rw [← h1]; rfl
          rw [hpen] at h3
          simp at h3
          rw [D.np, List.length_cons, ha.len, h3]
      · have C := hct (CX := CX0) (E := E) (fs := fs) (H := H) room gd
        have B := (body_ok C D.tr).nox
        rw [hfr] at B
        rcases h with ⟨F, xs, x, e, ha, h, q⟩ | ⟨F, p, ws, pen, vs', xs, x, pen', rfl, e, hf, hh, hw, ha, h, q⟩
        · obtain ⟨h1, h2, h3, fl, ρ, h4, h5, h6⟩ := run_parts h
          have hpen : f.pen = false := by rw [← h1]; rfl
          rw [hpen] at h3
          simp at h3
          obtain ⟨rep, no⟩ := rep_start (f := f) (N := N) e ha D.ns h3 D.le
          refine ⟨_, B, startE f none xs, F, fl, ρ, rep, h4, ?_⟩
          have fin : ∀ v σ' F' H', Rep K ρ σ' F' H' → Stp (startE f none xs) (L2.start N vs) F H ρ σ' F' H' → Rp K F' v x → Q v H' := fun v σ' F' H' rep' st' rp => by
            refine q v F' H' st'.ext rep'.wl (fun a o ho => ?_) (fun a o ho nt => st'.fr a o ho (no a) nt) st'.alive rp
            rcases st'.new a o ho with z | z | z
            · exact .inl z
            · exact .inr z
            · exact absurd z (no a)
          rcases h5 with rfl | ⟨rfl, rfl⟩
          · exact fin
          · exact fun σ' F' H' rep' st' => fin .non σ' F' H' rep' st' .non
        · obtain ⟨h1, h2, h3, fl, ρ, h4, h5, h6⟩ := run_parts h
          have hpen : f.pen = true := by rw [← h1]; rfl
          rw [hpen] at h3
          simp at h3
          obtain ⟨rep, no, s0⟩ := rep_startP (f := f) (N := N) e hf hh hw ha D.ns h3 D.le
          have hpo : penOf ρ = some pen' := by
            unfold endF at h6
            rw [hpen] at h6
            simp only [if_true] at h6
            obtain ⟨z, z1, z2⟩ := Option.map_eq_some_iff.mp h6
            cases z2
            exact z1
          have hρ : ρ[0]? = some (some (.own true pen')) := by
            unfold penOf at hpo
            split at hpo
            · rename_i hq
              cases hpo
              exact hq
            · cases hpo
          refine ⟨_, B, startE f (some pen) xs, F, fl, ρ, rep, h4, ?_⟩
          have fin : ∀ v σ' F' H', Rep K ρ σ' F' H' → Stp (startE f (some pen) xs) (L2.start N (.ref p :: vs')) F H ρ σ' F' H' → Rp K F' v x → Q v H' := fun v σ' F' H' rep' st' rp => by
            obtain ⟨g1, _⟩ := st'.pen 0 pen' hρ
            obtain ⟨p', ws', k1, k2, k3, k4⟩ := rep'.own 0 true pen' hρ
            rw [g1, s0] at k1
            cases k1
            refine q v F' H' ws' st'.ext rep'.wl (fun a o ho => ?_) (fun a o ho na nt => st'.fr a o ho (fun z => na (no a z)) nt) st'.alive k3 k4 rp
            rcases st'.new a o ho with z | z | z
            · exact .inl z
            · exact .inr z
            · have := no a z
              subst this
              rw [k2] at ho; cases ho
          rcases h5 with rfl | ⟨rfl, rfl⟩
          · exact fin
          · exact fun σ' F' H' rep' st' => fin .non σ' F' H' rep' st' .non
end
end Wh

set_option Elab.async false
set_option linter.all false
set_option maxRecDepth 100000
set_option maxHeartbeats 2000000
set_option exponentiation.threshold 5000
/-! Wh16: the law's end. -/
namespace Wh
open PySem PySem.Spec PyProof.Rows L2 Evl
variable [Tbl]

/-- the script's own object -/
abbrev scriptO (vs : List Value) : Obj := { cls := .type "list", data := .seq vs.toArray }
/-- what is tracked: the script, as it stands, and the tables, which are empty -/
def Bare (K : PySem.W.Frag) (a : Addr) (vs : List Value) (xs : List V) (cs : List (Addr × Addr)) (H : Hp) : Prop := ∀ b u, H b = some u → (b = a ∧ u = .frz (scriptO vs) (.lst xs) ∧ K.lookup a = none) ∨ ((∃ p ∈ cs, p.2 = b) ∧ u = .tbl #[])
section
omit [Tbl]
variable {P : Program} {w : World} {K : PySem.W.Frag} {mg mb : Str → Option Value} {s : Shared} {a : Addr} {vs : List Value} {ns : List Int} {H : Hp} {cs : List (Addr × Addr)}
theorem bare_hok (ha : s.heap.get? a = some (scriptO vs)) (rv : Vals (ns.map V.int) vs) (hz : (ns.map V.int).length ≤ sizeLine) (hT : ∀ p ∈ cs, s.heap.get? p.2 = some { cls := .none, data := .fields #[] }) (b : Bare K a vs (ns.map V.int) cs H) : HOk P w H s.heap := fun c u e => by
  rcases b c u e with ⟨rfl, rfl, _⟩ | ⟨⟨p, hp, rfl⟩, rfl⟩
  · exact ⟨ha, hz, vs, _, rv, ha⟩
  · exact hT p hp
/-- an object of another make isn't tracked -/
theorem bare_no (ha : s.heap.get? a = some (scriptO vs)) (hT : ∀ p ∈ cs, s.heap.get? p.2 = some { cls := .none, data := .fields #[] }) (b : Bare K a vs (ns.map V.int) cs H) {d : Addr} {o : Obj} (h : s.heap.get? d = some o) (h1 : ∀ us n, o.data ≠ .seq us n) (h2 : o.data ≠ .fields #[]) : H d = none := by
  cases hx : H d with
  | none => rfl
  | some u =>
    rcases b d u hx with ⟨rfl, _, _⟩ | ⟨⟨p, hp, rfl⟩, _⟩
    · rw [ha] at h; cases h; exact absurd rfl (h1 _ _)
    · rw [hT p hp] at h; cases h; exact absurd rfl h2
theorem bare_ns (ha : s.heap.get? a = some (scriptO vs)) (hT : ∀ p ∈ cs, s.heap.get? p.2 = some { cls := .none, data := .fields #[] }) (b : Bare K a vs (ns.map V.int) cs H) {d : Addr} {m : Str → Option Value} (h : s.heap.Ns d m) : (hidT s.heap H).Ns d m := by
  obtain ⟨ob, es, ep, e1, e2, e3⟩ := h
  exact ⟨ob, es, ep, hidT_get e1 (bare_no ha hT b e1 (fun _ _ z => by rw [e2] at z; cases z) (fun z => by rw [e2] at z; cases z)), e2, e3⟩
theorem bare_mod (KX : K.In s.heap) (gl : s.heap.Ns mainGlobals mg) (bl : s.heap.Ns builtinsNs mb) (hbb : ∀ x : Str, x ≠ "__name__" → mb x = bootBuiltins x) (lim : s.heap.NoLimit) (ha : s.heap.get? a = some (scriptO vs)) (hT : ∀ p ∈ cs, s.heap.get? p.2 = some { cls := .none, data := .fields #[] }) (nT : ∀ p ∈ cs, K.lookup p.2 = none) (b : Bare K a vs (ns.map V.int) cs H) : Mod K mg (hidT s.heap H) := by
  obtain ⟨mc, l1, l2⟩ := lim
  refine ⟨fun c ob e => hidT_get (KX c ob e) ?_, bare_ns ha hT b gl, ⟨mb, bare_ns ha hT b bl, hbb⟩, mc, bare_ns ha hT b l1, l2⟩
  cases hx : H c with
  | none => rfl
  | some u =>
    rcases b c u hx with ⟨rfl, _, hk⟩ | ⟨⟨p, hp, rfl⟩, _⟩
    · rw [hk] at e; cases e
    · rw [nT p hp] at e; cases e
/-- the makers' code objects and tables -/
theorem bare_tab (gl : s.heap.Ns mainGlobals mg) (ha : s.heap.get? a = some (scriptO vs)) (hT : ∀ p ∈ cs, s.heap.get? p.2 = some { cls := .none, data := .fields #[] }) (C : ∀ p ∈ cs, PySem.W.CodeHd s.heap p.1 p.2)
    (hbm : ∃ (bm : Addr) (ob : Obj), mg "__builtins__" = some (.ref bm) ∧ bm ≠ builtinsNs ∧ s.heap.get? bm = some ob ∧ ob.cls = .type "module" ∧ ob.dict = some builtinsNs ∧ ob.data = .plain) (b : Bare K a vs (ns.map V.int) cs H) : ∀ p ∈ cs, LamX.TabB (hidT s.heap H) mg p.1 p.2 := fun p hp => by
  have nG : mainGlobals ≠ p.2 := fun z => by
    obtain ⟨ob, es, ep, e1, e2, e3⟩ := gl
    rw [z, hT p hp] at e1
    cases e1
    cases e2
  refine ⟨?_, ?_, nG⟩
  · obtain ⟨o, us, file, tf, flags, tg, inF, text, tt, e1, r1, r2, r3, r⟩ := C p hp
    refine ⟨o, us, file, tf, flags, tg, inF, text, tt, hidT_get e1 (bare_no ha hT b e1 (fun _ _ z => by rw [r2] at z; cases z) fun z => ?_), r1, r2, r3, r⟩
    rw [r2] at z
    cases z
    simp at r3
  · obtain ⟨bm, ob, b1, b2, b3, b4, b5, b6⟩ := hbm
    have n1 : bm ≠ mainGlobals := fun q => by
      obtain ⟨o, es, ep, e, hd, _⟩ := gl
      rw [q, e] at b3
      cases b3
      rw [hd] at b6
      cases b6
    have n2 : bm ≠ p.2 := fun q => by
      rw [q, hT p hp] at b3
      cases b3
      cases b6
    exact ⟨bm, ob, b1, b2, n1, n2, hidT_get b3 (bare_no ha hT b b3 (fun _ _ z => by rw [b6] at z; cases z) (fun z => by rw [b6] at z; cases z)), b4, b5, b6⟩
/-- the law's def, called with the script, tells True -/
theorem law_goes {k : Nat} {fa : Addr} {fd : FuncData} {x : Str} {sp : Sp} (KX : K.In s.heap) (gl : s.heap.Ns mainGlobals mg) (bl : s.heap.Ns builtinsNs mb) (hbb : ∀ x : Str, x ≠ "__name__" → mb x = bootBuiltins x) (lim : s.heap.NoLimit) (hg : s.gens = #[])
    (hT : ∀ p ∈ cs, s.heap.get? p.2 = some { cls := .none, data := .fields #[] }) (nT : ∀ p ∈ cs, K.lookup p.2 = none) (C : ∀ p ∈ cs, PySem.W.CodeHd s.heap p.1 p.2)
    (hbm : ∃ (bm : Addr) (ob : Obj), mg "__builtins__" = some (.ref bm) ∧ bm ≠ builtinsNs ∧ s.heap.get? bm = some ob ∧ ob.cls = .type "module" ∧ ob.dict = some builtinsNs ∧ ob.data = .plain)
    (ha : s.heap.get? a = some (scriptO vs)) (hi : IntsAre vs ns) (hz : ns.length ≤ sizeLine) (room : Room k callerA) (F : ∀ base : Heap, K.In base → (∀ p ∈ cs, LamX.TabB base mg p.1 p.2) → FnG P w K mg base CX0 k fa fd [x] sp) (hb : BindsTo s fd ⟨[.ref a], []⟩ [(x, .ref a)])
    (hsp : ∀ H : Hp, (∀ p ∈ cs, H p.2 = some (.tbl #[])) → SqL K H a (ns.map V.int) → (∀ b ps, H b = some (.tbl ps) → b ≠ a) → sp [.ref a] H (fun v _ => v = .bl true) E0) :
    codeAny (model P w) callerA (.call (.ref fa) ⟨[.ref a], []⟩) (fun r s' => r = .ok (.ret (.bool true)) ∧ OldK s.heap s'.heap ∧ s'.os = s.os ∧ AllBare s'.gens) s := by
  have rv := vals_ints hi
  have hz' : (ns.map V.int).length ≤ sizeLine := by rw [List.length_map]; exact hz
  have aT : ∀ p ∈ cs, p.2 ≠ a := fun p hp z => by
    have q := hT p hp
    rw [z, ha] at q
    cases q
  have main : ∀ H : Hp, Bare K a vs (ns.map V.int) cs H → (∀ p ∈ cs, H p.2 = some (.tbl #[])) → SqL K H a (ns.map V.int) → codeAny (model P w) callerA (.call (.ref fa) ⟨[.ref a], []⟩) (fun r s' => r = .ok (.ret (.bool true)) ∧ OldK s.heap s'.heap ∧ s'.os = s.os ∧ AllBare s'.gens) s := by
    intro H b hH sq
    have M := bare_mod KX gl bl hbb lim ha hT nT b
    have hok := bare_hok (P := P) (w := w) ha rv hz' hT b
    have e0 : Env0 P w K mg (hidT s.heap H) callerA [] s H := ⟨rfl, M, fun _ _ e => of_hidT e, Nat.le_of_eq (hidT_size _ _), trivial, fun _ z => (nomatch z), hok, .of_eq hg⟩
    have nta : ∀ b ps, H b = some (.tbl ps) → b ≠ a := fun c ps e z => by
      rcases b c _ e with ⟨_, q, _⟩ | ⟨⟨p, hp, q⟩, _⟩
      · cases q
      · exact aT p hp (q.trans z)
    refine codeAny_mono ((F _ M.kin (bare_tab gl ha hT C hbm b)).goes (us := [.ref a]) (vs := [.ref a]) rfl room e0 (.cons rfl .nil) hb (hsp H hH sq nta)) fun r s' q => ?_
    match r, q with
    | .ok (.ret u), ⟨v, H', os, gens, un, hok', rl, qv⟩ =>
      have qv : v = .bl true := qv
      subst qv
      obtain rfl : u = Value.bool true := rl
      have cases_ : ∀ c ob, s.heap.get? c = some ob → s'.heap.get? c = some ob ∨ ∃ p ∈ cs, p.2 = c := fun c ob e => by
        cases hx : H c with
        | none => exact .inl (un.keep c ob e hx (fun z => nomatch z) (by simp))
        | some u =>
          rcases b c u hx with ⟨rfl, rfl, _⟩ | ⟨h, _⟩
          · rw [ha] at e
            cases e
            exact .inl (hok' c _ (un.frzs c _ _ hx)).1
          · exact .inr h
      have grown : ∀ p ∈ cs, ∃ more : Array Value, s'.heap.get? p.2 = some { cls := .none, data := .fields more } := fun p hp => by
        obtain ⟨more, z⟩ := un.tbls p.2 #[] (hH p hp)
        exact ⟨_, hok' p.2 _ z⟩
      refine ⟨rfl, ⟨fun c ob e => ?_, fun c ob e => ?_⟩, os, gens⟩
      · rcases cases_ c ob e with h | ⟨p, hp, rfl⟩
        · exact .inl h
        · obtain ⟨more, hm⟩ := grown p hp
          rw [hT p hp] at e
          cases e
          exact .inr (.inl ⟨((C p hp).tab (hT p hp)).isCodeTable, rfl, #[], more, rfl, by rw [Array.empty_append]; exact hm⟩)
      · rcases cases_ c ob e with h | ⟨p, hp, rfl⟩
        · exact ⟨_, h⟩
        · obtain ⟨more, hm⟩ := grown p hp
          exact ⟨_, hm⟩
    | .ok .next, q => exact q.elim
    | .ok .brk, q => exact q.elim
    | .ok .cont, q => exact q.elim
    | .error _, q => exact q.elim
  have memT : ∀ b : Addr, (∃ p ∈ cs, p.2 = b) ↔ b ∈ cs.map (·.2) := fun b => by simp
  cases hk : K.lookup a with
  | none =>
    refine main (fun b => if b = a then some (.frz (scriptO vs) (.lst (ns.map V.int))) else if b ∈ cs.map (·.2) then some (.tbl #[]) else none) (fun b u e => ?_) (fun p hp => ?_) (.inl (.inr ⟨_, if_pos rfl⟩))
    · by_cases h1 : b = a
      · have e' := (if_pos h1).symm.trans e
        cases e'
        exact .inl ⟨h1, rfl, hk⟩
      · have e' := (if_neg h1).symm.trans e
        by_cases h2 : b ∈ cs.map (·.2)
        · have e2 := (if_pos h2).symm.trans e'
          cases e2
          exact .inr ⟨(memT b).mpr h2, rfl⟩
        · have e2 := (if_neg h2).symm.trans e'
          cases e2
    · exact (if_neg (aT p hp)).trans (if_pos ((memT _).mp ⟨p, hp, rfl⟩))
  | some ob =>
    have e := KX a ob hk
    rw [ha] at e
    cases e
    refine main (fun b => if b ∈ cs.map (·.2) then some (.tbl #[]) else none) (fun b u e => ?_) (fun p hp => if_pos ((memT _).mp ⟨p, hp, rfl⟩)) (.inr ⟨_, vs.toArray, _, hk, rfl, rfl, rfl, by rw [List.size_toArray, hi.length]; exact hz, by simpa using rv⟩)
    by_cases h2 : b ∈ cs.map (·.2)
    · have e2 := (if_pos h2).symm.trans e
      cases e2
      exact .inr ⟨(memT b).mpr h2, rfl⟩
    · have e2 := (if_neg h2).symm.trans e
      cases e2
end
/-- what is data of what is tracked at the start -/
def noTabs (H : Hp) : Hp := fun b => match H b with
  | some (.tbl _) => none
  | o => o
theorem noTabs_at {H : Hp} {b : Addr} {o : HO} (h : noTabs H b = some o) : H b = some o ∧ noT o := by
  unfold noTabs at h
  split at h
  · cases h
  · rename_i hn
    exact ⟨h, fun ps z => hn ps (by rw [h, z])⟩
theorem noTabs_some {H : Hp} {b : Addr} {o : HO} (h : H b = some o) (n : noT o) : noTabs H b = some o := by
  unfold noTabs
  rw [h]
  cases o <;> first | rfl | exact absurd rfl (n _)
theorem sq_noTabs {K : PySem.W.Frag} {H : Hp} {a : Addr} {xs : List V} (h : SqL K H a xs) : SqL K (noTabs H) a xs := by
  rcases h with (h | ⟨ob, h⟩) | h
  · exact .inl (.inl (noTabs_some h fun _ z => by cases z))
  · exact .inl (.inr ⟨ob, noTabs_some h fun _ z => by cases z⟩)
  · exact .inr h
/-- one def's facts, as the head gives them -/
theorem def_mk {K : PySem.W.Frag} {h : Heap} {mg : Str → Option Value} {tab : List (Str × Fn)} {cs : List (Addr × Addr)} (X : K.In h) (G : h.Ns mainGlobals mg) {x : Str} {f : Fn} {st : Stmt} {N ps : List Str} {ow : List Nat} {sd : Str → Option (List (Str × PyData))} {cl : List Str} {fa : Addr} {od an : Option Addr} {sl : Array (Option Value)} {oc kV dc pm cd ct : Value}
    (S : FnScope N ps (defScope st)) (np : ps.length = f.np) (ns : N.length = f.ns) (le : f.np ≤ f.ns) (tr : trBody ⟨N, defScope st, defScope st, ow, penTab tab, frTab tab, kwTab tab, true, fun _ _ => none, sd, cl⟩ f.fr (defBody st) = some f.body)
    (bn : ∀ (kV doc pm : Value) (an : Option Addr) (cdv ct : Value) (us : List Value), us.length = ps.length → bindArgs (PySem.W.fnOf x x (defArgs st) (defBody st) (defScope st) .none kV doc pm an cdv ct) ⟨us, []⟩ = pure (ps.zip us))
    (a1 : PySem.W.nsIn K mainGlobals x = some (some (.ref fa))) (l1 : K.lookup fa = some ⟨oc, od, .func (PySem.W.fnOf x x (defArgs st) (defBody st) (defScope st) .none kV dc pm an cd ct), sl⟩) (c1 : PySem.W.codeIn K cd x = true) (k1 : PySem.W.keepIn K (.ref fa) = true) (kw : ∀ sh ∈ f.kw, KwOk K (PySem.W.fnOf x x (defArgs st) (defBody st) (defScope st) .none kV dc pm an cd ct) ps sh)
    (say : ∀ y ws, sd y = some ws → SayD K mg y ws ∧ ∃ c P, (c, P) ∈ cs ∧ cd = .ref c ∧ (P, (x ++ ".<locals>.") ++ "<lambda>") ∈ Tbl.T ∧ ∀ p ∈ Tbl.T, p.1 = P → p.2 = (x ++ ".<locals>.") ++ "<lambda>") (cls : ∀ y ∈ cl, ∃ C, ClsK K mg y C) :
    DefOk K mg tab cs x f fa (PySem.W.fnOf x x (defArgs st) (defBody st) (defScope st) .none kV dc pm an cd ct) st N ps ow sd cl :=
  have F := fun_mk (st := st) l1 c1 k1
  ⟨⟨⟨oc, od, .none, kV, dc, pm, an, cd, ct, sl, rfl, l1, c1⟩, k1⟩, say, cls, PySem.W.mg_of X G a1, fun _ => F.binds bn, S, np, ns, le, kw, tr⟩
theorem pick_def (ds : List PyData) : ∀ (xs pre : List PyData), pickD (pre ++ xs) ((List.range' pre.length xs.length).map .inl ++ ds.map .inr) = some (xs ++ ds)
  | [], pre => by
    simp only [List.length_nil, List.range'_zero, List.map_nil, List.nil_append]
    induction ds with
    | nil => rfl
    | cons d ds ih => simp only [List.map_cons, pickD, ih, Option.map_some]
  | x :: xs, pre => by
    have ih := pick_def ds xs (pre ++ [x])
    rw [List.append_assoc, List.length_append] at ih
    simp only [List.singleton_append, List.length_singleton] at ih
    simp only [List.length_cons, List.range'_succ, List.map_cons, List.cons_append, pickD, ih]
    simp
/-- a shape without defaults -/
theorem kw_mk {K : PySem.W.Frag} {fd : FuncData} {ps : List Str} {n : Nat} {ks : List Str} {js : List Nat} (h : ∀ us ws : List Value, us.length = n → ws.length = ks.length → ∃ bs, js.mapM (fun j => (us ++ ws)[j]?) = some bs ∧ bindArgs fd ⟨us, ks.zip ws⟩ = pure (ps.zip bs)) : KwOk K fd ps ⟨n, ks, js.map .inl⟩ := by
  refine ⟨fun {F vs zs xs xs2 ys} s us ws _ r1 r2 p1 p2 l1 l2 hp => ?_⟩
  obtain ⟨bs, hb, he⟩ := h us ws (by rw [← r1.length, p1.len]; exact l1) (by rw [← r2.length, p2.len]; exact l2)
  have ra := p1.append p2
  have rv : Vals (vs ++ zs) (us ++ ws) := r1.append r2
  have key : ∀ (js : List Nat) (bs : List Value) (ys : List PyData), js.mapM (fun j => (us ++ ws)[j]?) = some bs → pickD (xs ++ xs2) (js.map Sum.inl) = some ys → ∃ vs', Vals vs' bs ∧ RpA K F vs' ys := by
    intro js
    induction js with
    | nil =>
      intro bs ys h1 h2
      cases h1
      cases h2
      exact ⟨[], .nil, .nil⟩
    | cons j js ih =>
      intro bs ys h1 h2
      rw [List.mapM_cons] at h1
      simp only [List.map_cons, pickD] at h2
      cases hu : (us ++ ws)[j]? with
      | none => rw [hu] at h1; cases h1
      | some u =>
        rw [hu] at h1
        cases hm : js.mapM (fun j => (us ++ ws)[j]?) with
        | none => simp only [hm] at h1; cases h1
        | some bs' =>
          simp only [hm] at h1
          cases h1
          split at h2
          · rename_i y ys' g1 g2
            cases h2
            obtain ⟨vs', i1, i2⟩ := ih bs' ys' hm g2
            obtain ⟨v, q1, q2⟩ := ra.get g1
            obtain ⟨u', w1, w2⟩ := rv.get q1
            rw [hu] at w1
            cases w1
            exact ⟨v :: vs', .cons w2 i1, .cons q2 i2⟩
          · cases h2
  obtain ⟨vs', k1, k2⟩ := key js bs ys hb hp
  exact ⟨bs, vs', .of_eq he, k1, k2⟩
/-- a shape that no call has: it marks a def with parameters by keyword alone -/
theorem kw_mkO {K : PySem.W.Frag} {fd : FuncData} {ps : List Str} : KwOk K fd ps ⟨0, [""], [.inl 99]⟩ := by
  refine ⟨fun {F vs zs xs xs2 ys} s us ws KX r1 r2 p1 p2 l1 l2 hp => ?_⟩
  have e0 : xs = [] := List.eq_nil_of_length_eq_zero l1
  subst e0
  have l2 : xs2.length = 1 := l2
  simp only [List.nil_append, pickD] at hp
  rw [List.getElem?_eq_none (by omega)] at hp
  cases hp
/-- a shape that leaves it out -/
theorem kw_mkK {K : PySem.W.Frag} {x nm : Str} {fa : Addr} {ps : List Str} {oc : Value} {od : Option Addr} {sl : Array (Option Value)} {params : Arguments} {body : List Stmt} {scope : Scope} {kV doc pm cdv ct : Value} {an : Option Addr} (n : Nat)
    (a1 : PySem.W.nsIn K mainGlobals x = some (some (.ref fa))) (l : K.lookup fa = some ⟨oc, od, .func (PySem.W.fnOf x x params body scope .none kV doc pm an cdv ct), sl⟩) (hb : kwdB K x nm = true)
    (h : ∀ (D : Addr) (us : List Value) (u : Value), us.length = n → L2.KwChain D [(nm, u)] (bindArgs (PySem.W.fnOf x x params body scope .none (.ref D) doc pm an cdv ct) ⟨us, []⟩) (ps.zip (us ++ [u]))) :
    KwOk K (PySem.W.fnOf x x params body scope .none kV doc pm an cdv ct) ps ⟨n, [], (List.range' 0 n).map .inl ++ [.tuple []].map .inr⟩ := by
  have eg : He.ga K x = fa := by unfold He.ga; rw [a1]
  unfold kwdB at hb
  rw [eg, l] at hb
  simp only [PySem.W.fnOf] at hb
  split at hb
  case h_2 => cases hb
  rename_i D
  split at hb
  case h_2 => cases hb
  rename_i T hT
  split at hb
  case h_2 => cases hb
  rename_i t d2 its m sl2 hk
  rw [Bool.and_eq_true, decide_eq_true_eq, decide_eq_true_eq] at hb
  obtain ⟨rfl, rfl⟩ := hb
  refine ⟨fun {F vs zs xs xs2 ys} s us ws KX r1 r2 p1 p2 l1 l2 hp => ?_⟩
  have e0 : xs2 = [] := List.eq_nil_of_length_eq_zero l2
  subst e0
  cases p2
  cases r2
  have hl : us.length = n := by rw [← r1.length, p1.len]; exact l1
  have l1 : xs.length = n := l1
  have e3 := pick_def [.tuple []] xs []
  rw [List.nil_append] at e3
  simp only [List.length_nil] at e3
  rw [List.append_nil, ← l1, e3] at hp
  cases hp
  refine ⟨us ++ [Value.ref T], vs ++ [V.ref T], BindsTo.of_looks fun M => ?_, r1.append (.cons (show RelV (V.ref T) (Value.ref T) from rfl) .nil), p1.append (.cons (.tup (.inr ⟨_, #[], m, hk, rfl, rfl, by decide, .nil⟩) .nil) .nil)⟩
  exact L2.KwChain.looks KX (fun q hq => by
    cases hq with
    | head => exact hT
    | tail _ h => cases h) (h D us (.ref T) hl)
/-- .. of a def with parameters by keyword alone -/
theorem def_mkK {K : PySem.W.Frag} {h : Heap} {mg : Str → Option Value} {tab : List (Str × Fn)} {cs : List (Addr × Addr)} (X : K.In h) (G : h.Ns mainGlobals mg) {x : Str} {f : Fn} {st : Stmt} {N ps : List Str} {ow : List Nat} {sd : Str → Option (List (Str × PyData))} {cl : List Str} {fa : Addr} {od an : Option Addr} {sl : Array (Option Value)} {oc kV dc pm cd ct : Value}
    (S : FnScope N ps (defScope st)) (np : ps.length = f.np) (ns : N.length = f.ns) (le : f.np ≤ f.ns) (tr : trBody ⟨N, defScope st, defScope st, ow, penTab tab, frTab tab, kwTab tab, true, fun _ _ => none, sd, cl⟩ f.fr (defBody st) = some f.body)
    (ko : koK f.kw = true)
    (a1 : PySem.W.nsIn K mainGlobals x = some (some (.ref fa))) (l1 : K.lookup fa = some ⟨oc, od, .func (PySem.W.fnOf x x (defArgs st) (defBody st) (defScope st) .none kV dc pm an cd ct), sl⟩) (c1 : PySem.W.codeIn K cd x = true) (k1 : PySem.W.keepIn K (.ref fa) = true) (kw : ∀ sh ∈ f.kw, KwOk K (PySem.W.fnOf x x (defArgs st) (defBody st) (defScope st) .none kV dc pm an cd ct) ps sh)
    (say : ∀ y ws, sd y = some ws → SayD K mg y ws ∧ ∃ c P, (c, P) ∈ cs ∧ cd = .ref c ∧ (P, (x ++ ".<locals>.") ++ "<lambda>") ∈ Tbl.T ∧ ∀ p ∈ Tbl.T, p.1 = P → p.2 = (x ++ ".<locals>.") ++ "<lambda>") (cls : ∀ y ∈ cl, ∃ C, ClsK K mg y C) :
    DefOk K mg tab cs x f fa (PySem.W.fnOf x x (defArgs st) (defBody st) (defScope st) .none kV dc pm an cd ct) st N ps ow sd cl :=
  ⟨⟨⟨oc, od, .none, kV, dc, pm, an, cd, ct, sl, rfl, l1, c1⟩, k1⟩, say, cls, PySem.W.mg_of X G a1, (fun z => by rw [ko] at z; cases z), S, np, ns, le, kw, tr⟩
end Wh

set_option Elab.async false
set_option linter.all false
set_option maxRecDepth 100000
set_option maxHeartbeats 2000000
/-! Wh17: the table's premises, from a list. -/
namespace Wh
open PySem PySem.Spec PyProof.Rows L2 Evl
section
variable [Tbl]
def AllDef (K : PySem.W.Frag) (mg : Str → Option Value) (tab : List (Str × Fn)) (cs : List (Addr × Addr)) : List (Str × Fn) → Prop
  | [] => True
  | (x, f) :: r => (∃ fa fd st N ps ow sd cl, DefOk K mg tab cs x f fa fd st N ps ow sd cl) ∧ AllDef K mg tab cs r
theorem all_look {K : PySem.W.Frag} {mg : Str → Option Value} {tab : List (Str × Fn)} {cs : List (Addr × Addr)} : ∀ {l : List (Str × Fn)}, AllDef K mg tab cs l → ∀ x f, l.lookup x = some f → ∃ fa fd st N ps ow sd cl, DefOk K mg tab cs x f fa fd st N ps ow sd cl
  | [], _, _, _, h => nomatch h
  | (y, g) :: r, A, x, f, h => by
    rw [List.lookup_cons] at h
    by_cases e : x = y
    · subst e
      rw [beq_self_eq_true] at h
      cases h
      exact A.1
    · rw [beq_false_of_ne e] at h
      exact all_look A.2 x f h
theorem tab_all {K : PySem.W.Frag} {mg : Str → Option Value} {tab : List (Str × Fn)} {cs : List (Addr × Addr)} (A : AllDef K mg tab cs tab) : TabOk K mg tab cs := fun x f h => all_look A x f h
def AllNo (mg : Str → Option Value) : List String → Prop
  | [] => True
  | b :: r => mg (Str.ofString b) = none ∧ AllNo mg r
theorem no_mem {mg : Str → Option Value} : ∀ {l : List String}, AllNo mg l → ∀ b ∈ l, mg (Str.ofString b) = none
  | _ :: _, A, _, .head _ => A.1
  | _ :: _, A, _, .tail _ h => no_mem A.2 _ h
theorem blt_all {mg : Str → Option Value} (A : AllNo mg bltNames) : ∀ b ∈ bltNames, mg (Str.ofString b) = none := no_mem A
end
def AllG (K : PySem.W.Frag) (w : World) (mg : Str → Option Value) : List (Str × PyData) → Prop
  | [] => True
  | (x, d) :: r => (match d with | .dict kvs => DctG K w mg x kvs | d => DatG K mg x d) ∧ AllG K w mg r
theorem glob_all {K : PySem.W.Frag} {w : World} {mg : Str → Option Value} : ∀ {l : List (Str × PyData)}, AllG K w mg l → GlobOk K w mg (fun x => l.lookup x)
  | [], _, _, _, h => nomatch h
  | (y, g) :: r, A, x, d, h => by
    have h : ((y, g) :: r).lookup x = some d := h
    rw [List.lookup_cons] at h
    by_cases e : x = y
    · subst e
      rw [beq_self_eq_true] at h
      cases h
      exact A.1
    · rw [beq_false_of_ne e] at h
      exact glob_all A.2 x d h
/-! ### the module's constants -/
mutual
theorem kdB_ok {K : PySem.W.Frag} : ∀ (n : Nat) (u : Value) (d : PyData), kdB K n u d = true → ∃ v, RelV v u ∧ ∀ F, Rp K F v d
  | n, u, .none, h => by cases u <;> cases n <;> simp only [kdB] at h <;> first | exact ⟨.non, rfl, fun _ => .non⟩ | cases h
  | n, u, .bool c, h => by
    cases u with
    | bool b => obtain rfl : b = c := (by cases n <;> simpa [kdB] using h); exact ⟨.bl b, rfl, fun _ => .bl _⟩
    | _ => cases n <;> simp only [kdB] at h <;> cases h
  | n, u, .int c, h => by
    cases u with
    | int b t => obtain rfl : b = c := (by cases n <;> simpa [kdB] using h); exact ⟨.int b, ⟨_, rfl⟩, fun _ => .int _⟩
    | _ => cases n <;> simp only [kdB] at h <;> cases h
  | n, u, .str c, h => by
    cases u with
    | str b t => obtain rfl : b = c := (by cases n <;> simpa [kdB] using h); exact ⟨.str b, ⟨_, rfl⟩, fun _ => .str _⟩
    | _ => cases n <;> simp only [kdB] at h <;> cases h
  | 0, u, .tuple ds, h => by cases u <;> simp only [kdB] at h <;> cases h
  | n + 1, u, .tuple ds, h => by
    cases u <;> simp only [kdB] at h <;> first | (cases h; done) | skip
    split at h
    · rename_i a t dd its m sl hl
      rw [Bool.and_eq_true, Bool.and_eq_true, decide_eq_true_eq, decide_eq_true_eq] at h
      obtain ⟨⟨rfl, hz⟩, h⟩ := h
      obtain ⟨vs, rv, rp⟩ := kdA_ok n its.toList ds h
      exact ⟨.ref _, rfl, fun F => .tup (.inr ⟨_, its, m, hl, rfl, rfl, hz, rv⟩) (rp F)⟩
    · cases h
  | n, u, .list ds, h => by cases u <;> cases n <;> simp only [kdB] at h <;> cases h
  | n, u, .dict ds, h => by cases u <;> cases n <;> simp only [kdB] at h <;> cases h
theorem kdA_ok {K : PySem.W.Frag} : ∀ (n : Nat) (us : List Value) (ds : List PyData), kdA K n us ds = true → ∃ vs, Vals vs us ∧ ∀ F, RpA K F vs ds
  | n, [], [], _ => ⟨[], .nil, fun _ => .nil⟩
  | n, [], _ :: _, h => by simp only [kdA] at h; cases h
  | n, _ :: _, [], h => by simp only [kdA] at h; cases h
  | n, u :: us, d :: ds, h => by
    simp only [kdA, Bool.and_eq_true] at h
    obtain ⟨v, r1, p1⟩ := kdB_ok n u d h.1
    obtain ⟨vs, r2, p2⟩ := kdA_ok n us ds h.2
    exact ⟨v :: vs, .cons r1 r2, fun F => .cons (p1 F) (p2 F)⟩
end
theorem con_ok {K : PySem.W.Frag} {h : Heap} {mg : Str → Option Value} {x : Str} {d : PyData} (X : K.In h) (G : h.Ns mainGlobals mg) (e : conB K x d = true) : DatG K mg x d := by
  unfold conB at e
  split at e
  · rename_i u hu
    obtain ⟨v, r, p⟩ := kdB_ok 8 u d e
    exact ⟨u, v, PySem.W.mg_of X G hu, r, p⟩
  · cases e
theorem ent_ok {K : PySem.W.Frag} {w : World} : ∀ {es : List DictEntry} {kvs : List (PyData × PyData)}, PySem.W.KeysLit w.params es → entB K es kvs = true → es.any (·.refKey) = false ∧ ∀ z : Str, match es.find? (·.key.isStr z) with
    | some e => ∃ v, RelV v e.val ∧ ∀ F, Rp K F v (lookD kvs z)
    | none => lookD kvs z = .none
  | [], [], _, _ => ⟨rfl, fun z => rfl⟩
  | [], _ :: _, _, h => by simp only [entB] at h; cases h
  | _ :: _, [], _, h => by simp only [entB] at h; cases h
  | e :: es, (k, d) :: kvs, ⟨⟨y, t, hk, _⟩, kl⟩, h => by
    cases k <;> simp only [entB] at h <;> first | (cases h; done) | skip
    rename_i x
    simp only [Bool.and_eq_true] at h
    obtain ⟨⟨⟨h1, h2⟩, h3⟩, h4⟩ := h
    obtain ⟨a1, a2⟩ := ent_ok kl h4
    have hs : ∀ z, e.key.isStr z = decide (z = x) := fun z => by
      rw [hk] at h1 ⊢
      have e1 : y = x := by simpa [Value.isStr] using h1
      subst e1
      by_cases hz : z = y
      · subst hz; simp [Value.isStr]
      · have : ¬ y = z := fun e => hz e.symm
        simp [Value.isStr, hz, this]
    refine ⟨?_, fun z => ?_⟩
    · rw [List.any_cons, a1]
      simpa using h2
    · rw [List.find?_cons, hs z]
      by_cases hz : z = x
      · subst hz
        simp only [decide_true, lookD, if_true]
        exact kdB_ok 8 _ _ h3
      · simp only [hz, decide_false, lookD, if_false]
        exact a2 z
theorem dct_ok {K : PySem.W.Frag} {w : World} {h : Heap} {mg : Str → Option Value} {x : Str} {a : Addr} {es : Array DictEntry} {n : Nat} {kvs : List (PyData × PyData)} (X : K.In h) (G : h.Ns mainGlobals mg) (e : PySem.W.nsIn K mainGlobals x = some (some (.ref a)))
    (l : K.lookup a = some ⟨.type "dict", none, .dict es n, #[]⟩) (kl : PySem.W.KeysLit w.params es.toList) (hb : (!(a == sysModules) && entB K es.toList kvs) = true) : DctG K w mg x kvs := by
  rw [Bool.and_eq_true] at hb
  obtain ⟨b1, b2⟩ := ent_ok kl hb.2
  refine ⟨a, es, n, PySem.W.mg_of X G e, ⟨l, kl, by simpa using hb.1⟩, fun z => ?_⟩
  have hz := b2 z
  unfold PySem.W.nsIn
  rw [l]
  simp only
  split at hz
  · rename_i en he
    rw [he]
    exact ⟨_, rfl, hz⟩
  · rename_i he
    rw [he]
    simp only [b1]
    exact ⟨_, rfl, hz⟩
end Wh

set_option Elab.async false
set_option linter.all false
set_option maxRecDepth 100000
set_option maxHeartbeats 2000000
set_option exponentiation.threshold 5000
/-! Wh18: evaluation, for the mathematics. -/
namespace Wh
open PySem PySem.Spec PyProof.Rows L2 Evl
theorem eqD_ii (i j : Int) : eqD (.int i) (.int j) = some (decide (i = j)) := by
  have : eqD (.int i) (.int j) = some (i == j) := by simp [eqD, SeqAt.shaped, PyData.canLay0, PyData.depth, PyData.eqv]
  rw [this]; rfl
theorem eqD_ss (i j : Str) : eqD (.str i) (.str j) = some (decide (i = j)) := rfl
theorem cmp_eq (x y : PyData) : cmpD .eq x y = eqD x y := by cases x <;> rfl
theorem cmp_ne (x y : PyData) : cmpD .ne x y = (eqD x y).map (!·) := by cases x <;> rfl
theorem cmp_lt (i j : Int) : cmpD .lt (.int i) (.int j) = some (decide (i < j)) := rfl
theorem cmp_le (i j : Int) : cmpD .le (.int i) (.int j) = some (decide (i ≤ j)) := rfl
theorem cmp_gt (i j : Int) : cmpD .gt (.int i) (.int j) = some (decide (j < i)) := rfl
theorem cmp_ge (i j : Int) : cmpD .ge (.int i) (.int j) = some (decide (j ≤ i)) := rfl
theorem bin_add (i j : Int) : binD .add (.int i) (.int j) = some (.int (i + j)) := rfl
theorem bin_sub (i j : Int) : binD .sub (.int i) (.int j) = some (.int (i - j)) := rfl
theorem log2_le {n m : Nat} (h : n < 2 ^ (m + 1)) : n.log2 ≤ m := by
  by_cases hn : n = 0
  · subst hn; simp
  · have := (Nat.log2_lt hn).mpr h
    omega
theorem mulOk_of {i j : Int} (hi : i.natAbs < 2 ^ 4096) (hj : j.natAbs < 2 ^ 4096) : mulOk i j = true := by
  have a := log2_le (m := 4095) hi
  have b := log2_le (m := 4095) hj
  simp only [mulOk, decide_eq_true_eq]
  omega
theorem divOk_of {j : Int} (h0 : j ≠ 0) (hj : j.natAbs < 2 ^ 4096) : divOk j = true := by
  have b := log2_le (m := 4095) hj
  simp only [divOk, Bool.and_eq_true, decide_eq_true_eq]
  omega
theorem bin_mul {i j : Int} (hi : i.natAbs < 2 ^ 4096) (hj : j.natAbs < 2 ^ 4096) : binD .mul (.int i) (.int j) = some (.int (i * j)) := by simp [binD, mulOk_of hi hj]
theorem bin_div {i j : Int} (h0 : 0 < j) (hj : j.natAbs < 2 ^ 4096) : binD .fdiv (.int i) (.int j) = some (.int (i / j)) := by
  simp [binD, divOk_of (by omega) hj, Int.fdiv_eq_ediv_of_nonneg _ (Int.le_of_lt h0)]
theorem bin_mod {i j : Int} (h0 : 0 < j) : binD .mod (.int i) (.int j) = some (.int (i % j)) := by
  have : j ≠ 0 := by omega
  simp [binD, this, Int.fmod_eq_emod_of_nonneg _ (Int.le_of_lt h0)]
/-! ### loops -/
/-! ### comprehensions -/
section
variable {c : Cfg} {elt : Ep} {it : It'} {ρ : En} {xs : List PyData} {j : Nat}
end
theorem exs_next {c : Cfg} {s : Sm} {ss : List Sm} {ρ ρ' : En} {r : Option (Fl × En)} (h : ex c s ρ = some (.next, ρ')) (h2 : exs c ss ρ' = r) : exs c (s :: ss) ρ = r := by
  unfold exs
  rw [h, bnd_some]
  exact h2
def free (s : Option Sv) : Prop := ∀ v, s = some v → isOw v = false
abbrev dl (ns : List Int) : Option Sv := some (.d (.list (ns.map .int)))
theorem atI_n {α : Type} (xs : List α) (n : Nat) : atI xs (n : Int) = xs[n]? := by
  unfold atI ixN
  simp only [Int.natCast_nonneg, if_true]
  by_cases h : n < xs.length
  · have h' : (n : Int) < xs.length := by omega
    simp only [h', if_true, Option.bind_some, Int.toNat_natCast]
  · have h' : ¬ (n : Int) < xs.length := by omega
    simp only [h', if_false, Option.bind_none]
    rw [List.getElem?_eq_none (by omega)]
theorem at0 {α : Type} (xs : List α) : atI xs 0 = xs[0]? := atI_n xs 0
theorem at1 {α : Type} (xs : List α) : atI xs 1 = xs[1]? := atI_n xs 1
theorem at2 {α : Type} (xs : List α) : atI xs 2 = xs[2]? := atI_n xs 2
theorem at3 {α : Type} (xs : List α) : atI xs 3 = xs[3]? := atI_n xs 3
theorem at4 {α : Type} (xs : List α) : atI xs 4 = xs[4]? := atI_n xs 4
theorem at5 {α : Type} (xs : List α) : atI xs 5 = xs[5]? := atI_n xs 5
theorem at6 {α : Type} (xs : List α) : atI xs 6 = xs[6]? := atI_n xs 6
/-! ### tests, step by step -/
section
variable {c : Cfg} {ρ ρ' : En} {a b : Tp} {x y : Bool} {e : Ep}
theorem ex_ite {p q : List Sm} (h : evT c a ρ = some (x, ρ')) : ex c (.ite a p q) ρ = if x then exs c p ρ' else exs c q ρ' := by
  unfold ex
  rw [h, bnd_some]
  cases x <;> rfl
theorem run_ret {f : Fn} {xs : List PyData} {v : PyData} (hc : ((none : Option (List PyData)).isSome == f.pen && !(f.pen && f.fr) && (xs.length + (if f.pen then 1 else 0) == f.np) && decide (f.np ≤ f.ns)) = true) (hf : f.fr = false) (hp : f.pen = false) (h : exs c f.body (startE f none xs) = some (.ret v, ρ)) : runF c f none xs = some (v, none) := by
  unfold runF
  rw [if_pos hc, h]
  simp [endF, hf, hp]
end
end Wh

set_option Elab.async false
set_option linter.all false
set_option maxRecDepth 100000
set_option maxHeartbeats 2000000
set_option exponentiation.threshold 20000
/-! Wh19: fractions as rational numbers. -/
namespace Wh
open PySem PySem.Spec PyProof.Rows L2 Evl
/-! ### fractions -/
def frq (q : Rat) : PyData := .tuple [.int q.num, .int (q.den : Int)]
/-- sizes -/
def szI (i : Int) (n : Nat) : Prop := i.natAbs < 2 ^ n
theorem szI.mono {i : Int} {n m : Nat} (h : szI i n) (hm : n ≤ m) : szI i m := Nat.lt_of_lt_of_le h (Nat.pow_le_pow_right (by decide) hm)
theorem szI.mul {i j : Int} {n m : Nat} (h : szI i n) (h' : szI j m) : szI (i * j) (n + m) := by
  unfold szI at *
  rw [Int.natAbs_mul, Nat.pow_add]
  exact Nat.mul_lt_mul_of_lt_of_lt h h'
theorem szI.add {i j : Int} {n m : Nat} (h : szI i n) (h' : szI j m) : szI (i + j) (max n m + 1) := by
  have a := h.mono (Nat.le_max_left n m)
  have b := h'.mono (Nat.le_max_right n m)
  unfold szI at *
  have e := Nat.pow_succ (n := 2) (m := max n m)
  have := Int.natAbs_add_le i j
  omega
theorem szI.sub {i j : Int} {n m : Nat} (h : szI i n) (h' : szI j m) : szI (i - j) (max n m + 1) := by
  have a := h.mono (Nat.le_max_left n m)
  have b := h'.mono (Nat.le_max_right n m)
  unfold szI at *
  have e := Nat.pow_succ (n := 2) (m := max n m)
  have := Int.natAbs_sub_le i j
  omega
def szQ (q : Rat) (n : Nat) : Prop := szI q.num n ∧ szI (q.den : Int) n
theorem szQ.mono {q : Rat} {n m : Nat} (h : szQ q n) (hm : n ≤ m) : szQ q m := ⟨h.1.mono hm, h.2.mono hm⟩
end Wh

set_option Elab.async false
set_option linter.all false
set_option maxRecDepth 100000
set_option maxHeartbeats 2000000
set_option exponentiation.threshold 20000
/-! Wh20: comprehensions of any target, sizes that repr bears, cuts. -/
namespace Wh
open PySem PySem.Spec PyProof.Rows L2 Evl
section
variable {c : Cfg} {e : Ep} {tg : Tg} {it : It'} {cs : List Tp} {own : List Nat} {ρ ρ1 : En} {xs : List PyData}
end
/-- row by row -/
inductive Al (R : PyData → PyData → Prop) : List PyData → List PyData → Prop
  | nil : Al R [] []
  | cons {x y : PyData} {xs ys : List PyData} : R x y → Al R xs ys → Al R (x :: xs) (y :: ys)
theorem Al.len {R : PyData → PyData → Prop} : ∀ {xs ys : List PyData}, Al R xs ys → ys.length = xs.length
  | _, _, .nil => rfl
  | _, _, .cons _ t => by simp [Al.len t]
/-- ex of a loop from its parts -/
theorem ex_for {c : Cfg} {tg : Tg} {it : It'} {b : List Sm} {ρ ρ1 : En} {xs : List PyData} {r : Option (Fl × En)} (hI : evI c it ρ = some (xs, ρ1)) (h : forI (fun x ρ => match bindT tg x ρ with
      | none => none
      | some ρ => exs c b ρ) xs ρ1 = r) : ex c (.for_ tg it b) ρ = r := by
  unfold ex
  rw [hI, bnd_some]
  exact h
/-! ### steps -/
section
variable {c : Cfg} {a b d : Ep} {ρ ρ1 ρ2 ρ3 : En} {x y z w : PyData} {f : Str} {ss : List Sm} {i : Nat}
theorem exs_ret (h : ev c a ρ = some (x, ρ1)) : exs c (.ret a :: ss) ρ = some (.ret x, ρ1) := by
  unfold exs ex
  rw [h]
  rfl
theorem ex_set (h : ev c a ρ = some (x, ρ1)) (hi : i < ρ1.length) : ex c (.set i a) ρ = some (.next, ρ1.set i (some (.d x))) := by
  unfold ex
  rw [h, bnd_some, if_pos hi]
theorem ex_seto {xs : List PyData} (h : ev c a ρ = some (.list xs, ρ1)) (hi : i < ρ1.length) : ex c (.seto i a) ρ = some (.next, ρ1.set i (some (.own false xs))) := by
  unfold ex
  rw [h, bnd_some]
  simp only [if_pos hi]
theorem ex_expr (h : ev c a ρ = some (x, ρ1)) : ex c (.expr a) ρ = some (.next, ρ1) := by
  unfold ex
  rw [h]
  rfl
end
/-! ### what repr bears -/
structure Ok (d : PyData) (n w : Nat) : Prop where
  small : small d = true
  depth : d.depth ≤ n
  wt : wt d ≤ w
  mix : d.hasDict = false ∨ noL d = true
theorem Ok.repr {d : PyData} {n w : Nat} (h : Ok d n w) (hn : n ≤ 60) (hw : w ≤ sizeLine) : reprOk d = true := by
  unfold reprOk
  have h1 := h.depth
  have h2 := h.wt
  simp only [h.small, Bool.true_and, Bool.and_eq_true, decide_eq_true_eq]
  refine ⟨⟨by omega, by omega⟩, ?_⟩
  rcases h.mix with h | h <;> simp [h]
theorem Ok.mono {d : PyData} {n m w v : Nat} (h : Ok d n w) (hn : n ≤ m) (hw : w ≤ v) : Ok d m v := ⟨h.small, Nat.le_trans h.depth hn, Nat.le_trans h.wt hw, h.mix⟩
/-- parts without dicts -/
structure OkA (xs : List PyData) (n w : Nat) : Prop where
  small : smallA xs = true
  depth : PyData.depthAll xs ≤ n
  wt : wtA xs ≤ w
  mix : PyData.hasDictAll xs = false
/-! ### cuts -/
theorem run_pen {c : Cfg} {f : Fn} {p q : List PyData} {xs : List PyData} {v : PyData} {ρ : En} (hc : ((some p).isSome == f.pen && !(f.pen && f.fr) && (xs.length + (if f.pen then 1 else 0) == f.np) && decide (f.np ≤ f.ns)) = true) (hp : f.pen = true) (h : exs c f.body (startE f (some p) xs) = some (.ret v, ρ)) (hq : penOf ρ = some q) : runF c f (some p) xs = some (v, some q) := by
  unfold runF
  rw [if_pos hc, h]
  simp [endF, hp, hq]
theorem run_lst {c : Cfg} {f : Fn} {xs ys : List PyData} {ρ : En} (hc : ((none : Option (List PyData)).isSome == f.pen && !(f.pen && f.fr) && (xs.length + (if f.pen then 1 else 0) == f.np) && decide (f.np ≤ f.ns)) = true) (hp : f.pen = false) (h : exs c f.body (startE f none xs) = some (.ret (.list ys), ρ)) : runF c f none xs = some (.list ys, none) := by
  unfold runF
  rw [if_pos hc, h]
  cases hf : f.fr <;> simp [endF, hp, hf]
end Wh

set_option Elab.async false
set_option linter.all false
set_option maxRecDepth 100000
set_option maxHeartbeats 2000000
set_option exponentiation.threshold 20000
/-! Wh21: lists of things with kinds. -/
namespace Wh
open PySem PySem.Spec PyProof.Rows L2 Evl
inductive Rw {α β : Type} (R : α → β → Prop) : List α → List β → Prop
  | nil : Rw R [] []
  | cons {x : α} {y : β} {xs : List α} {ys : List β} : R x y → Rw R xs ys → Rw R (x :: xs) (y :: ys)
theorem Rw.len {α β : Type} {R : α → β → Prop} : ∀ {xs : List α} {ys : List β}, Rw R xs ys → ys.length = xs.length
  | _, _, .nil => rfl
  | _, _, .cons _ t => by simp [Rw.len t]
theorem Rw.mono {α β : Type} {R S : α → β → Prop} (h : ∀ x y, R x y → S x y) : ∀ {xs : List α} {ys : List β}, Rw R xs ys → Rw S xs ys
  | _, _, .nil => .nil
  | _, _, .cons r t => .cons (h _ _ r) (t.mono h)
theorem Rw.zip {α β : Type} {R : α → β → Prop} : ∀ {xs : List α} {ys : List β}, Rw R xs ys → ∀ q ∈ xs.zip ys, R q.1 q.2
  | _, _, .nil, _, h => nomatch h
  | _, _, .cons r t, q, h => by
    rw [List.zip_cons_cons] at h
    cases h with
    | head => exact r
    | tail _ h => exact t.zip q h
theorem Rw.right {α β : Type} {R : α → β → Prop} : ∀ {xs : List α} {ys : List β}, Rw R xs ys → ∀ y ∈ ys, ∃ x ∈ xs, R x y
  | _, _, .nil, _, h => nomatch h
  | _, _, .cons r t, y, h => by
    cases h with
    | head => exact ⟨_, .head _, r⟩
    | tail _ h => obtain ⟨x, hx, hr⟩ := t.right y h; exact ⟨x, .tail _ hx, hr⟩
theorem rng_map (n : Nat) : rngD 0 (n : Int) = (List.range n).map fun (j : Nat) => .int (j : Int) := by
  unfold rngD
  rw [Int.sub_zero, Int.toNat_natCast]
  exact List.map_congr_left fun a _ => by rw [Int.zero_add]
theorem evI_rng {c : Cfg} {a : Ep} {ρ ρ1 : En} {n : Nat} (h : ev c a ρ = some (.int n, ρ1)) (hn : n ≤ 100000) : evI c (.rng1 a) ρ = some ((List.range n).map fun (j : Nat) => .int (j : Int), ρ1) := by
  have e : smallI (n : Int) = true := by simp [smallI]; omega
  unfold evI
  rw [h, bnd_some]
  simp only [e, if_true]
  rw [rng_map]
end Wh

set_option Elab.async false
set_option linter.all false
set_option maxRecDepth 100000
set_option maxHeartbeats 1000000
set_option exponentiation.threshold 5000
/-! Wh22: defs that say what a lambda tells or which class it raises. -/
namespace Wh
open PySem PySem.Spec PyProof.Rows L2 Evl L2H
theorem Wl.to {T : List (Addr × Str)} {a b : Addr} {F H : Hp} (w : @Wl ⟨T, a⟩ F H) : @Wl ⟨T, b⟩ F H := @Wl.mk ⟨T, b⟩ F H (@Wl.ex ⟨T, a⟩ F H w) (@Wl.tab ⟨T, a⟩ F H w) (@Wl.nt ⟨T, a⟩ F H w)
/-- nothing is called -/
def c0 : Cfg := ⟨fun _ _ _ => none, fun _ => none, 0, fun _ _ => none⟩
/-- what a body knows that looks at the exception alone -/
def tcX (N : List Str) (sc : Scope) (ow : List Nat) (ec : Str → List Str → Option (Nat × PyData)) : Tc := ⟨N, sc, sc, ow, fun _ => false, fun _ => false, fun _ => [], false, ec, fun _ => none, []⟩
/-- the answers about an exception of the class C, in the context X, are right -/
def EcOk [Tbl] (X : Cx) (ec : Str → List Str → Option (Nat × PyData)) : Prop := ∀ f ns i d, ec f ns = some (i, d) → ∀ (args : List Expr) (p pos : Pos), namesOf args = some ns → PE X (.Call (.Name f p) args [] pos) (tE X.K fun ρ => match ρ[i]? with
    | some (some .x) => some (d, ρ)
    | _ => none)
section
variable [Tbl] {X : Cx}
/-- a name that holds a class -/
def ClsV (X : Cx) (x : Str) (cv : Value) : Prop := Gl X x ∧ (x == ("__debug__" : Str)) = false ∧ ((∃ C, cv = .ref C ∧ X.mg x = some cv) ∨ (∃ t : String, cv = .type t ∧ X.mg x = none ∧ bootBuiltins x = some cv ∧ x ≠ "__name__"))
end
/-! ### defs that are called with the exception -/
/-- what such a def answers -/
structure FnS [Tbl] (P : Program) (w : World) (K : PySem.W.Frag) (mg : Str → Option Value) (base : Heap) (k : Nat) (f : Addr) (fd : FuncData) (ps : List Str) (C : Addr) (d : PyData) : Prop where
  run : ∀ (A : Around) (outer : List PySem.Env) (s : Shared) (H : Hp) (args : Args) (us : List Value) (Q : VK) (p : Addr × Obj), RoomH k A → A.guards = some [] → Zc (.ref C) none p.2 → (∃ vs, p.2.data = .fields vs) → PinOk outer H s p → Env0 P w K mg base A outer s H → BindsTo s fd args (ps.zip us) → Vals [.ref p.1] us →
    (∃ F, Wl F H ∧ ∀ v F' H', Ex F F' → Wl F' H' → NewIn F H F' → (∀ a o, H a = some o → noT o → H' a = some o) → (∀ a, H' a = none → H a = none) → Rp K F' v d → Q v H') → codeAny (model P w) A (.call (.ref f) args) (CR CX0 outer P w H s Q E0) s
/-- the slots at such a def's entry: the exception first -/
def rho0 (n : Nat) : En := some Sv.x :: List.replicate n none
end Wh

set_option Elab.async false
set_option linter.all false
set_option maxRecDepth 100000
set_option maxHeartbeats 1000000
set_option exponentiation.threshold 5000
/-! Wh23: try: return ("told", a()) / except x as n: .. -/
namespace Wh
open PySem PySem.Spec PyProof.Rows L2 Evl L2H
/-- the slots in the except suite: the exception at i, nothing else is known -/
def rhoS (n i : Nat) : En := (List.replicate n none).set i (some Sv.x)
/-- what must be known of each class that may come -/
def SuiteOk [Tbl] (X : Cx) (Ng : List Str) (x : Str) (sg : Scope) (g : Addr) (cdg : Value) (i : Nat) (CW : Addr) (suite : List Stmt) (ws : List (Str × PyData)) : Prop :=
  ∀ en w, ws.lookup en = some w → ∀ C, X.mg en = some (.ref C) → PySem.W.exmOne X.K (.ref C) (.ref CW) = some true ∧ ∃ ow ec b ρ', trBody (tcX Ng sg ow ec) false suite = some b ∧ exs c0 b (rhoS Ng.length i) = some (.ret w, ρ') ∧
    ∀ (s : Shared) (H : Hp) (a : Addr) (oe : Obj) (pn : List (Addr × Obj)), Zc (.ref C) none oe → (∃ vs, oe.data = .fields vs) → @EcOk ⟨Tbl.T, a⟩ ((cxOf C8.CX0 X.prog X.w X.K X.mg X.base Ng x sg g cdg X.A X.stack s H C8.E0).nox.suite a ((a, oe) :: pn)) ec
end Wh

set_option Elab.async false
set_option linter.all false
set_option maxRecDepth 100000
set_option maxHeartbeats 1000000
set_option exponentiation.threshold 5000
/-! Wh24: the laws' own defs that name the class of an exception. -/
namespace Wh
open PySem PySem.Spec PyProof.Rows L2 Evl L2H
/-- isinstance(y, x) by a list, f(y) by another; y in the slot i -/
def ecX (y : Str) (i : Nat) (nb : List (Str × Bool)) (cs : List (Str × PyData)) : Str → List Str → Option (Nat × PyData) := fun f ns => match ns with
  | [z, x] => if f = "isinstance" ∧ z = y then (nb.lookup x).map fun b => (i, .bool b) else none
  | [z] => if z = y then (cs.lookup f).map fun d => (i, d) else none
  | _ => none
/-- a class's name in the module, or the built-in one's; whether an exception of the class D is of it -/
def KitN (K : PySem.W.Frag) (mg : Str → Option Value) (D : Addr) (x : Str) (b : Bool) : Prop := (∃ C, mg x = some (.ref C) ∧ PySem.W.kitOne K (.ref D) (.ref C) = some b) ∨ (x = "ValueError" ∧ mg x = none ∧ PySem.W.kitOne K (.ref D) (.type "ValueError") = some b)
def glS (sc : Scope) (x : Str) : Bool := (sc.names.lookup x == some .globalImplicit) && plainName x
/-- a body, translated and run -/
def runT (tc : Tc) (body : List Stmt) (ρ : En) : Option Fl := match trBody tc false body with
  | some b => (exs c0 b ρ).map (·.1)
  | none => none
/-- what is known of a class that may come -/
structure XOk [Tbl] (K : PySem.W.Frag) (mg : Str → Option Value) (CW D : Addr) : Prop where
  sub : PySem.W.exmOne K (.ref D) (.ref CW) = some true
  exc : ExcC K D
/-- the except suite -/
def suiteOf (st : Stmt) : List Stmt := match defBody st with
  | [.Try _ [.ExceptHandler _ _ s _] _ _ _] => s
  | _ => []
/-! ### what the head tells of a class -/
theorem excB_ok [Tbl] {K : PySem.W.Frag} {h : Heap} {mg : Str → Option Value} {x : Str} {D CW : Addr} {nb : List (Str × Bool)} (X : K.In h) (G : h.Ns mainGlobals mg) (a : PySem.W.nsIn K mainGlobals x = some (some (.ref D))) (e : excB K D CW nb = true) :
    ClsK K mg x D ∧ XOk K mg CW D ∧ ∀ x b, (x, b) ∈ nb → KitN K mg D x b := by
  unfold excB at e
  simp only [Bool.and_eq_true, decide_eq_true_eq] at e
  obtain ⟨⟨⟨⟨⟨⟨⟨⟨⟨⟨⟨⟨e1, e2⟩, e3⟩, e4⟩, e5⟩, e6⟩, e7⟩, e8⟩, e9⟩, e10⟩, e11⟩, e12⟩, e13⟩ := e
  refine ⟨⟨PySem.W.mg_of X G a, e1, ⟨_, _, _, _, PySem.F.excBase_ValueError, e2⟩, e3, e4⟩, ⟨e5, ⟨e6, e7, e3, e8, e9, e10, e11, e12⟩⟩, fun y b hm => ?_⟩
  have q := List.all_eq_true.mp e13 (y, b) hm
  simp only at q
  split at q
  · rename_i Ca hC
    exact .inl ⟨Ca, PySem.W.mg_of X G hC, of_decide_eq_true q⟩
  · rename_i hC
    rw [Bool.and_eq_true] at q
    exact .inr ⟨of_decide_eq_true q.1, PySem.W.mg_none_of X G hC, of_decide_eq_true q.2⟩
  · cases q
end Wh

set_option Elab.async false
set_option linter.all false
set_option maxRecDepth 100000
set_option maxHeartbeats 2000000
set_option exponentiation.threshold 20000
/-! Wh25: what must hold ahead so that a thing holds behind. -/
namespace Wh
open PySem PySem.Spec PyProof.Rows L2 Evl
inductive WO {α : Type} (o : Option α) (Q : α → Prop) : Prop
  | intro (z : α) : o = some z → Q z → WO o Q
inductive WE (c : Cfg) (e : Ep) (ρ : En) (Q : PyData → En → Prop) : Prop
  | intro (x : PyData) (ρ' : En) : ev c e ρ = some (x, ρ') → Q x ρ' → WE c e ρ Q
inductive WEs (c : Cfg) (e : List Ep) (ρ : En) (Q : List PyData → En → Prop) : Prop
  | intro (x : List PyData) (ρ' : En) : evs c e ρ = some (x, ρ') → Q x ρ' → WEs c e ρ Q
inductive WEo (c : Cfg) (e : Option Ep) (ρ : En) (Q : Option PyData → En → Prop) : Prop
  | intro (x : Option PyData) (ρ' : En) : evO c e ρ = some (x, ρ') → Q x ρ' → WEo c e ρ Q
inductive WT (c : Cfg) (e : Tp) (ρ : En) (Q : Bool → En → Prop) : Prop
  | intro (x : Bool) (ρ' : En) : evT c e ρ = some (x, ρ') → Q x ρ' → WT c e ρ Q
inductive WTs (c : Cfg) (e : List Tp) (ρ : En) (Q : Bool → En → Prop) : Prop
  | intro (x : Bool) (ρ' : En) : evTs c e ρ = some (x, ρ') → Q x ρ' → WTs c e ρ Q
inductive WI (c : Cfg) (e : It') (ρ : En) (Q : List PyData → En → Prop) : Prop
  | intro (x : List PyData) (ρ' : En) : evI c e ρ = some (x, ρ') → Q x ρ' → WI c e ρ Q
inductive WS (c : Cfg) (e : List Sm) (ρ : En) (Q : Fl → En → Prop) : Prop
  | intro (x : Fl) (ρ' : En) : exs c e ρ = some (x, ρ') → Q x ρ' → WS c e ρ Q
structure WB (r : Bool) (A B : Prop) : Prop where
  t : r = true → A
  f : r = false → B
structure WP (ρ : En) (i : Nat) (v : Option Sv) (K : En → Prop) : Prop where
  l : i < ρ.length
  k : K (ρ.set i v)
theorem eq_ii (i j : Int) : cmpD .eq (.int i) (.int j) = some (decide (i = j)) := by rw [cmp_eq, eqD_ii]
theorem ne_ii (i j : Int) : cmpD .ne (.int i) (.int j) = some (!decide (i = j)) := by rw [cmp_ne, eqD_ii]; rfl
theorem eq_ss (i j : Str) : cmpD .eq (.str i) (.str j) = some (decide (i = j)) := by rw [cmp_eq, eqD_ss]
theorem ne_ss (i j : Str) : cmpD .ne (.str i) (.str j) = some (!decide (i = j)) := by rw [cmp_ne, eqD_ss]; rfl
theorem w_o {α : Type} {o : Option α} {Q : α → Prop} {z : α} (h : o = some z) (q : Q z) : WO o Q := ⟨z, h, q⟩
theorem w_bt {A B : Prop} (h : A) : WB true A B := ⟨fun _ => h, fun e => nomatch e⟩
theorem w_bf {A B : Prop} (h : B) : WB false A B := ⟨fun e => Bool.noConfusion e, fun _ => h⟩
theorem w_bd {p : Prop} [Decidable p] {A B : Prop} (h : p → A) (g : ¬ p → B) : WB (decide p) A B := ⟨fun e => h (of_decide_eq_true e), fun e => g (of_decide_eq_false e)⟩
theorem w_ob {o : Option En} {ρ1 ρ2 : En} {K : En → Prop} (h : o = some ρ1) (e : ρ1 = ρ2) (k : K ρ2) : WO o K := ⟨ρ1, h, e ▸ k⟩
theorem w_put {ρ ρ2 : En} {i : Nat} {v : Option Sv} {K : En → Prop} (h : Nat.ble (i + 1) ρ.length = true) (e : ρ.set i v = ρ2) (k : K ρ2) : WP ρ i v K := ⟨Nat.le_of_ble_eq_true h, e ▸ k⟩
section
variable {c : Cfg} {ρ ρ1 : En} {Q : PyData → En → Prop} {a b d : Ep} {x : PyData} {i : Nat}
theorem w_con (q : Q x ρ) : WE c (.con x) ρ Q := ⟨x, ρ, rfl, q⟩
theorem w_var (h : ρ[i]? = some (some (.d x))) (q : Q x ρ) : WE c (.var i) ρ Q := ⟨x, ρ, by rw [ev, h], q⟩
theorem w_varo {o : Bool} {xs : List PyData} (h : ρ[i]? = some (some (.own o xs))) (e : ρ.set i (some (.d (.list xs))) = ρ1) (q : Q (.list xs) ρ1) : WE c (.var i) ρ Q := ⟨_, _, by rw [ev, h], e ▸ q⟩
theorem w_vark {xs : List (PyData × PyData)} (h : ρ[i]? = some (some (.od xs))) (e : ρ.set i (some (.d (.dict xs))) = ρ1) (q : Q (.dict xs) ρ1) : WE c (.var i) ρ Q := ⟨_, _, by rw [ev, h], e ▸ q⟩
theorem w_glob {y : Str} {z : PyData} (h : c.glob y = some x) (hz : globD x = some z) (q : Q z ρ) : WE c (.glob y) ρ Q := ⟨z, ρ, by rw [ev, h]; simp only [hz]; rfl, q⟩
theorem w_bin {o : BOp} (h : WE c a ρ fun x ρ => WE c b ρ fun y ρ => WO (binD o x y) fun z => Q z ρ) : WE c (.bin o a b) ρ Q := by
  obtain ⟨x, ρ1, e1, y, ρ2, e2, z, e3, q⟩ := h
  exact ⟨z, ρ2, by rw [ev, e1, bnd_some, e2, bnd_some, e3]; rfl, q⟩
theorem w_neg (h : WE c a ρ fun x ρ => WO (match x with | .int i => some (PyData.int (-i)) | _ => none) fun z => Q z ρ) : WE c (.neg a) ρ Q := by
  obtain ⟨x, ρ1, e1, z, e3, q⟩ := h
  refine ⟨z, ρ1, ?_, q⟩
  rw [ev, e1, bnd_some]
  cases x <;> simp_all
theorem w_cmp {o : COp} (h : WE c a ρ fun x ρ => WE c b ρ fun y ρ => WO (cmpD o x y) fun z => Q (.bool z) ρ) : WE c (.cmp o a b) ρ Q := by
  obtain ⟨x, ρ1, e1, y, ρ2, e2, z, e3, q⟩ := h
  exact ⟨.bool z, ρ2, by rw [ev, e1, bnd_some, e2, bnd_some, e3]; rfl, q⟩
theorem w_chain {o o2 : COp} (h : WE c a ρ fun x ρ => WE c b ρ fun y ρ => WO (cmpD o x y) fun z => WB z (WE c d ρ fun w ρ => WO (cmpD o2 y w) fun r => Q (.bool r) ρ) (Q (.bool false) ρ)) : WE c (.chain o o2 a b d) ρ Q := by
  obtain ⟨x, ρ1, e1, y, ρ2, e2, z, e3, h⟩ := h
  cases z with
  | false => exact ⟨.bool false, ρ2, by rw [ev, e1, bnd_some, e2, bnd_some, e3]; rfl, h.f rfl⟩
  | true =>
    obtain ⟨w, ρ3, e4, r, e5, q⟩ := h.t rfl
    exact ⟨.bool r, ρ3, by rw [ev, e1, bnd_some, e2, bnd_some, e3]; show bnd (ev c d ρ2) _ = _; rw [e4, bnd_some, e5]; rfl, q⟩
theorem w_and (h : WE c a ρ fun x ρ => ∃ r, x = .bool r ∧ WB r (WE c b ρ Q) (Q (.bool false) ρ)) : WE c (.and a b) ρ Q := by
  obtain ⟨x, ρ1, e1, r, rfl, h⟩ := h
  cases r with
  | false => exact ⟨.bool false, ρ1, by rw [ev, e1]; rfl, h.f rfl⟩
  | true =>
    obtain ⟨w, ρ3, e4, q⟩ := h.t rfl
    exact ⟨w, ρ3, by rw [ev, e1]; exact e4, q⟩
theorem w_or (h : WE c a ρ fun x ρ => ∃ r, x = .bool r ∧ WB r (Q (.bool true) ρ) (WE c b ρ Q)) : WE c (.or a b) ρ Q := by
  obtain ⟨x, ρ1, e1, r, rfl, h⟩ := h
  cases r with
  | true => exact ⟨.bool true, ρ1, by rw [ev, e1]; rfl, h.t rfl⟩
  | false =>
    obtain ⟨w, ρ3, e4, q⟩ := h.f rfl
    exact ⟨w, ρ3, by rw [ev, e1]; exact e4, q⟩
theorem w_not (h : WE c a ρ fun x ρ => ∃ r, x = .bool r ∧ Q (.bool (!r)) ρ) : WE c (.not a) ρ Q := by
  obtain ⟨x, ρ1, e1, r, rfl, h⟩ := h
  exact ⟨_, ρ1, by rw [ev, e1]; rfl, h⟩
theorem w_bool {r : Bool} {P : Bool → Prop} (h : P r) : ∃ s, PyData.bool r = .bool s ∧ P s := ⟨r, rfl, h⟩
theorem w_ite {t : Tp} (h : WT c t ρ fun r ρ => WB r (WE c a ρ Q) (WE c b ρ Q)) : WE c (.ite t a b) ρ Q := by
  obtain ⟨r, ρ1, e1, h⟩ := h
  cases r with
  | true =>
    obtain ⟨w, ρ3, e4, q⟩ := h.t rfl
    exact ⟨w, ρ3, by rw [ev, e1]; exact e4, q⟩
  | false =>
    obtain ⟨w, ρ3, e4, q⟩ := h.f rfl
    exact ⟨w, ρ3, by rw [ev, e1]; exact e4, q⟩
theorem w_leaf {Q : Bool → En → Prop} (h : WE c a ρ fun x ρ => WO (truD x) fun r => Q r ρ) : WT c (.leaf a) ρ Q := by
  obtain ⟨x, ρ1, e1, r, e2, q⟩ := h
  exact ⟨r, ρ1, by rw [evT, e1, bnd_some, e2]; rfl, q⟩
theorem w_tand {Q : Bool → En → Prop} {s t : Tp} (h : WT c s ρ fun r ρ => WB r (WT c t ρ Q) (Q false ρ)) : WT c (.and s t) ρ Q := by
  obtain ⟨r, ρ1, e1, h⟩ := h
  cases r with
  | true =>
    obtain ⟨w, ρ3, e4, q⟩ := h.t rfl
    exact ⟨w, ρ3, by rw [evT, e1]; exact e4, q⟩
  | false => exact ⟨false, ρ1, by rw [evT, e1]; rfl, h.f rfl⟩
theorem w_tor {Q : Bool → En → Prop} {s t : Tp} (h : WT c s ρ fun r ρ => WB r (Q true ρ) (WT c t ρ Q)) : WT c (.or s t) ρ Q := by
  obtain ⟨r, ρ1, e1, h⟩ := h
  cases r with
  | true => exact ⟨true, ρ1, by rw [evT, e1]; rfl, h.t rfl⟩
  | false =>
    obtain ⟨w, ρ3, e4, q⟩ := h.f rfl
    exact ⟨w, ρ3, by rw [evT, e1]; exact e4, q⟩
theorem w_tnot {Q : Bool → En → Prop} {s : Tp} (h : WT c s ρ fun r ρ => Q (!r) ρ) : WT c (.not s) ρ Q := by
  obtain ⟨r, ρ1, e1, q⟩ := h
  exact ⟨!r, ρ1, by rw [evT, e1]; rfl, q⟩
theorem w_ts0 {Q : Bool → En → Prop} (q : Q true ρ) : WTs c [] ρ Q := ⟨true, ρ, rfl, q⟩
theorem w_ts1 {Q : Bool → En → Prop} {t : Tp} (h : WT c t ρ Q) : WTs c [t] ρ Q := by obtain ⟨x, ρ1, e, q⟩ := h; exact ⟨x, ρ1, e, q⟩
theorem w_es0 {Q : List PyData → En → Prop} (q : Q [] ρ) : WEs c [] ρ Q := ⟨[], ρ, rfl, q⟩
theorem w_es1 {Q : List PyData → En → Prop} {es : List Ep} (h : WE c a ρ fun x ρ => WEs c es ρ fun xs ρ => Q (x :: xs) ρ) : WEs c (a :: es) ρ Q := by
  obtain ⟨x, ρ1, e1, xs, ρ2, e2, q⟩ := h
  exact ⟨x :: xs, ρ2, by rw [evs, e1, bnd_some, e2, bnd_some], q⟩
theorem w_tup {es : List Ep} (hl : Nat.ble es.length 1000 = true) (h : WEs c es ρ fun xs ρ => Q (.tuple xs) ρ) : WE c (.tup es) ρ Q := by
  obtain ⟨x, ρ1, e1, q⟩ := h
  have := Nat.le_of_ble_eq_true hl
  have L : (1000 : Nat) ≤ sizeLine := by decide
  exact ⟨_, ρ1, by rw [ev, if_pos (by omega), e1, bnd_some], q⟩
theorem w_lst {es : List Ep} (hl : Nat.ble es.length 1000 = true) (h : WEs c es ρ fun xs ρ => Q (.list xs) ρ) : WE c (.lst es) ρ Q := by
  obtain ⟨x, ρ1, e1, q⟩ := h
  have := Nat.le_of_ble_eq_true hl
  have L : (1000 : Nat) ≤ sizeLine := by decide
  exact ⟨_, ρ1, by rw [ev, if_pos (by omega), e1, bnd_some], q⟩
theorem flat_rep {x : PyData} : ∀ m : Nat, (List.replicate m [x]).flatten = List.replicate m x
  | 0 => rfl
  | m + 1 => by rw [List.replicate_succ, List.flatten_cons, flat_rep m]; rfl
/-- [x] * n -/
theorem w_repl1 (h : WE c a ρ fun x ρ => WE c b ρ fun y ρ => ∃ m : Nat, y = .int (m : Int) ∧ m ≤ 1000 ∧ Q (.list (List.replicate m x)) ρ) : WE c (.repl [a] b) ρ Q := by
  obtain ⟨x, ρ1, e1, y, ρ2, e2, m, rfl, hm, q⟩ := h
  refine ⟨_, ρ2, ?_, q⟩
  have L : (1000 : Nat) ≤ sizeLine := by decide
  have a1 : -((2 : Int) ^ 63) ≤ (m : Int) := by have : (0 : Int) < 2 ^ 63 := by decide
                                                omega
  have a2 : (m : Int) < 2 ^ 63 := by have : (1000 : Int) < 2 ^ 63 := by decide
                                     omega
  have a3 : [x].length * (m : Int).toNat ≤ sizeLine := by
    have : (m : Int).toNat = m := rfl
    rw [this, List.length_singleton, Nat.one_mul]
    omega
  rw [ev]
  have e1' : evs c [a] ρ = some ([x], ρ1) := by rw [evs, e1, bnd_some]; rfl
  rw [if_pos (by rw [List.length_singleton]; omega), e1', bnd_some, e2, bnd_some]
  simp only
  rw [if_pos ⟨a1, a2, a3⟩]
  have : (m : Int).toNat = m := rfl
  rw [this, flat_rep]
theorem w_dct0 (q : Q (.dict []) ρ) : WE c .dct0 ρ Q := ⟨_, ρ, rfl, q⟩
theorem w_dct1 (h : WE c a ρ fun x ρ => WE c b ρ fun y ρ => ∃ k, keyD x = some k ∧ Q (.dict [(x, y)]) ρ) : WE c (.dct1 a b) ρ Q := by
  obtain ⟨x, ρ1, e1, y, ρ2, e2, z, e3, q⟩ := h
  exact ⟨_, ρ2, by rw [ev, e1, bnd_some, e2, bnd_some]; simp only [e3], q⟩
theorem w_ix (h : WE c a ρ fun x ρ => WE c b ρ fun y ρ => WO (ixD x y) fun z => Q z ρ) : WE c (.ix a b) ρ Q := by
  obtain ⟨x, ρ1, e1, y, ρ2, e2, z, e3, q⟩ := h
  exact ⟨z, ρ2, by rw [ev, e1, bnd_some, e2, bnd_some, e3]; rfl, q⟩
theorem w_oix {s : Sv} (h0 : ρ[i]? = some (some s)) (h : WE c a ρ fun y ρ => WO (match ρ[i]? with
      | some (some (.own _ xs)) => ixD (.list xs) y
      | some (some (.d x)) => ixD x y
      | some (some (.od xs)) => ixD (.dict xs) y
      | _ => none) fun z => Q z ρ) : WE c (.oix i a) ρ Q := by
  obtain ⟨y, ρ1, e1, z, e2, q⟩ := h
  refine ⟨z, ρ1, ?_, q⟩
  rw [ev, h0]
  simp only
  rw [e1, bnd_some]
  split at e2 <;> simp_all [ret]
theorem w_sl {lo hi : Option Ep} (h : WE c a ρ fun x ρ => WEo c lo ρ fun l ρ => WEo c hi ρ fun r ρ => WO (partD l) fun l => WO (partD r) fun r => WO (slD x l r) fun z => Q z ρ) : WE c (.sl a lo hi) ρ Q := by
  obtain ⟨x, ρ1, e1, l, ρ2, e2, r, ρ3, e3, l', e4, r', e5, z, e6, q⟩ := h
  exact ⟨z, ρ3, by rw [ev, e1, bnd_some, e2, bnd_some, e3, bnd_some]; simp only [e4, e5, e6]; rfl, q⟩
theorem w_eo0 {Q : Option PyData → En → Prop} (q : Q none ρ) : WEo c none ρ Q := ⟨none, ρ, rfl, q⟩
theorem w_eo1 {Q : Option PyData → En → Prop} (h : WE c a ρ fun x ρ => Q (some x) ρ) : WEo c (some a) ρ Q := by
  obtain ⟨x, ρ1, e1, q⟩ := h
  exact ⟨some x, ρ1, by rw [evO, e1, bnd_some], q⟩
/-- what a call gives -/
inductive WL (o : Option (PyData × Option (List PyData))) (K : PyData → Prop) : Prop
  | intro (z : PyData) : o = some (z, none) → K z → WL o K
theorem w_c {o : Option (PyData × Option (List PyData))} {z : PyData} {K : PyData → Prop} (h : o = some (z, none)) (q : K z) : WL o K := ⟨z, h, q⟩
theorem w_call {f : Str} {es : List Ep} (h : WEs c es ρ fun xs ρ => WL (c.call f none xs) fun z => Q z ρ) : WE c (.call f es) ρ Q := by
  obtain ⟨xs, ρ1, e1, z, e2, q⟩ := h
  exact ⟨z, ρ1, by rw [ev, e1, bnd_some, e2], q⟩
theorem w_callk {f : Str} {es : List Ep} {ix : List (Nat ⊕ PyData)} (h : WEs c es ρ fun xs ρ => WO (pickD xs ix) fun ys => WL (c.call f none ys) fun z => Q z ρ) : WE c (.callk f es ix) ρ Q := by
  obtain ⟨xs, ρ1, e1, ys, e0, z, e2, q⟩ := h
  exact ⟨z, ρ1, by rw [ev, e1, bnd_some]; simp only [e0, e2], q⟩
/-- what a call gives that changes a list -/
inductive WLp (o : Option (PyData × Option (List PyData))) (K : PyData → List PyData → Prop) : Prop
  | intro (z : PyData) (q : List PyData) : o = some (z, some q) → K z q → WLp o K
theorem w_cp {o : Option (PyData × Option (List PyData))} {z : PyData} {p : List PyData} {K : PyData → List PyData → Prop} (h : o = some (z, some p)) (q : K z p) : WLp o K := ⟨z, p, h, q⟩
theorem w_callp {f : Str} {es : List Ep} {s : Sv} (h0 : ρ[i]? = some (some s)) (h : WEs c es ρ fun xs ρ => ∃ o p, ρ[i]? = some (some (.own o p)) ∧ WLp (c.call f (some p) xs) fun z q => WP ρ i (some (.own o q)) fun ρ => Q z ρ) : WE c (.callp f i es) ρ Q := by
  obtain ⟨xs, ρ1, e1, o, p, e2, z, q, e3, _, k⟩ := h
  exact ⟨z, _, by rw [ev, h0]; simp only; rw [e1, bnd_some, e2]; simp only [e3], k⟩
theorem w_b1 {o : B1} (h : WE c a ρ fun x ρ => WO (b1D o x) fun z => Q z ρ) : WE c (.b1 o a) ρ Q := by
  obtain ⟨x, ρ1, e1, z, e3, q⟩ := h
  exact ⟨z, ρ1, by rw [ev, e1, bnd_some, e3]; rfl, q⟩
theorem w_b2 {o : B2} (h : WE c a ρ fun x ρ => WE c b ρ fun y ρ => WO (b2D o x y) fun z => Q z ρ) : WE c (.b2 o a b) ρ Q := by
  obtain ⟨x, ρ1, e1, y, ρ2, e2, z, e3, q⟩ := h
  exact ⟨z, ρ2, by rw [ev, e1, bnd_some, e2, bnd_some, e3]; rfl, q⟩
theorem w_cnt (h : WE c a ρ fun x ρ => WE c b ρ fun y ρ => WO (cntD x y) fun z => Q z ρ) : WE c (.cnt a b) ρ Q := by
  obtain ⟨x, ρ1, e1, y, ρ2, e2, z, e3, q⟩ := h
  exact ⟨z, ρ2, by rw [ev, e1, bnd_some, e2, bnd_some, e3]; rfl, q⟩
theorem w_idx (h : WE c a ρ fun x ρ => WE c b ρ fun y ρ => WO (idxD x y) fun z => Q z ρ) : WE c (.idx a b) ρ Q := by
  obtain ⟨x, ρ1, e1, y, ρ2, e2, z, e3, q⟩ := h
  exact ⟨z, ρ2, by rw [ev, e1, bnd_some, e2, bnd_some, e3]; rfl, q⟩
theorem w_srs (h : WE c a ρ fun x ρ => WO (srsD x) fun z => Q z ρ) : WE c (.srs a) ρ Q := by
  obtain ⟨x, ρ1, e1, z, e3, q⟩ := h
  exact ⟨z, ρ1, by rw [ev, e1, bnd_some, e3]; rfl, q⟩
theorem w_rev (h : WE c a ρ fun x ρ => WO (revD x) fun z => Q z ρ) : WE c (.rev a) ρ Q := by
  obtain ⟨x, ρ1, e1, z, e3, q⟩ := h
  exact ⟨z, ρ1, by rw [ev, e1, bnd_some, e3]; rfl, q⟩
theorem w_trg (h : WE c a ρ fun x ρ => WO (trgD x) fun z => Q z ρ) : WE c (.trg a) ρ Q := by
  obtain ⟨x, ρ1, e1, z, e3, q⟩ := h
  exact ⟨z, ρ1, by rw [ev, e1, bnd_some, e3]; rfl, q⟩
/-- is it in what stands in a slot -/
def inS (neg : Bool) (x : PyData) : Option (Option Sv) → Option Bool
  | some (some (.own _ xs)) => (inD x xs).map fun r => if neg then !r else r
  | some (some (.d y)) => cmpD (if neg then .nin else .inn) x y
  | some (some (.od xs)) => (dinD x xs).map fun r => if neg then !r else r
  | _ => none
theorem w_oin {neg : Bool} (h : WE c a ρ fun x ρ => WO (inS neg x ρ[i]?) fun z => Q (.bool z) ρ) : WE c (.oin neg a i) ρ Q := by
  obtain ⟨x, ρ1, e1, z, e2, q⟩ := h
  refine ⟨_, ρ1, ?_, q⟩
  rw [ev, e1, bnd_some]
  cases e : ρ1[i]? with
  | none => rw [e] at e2; cases e2
  | some s =>
    rw [e] at e2
    cases s with
    | none => cases e2
    | some s =>
      cases s with
      | d y => simp only [inS] at e2; simp only [e2]; rfl
      | x => cases e2
      | own o xs =>
        simp only [inS] at e2
        cases e3 : inD x xs with
        | none => rw [e3] at e2; cases e2
        | some r => rw [e3] at e2; cases e2; simp only [e3]; rfl
      | od xs =>
        simp only [inS] at e2
        cases e3 : dinD x xs with
        | none => rw [e3] at e2; cases e2
        | some r => rw [e3] at e2; cases e2; simp only [e3]; rfl
def lenS : Option (Option Sv) → Option PyData
  | some (some (.own _ xs)) => some (.int xs.length)
  | some (some (.d y)) => b1D .len y
  | some (some (.od xs)) => some (.int xs.length)
  | _ => none
theorem w_olen (h : WO (lenS ρ[i]?) fun z => Q z ρ) : WE c (.olen i) ρ Q := by
  obtain ⟨z, e2, q⟩ := h
  refine ⟨z, ρ, ?_, q⟩
  rw [ev]
  cases e : ρ[i]? with
  | none => rw [e] at e2; cases e2
  | some s =>
    rw [e] at e2
    cases s with
    | none => cases e2
    | some s =>
      cases s with
      | d y => simp only [lenS] at e2; simp only [e2]; rfl
      | x => cases e2
      | own o xs => simp only [lenS] at e2; cases e2; rfl
      | od xs => simp only [lenS] at e2; cases e2; rfl
theorem w_ddup (h : WE c a ρ fun x ρ => ∃ kds, x = .dict kds ∧ Q (.dict (dupD kds)) ρ) : WE c (.ddup a) ρ Q := by
  obtain ⟨x, ρ1, e1, k, rfl, q⟩ := h
  exact ⟨_, ρ1, by rw [ev, e1, bnd_some], q⟩
theorem w_dict {kds : List (PyData × PyData)} {P : List (PyData × PyData) → Prop} (h : P kds) : ∃ s, PyData.dict kds = .dict s ∧ P s := ⟨kds, rfl, h⟩
theorem w_vin (h : WE c a ρ fun x ρ => WE c b ρ fun y ρ => ∃ kds, y = .dict kds ∧ WO (vinD x kds) fun r => Q (.bool r) ρ) : WE c (.vin a b) ρ Q := by
  obtain ⟨x, ρ1, e1, y, ρ2, e2, k, rfl, z, e3, q⟩ := h
  exact ⟨_, ρ2, by rw [ev, e1, bnd_some, e2, bnd_some]; simp only [e3]; rfl, q⟩
theorem w_opop {o : Bool} {xs : List PyData} (h : ρ[i]? = some (some (.own o (x :: xs)))) (e : ρ.set i (some (.own o xs)) = ρ1) (q : Q x ρ1) : WE c (.opop i) ρ Q := ⟨_, _, by rw [ev, h], e ▸ q⟩
/-! iterables -/
variable {L : List PyData → En → Prop}
theorem w_seq (h : WE c a ρ fun x ρ => WO (seqD x) fun z => L z ρ) : WI c (.seq a) ρ L := by
  obtain ⟨x, ρ1, e1, z, e3, q⟩ := h
  exact ⟨z, ρ1, by rw [evI, e1, bnd_some, e3]; rfl, q⟩
theorem w_enum (h : WE c a ρ fun x ρ => WO (seqD x) fun z => L (enumD 0 z) ρ) : WI c (.enum a) ρ L := by
  obtain ⟨x, ρ1, e1, z, e3, q⟩ := h
  exact ⟨_, ρ1, by rw [evI, e1, bnd_some, e3]; rfl, q⟩
theorem w_zip (h : WE c a ρ fun x ρ => WE c b ρ fun y ρ => WO (zipK x y) fun z => L z ρ) : WI c (.zip a b) ρ L := by
  obtain ⟨x, ρ1, e1, y, ρ2, e2, z, e3, q⟩ := h
  exact ⟨z, ρ2, by rw [evI, e1, bnd_some, e2, bnd_some, e3]; rfl, q⟩
theorem w_zips (h : WE c a ρ fun x ρ => WE c b ρ fun y ρ => WO (zipKs x y) fun z => L z ρ) : WI c (.zips a b) ρ L := by
  obtain ⟨x, ρ1, e1, y, ρ2, e2, z, e3, q⟩ := h
  exact ⟨z, ρ2, by rw [evI, e1, bnd_some, e2, bnd_some, e3]; rfl, q⟩
theorem w_zip3 (h : WE c a ρ fun x ρ => WE c b ρ fun y ρ => WE c d ρ fun u ρ => WO (zipK3 x y u) fun z => L z ρ) : WI c (.zip3 a b d) ρ L := by
  obtain ⟨x, ρ1, e1, y, ρ2, e2, u, ρ3, e3, z, e4, q⟩ := h
  exact ⟨z, ρ3, by rw [evI, e1, bnd_some, e2, bnd_some, e3, bnd_some, e4]; rfl, q⟩
theorem w_rng1 (h : WE c a ρ fun x ρ => ∃ n : Nat, x = .int (n : Int) ∧ n ≤ 100000 ∧ L ((List.range n).map fun (j : Nat) => .int (j : Int)) ρ) : WI c (.rng1 a) ρ L := by
  obtain ⟨x, ρ1, e1, n, rfl, hn, q⟩ := h
  exact ⟨_, ρ1, evI_rng e1 hn, q⟩
/-! comprehensions -/
/-- the step of a comprehension -/
def WC (c : Cfg) (e : Ep) (tg : Tg) (cs : List Tp) (own : List Nat) (ρ : En) (x : PyData) (y : Option PyData) : Prop :=
  WO (bindT tg x (wipeE ρ own)) fun ρ1 => WTs c cs ρ1 fun r ρ2 => WB r (WE c e ρ2 fun z ρ3 => backE ρ ρ3 own = ρ ∧ y = some z) (backE ρ ρ2 own = ρ ∧ y = none)
theorem WC.step {e : Ep} {tg : Tg} {cs : List Tp} {own : List Nat} {x : PyData} {y : Option PyData} (h : WC c e tg cs own ρ x y) : stepC tg (evTs c cs) (ev c e) own ρ x ρ = some (y, ρ) := by
  obtain ⟨ρ1, e1, r, ρ2, e2, h⟩ := h
  unfold stepC
  rw [e1]
  simp only
  rw [e2, bnd_some]
  cases r with
  | false =>
    obtain ⟨b, rfl⟩ := h.f rfl
    simp only [b]
  | true =>
    obtain ⟨z, ρ3, e3, b, rfl⟩ := h.t rfl
    simp only
    rw [e3, bnd_some, b]
/-- .. that may change what stands in other slots -/
def WCI (c : Cfg) (I : En → Prop) (e : Ep) (tg : Tg) (cs : List Tp) (own : List Nat) (ρ0 ρ : En) (x : PyData) (y : Option PyData) : Prop :=
  WO (bindT tg x (wipeE ρ own)) fun ρ1 => WTs c cs ρ1 fun r ρ2 => WB r (WE c e ρ2 fun z ρ3 => I (backE ρ0 ρ3 own) ∧ y = some z) (I (backE ρ0 ρ2 own) ∧ y = none)
theorem WCI.step {I : En → Prop} {e : Ep} {tg : Tg} {cs : List Tp} {own : List Nat} {ρ0 : En} {x : PyData} {y : Option PyData} (h : WCI c I e tg cs own ρ0 ρ x y) : ∃ ρ', stepC tg (evTs c cs) (ev c e) own ρ0 x ρ = some (y, ρ') ∧ I ρ' := by
  obtain ⟨ρ1, e1, r, ρ2, e2, h⟩ := h
  unfold stepC
  rw [e1]
  simp only
  rw [e2, bnd_some]
  cases r with
  | false =>
    obtain ⟨b, rfl⟩ := h.f rfl
    exact ⟨_, rfl, b⟩
  | true =>
    obtain ⟨z, ρ3, e3, b, rfl⟩ := h.t rfl
    simp only
    rw [e3, bnd_some]
    exact ⟨_, rfl, b⟩
def WK (c : Cfg) (k v : Ep) (tg : Tg) (cs : List Tp) (own : List Nat) (ρ : En) (x : PyData) (y : Option (PyData × PyData)) : Prop :=
  WO (bindT tg x (wipeE ρ own)) fun ρ1 => WTs c cs ρ1 fun r ρ2 => WB r (WE c k ρ2 fun z ρ3 => WE c v ρ3 fun w ρ3 => backE ρ ρ3 own = ρ ∧ y = some (z, w)) (backE ρ ρ2 own = ρ ∧ y = none)
theorem WK.step {k v : Ep} {tg : Tg} {cs : List Tp} {own : List Nat} {x : PyData} {y : Option (PyData × PyData)} (h : WK c k v tg cs own ρ x y) : stepC tg (evTs c cs) (fun ρ => bnd (ev c k ρ) fun x ρ => bnd (ev c v ρ) fun y ρ => some (.tuple [x, y], ρ)) own ρ x ρ = some (y.map fun q => .tuple [q.1, q.2], ρ) := by
  obtain ⟨ρ1, e1, r, ρ2, e2, h⟩ := h
  unfold stepC
  rw [e1]
  simp only
  rw [e2, bnd_some]
  cases r with
  | false =>
    obtain ⟨b, rfl⟩ := h.f rfl
    simp only [b]
    rfl
  | true =>
    obtain ⟨z, ρ3, e3, w, ρ4, e4, b, rfl⟩ := h.t rfl
    simp only
    rw [e3, bnd_some, e4, bnd_some, bnd_some, b]
    rfl
end
/-! statements -/
section
variable {c : Cfg} {ρ ρ1 : En} {Q : Fl → En → Prop} {a b d : Ep} {i : Nat} {ss : List Sm}
theorem w_nil (q : Q .next ρ) : WS c [] ρ Q := ⟨_, _, rfl, q⟩
theorem w_set (h : WE c a ρ fun x ρ => WP ρ i (some (.d x)) fun ρ => WS c ss ρ Q) : WS c (.set i a :: ss) ρ Q := by
  obtain ⟨x, ρ1, e1, hi, f, ρ2, e2, q⟩ := h
  exact ⟨f, ρ2, exs_next (ex_set e1 hi) e2, q⟩
theorem w_seto (h : WE c a ρ fun x ρ => ∃ xs, x = .list xs ∧ WP ρ i (some (.own false xs)) fun ρ => WS c ss ρ Q) : WS c (.seto i a :: ss) ρ Q := by
  obtain ⟨x, ρ1, e1, xs, rfl, hi, f, ρ2, e2, q⟩ := h
  exact ⟨f, ρ2, exs_next (ex_seto e1 hi) e2, q⟩
theorem w_list {xs : List PyData} {P : List PyData → Prop} (h : P xs) : ∃ s, PyData.list xs = .list s ∧ P s := ⟨xs, rfl, h⟩
theorem w_setk (h : WE c a ρ fun x ρ => ∃ xs, x = .dict xs ∧ WP ρ i (some (.od xs)) fun ρ => WS c ss ρ Q) : WS c (.setk i a :: ss) ρ Q := by
  obtain ⟨x, ρ1, e1, xs, rfl, hi, f, ρ2, e2, q⟩ := h
  refine ⟨f, ρ2, exs_next ?_ e2, q⟩
  rw [ex, e1, bnd_some]
  simp only [if_pos hi]
theorem w_unp {ts : List Tg} (h : WE c a ρ fun x ρ => WO (bindT (.tup ts) x ρ) fun ρ => WS c ss ρ Q) : WS c (.unp ts a :: ss) ρ Q := by
  obtain ⟨x, ρ1, e1, ρ2, e2, f, ρ3, e3, q⟩ := h
  exact ⟨f, ρ3, exs_next (by rw [ex, e1, bnd_some, e2]) e3, q⟩
theorem w_par {is : List Nat} {es : List Ep} (h : WEs c es ρ fun xs ρ => WO (setAll is xs ρ) fun ρ => WS c ss ρ Q) : WS c (.par is es :: ss) ρ Q := by
  obtain ⟨x, ρ1, e1, ρ2, e2, f, ρ3, e3, q⟩ := h
  exact ⟨f, ρ3, exs_next (by rw [ex, e1, bnd_some, e2]) e3, q⟩
theorem w_paro {is : List Nat} {os : List Bool} {es : List Ep} (h : WEs c es ρ fun xs ρ => WO (setAllO is os xs ρ) fun ρ => WS c ss ρ Q) : WS c (.paro is os es :: ss) ρ Q := by
  obtain ⟨x, ρ1, e1, ρ2, e2, f, ρ3, e3, q⟩ := h
  exact ⟨f, ρ3, exs_next (by rw [ex, e1, bnd_some, e2]) e3, q⟩
theorem w_parok {is : List Nat} {ks : List Nat} {es : List Ep} (h : WEs c es ρ fun xs ρ => WO (setAllK is ks xs ρ) fun ρ => WS c ss ρ Q) : WS c (.parok is ks es :: ss) ρ Q := by
  obtain ⟨x, ρ1, e1, ρ2, e2, f, ρ3, e3, q⟩ := h
  exact ⟨f, ρ3, exs_next (by rw [ex, e1, bnd_some, e2]) e3, q⟩
/-- an item of one's own stored -/
inductive WQ (ρ : En) (i : Nat) (y x : PyData) (K : En → Prop) : Prop
  | intro (ρ' : En) : stoI x i y ρ = some ρ' → K ρ' → WQ ρ i y x K
theorem w_seti (h : WE c b ρ fun x ρ => ∃ s, ρ[i]? = some (some s) ∧ WE c a ρ fun y ρ => WQ ρ i y x fun ρ => WS c ss ρ Q) : WS c (.seti i a b :: ss) ρ Q := by
  obtain ⟨x, ρ1, e1, s, e0, y, ρ2, e2, ρ3, e3, f, ρ4, e4, q⟩ := h
  refine ⟨f, ρ4, exs_next ?_ e4, q⟩
  rw [ex, e1, bnd_some, e0]
  simp only
  rw [e2, bnd_some]
  unfold stoI at e3
  cases e5 : ρ2[i]? with
  | none => rw [e5] at e3; cases e3
  | some s =>
    rw [e5] at e3
    cases s with
    | none => cases e3
    | some s =>
      cases s with
      | d y => cases e3
      | x => cases e3
      | own o xs =>
        cases y <;> try cases e3
        simp only at e3
        split at e3
        · rename_i j hj
          cases e3
          simp only [hj]
        · cases e3
      | od xs =>
        simp only at e3 ⊢
        split at e3
        · rename_i k hk
          split at e3
          · rename_i hl
            cases e3
            rw [if_pos hl]
          · cases e3
        · cases e3
theorem w_some {s : Sv} {o : Option (Option Sv)} {P : Prop} (h : o = some (some s)) (p : P) : ∃ s, o = some (some s) ∧ P := ⟨s, h, p⟩
/-- names and items stored, one after the other -/
inductive WR (c : Cfg) (ts : List (Nat × Option Ep)) (xs : List PyData) (ρ : En) (K : En → Prop) : Prop
  | intro (ρ' : En) : stoS (ev c) ts xs ρ = some ρ' → K ρ' → WR c ts xs ρ K
theorem w_sto0 {K : En → Prop} (k : K ρ) : WR c [] [] ρ K := ⟨ρ, rfl, k⟩
theorem w_stoN {K : En → Prop} {ts : List (Nat × Option Ep)} {x : PyData} {xs : List PyData} (h : WP ρ i (some (.d x)) fun ρ => WR c ts xs ρ K) : WR c ((i, none) :: ts) (x :: xs) ρ K := by
  obtain ⟨hi, ρ1, e1, k⟩ := h
  exact ⟨ρ1, by rw [stoS, if_pos hi, e1], k⟩
theorem w_stoI {K : En → Prop} {ts : List (Nat × Option Ep)} {x : PyData} {xs : List PyData} {s : Sv} (h0 : ρ[i]? = some (some s)) (h : WE c a ρ fun y ρ => WQ ρ i y x fun ρ => WR c ts xs ρ K) : WR c ((i, some a) :: ts) (x :: xs) ρ K := by
  obtain ⟨y, ρ1, e1, ρ2, e2, ρ3, e3, k⟩ := h
  refine ⟨ρ3, ?_, k⟩
  rw [stoS, h0]
  simp only [e1, e2, e3]
theorem w_parS {ts : List (Nat × Option Ep)} {es : List Ep} (h : WEs c es ρ fun xs ρ => WR c ts xs ρ fun ρ => WS c ss ρ Q) : WS c (.parS ts es :: ss) ρ Q := by
  obtain ⟨x, ρ1, e1, ρ2, e2, f, ρ3, e3, q⟩ := h
  exact ⟨f, ρ3, exs_next (by rw [ex, e1, bnd_some, e2]) e3, q⟩
theorem w_app {o : Bool} {ys : List PyData} (h0 : ρ[i]? = some (some (.own o ys))) (h : WE c a ρ fun x ρ => ∃ o xs, ρ[i]? = some (some (.own o xs)) ∧ xs.length < 100000 ∧ WP ρ i (some (.own o (xs ++ [x]))) fun ρ => WS c ss ρ Q) : WS c (.app i a :: ss) ρ Q := by
  obtain ⟨x, ρ1, e1, o', xs, e2, hl, hi, f, ρ2, e3, q⟩ := h
  have L : (100000 : Nat) ≤ sizeLine := by decide
  refine ⟨f, ρ2, exs_next ?_ e3, q⟩
  rw [ex, h0]
  simp only
  rw [e1, bnd_some, e2]
  simp only
  rw [if_pos (by omega)]
theorem w_own {o : Bool} {xs : List PyData} {v : Option (Option Sv)} {P : Bool → List PyData → Prop} (h : v = some (some (.own o xs))) (p : P o xs) : ∃ o xs, v = some (some (.own o xs)) ∧ P o xs := ⟨o, xs, h, p⟩
theorem w_expr (h : WE c a ρ fun x ρ => WS c ss ρ Q) : WS c (.expr a :: ss) ρ Q := by
  obtain ⟨x, ρ1, e1, f, ρ2, e2, q⟩ := h
  exact ⟨f, ρ2, exs_next (ex_expr e1) e2, q⟩
theorem w_ret (h : WE c a ρ fun x ρ => Q (.ret x) ρ) : WS c (.ret a :: ss) ρ Q := by
  obtain ⟨x, ρ1, e1, q⟩ := h
  exact ⟨_, ρ1, exs_ret e1, q⟩
theorem w_retN (q : Q (.ret .none) ρ) : WS c (.retN :: ss) ρ Q := ⟨_, ρ, rfl, q⟩
theorem w_pass (h : WS c ss ρ Q) : WS c (.pass :: ss) ρ Q := by obtain ⟨x, ρ1, e, q⟩ := h; exact ⟨x, ρ1, e, q⟩
theorem w_brk (q : Q .brk ρ) : WS c (.brk :: ss) ρ Q := ⟨_, ρ, rfl, q⟩
theorem w_cont (q : Q .cont ρ) : WS c (.cont :: ss) ρ Q := ⟨_, ρ, rfl, q⟩
theorem exs_cat : ∀ {s t : List Sm} {ρ : En}, exs c (s ++ t) ρ = bnd (exs c s ρ) fun f ρ => match f with
    | .next => exs c t ρ
    | f => some (f, ρ)
  | [], _, _ => rfl
  | x :: s, t, ρ => by
    rw [List.cons_append]
    rw [exs, exs]
    cases h : ex c x ρ with
    | none => rfl
    | some q =>
      obtain ⟨f, ρ1⟩ := q
      rw [bnd_some, bnd_some]
      cases f with
      | next => exact exs_cat
      | brk => rfl
      | cont => rfl
      | ret v => rfl
theorem w_sif {t : Tp} {p q : List Sm} (h : WT c t ρ fun r ρ => WB r (WS c (p ++ ss) ρ Q) (WS c (q ++ ss) ρ Q)) : WS c (.ite t p q :: ss) ρ Q := by
  obtain ⟨r, ρ1, e1, h⟩ := h
  have e : exs c (.ite t p q :: ss) ρ = exs c ((if r then p else q) ++ ss) ρ1 := by
    rw [exs_cat, exs, ex_ite e1]
    cases r
    · simp only [Bool.false_eq_true, if_false]
      all_goals (cases exs c q ρ1 with
      | none => rfl
      | some z => obtain ⟨f, ρ2⟩ := z; cases f <;> rfl)
    · simp only [if_true]
      all_goals (cases exs c p ρ1 with
      | none => rfl
      | some z => obtain ⟨f, ρ2⟩ := z; cases f <;> rfl)
  cases r
  · obtain ⟨f, ρ2, e2, k⟩ := h.f rfl
    exact ⟨f, ρ2, by rw [e]; exact e2, k⟩
  · obtain ⟨f, ρ2, e2, k⟩ := h.t rfl
    exact ⟨f, ρ2, by rw [e]; exact e2, k⟩
/-- a loop, by what is left -/
theorem w_forL {tg : Tg} {it : It'} {body : List Sm} {α : Type} {dd : α → PyData} {as : List α} (I : List α → En → Prop) (h : WI c it ρ fun xs ρ1 => xs = as.map dd ∧ I as ρ1) (hs : ∀ a r ρ, I (a :: r) ρ → WO (bindT tg (dd a) ρ) fun ρ => WS c body ρ fun f ρ => match f with
    | .next => I r ρ
    | .cont => I r ρ
    | .brk => WS c ss ρ Q
    | .ret v => Q (.ret v) ρ) (hk : ∀ ρ, I [] ρ → WS c ss ρ Q) : WS c (.for_ tg it body :: ss) ρ Q := by
  obtain ⟨xs, ρ1, e1, rfl, i0⟩ := h
  have key : ∀ (as : List α) (ρ1 : En), I as ρ1 → ∃ f ρ2, forI (fun x ρ => match bindT tg x ρ with
      | none => none
      | some ρ => exs c body ρ) (as.map dd) ρ1 = some (f, ρ2) ∧ match f with
        | .next => WS c ss ρ2 Q
        | .ret v => Q (.ret v) ρ2
        | _ => False := by
    intro as
    induction as with
    | nil => exact fun ρ1 i0 => ⟨.next, ρ1, rfl, hk ρ1 i0⟩
    | cons a as ih =>
      intro ρ1 i0
      obtain ⟨ρ2, e2, f, ρ3, e3, h⟩ := hs a as ρ1 i0
      rw [List.map_cons, forI, e2]
      simp only [e3]
      cases f with
      | next => exact ih ρ3 h
      | cont => exact ih ρ3 h
      | brk => exact ⟨.next, ρ3, rfl, h⟩
      | ret v => exact ⟨.ret v, ρ3, rfl, h⟩
  obtain ⟨f, ρ2, e2, h⟩ := key as ρ1 i0
  have e : ex c (.for_ tg it body) ρ = some (f, ρ2) := ex_for e1 e2
  cases f with
  | next =>
    obtain ⟨g, ρ3, e3, q⟩ := h
    exact ⟨g, ρ3, exs_next e e3, q⟩
  | ret v => exact ⟨.ret v, ρ2, by rw [exs, e]; rfl, h⟩
  | brk => cases h
  | cont => cases h
/-- a loop that goes through all -/
theorem w_for {tg : Tg} {it : It'} {body : List Sm} {α β : Type} {dd : α → PyData} {as : List α} {b0 : β} (E : β → En → Prop) (f : β → α → β) (h : WI c it ρ fun xs ρ1 => xs = as.map dd ∧ E b0 ρ1) (hs : ∀ a ∈ as, ∀ b ρ, E b ρ → WO (bindT tg (dd a) ρ) fun ρ => WS c body ρ fun fl ρ => fl = .next ∧ E (f b a) ρ) (hk : ∀ ρ, E (as.foldl f b0) ρ → WS c ss ρ Q) : WS c (.for_ tg it body :: ss) ρ Q := by
  refine w_forL (as := as) (dd := dd) (fun r ρ => ∃ b done, as = done ++ r ∧ r.foldl f b = as.foldl f b0 ∧ E b ρ) ?_ ?_ ?_
  · obtain ⟨xs, ρ1, e1, e2, i⟩ := h
    exact ⟨xs, ρ1, e1, e2, b0, [], rfl, rfl, i⟩
  · rintro a r ρ ⟨b, done, e1, e2, i⟩
    obtain ⟨ρ1, e3, fl, ρ2, e4, e5, i2⟩ := hs a (by rw [e1]; simp) b ρ i
    exact ⟨ρ1, e3, fl, ρ2, e4, by rw [e5]; exact ⟨_, done ++ [a], by rw [e1]; simp, e2, i2⟩⟩
  · rintro ρ ⟨b, done, e1, e2, i⟩
    exact hk ρ (by rw [← e2]; exact i)
theorem WS.mono {R : Fl → En → Prop} (h : WS c ss ρ Q) (k : ∀ f ρ, Q f ρ → R f ρ) : WS c ss ρ R := by
  obtain ⟨f, ρ', e, q⟩ := h
  exact ⟨f, ρ', e, k f ρ' q⟩
theorem w_run {f : Fn} {xs : List PyData} {v : PyData} {ρ0 : En} {bd : List Sm} (hb : f.body = bd) (hE : startE f none xs = ρ0) (hc : ((none : Option (List PyData)).isSome == f.pen && !(f.pen && f.fr) && (xs.length + (if f.pen then 1 else 0) == f.np) && decide (f.np ≤ f.ns)) = true) (hp : f.pen = false) (hf : f.fr = false ∨ ∃ ys, v = .list ys) (h : WS c bd ρ0 fun fl ρ => fl = .ret v) : runF c f none xs = some (v, none) := by
  subst hb hE
  obtain ⟨fl, ρ, e, rfl⟩ := h
  rcases hf with hf | ⟨ys, rfl⟩
  · exact run_ret hc hf hp e
  · exact run_lst hc hp e
theorem w_runp {f : Fn} {p q : List PyData} {xs : List PyData} {v : PyData} {ρ0 : En} {bd : List Sm} (hb : f.body = bd) (hE : startE f (some p) xs = ρ0) (hc : ((some p).isSome == f.pen && !(f.pen && f.fr) && (xs.length + (if f.pen then 1 else 0) == f.np) && decide (f.np ≤ f.ns)) = true) (hp : f.pen = true) (h : WS c bd ρ0 fun fl ρ => fl = .ret v ∧ penOf ρ = some q) : runF c f (some p) xs = some (v, some q) := by
  subst hb hE
  obtain ⟨fl, ρ, e, rfl, hq⟩ := h
  exact run_pen hc hp e hq
end
end Wh

set_option Elab.async false
set_option linter.all false
set_option maxRecDepth 100000
set_option maxHeartbeats 2000000
set_option exponentiation.threshold 20000
/-! Wh26: the rules as instances: one step is one look-up. -/
namespace Wh
open PySem PySem.Spec PyProof.Rows L2 Evl
/-- P follows from R -/
class SP (P : Prop) (R : outParam Prop) : Prop where
  h : R → P
theorem wgo {P R : Prop} [s : SP P R] (r : R) : P := s.h r
theorem go {P R : Prop} [s : SP P R] (r : R) : P := s.h r
/-- what stands at a slot -/
class AT (ρ : En) (i : Nat) (s : outParam Sv) : Prop where
  h : ρ[i]? = some (some s)
instance AT.z {ρ : En} {s : Sv} : AT (some s :: ρ) 0 s := ⟨rfl⟩
instance AT.s {ρ : En} {s : Sv} {i : Nat} {x : Option Sv} [a : AT ρ i s] : AT (x :: ρ) (i + 1) s := ⟨by rw [List.getElem?_cons_succ]; exact a.h⟩
/-- a slot stored -/
class SLT (ρ : En) (i : Nat) (v : Option Sv) (ρ' : outParam En) : Prop where
  l : i < ρ.length
  e : ρ.set i v = ρ'
instance SLT.z {ρ : En} {x v : Option Sv} : SLT (x :: ρ) 0 v (v :: ρ) := ⟨Nat.zero_lt_succ _, rfl⟩
instance SLT.s {ρ ρ' : En} {i : Nat} {x v : Option Sv} [a : SLT ρ i v ρ'] : SLT (x :: ρ) (i + 1) v (x :: ρ') := ⟨by rw [List.length_cons]; exact Nat.succ_lt_succ a.l, by rw [List.set_cons_succ, a.e]⟩
/-- a short list of expressions -/
class SM (k : Nat) (es : List Ep) : Prop where
  h : es.length ≤ k
instance SM.n {k : Nat} : SM k [] := ⟨Nat.zero_le _⟩
instance SM.c {k : Nat} {e : Ep} {es : List Ep} [a : SM k es] : SM (k + 1) (e :: es) := ⟨Nat.succ_le_succ a.h⟩
theorem SM.b {es : List Ep} [a : SM 60 es] : Nat.ble es.length 1000 = true := Nat.ble_eq_true_of_le (Nat.le_trans a.h (by decide))
section
variable {c : Cfg} {ρ ρ1 : En} {Q : PyData → En → Prop} {a b d : Ep} {x : PyData} {i : Nat}
instance zz_con : SP (WE c (.con x) ρ Q) (Q x ρ) := ⟨w_con⟩
instance zz_var [h : AT ρ i (.d x)] : SP (WE c (.var i) ρ Q) (Q x ρ) := ⟨w_var h.h⟩
instance zz_varo {o : Bool} {xs : List PyData} [h : AT ρ i (.own o xs)] [e : SLT ρ i (some (.d (.list xs))) ρ1] : SP (WE c (.var i) ρ Q) (Q (.list xs) ρ1) := ⟨w_varo h.h e.e⟩
instance zz_vark {xs : List (PyData × PyData)} [h : AT ρ i (.od xs)] [e : SLT ρ i (some (.d (.dict xs))) ρ1] : SP (WE c (.var i) ρ Q) (Q (.dict xs) ρ1) := ⟨w_vark h.h e.e⟩
instance zz_bin {o : BOp} : SP (WE c (.bin o a b) ρ Q) (WE c a ρ fun x ρ => WE c b ρ fun y ρ => WO (binD o x y) fun z => Q z ρ) := ⟨w_bin⟩
instance zz_neg : SP (WE c (.neg a) ρ Q) (WE c a ρ fun x ρ => WO (match x with | .int i => some (PyData.int (-i)) | _ => none) fun z => Q z ρ) := ⟨w_neg⟩
instance zz_cmp {o : COp} : SP (WE c (.cmp o a b) ρ Q) (WE c a ρ fun x ρ => WE c b ρ fun y ρ => WO (cmpD o x y) fun z => Q (.bool z) ρ) := ⟨w_cmp⟩
instance zz_chain {o o2 : COp} : SP (WE c (.chain o o2 a b d) ρ Q) (WE c a ρ fun x ρ => WE c b ρ fun y ρ => WO (cmpD o x y) fun z => WB z (WE c d ρ fun w ρ => WO (cmpD o2 y w) fun r => Q (.bool r) ρ) (Q (.bool false) ρ)) := ⟨w_chain⟩
instance zz_and : SP (WE c (.and a b) ρ Q) (WE c a ρ fun x ρ => ∃ r, x = .bool r ∧ WB r (WE c b ρ Q) (Q (.bool false) ρ)) := ⟨w_and⟩
instance zz_or : SP (WE c (.or a b) ρ Q) (WE c a ρ fun x ρ => ∃ r, x = .bool r ∧ WB r (Q (.bool true) ρ) (WE c b ρ Q)) := ⟨w_or⟩
instance zz_not : SP (WE c (.not a) ρ Q) (WE c a ρ fun x ρ => ∃ r, x = .bool r ∧ Q (.bool (!r)) ρ) := ⟨w_not⟩
instance zz_bool {r : Bool} {P : Bool → Prop} : SP (∃ s, PyData.bool r = .bool s ∧ P s) (P r) := ⟨w_bool⟩
instance zz_ite {t : Tp} : SP (WE c (.ite t a b) ρ Q) (WT c t ρ fun r ρ => WB r (WE c a ρ Q) (WE c b ρ Q)) := ⟨w_ite⟩
instance zz_leaf {Q : Bool → En → Prop} : SP (WT c (.leaf a) ρ Q) (WE c a ρ fun x ρ => WO (truD x) fun r => Q r ρ) := ⟨w_leaf⟩
instance zz_tand {Q : Bool → En → Prop} {s t : Tp} : SP (WT c (.and s t) ρ Q) (WT c s ρ fun r ρ => WB r (WT c t ρ Q) (Q false ρ)) := ⟨w_tand⟩
instance zz_tor {Q : Bool → En → Prop} {s t : Tp} : SP (WT c (.or s t) ρ Q) (WT c s ρ fun r ρ => WB r (Q true ρ) (WT c t ρ Q)) := ⟨w_tor⟩
instance zz_tnot {Q : Bool → En → Prop} {s : Tp} : SP (WT c (.not s) ρ Q) (WT c s ρ fun r ρ => Q (!r) ρ) := ⟨w_tnot⟩
instance zz_ts0 {Q : Bool → En → Prop} : SP (WTs c [] ρ Q) (Q true ρ) := ⟨w_ts0⟩
instance zz_ts1 {Q : Bool → En → Prop} {t : Tp} : SP (WTs c [t] ρ Q) (WT c t ρ Q) := ⟨w_ts1⟩
instance zz_es0 {Q : List PyData → En → Prop} : SP (WEs c [] ρ Q) (Q [] ρ) := ⟨w_es0⟩
instance zz_es1 {Q : List PyData → En → Prop} {es : List Ep} : SP (WEs c (a :: es) ρ Q) (WE c a ρ fun x ρ => WEs c es ρ fun xs ρ => Q (x :: xs) ρ) := ⟨w_es1⟩
instance zz_tup {es : List Ep} [SM 60 es] : SP (WE c (.tup es) ρ Q) (WEs c es ρ fun xs ρ => Q (.tuple xs) ρ) := ⟨w_tup SM.b⟩
instance zz_lst {es : List Ep} [SM 60 es] : SP (WE c (.lst es) ρ Q) (WEs c es ρ fun xs ρ => Q (.list xs) ρ) := ⟨w_lst SM.b⟩
instance zz_repl1 : SP (WE c (.repl [a] b) ρ Q) (WE c a ρ fun x ρ => WE c b ρ fun y ρ => ∃ m : Nat, y = .int (m : Int) ∧ m ≤ 1000 ∧ Q (.list (List.replicate m x)) ρ) := ⟨w_repl1⟩
instance zz_dct0 : SP (WE c .dct0 ρ Q) (Q (.dict []) ρ) := ⟨w_dct0⟩
instance zz_dct1 : SP (WE c (.dct1 a b) ρ Q) (WE c a ρ fun x ρ => WE c b ρ fun y ρ => ∃ k, keyD x = some k ∧ Q (.dict [(x, y)]) ρ) := ⟨w_dct1⟩
instance zz_ix : SP (WE c (.ix a b) ρ Q) (WE c a ρ fun x ρ => WE c b ρ fun y ρ => WO (ixD x y) fun z => Q z ρ) := ⟨w_ix⟩
instance zz_oix {s : Sv} [h : AT ρ i s] : SP (WE c (.oix i a) ρ Q) (WE c a ρ fun y ρ => WO (match ρ[i]? with
      | some (some (.own _ xs)) => ixD (.list xs) y
      | some (some (.d x)) => ixD x y
      | some (some (.od xs)) => ixD (.dict xs) y
      | _ => none) fun z => Q z ρ) := ⟨w_oix h.h⟩
instance zz_sl {lo hi : Option Ep} : SP (WE c (.sl a lo hi) ρ Q) (WE c a ρ fun x ρ => WEo c lo ρ fun l ρ => WEo c hi ρ fun r ρ => WO (partD l) fun l => WO (partD r) fun r => WO (slD x l r) fun z => Q z ρ) := ⟨w_sl⟩
instance zz_eo0 {Q : Option PyData → En → Prop} : SP (WEo c none ρ Q) (Q none ρ) := ⟨w_eo0⟩
instance zz_eo1 {Q : Option PyData → En → Prop} : SP (WEo c (some a) ρ Q) (WE c a ρ fun x ρ => Q (some x) ρ) := ⟨w_eo1⟩
instance zz_call {f : Str} {es : List Ep} : SP (WE c (.call f es) ρ Q) (WEs c es ρ fun xs ρ => WL (c.call f none xs) fun z => Q z ρ) := ⟨w_call⟩
instance zz_callk {f : Str} {es : List Ep} {ix : List (Nat ⊕ PyData)} : SP (WE c (.callk f es ix) ρ Q) (WEs c es ρ fun xs ρ => WO (pickD xs ix) fun ys => WL (c.call f none ys) fun z => Q z ρ) := ⟨w_callk⟩
instance zz_callp {f : Str} {es : List Ep} {s : Sv} [h : AT ρ i s] : SP (WE c (.callp f i es) ρ Q) (WEs c es ρ fun xs ρ => ∃ o p, ρ[i]? = some (some (.own o p)) ∧ WLp (c.call f (some p) xs) fun z q => WP ρ i (some (.own o q)) fun ρ => Q z ρ) := ⟨w_callp h.h⟩
instance zz_b1 {o : B1} : SP (WE c (.b1 o a) ρ Q) (WE c a ρ fun x ρ => WO (b1D o x) fun z => Q z ρ) := ⟨w_b1⟩
instance zz_b2 {o : B2} : SP (WE c (.b2 o a b) ρ Q) (WE c a ρ fun x ρ => WE c b ρ fun y ρ => WO (b2D o x y) fun z => Q z ρ) := ⟨w_b2⟩
instance zz_cnt : SP (WE c (.cnt a b) ρ Q) (WE c a ρ fun x ρ => WE c b ρ fun y ρ => WO (cntD x y) fun z => Q z ρ) := ⟨w_cnt⟩
instance zz_idx : SP (WE c (.idx a b) ρ Q) (WE c a ρ fun x ρ => WE c b ρ fun y ρ => WO (idxD x y) fun z => Q z ρ) := ⟨w_idx⟩
instance zz_srs : SP (WE c (.srs a) ρ Q) (WE c a ρ fun x ρ => WO (srsD x) fun z => Q z ρ) := ⟨w_srs⟩
instance zz_rev : SP (WE c (.rev a) ρ Q) (WE c a ρ fun x ρ => WO (revD x) fun z => Q z ρ) := ⟨w_rev⟩
instance zz_trg : SP (WE c (.trg a) ρ Q) (WE c a ρ fun x ρ => WO (trgD x) fun z => Q z ρ) := ⟨w_trg⟩
instance zz_oin {neg : Bool} : SP (WE c (.oin neg a i) ρ Q) (WE c a ρ fun x ρ => WO (inS neg x ρ[i]?) fun z => Q (.bool z) ρ) := ⟨w_oin⟩
instance zz_olen : SP (WE c (.olen i) ρ Q) (WO (lenS ρ[i]?) fun z => Q z ρ) := ⟨w_olen⟩
instance zz_ddup : SP (WE c (.ddup a) ρ Q) (WE c a ρ fun x ρ => ∃ kds, x = .dict kds ∧ Q (.dict (dupD kds)) ρ) := ⟨w_ddup⟩
instance zz_dict {kds : List (PyData × PyData)} {P : List (PyData × PyData) → Prop} : SP (∃ s, PyData.dict kds = .dict s ∧ P s) (P kds) := ⟨w_dict⟩
instance zz_vin : SP (WE c (.vin a b) ρ Q) (WE c a ρ fun x ρ => WE c b ρ fun y ρ => ∃ kds, y = .dict kds ∧ WO (vinD x kds) fun r => Q (.bool r) ρ) := ⟨w_vin⟩
instance zz_opop {o : Bool} {xs : List PyData} [h : AT ρ i (.own o (x :: xs))] [e : SLT ρ i (some (.own o xs)) ρ1] : SP (WE c (.opop i) ρ Q) (Q x ρ1) := ⟨w_opop h.h e.e⟩
variable {L : List PyData → En → Prop}
instance zz_seq : SP (WI c (.seq a) ρ L) (WE c a ρ fun x ρ => WO (seqD x) fun z => L z ρ) := ⟨w_seq⟩
instance zz_enum : SP (WI c (.enum a) ρ L) (WE c a ρ fun x ρ => WO (seqD x) fun z => L (enumD 0 z) ρ) := ⟨w_enum⟩
instance zz_zip : SP (WI c (.zip a b) ρ L) (WE c a ρ fun x ρ => WE c b ρ fun y ρ => WO (zipK x y) fun z => L z ρ) := ⟨w_zip⟩
instance zz_zips : SP (WI c (.zips a b) ρ L) (WE c a ρ fun x ρ => WE c b ρ fun y ρ => WO (zipKs x y) fun z => L z ρ) := ⟨w_zips⟩
instance zz_zip3 : SP (WI c (.zip3 a b d) ρ L) (WE c a ρ fun x ρ => WE c b ρ fun y ρ => WE c d ρ fun u ρ => WO (zipK3 x y u) fun z => L z ρ) := ⟨w_zip3⟩
instance zz_rng1 : SP (WI c (.rng1 a) ρ L) (WE c a ρ fun x ρ => ∃ n : Nat, x = .int (n : Int) ∧ n ≤ 100000 ∧ L ((List.range n).map fun (j : Nat) => .int (j : Int)) ρ) := ⟨w_rng1⟩
instance zz_list {xs : List PyData} {P : List PyData → Prop} : SP (∃ s, PyData.list xs = .list s ∧ P s) (P xs) := ⟨w_list⟩
instance zz_bt {A B : Prop} : SP (WB true A B) A := ⟨w_bt⟩
instance zz_bf {A B : Prop} : SP (WB false A B) B := ⟨w_bf⟩
instance zz_put {v : Option Sv} {K : En → Prop} [e : SLT ρ i v ρ1] : SP (WP ρ i v K) (K ρ1) := ⟨fun k => ⟨e.l, e.e ▸ k⟩⟩
instance zz_some {s : Sv} {P : Prop} [h : AT ρ i s] : SP (∃ s, ρ[i]? = some (some s) ∧ P) P := ⟨w_some h.h⟩
instance zz_own {o : Bool} {xs : List PyData} {P : Bool → List PyData → Prop} [h : AT ρ i (.own o xs)] : SP (∃ o xs, ρ[i]? = some (some (.own o xs)) ∧ P o xs) (P o xs) := ⟨w_own h.h⟩
/-! binding -/
variable {K : En → Prop} {is : List Nat} {xs : List PyData}
instance zz_sa0 : SP (WO (setAll [] [] ρ) K) (K ρ) := ⟨fun k => ⟨ρ, rfl, k⟩⟩
instance zz_sa1 [e : SLT ρ i (some (.d x)) ρ1] : SP (WO (setAll (i :: is) (x :: xs) ρ) K) (WO (setAll is xs ρ1) K) := ⟨fun ⟨z, h, k⟩ => ⟨z, by rw [setAll, if_pos e.l, e.e]; exact h, k⟩⟩
instance zz_so0 : SP (WO (setAllO [] [] [] ρ) K) (K ρ) := ⟨fun k => ⟨ρ, rfl, k⟩⟩
instance zz_so1 {os : List Bool} [e : SLT ρ i (some (.d x)) ρ1] : SP (WO (setAllO (i :: is) (false :: os) (x :: xs) ρ) K) (WO (setAllO is os xs ρ1) K) := ⟨fun ⟨z, h, k⟩ => ⟨z, by rw [setAllO, if_pos e.l, e.e]; exact h, k⟩⟩
instance zz_so2 {os : List Bool} {ys : List PyData} [e : SLT ρ i (some (.own false ys)) ρ1] : SP (WO (setAllO (i :: is) (true :: os) (.list ys :: xs) ρ) K) (WO (setAllO is os xs ρ1) K) := ⟨fun ⟨z, h, k⟩ => ⟨z, by rw [setAllO]; rw [if_pos e.l, e.e]; exact h, k⟩⟩
instance zz_sk0 : SP (WO (setAllK [] [] [] ρ) K) (K ρ) := ⟨fun k => ⟨ρ, rfl, k⟩⟩
instance zz_sk1 {os : List Nat} [e : SLT ρ i (some (.d x)) ρ1] : SP (WO (setAllK (i :: is) (0 :: os) (x :: xs) ρ) K) (WO (setAllK is os xs ρ1) K) := ⟨fun ⟨z, h, k⟩ => ⟨z, by rw [setAllK, if_pos e.l, e.e]; exact h, k⟩⟩
instance zz_sk2 {os : List Nat} {ys : List PyData} [e : SLT ρ i (some (.own false ys)) ρ1] : SP (WO (setAllK (i :: is) (1 :: os) (.list ys :: xs) ρ) K) (WO (setAllK is os xs ρ1) K) := ⟨fun ⟨z, h, k⟩ => ⟨z, by rw [setAllK]; rw [if_pos e.l, e.e]; exact h, k⟩⟩
instance zz_sk3 {os : List Nat} {ys : List (PyData × PyData)} [e : SLT ρ i (some (.od ys)) ρ1] : SP (WO (setAllK (i :: is) (2 :: os) (.dict ys :: xs) ρ) K) (WO (setAllK is os xs ρ1) K) := ⟨fun ⟨z, h, k⟩ => ⟨z, by rw [setAllK]; rw [if_pos e.l, e.e]; exact h, k⟩⟩
instance zz_bn [e : SLT ρ i (some (.d x)) ρ1] : SP (WO (bindT (.name i) x ρ) K) (K ρ1) := ⟨fun k => ⟨ρ1, by rw [bindT, if_pos e.l, e.e], k⟩⟩
instance zz_bt' {ts : List Tg} : SP (WO (bindT (.tup ts) (.tuple xs) ρ) K) (WO (bindTs ts xs ρ) K) := ⟨fun ⟨z, h, k⟩ => ⟨z, by rw [bindT]; exact h, k⟩⟩
instance zz_bs0 : SP (WO (bindTs [] [] ρ) K) (K ρ) := ⟨fun k => ⟨ρ, rfl, k⟩⟩
instance zz_bs1 {t : Tg} {ts : List Tg} : SP (WO (bindTs (t :: ts) (x :: xs) ρ) K) (WO (bindT t x ρ) fun ρ => WO (bindTs ts xs ρ) K) := ⟨fun ⟨z, h, w, h2, k⟩ => ⟨w, by rw [bindTs, h]; exact h2, k⟩⟩
end
section
variable {c : Cfg} {ρ ρ1 : En} {Q : Fl → En → Prop} {a b d : Ep} {i : Nat} {ss : List Sm}
instance zz_nil : SP (WS c [] ρ Q) (Q .next ρ) := ⟨w_nil⟩
instance zz_set : SP (WS c (.set i a :: ss) ρ Q) (WE c a ρ fun x ρ => WP ρ i (some (.d x)) fun ρ => WS c ss ρ Q) := ⟨w_set⟩
instance zz_seto : SP (WS c (.seto i a :: ss) ρ Q) (WE c a ρ fun x ρ => ∃ xs, x = .list xs ∧ WP ρ i (some (.own false xs)) fun ρ => WS c ss ρ Q) := ⟨w_seto⟩
instance zz_setk : SP (WS c (.setk i a :: ss) ρ Q) (WE c a ρ fun x ρ => ∃ xs, x = .dict xs ∧ WP ρ i (some (.od xs)) fun ρ => WS c ss ρ Q) := ⟨w_setk⟩
instance zz_unp {ts : List Tg} : SP (WS c (.unp ts a :: ss) ρ Q) (WE c a ρ fun x ρ => WO (bindT (.tup ts) x ρ) fun ρ => WS c ss ρ Q) := ⟨w_unp⟩
instance zz_par {is : List Nat} {es : List Ep} : SP (WS c (.par is es :: ss) ρ Q) (WEs c es ρ fun xs ρ => WO (setAll is xs ρ) fun ρ => WS c ss ρ Q) := ⟨w_par⟩
instance zz_paro {is : List Nat} {os : List Bool} {es : List Ep} : SP (WS c (.paro is os es :: ss) ρ Q) (WEs c es ρ fun xs ρ => WO (setAllO is os xs ρ) fun ρ => WS c ss ρ Q) := ⟨w_paro⟩
instance zz_parok {is : List Nat} {ks : List Nat} {es : List Ep} : SP (WS c (.parok is ks es :: ss) ρ Q) (WEs c es ρ fun xs ρ => WO (setAllK is ks xs ρ) fun ρ => WS c ss ρ Q) := ⟨w_parok⟩
instance zz_seti : SP (WS c (.seti i a b :: ss) ρ Q) (WE c b ρ fun x ρ => ∃ s, ρ[i]? = some (some s) ∧ WE c a ρ fun y ρ => WQ ρ i y x fun ρ => WS c ss ρ Q) := ⟨w_seti⟩
instance zz_sto0 {K : En → Prop} : SP (WR c [] [] ρ K) (K ρ) := ⟨w_sto0⟩
instance zz_stoN {K : En → Prop} {ts : List (Nat × Option Ep)} {x : PyData} {xs : List PyData} : SP (WR c ((i, none) :: ts) (x :: xs) ρ K) (WP ρ i (some (.d x)) fun ρ => WR c ts xs ρ K) := ⟨w_stoN⟩
instance zz_stoI {K : En → Prop} {ts : List (Nat × Option Ep)} {x : PyData} {xs : List PyData} {s : Sv} [h : AT ρ i s] : SP (WR c ((i, some a) :: ts) (x :: xs) ρ K) (WE c a ρ fun y ρ => WQ ρ i y x fun ρ => WR c ts xs ρ K) := ⟨w_stoI h.h⟩
instance zz_parS {ts : List (Nat × Option Ep)} {es : List Ep} : SP (WS c (.parS ts es :: ss) ρ Q) (WEs c es ρ fun xs ρ => WR c ts xs ρ fun ρ => WS c ss ρ Q) := ⟨w_parS⟩
instance zz_app {o : Bool} {ys : List PyData} [h : AT ρ i (.own o ys)] : SP (WS c (.app i a :: ss) ρ Q) (WE c a ρ fun x ρ => ∃ o xs, ρ[i]? = some (some (.own o xs)) ∧ xs.length < 100000 ∧ WP ρ i (some (.own o (xs ++ [x]))) fun ρ => WS c ss ρ Q) := ⟨w_app h.h⟩
instance zz_expr : SP (WS c (.expr a :: ss) ρ Q) (WE c a ρ fun x ρ => WS c ss ρ Q) := ⟨w_expr⟩
instance zz_ret : SP (WS c (.ret a :: ss) ρ Q) (WE c a ρ fun x ρ => Q (.ret x) ρ) := ⟨w_ret⟩
instance zz_retN : SP (WS c (.retN :: ss) ρ Q) (Q (.ret .none) ρ) := ⟨w_retN⟩
instance zz_pass : SP (WS c (.pass :: ss) ρ Q) (WS c ss ρ Q) := ⟨w_pass⟩
instance zz_brk : SP (WS c (.brk :: ss) ρ Q) (Q .brk ρ) := ⟨w_brk⟩
instance zz_cont : SP (WS c (.cont :: ss) ρ Q) (Q .cont ρ) := ⟨w_cont⟩
instance zz_sif {t : Tp} {p q : List Sm} : SP (WS c (.ite t p q :: ss) ρ Q) (WT c t ρ fun r ρ => WB r (WS c (p ++ ss) ρ Q) (WS c (q ++ ss) ρ Q)) := ⟨w_sif⟩
instance zz_cat0 {q : List Sm} : SP (WS c ([] ++ q) ρ Q) (WS c q ρ Q) := ⟨fun h => h⟩
instance zz_cat2 {p q r : List Sm} : SP (WS c ((p ++ q) ++ r) ρ Q) (WS c (p ++ (q ++ r)) ρ Q) := ⟨fun h => by rw [List.append_assoc]; exact h⟩
instance zz_cat1 {s : Sm} {p q : List Sm} : SP (WS c ((s :: p) ++ q) ρ Q) (WS c (s :: (p ++ q)) ρ Q) := ⟨fun h => h⟩
theorem w_ext {o0 : Bool} {ys : List PyData} (h0 : ρ[i]? = some (some (.own o0 ys))) (h : WE c a ρ fun x ρ => ∃ o xs, ρ[i]? = some (some (.own o xs)) ∧ ∃ zs, x = .list zs ∧ xs.length + zs.length ≤ 100000 ∧ WP ρ i (some (.own o (xs ++ zs))) fun ρ => WS c ss ρ Q) : WS c (.ext i a :: ss) ρ Q := by
  obtain ⟨x, ρ1, e1, o, xs, hx, zs, rfl, hz, k⟩ := h
  obtain ⟨hl, fl, ρ2, e2, q⟩ := k
  refine ⟨fl, ρ2, ?_, q⟩
  have e : ex c (.ext i a) ρ = some (.next, ρ1.set i (some (.own o (xs ++ zs)))) := by
    rw [ex, h0]
    simp only
    rw [e1, bnd_some, hx]
    simp only
    rw [if_pos (Nat.le_trans hz (by decide))]
  rw [exs, e, bnd_some]
  exact e2
end
section
variable {c : Cfg} {ρ ρ1 : En} {Q : PyData → En → Prop} {a b d : Ep} {i : Nat}
/-- a truth, and what goes on -/
def WY (b : Bool) (A : Prop) : Prop := b = true ∧ A
theorem w_lset (h : WE c a ρ fun x ρ => WO (lsetD x) fun z => Q z ρ) : WE c (.lset a) ρ Q := by
  obtain ⟨x, ρ1, e1, z, e3, q⟩ := h
  exact ⟨z, ρ1, by rw [ev, e1, bnd_some, e3]; rfl, q⟩
theorem w_opope {o : Bool} {xs : List PyData} (h : ρ[i]? = some (some (.own o xs))) (q : ∃ y ys, xs = ys ++ [y] ∧ WP ρ i (some (.own o ys)) fun ρ => Q y ρ) : WE c (.opope i) ρ Q := by
  obtain ⟨y, ys, rfl, hl, q⟩ := q
  refine ⟨y, _, ?_, q⟩
  rw [ev, h]
  simp
theorem w_lend {o : Bool} {xs : List PyData} (h : ρ[i]? = some (some (.own o xs))) (q : WP ρ i (some (.d (.list xs))) fun ρ => WY (stays ρ a) (WE c a ρ fun x ρ => WY (noH x) (WY (tame ρ) (WP ρ i (some (.own o xs)) fun ρ => Q x ρ)))) : WE c (.lend i a) ρ Q := by
  obtain ⟨hl, hs, x, ρ1, e1, h1, h2, hl2, q⟩ := q
  refine ⟨x, _, ?_, q⟩
  rw [ev, h]
  simp only
  rw [if_pos hs, e1, bnd_some, h1, h2]
  rfl
end
section
variable {c : Cfg} {ρ ρ1 : En} {Q : Fl → En → Prop} {a b d : Ep} {i : Nat} {ss : List Sm}
/-! lists that are lent, put behind, taken from the end; len(set(x)) -/
instance zz_ext {o : Bool} {ys : List PyData} [h : AT ρ i (.own o ys)] : SP (WS c (.ext i a :: ss) ρ Q) (WE c a ρ fun x ρ => ∃ o xs, ρ[i]? = some (some (.own o xs)) ∧ ∃ zs, x = .list zs ∧ xs.length + zs.length ≤ 100000 ∧ WP ρ i (some (.own o (xs ++ zs))) fun ρ => WS c ss ρ Q) := ⟨w_ext h.h⟩
end
section
variable {c : Cfg} {ρ ρ1 : En} {Q : PyData → En → Prop} {a b d : Ep} {i : Nat}
instance zz_trn : SP (WE c (.trn a b) ρ Q) (WE c a ρ fun x ρ => WE c b ρ fun y ρ => WO (trnD x y) fun z => Q z ρ) := ⟨fun ⟨x, ρ1, e1, y, ρ2, e2, z, e3, q⟩ => ⟨z, ρ2, by rw [ev, e1, bnd_some, e2, bnd_some, e3]; rfl, q⟩⟩
instance zz_ocopy {o : Bool} {xs : List PyData} [h : AT ρ i (.own o xs)] : SP (WE c (.ocopy i) ρ Q) (Q (.list xs) ρ) := ⟨fun q => ⟨_, _, by rw [ev, h.h], q⟩⟩
instance zz_lset : SP (WE c (.lset a) ρ Q) (WE c a ρ fun x ρ => WO (lsetD x) fun z => Q z ρ) := ⟨w_lset⟩
instance zz_opope {o : Bool} {xs : List PyData} [h : AT ρ i (.own o xs)] : SP (WE c (.opope i) ρ Q) (∃ y ys, xs = ys ++ [y] ∧ WP ρ i (some (.own o ys)) fun ρ => Q y ρ) := ⟨w_opope h.h⟩
instance zz_lend {o : Bool} {xs : List PyData} [h : AT ρ i (.own o xs)] : SP (WE c (.lend i a) ρ Q) (WP ρ i (some (.d (.list xs))) fun ρ => WY (stays ρ a) (WE c a ρ fun x ρ => WY (noH x) (WY (tame ρ) (WP ρ i (some (.own o xs)) fun ρ => Q x ρ)))) := ⟨w_lend h.h⟩
end
end Wh

set_option Elab.async false
set_option linter.all false
set_option maxRecDepth 100000
set_option maxHeartbeats 1000000
/-! Wh27: the head by facts: one kernel run tells what the walk leans on; no object is written out. -/
namespace Wh
open PySem PySem.Spec PyProof.Rows L2 Evl
/-! ### a fragment, brought to its cells -/
/-! ### a def -/
/-! ### a dict -/
/-! ### the head's questions -/
theorem Hd.ob_eq (H : Hd) (s : PySem.W.SharedT) : H.ob (HandSHeadRun.getT s) = H.hook.obs s.abs := by
  have e : HandSHeadRun.getT s = s.abs.heap.get? := funext fun a => HandSHeadRun.getT_eq s a
  show H.ob _ = H.ob _
  rw [e]
section
variable {H : Hd} {w : World} {K : PySem.W.Frag}
theorem Hd.says.fact (c : H.says w K) (i : Nat) {f : PySem.W.Frag → Bool} (h : H.fs[i]? = some f) : f K = true := by
  have c1 := (He.ba c.1).1
  exact List.all_eq_true.mp c1 f (List.mem_of_getElem? h)
theorem glo_of {x : Str} (e : gloB K x = true) : PySem.W.nsIn K mainGlobals x = some (some (.ref (He.ga K x))) := He.eqO_ok e
theorem free_of {x : Str} (e : freeB K x = true) : PySem.W.nsIn K mainGlobals x = some none := He.eqO_ok e
theorem Hd.says.fnv (c : H.says w K) (i : Nat) {d : Dd} (h : H.fn[i]? = some d) : fnO K d.x = d.val := by
  have e2 : (H.fn.map fun d => fnO K d.x)[i]? = (H.fn.map Dd.val)[i]? := by rw [c.2.1]
  rw [List.getElem?_map, List.getElem?_map, h] at e2
  exact Option.some.inj e2
theorem Hd.says.raw (c : H.says w K) (i : Nat) {d : Dd} (h : H.fn[i]? = some d) : ∃ (od an : Option Addr) (sl : Array (Option Value)) (oc dV kV dc pm cd ct : Value),
    PySem.W.nsIn K mainGlobals d.x = some (some (.ref (He.ga K d.x))) ∧ K.lookup (He.ga K d.x) = some ⟨oc, od, .func (PySem.W.fnOf d.x d.x (defArgs d.st) (defBody d.st) (defScope d.st) dV kV dc pm an cd ct), sl⟩ ∧ PySem.W.codeIn K cd d.x = true ∧ PySem.W.keepIn K (.ref (He.ga K d.x)) = true ∧ cdB d.cd cd = true ∧ dflO K dV = some d.dfl := by
  have e := c.fnv i h
  have b := List.all_eq_true.mp (He.ba (He.ba c.1).2).1 d (List.mem_of_getElem? h)
  obtain ⟨b1, b2⟩ := He.ba b
  obtain ⟨b2, b3⟩ := He.ba b2
  unfold fnO at e
  cases q : K.lookup (He.ga K d.x) with
  | none =>
    rw [q] at b3
    cases b3
  | some o =>
    obtain ⟨oc, od, dt, osl⟩ := o
    rw [q] at b3 e
    cases dt with
    | func fd =>
      obtain ⟨n1, n2, n3, n4, n5, n6, n7, n8, n9, n10, n11, n12, n13, n14, n15⟩ := fd
      have e2 : (some (n1, n2, n3, n4, n5, n6, n7, n15, dflO K n8) : FnO) = some (d.x, d.x, defArgs d.st, .stmts (defBody d.st), defScope d.st, mainGlobals, [], builtinsNs, some d.dfl) := e
      simp only [Option.some.injEq, Prod.mk.injEq] at e2
      obtain ⟨h1, h2, h3, h4, h5, h6, h7, h8, h9⟩ := e2
      subst h1 h2 h3 h4 h5 h6 h7 h8
      have b3 : (PySem.W.codeIn K n13 d.x && cdB d.cd n13) = true := b3
      obtain ⟨k1, k2⟩ := He.ba b3
      exact ⟨_, _, _, _, _, _, _, _, _, _, glo_of b1, rfl, k1, b2, k2, h9⟩
    | _ => cases b3
/-- a def with no defaults -/
theorem Hd.says.def0 (c : H.says w K) (i : Nat) {x : Str} {st : Stmt} (h : H.fn[i]? = some ⟨x, st, none, none⟩) : ∃ (fa : Addr) (od an : Option Addr) (sl : Array (Option Value)) (oc kV dc pm cd ct : Value),
    PySem.W.nsIn K mainGlobals x = some (some (.ref fa)) ∧ K.lookup fa = some ⟨oc, od, .func (PySem.W.fnOf x x (defArgs st) (defBody st) (defScope st) .none kV dc pm an cd ct), sl⟩ ∧ PySem.W.codeIn K cd x = true ∧ PySem.W.keepIn K (.ref fa) = true := by
  obtain ⟨od, an, sl, oc, dV, kV, dc, pm, cd, ct, e1, e2, e3, e4, _, e6⟩ := c.raw i h
  have eV : dV = .none := by
    cases dV with
    | none => rfl
    | ref T =>
      simp only [dflO] at e6
      split at e6 <;> cases e6
    | _ => cases e6
  subst eV
  exact ⟨_, od, an, sl, oc, kV, dc, pm, cd, ct, e1, e2, e3, e4⟩
theorem keys_lit {P : Params} : ∀ {es : List DictEntry} {kvs : List (PyData × PyData)}, entB K es kvs = true → (es.map fun e => e.hash) = keyS P kvs → PySem.W.KeysLit P es
  | [], _, _, _ => trivial
  | e :: es, (.str x, d) :: kvs, h, q => by
    have h1 : (e.key.isStr x && !e.refKey && kdB K 8 e.val d && entB K es kvs) = true := h
    simp only [Bool.and_eq_true] at h1
    obtain ⟨⟨⟨a1, a2⟩, a3⟩, a4⟩ := h1
    obtain ⟨q1, q2⟩ := List.cons.inj (show e.hash :: es.map (fun e => e.hash) = PyData.keyHash P x :: keyS P kvs from q)
    refine ⟨?_, keys_lit a4 q2⟩
    cases hk : e.key with
    | str y t =>
      rw [hk] at a1
      have e3 : y = x := by simpa [Value.isStr] using a1
      exact ⟨y, t, rfl, by rw [q1, e3]⟩
    | _ =>
      rw [hk] at a1
      simp [Value.isStr] at a1
theorem Hd.says.dict (c : H.says w K) (i : Nat) {x : Str} {kvs : List (PyData × PyData)} (h : H.dc[i]? = some (x, kvs)) : ∃ (a : Addr) (es : Array DictEntry) (n : Nat), PySem.W.nsIn K mainGlobals x = some (some (.ref a)) ∧ K.lookup a = some ⟨.type "dict", none, .dict es n, #[]⟩ ∧ PySem.W.KeysLit w.params es.toList ∧ (!(a == sysModules) && entB K es.toList kvs) = true := by
  have e2 : (H.dc.map fun d => dcO K d.1)[i]? = (H.dc.map fun d => keyS w.params d.2)[i]? := by rw [c.2.2]
  rw [List.getElem?_map, List.getElem?_map, h] at e2
  have e := Option.some.inj e2
  have b := List.all_eq_true.mp (He.ba (He.ba c.1).2).2 _ (List.mem_of_getElem? h)
  obtain ⟨b1, b2⟩ := He.ba b
  unfold dcO at e
  dsimp only at e b1 b2
  split at b2
  · rename_i cN es n sl q
    rw [q] at e
    simp only [Bool.and_eq_true] at b2
    obtain ⟨g1, g2, g3, g4⟩ := b2
    have e3 := of_decide_eq_true g1
    have e4 := of_decide_eq_true g2
    subst e3 e4
    exact ⟨_, es, n, glo_of b1, q, keys_lit g4 e, by rw [g4, g3]; rfl⟩
  · cases b2
end
/-! ### the law -/
theorem walk_fact [Tbl] {l : PySem.W.OpenLaw} {n : Nat} (k : Nat) {q : Program} {loose : List Str} {XP : (Str → Option Value) → Heap → Prop} {YP : World → Heap → Prop} {d : DefRec} {x : Str} (nm : Str) (tab : List (Str × Fn)) (g : Str → Option PyData) (wf : Nat) {f : Fn} (cs : List (Addr × Addr))
    (hnm : d.name = nm) (hn : l.most = some n) (hn2 : n ≤ sizeLine) (hdf : d.params.defaults = []) (room : Room (6 * k) callerA) (hl : tab.lookup nm = some f) (hko : koK f.kw = false) (hTb : ∀ p ∈ Tbl.T, ∃ q ∈ cs, q.2 = p.1)
    (run : ∀ ns : List Int, ns.length ≤ n → callI g wf tab k nm none [.list (ns.map .int)] = some (.bool true, none))
    (hT : ∀ (w : World) (mg : Str → Option Value) (h : Heap), YP w h → h.Ns mainGlobals mg → ∃ K : PySem.W.Frag, K.In h ∧ (∀ p ∈ cs, h.get? p.2 = some { cls := .none, data := .fields #[] }) ∧ (∀ p ∈ cs, K.lookup p.2 = none ∧ PySem.W.codeHdIn K p.1 p.2 = true) ∧ (TabOk K mg tab cs ∧ GlobOk K w mg g ∧ ∀ b ∈ bltNames, mg (Str.ofString b) = none) ∧ ∃ fa fd st N ow sd cl, DefOk K mg tab cs nm f fa fd st N [x] ow sd cl) :
    PySem.W.WalkO q loose XP YP l.row.toRowW d [] (fun f vs => PySem.call f vs) := by
  subst hnm
  refine Att.attach_call hn hdf fun w s₀ s mg mb fa o pm cd doc a vs ns G Y ho hd hcd hmg hobj hints hlen hg => ?_
  obtain ⟨K, KX, hE, ck, ⟨tk, gk, bk⟩, fa', fd, st, N, ow, sd, cl, D⟩ := hT w mg _ Y G.T.g
  have hb : BindsTo s fd ⟨[.ref a], []⟩ [(x, .ref a)] := D.bs hko s [.ref a] KX rfl
  have e := D.mg
  rw [hmg] at e
  cases e
  refine law_goes (cs := cs) (sp := spF K (callI g wf tab k d.name)) KX G.T.g G.T.b G.T.builtins G.T.nolimit hg hE (fun p hp => (ck p hp).1) (fun p hp => PySem.W.codeHd_of_K KX (ck p hp).2) G.T.bmain hobj hints (Nat.le_trans hlen hn2) room (fun base _ TB => (tab_ok tk gk bk TB k d.name f hl D).1) hb fun H hH sq _ => ?_
  refine .inl ⟨noTabs H, [.list (ns.map .int)], .bool true, ⟨fun b o h => (noTabs_at h).1, fun p hp => ?_, fun b o h => (noTabs_at h).2⟩, .one (.lst (sq_noTabs sq) (RpA.ofInts ns)), run ns hlen, fun v F' H' _ _ _ _ _ rp => ?_⟩
  · obtain ⟨q, hq, e⟩ := hTb p hp
    refine LamX.TabS.nil ?_
    rw [← e]
    exact hH q hq
  · cases rp
    rfl
end Wh

set_option Elab.async false
set_option linter.all false
set_option maxRecDepth 100000
set_option maxHeartbeats 0
set_option exponentiation.threshold 20000
namespace Wh
open PySem PySem.Spec PyProof.Rows L2 Evl
def FU : Nat := 10 ^ 30

/-! ### the module's constants -/
def globL : List (Str × PyData) := [(Str.ofString "PLACE", .str "place"), (Str.ofString "BOUNDS", .dict [(.str "source", .tuple [.tuple [.int (0), .int (200)]]), (.str "tank", .tuple [.tuple [.int (0), .int (150)], .tuple [.int (1), .int (50)], .tuple [.int (1), .int (50)]])]), (Str.ofString "BOTH", .str "both"), (Str.ofString "ON", .str "on"), (Str.ofString "MOST_JOINTS", .int (7)), (Str.ofString "MOST_PIPES", .int (9)), (Str.ofString "MOST_ON", .int (4))]
def glob : Str → Option PyData := fun x => globL.lookup x
theorem g_PLACE : glob "PLACE" = some (.str "place") := by kernel_rfl
theorem g_BOTH : glob "BOTH" = some (.str "both") := by kernel_rfl
theorem g_ON : glob "ON" = some (.str "on") := by kernel_rfl
theorem g_MOST_JOINTS : glob "MOST_JOINTS" = some (.int (7)) := by kernel_rfl
theorem g_MOST_PIPES : glob "MOST_PIPES" = some (.int (9)) := by kernel_rfl
theorem g_MOST_ON : glob "MOST_ON" = some (.int (4)) := by kernel_rfl
theorem glob_ok {K : PySem.W.Frag} {w : World} {h : Heap} {mg : Str → Option Value} (X : K.In h) (G : h.Ns mainGlobals mg) (q_PLACE : conB K "PLACE" (.str "place") = true) (q_BOUNDS : DctG K w mg "BOUNDS" [(.str "source", .tuple [.tuple [.int (0), .int (200)]]), (.str "tank", .tuple [.tuple [.int (0), .int (150)], .tuple [.int (1), .int (50)], .tuple [.int (1), .int (50)]])]) (q_BOTH : conB K "BOTH" (.str "both") = true) (q_ON : conB K "ON" (.str "on") = true) (q_MOST_JOINTS : conB K "MOST_JOINTS" (.int (7)) = true) (q_MOST_PIPES : conB K "MOST_PIPES" (.int (9)) = true) (q_MOST_ON : conB K "MOST_ON" (.int (4)) = true) : GlobOk K w mg glob := by
  exact glob_all (l := globL) ⟨con_ok X G q_PLACE, q_BOUNDS, con_ok X G q_BOTH, con_ok X G q_ON, con_ok X G q_MOST_JOINTS, con_ok X G q_MOST_PIPES, con_ok X G q_MOST_ON, trivial⟩
def wsL : List (Str × PyData) := [(Str.ofString "NoNet", .tuple [.str "net"]), (Str.ofString "NoPlace", .tuple [.str "place"]), (Str.ofString "NoShut", .tuple [.str "shut"])]
def sdF : Str → Option (List (Str × PyData)) := fun x => none
def clL : List Str := ["NoNet", "NoPlace", "NoShut"]
/-! ### the defs in the small language -/
def b_is_whole : List Sm := [(.ret (.and (.b1 (.isi .int) (.var 0)) (.not (.b1 (.isi .bool) (.var 0)))))]
def f_is_whole : Fn := ⟨false, false, 1, 1, b_is_whole, []⟩
def b_is_number : List Sm := [(.ret (.and (.call "is_whole" [(.var 0)]) (.chain .le .le (.var 1) (.var 0) (.var 2))))]
def f_is_number : Fn := ⟨false, false, 3, 3, b_is_number, []⟩
def b_is_place_joint : List Sm := [(.unp [(.name 1), (.name 2), (.name 3), (.name 4)] (.var 0)),
    (.ret (.and (.call "is_number" [(.var 2), (.con (.int 0)), (.con (.int 100))]) (.and (.call "is_number" [(.var 4), (.con (.int 0)), (.con (.int 200))]) (.call "is_number" [(.var 3), (.con (.int 0)), (.var 4)]))))]
def f_is_place_joint : Fn := ⟨false, false, 1, 5, b_is_place_joint, []⟩
def b_is_joint : List Sm := [(.ite (.or (.not (.leaf (.b1 (.isi .tuple) (.var 0)))) (.or (.leaf (.cmp .eq (.var 0) (.tup []))) (.not (.leaf (.b1 (.isi .str) (.ix (.var 0) (.con (.int 0)))))))) [(.ret (.con (.bool false)))] []),
    (.ite (.leaf (.cmp .eq (.ix (.var 0) (.con (.int 0))) (.glob "PLACE"))) [(.ret (.and (.cmp .eq (.b1 .len (.var 0)) (.con (.int 4))) (.call "is_place_joint" [(.var 0)])))] []),
    (.set 1 (.gget "BOUNDS" (.ix (.var 0) (.con (.int 0))))),
    (.ite (.or (.leaf (.cmp .isN (.var 1) (.con .none))) (.leaf (.cmp .ne (.b1 .len (.var 0)) (.bin .add (.b1 .len (.var 1)) (.con (.int 1)))))) [(.ret (.con (.bool false)))] []),
    (.ret (.b1 .all (.comp (.call "is_number" [(.var 2), (.var 3), (.var 4)]) (.tup [(.name 2), (.tup [(.name 3), (.name 4)])]) (.zip (.sl (.var 0) (some (.con (.int 1))) none) (.var 1)) [] [2, 3, 4])))]
def f_is_joint : Fn := ⟨false, false, 1, 5, b_is_joint, []⟩
def b_is_pipe : List Sm := [(.ite (.or (.not (.leaf (.b1 (.isi .tuple) (.var 1)))) (.leaf (.cmp .ne (.b1 .len (.var 1)) (.con (.int 7))))) [(.ret (.con (.bool false)))] []),
    (.unp [(.name 2), (.name 3), (.name 4), (.name 5), (.name 6), (.name 7), (.name 8)] (.var 1)),
    (.ite (.or (.not (.leaf (.call "is_number" [(.var 2), (.con (.int 0)), (.bin .sub (.var 0) (.con (.int 1)))]))) (.or (.not (.leaf (.call "is_number" [(.var 3), (.con (.int 0)), (.bin .sub (.var 0) (.con (.int 1)))]))) (.leaf (.cmp .eq (.var 2) (.var 3))))) [(.ret (.con (.bool false)))] []),
    (.ite (.or (.not (.leaf (.call "is_number" [(.var 4), (.con (.int 1)), (.con (.int 20))]))) (.or (.not (.leaf (.b1 (.isi .str) (.var 5)))) (.leaf (.cmp .nin (.var 5) (.tup [(.glob "BOTH"), (.glob "ON")]))))) [(.ret (.con (.bool false)))] []),
    (.ite (.or (.not (.leaf (.call "is_number" [(.var 6), (.con (.int 0)), (.ite (.leaf (.cmp .eq (.var 5) (.glob "ON"))) (.con (.int 50)) (.con (.int 0)))]))) (.not (.leaf (.b1 (.isi .bool) (.var 7))))) [(.ret (.con (.bool false)))] []),
    (.ret (.call "is_number" [(.var 8), (.con (.int 0)), (.con (.int 20))]))]
def f_is_pipe : Fn := ⟨false, false, 2, 9, b_is_pipe, []⟩
def b_is_net : List Sm := [(.ite (.or (.not (.leaf (.b1 (.isi .tuple) (.var 0)))) (.or (.leaf (.cmp .ne (.b1 .len (.var 0)) (.con (.int 2)))) (.not (.leaf (.b1 .all (.comp (.b1 (.isi .tuple) (.var 1)) (.name 1) (.seq (.var 0)) [] [1])))))) [(.ret (.con (.bool false)))] []),
    (.unp [(.name 2), (.name 3)] (.var 0)),
    (.ite (.or (.not (.leaf (.chain .le .le (.con (.int 2)) (.b1 .len (.var 2)) (.glob "MOST_JOINTS")))) (.not (.leaf (.b1 .all (.comp (.call "is_joint" [(.var 4)]) (.name 4) (.seq (.var 2)) [] [4]))))) [(.ret (.con (.bool false)))] []),
    (.ite (.or (.not (.leaf (.chain .le .le (.con (.int 1)) (.b1 .len (.var 3)) (.glob "MOST_PIPES")))) (.not (.leaf (.b1 .all (.comp (.call "is_pipe" [(.b1 .len (.var 2)), (.var 5)]) (.name 5) (.seq (.var 3)) [] [5]))))) [(.ret (.con (.bool false)))] []),
    (.ret (.cmp .le (.b1 .len (.comp (.var 5) (.name 5) (.seq (.var 3)) [(.leaf (.cmp .eq (.ix (.var 5) (.con (.int 3))) (.glob "ON")))] [5])) (.glob "MOST_ON")))]
def f_is_net : Fn := ⟨false, false, 1, 6, b_is_net, []⟩
def b_need_net : List Sm := [(.ite (.not (.leaf (.call "is_net" [(.var 0)]))) [(.fail (some "NoNet"))] [])]
def f_need_net : Fn := ⟨false, false, 1, 1, b_need_net, []⟩
def b_is_place : List Sm := [(.ret (.and (.call "is_number" [(.var 1), (.con (.int 0)), (.bin .sub (.b1 .len (.ix (.var 0) (.con (.int 0)))) (.con (.int 1)))]) (.cmp .eq (.ix (.ix (.ix (.var 0) (.con (.int 0))) (.var 1)) (.con (.int 0))) (.glob "PLACE"))))]
def f_is_place : Fn := ⟨false, false, 2, 2, b_is_place, []⟩
def b_is_pump : List Sm := [(.ret (.cmp .gt (.ix (.ix (.ix (.var 0) (.con (.int 1))) (.var 1)) (.con (.int 4))) (.con (.int 0))))]
def f_is_pump : Fn := ⟨false, false, 2, 2, b_is_pump, []⟩
def b_can_shut : List Sm := [(.ret (.and (.call "is_number" [(.var 1), (.con (.int 0)), (.bin .sub (.b1 .len (.ix (.var 0) (.con (.int 1)))) (.con (.int 1)))]) (.or (.ix (.ix (.ix (.var 0) (.con (.int 1))) (.var 1)) (.con (.int 5))) (.call "is_pump" [(.var 0), (.var 1)]))))]
def f_can_shut : Fn := ⟨false, false, 2, 2, b_can_shut, []⟩
def b_are_rising : List Sm := [(.ret (.b1 .all (.comp (.cmp .lt (.var 1) (.var 2)) (.tup [(.name 1), (.name 2)]) (.zip (.sl (.var 0) none (some (.neg (.con (.int 1))))) (.sl (.var 0) (some (.con (.int 1))) none)) [] [1, 2])))]
def f_are_rising : Fn := ⟨false, false, 1, 3, b_are_rising, []⟩
def b_are_shut : List Sm := [(.ret (.and (.b1 (.isi .tuple) (.var 1)) (.and (.b1 .all (.comp (.call "can_shut" [(.var 0), (.var 2)]) (.name 2) (.seq (.var 1)) [] [2])) (.call "are_rising" [(.var 1)]))))]
def f_are_shut : Fn := ⟨false, false, 2, 3, b_are_shut, []⟩
def b_end_from : List Sm := [(.ite (.leaf (.cmp .eq (.ix (.var 0) (.con (.int 0))) (.var 1))) [(.ret (.ix (.var 0) (.con (.int 1))))] []),
    (.ret (.ite (.and (.leaf (.cmp .eq (.ix (.var 0) (.con (.int 1))) (.var 1))) (.leaf (.cmp .eq (.ix (.var 0) (.con (.int 3))) (.glob "BOTH")))) (.ix (.var 0) (.con (.int 0))) (.con .none)))]
def f_end_from : Fn := ⟨false, false, 2, 2, b_end_from, []⟩
def b_begins : List Sm := [(.ret (.comp (.var 1) (.name 1) (.rng1 (.b1 .len (.ix (.var 0) (.con (.int 0))))) [(.not (.leaf (.call "is_place" [(.var 0), (.var 1)])))] [1]))]
def f_begins : Fn := ⟨false, true, 1, 2, b_begins, []⟩
def b_fed_by : List Sm := [(.seto 2 (.call "begins" [(.var 0)])),
    (.seto 3 (.ocopy 2)),
    (.wh (.leaf (.lend 3 (.cmp .ne (.var 3) (.lst [])))) [(.set 4 (.opope 3)),
    (.for_ (.tup [(.name 5), (.name 6)]) (.enum (.ix (.var 0) (.con (.int 1)))) [(.set 7 (.call "end_from" [(.var 6), (.var 4)])),
    (.ite (.and (.leaf (.cmp .nin (.var 5) (.var 1))) (.and (.leaf (.cmp .notN (.var 7) (.con .none))) (.leaf (.oin true (.var 7) 2)))) [(.app 2 (.var 7)),
    (.app 3 (.var 7))] [])])]),
    (.ret (.var 2))]
def f_fed_by : Fn := ⟨false, false, 2, 8, b_fed_by, []⟩
def b_gates_in : List Sm := [(.ret (.comp (.var 2) (.tup [(.name 2), (.name 3)]) (.enum (.ix (.var 0) (.con (.int 1)))) [(.and (.leaf (.ix (.var 3) (.con (.int 5)))) (.leaf (.cmp .nin (.var 2) (.var 1))))] [2, 3]))]
def f_gates_in : Fn := ⟨false, false, 2, 4, b_gates_in, []⟩
def b_lots_of : List Sm := [(.ite (.leaf (.cmp .eq (.var 1) (.con (.int 0)))) [(.ret (.lst [(.tup [])]))] []),
    (.seto 2 (.lst [])),
    (.for_ (.tup [(.name 3), (.name 4)]) (.enum (.var 0)) [(.ext 2 (.comp (.bin .add (.tup [(.var 4)]) (.var 5)) (.name 5) (.seq (.call "lots_of" [(.sl (.var 0) (some (.bin .add (.var 3) (.con (.int 1)))) none), (.bin .sub (.var 1) (.con (.int 1)))])) [] [5]))]),
    (.ret (.var 2))]
def f_lots_of : Fn := ⟨false, false, 2, 6, b_lots_of, []⟩
def b_fewest_gates : List Sm := [(.set 3 (.call "gates_in" [(.var 0), (.var 2)])),
    (.for_ (.name 4) (.rng1 (.bin .add (.b1 .len (.var 3)) (.con (.int 1)))) [(.for_ (.name 5) (.seq (.call "lots_of" [(.var 3), (.var 4)])) [(.ite (.leaf (.cmp .nin (.var 1) (.call "fed_by" [(.var 0), (.bin .add (.var 2) (.var 5))]))) [(.ret (.var 5))] [])])]),
    (.ret (.con .none))]
def f_fewest_gates : Fn := ⟨false, false, 3, 6, b_fewest_gates, []⟩
def b_ways_from : List Sm := [(.seto 5 (.lst [])),
    (.for_ (.tup [(.name 6), (.name 7)]) (.enum (.ix (.var 0) (.con (.int 1)))) [(.set 8 (.call "end_from" [(.var 7), (.ix (.var 4) (.neg (.con (.int 1))))])),
    (.ite (.and (.leaf (.cmp .nin (.var 6) (.var 1))) (.and (.leaf (.cmp .notN (.var 8) (.con .none))) (.leaf (.cmp .nin (.var 8) (.var 4))))) [(.ite (.leaf (.cmp .eq (.var 8) (.var 2))) [(.app 5 (.bin .add (.var 3) (.tup [(.var 6)])))] [(.ite (.leaf (.call "is_place" [(.var 0), (.var 8)])) [(.ext 5 (.call "ways_from" [(.var 0), (.var 1), (.var 2), (.bin .add (.var 3) (.tup [(.var 6)])), (.bin .add (.var 4) (.tup [(.var 8)]))]))] [])])] [])]),
    (.ret (.var 5))]
def f_ways_from : Fn := ⟨false, false, 5, 9, b_ways_from, []⟩
def b_ways_to : List Sm := [(.ret (.comp2 (.var 4) (.name 3) (.seq (.call "begins" [(.var 0)])) [] (.name 4) (.seq (.call "ways_from" [(.var 0), (.var 1), (.var 2), (.tup []), (.tup [(.var 3)])])) [] [3, 4] [4]))]
def f_ways_to : Fn := ⟨false, false, 3, 5, b_ways_to, []⟩
def b_gates_on : List Sm := [(.ret (.comp (.var 2) (.name 2) (.seq (.var 1)) [(.leaf (.ix (.ix (.ix (.var 0) (.con (.int 1))) (.var 2)) (.con (.int 5))))] [2]))]
def f_gates_on : Fn := ⟨false, false, 2, 3, b_gates_on, []⟩
def b_apart_ways : List Sm := [(.ite (.leaf (.cmp .eq (.var 2) (.con (.int 0)))) [(.ret (.tup []))] []),
    (.for_ (.tup [(.name 3), (.name 4)]) (.enum (.var 1)) [(.set 5 (.call "gates_on" [(.var 0), (.var 4)])),
    (.set 6 (.comp (.var 7) (.name 7) (.seq (.sl (.var 1) (some (.bin .add (.var 3) (.con (.int 1)))) none)) [(.leaf (.cmp .eq (.comp (.var 8) (.name 8) (.seq (.call "gates_on" [(.var 0), (.var 7)])) [(.leaf (.cmp .inn (.var 8) (.var 5)))] [8]) (.lst [])))] [7])),
    (.set 9 (.call "apart_ways" [(.var 0), (.var 6), (.bin .sub (.var 2) (.con (.int 1)))])),
    (.ite (.leaf (.cmp .notN (.var 9) (.con .none))) [(.ret (.bin .add (.tup [(.var 4)]) (.var 9)))] [])]),
    (.ret (.con .none))]
def f_apart_ways : Fn := ⟨false, false, 3, 10, b_apart_ways, []⟩
def b_need_place : List Sm := [(.ite (.not (.leaf (.call "is_place" [(.var 0), (.var 1)]))) [(.fail (some "NoPlace"))] [])]
def f_need_place : Fn := ⟨false, false, 2, 2, b_need_place, []⟩
def b_need_cut : List Sm := [(.expr (.call "need_net" [(.var 0)])),
    (.expr (.call "need_place" [(.var 0), (.var 1)])),
    (.ite (.not (.leaf (.call "are_shut" [(.var 0), (.var 2)]))) [(.fail (some "NoShut"))] [])]
def f_need_cut : Fn := ⟨false, false, 3, 3, b_need_cut, []⟩
def b_cut_by : List Sm := [(.set 3 (.call "fewest_gates" [(.var 0), (.var 1), (.var 2)])),
    (.ret (.ite (.leaf (.cmp .isN (.var 3) (.con .none))) (.con .none) (.tup [(.var 3), (.call "apart_ways" [(.var 0), (.call "ways_to" [(.var 0), (.var 2), (.var 1)]), (.b1 .len (.var 3))])])))]
def f_cut_by : Fn := ⟨false, false, 3, 4, b_cut_by, []⟩
def b_cut_of : List Sm := [(.expr (.call "need_cut" [(.var 0), (.var 1), (.var 2)])),
    (.ret (.call "cut_by" [(.var 0), (.var 1), (.var 2)]))]
def f_cut_of : Fn := ⟨false, false, 3, 3, b_cut_of, [⟨0, [""], [.inl 99]⟩, ⟨2, [], (List.range' 0 2).map .inl ++ [.tuple []].map .inr⟩, ⟨2, ["shut"], [0, 1, 2].map .inl⟩]⟩
def b_are_gates : List Sm := [(.set 3 (.call "gates_in" [(.var 0), (.var 1)])),
    (.ite (.or (.not (.leaf (.b1 (.isi .tuple) (.var 2)))) (.not (.leaf (.b1 .all (.comp (.call "is_number" [(.var 4), (.con (.int 0)), (.bin .sub (.b1 .len (.ix (.var 0) (.con (.int 1)))) (.con (.int 1)))]) (.name 4) (.seq (.var 2)) [] [4]))))) [(.ret (.con (.bool false)))] []),
    (.ret (.and (.b1 .all (.comp (.cmp .inn (.var 4) (.var 3)) (.name 4) (.seq (.var 2)) [] [4])) (.call "are_rising" [(.var 2)])))]
def f_are_gates : Fn := ⟨false, false, 3, 5, b_are_gates, []⟩
def b_led_along : List Sm := [(.for_ (.name 3) (.seq (.var 2)) [(.set 1 (.ite (.leaf (.cmp .isN (.var 1) (.con .none))) (.con .none) (.call "end_from" [(.ix (.ix (.var 0) (.con (.int 1))) (.var 3)), (.var 1)])))]),
    (.ret (.var 1))]
def f_led_along : Fn := ⟨false, false, 3, 4, b_led_along, []⟩
def b_is_way : List Sm := [(.ite (.or (.not (.leaf (.b1 (.isi .tuple) (.var 3)))) (.or (.leaf (.cmp .eq (.var 3) (.tup []))) (.not (.leaf (.b1 .all (.comp (.call "is_number" [(.var 4), (.con (.int 0)), (.bin .sub (.b1 .len (.ix (.var 0) (.con (.int 1)))) (.con (.int 1)))]) (.name 4) (.seq (.var 3)) [] [4])))))) [(.ret (.con (.bool false)))] []),
    (.ite (.leaf (.b1 .any (.comp (.cmp .inn (.var 5) (.var 2)) (.name 5) (.seq (.var 3)) [] [5]))) [(.ret (.con (.bool false)))] []),
    (.ret (.b1 .any (.comp (.cmp .eq (.call "led_along" [(.var 0), (.var 6), (.var 3)]) (.var 1)) (.name 6) (.seq (.call "begins" [(.var 0)])) [] [6])))]
def f_is_way : Fn := ⟨false, false, 4, 7, b_is_way, []⟩
def b_is_cut : List Sm := [(.expr (.call "need_cut" [(.var 0), (.var 1), (.var 3)])),
    (.ite (.or (.not (.leaf (.b1 (.isi .tuple) (.var 2)))) (.or (.leaf (.cmp .ne (.b1 .len (.var 2)) (.con (.int 2)))) (.not (.leaf (.b1 (.isi .tuple) (.ix (.var 2) (.con (.int 1)))))))) [(.ret (.con (.bool false)))] []),
    (.unp [(.name 4), (.name 5)] (.var 2)),
    (.ite (.or (.not (.leaf (.call "are_gates" [(.var 0), (.var 3), (.var 4)]))) (.or (.leaf (.cmp .ne (.b1 .len (.var 4)) (.b1 .len (.var 5)))) (.leaf (.cmp .inn (.var 1) (.call "fed_by" [(.var 0), (.bin .add (.var 3) (.var 4))]))))) [(.ret (.con (.bool false)))] []),
    (.ite (.not (.leaf (.b1 .all (.comp (.call "is_way" [(.var 0), (.var 1), (.var 3), (.var 6)]) (.name 6) (.seq (.var 5)) [] [6])))) [(.ret (.con (.bool false)))] []),
    (.set 7 (.comp2 (.var 8) (.name 6) (.seq (.var 5)) [] (.name 8) (.seq (.call "gates_on" [(.var 0), (.var 6)])) [] [6, 8] [8])),
    (.ret (.cmp .eq (.b1 .len (.var 7)) (.lset (.var 7))))]
def f_is_cut : Fn := ⟨false, false, 4, 9, b_is_cut, [⟨0, [""], [.inl 99]⟩, ⟨3, [], (List.range' 0 3).map .inl ++ [.tuple []].map .inr⟩]⟩
def b_law_cell_at : List Sm := [(.ite (.leaf (.cmp .lt (.var 1) (.b1 .len (.var 0)))) [(.ret (.ix (.var 0) (.var 1)))] []),
    (.ret (.con (.int 0)))]
def f_law_cell_at : Fn := ⟨false, false, 2, 2, b_law_cell_at, []⟩
def b_law_next : List Sm := [(.set 0 (.bin .mod (.bin .add (.var 0) (.con (.int 7919))) (.con (.int 2147483647)))),
    (.ret (.bin .mod (.bin .add (.bin .add (.bin .mul (.var 0) (.var 0)) (.bin .mul (.con (.int 48271)) (.var 0))) (.con (.int 12345))) (.con (.int 2147483629))))]
def f_law_next : Fn := ⟨false, false, 1, 1, b_law_next, []⟩
def b_law_pen_of : List Sm := [(.set 1 (.b2 .max (.var 0) (.bin .sub (.con (.int 0)) (.var 0)))),
    (.ret (.lst [(.var 1), (.b1 .int (.cmp .ge (.var 1) (.bin .pow (.con (.int 10)) (.con (.int 18))))), (.bin .mod (.var 1) (.con (.int 1000003)))]))]
def f_law_pen_of : Fn := ⟨false, true, 1, 2, b_law_pen_of, []⟩
def b_law_draw : List Sm := [(.ite (.and (.leaf (.cmp .eq (.oix 0 (.con (.int 1))) (.con (.int 1)))) (.leaf (.cmp .gt (.oix 0 (.con (.int 0))) (.con (.int 0))))) [(.set 2 (.bin .mod (.oix 0 (.con (.int 0))) (.var 1))),
    (.seti 0 (.con (.int 0)) (.bin .fdiv (.oix 0 (.con (.int 0))) (.var 1))),
    (.ret (.var 2))] []),
    (.seti 0 (.con (.int 2)) (.call "_law_next" [(.bin .add (.call "_law_next" [(.oix 0 (.con (.int 2)))]) (.con (.int 7)))])),
    (.ret (.bin .mod (.bin .fdiv (.oix 0 (.con (.int 2))) (.con (.int 64))) (.var 1)))]
def f_law_draw : Fn := ⟨true, false, 2, 3, b_law_draw, []⟩
def b_law_line : List Sm := [(.set 1 (.bin .add (.tup [(.tup [(.con (.str "source")), (.con (.int 50))])]) (.bin .mul (.tup [(.tup [(.con (.str "place")), (.con (.int 0)), (.con (.int 0)), (.con (.int 99))])]) (.b1 .len (.var 0))))),
    (.ret (.tup [(.var 1), (.b1 .tuple (.comp (.tup [(.var 2), (.bin .add (.var 2) (.con (.int 1))), (.con (.int 1)), (.con (.str "both")), (.con (.int 0)), (.var 3), (.con (.int 0))]) (.tup [(.name 2), (.name 3)]) (.enum (.var 0)) [] [2, 3]))]))]
def f_law_line : Fn := ⟨false, false, 1, 4, b_law_line, []⟩
def b_law_line_right : List Sm := [(.set 1 (.bin .add (.con (.int 1)) (.callp "_law_draw" 0 [(.con (.int 6))]))),
    (.set 2 (.callp "_law_draw" 0 [(.bin .add (.var 1) (.con (.int 1)))])),
    (.set 3 (.call "_law_line" [(.comp (.cmp .ne (.var 4) (.var 2)) (.name 4) (.rng1 (.var 1)) [] [4])])),
    (.for_ (.name 5) (.rng2 (.con (.int 1)) (.bin .add (.var 1) (.con (.int 1)))) [(.set 6 (.ite (.leaf (.cmp .eq (.var 2) (.con (.int 0)))) (.con (.int 1)) (.con (.int 0)))),
    (.set 7 (.ite (.leaf (.cmp .le (.var 5) (.var 6))) (.con .none) (.tup [(.tup [(.var 6)]), (.tup [(.trg (.var 5))])]))),
    (.set 8 (.callk "cut_of" [(.var 3), (.var 5)] [.inl 0, .inl 1, .inr ((.tuple []))])),
    (.ite (.or (.leaf (.cmp .ne (.cmp .isN (.var 8) (.con .none)) (.cmp .isN (.var 7) (.con .none)))) (.leaf (.cmp .ne (.callk "is_cut" [(.var 3), (.var 5), (.var 7)] [.inl 0, .inl 1, .inl 2, .inr ((.tuple []))]) (.cmp .notN (.var 7) (.con .none))))) [(.ret (.con (.bool false)))] []),
    (.ite (.and (.leaf (.cmp .notN (.var 8) (.con .none))) (.or (.leaf (.cmp .ne (.ix (.var 8) (.con (.int 0))) (.ix (.var 7) (.con (.int 0))))) (.leaf (.cmp .notN (.callk "is_cut" [(.var 3), (.var 5), (.var 8)] [.inl 0, .inl 1, .inl 2, .inr ((.tuple []))]) (.con (.bool true)))))) [(.ret (.con (.bool false)))] [])]),
    (.ite (.leaf (.cmp .eq (.var 2) (.con (.int 0)))) [(.ret (.con (.bool true)))] []),
    (.ret (.and (.cmp .eq (.callk "cut_of" [(.var 3), (.var 1), (.tup [(.con (.int 0))])] [.inl 0, .inl 1, .inl 2]) (.tup [(.tup []), (.tup [])])) (.cmp .eq (.callk "cut_of" [(.var 3), (.con (.int 1)), (.tup [(.con (.int 0))])] [.inl 0, .inl 1, .inl 2]) (.tup [(.tup []), (.tup [])]))))]
def f_law_line_right : Fn := ⟨true, false, 1, 9, b_law_line_right, []⟩
def b_law_ring_right : List Sm := [(.set 1 (.bin .add (.con (.int 2)) (.callp "_law_draw" 0 [(.con (.int 4))]))),
    (.set 2 (.bin .add (.tup [(.tup [(.con (.str "source")), (.con (.int 50))])]) (.bin .mul (.tup [(.tup [(.con (.str "place")), (.con (.int 0)), (.con (.int 0)), (.con (.int 99))])]) (.var 1)))),
    (.set 3 (.b1 .tuple (.comp (.tup [(.var 4), (.bin .mod (.bin .add (.var 4) (.con (.int 1))) (.bin .add (.var 1) (.con (.int 1)))), (.con (.int 1)), (.con (.str "both")), (.con (.int 0)), (.con (.bool true)), (.con (.int 0))]) (.name 4) (.rng1 (.bin .add (.var 1) (.con (.int 1)))) [] [4]))),
    (.for_ (.name 5) (.rng2 (.con (.int 1)) (.bin .add (.var 1) (.con (.int 1)))) [(.unp [(.name 6), (.name 7)] (.callk "cut_of" [(.tup [(.var 2), (.var 3)]), (.var 5)] [.inl 0, .inl 1, .inr ((.tuple []))])),
    (.par [8, 9] [(.trg (.var 5)), (.trn (.var 1) (.bin .sub (.var 5) (.con (.int 1))))]),
    (.ite (.or (.leaf (.cmp .ne (.var 6) (.tup [(.con (.int 0)), (.var 5)]))) (.leaf (.cmp .ne (.b1 .srt (.var 7)) (.b1 .srt (.lst [(.var 8), (.var 9)]))))) [(.ret (.con (.bool false)))] []),
    (.ite (.leaf (.cmp .ne (.callk "cut_of" [(.tup [(.var 2), (.var 3)]), (.var 5), (.tup [(.con (.int 0))])] [.inl 0, .inl 1, .inl 2]) (.tup [(.tup [(.var 5)]), (.tup [(.var 9)])]))) [(.ret (.con (.bool false)))] [])]),
    (.ret (.con (.bool true)))]
def f_law_ring_right : Fn := ⟨true, false, 1, 10, b_law_ring_right, []⟩
def b_law_side_right : List Sm := [(.set 1 (.bin .add (.con (.int 1)) (.callp "_law_draw" 0 [(.con (.int 6))]))),
    (.set 2 (.comp (.tup [(.con (.int 0)), (.con (.int 1)), (.bin .add (.con (.int 1)) (.var 3)), (.con (.str "both")), (.con (.int 0)), (.con (.bool true)), (.con (.int 0))]) (.name 3) (.rng1 (.var 1)) [] [3])),
    (.set 4 (.tup [(.tup [(.con (.str "source")), (.con (.int 50))]), (.tup [(.con (.str "place")), (.con (.int 0)), (.con (.int 0)), (.con (.int 99))])])),
    (.ite (.leaf (.cmp .ne (.callk "cut_of" [(.tup [(.var 4), (.b1 .tuple (.var 2))]), (.con (.int 1))] [.inl 0, .inl 1, .inr ((.tuple []))]) (.tup [(.trg (.var 1)), (.b1 .tuple (.comp (.tup [(.var 3)]) (.name 3) (.rng1 (.var 1)) [] [3]))]))) [(.unp [(.name 5), (.name 6)] (.callk "cut_of" [(.tup [(.var 4), (.b1 .tuple (.var 2))]), (.con (.int 1))] [.inl 0, .inl 1, .inr ((.tuple []))])),
    (.ite (.or (.leaf (.cmp .ne (.var 5) (.trg (.var 1)))) (.leaf (.cmp .ne (.b1 .srt (.var 6)) (.comp (.tup [(.var 3)]) (.name 3) (.rng1 (.var 1)) [] [3])))) [(.ret (.con (.bool false)))] [])] []),
    (.ite (.leaf (.cmp .ne (.ix (.callk "cut_of" [(.tup [(.var 4), (.b1 .tuple (.bin .add (.var 2) (.lst [(.tup [(.con (.int 1)), (.con (.int 0)), (.con (.int 1)), (.con (.str "on")), (.con (.int 0)), (.con (.bool false)), (.con (.int 0))])])))]), (.con (.int 1))] [.inl 0, .inl 1, .inr ((.tuple []))]) (.con (.int 0))) (.trg (.var 1)))) [(.ret (.con (.bool false)))] []),
    (.ite (.leaf (.cmp .notN (.callk "cut_of" [(.tup [(.var 4), (.b1 .tuple (.bin .add (.var 2) (.lst [(.tup [(.con (.int 0)), (.con (.int 1)), (.con (.int 1)), (.con (.str "on")), (.con (.int 7)), (.con (.bool false)), (.con (.int 0))])])))]), (.con (.int 1))] [.inl 0, .inl 1, .inr ((.tuple []))]) (.con .none))) [(.ret (.con (.bool false)))] []),
    (.set 7 (.tup [(.var 4), (.b1 .tuple (.bin .add (.var 2) (.lst [(.tup [(.con (.int 0)), (.con (.int 1)), (.con (.int 1)), (.con (.str "on")), (.con (.int 7)), (.con (.bool false)), (.con (.int 0))])])))])),
    (.ret (.cmp .eq (.b1 .len (.ix (.callk "cut_of" [(.var 7), (.con (.int 1)), (.tup [(.var 1)])] [.inl 0, .inl 1, .inl 2]) (.con (.int 0)))) (.var 1)))]
def f_law_side_right : Fn := ⟨true, false, 1, 8, b_law_side_right, []⟩
def b_law : List Sm := [(.set 1 (.tup [(.tup [(.tup [(.con (.str "place")), (.con (.int 0)), (.con (.int 0)), (.con (.int 99))]), (.tup [(.con (.str "place")), (.con (.int 0)), (.con (.int 0)), (.con (.int 99))])]), (.tup [(.tup [(.con (.int 0)), (.con (.int 1)), (.con (.int 1)), (.con (.str "both")), (.con (.int 0)), (.con (.bool true)), (.con (.int 0))])])])),
    (.set 2 (.tup [(.tup [(.tup [(.con (.str "source")), (.con (.int 9))]), (.tup [(.con (.str "place")), (.con (.int 0)), (.con (.int 0)), (.con (.int 99))])]), (.tup [(.tup [(.con (.int 1)), (.con (.int 0)), (.con (.int 1)), (.con (.str "on")), (.con (.int 0)), (.con (.bool true)), (.con (.int 0))])])])),
    (.ite (.or (.leaf (.cmp .ne (.lst [(.callk "cut_of" [(.var 1), (.con (.int 0))] [.inl 0, .inl 1, .inr ((.tuple []))]), (.callk "cut_of" [(.var 1), (.con (.int 1))] [.inl 0, .inl 1, .inr ((.tuple []))]), (.callk "cut_of" [(.var 2), (.con (.int 1))] [.inl 0, .inl 1, .inr ((.tuple []))])]) (.repl [(.tup [(.tup []), (.tup [])])] (.con (.int 3))))) (.leaf (.callk "is_cut" [(.var 1), (.con (.int 0)), (.tup [(.tup [(.con (.int 0))]), (.tup [(.tup [(.con (.int 0))])])])] [.inl 0, .inl 1, .inl 2, .inr ((.tuple []))]))) [(.ret (.con (.bool false)))] []),
    (.set 3 (.tup [(.tup [(.tup [(.con (.str "source")), (.con (.int 9))]), (.tup [(.con (.str "place")), (.con (.int 0)), (.con (.int 0)), (.con (.int 99))]), (.tup [(.con (.str "tank")), (.con (.int 9)), (.con (.int 1)), (.con (.int 9))])]), (.bin .mul (.tup [(.tup [(.con (.int 0)), (.con (.int 1)), (.con (.int 1)), (.con (.str "both")), (.con (.int 0)), (.con (.bool true)), (.con (.int 0))])]) (.con (.int 1)))])),
    (.set 4 (.tup [(.ix (.var 3) (.con (.int 0))), (.bin .add (.ix (.var 3) (.con (.int 1))) (.tup [(.tup [(.con (.int 2)), (.con (.int 1)), (.con (.int 1)), (.con (.str "on")), (.con (.int 0)), (.con (.bool true)), (.con (.int 0))]), (.tup [(.con (.int 1)), (.con (.int 2)), (.con (.int 1)), (.con (.str "both")), (.con (.int 0)), (.con (.bool false)), (.con (.int 0))])]))])),
    (.ite (.or (.leaf (.cmp .ne (.callk "cut_of" [(.var 3), (.con (.int 1))] [.inl 0, .inl 1, .inr ((.tuple []))]) (.tup [(.tup [(.con (.int 0))]), (.tup [(.tup [(.con (.int 0))])])]))) (.leaf (.cmp .notN (.callk "cut_of" [(.var 4), (.con (.int 1))] [.inl 0, .inl 1, .inr ((.tuple []))]) (.con .none)))) [(.ret (.con (.bool false)))] []),
    (.ite (.leaf (.cmp .ne (.ix (.callk "cut_of" [(.tup [(.ix (.var 4) (.con (.int 0))), (.sl (.ix (.var 4) (.con (.int 1))) none (some (.con (.int 2))))]), (.con (.int 1))] [.inl 0, .inl 1, .inr ((.tuple []))]) (.con (.int 0))) (.tup [(.con (.int 0)), (.con (.int 1))]))) [(.ret (.con (.bool false)))] []),
    (.for_ (.name 5) (.seq (.bin .add (.lst [(.call "_law_cell_at" [(.var 0), (.con (.int 0))])]) (.sl (.var 0) (some (.con (.int 1))) (some (.con (.int 3)))))) [(.seto 6 (.call "_law_pen_of" [(.var 5)])),
    (.ite (.or (.not (.leaf (.callp "_law_line_right" 6 []))) (.or (.not (.leaf (.callp "_law_ring_right" 6 []))) (.not (.leaf (.callp "_law_side_right" 6 []))))) [(.ret (.con (.bool false)))] [])]),
    (.ret (.con (.bool true)))]
def f_law : Fn := ⟨false, false, 1, 7, b_law, []⟩
def tab : List (Str × Fn) := [(Str.ofString "is_whole", f_is_whole), (Str.ofString "is_number", f_is_number), (Str.ofString "is_place_joint", f_is_place_joint), (Str.ofString "is_joint", f_is_joint), (Str.ofString "is_pipe", f_is_pipe), (Str.ofString "is_net", f_is_net), (Str.ofString "need_net", f_need_net), (Str.ofString "is_place", f_is_place), (Str.ofString "is_pump", f_is_pump), (Str.ofString "can_shut", f_can_shut), (Str.ofString "are_rising", f_are_rising), (Str.ofString "are_shut", f_are_shut), (Str.ofString "end_from", f_end_from), (Str.ofString "begins", f_begins), (Str.ofString "fed_by", f_fed_by), (Str.ofString "gates_in", f_gates_in), (Str.ofString "lots_of", f_lots_of), (Str.ofString "fewest_gates", f_fewest_gates), (Str.ofString "ways_from", f_ways_from), (Str.ofString "ways_to", f_ways_to), (Str.ofString "gates_on", f_gates_on), (Str.ofString "apart_ways", f_apart_ways), (Str.ofString "need_place", f_need_place), (Str.ofString "need_cut", f_need_cut), (Str.ofString "cut_by", f_cut_by), (Str.ofString "cut_of", f_cut_of), (Str.ofString "are_gates", f_are_gates), (Str.ofString "led_along", f_led_along), (Str.ofString "is_way", f_is_way), (Str.ofString "is_cut", f_is_cut), (Str.ofString "_law_cell_at", f_law_cell_at), (Str.ofString "_law_next", f_law_next), (Str.ofString "_law_pen_of", f_law_pen_of), (Str.ofString "_law_draw", f_law_draw), (Str.ofString "_law_line", f_law_line), (Str.ofString "_law_line_right", f_law_line_right), (Str.ofString "_law_ring_right", f_law_ring_right), (Str.ofString "_law_side_right", f_law_side_right), (Str.ofString "law", f_law)]
/-! ### the text -/
theorem sc_is_whole : FnScope ["thing"] ["thing"] (defScope (topS 6)) := ⟨rfl, rfl, rfl, by decide +kernel, rfl, by decide +kernel, by decide +kernel⟩
theorem tr_is_whole : trBody ⟨["thing"], defScope (topS 6), defScope (topS 6), [], penTab tab, frTab tab, kwTab tab, true, fun _ _ => none, fun _ => none, clL⟩ false (defBody (topS 6)) = some b_is_whole := by kernel_rfl
theorem sc_is_number : FnScope ["thing", "low", "high"] ["thing", "low", "high"] (defScope (topS 17)) := ⟨rfl, rfl, rfl, by decide +kernel, rfl, by decide +kernel, by decide +kernel⟩
theorem tr_is_number : trBody ⟨["thing", "low", "high"], defScope (topS 17), defScope (topS 17), [], penTab tab, frTab tab, kwTab tab, true, fun _ _ => none, fun _ => none, clL⟩ false (defBody (topS 17)) = some b_is_number := by kernel_rfl
theorem sc_is_place_joint : FnScope ["thing", "word", "height", "least", "most"] ["thing"] (defScope (topS 18)) := ⟨rfl, rfl, rfl, by decide +kernel, rfl, by decide +kernel, by decide +kernel⟩
theorem tr_is_place_joint : trBody ⟨["thing", "word", "height", "least", "most"], defScope (topS 18), defScope (topS 18), [], penTab tab, frTab tab, kwTab tab, true, fun _ _ => none, fun _ => none, clL⟩ false (defBody (topS 18)) = some b_is_place_joint := by kernel_rfl
theorem sc_is_joint : FnScope ["thing", "bounds", "one", "low", "high"] ["thing"] (defScope (topS 19)) := ⟨rfl, rfl, rfl, by decide +kernel, rfl, by decide +kernel, by decide +kernel⟩
theorem tr_is_joint : trBody ⟨["thing", "bounds", "one", "low", "high"], defScope (topS 19), defScope (topS 19), [], penTab tab, frTab tab, kwTab tab, true, fun _ _ => none, fun _ => none, clL⟩ false (defBody (topS 19)) = some b_is_joint := by kernel_rfl
theorem sc_is_pipe : FnScope ["many", "thing", "one", "other", "factor", "way", "lift", "gate", "volume"] ["many", "thing"] (defScope (topS 20)) := ⟨rfl, rfl, rfl, by decide +kernel, rfl, by decide +kernel, by decide +kernel⟩
theorem tr_is_pipe : trBody ⟨["many", "thing", "one", "other", "factor", "way", "lift", "gate", "volume"], defScope (topS 20), defScope (topS 20), [], penTab tab, frTab tab, kwTab tab, true, fun _ _ => none, fun _ => none, clL⟩ false (defBody (topS 20)) = some b_is_pipe := by kernel_rfl
theorem sc_is_net : FnScope ["thing", "one", "joints", "pipes", "joint", "pipe"] ["thing"] (defScope (topS 21)) := ⟨rfl, rfl, rfl, by decide +kernel, rfl, by decide +kernel, by decide +kernel⟩
theorem tr_is_net : trBody ⟨["thing", "one", "joints", "pipes", "joint", "pipe"], defScope (topS 21), defScope (topS 21), [], penTab tab, frTab tab, kwTab tab, true, fun _ _ => none, fun _ => none, clL⟩ false (defBody (topS 21)) = some b_is_net := by kernel_rfl
theorem sc_need_net : FnScope ["thing"] ["thing"] (defScope (topS 22)) := ⟨rfl, rfl, rfl, by decide +kernel, rfl, by decide +kernel, by decide +kernel⟩
theorem tr_need_net : trBody ⟨["thing"], defScope (topS 22), defScope (topS 22), [], penTab tab, frTab tab, kwTab tab, true, fun _ _ => none, fun _ => none, clL⟩ false (defBody (topS 22)) = some b_need_net := by kernel_rfl
theorem sc_is_place : FnScope ["net", "thing"] ["net", "thing"] (defScope (topS 23)) := ⟨rfl, rfl, rfl, by decide +kernel, rfl, by decide +kernel, by decide +kernel⟩
theorem tr_is_place : trBody ⟨["net", "thing"], defScope (topS 23), defScope (topS 23), [], penTab tab, frTab tab, kwTab tab, true, fun _ _ => none, fun _ => none, clL⟩ false (defBody (topS 23)) = some b_is_place := by kernel_rfl
theorem sc_is_pump : FnScope ["net", "pipe"] ["net", "pipe"] (defScope (topS 24)) := ⟨rfl, rfl, rfl, by decide +kernel, rfl, by decide +kernel, by decide +kernel⟩
theorem tr_is_pump : trBody ⟨["net", "pipe"], defScope (topS 24), defScope (topS 24), [], penTab tab, frTab tab, kwTab tab, true, fun _ _ => none, fun _ => none, clL⟩ false (defBody (topS 24)) = some b_is_pump := by kernel_rfl
theorem sc_can_shut : FnScope ["net", "thing"] ["net", "thing"] (defScope (topS 25)) := ⟨rfl, rfl, rfl, by decide +kernel, rfl, by decide +kernel, by decide +kernel⟩
theorem tr_can_shut : trBody ⟨["net", "thing"], defScope (topS 25), defScope (topS 25), [], penTab tab, frTab tab, kwTab tab, true, fun _ _ => none, fun _ => none, clL⟩ false (defBody (topS 25)) = some b_can_shut := by kernel_rfl
theorem sc_are_rising : FnScope ["some", "one", "other"] ["some"] (defScope (topS 26)) := ⟨rfl, rfl, rfl, by decide +kernel, rfl, by decide +kernel, by decide +kernel⟩
theorem tr_are_rising : trBody ⟨["some", "one", "other"], defScope (topS 26), defScope (topS 26), [], penTab tab, frTab tab, kwTab tab, true, fun _ _ => none, fun _ => none, clL⟩ false (defBody (topS 26)) = some b_are_rising := by kernel_rfl
theorem sc_are_shut : FnScope ["net", "thing", "one"] ["net", "thing"] (defScope (topS 27)) := ⟨rfl, rfl, rfl, by decide +kernel, rfl, by decide +kernel, by decide +kernel⟩
theorem tr_are_shut : trBody ⟨["net", "thing", "one"], defScope (topS 27), defScope (topS 27), [], penTab tab, frTab tab, kwTab tab, true, fun _ _ => none, fun _ => none, clL⟩ false (defBody (topS 27)) = some b_are_shut := by kernel_rfl
theorem sc_end_from : FnScope ["pipe", "joint"] ["pipe", "joint"] (defScope (topS 29)) := ⟨rfl, rfl, rfl, by decide +kernel, rfl, by decide +kernel, by decide +kernel⟩
theorem tr_end_from : trBody ⟨["pipe", "joint"], defScope (topS 29), defScope (topS 29), [], penTab tab, frTab tab, kwTab tab, true, fun _ _ => none, fun _ => none, clL⟩ false (defBody (topS 29)) = some b_end_from := by kernel_rfl
theorem sc_begins : FnScope ["net", "joint"] ["net"] (defScope (topS 30)) := ⟨rfl, rfl, rfl, by decide +kernel, rfl, by decide +kernel, by decide +kernel⟩
theorem tr_begins : trBody ⟨["net", "joint"], defScope (topS 30), defScope (topS 30), [], penTab tab, frTab tab, kwTab tab, true, fun _ _ => none, fun _ => none, clL⟩ true (defBody (topS 30)) = some b_begins := by kernel_rfl
theorem sc_fed_by : FnScope ["net", "shut", "found", "line", "joint", "number", "pipe", "to"] ["net", "shut"] (defScope (topS 31)) := ⟨rfl, rfl, rfl, by decide +kernel, rfl, by decide +kernel, by decide +kernel⟩
theorem tr_fed_by : trBody ⟨["net", "shut", "found", "line", "joint", "number", "pipe", "to"], defScope (topS 31), defScope (topS 31), [2, 3, 2, 3], penTab tab, frTab tab, kwTab tab, true, fun _ _ => none, fun _ => none, clL⟩ false (defBody (topS 31)) = some b_fed_by := by kernel_rfl
theorem sc_gates_in : FnScope ["net", "shut", "number", "pipe"] ["net", "shut"] (defScope (topS 32)) := ⟨rfl, rfl, rfl, by decide +kernel, rfl, by decide +kernel, by decide +kernel⟩
theorem tr_gates_in : trBody ⟨["net", "shut", "number", "pipe"], defScope (topS 32), defScope (topS 32), [], penTab tab, frTab tab, kwTab tab, true, fun _ _ => none, fun _ => none, clL⟩ false (defBody (topS 32)) = some b_gates_in := by kernel_rfl
theorem sc_lots_of : FnScope ["things", "many", "found", "at", "one", "lot"] ["things", "many"] (defScope (topS 33)) := ⟨rfl, rfl, rfl, by decide +kernel, rfl, by decide +kernel, by decide +kernel⟩
theorem tr_lots_of : trBody ⟨["things", "many", "found", "at", "one", "lot"], defScope (topS 33), defScope (topS 33), [2], penTab tab, frTab tab, kwTab tab, true, fun _ _ => none, fun _ => none, clL⟩ false (defBody (topS 33)) = some b_lots_of := by kernel_rfl
theorem sc_fewest_gates : FnScope ["net", "place", "shut", "gates", "many", "lot"] ["net", "place", "shut"] (defScope (topS 34)) := ⟨rfl, rfl, rfl, by decide +kernel, rfl, by decide +kernel, by decide +kernel⟩
theorem tr_fewest_gates : trBody ⟨["net", "place", "shut", "gates", "many", "lot"], defScope (topS 34), defScope (topS 34), [], penTab tab, frTab tab, kwTab tab, true, fun _ _ => none, fun _ => none, clL⟩ false (defBody (topS 34)) = some b_fewest_gates := by kernel_rfl
theorem sc_ways_from : FnScope ["net", "shut", "place", "way", "seen", "found", "number", "pipe", "to"] ["net", "shut", "place", "way", "seen"] (defScope (topS 35)) := ⟨rfl, rfl, rfl, by decide +kernel, rfl, by decide +kernel, by decide +kernel⟩
theorem tr_ways_from : trBody ⟨["net", "shut", "place", "way", "seen", "found", "number", "pipe", "to"], defScope (topS 35), defScope (topS 35), [5], penTab tab, frTab tab, kwTab tab, true, fun _ _ => none, fun _ => none, clL⟩ false (defBody (topS 35)) = some b_ways_from := by kernel_rfl
theorem sc_ways_to : FnScope ["net", "shut", "place", "joint", "way"] ["net", "shut", "place"] (defScope (topS 36)) := ⟨rfl, rfl, rfl, by decide +kernel, rfl, by decide +kernel, by decide +kernel⟩
theorem tr_ways_to : trBody ⟨["net", "shut", "place", "joint", "way"], defScope (topS 36), defScope (topS 36), [], penTab tab, frTab tab, kwTab tab, true, fun _ _ => none, fun _ => none, clL⟩ false (defBody (topS 36)) = some b_ways_to := by kernel_rfl
theorem sc_gates_on : FnScope ["net", "way", "number"] ["net", "way"] (defScope (topS 37)) := ⟨rfl, rfl, rfl, by decide +kernel, rfl, by decide +kernel, by decide +kernel⟩
theorem tr_gates_on : trBody ⟨["net", "way", "number"], defScope (topS 37), defScope (topS 37), [], penTab tab, frTab tab, kwTab tab, true, fun _ _ => none, fun _ => none, clL⟩ false (defBody (topS 37)) = some b_gates_on := by kernel_rfl
theorem sc_apart_ways : FnScope ["net", "ways", "many", "at", "way", "gates", "left", "other", "one", "rest"] ["net", "ways", "many"] (defScope (topS 38)) := ⟨rfl, rfl, rfl, by decide +kernel, rfl, by decide +kernel, by decide +kernel⟩
theorem tr_apart_ways : trBody ⟨["net", "ways", "many", "at", "way", "gates", "left", "other", "one", "rest"], defScope (topS 38), defScope (topS 38), [], penTab tab, frTab tab, kwTab tab, true, fun _ _ => none, fun _ => none, clL⟩ false (defBody (topS 38)) = some b_apart_ways := by kernel_rfl
theorem sc_need_place : FnScope ["net", "place"] ["net", "place"] (defScope (topS 39)) := ⟨rfl, rfl, rfl, by decide +kernel, rfl, by decide +kernel, by decide +kernel⟩
theorem tr_need_place : trBody ⟨["net", "place"], defScope (topS 39), defScope (topS 39), [], penTab tab, frTab tab, kwTab tab, true, fun _ _ => none, fun _ => none, clL⟩ false (defBody (topS 39)) = some b_need_place := by kernel_rfl
theorem sc_need_cut : FnScope ["net", "place", "shut"] ["net", "place", "shut"] (defScope (topS 40)) := ⟨rfl, rfl, rfl, by decide +kernel, rfl, by decide +kernel, by decide +kernel⟩
theorem tr_need_cut : trBody ⟨["net", "place", "shut"], defScope (topS 40), defScope (topS 40), [], penTab tab, frTab tab, kwTab tab, true, fun _ _ => none, fun _ => none, clL⟩ false (defBody (topS 40)) = some b_need_cut := by kernel_rfl
theorem sc_cut_by : FnScope ["net", "place", "shut", "gates"] ["net", "place", "shut"] (defScope (topS 41)) := ⟨rfl, rfl, rfl, by decide +kernel, rfl, by decide +kernel, by decide +kernel⟩
theorem tr_cut_by : trBody ⟨["net", "place", "shut", "gates"], defScope (topS 41), defScope (topS 41), [], penTab tab, frTab tab, kwTab tab, true, fun _ _ => none, fun _ => none, clL⟩ false (defBody (topS 41)) = some b_cut_by := by kernel_rfl
theorem sc_cut_of : FnScope ["net", "place", "shut"] ["net", "place", "shut"] (defScope (topS 42)) := ⟨rfl, rfl, rfl, by decide +kernel, rfl, by decide +kernel, by decide +kernel⟩
theorem tr_cut_of : trBody ⟨["net", "place", "shut"], defScope (topS 42), defScope (topS 42), [], penTab tab, frTab tab, kwTab tab, true, fun _ _ => none, fun _ => none, clL⟩ false (defBody (topS 42)) = some b_cut_of := by kernel_rfl
theorem sc_are_gates : FnScope ["net", "shut", "thing", "gates", "one"] ["net", "shut", "thing"] (defScope (topS 43)) := ⟨rfl, rfl, rfl, by decide +kernel, rfl, by decide +kernel, by decide +kernel⟩
theorem tr_are_gates : trBody ⟨["net", "shut", "thing", "gates", "one"], defScope (topS 43), defScope (topS 43), [], penTab tab, frTab tab, kwTab tab, true, fun _ _ => none, fun _ => none, clL⟩ false (defBody (topS 43)) = some b_are_gates := by kernel_rfl
theorem sc_led_along : FnScope ["net", "joint", "way", "number"] ["net", "joint", "way"] (defScope (topS 44)) := ⟨rfl, rfl, rfl, by decide +kernel, rfl, by decide +kernel, by decide +kernel⟩
theorem tr_led_along : trBody ⟨["net", "joint", "way", "number"], defScope (topS 44), defScope (topS 44), [], penTab tab, frTab tab, kwTab tab, true, fun _ _ => none, fun _ => none, clL⟩ false (defBody (topS 44)) = some b_led_along := by kernel_rfl
theorem sc_is_way : FnScope ["net", "place", "shut", "thing", "one", "number", "joint"] ["net", "place", "shut", "thing"] (defScope (topS 45)) := ⟨rfl, rfl, rfl, by decide +kernel, rfl, by decide +kernel, by decide +kernel⟩
theorem tr_is_way : trBody ⟨["net", "place", "shut", "thing", "one", "number", "joint"], defScope (topS 45), defScope (topS 45), [], penTab tab, frTab tab, kwTab tab, true, fun _ _ => none, fun _ => none, clL⟩ false (defBody (topS 45)) = some b_is_way := by kernel_rfl
theorem sc_is_cut : FnScope ["net", "place", "thing", "shut", "gates", "ways", "way", "passed", "number"] ["net", "place", "thing", "shut"] (defScope (topS 46)) := ⟨rfl, rfl, rfl, by decide +kernel, rfl, by decide +kernel, by decide +kernel⟩
theorem tr_is_cut : trBody ⟨["net", "place", "thing", "shut", "gates", "ways", "way", "passed", "number"], defScope (topS 46), defScope (topS 46), [], penTab tab, frTab tab, kwTab tab, true, fun _ _ => none, fun _ => none, clL⟩ false (defBody (topS 46)) = some b_is_cut := by kernel_rfl
theorem sc_law_cell_at : FnScope ["_law_script", "_law_k"] ["_law_script", "_law_k"] (defScope (topS 48)) := ⟨rfl, rfl, rfl, by decide +kernel, rfl, by decide +kernel, by decide +kernel⟩
theorem tr_law_cell_at : trBody ⟨["_law_script", "_law_k"], defScope (topS 48), defScope (topS 48), [], penTab tab, frTab tab, kwTab tab, true, fun _ _ => none, fun _ => none, clL⟩ false (defBody (topS 48)) = some b_law_cell_at := by kernel_rfl
theorem sc_law_next : FnScope ["_law_root"] ["_law_root"] (defScope (topS 49)) := ⟨rfl, rfl, rfl, by decide +kernel, rfl, by decide +kernel, by decide +kernel⟩
theorem tr_law_next : trBody ⟨["_law_root"], defScope (topS 49), defScope (topS 49), [], penTab tab, frTab tab, kwTab tab, true, fun _ _ => none, fun _ => none, clL⟩ false (defBody (topS 49)) = some b_law_next := by kernel_rfl
theorem sc_law_pen_of : FnScope ["_law_cell", "_law_left"] ["_law_cell"] (defScope (topS 50)) := ⟨rfl, rfl, rfl, by decide +kernel, rfl, by decide +kernel, by decide +kernel⟩
theorem tr_law_pen_of : trBody ⟨["_law_cell", "_law_left"], defScope (topS 50), defScope (topS 50), [], penTab tab, frTab tab, kwTab tab, true, fun _ _ => none, fun _ => none, clL⟩ true (defBody (topS 50)) = some b_law_pen_of := by kernel_rfl
theorem sc_law_draw : FnScope ["_law_pen", "_law_many", "_law_found"] ["_law_pen", "_law_many"] (defScope (topS 51)) := ⟨rfl, rfl, rfl, by decide +kernel, rfl, by decide +kernel, by decide +kernel⟩
theorem tr_law_draw : trBody ⟨["_law_pen", "_law_many", "_law_found"], defScope (topS 51), defScope (topS 51), [0], penTab tab, frTab tab, kwTab tab, true, fun _ _ => none, fun _ => none, clL⟩ false (defBody (topS 51)) = some b_law_draw := by kernel_rfl
theorem sc_law_line : FnScope ["_law_gates", "_law_joints", "_law_at", "_law_gate"] ["_law_gates"] (defScope (topS 52)) := ⟨rfl, rfl, rfl, by decide +kernel, rfl, by decide +kernel, by decide +kernel⟩
theorem tr_law_line : trBody ⟨["_law_gates", "_law_joints", "_law_at", "_law_gate"], defScope (topS 52), defScope (topS 52), [], penTab tab, frTab tab, kwTab tab, true, fun _ _ => none, fun _ => none, clL⟩ false (defBody (topS 52)) = some b_law_line := by kernel_rfl
theorem sc_law_line_right : FnScope ["_law_pen", "_law_many", "_law_bare", "_law_net", "_law_at", "_law_place", "_law_first", "_law_due", "_law_told"] ["_law_pen"] (defScope (topS 53)) := ⟨rfl, rfl, rfl, by decide +kernel, rfl, by decide +kernel, by decide +kernel⟩
theorem tr_law_line_right : trBody ⟨["_law_pen", "_law_many", "_law_bare", "_law_net", "_law_at", "_law_place", "_law_first", "_law_due", "_law_told"], defScope (topS 53), defScope (topS 53), [0], penTab tab, frTab tab, kwTab tab, true, fun _ _ => none, fun _ => none, clL⟩ false (defBody (topS 53)) = some b_law_line_right := by kernel_rfl
theorem sc_law_ring_right : FnScope ["_law_pen", "_law_many", "_law_joints", "_law_pipes", "_law_at", "_law_place", "_law_gates", "_law_ways", "_law_there", "_law_about"] ["_law_pen"] (defScope (topS 54)) := ⟨rfl, rfl, rfl, by decide +kernel, rfl, by decide +kernel, by decide +kernel⟩
theorem tr_law_ring_right : trBody ⟨["_law_pen", "_law_many", "_law_joints", "_law_pipes", "_law_at", "_law_place", "_law_gates", "_law_ways", "_law_there", "_law_about"], defScope (topS 54), defScope (topS 54), [0], penTab tab, frTab tab, kwTab tab, true, fun _ _ => none, fun _ => none, clL⟩ false (defBody (topS 54)) = some b_law_ring_right := by kernel_rfl
theorem sc_law_side_right : FnScope ["_law_pen", "_law_many", "_law_sides", "_law_at", "_law_joints", "_law_gates", "_law_ways", "_law_pump"] ["_law_pen"] (defScope (topS 55)) := ⟨rfl, rfl, rfl, by decide +kernel, rfl, by decide +kernel, by decide +kernel⟩
theorem tr_law_side_right : trBody ⟨["_law_pen", "_law_many", "_law_sides", "_law_at", "_law_joints", "_law_gates", "_law_ways", "_law_pump"], defScope (topS 55), defScope (topS 55), [0], penTab tab, frTab tab, kwTab tab, true, fun _ _ => none, fun _ => none, clL⟩ false (defBody (topS 55)) = some b_law_side_right := by kernel_rfl
theorem sc_law : FnScope ["_law_script", "_law_lone", "_law_back", "_law_two", "_law_more", "_law_cell", "_law_pen"] ["_law_script"] (defScope (topS 56)) := ⟨rfl, rfl, rfl, by decide +kernel, rfl, by decide +kernel, by decide +kernel⟩
theorem tr_law : trBody ⟨["_law_script", "_law_lone", "_law_back", "_law_two", "_law_more", "_law_cell", "_law_pen"], defScope (topS 56), defScope (topS 56), [6], penTab tab, frTab tab, kwTab tab, true, fun _ _ => none, fun _ => none, clL⟩ false (defBody (topS 56)) = some b_law := by kernel_rfl
theorem ex_SI : ∃ X, X = semI glob FU tab := ⟨_, rfl⟩
noncomputable def SI := Classical.choose ex_SI
theorem SI_eq : SI = semI glob FU tab := Classical.choose_spec ex_SI
noncomputable def CI (k : Nat) := (SI k).1
noncomputable def XI (k : Nat) := (SI k).2
theorem CI_eq : CI = callI glob FU tab := by funext k; unfold CI callI; rw [SI_eq]
theorem u_law_cell_at (k : Nat) (p : Option (List PyData)) (xs : List PyData) : CI (k + 1) "_law_cell_at" p xs = runF ⟨CI k, glob, FU, XI k⟩ f_law_cell_at p xs := by unfold CI XI; rw [SI_eq]; kernel_rfl
theorem u_law_next (k : Nat) (p : Option (List PyData)) (xs : List PyData) : CI (k + 1) "_law_next" p xs = runF ⟨CI k, glob, FU, XI k⟩ f_law_next p xs := by unfold CI XI; rw [SI_eq]; kernel_rfl
theorem u_law_pen_of (k : Nat) (p : Option (List PyData)) (xs : List PyData) : CI (k + 1) "_law_pen_of" p xs = runF ⟨CI k, glob, FU, XI k⟩ f_law_pen_of p xs := by unfold CI XI; rw [SI_eq]; kernel_rfl
theorem u_law_draw (k : Nat) (p : Option (List PyData)) (xs : List PyData) : CI (k + 1) "_law_draw" p xs = runF ⟨CI k, glob, FU, XI k⟩ f_law_draw p xs := by unfold CI XI; rw [SI_eq]; kernel_rfl
theorem u_law_line_right (k : Nat) (p : Option (List PyData)) (xs : List PyData) : CI (k + 1) "_law_line_right" p xs = runF ⟨CI k, glob, FU, XI k⟩ f_law_line_right p xs := by unfold CI XI; rw [SI_eq]; kernel_rfl
theorem u_law_ring_right (k : Nat) (p : Option (List PyData)) (xs : List PyData) : CI (k + 1) "_law_ring_right" p xs = runF ⟨CI k, glob, FU, XI k⟩ f_law_ring_right p xs := by unfold CI XI; rw [SI_eq]; kernel_rfl
theorem u_law_side_right (k : Nat) (p : Option (List PyData)) (xs : List PyData) : CI (k + 1) "_law_side_right" p xs = runF ⟨CI k, glob, FU, XI k⟩ f_law_side_right p xs := by unfold CI XI; rw [SI_eq]; kernel_rfl
theorem u_law (k : Nat) (p : Option (List PyData)) (xs : List PyData) : CI (k + 1) "law" p xs = runF ⟨CI k, glob, FU, XI k⟩ f_law p xs := by unfold CI XI; rw [SI_eq]; kernel_rfl
/-! ### what the head gives -/
instance tblI : Tbl := ⟨[], 0⟩
def csL : List (Addr × Addr) := []
section
theorem all_mk {K : PySem.W.Frag} {w : World} {h : Heap} {mg : Str → Option Value} (X : K.In h) (G : h.Ns mainGlobals mg)
    {fa0 : Addr} {od0 an0 : Option Addr} {sl0 : Array (Option Value)} {oc0 kV0 dc0 pm0 cd0 ct0 : Value}
    {fa1 : Addr} {od1 an1 : Option Addr} {sl1 : Array (Option Value)} {oc1 kV1 dc1 pm1 cd1 ct1 : Value}
    {fa2 : Addr} {od2 an2 : Option Addr} {sl2 : Array (Option Value)} {oc2 kV2 dc2 pm2 cd2 ct2 : Value}
    {fa3 : Addr} {od3 an3 : Option Addr} {sl3 : Array (Option Value)} {oc3 kV3 dc3 pm3 cd3 ct3 : Value}
    {fa4 : Addr} {od4 an4 : Option Addr} {sl4 : Array (Option Value)} {oc4 kV4 dc4 pm4 cd4 ct4 : Value}
    {fa5 : Addr} {od5 an5 : Option Addr} {sl5 : Array (Option Value)} {oc5 kV5 dc5 pm5 cd5 ct5 : Value}
    {fa6 : Addr} {od6 an6 : Option Addr} {sl6 : Array (Option Value)} {oc6 kV6 dc6 pm6 cd6 ct6 : Value}
    {fa7 : Addr} {od7 an7 : Option Addr} {sl7 : Array (Option Value)} {oc7 kV7 dc7 pm7 cd7 ct7 : Value}
    {fa8 : Addr} {od8 an8 : Option Addr} {sl8 : Array (Option Value)} {oc8 kV8 dc8 pm8 cd8 ct8 : Value}
    {fa9 : Addr} {od9 an9 : Option Addr} {sl9 : Array (Option Value)} {oc9 kV9 dc9 pm9 cd9 ct9 : Value}
    {fa10 : Addr} {od10 an10 : Option Addr} {sl10 : Array (Option Value)} {oc10 kV10 dc10 pm10 cd10 ct10 : Value}
    {fa11 : Addr} {od11 an11 : Option Addr} {sl11 : Array (Option Value)} {oc11 kV11 dc11 pm11 cd11 ct11 : Value}
    {fa12 : Addr} {od12 an12 : Option Addr} {sl12 : Array (Option Value)} {oc12 kV12 dc12 pm12 cd12 ct12 : Value}
    {fa13 : Addr} {od13 an13 : Option Addr} {sl13 : Array (Option Value)} {oc13 kV13 dc13 pm13 cd13 ct13 : Value}
    {fa14 : Addr} {od14 an14 : Option Addr} {sl14 : Array (Option Value)} {oc14 kV14 dc14 pm14 cd14 ct14 : Value}
    {fa15 : Addr} {od15 an15 : Option Addr} {sl15 : Array (Option Value)} {oc15 kV15 dc15 pm15 cd15 ct15 : Value}
    {fa16 : Addr} {od16 an16 : Option Addr} {sl16 : Array (Option Value)} {oc16 kV16 dc16 pm16 cd16 ct16 : Value}
    {fa17 : Addr} {od17 an17 : Option Addr} {sl17 : Array (Option Value)} {oc17 kV17 dc17 pm17 cd17 ct17 : Value}
    {fa18 : Addr} {od18 an18 : Option Addr} {sl18 : Array (Option Value)} {oc18 kV18 dc18 pm18 cd18 ct18 : Value}
    {fa19 : Addr} {od19 an19 : Option Addr} {sl19 : Array (Option Value)} {oc19 kV19 dc19 pm19 cd19 ct19 : Value}
    {fa20 : Addr} {od20 an20 : Option Addr} {sl20 : Array (Option Value)} {oc20 kV20 dc20 pm20 cd20 ct20 : Value}
    {fa21 : Addr} {od21 an21 : Option Addr} {sl21 : Array (Option Value)} {oc21 kV21 dc21 pm21 cd21 ct21 : Value}
    {fa22 : Addr} {od22 an22 : Option Addr} {sl22 : Array (Option Value)} {oc22 kV22 dc22 pm22 cd22 ct22 : Value}
    {fa23 : Addr} {od23 an23 : Option Addr} {sl23 : Array (Option Value)} {oc23 kV23 dc23 pm23 cd23 ct23 : Value}
    {fa24 : Addr} {od24 an24 : Option Addr} {sl24 : Array (Option Value)} {oc24 kV24 dc24 pm24 cd24 ct24 : Value}
    {fa25 : Addr} {od25 an25 : Option Addr} {sl25 : Array (Option Value)} {oc25 kV25 dc25 pm25 cd25 ct25 : Value}
    {fa26 : Addr} {od26 an26 : Option Addr} {sl26 : Array (Option Value)} {oc26 kV26 dc26 pm26 cd26 ct26 : Value}
    {fa27 : Addr} {od27 an27 : Option Addr} {sl27 : Array (Option Value)} {oc27 kV27 dc27 pm27 cd27 ct27 : Value}
    {fa28 : Addr} {od28 an28 : Option Addr} {sl28 : Array (Option Value)} {oc28 kV28 dc28 pm28 cd28 ct28 : Value}
    {fa29 : Addr} {od29 an29 : Option Addr} {sl29 : Array (Option Value)} {oc29 kV29 dc29 pm29 cd29 ct29 : Value}
    {fa30 : Addr} {od30 an30 : Option Addr} {sl30 : Array (Option Value)} {oc30 kV30 dc30 pm30 cd30 ct30 : Value}
    {fa31 : Addr} {od31 an31 : Option Addr} {sl31 : Array (Option Value)} {oc31 kV31 dc31 pm31 cd31 ct31 : Value}
    {fa32 : Addr} {od32 an32 : Option Addr} {sl32 : Array (Option Value)} {oc32 kV32 dc32 pm32 cd32 ct32 : Value}
    {fa33 : Addr} {od33 an33 : Option Addr} {sl33 : Array (Option Value)} {oc33 kV33 dc33 pm33 cd33 ct33 : Value}
    {fa34 : Addr} {od34 an34 : Option Addr} {sl34 : Array (Option Value)} {oc34 kV34 dc34 pm34 cd34 ct34 : Value}
    {fa35 : Addr} {od35 an35 : Option Addr} {sl35 : Array (Option Value)} {oc35 kV35 dc35 pm35 cd35 ct35 : Value}
    {fa36 : Addr} {od36 an36 : Option Addr} {sl36 : Array (Option Value)} {oc36 kV36 dc36 pm36 cd36 ct36 : Value}
    {fa37 : Addr} {od37 an37 : Option Addr} {sl37 : Array (Option Value)} {oc37 kV37 dc37 pm37 cd37 ct37 : Value}
    {fa38 : Addr} {od38 an38 : Option Addr} {sl38 : Array (Option Value)} {oc38 kV38 dc38 pm38 cd38 ct38 : Value}
    (q9_cut_of : kwdB K "cut_of" "shut" = true)
    (q9_is_cut : kwdB K "is_cut" "shut" = true)
    (a0 : PySem.W.nsIn K mainGlobals "is_whole" = some (some (.ref fa0))) (l0 : K.lookup fa0 = some ⟨oc0, od0, .func (PySem.W.fnOf "is_whole" "is_whole" (defArgs (topS 6)) (defBody (topS 6)) (defScope (topS 6)) .none kV0 dc0 pm0 an0 cd0 ct0), sl0⟩) (c0 : PySem.W.codeIn K cd0 "is_whole" = true) (k0 : PySem.W.keepIn K (.ref fa0) = true)
    (a1 : PySem.W.nsIn K mainGlobals "is_number" = some (some (.ref fa1))) (l1 : K.lookup fa1 = some ⟨oc1, od1, .func (PySem.W.fnOf "is_number" "is_number" (defArgs (topS 17)) (defBody (topS 17)) (defScope (topS 17)) .none kV1 dc1 pm1 an1 cd1 ct1), sl1⟩) (c1 : PySem.W.codeIn K cd1 "is_number" = true) (k1 : PySem.W.keepIn K (.ref fa1) = true)
    (a2 : PySem.W.nsIn K mainGlobals "is_place_joint" = some (some (.ref fa2))) (l2 : K.lookup fa2 = some ⟨oc2, od2, .func (PySem.W.fnOf "is_place_joint" "is_place_joint" (defArgs (topS 18)) (defBody (topS 18)) (defScope (topS 18)) .none kV2 dc2 pm2 an2 cd2 ct2), sl2⟩) (c2 : PySem.W.codeIn K cd2 "is_place_joint" = true) (k2 : PySem.W.keepIn K (.ref fa2) = true)
    (a3 : PySem.W.nsIn K mainGlobals "is_joint" = some (some (.ref fa3))) (l3 : K.lookup fa3 = some ⟨oc3, od3, .func (PySem.W.fnOf "is_joint" "is_joint" (defArgs (topS 19)) (defBody (topS 19)) (defScope (topS 19)) .none kV3 dc3 pm3 an3 cd3 ct3), sl3⟩) (c3 : PySem.W.codeIn K cd3 "is_joint" = true) (k3 : PySem.W.keepIn K (.ref fa3) = true)
    (a4 : PySem.W.nsIn K mainGlobals "is_pipe" = some (some (.ref fa4))) (l4 : K.lookup fa4 = some ⟨oc4, od4, .func (PySem.W.fnOf "is_pipe" "is_pipe" (defArgs (topS 20)) (defBody (topS 20)) (defScope (topS 20)) .none kV4 dc4 pm4 an4 cd4 ct4), sl4⟩) (c4 : PySem.W.codeIn K cd4 "is_pipe" = true) (k4 : PySem.W.keepIn K (.ref fa4) = true)
    (a5 : PySem.W.nsIn K mainGlobals "is_net" = some (some (.ref fa5))) (l5 : K.lookup fa5 = some ⟨oc5, od5, .func (PySem.W.fnOf "is_net" "is_net" (defArgs (topS 21)) (defBody (topS 21)) (defScope (topS 21)) .none kV5 dc5 pm5 an5 cd5 ct5), sl5⟩) (c5 : PySem.W.codeIn K cd5 "is_net" = true) (k5 : PySem.W.keepIn K (.ref fa5) = true)
    (a6 : PySem.W.nsIn K mainGlobals "need_net" = some (some (.ref fa6))) (l6 : K.lookup fa6 = some ⟨oc6, od6, .func (PySem.W.fnOf "need_net" "need_net" (defArgs (topS 22)) (defBody (topS 22)) (defScope (topS 22)) .none kV6 dc6 pm6 an6 cd6 ct6), sl6⟩) (c6 : PySem.W.codeIn K cd6 "need_net" = true) (k6 : PySem.W.keepIn K (.ref fa6) = true)
    (a7 : PySem.W.nsIn K mainGlobals "is_place" = some (some (.ref fa7))) (l7 : K.lookup fa7 = some ⟨oc7, od7, .func (PySem.W.fnOf "is_place" "is_place" (defArgs (topS 23)) (defBody (topS 23)) (defScope (topS 23)) .none kV7 dc7 pm7 an7 cd7 ct7), sl7⟩) (c7 : PySem.W.codeIn K cd7 "is_place" = true) (k7 : PySem.W.keepIn K (.ref fa7) = true)
    (a8 : PySem.W.nsIn K mainGlobals "is_pump" = some (some (.ref fa8))) (l8 : K.lookup fa8 = some ⟨oc8, od8, .func (PySem.W.fnOf "is_pump" "is_pump" (defArgs (topS 24)) (defBody (topS 24)) (defScope (topS 24)) .none kV8 dc8 pm8 an8 cd8 ct8), sl8⟩) (c8 : PySem.W.codeIn K cd8 "is_pump" = true) (k8 : PySem.W.keepIn K (.ref fa8) = true)
    (a9 : PySem.W.nsIn K mainGlobals "can_shut" = some (some (.ref fa9))) (l9 : K.lookup fa9 = some ⟨oc9, od9, .func (PySem.W.fnOf "can_shut" "can_shut" (defArgs (topS 25)) (defBody (topS 25)) (defScope (topS 25)) .none kV9 dc9 pm9 an9 cd9 ct9), sl9⟩) (c9 : PySem.W.codeIn K cd9 "can_shut" = true) (k9 : PySem.W.keepIn K (.ref fa9) = true)
    (a10 : PySem.W.nsIn K mainGlobals "are_rising" = some (some (.ref fa10))) (l10 : K.lookup fa10 = some ⟨oc10, od10, .func (PySem.W.fnOf "are_rising" "are_rising" (defArgs (topS 26)) (defBody (topS 26)) (defScope (topS 26)) .none kV10 dc10 pm10 an10 cd10 ct10), sl10⟩) (c10 : PySem.W.codeIn K cd10 "are_rising" = true) (k10 : PySem.W.keepIn K (.ref fa10) = true)
    (a11 : PySem.W.nsIn K mainGlobals "are_shut" = some (some (.ref fa11))) (l11 : K.lookup fa11 = some ⟨oc11, od11, .func (PySem.W.fnOf "are_shut" "are_shut" (defArgs (topS 27)) (defBody (topS 27)) (defScope (topS 27)) .none kV11 dc11 pm11 an11 cd11 ct11), sl11⟩) (c11 : PySem.W.codeIn K cd11 "are_shut" = true) (k11 : PySem.W.keepIn K (.ref fa11) = true)
    (a12 : PySem.W.nsIn K mainGlobals "end_from" = some (some (.ref fa12))) (l12 : K.lookup fa12 = some ⟨oc12, od12, .func (PySem.W.fnOf "end_from" "end_from" (defArgs (topS 29)) (defBody (topS 29)) (defScope (topS 29)) .none kV12 dc12 pm12 an12 cd12 ct12), sl12⟩) (c12 : PySem.W.codeIn K cd12 "end_from" = true) (k12 : PySem.W.keepIn K (.ref fa12) = true)
    (a13 : PySem.W.nsIn K mainGlobals "begins" = some (some (.ref fa13))) (l13 : K.lookup fa13 = some ⟨oc13, od13, .func (PySem.W.fnOf "begins" "begins" (defArgs (topS 30)) (defBody (topS 30)) (defScope (topS 30)) .none kV13 dc13 pm13 an13 cd13 ct13), sl13⟩) (c13 : PySem.W.codeIn K cd13 "begins" = true) (k13 : PySem.W.keepIn K (.ref fa13) = true)
    (a14 : PySem.W.nsIn K mainGlobals "fed_by" = some (some (.ref fa14))) (l14 : K.lookup fa14 = some ⟨oc14, od14, .func (PySem.W.fnOf "fed_by" "fed_by" (defArgs (topS 31)) (defBody (topS 31)) (defScope (topS 31)) .none kV14 dc14 pm14 an14 cd14 ct14), sl14⟩) (c14 : PySem.W.codeIn K cd14 "fed_by" = true) (k14 : PySem.W.keepIn K (.ref fa14) = true)
    (a15 : PySem.W.nsIn K mainGlobals "gates_in" = some (some (.ref fa15))) (l15 : K.lookup fa15 = some ⟨oc15, od15, .func (PySem.W.fnOf "gates_in" "gates_in" (defArgs (topS 32)) (defBody (topS 32)) (defScope (topS 32)) .none kV15 dc15 pm15 an15 cd15 ct15), sl15⟩) (c15 : PySem.W.codeIn K cd15 "gates_in" = true) (k15 : PySem.W.keepIn K (.ref fa15) = true)
    (a16 : PySem.W.nsIn K mainGlobals "lots_of" = some (some (.ref fa16))) (l16 : K.lookup fa16 = some ⟨oc16, od16, .func (PySem.W.fnOf "lots_of" "lots_of" (defArgs (topS 33)) (defBody (topS 33)) (defScope (topS 33)) .none kV16 dc16 pm16 an16 cd16 ct16), sl16⟩) (c16 : PySem.W.codeIn K cd16 "lots_of" = true) (k16 : PySem.W.keepIn K (.ref fa16) = true)
    (a17 : PySem.W.nsIn K mainGlobals "fewest_gates" = some (some (.ref fa17))) (l17 : K.lookup fa17 = some ⟨oc17, od17, .func (PySem.W.fnOf "fewest_gates" "fewest_gates" (defArgs (topS 34)) (defBody (topS 34)) (defScope (topS 34)) .none kV17 dc17 pm17 an17 cd17 ct17), sl17⟩) (c17 : PySem.W.codeIn K cd17 "fewest_gates" = true) (k17 : PySem.W.keepIn K (.ref fa17) = true)
    (a18 : PySem.W.nsIn K mainGlobals "ways_from" = some (some (.ref fa18))) (l18 : K.lookup fa18 = some ⟨oc18, od18, .func (PySem.W.fnOf "ways_from" "ways_from" (defArgs (topS 35)) (defBody (topS 35)) (defScope (topS 35)) .none kV18 dc18 pm18 an18 cd18 ct18), sl18⟩) (c18 : PySem.W.codeIn K cd18 "ways_from" = true) (k18 : PySem.W.keepIn K (.ref fa18) = true)
    (a19 : PySem.W.nsIn K mainGlobals "ways_to" = some (some (.ref fa19))) (l19 : K.lookup fa19 = some ⟨oc19, od19, .func (PySem.W.fnOf "ways_to" "ways_to" (defArgs (topS 36)) (defBody (topS 36)) (defScope (topS 36)) .none kV19 dc19 pm19 an19 cd19 ct19), sl19⟩) (c19 : PySem.W.codeIn K cd19 "ways_to" = true) (k19 : PySem.W.keepIn K (.ref fa19) = true)
    (a20 : PySem.W.nsIn K mainGlobals "gates_on" = some (some (.ref fa20))) (l20 : K.lookup fa20 = some ⟨oc20, od20, .func (PySem.W.fnOf "gates_on" "gates_on" (defArgs (topS 37)) (defBody (topS 37)) (defScope (topS 37)) .none kV20 dc20 pm20 an20 cd20 ct20), sl20⟩) (c20 : PySem.W.codeIn K cd20 "gates_on" = true) (k20 : PySem.W.keepIn K (.ref fa20) = true)
    (a21 : PySem.W.nsIn K mainGlobals "apart_ways" = some (some (.ref fa21))) (l21 : K.lookup fa21 = some ⟨oc21, od21, .func (PySem.W.fnOf "apart_ways" "apart_ways" (defArgs (topS 38)) (defBody (topS 38)) (defScope (topS 38)) .none kV21 dc21 pm21 an21 cd21 ct21), sl21⟩) (c21 : PySem.W.codeIn K cd21 "apart_ways" = true) (k21 : PySem.W.keepIn K (.ref fa21) = true)
    (a22 : PySem.W.nsIn K mainGlobals "need_place" = some (some (.ref fa22))) (l22 : K.lookup fa22 = some ⟨oc22, od22, .func (PySem.W.fnOf "need_place" "need_place" (defArgs (topS 39)) (defBody (topS 39)) (defScope (topS 39)) .none kV22 dc22 pm22 an22 cd22 ct22), sl22⟩) (c22 : PySem.W.codeIn K cd22 "need_place" = true) (k22 : PySem.W.keepIn K (.ref fa22) = true)
    (a23 : PySem.W.nsIn K mainGlobals "need_cut" = some (some (.ref fa23))) (l23 : K.lookup fa23 = some ⟨oc23, od23, .func (PySem.W.fnOf "need_cut" "need_cut" (defArgs (topS 40)) (defBody (topS 40)) (defScope (topS 40)) .none kV23 dc23 pm23 an23 cd23 ct23), sl23⟩) (c23 : PySem.W.codeIn K cd23 "need_cut" = true) (k23 : PySem.W.keepIn K (.ref fa23) = true)
    (a24 : PySem.W.nsIn K mainGlobals "cut_by" = some (some (.ref fa24))) (l24 : K.lookup fa24 = some ⟨oc24, od24, .func (PySem.W.fnOf "cut_by" "cut_by" (defArgs (topS 41)) (defBody (topS 41)) (defScope (topS 41)) .none kV24 dc24 pm24 an24 cd24 ct24), sl24⟩) (c24 : PySem.W.codeIn K cd24 "cut_by" = true) (k24 : PySem.W.keepIn K (.ref fa24) = true)
    (a25 : PySem.W.nsIn K mainGlobals "cut_of" = some (some (.ref fa25))) (l25 : K.lookup fa25 = some ⟨oc25, od25, .func (PySem.W.fnOf "cut_of" "cut_of" (defArgs (topS 42)) (defBody (topS 42)) (defScope (topS 42)) .none kV25 dc25 pm25 an25 cd25 ct25), sl25⟩) (c25 : PySem.W.codeIn K cd25 "cut_of" = true) (k25 : PySem.W.keepIn K (.ref fa25) = true)
    (a26 : PySem.W.nsIn K mainGlobals "are_gates" = some (some (.ref fa26))) (l26 : K.lookup fa26 = some ⟨oc26, od26, .func (PySem.W.fnOf "are_gates" "are_gates" (defArgs (topS 43)) (defBody (topS 43)) (defScope (topS 43)) .none kV26 dc26 pm26 an26 cd26 ct26), sl26⟩) (c26 : PySem.W.codeIn K cd26 "are_gates" = true) (k26 : PySem.W.keepIn K (.ref fa26) = true)
    (a27 : PySem.W.nsIn K mainGlobals "led_along" = some (some (.ref fa27))) (l27 : K.lookup fa27 = some ⟨oc27, od27, .func (PySem.W.fnOf "led_along" "led_along" (defArgs (topS 44)) (defBody (topS 44)) (defScope (topS 44)) .none kV27 dc27 pm27 an27 cd27 ct27), sl27⟩) (c27 : PySem.W.codeIn K cd27 "led_along" = true) (k27 : PySem.W.keepIn K (.ref fa27) = true)
    (a28 : PySem.W.nsIn K mainGlobals "is_way" = some (some (.ref fa28))) (l28 : K.lookup fa28 = some ⟨oc28, od28, .func (PySem.W.fnOf "is_way" "is_way" (defArgs (topS 45)) (defBody (topS 45)) (defScope (topS 45)) .none kV28 dc28 pm28 an28 cd28 ct28), sl28⟩) (c28 : PySem.W.codeIn K cd28 "is_way" = true) (k28 : PySem.W.keepIn K (.ref fa28) = true)
    (a29 : PySem.W.nsIn K mainGlobals "is_cut" = some (some (.ref fa29))) (l29 : K.lookup fa29 = some ⟨oc29, od29, .func (PySem.W.fnOf "is_cut" "is_cut" (defArgs (topS 46)) (defBody (topS 46)) (defScope (topS 46)) .none kV29 dc29 pm29 an29 cd29 ct29), sl29⟩) (c29 : PySem.W.codeIn K cd29 "is_cut" = true) (k29 : PySem.W.keepIn K (.ref fa29) = true)
    (a30 : PySem.W.nsIn K mainGlobals "_law_cell_at" = some (some (.ref fa30))) (l30 : K.lookup fa30 = some ⟨oc30, od30, .func (PySem.W.fnOf "_law_cell_at" "_law_cell_at" (defArgs (topS 48)) (defBody (topS 48)) (defScope (topS 48)) .none kV30 dc30 pm30 an30 cd30 ct30), sl30⟩) (c30 : PySem.W.codeIn K cd30 "_law_cell_at" = true) (k30 : PySem.W.keepIn K (.ref fa30) = true)
    (a31 : PySem.W.nsIn K mainGlobals "_law_next" = some (some (.ref fa31))) (l31 : K.lookup fa31 = some ⟨oc31, od31, .func (PySem.W.fnOf "_law_next" "_law_next" (defArgs (topS 49)) (defBody (topS 49)) (defScope (topS 49)) .none kV31 dc31 pm31 an31 cd31 ct31), sl31⟩) (c31 : PySem.W.codeIn K cd31 "_law_next" = true) (k31 : PySem.W.keepIn K (.ref fa31) = true)
    (a32 : PySem.W.nsIn K mainGlobals "_law_pen_of" = some (some (.ref fa32))) (l32 : K.lookup fa32 = some ⟨oc32, od32, .func (PySem.W.fnOf "_law_pen_of" "_law_pen_of" (defArgs (topS 50)) (defBody (topS 50)) (defScope (topS 50)) .none kV32 dc32 pm32 an32 cd32 ct32), sl32⟩) (c32 : PySem.W.codeIn K cd32 "_law_pen_of" = true) (k32 : PySem.W.keepIn K (.ref fa32) = true)
    (a33 : PySem.W.nsIn K mainGlobals "_law_draw" = some (some (.ref fa33))) (l33 : K.lookup fa33 = some ⟨oc33, od33, .func (PySem.W.fnOf "_law_draw" "_law_draw" (defArgs (topS 51)) (defBody (topS 51)) (defScope (topS 51)) .none kV33 dc33 pm33 an33 cd33 ct33), sl33⟩) (c33 : PySem.W.codeIn K cd33 "_law_draw" = true) (k33 : PySem.W.keepIn K (.ref fa33) = true)
    (a34 : PySem.W.nsIn K mainGlobals "_law_line" = some (some (.ref fa34))) (l34 : K.lookup fa34 = some ⟨oc34, od34, .func (PySem.W.fnOf "_law_line" "_law_line" (defArgs (topS 52)) (defBody (topS 52)) (defScope (topS 52)) .none kV34 dc34 pm34 an34 cd34 ct34), sl34⟩) (c34 : PySem.W.codeIn K cd34 "_law_line" = true) (k34 : PySem.W.keepIn K (.ref fa34) = true)
    (a35 : PySem.W.nsIn K mainGlobals "_law_line_right" = some (some (.ref fa35))) (l35 : K.lookup fa35 = some ⟨oc35, od35, .func (PySem.W.fnOf "_law_line_right" "_law_line_right" (defArgs (topS 53)) (defBody (topS 53)) (defScope (topS 53)) .none kV35 dc35 pm35 an35 cd35 ct35), sl35⟩) (c35 : PySem.W.codeIn K cd35 "_law_line_right" = true) (k35 : PySem.W.keepIn K (.ref fa35) = true)
    (a36 : PySem.W.nsIn K mainGlobals "_law_ring_right" = some (some (.ref fa36))) (l36 : K.lookup fa36 = some ⟨oc36, od36, .func (PySem.W.fnOf "_law_ring_right" "_law_ring_right" (defArgs (topS 54)) (defBody (topS 54)) (defScope (topS 54)) .none kV36 dc36 pm36 an36 cd36 ct36), sl36⟩) (c36 : PySem.W.codeIn K cd36 "_law_ring_right" = true) (k36 : PySem.W.keepIn K (.ref fa36) = true)
    (a37 : PySem.W.nsIn K mainGlobals "_law_side_right" = some (some (.ref fa37))) (l37 : K.lookup fa37 = some ⟨oc37, od37, .func (PySem.W.fnOf "_law_side_right" "_law_side_right" (defArgs (topS 55)) (defBody (topS 55)) (defScope (topS 55)) .none kV37 dc37 pm37 an37 cd37 ct37), sl37⟩) (c37 : PySem.W.codeIn K cd37 "_law_side_right" = true) (k37 : PySem.W.keepIn K (.ref fa37) = true)
    (a38 : PySem.W.nsIn K mainGlobals "law" = some (some (.ref fa38))) (l38 : K.lookup fa38 = some ⟨oc38, od38, .func (PySem.W.fnOf "law" "law" (defArgs (topS 56)) (defBody (topS 56)) (defScope (topS 56)) .none kV38 dc38 pm38 an38 cd38 ct38), sl38⟩) (c38 : PySem.W.codeIn K cd38 "law" = true) (k38 : PySem.W.keepIn K (.ref fa38) = true)
    {D_NoNet : Addr} (xa_NoNet : PySem.W.nsIn K mainGlobals "NoNet" = some (some (.ref D_NoNet))) (xb_NoNet : excB K D_NoNet D_NoNet [] = true)
    {D_NoPlace : Addr} (xa_NoPlace : PySem.W.nsIn K mainGlobals "NoPlace" = some (some (.ref D_NoPlace))) (xb_NoPlace : excB K D_NoPlace D_NoPlace [] = true)
    {D_NoShut : Addr} (xa_NoShut : PySem.W.nsIn K mainGlobals "NoShut" = some (some (.ref D_NoShut))) (xb_NoShut : excB K D_NoShut D_NoShut [] = true)
    (q_PLACE : conB K "PLACE" (.str "place") = true)
    {qA_BOUNDS : Addr} {qE_BOUNDS : Array DictEntry} {qN_BOUNDS : Nat} (qa_BOUNDS : PySem.W.nsIn K mainGlobals "BOUNDS" = some (some (.ref qA_BOUNDS))) (ql_BOUNDS : K.lookup qA_BOUNDS = some ⟨.type "dict", none, .dict qE_BOUNDS qN_BOUNDS, #[]⟩) (qk_BOUNDS : PySem.W.KeysLit w.params qE_BOUNDS.toList) (qb_BOUNDS : (!(qA_BOUNDS == sysModules) && entB K qE_BOUNDS.toList [(.str "source", .tuple [.tuple [.int (0), .int (200)]]), (.str "tank", .tuple [.tuple [.int (0), .int (150)], .tuple [.int (1), .int (50)], .tuple [.int (1), .int (50)]])]) = true)
    (q_BOTH : conB K "BOTH" (.str "both") = true)
    (q_ON : conB K "ON" (.str "on") = true)
    (q_MOST_JOINTS : conB K "MOST_JOINTS" (.int (7)) = true)
    (q_MOST_PIPES : conB K "MOST_PIPES" (.int (9)) = true)
    (q_MOST_ON : conB K "MOST_ON" (.int (4)) = true)
    (z_abs : PySem.W.nsIn K mainGlobals "abs" = some none)
    (z_all : PySem.W.nsIn K mainGlobals "all" = some none)
    (z_any : PySem.W.nsIn K mainGlobals "any" = some none)
    (z_bool : PySem.W.nsIn K mainGlobals "bool" = some none)
    (z_dict : PySem.W.nsIn K mainGlobals "dict" = some none)
    (z_divmod : PySem.W.nsIn K mainGlobals "divmod" = some none)
    (z_enumerate : PySem.W.nsIn K mainGlobals "enumerate" = some none)
    (z_int : PySem.W.nsIn K mainGlobals "int" = some none)
    (z_isinstance : PySem.W.nsIn K mainGlobals "isinstance" = some none)
    (z_len : PySem.W.nsIn K mainGlobals "len" = some none)
    (z_list : PySem.W.nsIn K mainGlobals "list" = some none)
    (z_max : PySem.W.nsIn K mainGlobals "max" = some none)
    (z_min : PySem.W.nsIn K mainGlobals "min" = some none)
    (z_range : PySem.W.nsIn K mainGlobals "range" = some none)
    (z_repr : PySem.W.nsIn K mainGlobals "repr" = some none)
    (z_set : PySem.W.nsIn K mainGlobals "set" = some none)
    (z_sorted : PySem.W.nsIn K mainGlobals "sorted" = some none)
    (z_str : PySem.W.nsIn K mainGlobals "str" = some none)
    (z_sum : PySem.W.nsIn K mainGlobals "sum" = some none)
    (z_tuple : PySem.W.nsIn K mainGlobals "tuple" = some none)
    (z_zip : PySem.W.nsIn K mainGlobals "zip" = some none) :
    (∀ p ∈ csL, K.lookup p.2 = none ∧ PySem.W.codeHdIn K p.1 p.2 = true) ∧ (TabOk K mg tab csL ∧ GlobOk K w mg glob ∧ ∀ b ∈ bltNames, mg (Str.ofString b) = none) ∧ ∃ fa fd st N ow sd cl, DefOk K mg tab csL "law" f_law fa fd st N ["_law_script"] ow sd cl := by
  have hB : ∀ b ∈ bltNames, mg (Str.ofString b) = none := blt_all ⟨PySem.W.mg_none_of X G z_len, PySem.W.mg_none_of X G z_abs, PySem.W.mg_none_of X G z_int, PySem.W.mg_none_of X G z_all, PySem.W.mg_none_of X G z_any, PySem.W.mg_none_of X G z_repr, PySem.W.mg_none_of X G z_tuple, PySem.W.mg_none_of X G z_list, PySem.W.mg_none_of X G z_isinstance, PySem.W.mg_none_of X G z_bool, PySem.W.mg_none_of X G z_str, PySem.W.mg_none_of X G z_dict, PySem.W.mg_none_of X G z_max, PySem.W.mg_none_of X G z_min, PySem.W.mg_none_of X G z_range, PySem.W.mg_none_of X G z_enumerate, PySem.W.mg_none_of X G z_zip, PySem.W.mg_none_of X G z_sorted, PySem.W.mg_none_of X G z_set, PySem.W.mg_none_of X G z_divmod, PySem.W.mg_none_of X G z_sum, trivial⟩
  obtain ⟨xc_NoNet, xo_NoNet, xk_NoNet⟩ := excB_ok X G xa_NoNet xb_NoNet
  obtain ⟨xc_NoPlace, xo_NoPlace, xk_NoPlace⟩ := excB_ok X G xa_NoPlace xb_NoPlace
  obtain ⟨xc_NoShut, xo_NoShut, xk_NoShut⟩ := excB_ok X G xa_NoShut xb_NoShut
  have cls : ∀ y ∈ clL, ∃ C, ClsK K mg y C := List.forall_mem_cons.mpr ⟨⟨_, xc_NoNet⟩, List.forall_mem_cons.mpr ⟨⟨_, xc_NoPlace⟩, List.forall_mem_cons.mpr ⟨⟨_, xc_NoShut⟩, (fun _ h => nomatch h)⟩⟩⟩
  have D0 := def_mk (tab := tab) (cs := csL) (f := f_is_whole) (ow := []) (sd := fun _ => none) (cl := clL) X G sc_is_whole rfl rfl (by decide) tr_is_whole (fun _ _ _ _ _ _ us hl => match us, hl with | [_], _ => rfl) a0 l0 c0 k0 (fun _ h => nomatch h) (fun _ _ h => nomatch h) cls
  have D1 := def_mk (tab := tab) (cs := csL) (f := f_is_number) (ow := []) (sd := fun _ => none) (cl := clL) X G sc_is_number rfl rfl (by decide) tr_is_number (fun _ _ _ _ _ _ us hl => match us, hl with | [_, _, _], _ => rfl) a1 l1 c1 k1 (fun _ h => nomatch h) (fun _ _ h => nomatch h) cls
  have D2 := def_mk (tab := tab) (cs := csL) (f := f_is_place_joint) (ow := []) (sd := fun _ => none) (cl := clL) X G sc_is_place_joint rfl rfl (by decide) tr_is_place_joint (fun _ _ _ _ _ _ us hl => match us, hl with | [_], _ => rfl) a2 l2 c2 k2 (fun _ h => nomatch h) (fun _ _ h => nomatch h) cls
  have D3 := def_mk (tab := tab) (cs := csL) (f := f_is_joint) (ow := []) (sd := fun _ => none) (cl := clL) X G sc_is_joint rfl rfl (by decide) tr_is_joint (fun _ _ _ _ _ _ us hl => match us, hl with | [_], _ => rfl) a3 l3 c3 k3 (fun _ h => nomatch h) (fun _ _ h => nomatch h) cls
  have D4 := def_mk (tab := tab) (cs := csL) (f := f_is_pipe) (ow := []) (sd := fun _ => none) (cl := clL) X G sc_is_pipe rfl rfl (by decide) tr_is_pipe (fun _ _ _ _ _ _ us hl => match us, hl with | [_, _], _ => rfl) a4 l4 c4 k4 (fun _ h => nomatch h) (fun _ _ h => nomatch h) cls
  have D5 := def_mk (tab := tab) (cs := csL) (f := f_is_net) (ow := []) (sd := fun _ => none) (cl := clL) X G sc_is_net rfl rfl (by decide) tr_is_net (fun _ _ _ _ _ _ us hl => match us, hl with | [_], _ => rfl) a5 l5 c5 k5 (fun _ h => nomatch h) (fun _ _ h => nomatch h) cls
  have D6 := def_mk (tab := tab) (cs := csL) (f := f_need_net) (ow := []) (sd := fun _ => none) (cl := clL) X G sc_need_net rfl rfl (by decide) tr_need_net (fun _ _ _ _ _ _ us hl => match us, hl with | [_], _ => rfl) a6 l6 c6 k6 (fun _ h => nomatch h) (fun _ _ h => nomatch h) cls
  have D7 := def_mk (tab := tab) (cs := csL) (f := f_is_place) (ow := []) (sd := fun _ => none) (cl := clL) X G sc_is_place rfl rfl (by decide) tr_is_place (fun _ _ _ _ _ _ us hl => match us, hl with | [_, _], _ => rfl) a7 l7 c7 k7 (fun _ h => nomatch h) (fun _ _ h => nomatch h) cls
  have D8 := def_mk (tab := tab) (cs := csL) (f := f_is_pump) (ow := []) (sd := fun _ => none) (cl := clL) X G sc_is_pump rfl rfl (by decide) tr_is_pump (fun _ _ _ _ _ _ us hl => match us, hl with | [_, _], _ => rfl) a8 l8 c8 k8 (fun _ h => nomatch h) (fun _ _ h => nomatch h) cls
  have D9 := def_mk (tab := tab) (cs := csL) (f := f_can_shut) (ow := []) (sd := fun _ => none) (cl := clL) X G sc_can_shut rfl rfl (by decide) tr_can_shut (fun _ _ _ _ _ _ us hl => match us, hl with | [_, _], _ => rfl) a9 l9 c9 k9 (fun _ h => nomatch h) (fun _ _ h => nomatch h) cls
  have D10 := def_mk (tab := tab) (cs := csL) (f := f_are_rising) (ow := []) (sd := fun _ => none) (cl := clL) X G sc_are_rising rfl rfl (by decide) tr_are_rising (fun _ _ _ _ _ _ us hl => match us, hl with | [_], _ => rfl) a10 l10 c10 k10 (fun _ h => nomatch h) (fun _ _ h => nomatch h) cls
  have D11 := def_mk (tab := tab) (cs := csL) (f := f_are_shut) (ow := []) (sd := fun _ => none) (cl := clL) X G sc_are_shut rfl rfl (by decide) tr_are_shut (fun _ _ _ _ _ _ us hl => match us, hl with | [_, _], _ => rfl) a11 l11 c11 k11 (fun _ h => nomatch h) (fun _ _ h => nomatch h) cls
  have D12 := def_mk (tab := tab) (cs := csL) (f := f_end_from) (ow := []) (sd := fun _ => none) (cl := clL) X G sc_end_from rfl rfl (by decide) tr_end_from (fun _ _ _ _ _ _ us hl => match us, hl with | [_, _], _ => rfl) a12 l12 c12 k12 (fun _ h => nomatch h) (fun _ _ h => nomatch h) cls
  have D13 := def_mk (tab := tab) (cs := csL) (f := f_begins) (ow := []) (sd := fun _ => none) (cl := clL) X G sc_begins rfl rfl (by decide) tr_begins (fun _ _ _ _ _ _ us hl => match us, hl with | [_], _ => rfl) a13 l13 c13 k13 (fun _ h => nomatch h) (fun _ _ h => nomatch h) cls
  have D14 := def_mk (tab := tab) (cs := csL) (f := f_fed_by) (ow := [2, 3, 2, 3]) (sd := fun _ => none) (cl := clL) X G sc_fed_by rfl rfl (by decide) tr_fed_by (fun _ _ _ _ _ _ us hl => match us, hl with | [_, _], _ => rfl) a14 l14 c14 k14 (fun _ h => nomatch h) (fun _ _ h => nomatch h) cls
  have D15 := def_mk (tab := tab) (cs := csL) (f := f_gates_in) (ow := []) (sd := fun _ => none) (cl := clL) X G sc_gates_in rfl rfl (by decide) tr_gates_in (fun _ _ _ _ _ _ us hl => match us, hl with | [_, _], _ => rfl) a15 l15 c15 k15 (fun _ h => nomatch h) (fun _ _ h => nomatch h) cls
  have D16 := def_mk (tab := tab) (cs := csL) (f := f_lots_of) (ow := [2]) (sd := fun _ => none) (cl := clL) X G sc_lots_of rfl rfl (by decide) tr_lots_of (fun _ _ _ _ _ _ us hl => match us, hl with | [_, _], _ => rfl) a16 l16 c16 k16 (fun _ h => nomatch h) (fun _ _ h => nomatch h) cls
  have D17 := def_mk (tab := tab) (cs := csL) (f := f_fewest_gates) (ow := []) (sd := fun _ => none) (cl := clL) X G sc_fewest_gates rfl rfl (by decide) tr_fewest_gates (fun _ _ _ _ _ _ us hl => match us, hl with | [_, _, _], _ => rfl) a17 l17 c17 k17 (fun _ h => nomatch h) (fun _ _ h => nomatch h) cls
  have D18 := def_mk (tab := tab) (cs := csL) (f := f_ways_from) (ow := [5]) (sd := fun _ => none) (cl := clL) X G sc_ways_from rfl rfl (by decide) tr_ways_from (fun _ _ _ _ _ _ us hl => match us, hl with | [_, _, _, _, _], _ => rfl) a18 l18 c18 k18 (fun _ h => nomatch h) (fun _ _ h => nomatch h) cls
  have D19 := def_mk (tab := tab) (cs := csL) (f := f_ways_to) (ow := []) (sd := fun _ => none) (cl := clL) X G sc_ways_to rfl rfl (by decide) tr_ways_to (fun _ _ _ _ _ _ us hl => match us, hl with | [_, _, _], _ => rfl) a19 l19 c19 k19 (fun _ h => nomatch h) (fun _ _ h => nomatch h) cls
  have D20 := def_mk (tab := tab) (cs := csL) (f := f_gates_on) (ow := []) (sd := fun _ => none) (cl := clL) X G sc_gates_on rfl rfl (by decide) tr_gates_on (fun _ _ _ _ _ _ us hl => match us, hl with | [_, _], _ => rfl) a20 l20 c20 k20 (fun _ h => nomatch h) (fun _ _ h => nomatch h) cls
  have D21 := def_mk (tab := tab) (cs := csL) (f := f_apart_ways) (ow := []) (sd := fun _ => none) (cl := clL) X G sc_apart_ways rfl rfl (by decide) tr_apart_ways (fun _ _ _ _ _ _ us hl => match us, hl with | [_, _, _], _ => rfl) a21 l21 c21 k21 (fun _ h => nomatch h) (fun _ _ h => nomatch h) cls
  have D22 := def_mk (tab := tab) (cs := csL) (f := f_need_place) (ow := []) (sd := fun _ => none) (cl := clL) X G sc_need_place rfl rfl (by decide) tr_need_place (fun _ _ _ _ _ _ us hl => match us, hl with | [_, _], _ => rfl) a22 l22 c22 k22 (fun _ h => nomatch h) (fun _ _ h => nomatch h) cls
  have D23 := def_mk (tab := tab) (cs := csL) (f := f_need_cut) (ow := []) (sd := fun _ => none) (cl := clL) X G sc_need_cut rfl rfl (by decide) tr_need_cut (fun _ _ _ _ _ _ us hl => match us, hl with | [_, _, _], _ => rfl) a23 l23 c23 k23 (fun _ h => nomatch h) (fun _ _ h => nomatch h) cls
  have D24 := def_mk (tab := tab) (cs := csL) (f := f_cut_by) (ow := []) (sd := fun _ => none) (cl := clL) X G sc_cut_by rfl rfl (by decide) tr_cut_by (fun _ _ _ _ _ _ us hl => match us, hl with | [_, _, _], _ => rfl) a24 l24 c24 k24 (fun _ h => nomatch h) (fun _ _ h => nomatch h) cls
  have D25 := def_mkK (tab := tab) (cs := csL) (f := f_cut_of) (ow := []) (sd := fun _ => none) (cl := clL) X G sc_cut_of rfl rfl (by decide) tr_cut_of (by decide +kernel) a25 l25 c25 k25 (List.forall_mem_cons.mpr ⟨kw_mkO, (List.forall_mem_cons.mpr ⟨kw_mkK (x := "cut_of") (nm := "shut") 2 a25 l25 q9_cut_of (fun D us u h => match us, h with | [_, _], _ => ⟨_, _, _, _, _, _, rfl, rfl, rfl⟩), (List.forall_mem_cons.mpr ⟨kw_mk (n := 2) (ks := ["shut"]) (js := [0, 1, 2]) (fun us ws h1 h2 => match us, ws, h1, h2 with | [_, _], [_], _, _ => ⟨_, rfl, rfl⟩), (fun _ h => nomatch h)⟩)⟩)⟩) (fun _ _ h => nomatch h) cls
  have D26 := def_mk (tab := tab) (cs := csL) (f := f_are_gates) (ow := []) (sd := fun _ => none) (cl := clL) X G sc_are_gates rfl rfl (by decide) tr_are_gates (fun _ _ _ _ _ _ us hl => match us, hl with | [_, _, _], _ => rfl) a26 l26 c26 k26 (fun _ h => nomatch h) (fun _ _ h => nomatch h) cls
  have D27 := def_mk (tab := tab) (cs := csL) (f := f_led_along) (ow := []) (sd := fun _ => none) (cl := clL) X G sc_led_along rfl rfl (by decide) tr_led_along (fun _ _ _ _ _ _ us hl => match us, hl with | [_, _, _], _ => rfl) a27 l27 c27 k27 (fun _ h => nomatch h) (fun _ _ h => nomatch h) cls
  have D28 := def_mk (tab := tab) (cs := csL) (f := f_is_way) (ow := []) (sd := fun _ => none) (cl := clL) X G sc_is_way rfl rfl (by decide) tr_is_way (fun _ _ _ _ _ _ us hl => match us, hl with | [_, _, _, _], _ => rfl) a28 l28 c28 k28 (fun _ h => nomatch h) (fun _ _ h => nomatch h) cls
  have D29 := def_mkK (tab := tab) (cs := csL) (f := f_is_cut) (ow := []) (sd := fun _ => none) (cl := clL) X G sc_is_cut rfl rfl (by decide) tr_is_cut (by decide +kernel) a29 l29 c29 k29 (List.forall_mem_cons.mpr ⟨kw_mkO, (List.forall_mem_cons.mpr ⟨kw_mkK (x := "is_cut") (nm := "shut") 3 a29 l29 q9_is_cut (fun D us u h => match us, h with | [_, _, _], _ => ⟨_, _, _, _, _, _, rfl, rfl, rfl⟩), (fun _ h => nomatch h)⟩)⟩) (fun _ _ h => nomatch h) cls
  have D30 := def_mk (tab := tab) (cs := csL) (f := f_law_cell_at) (ow := []) (sd := fun _ => none) (cl := clL) X G sc_law_cell_at rfl rfl (by decide) tr_law_cell_at (fun _ _ _ _ _ _ us hl => match us, hl with | [_, _], _ => rfl) a30 l30 c30 k30 (fun _ h => nomatch h) (fun _ _ h => nomatch h) cls
  have D31 := def_mk (tab := tab) (cs := csL) (f := f_law_next) (ow := []) (sd := fun _ => none) (cl := clL) X G sc_law_next rfl rfl (by decide) tr_law_next (fun _ _ _ _ _ _ us hl => match us, hl with | [_], _ => rfl) a31 l31 c31 k31 (fun _ h => nomatch h) (fun _ _ h => nomatch h) cls
  have D32 := def_mk (tab := tab) (cs := csL) (f := f_law_pen_of) (ow := []) (sd := fun _ => none) (cl := clL) X G sc_law_pen_of rfl rfl (by decide) tr_law_pen_of (fun _ _ _ _ _ _ us hl => match us, hl with | [_], _ => rfl) a32 l32 c32 k32 (fun _ h => nomatch h) (fun _ _ h => nomatch h) cls
  have D33 := def_mk (tab := tab) (cs := csL) (f := f_law_draw) (ow := [0]) (sd := fun _ => none) (cl := clL) X G sc_law_draw rfl rfl (by decide) tr_law_draw (fun _ _ _ _ _ _ us hl => match us, hl with | [_, _], _ => rfl) a33 l33 c33 k33 (fun _ h => nomatch h) (fun _ _ h => nomatch h) cls
  have D34 := def_mk (tab := tab) (cs := csL) (f := f_law_line) (ow := []) (sd := fun _ => none) (cl := clL) X G sc_law_line rfl rfl (by decide) tr_law_line (fun _ _ _ _ _ _ us hl => match us, hl with | [_], _ => rfl) a34 l34 c34 k34 (fun _ h => nomatch h) (fun _ _ h => nomatch h) cls
  have D35 := def_mk (tab := tab) (cs := csL) (f := f_law_line_right) (ow := [0]) (sd := fun _ => none) (cl := clL) X G sc_law_line_right rfl rfl (by decide) tr_law_line_right (fun _ _ _ _ _ _ us hl => match us, hl with | [_], _ => rfl) a35 l35 c35 k35 (fun _ h => nomatch h) (fun _ _ h => nomatch h) cls
  have D36 := def_mk (tab := tab) (cs := csL) (f := f_law_ring_right) (ow := [0]) (sd := fun _ => none) (cl := clL) X G sc_law_ring_right rfl rfl (by decide) tr_law_ring_right (fun _ _ _ _ _ _ us hl => match us, hl with | [_], _ => rfl) a36 l36 c36 k36 (fun _ h => nomatch h) (fun _ _ h => nomatch h) cls
  have D37 := def_mk (tab := tab) (cs := csL) (f := f_law_side_right) (ow := [0]) (sd := fun _ => none) (cl := clL) X G sc_law_side_right rfl rfl (by decide) tr_law_side_right (fun _ _ _ _ _ _ us hl => match us, hl with | [_], _ => rfl) a37 l37 c37 k37 (fun _ h => nomatch h) (fun _ _ h => nomatch h) cls
  have D38 := def_mk (tab := tab) (cs := csL) (f := f_law) (ow := [6]) (sd := fun _ => none) (cl := clL) X G sc_law rfl rfl (by decide) tr_law (fun _ _ _ _ _ _ us hl => match us, hl with | [_], _ => rfl) a38 l38 c38 k38 (fun _ h => nomatch h) (fun _ _ h => nomatch h) cls
  exact ⟨(fun _ h => nomatch h), ⟨tab_all ⟨⟨_, _, _, _, _, _, _, _, D0⟩, ⟨_, _, _, _, _, _, _, _, D1⟩, ⟨_, _, _, _, _, _, _, _, D2⟩, ⟨_, _, _, _, _, _, _, _, D3⟩, ⟨_, _, _, _, _, _, _, _, D4⟩, ⟨_, _, _, _, _, _, _, _, D5⟩, ⟨_, _, _, _, _, _, _, _, D6⟩, ⟨_, _, _, _, _, _, _, _, D7⟩, ⟨_, _, _, _, _, _, _, _, D8⟩, ⟨_, _, _, _, _, _, _, _, D9⟩, ⟨_, _, _, _, _, _, _, _, D10⟩, ⟨_, _, _, _, _, _, _, _, D11⟩, ⟨_, _, _, _, _, _, _, _, D12⟩, ⟨_, _, _, _, _, _, _, _, D13⟩, ⟨_, _, _, _, _, _, _, _, D14⟩, ⟨_, _, _, _, _, _, _, _, D15⟩, ⟨_, _, _, _, _, _, _, _, D16⟩, ⟨_, _, _, _, _, _, _, _, D17⟩, ⟨_, _, _, _, _, _, _, _, D18⟩, ⟨_, _, _, _, _, _, _, _, D19⟩, ⟨_, _, _, _, _, _, _, _, D20⟩, ⟨_, _, _, _, _, _, _, _, D21⟩, ⟨_, _, _, _, _, _, _, _, D22⟩, ⟨_, _, _, _, _, _, _, _, D23⟩, ⟨_, _, _, _, _, _, _, _, D24⟩, ⟨_, _, _, _, _, _, _, _, D25⟩, ⟨_, _, _, _, _, _, _, _, D26⟩, ⟨_, _, _, _, _, _, _, _, D27⟩, ⟨_, _, _, _, _, _, _, _, D28⟩, ⟨_, _, _, _, _, _, _, _, D29⟩, ⟨_, _, _, _, _, _, _, _, D30⟩, ⟨_, _, _, _, _, _, _, _, D31⟩, ⟨_, _, _, _, _, _, _, _, D32⟩, ⟨_, _, _, _, _, _, _, _, D33⟩, ⟨_, _, _, _, _, _, _, _, D34⟩, ⟨_, _, _, _, _, _, _, _, D35⟩, ⟨_, _, _, _, _, _, _, _, D36⟩, ⟨_, _, _, _, _, _, _, _, D37⟩, ⟨_, _, _, _, _, _, _, _, D38⟩, trivial⟩, glob_ok X G q_PLACE (dct_ok X G qa_BOUNDS ql_BOUNDS qk_BOUNDS qb_BOUNDS) q_BOTH q_ON q_MOST_JOINTS q_MOST_PIPES q_MOST_ON, hB⟩, _, _, _, _, _, _, _, D38⟩
end
/-! ### the head, by facts -/
theorem hOb_eq (s : PySem.W.SharedT) : hOb s = hk.obs s.abs := hd.ob_eq s
theorem hAll {w : World} {mg : Str → Option Value} {h : Heap} (Y : hk.says w h) (G : h.Ns mainGlobals mg) : ∃ K : PySem.W.Frag, K.In h ∧ (∀ p ∈ csL, h.get? p.2 = some { cls := .none, data := .fields #[] }) ∧ (∀ p ∈ csL, K.lookup p.2 = none ∧ PySem.W.codeHdIn K p.1 p.2 = true) ∧ (TabOk K mg tab csL ∧ GlobOk K w mg glob ∧ ∀ b ∈ bltNames, mg (Str.ofString b) = none) ∧ ∃ fa fd st N ow sd cl, DefOk K mg tab csL "law" f_law fa fd st N ["_law_script"] ow sd cl := by
  obtain ⟨K, KX, c, ct⟩ := Y
  obtain ⟨_, _, _, _, _, _, _, _, _, _, a0, l0, c0, k0⟩ := c.def0 0 (x := "is_whole") (st := topS 6) (by kernel_rfl)
  obtain ⟨_, _, _, _, _, _, _, _, _, _, a1, l1, c1, k1⟩ := c.def0 1 (x := "is_number") (st := topS 17) (by kernel_rfl)
  obtain ⟨_, _, _, _, _, _, _, _, _, _, a2, l2, c2, k2⟩ := c.def0 2 (x := "is_place_joint") (st := topS 18) (by kernel_rfl)
  obtain ⟨_, _, _, _, _, _, _, _, _, _, a3, l3, c3, k3⟩ := c.def0 3 (x := "is_joint") (st := topS 19) (by kernel_rfl)
  obtain ⟨_, _, _, _, _, _, _, _, _, _, a4, l4, c4, k4⟩ := c.def0 4 (x := "is_pipe") (st := topS 20) (by kernel_rfl)
  obtain ⟨_, _, _, _, _, _, _, _, _, _, a5, l5, c5, k5⟩ := c.def0 5 (x := "is_net") (st := topS 21) (by kernel_rfl)
  obtain ⟨_, _, _, _, _, _, _, _, _, _, a6, l6, c6, k6⟩ := c.def0 6 (x := "need_net") (st := topS 22) (by kernel_rfl)
  obtain ⟨_, _, _, _, _, _, _, _, _, _, a7, l7, c7, k7⟩ := c.def0 7 (x := "is_place") (st := topS 23) (by kernel_rfl)
  obtain ⟨_, _, _, _, _, _, _, _, _, _, a8, l8, c8, k8⟩ := c.def0 8 (x := "is_pump") (st := topS 24) (by kernel_rfl)
  obtain ⟨_, _, _, _, _, _, _, _, _, _, a9, l9, c9, k9⟩ := c.def0 9 (x := "can_shut") (st := topS 25) (by kernel_rfl)
  obtain ⟨_, _, _, _, _, _, _, _, _, _, a10, l10, c10, k10⟩ := c.def0 10 (x := "are_rising") (st := topS 26) (by kernel_rfl)
  obtain ⟨_, _, _, _, _, _, _, _, _, _, a11, l11, c11, k11⟩ := c.def0 11 (x := "are_shut") (st := topS 27) (by kernel_rfl)
  obtain ⟨_, _, _, _, _, _, _, _, _, _, a12, l12, c12, k12⟩ := c.def0 12 (x := "end_from") (st := topS 29) (by kernel_rfl)
  obtain ⟨_, _, _, _, _, _, _, _, _, _, a13, l13, c13, k13⟩ := c.def0 13 (x := "begins") (st := topS 30) (by kernel_rfl)
  obtain ⟨_, _, _, _, _, _, _, _, _, _, a14, l14, c14, k14⟩ := c.def0 14 (x := "fed_by") (st := topS 31) (by kernel_rfl)
  obtain ⟨_, _, _, _, _, _, _, _, _, _, a15, l15, c15, k15⟩ := c.def0 15 (x := "gates_in") (st := topS 32) (by kernel_rfl)
  obtain ⟨_, _, _, _, _, _, _, _, _, _, a16, l16, c16, k16⟩ := c.def0 16 (x := "lots_of") (st := topS 33) (by kernel_rfl)
  obtain ⟨_, _, _, _, _, _, _, _, _, _, a17, l17, c17, k17⟩ := c.def0 17 (x := "fewest_gates") (st := topS 34) (by kernel_rfl)
  obtain ⟨_, _, _, _, _, _, _, _, _, _, a18, l18, c18, k18⟩ := c.def0 18 (x := "ways_from") (st := topS 35) (by kernel_rfl)
  obtain ⟨_, _, _, _, _, _, _, _, _, _, a19, l19, c19, k19⟩ := c.def0 19 (x := "ways_to") (st := topS 36) (by kernel_rfl)
  obtain ⟨_, _, _, _, _, _, _, _, _, _, a20, l20, c20, k20⟩ := c.def0 20 (x := "gates_on") (st := topS 37) (by kernel_rfl)
  obtain ⟨_, _, _, _, _, _, _, _, _, _, a21, l21, c21, k21⟩ := c.def0 21 (x := "apart_ways") (st := topS 38) (by kernel_rfl)
  obtain ⟨_, _, _, _, _, _, _, _, _, _, a22, l22, c22, k22⟩ := c.def0 22 (x := "need_place") (st := topS 39) (by kernel_rfl)
  obtain ⟨_, _, _, _, _, _, _, _, _, _, a23, l23, c23, k23⟩ := c.def0 23 (x := "need_cut") (st := topS 40) (by kernel_rfl)
  obtain ⟨_, _, _, _, _, _, _, _, _, _, a24, l24, c24, k24⟩ := c.def0 24 (x := "cut_by") (st := topS 41) (by kernel_rfl)
  obtain ⟨_, _, _, _, _, _, _, _, _, _, a25, l25, c25, k25⟩ := c.def0 25 (x := "cut_of") (st := topS 42) (by kernel_rfl)
  obtain ⟨_, _, _, _, _, _, _, _, _, _, a26, l26, c26, k26⟩ := c.def0 26 (x := "are_gates") (st := topS 43) (by kernel_rfl)
  obtain ⟨_, _, _, _, _, _, _, _, _, _, a27, l27, c27, k27⟩ := c.def0 27 (x := "led_along") (st := topS 44) (by kernel_rfl)
  obtain ⟨_, _, _, _, _, _, _, _, _, _, a28, l28, c28, k28⟩ := c.def0 28 (x := "is_way") (st := topS 45) (by kernel_rfl)
  obtain ⟨_, _, _, _, _, _, _, _, _, _, a29, l29, c29, k29⟩ := c.def0 29 (x := "is_cut") (st := topS 46) (by kernel_rfl)
  obtain ⟨_, _, _, _, _, _, _, _, _, _, a30, l30, c30, k30⟩ := c.def0 30 (x := "_law_cell_at") (st := topS 48) (by kernel_rfl)
  obtain ⟨_, _, _, _, _, _, _, _, _, _, a31, l31, c31, k31⟩ := c.def0 31 (x := "_law_next") (st := topS 49) (by kernel_rfl)
  obtain ⟨_, _, _, _, _, _, _, _, _, _, a32, l32, c32, k32⟩ := c.def0 32 (x := "_law_pen_of") (st := topS 50) (by kernel_rfl)
  obtain ⟨_, _, _, _, _, _, _, _, _, _, a33, l33, c33, k33⟩ := c.def0 33 (x := "_law_draw") (st := topS 51) (by kernel_rfl)
  obtain ⟨_, _, _, _, _, _, _, _, _, _, a34, l34, c34, k34⟩ := c.def0 34 (x := "_law_line") (st := topS 52) (by kernel_rfl)
  obtain ⟨_, _, _, _, _, _, _, _, _, _, a35, l35, c35, k35⟩ := c.def0 35 (x := "_law_line_right") (st := topS 53) (by kernel_rfl)
  obtain ⟨_, _, _, _, _, _, _, _, _, _, a36, l36, c36, k36⟩ := c.def0 36 (x := "_law_ring_right") (st := topS 54) (by kernel_rfl)
  obtain ⟨_, _, _, _, _, _, _, _, _, _, a37, l37, c37, k37⟩ := c.def0 37 (x := "_law_side_right") (st := topS 55) (by kernel_rfl)
  obtain ⟨_, _, _, _, _, _, _, _, _, _, a38, l38, c38, k38⟩ := c.def0 38 (x := "law") (st := topS 56) (by kernel_rfl)
  have q9_cut_of := c.fact 6 (f := fun K => kwdB K "cut_of" "shut") (by kernel_rfl)
  have q9_is_cut := c.fact 7 (f := fun K => kwdB K "is_cut" "shut") (by kernel_rfl)
  have xa_NoNet := glo_of (c.fact 0 (f := fun K => gloB K "NoNet") (by kernel_rfl))
  have xb_NoNet := c.fact 1 (f := fun K => excB K (He.ga K "NoNet") (He.ga K "NoNet") []) (by kernel_rfl)
  have xa_NoPlace := glo_of (c.fact 2 (f := fun K => gloB K "NoPlace") (by kernel_rfl))
  have xb_NoPlace := c.fact 3 (f := fun K => excB K (He.ga K "NoPlace") (He.ga K "NoPlace") []) (by kernel_rfl)
  have xa_NoShut := glo_of (c.fact 4 (f := fun K => gloB K "NoShut") (by kernel_rfl))
  have xb_NoShut := c.fact 5 (f := fun K => excB K (He.ga K "NoShut") (He.ga K "NoShut") []) (by kernel_rfl)
  have q_PLACE := c.fact 8 (f := fun K => conB K "PLACE" (.str "place")) (by kernel_rfl)
  have q_BOTH := c.fact 9 (f := fun K => conB K "BOTH" (.str "both")) (by kernel_rfl)
  have q_ON := c.fact 10 (f := fun K => conB K "ON" (.str "on")) (by kernel_rfl)
  have q_MOST_JOINTS := c.fact 11 (f := fun K => conB K "MOST_JOINTS" (.int (7))) (by kernel_rfl)
  have q_MOST_PIPES := c.fact 12 (f := fun K => conB K "MOST_PIPES" (.int (9))) (by kernel_rfl)
  have q_MOST_ON := c.fact 13 (f := fun K => conB K "MOST_ON" (.int (4))) (by kernel_rfl)
  have z_abs := free_of (c.fact 14 (f := fun K => freeB K "abs") (by kernel_rfl))
  have z_all := free_of (c.fact 15 (f := fun K => freeB K "all") (by kernel_rfl))
  have z_any := free_of (c.fact 16 (f := fun K => freeB K "any") (by kernel_rfl))
  have z_bool := free_of (c.fact 17 (f := fun K => freeB K "bool") (by kernel_rfl))
  have z_dict := free_of (c.fact 18 (f := fun K => freeB K "dict") (by kernel_rfl))
  have z_divmod := free_of (c.fact 19 (f := fun K => freeB K "divmod") (by kernel_rfl))
  have z_enumerate := free_of (c.fact 20 (f := fun K => freeB K "enumerate") (by kernel_rfl))
  have z_int := free_of (c.fact 21 (f := fun K => freeB K "int") (by kernel_rfl))
  have z_isinstance := free_of (c.fact 22 (f := fun K => freeB K "isinstance") (by kernel_rfl))
  have z_len := free_of (c.fact 23 (f := fun K => freeB K "len") (by kernel_rfl))
  have z_list := free_of (c.fact 24 (f := fun K => freeB K "list") (by kernel_rfl))
  have z_max := free_of (c.fact 25 (f := fun K => freeB K "max") (by kernel_rfl))
  have z_min := free_of (c.fact 26 (f := fun K => freeB K "min") (by kernel_rfl))
  have z_range := free_of (c.fact 27 (f := fun K => freeB K "range") (by kernel_rfl))
  have z_repr := free_of (c.fact 28 (f := fun K => freeB K "repr") (by kernel_rfl))
  have z_set := free_of (c.fact 29 (f := fun K => freeB K "set") (by kernel_rfl))
  have z_sorted := free_of (c.fact 30 (f := fun K => freeB K "sorted") (by kernel_rfl))
  have z_str := free_of (c.fact 31 (f := fun K => freeB K "str") (by kernel_rfl))
  have z_sum := free_of (c.fact 32 (f := fun K => freeB K "sum") (by kernel_rfl))
  have z_tuple := free_of (c.fact 33 (f := fun K => freeB K "tuple") (by kernel_rfl))
  have z_zip := free_of (c.fact 34 (f := fun K => freeB K "zip") (by kernel_rfl))
  obtain ⟨_, _, _, qa_BOUNDS, ql_BOUNDS, qk_BOUNDS, qb_BOUNDS⟩ := c.dict 0 (x := "BOUNDS") (kvs := [(.str "source", .tuple [.tuple [.int (0), .int (200)]]), (.str "tank", .tuple [.tuple [.int (0), .int (150)], .tuple [.int (1), .int (50)], .tuple [.int (1), .int (50)]])]) (by kernel_rfl)
  exact ⟨K, KX, (fun _ h => nomatch h), all_mk (w := w) KX G q9_cut_of q9_is_cut a0 l0 c0 k0 a1 l1 c1 k1 a2 l2 c2 k2 a3 l3 c3 k3 a4 l4 c4 k4 a5 l5 c5 k5 a6 l6 c6 k6 a7 l7 c7 k7 a8 l8 c8 k8 a9 l9 c9 k9 a10 l10 c10 k10 a11 l11 c11 k11 a12 l12 c12 k12 a13 l13 c13 k13 a14 l14 c14 k14 a15 l15 c15 k15 a16 l16 c16 k16 a17 l17 c17 k17 a18 l18 c18 k18 a19 l19 c19 k19 a20 l20 c20 k20 a21 l21 c21 k21 a22 l22 c22 k22 a23 l23 c23 k23 a24 l24 c24 k24 a25 l25 c25 k25 a26 l26 c26 k26 a27 l27 c27 k27 a28 l28 c28 k28 a29 l29 c29 k29 a30 l30 c30 k30 a31 l31 c31 k31 a32 l32 c32 k32 a33 l33 c33 k33 a34 l34 c34 k34 a35 l35 c35 k35 a36 l36 c36 k36 a37 l37 c37 k37 a38 l38 c38 k38 xa_NoNet xb_NoNet xa_NoPlace xb_NoPlace xa_NoShut xb_NoShut q_PLACE qa_BOUNDS ql_BOUNDS qk_BOUNDS qb_BOUNDS q_BOTH q_ON q_MOST_JOINTS q_MOST_PIPES q_MOST_ON z_abs z_all z_any z_bool z_dict z_divmod z_enumerate z_int z_isinstance z_len z_list z_max z_min z_range z_repr z_set z_sorted z_str z_sum z_tuple z_zip⟩

noncomputable abbrev cf (k : Nat) : Cfg := ⟨CI k, glob, FU, XI k⟩
/-! ### the pen -/
theorem c_next (k : Nat) (x : Int) : ∃ y : Int, 0 ≤ y ∧ y < 2147483629 ∧ CI (k + 1) "_law_next" none [.int x] = some (.int y, none) := by
  have h1 := Int.emod_nonneg (x + 7919) (b := 2147483647) (by decide)
  have h2 := Int.emod_lt_of_pos (x + 7919) (b := 2147483647) (by decide)
  have m : (2 : Nat) ^ 64 < 2 ^ 4096 := by decide
  have h3 : ((x + 7919) % 2147483647).natAbs < 2 ^ 4096 := by omega
  refine ⟨(((x + 7919) % 2147483647) * ((x + 7919) % 2147483647) + 48271 * ((x + 7919) % 2147483647) + 12345) % 2147483629, Int.emod_nonneg _ (by decide), Int.emod_lt_of_pos _ (by decide), ?_⟩
  rw [u_law_next]
  simp [runF, endF, penOf, startE, exs, ex, ev, evs, evO, evT, evTs, evI, bnd, ret, setAll, b1D, b2D, truD, isi, ixD, seqD, cmp_eq, cmp_ne, cmp_lt, cmp_le, cmp_gt, cmp_ge, eqD_ii, eqD_ss, bin_add, bin_sub, sizeLine, at0, at1, at2, at3, at4, at5, at6, f_law_next, b_law_next, bin_mod, bin_mul h3 h3, bin_mul (i := 48271) (by decide) h3]
theorem c_draw (k : Nat) (p0 p1 p2 m : Int) (h0 : 0 ≤ p0) (hm : 0 < m) (hb : m < 10 ^ 100) : ∃ r q0 q2 : Int, 0 ≤ r ∧ r < m ∧ 0 ≤ q0 ∧ CI (k + 2) "_law_draw" (some [.int p0, .int p1, .int p2]) [.int m] = some (.int r, some [.int q0, .int p1, .int q2]) := by
  have m2 : (10 : Nat) ^ 100 < 2 ^ 4096 := by decide
  have hb' : m.natAbs < 2 ^ 4096 := by omega
  by_cases hc : p1 = 1 ∧ 0 < p0
  · refine ⟨p0 % m, p0 / m, p2, Int.emod_nonneg _ (by omega), Int.emod_lt_of_pos _ hm, Int.ediv_nonneg h0 (by omega), ?_⟩
    rw [u_law_draw]
    simp [runF, endF, penOf, startE, exs, ex, ev, evs, evO, evT, evTs, evI, bnd, ret, setAll, b1D, b2D, truD, isi, ixD, seqD, cmp_eq, cmp_ne, cmp_lt, cmp_le, cmp_gt, cmp_ge, eqD_ii, eqD_ss, bin_add, bin_sub, sizeLine, at0, at1, at2, at3, at4, at5, at6, f_law_draw, b_law_draw, atI, ixN, hc.1, hc.2, bin_mod hm, bin_div hm hb']
  · obtain ⟨y, y0, y1, ey⟩ := c_next k p2
    obtain ⟨z, z0, z1, ez⟩ := c_next k (y + 7)
    refine ⟨z / 64 % m, p0, z, Int.emod_nonneg _ (by omega), Int.emod_lt_of_pos _ hm, h0, ?_⟩
    rw [u_law_draw]
    by_cases e : p1 = 1
    · have : ¬ 0 < p0 := fun h => hc ⟨e, h⟩
      simp [runF, endF, penOf, startE, exs, ex, ev, evs, evO, evT, evTs, evI, bnd, ret, setAll, b1D, b2D, truD, isi, ixD, seqD, cmp_eq, cmp_ne, cmp_lt, cmp_le, cmp_gt, cmp_ge, eqD_ii, eqD_ss, bin_add, bin_sub, sizeLine, at0, at1, at2, at3, at4, at5, at6, f_law_draw, b_law_draw, atI, ixN, e, this, ey, ez, bin_mod hm, bin_div]
    · simp [runF, endF, penOf, startE, exs, ex, ev, evs, evO, evT, evTs, evI, bnd, ret, setAll, b1D, b2D, truD, isi, ixD, seqD, cmp_eq, cmp_ne, cmp_lt, cmp_le, cmp_gt, cmp_ge, eqD_ii, eqD_ss, bin_add, bin_sub, sizeLine, at0, at1, at2, at3, at4, at5, at6, f_law_draw, b_law_draw, atI, ixN, e, ey, ez, bin_mod hm, bin_div]
theorem c_cell (k : Nat) (ns : List Int) (j : Nat) : CI (k + 1) "_law_cell_at" none [.list (ns.map .int), .int j] = some (.int (ns.getD j 0), none) := by
  rw [u_law_cell_at]
  by_cases h : j < ns.length
  · have e : atI (ns.map PyData.int) (j : Int) = some (.int (ns.getD j 0)) := atI_nat (by simp [runF, endF, penOf, startE, exs, ex, ev, evs, evO, evT, evTs, evI, bnd, ret, setAll, b1D, b2D, truD, isi, ixD, seqD, cmp_eq, cmp_ne, cmp_lt, cmp_le, cmp_gt, cmp_ge, eqD_ii, eqD_ss, bin_add, bin_sub, sizeLine, at0, at1, at2, at3, at4, at5, at6, h])
    simp [runF, endF, penOf, startE, exs, ex, ev, evs, evO, evT, evTs, evI, bnd, ret, setAll, b1D, b2D, truD, isi, ixD, seqD, cmp_eq, cmp_ne, cmp_lt, cmp_le, cmp_gt, cmp_ge, eqD_ii, eqD_ss, bin_add, bin_sub, sizeLine, at0, at1, at2, at3, at4, at5, at6, f_law_cell_at, b_law_cell_at, h, e]
  · simp [runF, endF, penOf, startE, exs, ex, ev, evs, evO, evT, evTs, evI, bnd, ret, setAll, b1D, b2D, truD, isi, ixD, seqD, cmp_eq, cmp_ne, cmp_lt, cmp_le, cmp_gt, cmp_ge, eqD_ii, eqD_ss, bin_add, bin_sub, sizeLine, at0, at1, at2, at3, at4, at5, at6, f_law_cell_at, b_law_cell_at, h]
theorem c_pen (k : Nat) (x : Int) : ∃ p0 p1 p2 : Int, 0 ≤ p0 ∧ CI (k + 1) "_law_pen_of" none [.int x] = some (.list [.int p0, .int p1, .int p2], none) := by
  refine ⟨if 0 - x > x then 0 - x else x, if (10 ^ 18 : Int) ≤ (if 0 - x > x then 0 - x else x) then 1 else 0, (if 0 - x > x then 0 - x else x) % 1000003, by split <;> omega, ?_⟩
  rw [u_law_pen_of]
  have e : ∀ i : Int, binD .mod (.int i) (.int 1000003) = some (.int (i % 1000003)) := fun i => bin_mod (by decide)
  have e2 : binD .pow (.int 10) (.int 18) = some (.int (10 ^ 18)) := rfl
  simp [runF, endF, penOf, startE, exs, ex, ev, evs, evO, evT, evTs, evI, bnd, ret, setAll, b1D, b2D, truD, isi, ixD, seqD, cmp_eq, cmp_ne, cmp_lt, cmp_le, cmp_gt, cmp_ge, eqD_ii, eqD_ss, bin_add, bin_sub, sizeLine, at0, at1, at2, at3, at4, at5, at6, f_law_pen_of, b_law_pen_of, e, e2]
theorem wl_draw (k : Nat) {p0 p1 p2 m : Int} {K : PyData → List PyData → Prop} (h0 : 0 ≤ p0) (hm : 0 < m) (hb : m < 10 ^ 100) (h : ∀ (r : Nat) (q0 q2 : Int), (r : Int) < m → 0 ≤ q0 → K (.int (r : Int)) [.int q0, .int p1, .int q2]) : WLp (CI (k + 2) "_law_draw" (some [.int p0, .int p1, .int p2]) [.int m]) K := by
  obtain ⟨r, q0, q2, a, b, c, e⟩ := c_draw k p0 p1 p2 m h0 hm hb
  obtain ⟨n, rfl⟩ := Int.eq_ofNat_of_zero_le a
  exact ⟨_, _, e, h n q0 q2 b c⟩
local macro_rules | `(tactic| sleep 3) => `(tactic| (repeat' (first | refine wgo ?_ | (guard_target =~ WO ..; first | refine w_ob rfl (by (simp only [wipeE, backE, List.set_cons_succ, List.set_cons_zero, List.getElem?_cons_succ, List.getElem?_cons_zero, Option.getD_some, Option.getD_none]; first | done | rfl)) ?_ | refine w_o (by assumption) ?_ | refine w_o (eq_ii _ _) ?_ | refine w_o (ne_ii _ _) ?_ | refine w_o (eq_ss _ _) ?_ | refine w_o (ne_ss _ _) ?_ | (refine w_ix2i (by assumption) ?_; intro _ _) | (refine w_ix4i (by assumption) ?_; intro _ _) | (refine w_ix2 (by assumption) (fun _ => ?_) (fun _ => ?_)) | (refine w_ix3 (by assumption) (fun _ => ?_) (fun _ => ?_) (fun _ => ?_)) | (refine w_ix4 (by assumption) (fun _ => ?_) (fun _ => ?_) (fun _ => ?_) (fun _ => ?_)) | (refine w_modn (by omega) ?_; intro _ _ _) | (refine w_o (mulS (by omega) (by omega)) ?_) | refine w_o rfl ?_) | (guard_target =~ WL ..; first | refine w_c (by assumption) ?_) | (guard_target =~ WLp ..; first | refine w_cp (by assumption) ?_ | (refine wl_t2 _ (by assumption) (by omega) (by omega) ?_; intro _ _ _ _ _) | (refine wl_btake _ (by assumption) (by omega) (by omega) ?_; intro _ _ _ _ _) | (refine wl_take _ (by assumption) (by omega) (by omega) ?_; intro _ _ _ _ _ _) | (refine wl_some _ (by assumption) (by omega) (by omega) ?_; intro _ _ _ _ _ _) | (refine wl_draw _ (by assumption) (by omega) (by omega) ?_; intro _ _ _ _ _)) | (guard_target =~ WB ..; first | refine w_bt ?_ | refine w_bf ?_ | (refine w_bd (fun _ => ?_) (fun _ => ?_))) | (guard_target =~ WE ..; first | refine w_var rfl ?_ | refine w_varo rfl (by (simp only [wipeE, backE, List.set_cons_succ, List.set_cons_zero, List.getElem?_cons_succ, List.getElem?_cons_zero, Option.getD_some, Option.getD_none]; first | done | rfl)) ?_ | refine w_vark rfl (by (simp only [wipeE, backE, List.set_cons_succ, List.set_cons_zero, List.getElem?_cons_succ, List.getElem?_cons_zero, Option.getD_some, Option.getD_none]; first | done | rfl)) ?_) | (guard_target =~ WP ..; first | refine w_put rfl (by (simp only [wipeE, backE, List.set_cons_succ, List.set_cons_zero, List.getElem?_cons_succ, List.getElem?_cons_zero, Option.getD_some, Option.getD_none]; first | done | rfl)) ?_) | (refine w_len (by (first | (simp only [List.length_map, intsN_len, List.length_append, List.length_cons, List.length_nil, List.length_singleton]; omega) | omega)) ?_))))
theorem w_cut {c : Cfg} {ρ : En} {Q : Fl → En → Prop} {p q : List Sm} (I : En → Prop) (h : WS c p ρ fun fl ρ => fl = .next ∧ I ρ) (k : ∀ ρ, I ρ → WS c q ρ Q) : WS c (p ++ q) ρ Q := by
  obtain ⟨f, ρ1, e, rfl, i⟩ := h
  obtain ⟨g, ρ2, e2, z⟩ := k ρ1 i
  exact ⟨g, ρ2, by rw [exs_cat, e, bnd_some]; exact e2, z⟩
/-! ### closed calls, by the kernel -/
instance w_g_PLACE {k : Nat} {ρ : En} {Q : PyData → En → Prop} : SP (WE (cf k) (.glob "PLACE") ρ Q) (Q (.str "place") ρ) := ⟨fun q => w_glob g_PLACE rfl q⟩
instance w_g_BOTH {k : Nat} {ρ : En} {Q : PyData → En → Prop} : SP (WE (cf k) (.glob "BOTH") ρ Q) (Q (.str "both") ρ) := ⟨fun q => w_glob g_BOTH rfl q⟩
instance w_g_ON {k : Nat} {ρ : En} {Q : PyData → En → Prop} : SP (WE (cf k) (.glob "ON") ρ Q) (Q (.str "on") ρ) := ⟨fun q => w_glob g_ON rfl q⟩
instance w_g_MOST_JOINTS {k : Nat} {ρ : En} {Q : PyData → En → Prop} : SP (WE (cf k) (.glob "MOST_JOINTS") ρ Q) (Q (.int (7)) ρ) := ⟨fun q => w_glob g_MOST_JOINTS rfl q⟩
instance w_g_MOST_PIPES {k : Nat} {ρ : En} {Q : PyData → En → Prop} : SP (WE (cf k) (.glob "MOST_PIPES") ρ Q) (Q (.int (9)) ρ) := ⟨fun q => w_glob g_MOST_PIPES rfl q⟩
instance w_g_MOST_ON {k : Nat} {ρ : En} {Q : PyData → En → Prop} : SP (WE (cf k) (.glob "MOST_ON") ρ Q) (Q (.int (4)) ρ) := ⟨fun q => w_glob g_MOST_ON rfl q⟩
local macro_rules | `(tactic| sleep 1) => `(tactic| (repeat (first | refine wgo ?_ | (guard_target =~ WO ..; first | refine w_ob rfl (by (simp only [wipeE, backE, List.set_cons_succ, List.set_cons_zero, List.getElem?_cons_succ, List.getElem?_cons_zero, Option.getD_some, Option.getD_none]; first | done | rfl)) ?_ | refine w_o (by assumption) ?_ | refine w_o (eq_ii _ _) ?_ | refine w_o (ne_ii _ _) ?_ | refine w_o (eq_ss _ _) ?_ | refine w_o (ne_ss _ _) ?_ | refine w_o rfl ?_) | (guard_target =~ WL ..; first | refine w_c (by assumption) ?_) | (guard_target =~ WLp ..; first | refine w_cp (by assumption) ?_) | (guard_target =~ WB ..; first | refine w_bt ?_ | refine w_bf ?_) | (guard_target =~ WE ..; first | refine w_var rfl ?_ | refine w_varo rfl (by (simp only [wipeE, backE, List.set_cons_succ, List.set_cons_zero, List.getElem?_cons_succ, List.getElem?_cons_zero, Option.getD_some, Option.getD_none]; first | done | rfl)) ?_ | refine w_vark rfl (by (simp only [wipeE, backE, List.set_cons_succ, List.set_cons_zero, List.getElem?_cons_succ, List.getElem?_cons_zero, Option.getD_some, Option.getD_none]; first | done | rfl)) ?_) | (guard_target =~ WP ..; first | refine w_put rfl (by (simp only [wipeE, backE, List.set_cons_succ, List.set_cons_zero, List.getElem?_cons_succ, List.getElem?_cons_zero, Option.getD_some, Option.getD_none]; first | done | rfl)) ?_))))
local macro_rules | `(tactic| sleep 2) => `(tactic| (repeat (first | ((fail_if_success (guard_target =~ WS ..)); refine wgo ?_) | (guard_target =~ WO ..; first | refine w_ob rfl (by (simp only [wipeE, backE, List.set_cons_succ, List.set_cons_zero, List.getElem?_cons_succ, List.getElem?_cons_zero, Option.getD_some, Option.getD_none]; first | done | rfl)) ?_ | refine w_o (by assumption) ?_ | refine w_o (eq_ii _ _) ?_ | refine w_o (ne_ii _ _) ?_ | refine w_o (eq_ss _ _) ?_ | refine w_o (ne_ss _ _) ?_ | refine w_o rfl ?_) | (guard_target =~ WL ..; first | refine w_c (by assumption) ?_) | (guard_target =~ WLp ..; first | refine w_cp (by assumption) ?_) | (guard_target =~ WB ..; first | refine w_bt ?_ | refine w_bf ?_) | (guard_target =~ WE ..; first | refine w_var rfl ?_ | refine w_varo rfl (by (simp only [wipeE, backE, List.set_cons_succ, List.set_cons_zero, List.getElem?_cons_succ, List.getElem?_cons_zero, Option.getD_some, Option.getD_none]; first | done | rfl)) ?_ | refine w_vark rfl (by (simp only [wipeE, backE, List.set_cons_succ, List.set_cons_zero, List.getElem?_cons_succ, List.getElem?_cons_zero, Option.getD_some, Option.getD_none]; first | done | rfl)) ?_) | (guard_target =~ WP ..; first | refine w_put rfl (by (simp only [wipeE, backE, List.set_cons_succ, List.set_cons_zero, List.getElem?_cons_succ, List.getElem?_cons_zero, Option.getD_some, Option.getD_none]; first | done | rfl)) ?_))))
theorem XI_eq : XI = excI glob FU tab := by funext k; unfold XI excI; rw [SI_eq]

def retP : Option (Fl × En) → Option (PyData × Option (List PyData))
  | some (.ret x, ρ) => some (x, penOf ρ)
  | _ => none
theorem ws_ret {c : Cfg} {ss : List Sm} {ρ : En} {x : PyData} {q : List PyData} (h : retP (exs c ss ρ) = some (x, some q)) : WS c ss ρ fun fl ρ => fl = .ret x ∧ penOf ρ = some q := by
  cases e : exs c ss ρ with
  | none => rw [e] at h; cases h
  | some p =>
    obtain ⟨fl, ρ'⟩ := p
    rw [e] at h
    cases fl with
    | ret y =>
      simp only [retP, Option.some.injEq, Prod.mk.injEq] at h
      obtain ⟨rfl, h⟩ := h
      exact ⟨_, ρ', e, rfl, h⟩
    | _ => cases h
theorem z_line0_0 (q0 p1 q2 : Int) : retP (exs ⟨callI glob FU tab 18, glob, FU, excI glob FU tab 18⟩ (b_law_line_right.drop 2) [some (.own true [.int q0, .int p1, .int q2]), some (.d (.int 1)), some (.d (.int 0)), none, none, none, none, none, none]) = some (.bool true, some [.int q0, .int p1, .int q2]) := by kernel_rfl
theorem z_line0_1 (q0 p1 q2 : Int) : retP (exs ⟨callI glob FU tab 18, glob, FU, excI glob FU tab 18⟩ (b_law_line_right.drop 2) [some (.own true [.int q0, .int p1, .int q2]), some (.d (.int 1)), some (.d (.int 1)), none, none, none, none, none, none]) = some (.bool true, some [.int q0, .int p1, .int q2]) := by kernel_rfl
theorem z_line1_0 (q0 p1 q2 : Int) : retP (exs ⟨callI glob FU tab 18, glob, FU, excI glob FU tab 18⟩ (b_law_line_right.drop 2) [some (.own true [.int q0, .int p1, .int q2]), some (.d (.int 2)), some (.d (.int 0)), none, none, none, none, none, none]) = some (.bool true, some [.int q0, .int p1, .int q2]) := by kernel_rfl
theorem z_line1_1 (q0 p1 q2 : Int) : retP (exs ⟨callI glob FU tab 18, glob, FU, excI glob FU tab 18⟩ (b_law_line_right.drop 2) [some (.own true [.int q0, .int p1, .int q2]), some (.d (.int 2)), some (.d (.int 1)), none, none, none, none, none, none]) = some (.bool true, some [.int q0, .int p1, .int q2]) := by kernel_rfl
theorem z_line1_2 (q0 p1 q2 : Int) : retP (exs ⟨callI glob FU tab 18, glob, FU, excI glob FU tab 18⟩ (b_law_line_right.drop 2) [some (.own true [.int q0, .int p1, .int q2]), some (.d (.int 2)), some (.d (.int 2)), none, none, none, none, none, none]) = some (.bool true, some [.int q0, .int p1, .int q2]) := by kernel_rfl
theorem z_line2_0 (q0 p1 q2 : Int) : retP (exs ⟨callI glob FU tab 18, glob, FU, excI glob FU tab 18⟩ (b_law_line_right.drop 2) [some (.own true [.int q0, .int p1, .int q2]), some (.d (.int 3)), some (.d (.int 0)), none, none, none, none, none, none]) = some (.bool true, some [.int q0, .int p1, .int q2]) := by kernel_rfl
theorem z_line2_1 (q0 p1 q2 : Int) : retP (exs ⟨callI glob FU tab 18, glob, FU, excI glob FU tab 18⟩ (b_law_line_right.drop 2) [some (.own true [.int q0, .int p1, .int q2]), some (.d (.int 3)), some (.d (.int 1)), none, none, none, none, none, none]) = some (.bool true, some [.int q0, .int p1, .int q2]) := by kernel_rfl
theorem z_line2_2 (q0 p1 q2 : Int) : retP (exs ⟨callI glob FU tab 18, glob, FU, excI glob FU tab 18⟩ (b_law_line_right.drop 2) [some (.own true [.int q0, .int p1, .int q2]), some (.d (.int 3)), some (.d (.int 2)), none, none, none, none, none, none]) = some (.bool true, some [.int q0, .int p1, .int q2]) := by kernel_rfl
theorem z_line2_3 (q0 p1 q2 : Int) : retP (exs ⟨callI glob FU tab 18, glob, FU, excI glob FU tab 18⟩ (b_law_line_right.drop 2) [some (.own true [.int q0, .int p1, .int q2]), some (.d (.int 3)), some (.d (.int 3)), none, none, none, none, none, none]) = some (.bool true, some [.int q0, .int p1, .int q2]) := by kernel_rfl
theorem z_line3_0 (q0 p1 q2 : Int) : retP (exs ⟨callI glob FU tab 18, glob, FU, excI glob FU tab 18⟩ (b_law_line_right.drop 2) [some (.own true [.int q0, .int p1, .int q2]), some (.d (.int 4)), some (.d (.int 0)), none, none, none, none, none, none]) = some (.bool true, some [.int q0, .int p1, .int q2]) := by kernel_rfl
theorem z_line3_1 (q0 p1 q2 : Int) : retP (exs ⟨callI glob FU tab 18, glob, FU, excI glob FU tab 18⟩ (b_law_line_right.drop 2) [some (.own true [.int q0, .int p1, .int q2]), some (.d (.int 4)), some (.d (.int 1)), none, none, none, none, none, none]) = some (.bool true, some [.int q0, .int p1, .int q2]) := by kernel_rfl
theorem z_line3_2 (q0 p1 q2 : Int) : retP (exs ⟨callI glob FU tab 18, glob, FU, excI glob FU tab 18⟩ (b_law_line_right.drop 2) [some (.own true [.int q0, .int p1, .int q2]), some (.d (.int 4)), some (.d (.int 2)), none, none, none, none, none, none]) = some (.bool true, some [.int q0, .int p1, .int q2]) := by kernel_rfl
theorem z_line3_3 (q0 p1 q2 : Int) : retP (exs ⟨callI glob FU tab 18, glob, FU, excI glob FU tab 18⟩ (b_law_line_right.drop 2) [some (.own true [.int q0, .int p1, .int q2]), some (.d (.int 4)), some (.d (.int 3)), none, none, none, none, none, none]) = some (.bool true, some [.int q0, .int p1, .int q2]) := by kernel_rfl
theorem z_line3_4 (q0 p1 q2 : Int) : retP (exs ⟨callI glob FU tab 18, glob, FU, excI glob FU tab 18⟩ (b_law_line_right.drop 2) [some (.own true [.int q0, .int p1, .int q2]), some (.d (.int 4)), some (.d (.int 4)), none, none, none, none, none, none]) = some (.bool true, some [.int q0, .int p1, .int q2]) := by kernel_rfl
theorem z_line4_0 (q0 p1 q2 : Int) : retP (exs ⟨callI glob FU tab 18, glob, FU, excI glob FU tab 18⟩ (b_law_line_right.drop 2) [some (.own true [.int q0, .int p1, .int q2]), some (.d (.int 5)), some (.d (.int 0)), none, none, none, none, none, none]) = some (.bool true, some [.int q0, .int p1, .int q2]) := by kernel_rfl
theorem z_line4_1 (q0 p1 q2 : Int) : retP (exs ⟨callI glob FU tab 18, glob, FU, excI glob FU tab 18⟩ (b_law_line_right.drop 2) [some (.own true [.int q0, .int p1, .int q2]), some (.d (.int 5)), some (.d (.int 1)), none, none, none, none, none, none]) = some (.bool true, some [.int q0, .int p1, .int q2]) := by kernel_rfl
theorem z_line4_2 (q0 p1 q2 : Int) : retP (exs ⟨callI glob FU tab 18, glob, FU, excI glob FU tab 18⟩ (b_law_line_right.drop 2) [some (.own true [.int q0, .int p1, .int q2]), some (.d (.int 5)), some (.d (.int 2)), none, none, none, none, none, none]) = some (.bool true, some [.int q0, .int p1, .int q2]) := by kernel_rfl
theorem z_line4_3 (q0 p1 q2 : Int) : retP (exs ⟨callI glob FU tab 18, glob, FU, excI glob FU tab 18⟩ (b_law_line_right.drop 2) [some (.own true [.int q0, .int p1, .int q2]), some (.d (.int 5)), some (.d (.int 3)), none, none, none, none, none, none]) = some (.bool true, some [.int q0, .int p1, .int q2]) := by kernel_rfl
theorem z_line4_4 (q0 p1 q2 : Int) : retP (exs ⟨callI glob FU tab 18, glob, FU, excI glob FU tab 18⟩ (b_law_line_right.drop 2) [some (.own true [.int q0, .int p1, .int q2]), some (.d (.int 5)), some (.d (.int 4)), none, none, none, none, none, none]) = some (.bool true, some [.int q0, .int p1, .int q2]) := by kernel_rfl
theorem z_line4_5 (q0 p1 q2 : Int) : retP (exs ⟨callI glob FU tab 18, glob, FU, excI glob FU tab 18⟩ (b_law_line_right.drop 2) [some (.own true [.int q0, .int p1, .int q2]), some (.d (.int 5)), some (.d (.int 5)), none, none, none, none, none, none]) = some (.bool true, some [.int q0, .int p1, .int q2]) := by kernel_rfl
theorem z_line5_0 (q0 p1 q2 : Int) : retP (exs ⟨callI glob FU tab 18, glob, FU, excI glob FU tab 18⟩ (b_law_line_right.drop 2) [some (.own true [.int q0, .int p1, .int q2]), some (.d (.int 6)), some (.d (.int 0)), none, none, none, none, none, none]) = some (.bool true, some [.int q0, .int p1, .int q2]) := by kernel_rfl
theorem z_line5_1 (q0 p1 q2 : Int) : retP (exs ⟨callI glob FU tab 18, glob, FU, excI glob FU tab 18⟩ (b_law_line_right.drop 2) [some (.own true [.int q0, .int p1, .int q2]), some (.d (.int 6)), some (.d (.int 1)), none, none, none, none, none, none]) = some (.bool true, some [.int q0, .int p1, .int q2]) := by kernel_rfl
theorem z_line5_2 (q0 p1 q2 : Int) : retP (exs ⟨callI glob FU tab 18, glob, FU, excI glob FU tab 18⟩ (b_law_line_right.drop 2) [some (.own true [.int q0, .int p1, .int q2]), some (.d (.int 6)), some (.d (.int 2)), none, none, none, none, none, none]) = some (.bool true, some [.int q0, .int p1, .int q2]) := by kernel_rfl
theorem z_line5_3 (q0 p1 q2 : Int) : retP (exs ⟨callI glob FU tab 18, glob, FU, excI glob FU tab 18⟩ (b_law_line_right.drop 2) [some (.own true [.int q0, .int p1, .int q2]), some (.d (.int 6)), some (.d (.int 3)), none, none, none, none, none, none]) = some (.bool true, some [.int q0, .int p1, .int q2]) := by kernel_rfl
theorem z_line5_4 (q0 p1 q2 : Int) : retP (exs ⟨callI glob FU tab 18, glob, FU, excI glob FU tab 18⟩ (b_law_line_right.drop 2) [some (.own true [.int q0, .int p1, .int q2]), some (.d (.int 6)), some (.d (.int 4)), none, none, none, none, none, none]) = some (.bool true, some [.int q0, .int p1, .int q2]) := by kernel_rfl
theorem z_line5_5 (q0 p1 q2 : Int) : retP (exs ⟨callI glob FU tab 18, glob, FU, excI glob FU tab 18⟩ (b_law_line_right.drop 2) [some (.own true [.int q0, .int p1, .int q2]), some (.d (.int 6)), some (.d (.int 5)), none, none, none, none, none, none]) = some (.bool true, some [.int q0, .int p1, .int q2]) := by kernel_rfl
theorem z_line5_6 (q0 p1 q2 : Int) : retP (exs ⟨callI glob FU tab 18, glob, FU, excI glob FU tab 18⟩ (b_law_line_right.drop 2) [some (.own true [.int q0, .int p1, .int q2]), some (.d (.int 6)), some (.d (.int 6)), none, none, none, none, none, none]) = some (.bool true, some [.int q0, .int p1, .int q2]) := by kernel_rfl
theorem z_ring0 (q0 p1 q2 : Int) : retP (exs ⟨callI glob FU tab 18, glob, FU, excI glob FU tab 18⟩ (b_law_ring_right.drop 1) [some (.own true [.int q0, .int p1, .int q2]), some (.d (.int 2)), none, none, none, none, none, none, none, none]) = some (.bool true, some [.int q0, .int p1, .int q2]) := by kernel_rfl
theorem z_ring1 (q0 p1 q2 : Int) : retP (exs ⟨callI glob FU tab 18, glob, FU, excI glob FU tab 18⟩ (b_law_ring_right.drop 1) [some (.own true [.int q0, .int p1, .int q2]), some (.d (.int 3)), none, none, none, none, none, none, none, none]) = some (.bool true, some [.int q0, .int p1, .int q2]) := by kernel_rfl
theorem z_ring2 (q0 p1 q2 : Int) : retP (exs ⟨callI glob FU tab 18, glob, FU, excI glob FU tab 18⟩ (b_law_ring_right.drop 1) [some (.own true [.int q0, .int p1, .int q2]), some (.d (.int 4)), none, none, none, none, none, none, none, none]) = some (.bool true, some [.int q0, .int p1, .int q2]) := by kernel_rfl
theorem z_ring3 (q0 p1 q2 : Int) : retP (exs ⟨callI glob FU tab 18, glob, FU, excI glob FU tab 18⟩ (b_law_ring_right.drop 1) [some (.own true [.int q0, .int p1, .int q2]), some (.d (.int 5)), none, none, none, none, none, none, none, none]) = some (.bool true, some [.int q0, .int p1, .int q2]) := by kernel_rfl
theorem z_side0 (q0 p1 q2 : Int) : retP (exs ⟨callI glob FU tab 18, glob, FU, excI glob FU tab 18⟩ (b_law_side_right.drop 1) [some (.own true [.int q0, .int p1, .int q2]), some (.d (.int 1)), none, none, none, none, none, none]) = some (.bool true, some [.int q0, .int p1, .int q2]) := by kernel_rfl
theorem z_side1 (q0 p1 q2 : Int) : retP (exs ⟨callI glob FU tab 18, glob, FU, excI glob FU tab 18⟩ (b_law_side_right.drop 1) [some (.own true [.int q0, .int p1, .int q2]), some (.d (.int 2)), none, none, none, none, none, none]) = some (.bool true, some [.int q0, .int p1, .int q2]) := by kernel_rfl
theorem z_side2 (q0 p1 q2 : Int) : retP (exs ⟨callI glob FU tab 18, glob, FU, excI glob FU tab 18⟩ (b_law_side_right.drop 1) [some (.own true [.int q0, .int p1, .int q2]), some (.d (.int 3)), none, none, none, none, none, none]) = some (.bool true, some [.int q0, .int p1, .int q2]) := by kernel_rfl
theorem z_side3 (q0 p1 q2 : Int) : retP (exs ⟨callI glob FU tab 18, glob, FU, excI glob FU tab 18⟩ (b_law_side_right.drop 1) [some (.own true [.int q0, .int p1, .int q2]), some (.d (.int 4)), none, none, none, none, none, none]) = some (.bool true, some [.int q0, .int p1, .int q2]) := by kernel_rfl
theorem z_side4 (q0 p1 q2 : Int) : retP (exs ⟨callI glob FU tab 18, glob, FU, excI glob FU tab 18⟩ (b_law_side_right.drop 1) [some (.own true [.int q0, .int p1, .int q2]), some (.d (.int 5)), none, none, none, none, none, none]) = some (.bool true, some [.int q0, .int p1, .int q2]) := by kernel_rfl
theorem z_side5 (q0 p1 q2 : Int) : retP (exs ⟨callI glob FU tab 18, glob, FU, excI glob FU tab 18⟩ (b_law_side_right.drop 1) [some (.own true [.int q0, .int p1, .int q2]), some (.d (.int 6)), none, none, none, none, none, none]) = some (.bool true, some [.int q0, .int p1, .int q2]) := by kernel_rfl
theorem c_line {p0 p1 p2 : Int} (h0 : 0 ≤ p0) : ∃ q0 q2 : Int, 0 ≤ q0 ∧ CI 19 "_law_line_right" (some [.int p0, .int p1, .int p2]) [] = some (.bool true, some [.int q0, .int p1, .int q2]) := by
  obtain ⟨r, q0, q2, r0, r1, hq, e1⟩ := c_draw 16 p0 p1 p2 6 h0 (by decide) (by decide)
  obtain ⟨s, t0, t2, s0, s1, ht, e2⟩ := c_draw 16 q0 p1 q2 (1 + r + 1) hq (by omega) (by omega)
  refine ⟨t0, t2, ht, ?_⟩
  rw [u_law_line_right]
  refine w_runp (f := f_law_line_right) (by unfold f_law_line_right b_law_line_right; rfl) (by simp only [startE, f_law_line_right, List.map_cons, List.map_nil, List.replicate, List.nil_append, List.cons_append, Nat.reduceSub]; rfl) rfl rfl ?_
  refine w_cut (p := [_, _]) (fun ρ => ρ = [some (.own true [.int t0, .int p1, .int t2]), some (.d (.int (1 + r))), some (.d (.int s)), none, none, none, none, none, none]) ?_ ?_
  · sleep 1
    exact ⟨rfl, rfl⟩
  · rintro ρ rfl
    refine ws_ret ?_
    rw [CI_eq, XI_eq]
    clear e1 e2
    rcases (by omega : r = 0 ∨ r = 1 ∨ r = 2 ∨ r = 3 ∨ r = 4 ∨ r = 5) with rfl | rfl | rfl | rfl | rfl | rfl
    · rcases (by omega : s = 0 ∨ s = 1) with rfl | rfl
      · exact z_line0_0 t0 p1 t2
      · exact z_line0_1 t0 p1 t2
    · rcases (by omega : s = 0 ∨ s = 1 ∨ s = 2) with rfl | rfl | rfl
      · exact z_line1_0 t0 p1 t2
      · exact z_line1_1 t0 p1 t2
      · exact z_line1_2 t0 p1 t2
    · rcases (by omega : s = 0 ∨ s = 1 ∨ s = 2 ∨ s = 3) with rfl | rfl | rfl | rfl
      · exact z_line2_0 t0 p1 t2
      · exact z_line2_1 t0 p1 t2
      · exact z_line2_2 t0 p1 t2
      · exact z_line2_3 t0 p1 t2
    · rcases (by omega : s = 0 ∨ s = 1 ∨ s = 2 ∨ s = 3 ∨ s = 4) with rfl | rfl | rfl | rfl | rfl
      · exact z_line3_0 t0 p1 t2
      · exact z_line3_1 t0 p1 t2
      · exact z_line3_2 t0 p1 t2
      · exact z_line3_3 t0 p1 t2
      · exact z_line3_4 t0 p1 t2
    · rcases (by omega : s = 0 ∨ s = 1 ∨ s = 2 ∨ s = 3 ∨ s = 4 ∨ s = 5) with rfl | rfl | rfl | rfl | rfl | rfl
      · exact z_line4_0 t0 p1 t2
      · exact z_line4_1 t0 p1 t2
      · exact z_line4_2 t0 p1 t2
      · exact z_line4_3 t0 p1 t2
      · exact z_line4_4 t0 p1 t2
      · exact z_line4_5 t0 p1 t2
    · rcases (by omega : s = 0 ∨ s = 1 ∨ s = 2 ∨ s = 3 ∨ s = 4 ∨ s = 5 ∨ s = 6) with rfl | rfl | rfl | rfl | rfl | rfl | rfl
      · exact z_line5_0 t0 p1 t2
      · exact z_line5_1 t0 p1 t2
      · exact z_line5_2 t0 p1 t2
      · exact z_line5_3 t0 p1 t2
      · exact z_line5_4 t0 p1 t2
      · exact z_line5_5 t0 p1 t2
      · exact z_line5_6 t0 p1 t2
theorem c_ring {p0 p1 p2 : Int} (h0 : 0 ≤ p0) : ∃ q0 q2 : Int, 0 ≤ q0 ∧ CI 19 "_law_ring_right" (some [.int p0, .int p1, .int p2]) [] = some (.bool true, some [.int q0, .int p1, .int q2]) := by
  obtain ⟨r, q0, q2, r0, r1, hq, e1⟩ := c_draw 16 p0 p1 p2 4 h0 (by decide) (by decide)
  refine ⟨q0, q2, hq, ?_⟩
  rw [u_law_ring_right]
  refine w_runp (f := f_law_ring_right) (by unfold f_law_ring_right b_law_ring_right; rfl) (by simp only [startE, f_law_ring_right, List.map_cons, List.map_nil, List.replicate, List.nil_append, List.cons_append, Nat.reduceSub]; rfl) rfl rfl ?_
  refine w_cut (p := [_]) (fun ρ => ρ = [some (.own true [.int q0, .int p1, .int q2]), some (.d (.int (2 + r))), none, none, none, none, none, none, none, none]) ?_ ?_
  · sleep 1
    exact ⟨rfl, rfl⟩
  · rintro ρ rfl
    refine ws_ret ?_
    rw [CI_eq, XI_eq]
    clear e1
    rcases (by omega : r = 0 ∨ r = 1 ∨ r = 2 ∨ r = 3) with rfl | rfl | rfl | rfl
    · exact z_ring0 q0 p1 q2
    · exact z_ring1 q0 p1 q2
    · exact z_ring2 q0 p1 q2
    · exact z_ring3 q0 p1 q2
theorem c_side {p0 p1 p2 : Int} (h0 : 0 ≤ p0) : ∃ q0 q2 : Int, 0 ≤ q0 ∧ CI 19 "_law_side_right" (some [.int p0, .int p1, .int p2]) [] = some (.bool true, some [.int q0, .int p1, .int q2]) := by
  obtain ⟨r, q0, q2, r0, r1, hq, e1⟩ := c_draw 16 p0 p1 p2 6 h0 (by decide) (by decide)
  refine ⟨q0, q2, hq, ?_⟩
  rw [u_law_side_right]
  refine w_runp (f := f_law_side_right) (by unfold f_law_side_right b_law_side_right; rfl) (by simp only [startE, f_law_side_right, List.map_cons, List.map_nil, List.replicate, List.nil_append, List.cons_append, Nat.reduceSub]; rfl) rfl rfl ?_
  refine w_cut (p := [_]) (fun ρ => ρ = [some (.own true [.int q0, .int p1, .int q2]), some (.d (.int (1 + r))), none, none, none, none, none, none]) ?_ ?_
  · sleep 1
    exact ⟨rfl, rfl⟩
  · rintro ρ rfl
    refine ws_ret ?_
    rw [CI_eq, XI_eq]
    clear e1
    rcases (by omega : r = 0 ∨ r = 1 ∨ r = 2 ∨ r = 3 ∨ r = 4 ∨ r = 5) with rfl | rfl | rfl | rfl | rfl | rfl
    · exact z_side0 q0 p1 q2
    · exact z_side1 q0 p1 q2
    · exact z_side2 q0 p1 q2
    · exact z_side3 q0 p1 q2
    · exact z_side4 q0 p1 q2
    · exact z_side5 q0 p1 q2

theorem cat_lln (xs ys : List PyData) (h : xs.length + ys.length ≤ 1000) : binD .add (.list xs) (.list ys) = some (.list (xs ++ ys)) := by
  show (if xs.length + ys.length ≤ sizeLine then some (PyData.list (xs ++ ys)) else none) = _
  rw [if_pos (Nat.le_trans h (by decide))]
theorem cut_13 (xs : List PyData) : cutD xs (some 1) (some 3) = (xs.drop 1).take 2 := by
  cases xs with
  | nil => rfl
  | cons x xs =>
    cases xs with
    | nil => rfl
    | cons y xs =>
      cases xs with
      | nil => rfl
      | cons z xs =>
        have a : HT.sIx (x :: y :: z :: xs).length 0 (some 1) = 1 := by
          have := HT.sIx_nat (n := (x :: y :: z :: xs).length) (d := 0) (k := 1)
          rw [show ((1 : Nat) : Int) = 1 from rfl] at this
          rw [this]
          first | done | simp
        have b : HT.sIx (x :: y :: z :: xs).length (x :: y :: z :: xs).length (some 3) = 3 := by
          have := HT.sIx_nat (n := (x :: y :: z :: xs).length) (d := (x :: y :: z :: xs).length) (k := 3)
          rw [show ((3 : Nat) : Int) = 3 from rfl] at this
          rw [this]
          first | done | simp
        unfold cutD
        rw [a, b]
        first | done | rfl
/-- where the fixed ones lead -/
def nextP : Option (Fl × En) → Option (Option (Option Sv) × Nat)
  | some (.next, ρ) => some (ρ[0]?, ρ.length)
  | _ => none
theorem ws_next {c : Cfg} {ss : List Sm} {ρ : En} {s : Option (Option Sv)} {n : Nat} (h : nextP (exs c ss ρ) = some (s, n)) : WS c ss ρ fun fl ρ => fl = .next ∧ ρ[0]? = s ∧ ρ.length = n := by
  cases e : exs c ss ρ with
  | none => rw [e] at h; cases h
  | some p =>
    obtain ⟨fl, ρ'⟩ := p
    rw [e] at h
    cases fl with
    | next =>
      simp only [nextP, Option.some.injEq, Prod.mk.injEq] at h
      exact ⟨_, ρ', e, rfl, h⟩
    | _ => cases h
theorem law_true (ns : List Int) (h : ns.length ≤ 63) : callI glob FU tab 20 "law" none [.list (ns.map .int)] = some (.bool true, none) := by
  rw [← CI_eq, u_law]
  have e1 := c_cell 18 ns 0
  have sl : slD (.list (ns.map .int)) (some 1) (some 3) = some (.list (((ns.drop 1).take 2).map .int)) := by
    show some (PyData.list (cutD _ _ _)) = _
    rw [cut_13, ← List.map_drop, ← List.map_take]
  have cl : ((ns.drop 1).take 2).length ≤ 2 := by rw [List.length_take]; omega
  obtain ⟨cs, hcs⟩ : ∃ cs, cs = (ns.drop 1).take 2 := ⟨_, rfl⟩
  rw [← hcs] at sl cl
  refine w_run (f := f_law) (by unfold f_law b_law; rfl) (by simp only [startE, f_law, List.map_cons, List.map_nil, List.replicate, List.nil_append, List.cons_append, Nat.reduceSub]; rfl) rfl rfl (.inl rfl) ?_
  refine w_cut (p := [_, _, _, _, _, _, _]) (fun ρ => ∃ s1 s2 s3 s4 s5 s6, ρ = [some (Sv.d (.list (ns.map .int))), s1, s2, s3, s4, s5, s6]) ?_ ?_
  · refine WS.mono (ws_next (s := some (some (.d (.list (ns.map .int))))) (n := 7) ?_) ?_
    · clear e1 sl cl hcs
      rw [CI_eq, XI_eq]
      generalize ns.map PyData.int = L
      kernel_rfl
    · rintro fl ρ ⟨rfl, h0, hl⟩
      refine ⟨rfl, ?_⟩
      match ρ, h0, hl with
      | [a, s1, s2, s3, s4, s5, s6], h0, _ =>
        simp at h0
        subst h0
        exact ⟨_, _, _, _, _, _, rfl⟩
  · rintro ρ ⟨s1, s2, s3, s4, s5, s6, rfl⟩
    refine w_for (dd := PyData.int) (as := ns.getD 0 0 :: cs) (b0 := ()) (fun _ ρ => ∃ s1 s2 s3 s4 s5 s6, ρ = [some (Sv.d (.list (ns.map .int))), s1, s2, s3, s4, s5, s6]) (fun _ _ => ()) ?_ ?_ ?_
    · sleep 1
      refine w_o (cat_lln _ _ (by rw [List.length_map]; simp only [List.length_cons, List.length_nil]; omega)) ?_
      sleep 1
      exact ⟨rfl, _, _, _, _, _, _, rfl⟩
    · rintro c hc _ ρ ⟨s1, s2, s3, s4, s5, s6, rfl⟩
      obtain ⟨p0, p1, p2, hp, e2⟩ := c_pen 18 c
      obtain ⟨q0, q2, hq, e3⟩ := c_line (p1 := p1) (p2 := p2) hp
      obtain ⟨t0, t2, ht, e4⟩ := c_ring (p1 := p1) (p2 := q2) hq
      obtain ⟨v0, v2, hv, e5⟩ := c_side (p1 := p1) (p2 := t2) ht
      sleep 1
      exact ⟨rfl, _, _, _, _, _, _, rfl⟩
    · rintro ρ ⟨s1, s2, s3, s4, s5, s6, rfl⟩
      sleep 1
      rfl

end Wh
open PySem PySem.W PyProof.Rows
theorem PySem.Challenge.cw_waterheads_k31_cuts_by_hand_holds : PySem.Challenge.rw_waterheads_k31_cuts_by_hand.Holds := by
  w_on; o_law
  refine HandSHeadRun.head_any (r := (PySem.W.OpenLaw.row PySem.Challenge.rw_waterheads_k31_cuts_by_hand)) (q := view (PySem.W.OpenLaw.row PySem.Challenge.rw_waterheads_k31_cuts_by_hand).prog [56]) (H := Wh.hk) (ob := Wh.hOb) (M := 2368) (loose := Wh.hNames) (d := HandSHeadRun.topDef (PySem.W.OpenLaw.row PySem.Challenge.rw_waterheads_k31_cuts_by_hand).prog 56) (kwd := []) Wh.hOb_eq (by kernel_rfl) (fun s => by kernel_rfl) Wh.hRun (by kernel_rfl) (by kernel_rfl) (by kernel_rfl) (by rfl) (by first | assumption | decide +kernel) (by decide +kernel) ⟨rfl, rfl, rfl, rfl, rfl, by decide +kernel⟩ ?hw ?hc
  case hw => w_witness2
  case hc => exact Wh.walk_fact (l := PySem.Challenge.rw_waterheads_k31_cuts_by_hand) (n := 63) 20 (x := "_law_script") "law" Wh.tab Wh.glob Wh.FU Wh.csL (by kernel_rfl) rfl (by decide) (by kernel_rfl) ⟨rfl, by decide, by decide⟩ rfl (by decide +kernel) (by decide) Wh.law_true (fun w mg h Y G => Wh.hAll Y G)
