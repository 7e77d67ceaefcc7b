import PyProof.Rows.All
import Wide.All
import OpenK.AllK
import Wide.FinOn
import KE.KStateDown
import HandS.Base
import HandS.Call
import HandS.Ends
import HandS.More
import HandS.Words
import HandS.WordsExc
import HandS.Defaults
import HandS.Head0
import HandS.Head1
import HandS.Head2
import HandS.HeadEnd
import HandS.HeadHook1
import HandS.HeadHook2
import HandS.ForMost
import HandS.Deep
import HandS.Flow
import KE.KeyNested
import KE.KDictKeyed
import HandS.IsInst
import HandS.TupAny
import HandS.TupSets
import HandS.TupLe
import HandS.Walk
import HandS.Comp
import HandS.Iter
import HandS.Style
import HandS.Property
import KE.SortData
import KE.SortKeyHeap
import HandS.Dict
import HandS.Sort
import HandS.Strs
import KE.DataFind
import PyProof.Rows.SeqMore
import PyProof.ReprRoads
import OpenK.KMore
import KE.KDictDisplayH
import HandS.SortKw
import PySem.Challenge.RW_lanekeepers_k01_whole_all_stands_of_smal
set_option Elab.async false
set_option linter.all false
set_option maxRecDepth 100000
set_option maxHeartbeats 2000000
/-! D00: the text by places. -/
namespace Lk
open PySem
def top (i : Nat) : Stmt := PySem.Challenge.pw_lanekeepers_k01_whole_all_stands_of_smal.main.body.getD i (.Pass ⟨0, 0, 0, 0⟩)
def clsM (st : Stmt) (i : Nat) : Stmt := match st with
  | .ClassDef _ _ _ body _ _ _ _ _ _ _ => body.getD i (.Pass ⟨0, 0, 0, 0⟩)
  | _ => .Pass ⟨0, 0, 0, 0⟩
end Lk
set_option Elab.async false
set_option linter.all false
set_option maxRecDepth 100000
set_option maxHeartbeats 0
/-! HeadD: the head with all defs. Printed by genHead.py. -/
namespace Lk
open PySem PySem.Spec PyProof.Rows L2
def mkD (x : Str) (i : Nat) : He.DefD := ⟨(x, none), x, x, defArgs (top i), defBody (top i), defScope (top i), [], []⟩
def mkI (C q : Str) (st : Stmt) : He.DefD := ⟨(C, some "__init__"), "__init__", q, defArgs st, defBody st, defScope st, [], []⟩

def hfn0 : List He.DefD := [mkD "law" 108, mkD "is_integer" 12, mkD "is_count" 13, mkD "is_list" 14, mkD "lane_in" 18, mkD "ties_of" 19, mkD "is_whole" 20, mkD "ahead_of" 21]
def hfn1 : List He.DefD := [mkD "lanes_in" 22, mkD "beside" 24, mkD "yards_in" 25, mkD "is_place" 26, mkD "is_yard" 27, mkD "is_gate" 28, mkD "want_country" 29, mkD "want_yard" 30]
def hfn2 : List He.DefD := [mkD "pairs_at" 35, mkD "plus_cart" 36, mkD "is_end_for" 37, mkD "is_bound_for" 38, mkD "alternative_in" 39, mkD "keeps" 40, mkD "stands_by_one" 41, mkD "stands_by" 42]
def hfn3 : List He.DefD := [mkD "book_in" 43, mkD "want_book" 44, mkD "way_between" 47, mkD "step_towards" 48, mkD "yards_behind" 49, mkD "book_at" 52, mkD "country_of" 53, mkD "want_web" 54]
def hfn4 : List He.DefD := [mkD "pairs_towards" 57, mkD "towards" 58, mkD "yard_sides" 60, mkD "is_shut" 61, mkD "has_plug" 62, mkD "load_weight" 63, mkD "sides_plugged" 64, mkD "common_yards" 66]
def hfn5 : List He.DefD := [mkD "posts_of" 67, mkD "are_facing" 68, mkD "facing_pairs" 69, mkD "posts" 70, mkD "is_post" 71, mkD "can_be_stuck" 72, mkD "facing" 73, mkD "way_of_cart" 76]
def hfn6 : List He.DefD := [mkD "cart_next" 77, mkD "pair_on" 78, mkD "cart_pair" 79, mkD "load_of_carts" 80, mkD "stand_in" 81, mkD "want_stand" 82, mkD "is_stand" 83, mkD "on_of" 85]
def hfn7 : List He.DefD := [mkD "come_to" 86, mkD "stand_behind" 87, mkD "kinds_of" 88, mkD "refused_of" 89, mkD "is_stuck_in" 90, mkD "refused" 91, mkD "is_stuck" 92, mkD "_law_pot" 94]
def hfn8 : List He.DefD := [mkD "_law_draw" 95, mkD "_law_pick" 96, mkD "_law_shape" 97, mkD "_law_bound" 98, mkD "_law_book" 99, mkD "_law_pair" 100, mkD "_law_lets" 101, mkD "_law_comes" 102]
def hfn9 : List He.DefD := [mkD "_law_on" 103, mkD "_law_all" 104, mkD "_law_is_plugged" 105, mkD "_law_told" 106, mkD "_law_right" 107, { mkD "standing_by" 56 with dfl := [.non] }, mkI "Country" "Country.__init__" (clsM (top 23) 0), mkI "Web" "Web.__init__" (clsM (top 51) 0)]
def hfn : List He.DefD := hfn0 ++ (hfn1 ++ (hfn2 ++ (hfn3 ++ (hfn4 ++ (hfn5 ++ (hfn6 ++ (hfn7 ++ (hfn8 ++ (hfn9)))))))))
def hfa0 : List He.Fa := [.glo "law", .glo "is_integer", .glo "is_count", .glo "is_list", .glo "lane_in", .glo "ties_of", .glo "is_whole", .glo "ahead_of"]
def hfa1 : List He.Fa := [.glo "lanes_in", .glo "beside", .glo "yards_in", .glo "is_place", .glo "is_yard", .glo "is_gate", .glo "want_country", .glo "want_yard"]
def hfa2 : List He.Fa := [.glo "pairs_at", .glo "plus_cart", .glo "is_end_for", .glo "is_bound_for", .glo "alternative_in", .glo "keeps", .glo "stands_by_one", .glo "stands_by"]
def hfa3 : List He.Fa := [.glo "book_in", .glo "want_book", .glo "way_between", .glo "step_towards", .glo "yards_behind", .glo "book_at", .glo "country_of", .glo "want_web"]
def hfa4 : List He.Fa := [.glo "pairs_towards", .glo "towards", .glo "yard_sides", .glo "is_shut", .glo "has_plug", .glo "load_weight", .glo "sides_plugged", .glo "common_yards"]
def hfa5 : List He.Fa := [.glo "posts_of", .glo "are_facing", .glo "facing_pairs", .glo "posts", .glo "is_post", .glo "can_be_stuck", .glo "facing", .glo "way_of_cart"]
def hfa6 : List He.Fa := [.glo "cart_next", .glo "pair_on", .glo "cart_pair", .glo "load_of_carts", .glo "stand_in", .glo "want_stand", .glo "is_stand", .glo "on_of"]
def hfa7 : List He.Fa := [.glo "come_to", .glo "stand_behind", .glo "kinds_of", .glo "refused_of", .glo "is_stuck_in", .glo "refused", .glo "is_stuck", .glo "_law_pot"]
def hfa8 : List He.Fa := [.glo "_law_draw", .glo "_law_pick", .glo "_law_shape", .glo "_law_bound", .glo "_law_book", .glo "_law_pair", .glo "_law_lets", .glo "_law_comes"]
def hfa9 : List He.Fa := [.glo "_law_on", .glo "_law_all", .glo "_law_is_plugged", .glo "_law_told", .glo "_law_right", .glo "standing_by", .glo "Country", .glo "Web"]
def hfa10 : List He.Fa := [.free "len", .free "isinstance", .free "int", .free "bool", .free "list", .free "tuple", .free "all", .free "any"]
def hfa11 : List He.Fa := [.free "min", .free "max", .free "range", .free "sorted", .free "set", .free "enumerate", .free "zip", .free "sum"]
def hfa12 : List He.Fa := [.free "repr", .free "abs", .free "divmod", .int "MOST_YARDS" 7, .int "MOST_LANES" 4, .int "MOST_PLACES" 6, .int "MOST_BOUNDS" 6, .int "MOST_ALTERNATIVES" 4]
def hfa13 : List He.Fa := [.int "MOST_CARTS" 42, .cls "Country", .cls "Web", .noat "Country" "own_lanes", .noat "Country" "own_ties", .noat "Country" "own_ahead", .noat "Web" "own_country", .noat "Web" "own_books"]
def hfa14 : List He.Fa := [.mkr "Country", .mkr "Web"]
def hfa : List He.Fa := hfa0 ++ (hfa1 ++ (hfa2 ++ (hfa3 ++ (hfa4 ++ (hfa5 ++ (hfa6 ++ (hfa7 ++ (hfa8 ++ (hfa9 ++ (hfa10 ++ (hfa11 ++ (hfa12 ++ (hfa13 ++ (hfa14))))))))))))))
abbrev hR : PySem.W.OpenRow := PySem.W.OpenLaw.row PySem.Challenge.rw_lanekeepers_k01_whole_all_stands_of_smal
/-! ### the getter -/
abbrev gSt : Stmt := clsM (top 51) 1
def pAd (K : PySem.W.Frag) : Addr := He.ma K (He.ga K "Web") "country"
def gAd (K : PySem.W.Frag) : Addr := match PySem.W.recIn K (pAd K) "property" with
  | some (.ref g :: _) => g
  | _ => 0
def gW (K : PySem.W.Frag) : He.FnW := match K.lookup (gAd K) with
  | some ⟨_, _, .func fd, _⟩ => some (fd.name, fd.qualname, fd.params, fd.body, fd.scope, fd.globals, fd.closure, fd.builtins)
  | _ => none
def gVal : He.FnW := some ("country", "Web.country", defArgs gSt, .stmts (defBody gSt), defScope gSt, mainGlobals, [], builtinsNs)
def recB (K : PySem.W.Frag) : Bool := match PySem.W.recIn K (pAd K) "property" with
  | some (.ref _ :: _) => true
  | _ => false
def hgB (K : PySem.W.Frag) : Bool := He.eqO (PySem.W.findIn K (.ref (He.ga K "Web")) "country") (some (some (.ref (pAd K)))) && (He.eqO (PySem.W.specialIn K (.ref (pAd K)) "__get__") (some (some (.builtin "property.__get__"))) && (decide (PySem.W.takesIn K (.ref (pAd K)) = some true) && (recB K &&
  (PySem.W.keepIn K (.ref (gAd K)) && (match K.lookup (gAd K) with
  | some ⟨_, _, .func fd, _⟩ => PySem.W.codeIn K fd.code "Web.country" && He.dflB K fd.defaults []
  | _ => false)))))
def tupNo (o : Obj) : Bool := match o.cls with
  | .type c => !decide (c = "tuple") || o.dict.isNone
  | _ => true
def ktB (K : PySem.W.Frag) : Bool := K.all fun p => tupNo p.2
def isB (K : PySem.W.Frag) (x : Str) : Bool := He.eqO (PySem.W.findIn K (.ref (He.ga K x)) "__class__") (some (some (.builtin "object.__class__"))) && (decide (PySem.W.mroIn K (He.ga K x) (.type "object") = some true) && decide (PySem.W.kitOne K (.ref (He.ga K x)) (.ref (He.ga K x)) = some true))
def moreB (K : PySem.W.Frag) : Bool := ktB K && (isB K "Country" && (isB K "Web" && (He.eqO (PySem.W.specialIn K (.builtin "object.__class__") "__get__") (some (some (.builtin "getset_descriptor.__get__"))) && (decide (PySem.W.takesIn K (.builtin "object.__class__") = some true) && hgB K))))
abbrev HAl : Type := He.AlD × Bool × He.FnW
def hobs (K : PySem.W.Frag) : HAl := (He.obsD hfa hfn K, moreB K, gW K)
def hval : HAl := (He.valD hfn, true, gVal)
def hasR : List Addr := List.range 1500
abbrev hhk : PySem.W.Hook where
  α := HAl
  obs := fun s => hobs (He.frG s.heap.get? hasR)
  val := fun _ => hval
  says := fun _ h => ∃ K : PySem.W.Frag, K.In h ∧ hobs K = hval
  of := fun _ _ e => ⟨_, He.frG_in, e⟩
  keeps := fun _ _ _ ⟨K, hK, c⟩ k => ⟨K, PySem.W.Frag.In.keeps hK k, c⟩
def hob (s : PySem.W.SharedT) : HAl := hobs (He.frG (HandSHeadRun.getT s) hasR)
theorem hob_eq (s : PySem.W.SharedT) : hob s = hhk.obs s.abs := by
  have e : HandSHeadRun.getT s = s.abs.heap.get? := funext (HandSHeadRun.getT_eq s)
  unfold hob
  rw [e]

def hloose : List Str := (["_wall", "LaneError", "InvalidCountry", "InvalidPlace", "InvalidStand", "InvalidWeb", "InvalidYard", "InvalidBook", "InvalidBooks", "InvalidLanes", "is_integer", "is_count", "is_list", "MOST_YARDS", "MOST_LANES", "lane_in", "ties_of", "is_whole", "ahead_of", "lanes_in", "Country", "beside", "yards_in", "is_place", "is_yard", "is_gate", "want_country", "want_yard", "MOST_PLACES", "MOST_BOUNDS"] : List Str) ++ (["MOST_ALTERNATIVES", "pairs_at", "plus_cart", "is_end_for", "is_bound_for", "alternative_in", "keeps", "stands_by_one", "stands_by", "book_in", "want_book", "told_book", "way_between", "step_towards", "yards_behind", "Web", "book_at", "country_of", "want_web", "standing_by", "pairs_towards", "towards", "yard_sides", "is_shut", "has_plug", "load_weight", "sides_plugged", "common_yards", "posts_of", "are_facing"] : List Str) ++ (["facing_pairs", "posts", "is_post", "can_be_stuck", "facing", "MOST_CARTS", "way_of_cart", "cart_next", "pair_on", "cart_pair", "load_of_carts", "stand_in", "want_stand", "is_stand", "on_of", "come_to", "stand_behind", "kinds_of", "refused_of", "is_stuck_in", "refused", "is_stuck", "_law_pot", "_law_draw", "_law_pick", "_law_shape", "_law_bound", "_law_book", "_law_pair", "_law_lets"] : List Str) ++ (["_law_comes", "_law_on", "_law_all", "_law_is_plugged", "_law_told", "_law_right"] : List Str)

def hfnA : List He.DefD := hfn0 ++ (hfn1 ++ (hfn2 ++ (hfn3 ++ (hfn4))))
def hfnB : List He.DefD := hfn5 ++ (hfn6 ++ (hfn7 ++ (hfn8 ++ (hfn9))))
theorem hfn_AB : hfn = hfnA ++ hfnB := rfl
open PySem.W PySem.Calls HandSHeadRun in
/-- the state behind the top -/
noncomputable def hend (w : World) (os : OsState) : Option SharedT := endF (stepQ (denQ tabQ) hR.prog w) 6000 hR.prog w os
abbrev hK (s : PySem.W.SharedT) : PySem.W.Frag := He.frG (HandSHeadRun.getT s) hasR
open PySem.W PySem.Calls HandSHeadRun in
theorem hrun1 (w : World) (os : OsState) : (hend w os).map (fun s => (looksF hR.prog (boot_heap w.params) s.abs, seenQ (view hR.prog [108]) hloose (importedModules hR.prog.main.body) (fun s => xlAt (view hR.prog [108]) [] s && recOk hR.toRowW.records s) s.abs)) = some (true, openGood (view hR.prog [108]) hloose) := by
  kernel_rfl
theorem hrunF (w : World) (os : OsState) : (hend w os).map (fun s => hfa.all fun f => f.ok (hK s)) = some true := by
  kernel_rfl
theorem hrunA (w : World) (os : OsState) : (hend w os).map (fun s => (hfnA.all fun d => d.ok (hK s), hfnA.map fun d => He.fnW (hK s) d.at_)) = some (true, hfnA.map He.DefD.val) := by
  kernel_rfl
theorem hrunB (w : World) (os : OsState) : (hend w os).map (fun s => (hfnB.all fun d => d.ok (hK s), hfnB.map fun d => He.fnW (hK s) d.at_)) = some (true, hfnB.map He.DefD.val) := by
  kernel_rfl
theorem hrunM (w : World) (os : OsState) : (hend w os).map (fun s => (moreB (hK s), gW (hK s))) = some (true, gVal) := by
  kernel_rfl
theorem at_some {α β : Type} {o : Option α} {s : α} {f : α → β} {b : β} (e : o = some s) (h : o.map f = some b) : f s = b := by
  rw [e] at h
  exact Option.some.inj h
theorem hrun (w : World) : HandSHeadRun.RunEq hR (PySem.W.view hR.prog [108]) hhk hob 6000 hloose w := by
  intro os
  have h1 := hrun1 w os
  show (hend w os).map _ = _
  cases e : hend w os with
  | none =>
    rw [e] at h1
    cases h1
  | some s =>
    have e1 := at_some e h1
    have e2 := at_some e (hrunF w os)
    have e3 := at_some e (hrunA w os)
    have e4 := at_some e (hrunB w os)
    have e5 := at_some e (hrunM w os)
    simp only [Prod.mk.injEq] at e1 e3 e4 e5
    have e6 : hob s = hval := by
      show ((((hfa.all fun f => f.ok (hK s)) && hfn.all fun d => d.ok (hK s)), hfn.map fun d => He.fnW (hK s) d.at_), moreB (hK s), gW (hK s)) = ((true, hfn.map He.DefD.val), true, gVal)
      rw [e2, hfn_AB, List.all_append, List.map_append, List.map_append, e3.1, e4.1, e3.2, e4.2, e5.1, e5.2]
      rfl
    show some (_, _, hob s) = some (_, _, hval)
    rw [e6, e1.1, e1.2]
end Lk
set_option Elab.async false
set_option linter.all false
set_option maxRecDepth 100000
set_option maxHeartbeats 2000000
/-! T1: values as trees: data, dicts of ints, countries, webs; environments with owned objects. -/
namespace Lk
open PySem PySem.Spec PyProof.Rows L2

/-! ### data stays under an extended heap -/
theorem seqL_up {K : PySem.W.Frag} {H H' : Hp} {a : Addr} {xs : List V} (e : Same H H') (h : SqL K H a xs) : SqL K H' a xs := e.seq h
theorem seqT_up {K : PySem.W.Frag} {H H' : Hp} {a : Addr} {xs : List V} (e : Same H H') (h : SqT K H a xs) : SqT K H' a xs := by
  rcases h with (h | ⟨o, h⟩) | h
  · exact .inl (.inl (e _ _ h))
  · exact .inl (.inr ⟨o, e _ _ h⟩)
  · exact .inr h
mutual
theorem dp_up {K : PySem.W.Frag} {H H' : Hp} (e : Same H H') : ∀ {v : V} {d : PyData}, Dp K H v d → Dp K H' v d
  | _, _, .non => .non
  | _, _, .bl b => .bl b
  | _, _, .int i => .int i
  | _, _, .str x => .str x
  | _, _, .lst h hs => .lst (seqL_up e h) (dpAll_up e hs)
  | _, _, .tup h hs => .tup (seqT_up e h) (dpAll_up e hs)
theorem dpAll_up {K : PySem.W.Frag} {H H' : Hp} (e : Same H H') : ∀ {vs : List V} {ds : List PyData}, DpAll K H vs ds → DpAll K H' vs ds
  | _, _, .nil => .nil
  | _, _, .cons h hs => .cons (dp_up e h) (dpAll_up e hs)
end
section
variable {K : PySem.W.Frag} {H : Hp}
theorem dpAll_len : ∀ {vs : List V} {ds : List PyData}, DpAll K H vs ds → vs.length = ds.length
  | _, _, .nil => rfl
  | _, _, .cons _ hs => by rw [List.length_cons, List.length_cons, dpAll_len hs]
theorem dpAll_get : ∀ {vs : List V} {ds : List PyData} {i : Nat} {d : PyData}, DpAll K H vs ds → ds[i]? = some d → ∃ v, vs[i]? = some v ∧ Dp K H v d
  | _, _, _, _, .nil, e => by simp at e
  | _, _, 0, _, .cons h _, e => by
    simp only [List.getElem?_cons_zero, Option.some.injEq] at e
    subst e
    exact ⟨_, by simp, h⟩
  | _, _, i + 1, _, .cons _ hs, e => by
    simp only [List.getElem?_cons_succ] at e
    obtain ⟨v, h1, h2⟩ := dpAll_get hs e
    exact ⟨v, by simpa using h1, h2⟩
theorem dpAll_getV : ∀ {vs : List V} {ds : List PyData} {i : Nat} {v : V}, DpAll K H vs ds → vs[i]? = some v → ∃ d, ds[i]? = some d ∧ Dp K H v d
  | _, _, _, _, .nil, e => by simp at e
  | _, _, 0, _, .cons h _, e => by
    simp only [List.getElem?_cons_zero, Option.some.injEq] at e
    subst e
    exact ⟨_, by simp, h⟩
  | _, _, i + 1, _, .cons _ hs, e => by
    simp only [List.getElem?_cons_succ] at e
    obtain ⟨v, h1, h2⟩ := dpAll_getV hs e
    exact ⟨v, by simpa using h1, h2⟩
theorem dpAll_app : ∀ {vs ws : List V} {ds es : List PyData}, DpAll K H vs ds → DpAll K H ws es → DpAll K H (vs ++ ws) (ds ++ es)
  | _, _, _, _, .nil, h => h
  | _, _, _, _, .cons h hs, h' => .cons h (dpAll_app hs h')
theorem dpAll_take : ∀ {vs : List V} {ds : List PyData} (n : Nat), DpAll K H vs ds → DpAll K H (vs.take n) (ds.take n)
  | _, _, 0, _ => .nil
  | _, _, n + 1, .nil => .nil
  | _, _, n + 1, .cons h hs => .cons h (dpAll_take n hs)
theorem dpAll_drop : ∀ {vs : List V} {ds : List PyData} (n : Nat), DpAll K H vs ds → DpAll K H (vs.drop n) (ds.drop n)
  | _, _, 0, h => h
  | _, _, n + 1, .nil => .nil
  | _, _, n + 1, .cons _ hs => dpAll_drop n hs
theorem dpAll_set : ∀ {vs : List V} {ds : List PyData} (i : Nat) {v : V} {d : PyData}, DpAll K H vs ds → Dp K H v d → DpAll K H (vs.set i v) (ds.set i d)
  | _, _, _, _, _, .nil, _ => .nil
  | _, _, 0, _, _, .cons _ hs, h => .cons h hs
  | _, _, i + 1, _, _, .cons h hs, h' => .cons h (dpAll_set i hs h')
theorem dpAll_rev {vs : List V} {ds : List PyData} (h : DpAll K H vs ds) : DpAll K H vs.reverse ds.reverse := by
  induction vs generalizing ds with
  | nil => cases h; exact .nil
  | cons v vs ih =>
    cases h with
    | cons h hs =>
      rw [List.reverse_cons, List.reverse_cons]
      exact dpAll_app (ih hs) (.cons h .nil)
/-- data that are ints, as values -/
theorem dpAll_ints : ∀ {vs : List V} {ns : List Int}, DpAll K H vs (ns.map PyData.int) → vs = ns.map V.int
  | _, [], h => by cases h; rfl
  | _, n :: ns, h => by
    cases h with
    | cons h hs =>
      cases h
      rw [dpAll_ints hs]
      rfl
theorem dpAll_of_ints : ∀ ns : List Int, DpAll K H (ns.map V.int) (ns.map PyData.int)
  | [] => .nil
  | n :: ns => .cons (.int n) (dpAll_of_ints ns)
theorem dpAll_bls : ∀ {vs : List V} {ns : List Bool}, DpAll K H vs (ns.map PyData.bool) → vs = ns.map V.bl
  | _, [], h => by cases h; rfl
  | _, n :: ns, h => by
    cases h with
    | cons h hs =>
      cases h
      rw [dpAll_bls hs]
      rfl
theorem dpAll_of_bls : ∀ ns : List Bool, DpAll K H (ns.map V.bl) (ns.map PyData.bool)
  | [] => .nil
  | n :: ns => .cons (.bl n) (dpAll_of_bls ns)
end

/-! ### values -/
/-- what a Country holds -/
structure CD where
  lanes : PyData
  ties : PyData
  ahead : PyData
inductive Tv where
  | d (x : PyData)
  | dct (kvs : List (Int × PyData))
  | ctry (c : CD)
  | web (c : CD) (bs : PyData)
  | shp (a b : PyData) (kvs : List (Int × PyData))
  | any
/-- the written part, the classes Country and Web -/
structure Gx where
  K : PySem.W.Frag
  cC : Addr
  cW : Addr
  w : World
abbrev KvD (K : PySem.W.Frag) (H : Hp) : List (Key × V) → List (Int × PyData) → Prop := Paired fun (p : Key × V) (q : Int × PyData) => p.1 = Sum.inl q.1 ∧ Dp K H p.2 q.2
def RepC (G : Gx) (H : Hp) (v : V) (c : CD) : Prop := ∃ p dx fs v1 v2 v3, v = .ref p ∧ H p = some (.ins G.cC dx fs) ∧ fs.lookup ("own_lanes" : Str) = some v1 ∧ fs.lookup ("own_ties" : Str) = some v2 ∧ fs.lookup ("own_ahead" : Str) = some v3 ∧
  fs.map (·.1) = [("own_lanes" : Str), "own_ties", "own_ahead"] ∧ Dp G.K H v1 c.lanes ∧ Dp G.K H v2 c.ties ∧ Dp G.K H v3 c.ahead
def RepW (G : Gx) (H : Hp) (v : V) (c : CD) (b : PyData) : Prop := ∃ p dx fs v1 v2, v = .ref p ∧ H p = some (.ins G.cW dx fs) ∧ fs.lookup ("own_country" : Str) = some v1 ∧ fs.lookup ("own_books" : Str) = some v2 ∧
  fs.map (·.1) = [("own_country" : Str), "own_books"] ∧ RepC G H v1 c ∧ Dp G.K H v2 b
def Rep (G : Gx) (H : Hp) (v : V) : Tv → Prop
  | .d x => Dp G.K H v x
  | .dct kvs => ∃ a ks, v = .ref a ∧ H a = some (.dK ks) ∧ KvD G.K H ks kvs
  | .ctry c => RepC G H v c
  | .web c b => RepW G H v c b
  | .shp x y kvs => ∃ p v1 v2 d ks, v = .ref p ∧ H p = some (.tup [v1, v2, .ref d]) ∧ Dp G.K H v1 x ∧ Dp G.K H v2 y ∧ H d = some (.dK ks) ∧ KvD G.K H ks kvs
  | .any => ∃ p, v = .ref p
theorem kvd_up {K : PySem.W.Frag} {H H' : Hp} (e : Same H H') {ks : List (Key × V)} {kvs : List (Int × PyData)} (h : KvD K H ks kvs) : KvD K H' ks kvs := Paired.mapP h fun _ _ q => ⟨q.1, dp_up e q.2⟩
theorem repC_up {G : Gx} {H H' : Hp} (e : Same H H') {v : V} {c : CD} (h : RepC G H v c) : RepC G H' v c := by
  obtain ⟨p, dx, fs, v1, v2, v3, a1, a2, a3, a4, a5, a6, a7, a8, a9⟩ := h
  exact ⟨p, dx, fs, v1, v2, v3, a1, e _ _ a2, a3, a4, a5, a6, dp_up e a7, dp_up e a8, dp_up e a9⟩
theorem rep_up {G : Gx} {H H' : Hp} (e : Same H H') {v : V} {t : Tv} (h : Rep G H v t) : Rep G H' v t := by
  cases t with
  | d x => exact dp_up e h
  | dct kvs =>
    obtain ⟨a, ks, e1, e2, e3⟩ := h
    exact ⟨a, ks, e1, e _ _ e2, kvd_up e e3⟩
  | ctry c => exact repC_up e h
  | web c b =>
    obtain ⟨p, dx, fs, v1, v2, a1, a2, a3, a4, a5, a6, a7⟩ := h
    exact ⟨p, dx, fs, v1, v2, a1, e _ _ a2, a3, a4, a5, repC_up e a6, dp_up e a7⟩
  | shp x y kvs =>
    obtain ⟨p, v1, v2, d, ks, a1, a2, a3, a4, a5, a6⟩ := h
    exact ⟨p, v1, v2, d, ks, a1, e _ _ a2, dp_up e a3, dp_up e a4, e _ _ a5, kvd_up e a6⟩
  | any => exact h
/-- many -/
abbrev RepL (G : Gx) (H : Hp) : List V → List Tv → Prop := Paired (Rep G H)
theorem repL_up {G : Gx} {H H' : Hp} (e : Same H H') {vs : List V} {ts : List Tv} (h : RepL G H vs ts) : RepL G H' vs ts := Paired.mapP h fun _ _ q => rep_up e q
theorem repL_d {G : Gx} {H : Hp} : ∀ {vs : List V} {ds : List PyData}, RepL G H vs (ds.map Tv.d) → DpAll G.K H vs ds
  | _, [], h => by cases h; exact .nil
  | _, d :: ds, h => by
    cases h with
    | cons h hs => exact .cons h (repL_d hs)

/-! ### owned objects -/
/-- a dict of nested keys, by its entries -/
def metF (w : World) (a : Addr) (xs : List (NestedKey × Addr × Value)) : Heap → Prop := fun h => ∃ o es ep, h.get? a = some o ∧ o.ExactDict ∧ o.data = .dict es ep ∧
  es.toList = xs.map (fun x => { hash := x.1.hash w, key := .ref x.2.1, val := x.2.2 }) ∧ (xs.map (·.1)).Nodup ∧ (a == sysModules) = false
/-- what a def owns: it may change it -/
inductive Ow where
  | lst (ds : List PyData)
  | dct (kvs : List (Int × PyData))
  /-- the list of two ints at a -/
  | pot (a : Addr) (x y : Int)
  /-- a dict of nested keys -/
  | met (ks : List NestedKey)
  /-- the object at a, of class C, its fields -/
  | obj (a : Addr) (C : Addr) (fds : List (Str × Tv))
abbrev FdD (G : Gx) (H : Hp) : List (Str × V) → List (Str × Tv) → Prop := Paired fun (p : Str × V) (q : Str × Tv) => p.1 = q.1 ∧ Rep G H p.2 q.2
def OwC (G : Gx) (Hb : Hp) (a : Addr) : Ow → HO → Prop
  | .lst ds, .lst vs => DpAll G.K Hb vs ds
  | .dct kvs, .dK ks => KvD G.K Hb ks kvs
  | .pot b x y, .lst vs => b = a ∧ vs = [.int x, .int y]
  | .met ks, .ext φ => ∃ xs, φ = metF G.w a xs ∧ xs.map (·.1) = ks ∧ ∀ x ∈ xs, (Dp G.K Hb (.ref x.2.1) x.1.data ∧ x.1.depth ≤ 8)
  | .obj b C fds, .ins C' _ fs => b = a ∧ C' = C ∧ FdD G Hb fs fds
  | _, _ => False
theorem owc_up {G : Gx} {H H' : Hp} (e : Same H H') {a : Addr} {o : Ow} {ho : HO} (h : OwC G H a o ho) : OwC G H' a o ho := by
  cases o with
  | lst ds => cases ho <;> first | exact dpAll_up e h | exact h.elim
  | dct kvs => cases ho <;> first | exact kvd_up e h | exact h.elim
  | pot b x y => cases ho <;> first | exact h.elim | exact h
  | met ks =>
    cases ho <;> first | exact h.elim | skip
    obtain ⟨xs, h1, h2, h3⟩ := h
    exact ⟨xs, h1, h2, fun x hx => ⟨dp_up e (h3 x hx).1, (h3 x hx).2⟩⟩
  | obj b C fds =>
    cases ho <;> first | exact h.elim | skip
    obtain ⟨h1, h2, h3⟩ := h
    exact ⟨h1, h2, Paired.mapP h3 fun _ _ q => ⟨q.1, rep_up e q.2⟩⟩
/-- the ways through the three lands -/
def ways10 : List (List Int) := [[0, 1, 2, 3], [3, 2, 1, 0], [0, 1, 2, 3, 4], [4, 3, 2, 1, 0], [0, 2, 1], [1, 2, 0], [0, 2, 3, 4], [1, 2, 3, 4], [4, 3, 2, 0], [4, 3, 2, 1]]
/-- what lets .index be looked up at a way: its tuple has no dict -/
def TokO : HO → Prop
  | .tup xs => ∀ w ∈ ways10, xs ≠ w.map V.int
  | .frz o (.tup _) => o.dict = none
  | _ => True
def TOk (Hb : Hp) : Prop := ∀ p o, Hb p = some o → TokO o
def NoWay (ds : List PyData) : Prop := ∀ w ∈ ways10, ds ≠ w.map PyData.int
theorem tok_dp {K : PySem.W.Frag} {H : Hp} {vs : List V} {ds : List PyData} (h : DpAll K H vs ds) (n : NoWay ds) : TokO (.tup vs) := by
  intro w hw e
  refine n w hw ?_
  subst e
  clear n hw
  induction w generalizing ds with
  | nil => cases h; rfl
  | cons a w ih => cases h with
    | cons h1 h2 => cases h1; rw [List.map_cons, ih h2]
theorem tok2 {x y : V} : TokO (.tup [x, y]) := by
  intro w hw e
  have hl := congrArg List.length e
  rw [List.length_map] at hl
  simp only [ways10, List.mem_cons, List.not_mem_nil, or_false] at hw
  rcases hw with rfl | rfl | rfl | rfl | rfl | rfl | rfl | rfl | rfl | rfl <;> simp at hl
theorem noway2 {x y : PyData} : NoWay [x, y] := by
  intro w hw e
  have hl := congrArg List.length e
  rw [List.length_map] at hl
  simp only [ways10, List.mem_cons, List.not_mem_nil, or_false] at hw
  rcases hw with rfl | rfl | rfl | rfl | rfl | rfl | rfl | rfl | rfl | rfl <;> simp at hl
theorem owc_tok {G : Gx} {Hb : Hp} {a : Addr} {o : Ow} {ho : HO} (h : OwC G Hb a o ho) : TokO ho := by
  cases o <;> cases ho <;> first | exact (h : False).elim | trivial
theorem TOk.upd {Hb : Hp} {p : Addr} {o : HO} (h : TOk Hb) (ho : TokO o) : TOk (upd Hb p o) := fun b u e => by
  by_cases q : b = p
  · subst q; rw [upd_same] at e; cases e; exact ho
  · rw [upd_ne q] at e; exact h b u e
inductive Sl where
  | no
  | fr (t : Tv)
  | ow (o : Ow)
def SlOk (G : Gx) (F H Hb : Hp) (x : Option (Option V)) : Sl → Prop
  | .no => True
  | .fr t => ∃ v, x = some (some v) ∧ Rep G Hb v t
  | .ow o => ∃ a ho, x = some (some (.ref a)) ∧ F a = none ∧ Hb a = none ∧ H a = some ho ∧ OwC G Hb a o ho
/-- the slots' values: Hb what stands still, F what others own -/
structure EnvOk (G : Gx) (F : Hp) (Γ : List Sl) (σ : L2.St) (H Hb : Hp) : Prop where
  len : Γ.length = σ.length
  sub : Same Hb H
  frm : ∀ b o, F b = some o → H b = some o ∧ Hb b = none
  sl : ∀ (i : Nat) (s : Sl), Γ[i]? = some s → SlOk G F H Hb σ[i]? s
  ap : ∀ (i j : Nat) (o o' : Ow) (a : Addr), Γ[i]? = some (.ow o) → Γ[j]? = some (.ow o') → σ[i]? = some (some (.ref a)) → σ[j]? = some (some (.ref a)) → i = j
  tp : TOk Hb
/-- no slot owns a -/
def Not (Γ : List Sl) (σ : L2.St) (a : Addr) : Prop := ∀ (i : Nat) (o : Ow), Γ[i]? = some (.ow o) → σ[i]? ≠ some (some (.ref a))
section
variable {G : Gx} {F H Hb : Hp} {Γ : List Sl} {σ : L2.St}
theorem EnvOk.fr (E : EnvOk G F Γ σ H Hb) {i : Nat} {t : Tv} (h : Γ[i]? = some (.fr t)) : ∃ v, σ[i]? = some (some v) ∧ Rep G Hb v t := E.sl i _ h
theorem EnvOk.ow (E : EnvOk G F Γ σ H Hb) {i : Nat} {o : Ow} (h : Γ[i]? = some (.ow o)) : ∃ a ho, σ[i]? = some (some (.ref a)) ∧ F a = none ∧ Hb a = none ∧ H a = some ho ∧ OwC G Hb a o ho := E.sl i _ h
theorem EnvOk.hbn (E : EnvOk G F Γ σ H Hb) {a : Addr} (h : H a = none) : Hb a = none := E.sub.free h
theorem EnvOk.fn (E : EnvOk G F Γ σ H Hb) {a : Addr} (h : H a = none) : F a = none := by
  cases q : F a with
  | none => rfl
  | some o => rw [(E.frm a o q).1] at h; cases h
theorem EnvOk.notN (E : EnvOk G F Γ σ H Hb) {a : Addr} (h : H a = none) : Not Γ σ a := fun i o hi hs => by
  obtain ⟨b, ho, e1, _, _, e2, _⟩ := E.ow hi
  rw [e1] at hs
  cases hs
  rw [h] at e2
  cases e2
theorem same_upd {H : Hp} {p : Addr} {o : HO} (h : H p = none) : Same H (upd H p o) := fun b u e => by
  rw [upd_ne (ne_of_none e h)]
  exact e
/-- a new thing is laid, nobody's yet -/
theorem EnvOk.lay (E : EnvOk G F Γ σ H Hb) {p : Addr} {o : HO} (h : H p = none) : EnvOk G F Γ σ (upd H p o) Hb where
  len := E.len
  sub := fun b u e => same_upd h b u (E.sub b u e)
  frm := fun b u e => ⟨same_upd h b u (E.frm b u e).1, (E.frm b u e).2⟩
  sl := fun i s hs => by
    have q := E.sl i s hs
    cases s with
    | no => exact q
    | fr t => exact q
    | ow w =>
      obtain ⟨a, ho, e1, e2, e3, e4, e5⟩ := q
      exact ⟨a, ho, e1, e2, e3, same_upd h _ _ e4, e5⟩
  ap := E.ap
  tp := E.tp
/-- something that no slot owns and nobody else is let stand -/
theorem EnvOk.still (E : EnvOk G F Γ σ H Hb) {p : Addr} {o : HO} (h : H p = some o) (hb : Hb p = none) (hf : F p = none) (hn : Not Γ σ p) (ht : TokO o) : EnvOk G F Γ σ H (upd Hb p o) where
  len := E.len
  sub := fun b u e => by
    by_cases q : b = p
    · subst q; rw [upd_same] at e; cases e; exact h
    · rw [upd_ne q] at e; exact E.sub b u e
  frm := fun b u e => ⟨(E.frm b u e).1, by rw [upd_ne (fun q => by subst q; rw [hf] at e; cases e)]; exact (E.frm b u e).2⟩
  sl := fun i s hs => by
    have q := E.sl i s hs
    have up : Same Hb (upd Hb p o) := same_upd hb
    cases s with
    | no => exact q
    | fr t =>
      obtain ⟨v, e1, e2⟩ := q
      exact ⟨v, e1, rep_up up e2⟩
    | ow w =>
      obtain ⟨a, ho, e1, e2, e3, e4, e5⟩ := q
      exact ⟨a, ho, e1, e2, by rw [upd_ne (fun z => by subst z; exact hn i w hs e1)]; exact e3, e4, owc_up up e5⟩
  ap := E.ap
  tp := E.tp.upd ht
/-- a new thing that stands still -/
theorem EnvOk.new (E : EnvOk G F Γ σ H Hb) {p : Addr} {o : HO} (h : H p = none) (ht : TokO o) : EnvOk G F Γ σ (upd H p o) (upd Hb p o) :=
  (E.lay h).still upd_same (E.hbn h) (E.fn h) (E.notN h) ht
theorem get_set {α : Type} {l : List α} {i j : Nat} {x y : α} (h : (l.set i x)[j]? = some y) : (j = i ∧ y = x) ∨ (j ≠ i ∧ l[j]? = some y) := by
  by_cases q : j = i
  · subst q
    by_cases hl : j < l.length
    · rw [List.getElem?_set_self hl] at h
      exact .inl ⟨rfl, (Option.some.inj h).symm⟩
    · rw [List.getElem?_eq_none (by simpa using hl)] at h
      cases h
  · rw [List.getElem?_set_ne (Ne.symm q)] at h
    exact .inr ⟨q, h⟩
theorem get_set_lt {α : Type} {l : List α} {i : Nat} {x : α} (h : i < l.length) : (l.set i x)[i]? = some x := List.getElem?_set_self h
/-- a slot gets a value that stands still -/
theorem EnvOk.set (E : EnvOk G F Γ σ H Hb) {i : Nat} {v : V} {t : Tv} (h : Rep G Hb v t) : EnvOk G F (Γ.set i (.fr t)) (σ.set i (some v)) H Hb where
  len := by rw [List.length_set, List.length_set]; exact E.len
  sub := E.sub
  frm := E.frm
  sl := fun j s hs => by
    rcases get_set hs with ⟨rfl, rfl⟩ | ⟨hj, hs⟩
    · have hl : j < Γ.length := by
        have q := (List.getElem?_eq_some_iff.mp hs).1
        simpa using q
      exact ⟨v, get_set_lt (by rw [← E.len]; exact hl), h⟩
    · rw [List.getElem?_set_ne (Ne.symm hj)]
      exact E.sl j s hs
  ap := fun a b o o' x ha hb h1 h2 => by
    rcases get_set ha with ⟨_, q⟩ | ⟨na, ha⟩
    · cases q
    rcases get_set hb with ⟨_, q⟩ | ⟨nb, hb⟩
    · cases q
    rw [List.getElem?_set_ne (Ne.symm na)] at h1
    rw [List.getElem?_set_ne (Ne.symm nb)] at h2
    exact E.ap a b o o' x ha hb h1 h2
  tp := E.tp
/-- a slot gets an owned thing -/
theorem EnvOk.own (E : EnvOk G F Γ σ H Hb) {i : Nat} {a : Addr} {ho : HO} {o : Ow} (h : H a = some ho) (hb : Hb a = none) (hf : F a = none) (hn : Not Γ σ a) (hc : OwC G Hb a o ho) : EnvOk G F (Γ.set i (.ow o)) (σ.set i (some (.ref a))) H Hb where
  len := by rw [List.length_set, List.length_set]; exact E.len
  sub := E.sub
  frm := E.frm
  sl := fun j s hs => by
    rcases get_set hs with ⟨rfl, rfl⟩ | ⟨hj, hs⟩
    · have hl : j < Γ.length := by
        have q := (List.getElem?_eq_some_iff.mp hs).1
        simpa using q
      exact ⟨a, ho, get_set_lt (by rw [← E.len]; exact hl), hf, hb, h, hc⟩
    · rw [List.getElem?_set_ne (Ne.symm hj)]
      exact E.sl j s hs
  ap := fun m n o1 o2 x hm hn' h1 h2 => by
    rcases get_set hm with ⟨e1, q1⟩ | ⟨nm, hm0⟩ <;> rcases get_set hn' with ⟨e2, q2⟩ | ⟨nn, hn0⟩
    · rw [e1, e2]
    · subst e1
      rw [List.getElem?_set_ne (Ne.symm nn)] at h2
      have hl : m < σ.length := by
        have q := (List.getElem?_eq_some_iff.mp h1).1
        simpa using q
      rw [get_set_lt hl] at h1
      cases h1
      exact absurd h2 (hn n o2 hn0)
    · subst e2
      rw [List.getElem?_set_ne (Ne.symm nm)] at h1
      have hl : n < σ.length := by
        have q := (List.getElem?_eq_some_iff.mp h2).1
        simpa using q
      rw [get_set_lt hl] at h2
      cases h2
      exact absurd h1 (hn m o1 hm0)
    · rw [List.getElem?_set_ne (Ne.symm nm)] at h1
      rw [List.getElem?_set_ne (Ne.symm nn)] at h2
      exact E.ap m n o1 o2 x hm0 hn0 h1 h2
  tp := E.tp
/-- an owned thing is changed -/
theorem EnvOk.mut (E : EnvOk G F Γ σ H Hb) {i : Nat} {o o' : Ow} {a : Addr} {ho : HO} (hi : Γ[i]? = some (.ow o)) (hs : σ[i]? = some (some (.ref a))) (hc : OwC G Hb a o' ho) : EnvOk G F (Γ.set i (.ow o')) σ (upd H a ho) Hb := by
  obtain ⟨a', ho', e1, e2, e3, e4, e5⟩ := E.ow hi
  rw [e1] at hs
  cases hs
  have nb : ∀ b u, Hb b = some u → b ≠ a := fun b u e q => by subst q; rw [e3] at e; cases e
  have nf : ∀ b u, F b = some u → b ≠ a := fun b u e q => by subst q; rw [e2] at e; cases e
  refine ⟨by rw [List.length_set]; exact E.len, fun b u e => by rw [upd_ne (nb b u e)]; exact E.sub b u e, fun b u e => ⟨by rw [upd_ne (nf b u e)]; exact (E.frm b u e).1, (E.frm b u e).2⟩, fun j s hs => ?_, fun m n o1 o2 x hm hn' h1 h2 => ?_, E.tp⟩
  · rcases get_set hs with ⟨rfl, rfl⟩ | ⟨hj, hs⟩
    · exact ⟨a, ho, e1, e2, e3, upd_same, hc⟩
    · have q := E.sl j s hs
      cases s with
      | no => exact q
      | fr t => exact q
      | ow w =>
        obtain ⟨b, hb', f1, f2, f3, f4, f5⟩ := q
        refine ⟨b, hb', f1, f2, f3, ?_, f5⟩
        rw [upd_ne (fun z => by subst z; exact hj (E.ap j i w o b hs hi f1 e1))]
        exact f4
  · rcases get_set hm with ⟨e1', q1⟩ | ⟨nm, hm0⟩ <;> rcases get_set hn' with ⟨e2', q2⟩ | ⟨nn, hn0⟩
    · rw [e1', e2']
    · subst e1'; exact E.ap m n o o2 x hi hn0 h1 h2
    · subst e2'; exact E.ap m n o1 o x hm0 hi h1 h2
    · exact E.ap m n o1 o2 x hm0 hn0 h1 h2
/-- slots forgotten -/
theorem EnvOk.forget (E : EnvOk G F Γ σ H Hb) (i : Nat) (x : Option V) : EnvOk G F (Γ.set i .no) (σ.set i x) H Hb where
  len := by rw [List.length_set, List.length_set]; exact E.len
  sub := E.sub
  frm := E.frm
  sl := fun j s hs => by
    rcases get_set hs with ⟨rfl, rfl⟩ | ⟨hj, hs⟩
    · trivial
    · rw [List.getElem?_set_ne (Ne.symm hj)]
      exact E.sl j s hs
  ap := fun m n o1 o2 x hm hn' h1 h2 => by
    rcases get_set hm with ⟨_, q1⟩ | ⟨nm, hm⟩
    · cases q1
    rcases get_set hn' with ⟨_, q2⟩ | ⟨nn, hn'⟩
    · cases q2
    rw [List.getElem?_set_ne (Ne.symm nm)] at h1
    rw [List.getElem?_set_ne (Ne.symm nn)] at h2
    exact E.ap m n o1 o2 x hm hn' h1 h2
  tp := E.tp
theorem EnvOk.drop (E : EnvOk G F Γ σ H Hb) (i : Nat) : EnvOk G F (Γ.set i .no) σ H Hb where
  len := by rw [List.length_set]; exact E.len
  sub := E.sub
  frm := E.frm
  sl := fun j s hs => by
    rcases get_set hs with ⟨rfl, rfl⟩ | ⟨hj, hs⟩
    · trivial
    · exact E.sl j s hs
  ap := fun m n o1 o2 x hm hn' h1 h2 => by
    rcases get_set hm with ⟨_, q1⟩ | ⟨nm, hm⟩
    · cases q1
    rcases get_set hn' with ⟨_, q2⟩ | ⟨nn, hn'⟩
    · cases q2
    exact E.ap m n o1 o2 x hm hn' h1 h2
  tp := E.tp
/-- an owned list, dict is let stand -/
def frzO : Ow → Tv
  | .lst ds => .d (.list ds)
  | .dct kvs => .dct kvs
  | .pot _ x y => .d (.list [.int x, .int y])
  | .met _ => .any
  | .obj _ _ _ => .any
/-- frozen, it is told so -/
theorem frz_rep {G : Gx} {Hb : Hp} {a : Addr} {o : Ow} {ho : HO} (q : OwC G Hb a o ho) (h : Hb a = some ho) : Rep G Hb (.ref a) (frzO o) := by
  cases o with
  | lst ds =>
    cases ho <;> first | exact (q : False).elim | skip
    exact .lst (.of h) q
  | dct kvs =>
    cases ho <;> first | exact (q : False).elim | skip
    exact ⟨a, _, rfl, h, q⟩
  | pot b x y =>
    cases ho <;> first | exact (q : False).elim | skip
    obtain ⟨_, rfl⟩ := q
    exact .lst (.of h) (.cons (.int x) (.cons (.int y) .nil))
  | met ks => exact ⟨a, rfl⟩
  | obj _ _ _ => exact ⟨a, rfl⟩
theorem EnvOk.freeze (E : EnvOk G F Γ σ H Hb) {i : Nat} {o : Ow} (hi : Γ[i]? = some (.ow o)) : ∃ Hb', EnvOk G F (Γ.set i (.fr (frzO o))) σ H Hb' ∧ Same Hb Hb' := by
  obtain ⟨a, ho, e1, e2, e3, e4, e5⟩ := E.ow hi
  have E1 := E.drop i
  have hn : Not (Γ.set i .no) σ a := fun j w hj hs => by
    rcases get_set hj with ⟨_, q⟩ | ⟨nj, hj⟩
    · cases q
    · exact nj (E.ap j i w o a hj hi hs e1)
  have E2 := E1.still e4 e3 e2 hn (owc_tok e5)
  have up : Same Hb (upd Hb a ho) := same_upd e3
  have hr : Rep G (upd Hb a ho) (.ref a) (frzO o) := frz_rep (owc_up up e5) upd_same
  refine ⟨_, ?_, up⟩
  have E3 := E2.set (i := i) (v := .ref a) hr
  have es : σ.set i (some (.ref a)) = σ := by
    refine List.ext_getElem? fun j => ?_
    by_cases q : j = i
    · subst q
      have hl : j < σ.length := (List.getElem?_eq_some_iff.mp e1).1
      rw [get_set_lt hl, e1]
    · rw [List.getElem?_set_ne (Ne.symm q)]
  rw [es, List.set_set] at E3
  exact E3
/-- one more thing that others own -/
theorem EnvOk.frame (E : EnvOk G F Γ σ H Hb) {p : Addr} {o : HO} (h : H p = some o) (hb : Hb p = none) (hn : Not Γ σ p) : EnvOk G (upd F p o) Γ σ H Hb where
  len := E.len
  sub := E.sub
  frm := fun b u e => by
    by_cases q : b = p
    · subst q; rw [upd_same] at e; cases e; exact ⟨h, hb⟩
    · rw [upd_ne q] at e; exact E.frm b u e
  sl := fun i s hs => by
    have q := E.sl i s hs
    cases s with
    | no => exact q
    | fr t => exact q
    | ow w =>
      obtain ⟨a, ho, e1, e2, e3, e4, e5⟩ := q
      exact ⟨a, ho, e1, by rw [upd_ne (fun z => by subst z; exact hn i w hs e1)]; exact e2, e3, e4, e5⟩
  ap := E.ap
  tp := E.tp
/-- one thing less, told again -/
theorem EnvOk.unframe {p : Addr} {o : HO} (E : EnvOk G (upd F p o) Γ σ H Hb) (hf : F p = none) : EnvOk G F Γ σ H Hb ∧ H p = some o ∧ Hb p = none ∧ Not Γ σ p := by
  have nf : ∀ b u, F b = some u → b ≠ p := fun b u e q => by subst q; rw [hf] at e; cases e
  refine ⟨⟨E.len, E.sub, fun b u e => E.frm b u (by rw [upd_ne (nf b u e)]; exact e), fun i s hs => ?_, E.ap, E.tp⟩, (E.frm p o upd_same).1, (E.frm p o upd_same).2, fun i w hi hs => ?_⟩
  · have q := E.sl i s hs
    cases s with
    | no => exact q
    | fr t => exact q
    | ow w =>
      obtain ⟨a, ho, e1, e2, e3, e4, e5⟩ := q
      refine ⟨a, ho, e1, ?_, e3, e4, e5⟩
      by_cases z : a = p
      · subst z; exact hf
      · rw [upd_ne z] at e2; exact e2
  · obtain ⟨a, ho, e1, e2, _⟩ := E.ow hi
    rw [e1] at hs
    cases hs
    rw [upd_same] at e2
    cases e2
/-- a thing in the frame is changed by who owns it -/
theorem EnvOk.reframe {p : Addr} {o o' : HO} (E : EnvOk G (upd F p o) Γ σ H Hb) (hf : F p = none) : EnvOk G (upd F p o') Γ σ (upd H p o') Hb := by
  obtain ⟨E1, h1, h2, h3⟩ := E.unframe hf
  have nb : ∀ b u, Hb b = some u → b ≠ p := fun b u e q => by subst q; rw [h2] at e; cases e
  have nf : ∀ b u, F b = some u → b ≠ p := fun b u e q => by subst q; rw [hf] at e; cases e
  have E2 : EnvOk G F Γ σ (upd H p o') Hb := ⟨E1.len, fun b u e => by rw [upd_ne (nb b u e)]; exact E1.sub b u e, fun b u e => ⟨by rw [upd_ne (nf b u e)]; exact (E1.frm b u e).1, (E1.frm b u e).2⟩, fun i s hs => by
    have q := E1.sl i s hs
    cases s with
    | no => exact q
    | fr t => exact q
    | ow w =>
      obtain ⟨a, ho, e1, e2, e3, e4, e5⟩ := q
      exact ⟨a, ho, e1, e2, e3, by rw [upd_ne (fun z => by subst z; exact h3 i w hs e1)]; exact e4, e5⟩, E1.ap, E1.tp⟩
  exact E2.frame upd_same h2 h3
end
end Lk
set_option Elab.async false
set_option linter.all false
set_option maxRecDepth 100000
set_option maxHeartbeats 2000000
/-! T2: what an expression evaluates to, as trees. -/
namespace Lk
open PySem PySem.Spec PyProof.Rows L2

/-! ### readings -/
def EV (G : Gx) (r : TE) (Γ : List Sl) (t : Tv) (Γ' : List Sl) : Prop := ∀ F σ H Hb, EnvOk G F Γ σ H Hb → ∀ Q : VK, (∀ v H' Hb', EnvOk G F Γ' σ H' Hb' → Same Hb Hb' → Rep G Hb' v t → Q v H') → r σ H Q
/-- a new thing, not let stand yet -/
def EF (G : Gx) (r : TE) (Γ : List Sl) (o : Ow) (Γ' : List Sl) : Prop := ∀ F σ H Hb, EnvOk G F Γ σ H Hb → ∀ Q : VK, (∀ a ho H' Hb', EnvOk G F Γ' σ H' Hb' → Same Hb Hb' → H' a = some ho → OwC G Hb' a o ho → F a = none → Hb' a = none → Not Γ' σ a → Q (.ref a) H') → r σ H Q
def ET (G : Gx) (r : TT) (Γ : List Sl) (b : Bool) (Γ' : List Sl) : Prop := ∀ F σ H Hb, EnvOk G F Γ σ H Hb → ∀ Q : Bool → Hp → Prop, (∀ H' Hb', EnvOk G F Γ' σ H' Hb' → Same Hb Hb' → Q b H') → r σ H Q
def EA (G : Gx) (r : TA) (Γ : List Sl) (ts : List Tv) (Γ' : List Sl) : Prop := ∀ F σ H Hb, EnvOk G F Γ σ H Hb → ∀ Q : List V → Hp → Prop, (∀ vs H' Hb', EnvOk G F Γ' σ H' Hb' → Same Hb Hb' → RepL G Hb' vs ts → Q vs H') → r σ H Q
/-- .. all data -/
def ED (G : Gx) (r : TA) (Γ : List Sl) (ds : List PyData) (Γ' : List Sl) : Prop := ∀ F σ H Hb, EnvOk G F Γ σ H Hb → ∀ Q : List V → Hp → Prop, (∀ vs H' Hb', EnvOk G F Γ' σ H' Hb' → Same Hb Hb' → DpAll G.K Hb' vs ds → Q vs H') → r σ H Q

/-! ### judgements -/
section
variable {ι : Type}
def PV (G : Gx) (X : ι → Cx) (Γ : List Sl) (e : Expr) (t : Tv) (Γ' : List Sl) : Prop := ∃ r, (∀ j, PE (X j) e r) ∧ EV G r Γ t Γ'
def PF (G : Gx) (X : ι → Cx) (Γ : List Sl) (e : Expr) (o : Ow) (Γ' : List Sl) : Prop := ∃ r, (∀ j, PE (X j) e r) ∧ EF G r Γ o Γ'
def PB (G : Gx) (X : ι → Cx) (Γ : List Sl) (e : Expr) (b : Bool) (Γ' : List Sl) : Prop := ∃ r, (∀ j, PT (X j) e r) ∧ ET G r Γ b Γ'
/-- a chain of and, or -/
def PBw (G : Gx) (X : ι → Cx) (Γ : List Sl) (e : Expr) (b : Bool) (Γ' : List Sl) : Prop := ∃ r, (∀ j, PW (X j) e r) ∧ ET G r Γ b Γ'
def PL (G : Gx) (X : ι → Cx) (Γ : List Sl) (es : List Expr) (ts : List Tv) (Γ' : List Sl) : Prop := ∃ r, (∀ j, PA (X j) es r) ∧ EA G r Γ ts Γ'
def PD (G : Gx) (X : ι → Cx) (Γ : List Sl) (es : List Expr) (ds : List PyData) (Γ' : List Sl) : Prop := ∃ r, (∀ j, PA (X j) es r) ∧ ED G r Γ ds Γ'
/-- all that stays -/
structure Wd where
  P : Program
  w : World
  G : Gx
  mg : Str → Option Value
  base : Heap
/-- the contexts where the code stands -/
structure Ctx (W : Wd) (k : Nat) (X : ι → Cx) : Prop where
  prog : ∀ j, (X j).prog = W.P
  w : ∀ j, (X j).w = W.w
  K : ∀ j, (X j).K = W.G.K
  mg : ∀ j, (X j).mg = W.mg
  base : ∀ j, (X j).base = W.base
  calm : ∀ j, (X j).calm = true
  nd : ∀ j, (X j).N.Nodup
  room : ∀ j, Room k (X j).A
end
def isN : Tv → Bool
  | .d .none => true
  | _ => false
theorem dp_isN {K : PySem.W.Frag} {H : Hp} {v : V} {d : PyData} (h : Dp K H v d) : decide (v = V.non) = isN (.d d) := by
  cases h <;> rfl
theorem rep_isN {G : Gx} {H : Hp} {v : V} {t : Tv} (h : Rep G H v t) : decide (v = V.non) = isN t := by
  cases t with
  | d x => exact dp_isN h
  | dct kvs => obtain ⟨a, _, rfl, _⟩ := h; rfl
  | ctry c => obtain ⟨p, _, _, _, _, _, rfl, _⟩ := h; rfl
  | web c b => obtain ⟨p, _, _, _, _, rfl, _⟩ := h; rfl
  | shp x y kvs => obtain ⟨p, _, _, _, _, rfl, _⟩ := h; rfl
  | any => obtain ⟨p, rfl⟩ := h; rfl
theorem dp_int {K : PySem.W.Frag} {H : Hp} {v : V} {i : Int} (h : Dp K H v (.int i)) : v = .int i := by cases h; rfl
theorem dp_bl {K : PySem.W.Frag} {H : Hp} {v : V} {i : Bool} (h : Dp K H v (.bool i)) : v = .bl i := by cases h; rfl
theorem dp_non {K : PySem.W.Frag} {H : Hp} {v : V} (h : Dp K H v .none) : v = .non := by cases h; rfl
theorem dp_str {K : PySem.W.Frag} {H : Hp} {v : V} {i : Str} (h : Dp K H v (.str i)) : v = .str i := by cases h; rfl
theorem dp_lst {K : PySem.W.Frag} {H : Hp} {v : V} {ds : List PyData} (h : Dp K H v (.list ds)) : ∃ a vs, v = .ref a ∧ SqL K H a vs ∧ DpAll K H vs ds := by
  cases h with
  | lst h1 h2 => exact ⟨_, _, rfl, h1, h2⟩
theorem dp_tup {K : PySem.W.Frag} {H : Hp} {v : V} {ds : List PyData} (h : Dp K H v (.tuple ds)) : ∃ a vs, v = .ref a ∧ SqT K H a vs ∧ DpAll K H vs ds := by
  cases h with
  | tup h1 h2 => exact ⟨_, _, rfl, h1, h2⟩

section
variable {ι : Type} {G : Gx} {W : Wd} {k : Nat} {X : ι → Cx} {Γ Γ1 Γ2 Γ3 : List Sl} {a b c e : Expr} {es rest : List Expr} {pos : Pos} {t t1 t2 : Tv}

/-! ### freezing -/
theorem ef_ev {r : TE} {o : Ow} (h : EF G r Γ o Γ1) : EV G r Γ (frzO o) Γ1 := fun F σ H Hb E Q q => h F σ H Hb E Q fun a ho H' Hb' E' s1 h1 h2 h3 h4 h5 => by
  refine q (.ref a) H' (upd Hb' a ho) (E'.still h1 h4 h3 h5 (owc_tok h2)) (s1.trans (same_upd h4)) ?_
  exact frz_rep (owc_up (same_upd h4 (o := ho)) h2) upd_same
theorem qv_new {o : Ow} (h : PF G X Γ e o Γ1) : PV G X Γ e (frzO o) Γ1 := let ⟨r, h1, h2⟩ := h; ⟨r, h1, ef_ev h2⟩
/-- an owned thing is let stand from here on -/
theorem qv_frz (i : Nat) {o : Ow} (hi : Γ[i]? = some (.ow o)) (h : PV G X (Γ.set i (.fr (frzO o))) e t Γ1) : PV G X Γ e t Γ1 := by
  obtain ⟨r, h1, h2⟩ := h
  refine ⟨r, h1, fun F σ H Hb E Q q => ?_⟩
  obtain ⟨Hb1, E1, s1⟩ := E.freeze hi
  exact h2 F σ H Hb1 E1 Q fun v H' Hb' E' s' r' => q v H' Hb' E' (s1.trans s') r'
theorem qv_eq (h : PV G X Γ e t Γ1) (q : t = t1) : PV G X Γ e t1 Γ1 := q ▸ h
theorem qb_eq {b1 b2 : Bool} (h : PB G X Γ e b1 Γ1) (q : b1 = b2) : PB G X Γ e b2 Γ1 := q ▸ h
/-- nothing is asked of what is never reached -/
theorem pe_never {X : Cx} {e : Expr} : PE X e (fun _ _ _ => False) := ⟨fun _ _ _ _ _ _ h => h.elim⟩
theorem pt_never {X : Cx} {e : Expr} : PT X e (fun _ _ _ => False) := ⟨fun _ _ _ _ _ _ h => h.elim⟩
theorem pw_never {X : Cx} {e : Expr} : PW X e (fun _ _ _ => False) := ⟨fun _ _ _ _ _ _ _ h => h.elim⟩

/-! ### names, constants -/
theorem qv_var (i : Nat) {x : Str} (hi : Γ[i]? = some (.fr t) := by rfl) (hN : ∀ j, (X j).N[i]? = some x := by intro _; rfl) (hv : ∀ j, Vis (X j).env.scope x := by intro _; first | exact Or.inl rfl | exact Or.inr (Or.inl rfl) | exact Or.inr (Or.inr rfl))
    (hd : (x == ("__debug__" : Str)) = false := by decide) (hcd : (x == ("__classdict__" : Str)) = false := by decide) : PV G X Γ (.Name x pos) t Γ :=
  ⟨tVar i, fun j => pe_var (hN j) (hv j) hd hcd, fun F σ H Hb E Q q => by
    obtain ⟨v, e1, e2⟩ := E.fr hi
    exact ⟨v, e1, q v H Hb E (Same.refl _) e2⟩⟩
theorem qv_int {i j pos} : PV G X Γ (.Constant (.int i) j pos) (.d (.int i)) Γ := ⟨_, fun _ => pe_int, fun F σ H Hb E Q q => q _ H Hb E (Same.refl _) (.int i)⟩
theorem qv_bl {i j pos} : PV G X Γ (.Constant (.bool i) j pos) (.d (.bool i)) Γ := ⟨_, fun _ => pe_bl, fun F σ H Hb E Q q => q _ H Hb E (Same.refl _) (.bl i)⟩
theorem qv_non {j pos} : PV G X Γ (.Constant .none j pos) (.d .none) Γ := ⟨_, fun _ => pe_non, fun F σ H Hb E Q q => q _ H Hb E (Same.refl _) .non⟩
theorem qv_str {i j pos} : PV G X Γ (.Constant (.str i) j pos) (.d (.str i)) Γ := ⟨_, fun _ => pe_str, fun F σ H Hb E Q q => q _ H Hb E (Same.refl _) (.str i)⟩
/-- a module's constant -/
theorem qv_glob (C : Ctx W k X) {x : Str} {i : Int} (hm : ∃ u, W.mg x = some (.int i u)) (hg : ∀ j, Gl (X j) x := by intro _; rfl) (hd : (x == ("__debug__" : Str)) = false := by decide) : PV G X Γ (.Name x pos) (.d (.int i)) Γ := by
  obtain ⟨u, hm⟩ := hm
  exact ⟨tC (.int i), fun j => pe_glob (hg j) (by rw [C.mg j]; exact hm) ⟨u, rfl⟩ hd, fun F σ H Hb E Q q => q _ H Hb E (Same.refl _) (.int i)⟩

/-! ### operators -/
/-- a two-place rule on values gives t of t1 and t2 -/
def RVt (G : Gx) (r : R2) (Γ : List Sl) (t1 t2 t : Tv) : Prop := ∀ F σ H Hb v w, EnvOk G F Γ σ H Hb → Rep G Hb v t1 → Rep G Hb w t2 → ∀ Q : VK, (∀ z H' Hb', EnvOk G F Γ σ H' Hb' → Same Hb Hb' → Rep G Hb' z t → Q z H') → r v w H Q
def RFt (G : Gx) (r : R2) (Γ : List Sl) (t1 t2 : Tv) (o : Ow) : Prop := ∀ F σ H Hb v w, EnvOk G F Γ σ H Hb → Rep G Hb v t1 → Rep G Hb w t2 → ∀ Q : VK, (∀ p ho, H p = none → OwC G Hb p o ho → Q (.ref p) (upd H p ho)) → r v w H Q
theorem ev_op {r : R2} {ta tb : TE} (ha : EV G ta Γ t1 Γ1) (hb : EV G tb Γ1 t2 Γ2) (h : RVt G r Γ2 t1 t2 t) : EV G (tOp r ta tb) Γ t Γ2 := fun F σ H Hb E Q q =>
  ha F σ H Hb E _ fun v H1 Hb1 E1 s1 r1 => hb F σ H1 Hb1 E1 _ fun w H2 Hb2 E2 s2 r2 => h F σ H2 Hb2 v w E2 (rep_up s2 r1) r2 Q fun z H3 Hb3 E3 s3 r3 => q z H3 Hb3 E3 ((s1.trans s2).trans s3) r3
theorem ef_op {r : R2} {ta tb : TE} {o : Ow} (ha : EV G ta Γ t1 Γ1) (hb : EV G tb Γ1 t2 Γ2) (h : RFt G r Γ2 t1 t2 o) : EF G (tOp r ta tb) Γ o Γ2 := fun F σ H Hb E Q q =>
  ha F σ H Hb E _ fun v H1 Hb1 E1 s1 r1 => hb F σ H1 Hb1 E1 _ fun w H2 Hb2 E2 s2 r2 => h F σ H2 Hb2 v w E2 (rep_up s2 r1) r2 Q fun p ho hp hc =>
    q p ho _ Hb2 (E2.lay hp) (s1.trans s2) upd_same hc (E2.fn hp) (E2.hbn hp) (E2.notN hp)
theorem qv_op {op : Operator} {r : R2} (ho : ∀ j, OpR (X j) (binaryOp op) r) (ha : PV G X Γ a t1 Γ1) (hb : PV G X Γ1 b t2 Γ2) (h : RVt G r Γ2 t1 t2 t) : PV G X Γ (.BinOp a op b pos) t Γ2 :=
  let ⟨ra, a1, a2⟩ := ha; let ⟨rb, b1, b2⟩ := hb; ⟨_, fun j => pe_op (ho j) (a1 j) (b1 j), ev_op a2 b2 h⟩
theorem qf_op {op : Operator} {r : R2} {o : Ow} (ho : ∀ j, OpR (X j) (binaryOp op) r) (ha : PV G X Γ a t1 Γ1) (hb : PV G X Γ1 b t2 Γ2) (h : RFt G r Γ2 t1 t2 o) : PF G X Γ (.BinOp a op b pos) o Γ2 :=
  let ⟨ra, a1, a2⟩ := ha; let ⟨rb, b1, b2⟩ := hb; ⟨_, fun j => pe_op (ho j) (a1 j) (b1 j), ef_op a2 b2 h⟩
theorem qv_cmp {op : CmpOp} {r : R2} (ho : ∀ j, OpR (X j) (compareOp op) r) (ha : PV G X Γ a t1 Γ1) (hb : PV G X Γ1 b t2 Γ2) (h : RVt G r Γ2 t1 t2 t) (hm : behindInMarks op b = false := by first | exact nobehind _ (by decide) (by decide) | rfl) : PV G X Γ (.Compare a [op] [b] pos) t Γ2 :=
  let ⟨ra, a1, a2⟩ := ha; let ⟨rb, b1, b2⟩ := hb; ⟨_, fun j => pe_cmpR (ho j) (a1 j) (b1 j) hm, ev_op a2 b2 h⟩
theorem rvt_int {C : Int → Int → Prop} {g : Int → Int → Int} {m n : Int} (hc : C m n) : RVt G (rI C fun i j => .int (g i j)) Γ (.d (.int m)) (.d (.int n)) (.d (.int (g m n))) := fun F σ H Hb v w E hv hw Q q =>
  ⟨m, n, dp_int hv, dp_int hw, hc, q _ H Hb E (Same.refl _) (.int _)⟩
theorem rvt_int0 {g : Int → Int → Int} {m n : Int} : RVt G (rI0 fun i j => .int (g i j)) Γ (.d (.int m)) (.d (.int n)) (.d (.int (g m n))) := fun F σ H Hb v w E hv hw Q q =>
  ⟨m, n, dp_int hv, dp_int hw, q _ H Hb E (Same.refl _) (.int _)⟩
theorem rvt_bl0 {g : Int → Int → Bool} {m n : Int} : RVt G (rI0 fun i j => .bl (g i j)) Γ (.d (.int m)) (.d (.int n)) (.d (.bool (g m n))) := fun F σ H Hb v w E hv hw Q q =>
  ⟨m, n, dp_int hv, dp_int hw, q _ H Hb E (Same.refl _) (.bl _)⟩
section
variable {m n : Int}
theorem qv_add (ha : PV G X Γ a (.d (.int m)) Γ1) (hb : PV G X Γ1 b (.d (.int n)) Γ2) : PV G X Γ (.BinOp a .Add b pos) (.d (.int (m + n))) Γ2 := qv_op (fun _ => op_add) ha hb (rvt_int0 (g := fun i j => i + j))
theorem qv_sub (ha : PV G X Γ a (.d (.int m)) Γ1) (hb : PV G X Γ1 b (.d (.int n)) Γ2) : PV G X Γ (.BinOp a .Sub b pos) (.d (.int (m - n))) Γ2 := qv_op (fun _ => op_sub) ha hb (rvt_int0 (g := fun i j => i - j))
theorem qv_mul (ha : PV G X Γ a (.d (.int m)) Γ1) (hb : PV G X Γ1 b (.d (.int n)) Γ2) (h : CMul m n) : PV G X Γ (.BinOp a .Mult b pos) (.d (.int (m * n))) Γ2 := qv_op (fun _ => op_mul) ha hb (rvt_int (g := fun i j => i * j) h)
theorem qv_mod (ha : PV G X Γ a (.d (.int m)) Γ1) (hb : PV G X Γ1 b (.d (.int n)) Γ2) (h : 0 < n) : PV G X Γ (.BinOp a .Mod b pos) (.d (.int (m % n))) Γ2 := qv_op (fun _ => op_mod) ha hb (rvt_int (g := fun i j => i % j) h)
theorem qv_fdiv (ha : PV G X Γ a (.d (.int m)) Γ1) (hb : PV G X Γ1 b (.d (.int n)) Γ2) (h : CDiv m n) : PV G X Γ (.BinOp a .FloorDiv b pos) (.d (.int (m / n))) Γ2 := qv_op (fun _ => op_fdiv) ha hb (rvt_int (g := fun i j => i / j) h)
theorem qv_pow (ha : PV G X Γ a (.d (.int m)) Γ1) (hb : PV G X Γ1 b (.d (.int n)) Γ2) (h : CPow m n) : PV G X Γ (.BinOp a .Pow b pos) (.d (.int (m ^ n.toNat))) Γ2 := qv_op (fun _ => op_pow) ha hb (rvt_int (g := fun i j => i ^ j.toNat) h)
theorem qv_lt (ha : PV G X Γ a (.d (.int m)) Γ1) (hb : PV G X Γ1 b (.d (.int n)) Γ2) : PV G X Γ (.Compare a [.Lt] [b] pos) (.d (.bool (decide (m < n)))) Γ2 := qv_cmp (fun _ => op_lt) ha hb (rvt_bl0 (g := fun i j => decide (i < j)))
theorem qv_le (ha : PV G X Γ a (.d (.int m)) Γ1) (hb : PV G X Γ1 b (.d (.int n)) Γ2) : PV G X Γ (.Compare a [.LtE] [b] pos) (.d (.bool (decide (m ≤ n)))) Γ2 := qv_cmp (fun _ => op_le) ha hb (rvt_bl0 (g := fun i j => decide (i ≤ j)))
theorem qv_gt (ha : PV G X Γ a (.d (.int m)) Γ1) (hb : PV G X Γ1 b (.d (.int n)) Γ2) : PV G X Γ (.Compare a [.Gt] [b] pos) (.d (.bool (decide (n < m)))) Γ2 := qv_cmp (fun _ => op_gt) ha hb (rvt_bl0 (g := fun i j => decide (j < i)))
theorem qv_ge (ha : PV G X Γ a (.d (.int m)) Γ1) (hb : PV G X Γ1 b (.d (.int n)) Γ2) : PV G X Γ (.Compare a [.GtE] [b] pos) (.d (.bool (decide (n ≤ m)))) Γ2 := qv_cmp (fun _ => op_ge) ha hb (rvt_bl0 (g := fun i j => decide (j ≤ i)))
end
/-! ### ==, in, is -/
section
variable {x y : PyData} {ds : List PyData}
theorem qv_eqD (C : Ctx W k X) (hG : W.G = G) (ha : PV G X Γ a (.d x) Γ1) (hb : PV G X Γ1 b (.d y) Γ2) (hx : SeqAt.shaped x = true) (hy : SeqAt.shaped y = true) : PV G X Γ (.Compare a [.Eq] [b] pos) (.d (.bool (PyData.eqv x y))) Γ2 := by
  subst hG
  refine qv_cmp (r := rEqD W.G.K) (fun j => by have h := op_eqD (X := X j) (C.room j).units; rw [C.K j] at h; exact h) ha hb ?_
  exact fun F σ H Hb v w E hv hw Q q => ⟨x, y, dp_up E.sub hv, dp_up E.sub hw, hx, hy, q _ H Hb E (Same.refl _) (.bl _)⟩
theorem qv_neD (C : Ctx W k X) (hG : W.G = G) (ha : PV G X Γ a (.d x) Γ1) (hb : PV G X Γ1 b (.d y) Γ2) (hx : SeqAt.shaped x = true) (hy : SeqAt.shaped y = true) : PV G X Γ (.Compare a [.NotEq] [b] pos) (.d (.bool (!PyData.eqv x y))) Γ2 := by
  subst hG
  refine qv_cmp (r := rNeD W.G.K) (fun j => by have h := op_neD (X := X j) (C.room j).units; rw [C.K j] at h; exact h) ha hb ?_
  exact fun F σ H Hb v w E hv hw Q q => ⟨x, y, dp_up E.sub hv, dp_up E.sub hw, hx, hy, q _ H Hb E (Same.refl _) (.bl _)⟩
theorem room65 {X : ι → Cx} (C : Ctx W k X) (j : ι) : (X j).A.units + 65 < cLine := by
  have h := (C.room j).un
  omega
theorem qv_in (C : Ctx W k X) (hG : W.G = G) (ha : PV G X Γ a (.d x) Γ1) (hb : PV G X Γ1 b (.d (.list ds)) Γ2) (hx : SeqAt.shaped x = true) (hy : SeqAt.shaped (.list ds) = true) (hm : behindInMarks .In b = false := by rfl) :
    PV G X Γ (.Compare a [.In] [b] pos) (.d (.bool (ds.any fun z => PyData.eqv z x))) Γ2 := by
  subst hG
  refine qv_cmp (r := rInD W.G.K) (fun j => by have h := op_inD (X := X j) (room65 C j); rw [C.K j] at h; exact h) ha hb ?_ hm
  exact fun F σ H Hb v w E hv hw Q q => ⟨x, ds, dp_up E.sub hv, dp_up E.sub hw, hx, hy, q _ H Hb E (Same.refl _) (.bl _)⟩
theorem qv_nin (C : Ctx W k X) (hG : W.G = G) (ha : PV G X Γ a (.d x) Γ1) (hb : PV G X Γ1 b (.d (.list ds)) Γ2) (hx : SeqAt.shaped x = true) (hy : SeqAt.shaped (.list ds) = true) (hm : behindInMarks .NotIn b = false := by rfl) :
    PV G X Γ (.Compare a [.NotIn] [b] pos) (.d (.bool (!ds.any fun z => PyData.eqv z x))) Γ2 := by
  subst hG
  refine qv_cmp (r := rNotInD W.G.K) (fun j => by have h := op_notInD (X := X j) (room65 C j); rw [C.K j] at h; exact h) ha hb ?_ hm
  exact fun F σ H Hb v w E hv hw Q q => ⟨x, ds, dp_up E.sub hv, dp_up E.sub hw, hx, hy, q _ H Hb E (Same.refl _) (.bl _)⟩
/-- ints and None -/
def flatD : PyData → Bool
  | .none => true
  | .int _ => true
  | .bool _ => true
  | _ => false
theorem flat_dp {K : PySem.W.Frag} {H : Hp} {v : V} {d : PyData} (h : Dp K H v d) (f : flatD d = true) : flatV v = true := by
  cases h <;> first | rfl | cases f
theorem flat_all {K : PySem.W.Frag} {H : Hp} : ∀ {vs : List V} {ds : List PyData}, DpAll K H vs ds → ds.all flatD = true → vs.all flatV = true
  | _, _, .nil, _ => rfl
  | _, _, .cons h hs, f => by
    rw [List.all_cons, Bool.and_eq_true] at f ⊢
    exact ⟨flat_dp h f.1, flat_all hs f.2⟩
theorem eqV_dp {K : PySem.W.Frag} {H : Hp} {v w : V} {d e : PyData} (h : Dp K H v d) (h' : Dp K H w e) (f : flatD d = true) (f' : flatD e = true) : eqV v w = PyData.eqv d e := by
  cases h <;> first | (cases f; done) | skip
  all_goals (cases h' <;> first | (cases f'; done) | skip)
  all_goals first | rfl | simp [eqV, PyData.eqv] | skip
  all_goals (rename_i i j; cases i <;> cases j <;> rfl)
theorem inV_dp {K : PySem.W.Frag} {H : Hp} {v : V} {x : PyData} (h : Dp K H v x) (f : flatD x = true) : ∀ {vs : List V} {ds : List PyData}, DpAll K H vs ds → ds.all flatD = true → inV v vs = ds.any fun z => PyData.eqv z x
  | _, _, .nil, _ => rfl
  | _, _, .cons h1 hs, f1 => by
    rw [List.all_cons, Bool.and_eq_true] at f1
    have q := inV_dp h f hs f1.2
    unfold inV at q ⊢
    rw [List.any_cons, List.any_cons, q, eqV_dp h1 h f1.1 f]
theorem qv_inT (C : Ctx W k X) (hG : W.G = G) (ha : PV G X Γ a (.d x) Γ1) (hb : PV G X Γ1 b (.d (.tuple ds)) Γ2) (hx : flatD x = true) (hy : ds.all flatD = true) (hm : behindInMarks .In b = false := by rfl) :
    PV G X Γ (.Compare a [.In] [b] pos) (.d (.bool (ds.any fun z => PyData.eqv z x))) Γ2 := by
  subst hG
  refine qv_cmp (r := rIn W.G.K false) (fun j => by have h := op_in_seq (X := X j); rw [C.K j] at h; exact h) ha hb ?_ hm
  refine fun F σ H Hb v w E hv hw Q q => ?_
  obtain ⟨p, vs, rfl, h1, h2⟩ := dp_tup (dp_up E.sub hw)
  have hv' : Dp W.G.K H v x := dp_up E.sub hv
  refine ⟨p, vs, rfl, .inr h1, flat_dp hv' hx, flat_all h2 hy, ?_⟩
  have z := inV_dp hv' hx h2 hy
  show Q (V.bl (inV v vs)) H
  rw [z]
  exact q _ H Hb E (Same.refl _) (.bl _)
end
theorem qv_isN {j pos' : _} (ha : PV G X Γ a t Γ1) : PV G X Γ (.Compare a [.Is] [.Constant .none j pos'] pos) (.d (.bool (isN t))) Γ1 := by
  obtain ⟨r, h1, h2⟩ := ha
  refine ⟨_, fun i => pe_cmp (pc_isN (h1 i)), fun F σ H Hb E Q q => h2 F σ H Hb E _ fun v H' Hb' E' s' r' => ?_⟩
  show Q (.bl (decide (v = .non))) H'
  rw [rep_isN r']
  exact q _ H' Hb' E' s' (.bl _)
theorem qv_notN {j pos' : _} (ha : PV G X Γ a t Γ1) : PV G X Γ (.Compare a [.IsNot] [.Constant .none j pos'] pos) (.d (.bool (!isN t))) Γ1 := by
  obtain ⟨r, h1, h2⟩ := ha
  refine ⟨_, fun i => pe_cmp (pc_notN (h1 i)), fun F σ H Hb E Q q => h2 F σ H Hb E _ fun v H' Hb' E' s' r' => ?_⟩
  show Q (.bl (!decide (v = .non))) H'
  rw [rep_isN r']
  exact q _ H' Hb' E' s' (.bl _)
/-- x is True, x is not False -/
theorem qv_isB {m n : Bool} (ha : PV G X Γ a (.d (.bool m)) Γ1) (hb : PV G X Γ1 b (.d (.bool n)) Γ2) : PV G X Γ (.Compare a [.Is] [b] pos) (.d (.bool (decide (m = n)))) Γ2 :=
  qv_cmp (fun _ => op_is_bl) ha hb fun F σ H Hb v w E hv hw Q q => ⟨m, n, dp_bl hv, dp_bl hw, q _ H Hb E (Same.refl _) (.bl _)⟩
theorem qv_isnotB {m n : Bool} (ha : PV G X Γ a (.d (.bool m)) Γ1) (hb : PV G X Γ1 b (.d (.bool n)) Γ2) : PV G X Γ (.Compare a [.IsNot] [b] pos) (.d (.bool (!decide (m = n)))) Γ2 :=
  qv_cmp (fun _ => op_isnot_bl) ha hb fun F σ H Hb v w E hv hw Q q => ⟨m, n, dp_bl hv, dp_bl hw, q _ H Hb E (Same.refl _) (.bl _)⟩

/-! ### tests -/
theorem qb_val {m : Bool} (h : PV G X Γ e (.d (.bool m)) Γ1) (he : ∀ j whole, isTrue e (X j).env whole = (do let v ← whole; standAt e.pos; holding [v] (truthy v)) := by intro _ _; rfl) : PB G X Γ e m Γ1 := by
  obtain ⟨r, h1, h2⟩ := h
  refine ⟨_, fun j => pt_val (h1 j) (he j), fun F σ H Hb E Q q => h2 F σ H Hb E _ fun v H' Hb' E' s' r' => ⟨m, dp_bl r', q H' Hb' E' s'⟩⟩
theorem qb_not {m : Bool} (h : PB G X Γ e m Γ1) : PB G X Γ (.UnaryOp .Not e pos) (!m) Γ1 := by
  obtain ⟨r, h1, h2⟩ := h
  exact ⟨_, fun j => pt_not (h1 j), fun F σ H Hb E Q q => h2 F σ H Hb E _ fun H' Hb' E' s' => q H' Hb' E' s'⟩
theorem qb_w {m : Bool} (h : PBw G X Γ e m Γ1) : PB G X Γ e m Γ1 := let ⟨r, h1, h2⟩ := h; ⟨r, fun j => (h1 j).pt, h2⟩
theorem qw_and1 {m : Bool} (h : PB G X Γ a m Γ1) : PBw G X Γ (.BoolOp .And [a] pos) m Γ1 := let ⟨r, h1, h2⟩ := h; ⟨r, fun j => pw_and1 (h1 j), h2⟩
theorem qw_or1 {m : Bool} (h : PB G X Γ a m Γ1) : PBw G X Γ (.BoolOp .Or [a] pos) m Γ1 := let ⟨r, h1, h2⟩ := h; ⟨r, fun j => pw_or1 (h1 j), h2⟩
theorem qw_and {m n : Bool} (h : PB G X Γ a m Γ) (h' : m = true → PBw G X Γ (.BoolOp .And (b :: rest) pos) n Γ) : PBw G X Γ (.BoolOp .And (a :: b :: rest) pos) (m && n) Γ := by
  obtain ⟨r, h1, h2⟩ := h
  cases m with
  | true =>
    obtain ⟨u, u1, u2⟩ := h' rfl
    exact ⟨_, fun j => pw_and (h1 j) (u1 j), fun F σ H Hb E Q q => h2 F σ H Hb E _ fun H' Hb' E' s' => by
      show u σ H' Q
      exact u2 F σ H' Hb' E' Q fun H2 Hb2 E2 s2 => q H2 Hb2 E2 (s'.trans s2)⟩
  | false =>
    exact ⟨_, fun j => pw_and (h1 j) pw_never, fun F σ H Hb E Q q => h2 F σ H Hb E _ fun H' Hb' E' s' => by
      show Q false H'
      exact q H' Hb' E' s'⟩
theorem qw_or {m n : Bool} (h : PB G X Γ a m Γ) (h' : m = false → PBw G X Γ (.BoolOp .Or (b :: rest) pos) n Γ) : PBw G X Γ (.BoolOp .Or (a :: b :: rest) pos) (m || n) Γ := by
  obtain ⟨r, h1, h2⟩ := h
  cases m with
  | false =>
    obtain ⟨u, u1, u2⟩ := h' rfl
    exact ⟨_, fun j => pw_or (h1 j) (u1 j), fun F σ H Hb E Q q => h2 F σ H Hb E _ fun H' Hb' E' s' => by
      show u σ H' Q
      exact u2 F σ H' Hb' E' Q fun H2 Hb2 E2 s2 => q H2 Hb2 E2 (s'.trans s2)⟩
  | true =>
    exact ⟨_, fun j => pw_or (h1 j) pw_never, fun F σ H Hb E Q q => h2 F σ H Hb E _ fun H' Hb' E' s' => by
      show Q true H'
      exact q H' Hb' E' s'⟩
/-! ### and, or, not as values; if else -/
theorem qv_one {op : BoolOp} (h : PV G X Γ a t Γ1) : PV G X Γ (.BoolOp op [a] pos) t Γ1 := let ⟨r, h1, h2⟩ := h; ⟨r, fun j => pe_one (h1 j), h2⟩
theorem qv_and {m n : Bool} (h : PV G X Γ a (.d (.bool m)) Γ) (h' : m = true → PV G X Γ (.BoolOp .And (b :: rest) pos) (.d (.bool n)) Γ) : PV G X Γ (.BoolOp .And (a :: b :: rest) pos) (.d (.bool (m && n))) Γ := by
  obtain ⟨r, h1, h2⟩ := h
  cases m with
  | true =>
    obtain ⟨u, u1, u2⟩ := h' rfl
    exact ⟨_, fun j => pe_and (h1 j) (u1 j), fun F σ H Hb E Q q => h2 F σ H Hb E _ fun v H' Hb' E' s' r' => ⟨true, dp_bl r', by
      show u σ H' Q
      exact u2 F σ H' Hb' E' Q fun w H2 Hb2 E2 s2 r2 => q w H2 Hb2 E2 (s'.trans s2) r2⟩⟩
  | false =>
    exact ⟨_, fun j => pe_and (h1 j) pe_never, fun F σ H Hb E Q q => h2 F σ H Hb E _ fun v H' Hb' E' s' r' => ⟨false, dp_bl r', by
      show Q (.bl false) H'
      exact q _ H' Hb' E' s' (.bl _)⟩⟩
theorem qv_or {m n : Bool} (h : PV G X Γ a (.d (.bool m)) Γ) (h' : m = false → PV G X Γ (.BoolOp .Or (b :: rest) pos) (.d (.bool n)) Γ) : PV G X Γ (.BoolOp .Or (a :: b :: rest) pos) (.d (.bool (m || n))) Γ := by
  obtain ⟨r, h1, h2⟩ := h
  cases m with
  | false =>
    obtain ⟨u, u1, u2⟩ := h' rfl
    exact ⟨_, fun j => pe_or (h1 j) (u1 j), fun F σ H Hb E Q q => h2 F σ H Hb E _ fun v H' Hb' E' s' r' => ⟨false, dp_bl r', by
      show u σ H' Q
      exact u2 F σ H' Hb' E' Q fun w H2 Hb2 E2 s2 r2 => q w H2 Hb2 E2 (s'.trans s2) r2⟩⟩
  | true =>
    exact ⟨_, fun j => pe_or (h1 j) pe_never, fun F σ H Hb E Q q => h2 F σ H Hb E _ fun v H' Hb' E' s' r' => ⟨true, dp_bl r', by
      show Q (.bl true) H'
      exact q _ H' Hb' E' s' (.bl _)⟩⟩
theorem qv_not {m : Bool} (h : PV G X Γ e (.d (.bool m)) Γ1) : PV G X Γ (.UnaryOp .Not e pos) (.d (.bool (!m))) Γ1 := by
  obtain ⟨r, h1, h2⟩ := h
  exact ⟨_, fun j => pe_not (h1 j), fun F σ H Hb E Q q => h2 F σ H Hb E _ fun v H' Hb' E' s' r' => ⟨m, dp_bl r', q _ H' Hb' E' s' (.bl _)⟩⟩
theorem qv_if {m : Bool} (h : PB G X Γ c m Γ1) (ha : m = true → PV G X Γ1 a t Γ2) (hb : m = false → PV G X Γ1 b t Γ2) : PV G X Γ (.IfExp c a b pos) t Γ2 := by
  obtain ⟨r, h1, h2⟩ := h
  cases m with
  | true =>
    obtain ⟨u, u1, u2⟩ := ha rfl
    exact ⟨_, fun j => pe_ifExp (h1 j) (u1 j) pe_never, fun F σ H Hb E Q q => h2 F σ H Hb E _ fun H' Hb' E' s' => by
      show u σ H' Q
      exact u2 F σ H' Hb' E' Q fun w H2 Hb2 E2 s2 r2 => q w H2 Hb2 E2 (s'.trans s2) r2⟩
  | false =>
    obtain ⟨u, u1, u2⟩ := hb rfl
    exact ⟨_, fun j => pe_ifExp (h1 j) pe_never (u1 j), fun F σ H Hb E Q q => h2 F σ H Hb E _ fun H' Hb' E' s' => by
      show u σ H' Q
      exact u2 F σ H' Hb' E' Q fun w H2 Hb2 E2 s2 r2 => q w H2 Hb2 E2 (s'.trans s2) r2⟩

/-! ### arguments, displays -/
theorem ql_nil : PL G X Γ [] [] Γ := ⟨_, fun _ => pa_nil, fun F σ H Hb E Q q => q [] H Hb E (Same.refl _) .nil⟩
theorem ql_cons {ts : List Tv} (h : PV G X Γ e t Γ1) (h' : PL G X Γ1 es ts Γ2) (hs : ∀ j, starEach (e :: es) (X j).env = (false, eval e (X j).env) :: starEach es (X j).env := by intro _; rfl) : PL G X Γ (e :: es) (t :: ts) Γ2 := by
  obtain ⟨r, h1, h2⟩ := h
  obtain ⟨u, u1, u2⟩ := h'
  exact ⟨_, fun j => pa_cons (h1 j) (u1 j) (hs j), fun F σ H Hb E Q q => h2 F σ H Hb E _ fun v H' Hb' E' s' r' => u2 F σ H' Hb' E' _ fun vs H2 Hb2 E2 s2 r2 => q _ H2 Hb2 E2 (s'.trans s2) (.cons (rep_up s2 r') r2)⟩
theorem qd_nil : PD G X Γ [] [] Γ := ⟨_, fun _ => pa_nil, fun F σ H Hb E Q q => q [] H Hb E (Same.refl _) .nil⟩
theorem qd_cons {d : PyData} {ds : List PyData} (h : PV G X Γ e (.d d) Γ1) (h' : PD G X Γ1 es ds Γ2) (hs : ∀ j, starEach (e :: es) (X j).env = (false, eval e (X j).env) :: starEach es (X j).env := by intro _; rfl) : PD G X Γ (e :: es) (d :: ds) Γ2 := by
  obtain ⟨r, h1, h2⟩ := h
  obtain ⟨u, u1, u2⟩ := h'
  exact ⟨_, fun j => pa_cons (h1 j) (u1 j) (hs j), fun F σ H Hb E Q q => h2 F σ H Hb E _ fun v H' Hb' E' s' r' => u2 F σ H' Hb' E' _ fun vs H2 Hb2 E2 s2 r2 => q _ H2 Hb2 E2 (s'.trans s2) (.cons (dp_up s2 r') r2)⟩
theorem small_sz {n : Nat} (h : n ≤ 100000) : n ≤ sizeLine := Nat.le_trans h (by decide)
/-- (a, b, ..): the new tuple has no dict -/
def tTupF (t : TA) : TE := fun σ H Q => t σ H fun xs H1 => xs.length ≤ sizeLine ∧ ∀ (p : Addr) (o : Obj), H1 p = none → o.dict = none → Q (.ref p) (upd H1 p (.frz o (.tup xs)))
theorem pe_tupF {X : Cx} {es : List Expr} {t : TA} {x1 : _} {pos : Pos} (h : PA X es t) : PE X (.Tuple es x1 pos) (tTupF t) := by
  refine ⟨fun pins s σ H Q I hq => ?_⟩
  refine wpAny_Tuple_spliced (thn (h.run pos pins s σ H _ I hq) fun us s1 ⟨xs, H1, I1, r, z, q⟩ => ⟨by rw [← r.length]; exact z, ?_⟩)
  have hf : H1 s1.heap.objs.size = none := I1.hok.fresh (Nat.le_refl _)
  have hp := Heap.get?_push_size s1.heap (o := { cls := .type "tuple", data := .seq us.toArray 0 }) rfl
  refine ⟨.ref s1.heap.objs.size, upd H1 s1.heap.objs.size (.frz { cls := .type "tuple", data := .seq us.toArray 0 } (.tup xs)), I1.laid (t' := s1.toks) (fun b u e => Heap.get?_push_of_some _ e) (Nat.le_refl _) ?_, rfl, q _ _ hf rfl⟩
  exact ⟨hp, z, us, r, ⟨_, hp, rfl, _, rfl⟩⟩
theorem qv_tup {x1 : _} {ds : List PyData} (h : PD G X Γ es ds Γ1) (hz : ds.length ≤ 100000 := by exact Nat.le_of_ble_eq_true rfl) : PV G X Γ (.Tuple es x1 pos) (.d (.tuple ds)) Γ1 := by
  obtain ⟨r, h1, h2⟩ := h
  refine ⟨_, fun j => pe_tupF (h1 j), fun F σ H Hb E Q q => h2 F σ H Hb E _ fun vs H' Hb' E' s' r' => ⟨by rw [dpAll_len r']; exact small_sz hz, fun p o hp ho => ?_⟩⟩
  exact q (.ref p) _ _ (E'.new hp (o := .frz o (.tup vs)) ho) (s'.trans (same_upd (E'.hbn hp))) (.tup (.inl (.inr ⟨o, upd_same⟩)) (dpAll_up (same_upd (E'.hbn hp)) r'))
/-- [a, b, ..] -/
theorem qf_lst {ds : List PyData} (h : PD G X Γ es ds Γ1) (hz : ds.length ≤ 100000 := by exact Nat.le_of_ble_eq_true rfl) : PF G X Γ (.List es pos) (.lst ds) Γ1 := by
  obtain ⟨r, h1, h2⟩ := h
  refine ⟨_, fun j => pe_lst (h1 j), fun F σ H Hb E Q q => h2 F σ H Hb E _ fun vs H' Hb' E' s' r' => ⟨by rw [dpAll_len r']; exact small_sz hz, fun p hp => ?_⟩⟩
  exact q p (.lst vs) _ Hb' (E'.lay hp) s' upd_same r' (E'.fn hp) (E'.hbn hp) (E'.notN hp)
theorem qv_lst {ds : List PyData} (h : PD G X Γ es ds Γ1) (hz : ds.length ≤ 100000 := by exact Nat.le_of_ble_eq_true rfl) : PV G X Γ (.List es pos) (.d (.list ds)) Γ1 := qv_new (qf_lst h hz)
end
end Lk
set_option Elab.async false
set_option linter.all false
set_option maxRecDepth 100000
set_option maxHeartbeats 2000000
/-! T3: what is walked, targets, comprehensions, statements. -/
namespace Lk
open PySem PySem.Spec PyProof.Rows L2

/-! ### the readings that say all -/
section
variable {ι : Type}
def canE (X : ι → Cx) (e : Expr) : TE := fun σ H Q => ∀ j pins s, Inv (X j) pins σ H s → wpAny (model (X j).prog (X j).w) (X j).A (eval e (X j).env) (EP (X j) pins σ Q) (X j).xe s
theorem canE_pe (X : ι → Cx) (e : Expr) (j : ι) : PE (X j) e (canE X e) := ⟨fun pins s σ H Q I h => h j pins s I⟩
theorem PV.can {G : Gx} {X : ι → Cx} {Γ Γ1 : List Sl} {e : Expr} {t : Tv} (h : PV G X Γ e t Γ1) : EV G (canE X e) Γ t Γ1 := by
  obtain ⟨r, h1, h2⟩ := h
  exact fun F σ H Hb E Q q j pins s I => (h1 j).run pins s σ H Q I (h2 F σ H Hb E Q q)
def canTs (X : ι → Cx) (ifs : List Expr) : TT := fun σ H Q => ∀ j t, PTs (X j) ifs t → False
/-- tests of a comprehension -/
def PTv (G : Gx) (X : ι → Cx) (Γ : List Sl) (ifs : List Expr) (b : Bool) (Γ' : List Sl) : Prop := ∃ r, (∀ j, PTs (X j) ifs r) ∧ ET G r Γ b Γ'
def canT (X : ι → Cx) (ifs : List Expr) : TT := fun σ H Q => ∃ r : TT, (∀ j, PTs (X j) ifs r) ∧ r σ H Q
theorem canT_pts (X : ι → Cx) (ifs : List Expr) (j : ι) : PTs (X j) ifs (canT X ifs) := ⟨fun pins s σ H Q I h => by
  obtain ⟨r, h1, h2⟩ := h
  exact (h1 j).run pins s σ H Q I h2⟩
theorem PTv.can {G : Gx} {X : ι → Cx} {Γ Γ1 : List Sl} {ifs : List Expr} {b : Bool} (h : PTv G X Γ ifs b Γ1) : ET G (canT X ifs) Γ b Γ1 := by
  obtain ⟨r, h1, h2⟩ := h
  exact fun F σ H Hb E Q q => ⟨r, h1, h2 F σ H Hb E Q q⟩
theorem qt_nil {G : Gx} {X : ι → Cx} {Γ : List Sl} : PTv G X Γ [] true Γ := ⟨_, fun _ => pts_nil, fun F σ H Hb E Q q => q H Hb E (Same.refl _)⟩
theorem qt_one {G : Gx} {X : ι → Cx} {Γ Γ1 : List Sl} {c : Expr} {b : Bool} (h : PB G X Γ c b Γ1) : PTv G X Γ [c] b Γ1 := by
  obtain ⟨r, h1, h2⟩ := h
  exact ⟨r, fun j => pts_one (h1 j), h2⟩
end

/-! ### what is walked -/
/-- n turns over ts, as long as what stands at Hb stands -/
structure IterStd (K : PySem.W.Frag) (Hb : Hp) (J : It) (ts : List PyData) : Prop where
  goes : ∀ i H, i < ts.length → Same Hb H → J.go i H
  stops : ∀ H, Same Hb H → J.stop ts.length H
  yields : ∀ i H x H', i < ts.length → Same Hb H → J.yld i H x H' → ∃ d, ts[i]? = some d ∧
    ((H' = H ∧ Dp K Hb x d) ∨ ∃ T x1 x2 d1 d2, x = .ref T ∧ H T = none ∧ H' = upd H T (.tup [x1, x2]) ∧ d = .tuple [d1, d2] ∧ Dp K Hb x1 d1 ∧ Dp K Hb x2 d2)
def EI (G : Gx) (wi : TI) (Γ : List Sl) (ts : List PyData) (Γ' : List Sl) : Prop := ∀ F σ H Hb, EnvOk G F Γ σ H Hb → ∀ R : It → Hp → Prop, (∀ J H' Hb', EnvOk G F Γ' σ H' Hb' → Same Hb Hb' → IterStd G.K Hb' J ts → R J H') → wi σ H R
section
variable {ι : Type}
def PIv (G : Gx) (X : ι → Cx) (Γ : List Sl) (tg iter : Expr) (ts : List PyData) (Γ' : List Sl) : Prop := ∃ wi, (∀ j, PI (X j) tg iter wi) ∧ EI G wi Γ ts Γ'
variable {G : Gx} {W : Wd} {k : Nat} {X : ι → Cx} {Γ Γ1 Γ2 : List Sl} {tg e e2 : Expr} {pos p : Pos} {ds ds2 : List PyData}
theorem iterStd_list {K : PySem.W.Frag} {Hb : Hp} {a : Addr} {vs : List V} (h : SqL K Hb a vs) (hs : DpAll K Hb vs ds) : IterStd K Hb (Itl K a) ds := by
  have hl := dpAll_len hs
  refine ⟨fun i H hi q => walk_list.goes i H (by rw [hl]; exact hi) (seqL_up q h), fun H q => by rw [← hl]; exact walk_list.stops H (seqL_up q h), fun i H x H' hi q y => ?_⟩
  obtain ⟨e1, e2⟩ := walk_list.yields i H x H' (by rw [hl]; exact hi) (seqL_up q h) y
  obtain ⟨d, h1, h2⟩ := dpAll_getV hs e2
  exact ⟨d, h1, .inl ⟨e1, h2⟩⟩
theorem iterStd_tup {K : PySem.W.Frag} {Hb : Hp} {a : Addr} {vs : List V} (h : SqT K Hb a vs) (hs : DpAll K Hb vs ds) : IterStd K Hb (Itt K a) ds := by
  have hl := dpAll_len hs
  refine ⟨fun i H hi q => walk_tup.goes i H (by rw [hl]; exact hi) (seqT_up q h), fun H q => by rw [← hl]; exact walk_tup.stops H (seqT_up q h), fun i H x H' hi q y => ?_⟩
  obtain ⟨e1, e2⟩ := walk_tup.yields i H x H' (by rw [hl]; exact hi) (seqT_up q h) y
  obtain ⟨d, h1, h2⟩ := dpAll_getV hs e2
  exact ⟨d, h1, .inl ⟨e1, h2⟩⟩
theorem qi_list (C : Ctx W k X) (hG : W.G = G) (h : PV G X Γ e (.d (.list ds)) Γ1) : PIv G X Γ tg e ds Γ1 := by
  subst hG
  obtain ⟨r, h1, h2⟩ := h
  refine ⟨iList W.G.K r, fun j => by have q := pi_list (tg := tg) (h1 j); rw [C.K j] at q; exact q, fun F σ H Hb E R q => h2 F σ H Hb E _ fun v H' Hb' E' s' r' => ?_⟩
  obtain ⟨a, vs, rfl, hs, hd⟩ := dp_lst r'
  exact ⟨a, rfl, ⟨vs, seqL_up E'.sub hs⟩, q _ H' Hb' E' s' (iterStd_list hs hd)⟩
theorem qi_tup (C : Ctx W k X) (hG : W.G = G) (h : PV G X Γ e (.d (.tuple ds)) Γ1) : PIv G X Γ tg e ds Γ1 := by
  subst hG
  obtain ⟨r, h1, h2⟩ := h
  refine ⟨iTup W.G.K r, fun j => by have q := pi_tup (tg := tg) (h1 j); rw [C.K j] at q; exact q, fun F σ H Hb E R q => h2 F σ H Hb E _ fun v H' Hb' E' s' r' => ?_⟩
  obtain ⟨a, vs, rfl, hs, hd⟩ := dp_tup r'
  exact ⟨a, rfl, ⟨vs, seqT_up E'.sub hs⟩, q _ H' Hb' E' s' (iterStd_tup hs hd)⟩
/-- the ints from lo on -/
def rngD (lo : Int) (n : Nat) : List PyData := (List.range n).map fun i : Nat => PyData.int (lo + i)
theorem iterStd_rng {K : PySem.W.Frag} {Hb : Hp} {lo : Int} {n : Nat} : IterStd K Hb (Itr lo n) (rngD lo n) := by
  have hl : (rngD lo n).length = n := by unfold rngD; rw [List.length_map, List.length_range]
  refine ⟨fun i H hi _ => by rw [hl] at hi; exact hi, fun H _ => by rw [hl]; exact Nat.le_refl n, fun i H x H' hi q y => ?_⟩
  rw [hl] at hi
  obtain ⟨e1, e2⟩ := y
  refine ⟨.int (lo + i), by unfold rngD; rw [List.getElem?_map, List.getElem?_range hi]; rfl, .inl ⟨e1, ?_⟩⟩
  rw [e2]
  exact .int _
theorem qi_rng1 (C : Ctx W k X) {n : Int} (hm : W.mg "range" = none) (h : PV G X Γ e (.d (.int n)) Γ1) (h1 : -(2 ^ 62) ≤ n) (h2 : n < 2 ^ 62) (hg : ∀ j, Gl (X j) "range" := by intro _; rfl) (hs : ∀ j, starEach [e] (X j).env = [(false, eval e (X j).env)] := by intro _; rfl)
    (hs2 : ∀ j, starEach [e] (X j).env = (false, eval e (X j).env) :: starEach [] (X j).env := by intro _; rfl) : PIv G X Γ tg (.Call (.Name "range" p) [e] [] pos) (rngD 0 n.toNat) Γ1 := by
  obtain ⟨r, a1, a2⟩ := h
  refine ⟨_, fun j => pi_range1 (hg j) (by rw [C.mg j]; exact hm) (pa_cons (a1 j) pa_nil (hs2 j)) (hs j), fun F σ H Hb E R q => a2 F σ H Hb E _ fun v H' Hb' E' s' r' => ?_⟩
  exact ⟨n, by rw [dp_int r'], h1, h2, q _ H' Hb' E' s' iterStd_rng⟩
theorem qi_rng2 (C : Ctx W k X) {m n : Int} (hm : W.mg "range" = none) (h : PV G X Γ e (.d (.int m)) Γ1) (h' : PV G X Γ1 e2 (.d (.int n)) Γ2) (hb : -(2 ^ 62) ≤ m ∧ m < 2 ^ 62 ∧ -(2 ^ 62) ≤ n ∧ n < 2 ^ 62) (hg : ∀ j, Gl (X j) "range" := by intro _; rfl)
    (hs : ∀ j, starEach [e, e2] (X j).env = [(false, eval e (X j).env), (false, eval e2 (X j).env)] := by intro _; rfl) (hs2 : ∀ j, starEach [e2] (X j).env = [(false, eval e2 (X j).env)] := by intro _; rfl)
    (hs3 : ∀ j, starEach [e, e2] (X j).env = (false, eval e (X j).env) :: starEach [e2] (X j).env := by intro _; rfl) (hs4 : ∀ j, starEach [e2] (X j).env = (false, eval e2 (X j).env) :: starEach [] (X j).env := by intro _; rfl) :
    PIv G X Γ tg (.Call (.Name "range" p) [e, e2] [] pos) (rngD m (n - m).toNat) Γ2 := by
  obtain ⟨r, a1, a2⟩ := h
  obtain ⟨u, b1, b2⟩ := h'
  refine ⟨_, fun j => pi_range2 (hg j) (by rw [C.mg j]; exact hm) (pa_cons (a1 j) (pa_cons (b1 j) pa_nil (hs4 j)) (hs3 j)) (hs j) (hs2 j), fun F σ H Hb E R q => a2 F σ H Hb E _ fun v H' Hb' E' s' r' => b2 F σ H' Hb' E' _ fun v2 H2 Hb2 E2 s2 r2 => ?_⟩
  exact ⟨m, n, by rw [dp_int r', dp_int r2], hb, q _ H2 Hb2 E2 (s'.trans s2) iterStd_rng⟩
/-- (0, x), (1, y), .. -/
def enumD (i : Nat) : List PyData → List PyData
  | [] => []
  | d :: ds => .tuple [.int (i : Nat), d] :: enumD (i + 1) ds
theorem enumD_len : ∀ (ds : List PyData) (i : Nat), (enumD i ds).length = ds.length
  | [], _ => rfl
  | _ :: ds, i => by unfold enumD; rw [List.length_cons, List.length_cons, enumD_len ds]
theorem enumD_get : ∀ (ds : List PyData) (i j : Nat), (enumD i ds)[j]? = (ds[j]?).map fun d => PyData.tuple [.int ((i + j : Nat) : Int), d]
  | [], _, _ => by simp [enumD]
  | d :: ds, i, 0 => by simp [enumD]
  | d :: ds, i, j + 1 => by
    unfold enumD
    rw [List.getElem?_cons_succ, List.getElem?_cons_succ, enumD_get ds (i + 1) j]
    have e : i + 1 + j = i + (j + 1) := by omega
    rw [e]
theorem qi_enum (C : Ctx W k X) (hG : W.G = G) {elts : List Expr} {kk : Nat} {tpos : Pos} (hm : W.mg "enumerate" = none) (h : PV G X Γ e (.d (.list ds)) Γ1) (hg : ∀ j, Gl (X j) "enumerate" := by intro _; rfl) (hs : ∀ j, starEach [e] (X j).env = [(false, eval e (X j).env)] := by intro _; rfl)
    (hs2 : ∀ j, starEach [e] (X j).env = (false, eval e (X j).env) :: starEach [] (X j).env := by intro _; rfl) : PIv G X Γ (.Tuple elts kk tpos) (.Call (.Name "enumerate" p) [e] [] pos) (enumD 0 ds) Γ1 := by
  subst hG
  obtain ⟨r, a1, a2⟩ := h
  refine ⟨iEnum W.G.K (tCons r tNil), fun j => by have q := pi_enum (tpos := tpos) (elts := elts) (kk := kk) (p := p) (pos := pos) (hg j) (by rw [C.mg j]; exact hm) (pa_cons (a1 j) pa_nil (hs2 j)) (hs j); rw [C.K j] at q; exact q, fun F σ H Hb E R q => a2 F σ H Hb E _ fun v H' Hb' E' s' r' => ?_⟩
  obtain ⟨a, vs, rfl, hs, hd⟩ := dp_lst r'
  refine ⟨a, vs, rfl, seqL_up E'.sub hs, q _ H' Hb' E' s' ?_⟩
  have hl := dpAll_len hd
  have hn := enumD_len ds 0
  refine ⟨fun i H hi z => walk_enum.goes i H (by omega) (seqL_up z hs), fun H z => by rw [hn, ← hl]; exact walk_enum.stops H (seqL_up z hs), fun i H x H2 hi z y => ?_⟩
  obtain ⟨T, x1, y1, h1, h2, h3, h4, h5⟩ := walk_enum.yields i H x H2 (by omega) (seqL_up z hs) y
  obtain ⟨d, h6, h7⟩ := dpAll_getV hd h5
  have ex : x1 = .int (i : Nat) := (Option.some.inj h4).symm
  refine ⟨.tuple [.int (i : Nat), d], by rw [enumD_get, h6]; simp, .inr ⟨T, x1, y1, .int (i : Nat), d, h1, h2, h3, rfl, by rw [ex]; exact .int _, h7⟩⟩
def zipD : List PyData → List PyData → List PyData
  | d :: ds, e :: es => .tuple [d, e] :: zipD ds es
  | _, _ => []
theorem zipD_len : ∀ (ds es : List PyData), (zipD ds es).length = min ds.length es.length
  | [], es => by simp [zipD]
  | _ :: _, [] => by simp [zipD]
  | d :: ds, e :: es => by
    unfold zipD
    rw [List.length_cons, List.length_cons, List.length_cons, zipD_len ds es]
    omega
theorem zipD_get : ∀ (ds es : List PyData) (j : Nat) (d e : PyData), ds[j]? = some d → es[j]? = some e → (zipD ds es)[j]? = some (.tuple [d, e])
  | [], _, _, _, _, h, _ => by simp at h
  | _ :: _, [], _, _, _, _, h => by simp at h
  | d :: ds, e :: es, 0, _, _, h1, h2 => by
    simp only [List.getElem?_cons_zero, Option.some.injEq] at h1 h2
    subst h1 h2
    simp [zipD]
  | d :: ds, e :: es, j + 1, d', e', h1, h2 => by
    simp only [List.getElem?_cons_succ] at h1 h2
    unfold zipD
    rw [List.getElem?_cons_succ]
    exact zipD_get ds es j d' e' h1 h2
theorem qi_zip (C : Ctx W k X) (hG : W.G = G) {elts : List Expr} {kk : Nat} {tpos : Pos} (hm : W.mg "zip" = none) (h : PV G X Γ e (.d (.list ds)) Γ1) (h' : PV G X Γ1 e2 (.d (.list ds2)) Γ2) (hg : ∀ j, Gl (X j) "zip" := by intro _; rfl)
    (hs : ∀ j, starEach [e, e2] (X j).env = (false, eval e (X j).env) :: starEach [e2] (X j).env := by intro _; rfl) (hs4 : ∀ j, starEach [e2] (X j).env = (false, eval e2 (X j).env) :: starEach [] (X j).env := by intro _; rfl)
    (hpl : ∀ j, (backTo pos (starEach [e2] (X j).env)).any (·.1) = false := by intro _; rfl) : PIv G X Γ (.Tuple elts kk tpos) (.Call (.Name "zip" p) [e, e2] [] pos) (zipD ds ds2) Γ2 := by
  subst hG
  obtain ⟨r, a1, a2⟩ := h
  obtain ⟨u, b1, b2⟩ := h'
  refine ⟨iZip W.G.K (tCons r (tCons u tNil)), fun j => by have q := pi_zip (tpos := tpos) (elts := elts) (kk := kk) (p := p) (pos := pos) (hg j) (by rw [C.mg j]; exact hm) (pa_cons (a1 j) (pa_cons (b1 j) pa_nil (hs4 j)) (hs j)) (hs j) (hpl j); rw [C.K j] at q; exact q,
    fun F σ H Hb E R q => a2 F σ H Hb E _ fun v H' Hb' E' s' r' => b2 F σ H' Hb' E' _ fun v2 H2 Hb2 E2 s2 r2 => ?_⟩
  obtain ⟨a, vs, rfl, hs, hd⟩ := dp_lst (dp_up s2 r')
  obtain ⟨b, ws, rfl, hs', hd'⟩ := dp_lst r2
  refine ⟨a, b, vs, ws, rfl, seqL_up E2.sub hs, seqL_up E2.sub hs', q _ H2 Hb2 E2 (s'.trans s2) ?_⟩
  have hl := dpAll_len hd
  have hl' := dpAll_len hd'
  have hn := zipD_len ds ds2
  have wz : Walk (Itz W.G.K a b) (min vs.length ws.length) _ _ := walk_zip rfl
  refine ⟨fun i H hi z => wz.goes i H (by omega) ⟨seqL_up z hs, seqL_up z hs'⟩, fun H z => by rw [hn, ← hl, ← hl']; exact wz.stops H ⟨seqL_up z hs, seqL_up z hs'⟩, fun i H x H3 hi z y => ?_⟩
  obtain ⟨T, x1, y1, h1, h2, h3, h4, h5⟩ := wz.yields i H x H3 (by omega) ⟨seqL_up z hs, seqL_up z hs'⟩ y
  obtain ⟨d, h6, h7⟩ := dpAll_getV hd h4
  obtain ⟨d', h8, h9⟩ := dpAll_getV hd' h5
  exact ⟨.tuple [d, d'], zipD_get _ _ _ _ _ h6 h8, .inr ⟨T, x1, y1, d, d', h1, h2, h3, rfl, h7, h9⟩⟩
end

/-! ### targets -/
/-- the slots js get what d is made of -/
def EG (G : Gx) (g : TG) (js : List Nat) (Γ : List Sl) (d : PyData) (Γ' : List Sl) : Prop := ∀ F σ H Hb x, EnvOk G F Γ σ H Hb → Dp G.K Hb x d → ∀ Q : L2.St → Hp → Prop, (∀ σ', EnvOk G F Γ' σ' H Hb → σ'.length = σ.length → (∀ m, m ∉ js → σ'[m]? = σ[m]?) → Q σ' H) → g x σ H Q
def EGs (G : Gx) (g : TGs) (js : List Nat) (Γ : List Sl) (ds : List PyData) (Γ' : List Sl) : Prop := ∀ F σ H Hb xs, EnvOk G F Γ σ H Hb → DpAll G.K Hb xs ds → ∀ Q : L2.St → Hp → Prop, (∀ σ', EnvOk G F Γ' σ' H Hb → σ'.length = σ.length → (∀ m, m ∉ js → σ'[m]? = σ[m]?) → Q σ' H) → g xs σ H Q
section
variable {ι : Type}
/-- a target, whatever comes to it -/
def PGv (G : Gx) (X : ι → Cx) (js : List Nat) (tg : Expr) (ok : PyData → Prop) (to : List Sl → PyData → List Sl) : Prop := ∃ g, (∀ j, PG (X j) tg g) ∧ ∀ Γ d, ok d → EG G g js Γ d (to Γ d)
def PGsv (G : Gx) (X : ι → Cx) (js : List Nat) (tgs : List Expr) (ok : List PyData → Prop) (to : List Sl → List PyData → List Sl) : Prop := ∃ g, (∀ j, PGs (X j) tgs g) ∧ ∀ Γ d, ok d → EGs G g js Γ d (to Γ d)
variable {G : Gx} {W : Wd} {k : Nat} {X : ι → Cx} {pos : Pos} {tg : Expr} {tgs : List Expr} {js js' : List Nat}
theorem qg_name (C : Ctx W k X) (i : Nat) {x : Str} (hi : ∀ j, (X j).N[i]? = some x := by intro _; rfl) (hx : ∀ j, Loc (X j).env.scope x := by intro _; first | exact Or.inl rfl | exact Or.inr rfl)
    (hf : ∀ j, (X j).fn x = true ∨ (X j).env.scope.names.lookup x = some .local := by intro _; first | exact .inl rfl | exact .inr rfl) : PGv G X [i] (.Name x pos) (fun _ => True) (fun Γ d => Γ.set i (.fr (.d d))) :=
  ⟨gName i, fun j => pg_name (C.nd j) (hi j) (hx j) (hf j), fun Γ d _ F σ H Hb v E hv Q q => q _ (E.set hv) (by simp) fun m hm => by
    rw [List.getElem?_set_ne]
    intro e
    exact hm (by rw [e]; exact List.mem_singleton.mpr rfl)⟩
theorem qgs_nil : PGsv G X [] [] (fun ds => ds = []) (fun Γ _ => Γ) :=
  ⟨gNil, fun _ => pgs_nil, fun Γ ds hd F σ H Hb xs E hx Q q => by
    subst hd
    cases hx
    exact ⟨rfl, q σ E rfl fun _ _ => rfl⟩⟩
theorem qgs_cons {ok : PyData → Prop} {to : List Sl → PyData → List Sl} {oks : List PyData → Prop} {tos : List Sl → List PyData → List Sl} (h : PGv G X js tg ok to) (h' : PGsv G X js' tgs oks tos)
    (hs : ∀ j, (assignEach (tg :: tgs) (X j).env).map (·.2) = assign tg (X j).env :: (assignEach tgs (X j).env).map (·.2) := by intro _; rfl) :
    PGsv G X (js ++ js') (tg :: tgs) (fun ds => match ds with | d :: r => ok d ∧ oks r | [] => False) (fun Γ ds => match ds with | d :: r => tos (to Γ d) r | [] => Γ) := by
  obtain ⟨g, g1, g2⟩ := h
  obtain ⟨u, u1, u2⟩ := h'
  refine ⟨_, fun j => pgs_cons (g1 j) (u1 j) (hs j), fun Γ ds hd F σ H Hb xs E hx Q q => ?_⟩
  cases ds with
  | nil => exact hd.elim
  | cons d r =>
    cases hx with
    | cons h1 h2 =>
      refine ⟨_, _, rfl, g2 Γ d hd.1 F σ H Hb _ E h1 _ fun σ1 E1 l1 k1 => u2 _ r hd.2 F σ1 H Hb _ E1 h2 _ fun σ2 E2 l2 k2 => q σ2 E2 (l2.trans l1) fun m hm => ?_⟩
      rw [List.mem_append, not_or] at hm
      rw [k2 m hm.2, k1 m hm.1]
def tupTo (tos : List Sl → List PyData → List Sl) (Γ : List Sl) (d : PyData) : List Sl := match d with
  | .tuple ds => tos Γ ds
  | _ => Γ
def tupOk (oks : List PyData → Prop) (n : Nat) (d : PyData) : Prop := match d with
  | .tuple ds => ds.length = n ∧ oks ds
  | _ => False
theorem qg_tup (C : Ctx W k X) (hG : W.G = G) {es : List Expr} {kk n : Nat} {oks : List PyData → Prop} {tos : List Sl → List PyData → List Sl} (h : PGsv G X js es oks tos)
    (hn : ∀ j, (assignEach es (X j).env).length = n := by intro _; rfl) (hst : ∀ j, (assignEach es (X j).env).findIdx? (·.1) = none := by intro _; rfl) : PGv G X js (.Tuple es kk pos) (tupOk oks n) (tupTo tos) := by
  subst hG
  obtain ⟨g, g1, g2⟩ := h
  refine ⟨gTup W.G.K n g, fun j => by have q := pg_tup (k := kk) (pos := pos) (C.calm j) (g1 j) (hn j) (hst j); rw [C.K j] at q; exact q, fun Γ d hd F σ H Hb v E hv Q q => ?_⟩
  cases d with
  | tuple ds =>
    obtain ⟨hl, ho⟩ := hd
    obtain ⟨a, vs, rfl, hs, hx⟩ := dp_tup hv
    exact ⟨a, vs, rfl, seqT_up E.sub hs, by rw [dpAll_len hx]; exact hl, g2 Γ ds ho F σ H Hb vs E hx Q q⟩
  | _ => exact hd.elim
end

/-! ### comprehensions -/
section
variable {ι : Type}
/-- the contexts of a block -/
abbrev Bk (ι : Type) : Type := ι × Shared × Hp × Addr × List (Str × Addr) × List Addr
def blk (X : ι → Cx) (scope : Scope) : Bk ι → Cx := fun p => (X p.1).blk p.2.1 p.2.2.1 scope (compEnvC scope p.2.2.2.2.1 p.2.2.2.1 (X p.1).env) p.2.2.2.2.2
variable {G : Gx} {W : Wd} {k : Nat} {X : ι → Cx} {Γ Γ1 Γ2 : List Sl} {tg iter elt : Expr} {ifs : List Expr} {scope : Scope} {pos : Pos} {ts : List PyData} {js : List Nat}
theorem Ctx.blk (C : Ctx W k X) {scope : Scope} : Ctx W k (blk X scope) := ⟨fun j => C.prog j.1, fun j => C.w j.1, fun j => C.K j.1, fun j => C.mg j.1, fun j => C.base j.1, fun j => C.calm j.1, fun j => C.nd j.1, fun j => C.room j.1⟩
def wipeG (Γ : List Sl) : List Nat → List Sl
  | [] => Γ
  | v :: vs => (wipeG Γ vs).set v .no
theorem EnvOk.wiped {F H Hb : Hp} {σ : L2.St} (E : EnvOk G F Γ σ H Hb) : ∀ vs : List Nat, EnvOk G F (wipeG Γ vs) (wipe σ vs) H Hb
  | [] => E
  | v :: vs => (E.wiped vs).forget v none
theorem wipe_get_in {α : Type} : ∀ {vs : List Nat} {i : Nat} {Γ : List Sl}, i ∈ vs → i < Γ.length → (wipeG Γ vs)[i]? = some .no
  | v :: vs, i, Γ, h, hl => by
    unfold wipeG
    have hlen : ∀ (vs : List Nat) (Γ : List Sl), (wipeG Γ vs).length = Γ.length := by
      intro vs
      induction vs with
      | nil => intro Γ; rfl
      | cons w ws ih => intro Γ; unfold wipeG; rw [List.length_set]; exact ih Γ
    by_cases e : i = v
    · subst e
      exact get_set_lt (by rw [hlen]; exact hl)
    · rw [List.getElem?_set_ne (Ne.symm e)]
      rcases List.mem_cons.mp h with z | z
      · exact absurd z e
      · exact wipe_get_in (α := α) z hl
/-- a slot that is no more told may hold anything -/
theorem EnvOk.back0 {F H Hb : Hp} {σ σ' : L2.St} (E : EnvOk G F Γ σ' H Hb) (hl : σ'.length = σ.length) (h : ∀ (i : Nat) (s : Sl), Γ[i]? = some s → s ≠ Sl.no → σ'[i]? = σ[i]?) : EnvOk G F Γ σ H Hb where
  len := E.len.trans hl
  sub := E.sub
  frm := E.frm
  tp := E.tp
  sl := fun i s hs => by
    have q := E.sl i s hs
    cases s with
    | no => trivial
    | fr t => rw [h i _ hs (by intro z; cases z)] at q; exact q
    | ow o => rw [h i _ hs (by intro z; cases z)] at q; exact q
  ap := fun m n o o' a hm hn h1 h2 => by
    rw [← h m _ hm (by intro z; cases z)] at h1
    rw [← h n _ hn (by intro z; cases z)] at h2
    exact E.ap m n o o' a hm hn h1 h2
theorem EnvOk.unwipe {F H Hb : Hp} {σ : L2.St} {vs : List Nat} (E : EnvOk G F (wipeG Γ vs) (wipe σ vs) H Hb) : EnvOk G F (wipeG Γ vs) σ H Hb := by
  refine E.back0 (wipe_length σ vs) fun i s hs hn => ?_
  by_cases hi : i ∈ vs
  · have hl : i < Γ.length := by
      have q := (List.getElem?_eq_some_iff.mp hs).1
      have hlen : ∀ (vs : List Nat) (Γ : List Sl), (wipeG Γ vs).length = Γ.length := by
        intro vs
        induction vs with
        | nil => intro Γ; rfl
        | cons w ws ih => intro Γ; unfold wipeG; rw [List.length_set]; exact ih Γ
      rw [hlen] at q
      exact q
    rw [wipe_get_in (α := Nat) hi hl] at hs
    cases hs
    exact absurd rfl hn
  · exact wipe_out hi
theorem wipe_eq {σ σ' : L2.St} {vs : List Nat} (hl : σ'.length = σ.length) (h : ∀ m, m ∉ vs → σ'[m]? = σ[m]?) : wipe σ' vs = wipe σ vs := by
  refine List.ext_getElem? fun m => ?_
  by_cases hm : m ∈ vs
  · have w : ∀ (vs : List Nat) (σ : L2.St), m ∈ vs → m < σ.length → (wipe σ vs)[m]? = some none := by
      intro vs
      induction vs with
      | nil => intro σ h; cases h
      | cons v vs ih =>
        intro σ h hl
        unfold wipe
        by_cases e : m = v
        · subst e
          exact get_set_lt (by rw [wipe_length]; exact hl)
        · rw [List.getElem?_set_ne (Ne.symm e)]
          rcases List.mem_cons.mp h with z | z
          · exact absurd z e
          · exact ih σ z hl
    by_cases hz : m < σ.length
    · rw [w vs σ' hm (by rw [hl]; exact hz), w vs σ hm hz]
    · rw [List.getElem?_eq_none (by rw [wipe_length]; omega), List.getElem?_eq_none (by rw [wipe_length]; omega)]
  · rw [wipe_out hm, wipe_out hm, h m hm]
/-- the parts of a comprehension, and what it makes -/
def PLc (G : Gx) (X : ι → Cx) (Γ : List Sl) (elt tg iter : Expr) (ifs : List Expr) (scope : Scope) (vs : List Nat) (o : Ow) (Γ' : List Sl) : Prop := ∃ wi g tt te, (∀ j, PI (X j) tg iter wi) ∧ (∀ j, PG (blk X scope j) tg g) ∧ (∀ j, PTs (blk X scope j) ifs tt) ∧ (∀ j, PE (blk X scope j) elt te) ∧ EF G (tLc wi g tt te vs) Γ o Γ'
theorem qf_lcP (C : Ctx W k X) {own : List (Str × Nat)} {o : Ow} (h : PLc G X Γ elt tg iter ifs scope (own.map (·.2)) o Γ1) (bo : ∀ j, BlkOk (X j).N (X j).env.scope scope own)
    (hs : ∀ j x, foldedSetIterable iter (X j).env x = pure x := by intro _ _; rfl) : PF G X Γ (.ListComp elt [⟨tg, iter, ifs, 0⟩] scope pos) o Γ1 := by
  obtain ⟨wi, g, tt, te, h1, h2, h3, h4, h5⟩ := h
  exact ⟨_, fun j => pe_lc (C.calm j) (C.nd j) (h1 j) (bo j) (fun s H c cl fp => h2 (j, s, H, c, cl, fp)) (fun s H c cl fp => h3 (j, s, H, c, cl, fp)) (fun s H c cl fp => h4 (j, s, H, c, cl, fp)) (hs j), h5⟩
/-- the turns of a comprehension: Γs i ahead of turn i -/
theorem lcG (C : Ctx W k X) (hG : W.G = G) {vs : List Nat} {ok : PyData → Prop} {to : List Sl → PyData → List Sl} (Γs : Nat → List Sl) (Γe : Nat → List Sl) (f : Nat → Bool) (v : Nat → PyData)
    (hi : PIv G X Γ tg iter ts Γ1) (hg : PGv G (blk X scope) js tg ok to) (hj : ∀ m ∈ js, m ∈ vs)
    (h0 : Γs 0 = wipeG Γ1 vs) (hw : ∀ i, i < ts.length → wipeG (Γe i) vs = Γs (i + 1)) (hok : ∀ d ∈ ts, ok d) (hz : ts.length ≤ 100000)
    (ht : ∀ i d, ts[i]? = some d → PTv G (blk X scope) (to (Γs i) d) ifs (f i) (to (Γs i) d)) (he : ∀ i d, ts[i]? = some d → f i = true → PV G (blk X scope) (to (Γs i) d) elt (.d (v i)) (Γe i))
    (hf : ∀ i d, ts[i]? = some d → f i = false → Γe i = to (Γs i) d) (hself : wipeG (Γs ts.length) vs = Γs ts.length) :
    PLc G X Γ elt tg iter ifs scope vs (.lst (((List.range ts.length).filter f).map v)) (Γs ts.length) := by
  subst hG
  obtain ⟨wi, i1, i2⟩ := hi
  obtain ⟨g, g1, g2⟩ := hg
  refine ⟨wi, g, canT (blk X scope) ifs, canE (blk X scope) elt, i1, g1, fun j => canT_pts (blk X scope) ifs j, fun j => canE_pe (blk X scope) elt j,
    fun F σ H Hb E Q q => i2 F σ H Hb E _ fun J H1 Hb1 E1 s1 w => fun D hD => ?_⟩
  have wk : Walk J ts.length (fun H => Same Hb1 H) (fun i H x H' => ∃ d, ts[i]? = some d ∧ ((H' = H ∧ Dp W.G.K Hb1 x d) ∨ ∃ T x1 x2 d1 d2, x = .ref T ∧ H T = none ∧ H' = upd H T (.tup [x1, x2]) ∧ d = .tuple [d1, d2] ∧ Dp W.G.K Hb1 x1 d1 ∧ Dp W.G.K Hb1 x2 d2)) := ⟨w.goes, w.stops, w.yields⟩
  let got (i : Nat) : List PyData := ((List.range i).filter f).map v
  have gl : ∀ i, (got i).length ≤ i := fun i => by
    show (((List.range i).filter f).map v).length ≤ i
    rw [List.length_map]
    have h := List.length_filter_le f (List.range i)
    rw [List.length_range] at h
    exact h
  have gs : ∀ i, got (i + 1) = if f i = true then got i ++ [v i] else got i := fun i => by
    show ((List.range (i + 1)).filter f).map v = _
    rw [List.range_succ, List.filter_append, List.map_append]
    by_cases e : f i = true
    · rw [if_pos e, List.filter_cons, if_pos e]; rfl
    · rw [if_neg e, List.filter_cons, if_neg e]
      show _ ++ [] = _
      rw [List.append_nil]
  have fd : F D = none := E1.fn hD
  refine lc_it wk (fun i H => ∃ Hb2 acc, Same Hb1 Hb2 ∧ EnvOk W.G (upd F D (.lst acc)) (Γs i) (wipe σ vs) H Hb2 ∧ DpAll W.G.K Hb2 acc (got i)) ?_ ?_ ?_ ?_
  · refine ⟨Hb1, [], Same.refl _, ?_, .nil⟩
    rw [h0]
    have E2 := (E1.wiped vs).lay (o := .lst []) hD
    exact E2.frame upd_same (E1.hbn hD) ((E1.wiped _).notN hD)
  · rintro i H2 hi ⟨Hb2, acc, s2, E2, _⟩
    exact s2.trans E2.sub
  · rintro i x H2 H3 hi ⟨Hb2, acc, s2, E2, da⟩ ⟨d, hd, hx⟩
    have main : ∀ Hb3, Same Hb2 Hb3 → EnvOk W.G (upd F D (.lst acc)) (Γs i) (wipe σ vs) H3 Hb3 → Dp W.G.K Hb3 x d →
        g x (wipe σ vs) H3 fun σ2 H4 => wipe σ2 vs = wipe σ vs ∧ canT (blk X scope) ifs σ2 H4 fun b H5 =>
          if b = true then canE (blk X scope) elt σ2 H5 fun y H6 => ∃ acc, H6 D = some (.lst acc) ∧ acc.length < sizeLine ∧ ∃ Hb2 acc', Same Hb1 Hb2 ∧ EnvOk W.G (upd F D (.lst acc')) (Γs (i + 1)) (wipe σ vs) (upd H6 D (.lst (acc ++ [y]))) Hb2 ∧ DpAll W.G.K Hb2 acc' (got (i + 1))
          else ∃ Hb2 acc, Same Hb1 Hb2 ∧ EnvOk W.G (upd F D (.lst acc)) (Γs (i + 1)) (wipe σ vs) H5 Hb2 ∧ DpAll W.G.K Hb2 acc (got (i + 1)) := by
      intro Hb3 s3 E3 dx
      refine g2 (Γs i) d (hok d (List.mem_of_getElem? hd)) _ _ _ _ x E3 dx _ fun σ2 E4 hl hm => ?_
      have ew : wipe σ2 vs = wipe σ vs := by
        have e1 := wipe_eq (vs := vs) hl fun m hm' => hm m fun z => hm' (hj m z)
        rw [e1]
        refine wipe_eq (wipe_length _ _) fun m hm' => wipe_out hm'
      refine ⟨ew, (ht i d hd).can _ _ _ _ E4 _ fun H5 Hb5 E5 s5 => ?_⟩
      by_cases ef : f i = true
      · rw [ef]
        refine iteT ((he i d hd ef).can _ _ _ _ E5 _ fun y H6 Hb6 E6 s6 r6 => ?_)
        obtain ⟨E7, hD6, _, _⟩ := E6.unframe fd
        have hlen : acc.length ≤ i := by rw [dpAll_len da]; exact gl i
        refine ⟨acc, hD6, Nat.lt_of_le_of_lt hlen (Nat.lt_of_lt_of_le hi (small_sz hz)), Hb6, acc ++ [y], ((s2.trans s3).trans s5).trans s6, ?_, ?_⟩
        · have E8 := (E6.reframe (o' := .lst (acc ++ [y])) fd).wiped vs
          rw [hw i hi, ew] at E8
          exact E8
        · rw [gs, if_pos ef]
          exact dpAll_app (dpAll_up ((s3.trans s5).trans s6) da) (.cons r6 .nil)
      · have ef' : f i = false := by cases h : f i <;> simp_all
        rw [ef']
        refine iteF ⟨Hb5, acc, (s2.trans s3).trans s5, ?_, ?_⟩
        · have E8 := E5.wiped vs
          rw [← hf i d hd ef', hw i hi, ew] at E8
          exact E8
        · rw [gs, if_neg ef]
          exact dpAll_up (s3.trans s5) da
    rcases hx with ⟨rfl, dx⟩ | ⟨T, x1, x2, d1, d2, rfl, hT, rfl, rfl, dx1, dx2⟩
    · exact main Hb2 (Same.refl _) E2 (dp_up s2 dx)
    · have up := same_upd (E2.hbn hT) (o := .tup [x1, x2])
      exact main _ up (E2.new hT tok2) (.tup (.of upd_same) (.cons (dp_up (s2.trans up) dx1) (.cons (dp_up (s2.trans up) dx2) .nil)))
  · rintro H2 ⟨Hb2, acc, s2, E2, da⟩
    obtain ⟨E3, h1, h2, h3⟩ := E2.unframe fd
    have E4 : EnvOk W.G F (Γs ts.length) σ H2 Hb2 := by
      have z : EnvOk W.G F (wipeG (Γs ts.length) vs) (wipe σ vs) H2 Hb2 := by rw [hself]; exact E3
      have z2 := z.unwipe
      rw [hself] at z2
      exact z2
    refine q D (.lst acc) H2 Hb2 E4 (s1.trans s2) h1 da fd h2 fun m o hm hs' => h3 m o hm ?_
    by_cases hmv : m ∈ vs
    · have hlt : m < (Γs ts.length).length := (List.getElem?_eq_some_iff.mp hm).1
      rw [← hself, wipe_get_in (α := Nat) hmv hlt] at hm
      cases hm
    · rw [wipe_out hmv]; exact hs'
/-- pure: f of the item, v of the item -/
theorem lcM (C : Ctx W k X) (hG : W.G = G) {α : Type} (xs : List α) (enc : α → PyData) (f : α → Bool) (v : α → PyData) {vs : List Nat} {ok : PyData → Prop} {to : List Sl → PyData → List Sl} (Γb : List Sl) (Γe : α → List Sl)
    (hi : PIv G X Γ tg iter (xs.map enc) Γ1) (hg : PGv G (blk X scope) js tg ok to) (ht : ∀ a ∈ xs, PTv G (blk X scope) (Γe a) ifs (f a) (Γe a)) (he : ∀ a ∈ xs, f a = true → PV G (blk X scope) (Γe a) elt (.d (v a)) (Γe a)) (hz : xs.length ≤ 100000)
    (hj : ∀ m ∈ js, m ∈ vs := by decide) (hb : wipeG Γ1 vs = Γb := by rfl) (hto : ∀ a, to Γb (enc a) = Γe a := by intro _; rfl) (hwe : ∀ a, wipeG (Γe a) vs = Γb := by intro _; rfl) (hok : ∀ a, ok (enc a) := by intro _; first | trivial | exact ⟨rfl, trivial, trivial, rfl⟩ | exact ⟨rfl, trivial, trivial, trivial, rfl⟩) (hbb : wipeG Γb vs = Γb := by rfl) :
    PLc G X Γ elt tg iter ifs scope vs (.lst ((xs.filter f).map v)) Γb := by
  cases xs with
  | nil =>
    have h := lcG (ifs := ifs) (elt := elt) (scope := scope) C hG (vs := vs) (ok := ok) (to := to) (fun _ => Γb) (fun _ => Γb) (fun _ => true) (fun _ => PyData.none) hi hg hj hb.symm (fun i hi => hbb) (fun d hd => by cases hd) (by simp) (fun i d hd => by simp at hd) (fun i d hd => by simp at hd) (fun i d hd => by simp at hd) hbb
    exact h
  | cons a0 rest =>
    let at_ (i : Nat) : α := ((a0 :: rest)[i]?).getD a0
    have ha : ∀ i d, ((a0 :: rest).map enc)[i]? = some d → at_ i ∈ a0 :: rest ∧ d = enc (at_ i) := fun i d hd => by
      rw [List.getElem?_map] at hd
      cases e : (a0 :: rest)[i]? with
      | none => rw [e] at hd; cases hd
      | some b =>
        rw [e] at hd
        have eb : at_ i = b := by show ((a0 :: rest)[i]?).getD a0 = b; rw [e]; rfl
        rw [eb]
        exact ⟨List.mem_of_getElem? e, (Option.some.inj hd).symm⟩
    have h := lcG (ifs := ifs) (elt := elt) (scope := scope) C hG (vs := vs) (ok := ok) (to := to) (fun _ => Γb) (fun i => Γe (at_ i)) (fun i => f (at_ i)) (fun i => v (at_ i)) hi hg hj hb.symm (fun i _ => hwe _) (fun d hd => by
        obtain ⟨b, _, rfl⟩ := List.mem_map.mp hd
        exact hok b) (by rw [List.length_map]; exact hz) (fun i d hd => by
        obtain ⟨h1, rfl⟩ := ha i d hd
        rw [hto]
        exact ht _ h1) (fun i d hd hf => by
        obtain ⟨h1, rfl⟩ := ha i d hd
        rw [hto]
        exact he _ h1 hf) (fun i d hd _ => by
        obtain ⟨h1, rfl⟩ := ha i d hd
        rw [hto]) hbb
    have e : ((List.range ((a0 :: rest).map enc).length).filter fun i => f (at_ i)).map (fun i => v (at_ i)) = ((a0 :: rest).filter f).map v := by
      have e1 : (List.range ((a0 :: rest).map enc).length).map at_ = a0 :: rest := by
        refine List.ext_getElem? fun i => ?_
        rw [List.getElem?_map, List.length_map]
        by_cases hi : i < (a0 :: rest).length
        · rw [List.getElem?_range hi]
          show some (((a0 :: rest)[i]?).getD a0) = _
          rw [List.getElem?_eq_getElem hi]
          rfl
        · rw [List.getElem?_eq_none (by rw [List.length_range]; omega), List.getElem?_eq_none (by omega)]
          rfl
      have e2 := congrArg (fun l => (l.filter f).map v) e1
      simp only [List.filter_map, List.map_map] at e2
      exact e2
    rw [e] at h
    exact h
end
end Lk
set_option Elab.async false
set_option linter.all false
set_option maxRecDepth 100000
set_option maxHeartbeats 2000000
/-! T4: statements, defs, calls. -/
namespace Lk
open PySem PySem.Spec PyProof.Rows L2

inductive Out where
  | nx (Γ : List Sl)
  | rt (t : Tv)
  /-- returned, slot i owns o -/
  | rto (t : Tv) (i : Nat) (o : Ow)
  /-- a new thing returned, nobody's yet -/
  | rtf (o : Ow)
def Out.isR : Out → Bool
  | .nx _ => false
  | _ => true
def Wish (G : Gx) (F Hb : Hp) (D : Ends) : Out → Prop
  | .nx Γ' => ∀ σ' H' Hb', EnvOk G F Γ' σ' H' Hb' → Same Hb Hb' → D.nx σ' H'
  | .rt t => ∀ v σ' Γ' H' Hb', EnvOk G F Γ' σ' H' Hb' → Same Hb Hb' → Rep G Hb' v t → D.rt v H'
  | .rto t i w => ∀ v σ' Γ' H' Hb', EnvOk G F Γ' σ' H' Hb' → Γ'[i]? = some (.ow w) → Same Hb Hb' → Rep G Hb' v t → D.rt v H'
  | .rtf w => ∀ a ho σ' Γ' H' Hb', EnvOk G F Γ' σ' H' Hb' → Same Hb Hb' → H' a = some ho → OwC G Hb' a w ho → F a = none → Hb' a = none → D.rt (.ref a) H'
def SV (G : Gx) (r : TS) (Γ : List Sl) (o : Out) : Prop := ∀ F σ H Hb, EnvOk G F Γ σ H Hb → ∀ D : Ends, Wish G F Hb D o → r D σ H
def QS (G : Gx) (X : Cx) (Γ : List Sl) (st : Stmt) (o : Out) : Prop := ∃ r, PS X st r ∧ SV G r Γ o
def QB (G : Gx) (X : Cx) (Γ : List Sl) (sts : List Stmt) (o : Out) : Prop := ∃ r, PSs X sts r ∧ SV G r Γ o
/-- one context -/
abbrev one (X : Cx) : Unit → Cx := fun _ => X
theorem Wish.up {G : Gx} {F Hb Hb1 : Hp} {D : Ends} {o : Out} (h : Wish G F Hb D o) (s : Same Hb Hb1) : Wish G F Hb1 D o := by
  cases o with
  | nx Γ' => exact fun σ' H' Hb' E' s' => h σ' H' Hb' E' (s.trans s')
  | rt t => exact fun v σ' Γ' H' Hb' E' s' r' => h v σ' Γ' H' Hb' E' (s.trans s') r'
  | rto t i w => exact fun v σ' Γ' H' Hb' E' g' s' r' => h v σ' Γ' H' Hb' E' g' (s.trans s') r'
  | rtf w => exact fun a ho σ' Γ' H' Hb' E' s' => h a ho σ' Γ' H' Hb' E' (s.trans s')
def canB (X : Cx) (sts : List Stmt) : TS := fun D σ H => ∃ r : TS, PSs X sts r ∧ r D σ H
theorem canB_pss (X : Cx) (sts : List Stmt) : PSs X sts (canB X sts) := ⟨fun pins s σ H D I h => by
  obtain ⟨r, h1, h2⟩ := h
  exact h1.run pins s σ H D I h2⟩
theorem QB.can {G : Gx} {X : Cx} {Γ : List Sl} {sts : List Stmt} {o : Out} (h : QB G X Γ sts o) : SV G (canB X sts) Γ o := by
  obtain ⟨r, h1, h2⟩ := h
  exact fun F σ H Hb E D w => ⟨r, h1, h2 F σ H Hb E D w⟩
def canPB (X : Cx) (e : Expr) : TT := fun σ H Q => ∃ r : TT, PT X e r ∧ r σ H Q
theorem canPB_pt (X : Cx) (e : Expr) : PT X e (canPB X e) := ⟨fun pins s σ H Q I h => by
  obtain ⟨r, h1, h2⟩ := h
  exact h1.run pins s σ H Q I h2⟩
theorem PB.can {G : Gx} {X : Cx} {Γ Γ1 : List Sl} {e : Expr} {b : Bool} (h : PB G (one X) Γ e b Γ1) : ET G (canPB X e) Γ b Γ1 := by
  obtain ⟨r, h1, h2⟩ := h
  exact fun F σ H Hb E Q q => ⟨r, h1 (), h2 F σ H Hb E Q q⟩

section
variable {G : Gx} {W : Wd} {k : Nat} {X : Cx} {Γ Γ1 Γ2 : List Sl} {st : Stmt} {sts rest : List Stmt} {a b c e : Expr} {es : List Expr} {pos : Pos} {t : Tv} {o o' : Out}
/-! ### sequences -/
theorem qb_nil : QB G X Γ [] (.nx Γ) := ⟨_, pss_nil, fun F σ H Hb E D w => w σ H Hb E (Same.refl _)⟩
theorem qb_cons (h : QS G X Γ st (.nx Γ1)) (h' : QB G X Γ1 rest o) : QB G X Γ (st :: rest) o := by
  obtain ⟨r, r1, r2⟩ := h
  obtain ⟨u, u1, u2⟩ := h'
  exact ⟨_, pss_cons r1 u1, fun F σ H Hb E D w => r2 F σ H Hb E _ fun σ' H' Hb' E' s' => u2 F σ' H' Hb' E' D (w.up s')⟩
theorem qb_ret (h : QS G X Γ st (.rt t)) : QB G X Γ (st :: rest) (.rt t) := by
  obtain ⟨r, r1, r2⟩ := h
  exact ⟨_, pss_cons r1 pss_never, fun F σ H Hb E D w => r2 F σ H Hb E _ w⟩
/-- .. whatever is returned -/
theorem qb_retR (h : QS G X Γ st o) (hr : o.isR = true := by rfl) : QB G X Γ (st :: rest) o := by
  obtain ⟨r, r1, r2⟩ := h
  refine ⟨_, pss_cons r1 pss_never, fun F σ H Hb E D w => r2 F σ H Hb E _ ?_⟩
  cases o with
  | nx _ => cases hr
  | rt t => exact w
  | rto t i u => exact w
  | rtf u => exact w
/-- a statement that may return -/
theorem qb_may (h : QS G X Γ st o') (h1 : ∀ Γ1, o' = .nx Γ1 → QB G X Γ1 rest o) (h2 : ∀ t, o' = .rt t → o = .rt t) (h3 : ∀ t i u, o' = .rto t i u → o = .rto t i u := by intro _ _ _ h; cases h) (h4 : ∀ u, o' = .rtf u → o = .rtf u := by intro _ h; cases h) : QB G X Γ (st :: rest) o := by
  cases o' with
  | nx Γ1 => exact qb_cons h (h1 Γ1 rfl)
  | rt t => rw [h2 t rfl]; exact qb_ret h
  | rto t i u => rw [h3 t i u rfl]; exact qb_retR h
  | rtf u => rw [h4 u rfl]; exact qb_retR h
theorem qs_if {m : Bool} (h : PB G (one X) Γ c m Γ1) (h1 : m = true → QB G X Γ1 sts o) (h2 : m = false → QB G X Γ1 rest o) : QS G X Γ (.If c sts rest pos) o := by
  obtain ⟨r, r1, r2⟩ := h
  cases m with
  | true =>
    obtain ⟨u, u1, u2⟩ := h1 rfl
    exact ⟨_, ps_if (r1 ()) u1 pss_never, fun F σ H Hb E D w => r2 F σ H Hb E _ fun H' Hb' E' s' => by
      show u D σ H'
      exact u2 F σ H' Hb' E' D (w.up s')⟩
  | false =>
    obtain ⟨u, u1, u2⟩ := h2 rfl
    exact ⟨_, ps_if (r1 ()) pss_never u1, fun F σ H Hb E D w => r2 F σ H Hb E _ fun H' Hb' E' s' => by
      show u D σ H'
      exact u2 F σ H' Hb' E' D (w.up s')⟩
/-- if c: .. return; rest -/
theorem qb_ifret {m : Bool} (h : PB G (one X) Γ c m Γ1) (h1 : m = true → ∃ t, o = .rt t ∧ QB G X Γ1 sts (.rt t)) (h2 : m = false → QB G X Γ1 rest o) : QB G X Γ (.If c sts [] pos :: rest) o := by
  cases m with
  | true =>
    obtain ⟨t, rfl, h3⟩ := h1 rfl
    exact qb_ret (qs_if h (fun _ => h3) (fun z => by cases z))
  | false => exact qb_cons (qs_if h (fun z => by cases z) (fun _ => qb_nil)) (h2 rfl)
theorem qb_ifR {m : Bool} (h : PB G (one X) Γ c m Γ1) (h1 : m = true → QB G X Γ1 sts o) (h2 : m = false → QB G X Γ1 rest o) (hr : o.isR = true := by rfl) : QB G X Γ (.If c sts [] pos :: rest) o := by
  cases m with
  | true => exact qb_retR (qs_if h (fun _ => h1 rfl) (fun z => by cases z)) hr
  | false => exact qb_cons (qs_if h (fun z => by cases z) (fun _ => qb_nil)) (h2 rfl)
/-- a guard that is not taken -/
theorem qb_guard (h : PB G (one X) Γ c false Γ1) (h2 : QB G X Γ1 rest o) : QB G X Γ (.If c sts [] pos :: rest) o := qb_ifret h (fun z => by cases z) fun _ => h2
theorem qb_frz (i : Nat) {w : Ow} (hi : Γ[i]? = some (.ow w)) (h : QB G X (Γ.set i (.fr (frzO w))) sts o) : QB G X Γ sts o := by
  obtain ⟨r, h1, h2⟩ := h
  refine ⟨r, h1, fun F σ H Hb E D q => ?_⟩
  obtain ⟨Hb1, E1, s1⟩ := E.freeze hi
  exact h2 F σ H Hb1 E1 D (q.up s1)
theorem qb_drop (i : Nat) (h : QB G X (Γ.set i .no) sts o) : QB G X Γ sts o := by
  obtain ⟨r, h1, h2⟩ := h
  exact ⟨r, h1, fun F σ H Hb E D q => h2 F σ H Hb (E.drop i) D q⟩
/-! ### plain statements -/
theorem qs_ret (h : PV G (one X) Γ e t Γ1) : QS G X Γ (.Return (some e) pos) (.rt t) := by
  obtain ⟨r, r1, r2⟩ := h
  exact ⟨_, ps_ret (r1 ()), fun F σ H Hb E D w => r2 F σ H Hb E _ fun v H' Hb' E' s' r' => w v σ Γ1 H' Hb' E' s' r'⟩
theorem qs_reto {i : Nat} {u : Ow} (h : PV G (one X) Γ e t Γ1) (hi : Γ1[i]? = some (.ow u) := by rfl) : QS G X Γ (.Return (some e) pos) (.rto t i u) := by
  obtain ⟨r, r1, r2⟩ := h
  exact ⟨_, ps_ret (r1 ()), fun F σ H Hb E D w => r2 F σ H Hb E _ fun v H' Hb' E' s' r' => w v σ Γ1 H' Hb' E' hi s' r'⟩
theorem qb_rto {t1 : Tv} {i : Nat} {u u1 : Ow} (h : PV G (one X) Γ e t Γ1) (q : t = t1) (hi : Γ1[i]? = some (.ow u1)) (hu : u1 = u := by rfl) : QB G X Γ (.Return (some e) pos :: rest) (.rto t1 i u) := by
  subst q hu
  exact qb_retR (qs_reto h hi)
theorem qb_rtf {u u1 : Ow} (h : PF G (one X) Γ e u Γ1) (q : u = u1) : QB G X Γ (.Return (some e) pos :: rest) (.rtf u1) := by
  subst q
  obtain ⟨r, r1, r2⟩ := h
  exact qb_retR ⟨_, ps_ret (r1 ()), fun F σ H Hb E D w => r2 F σ H Hb E _ fun a ho H' Hb' E' s' h1 h2 h3 h4 _ => w a ho σ Γ1 H' Hb' E' s' h1 h2 h3 h4⟩
/-- return e, the value told another way -/
theorem qb_rt {t1 : Tv} (h : PV G (one X) Γ e t Γ1) (q : t = t1) : QB G X Γ (.Return (some e) pos :: rest) (.rt t1) := q ▸ qb_ret (qs_ret h)
theorem qs_expr (h : PV G (one X) Γ e t Γ1) (hs : swapsWith e none pos.line X.env = pure false := by rfl) : QS G X Γ (.Expr e pos) (.nx Γ1) := by
  obtain ⟨r, r1, r2⟩ := h
  exact ⟨_, ps_expr (r1 ()) hs, fun F σ H Hb E D w => r2 F σ H Hb E _ fun v H' Hb' E' s' r' => w σ H' Hb' E' s'⟩
section
variable {x : Str} {pos' : Pos} {w : Ow}
theorem qs_set (C : Ctx W k (one X)) (i : Nat) (h : PV G (one X) Γ e t Γ1) (hi : X.N[i]? = some x := by rfl) (hx : Loc X.env.scope x := by first | exact Or.inl rfl | exact Or.inr rfl) (hs : swapsWith e (some (.Name x pos')) pos.line X.env = pure false := by rfl)
    (hf : X.fn x = true ∨ X.env.scope.names.lookup x = some .local := by first | exact .inl rfl | exact .inr rfl) : QS G X Γ (.Assign [.Name x pos'] e pos) (.nx (Γ1.set i (.fr t))) := by
  obtain ⟨r, r1, r2⟩ := h
  exact ⟨_, ps_set (C.nd ()) hi hx (r1 ()) hs hf, fun F σ H Hb E D w => r2 F σ H Hb E _ fun v H' Hb' E' s' r' => w _ H' Hb' (E'.set r') s'⟩
theorem qs_own (C : Ctx W k (one X)) (i : Nat) (h : PF G (one X) Γ e w Γ1) (hi : X.N[i]? = some x := by rfl) (hx : Loc X.env.scope x := by first | exact Or.inl rfl | exact Or.inr rfl) (hs : swapsWith e (some (.Name x pos')) pos.line X.env = pure false := by rfl)
    (hf : X.fn x = true ∨ X.env.scope.names.lookup x = some .local := by first | exact .inl rfl | exact .inr rfl) : QS G X Γ (.Assign [.Name x pos'] e pos) (.nx (Γ1.set i (.ow w))) := by
  obtain ⟨r, r1, r2⟩ := h
  exact ⟨_, ps_set (C.nd ()) hi hx (r1 ()) hs hf, fun F σ H Hb E D w => r2 F σ H Hb E _ fun a ho H' Hb' E' s' h1 h2 h3 h4 h5 => w _ H' Hb' (E'.own h1 h4 h3 h5 h2) s'⟩
/-- y = [.. for ..], y a plain local of the def -/
theorem qs_ownLc (C : Ctx W k (one X)) (i : Nat) {elt tg iter : Expr} {ifs : List Expr} {scope : Scope} {own : List (Str × Nat)} {cpos : Pos} (h : PLc G (one X) Γ elt tg iter ifs scope (own.map (·.2)) w Γ1) (bo : BlkOk X.N X.env.scope scope own) (hi : X.N[i]? = some x := by rfl)
    (hyl : X.env.scope.names.lookup x = some .local := by rfl) (hsw : swapsWith (.ListComp elt [⟨tg, iter, ifs, 0⟩] scope cpos) (some (.Name x pos')) pos.line X.env = pure true := by exact sw_true rfl rfl rfl (by decide +kernel)) (hs : ∀ x, foldedSetIterable iter X.env x = pure x := by intro _; rfl) :
    QS G X Γ (.Assign [.Name x pos'] (.ListComp elt [⟨tg, iter, ifs, 0⟩] scope cpos) pos) (.nx (Γ1.set i (.ow w))) := by
  obtain ⟨wi, g, tt, te, h1, h2, h3, h4, h5⟩ := h
  exact ⟨_, ps_setLc (C.calm ()) (C.nd ()) hi hyl hsw (h1 ()) bo (fun s H c cl fp => h2 ((), s, H, c, cl, fp)) (fun s H c cl fp => h3 ((), s, H, c, cl, fp)) (fun s H c cl fp => h4 ((), s, H, c, cl, fp)) hs,
    fun F σ H Hb E D w => h5 F σ H Hb E _ fun a ho H' Hb' E' s' h1 h2 h3 h4 h5 => w _ H' Hb' (E'.own h1 h4 h3 h5 h2) s'⟩
theorem qs_setLc (C : Ctx W k (one X)) (i : Nat) {elt tg iter : Expr} {ifs : List Expr} {scope : Scope} {own : List (Str × Nat)} {cpos : Pos} (h : PLc G (one X) Γ elt tg iter ifs scope (own.map (·.2)) w Γ1) (bo : BlkOk X.N X.env.scope scope own) (hi : X.N[i]? = some x := by rfl)
    (hyl : X.env.scope.names.lookup x = some .local := by rfl) (hsw : swapsWith (.ListComp elt [⟨tg, iter, ifs, 0⟩] scope cpos) (some (.Name x pos')) pos.line X.env = pure true := by exact sw_true rfl rfl rfl (by decide +kernel)) (hs : ∀ x, foldedSetIterable iter X.env x = pure x := by intro _; rfl) :
    QS G X Γ (.Assign [.Name x pos'] (.ListComp elt [⟨tg, iter, ifs, 0⟩] scope cpos) pos) (.nx (Γ1.set i (.fr (frzO w)))) := by
  obtain ⟨wi, g, tt, te, h1, h2, h3, h4, h5⟩ := h
  exact ⟨_, ps_setLc (C.calm ()) (C.nd ()) hi hyl hsw (h1 ()) bo (fun s H c cl fp => h2 ((), s, H, c, cl, fp)) (fun s H c cl fp => h3 ((), s, H, c, cl, fp)) (fun s H c cl fp => h4 ((), s, H, c, cl, fp)) hs,
    fun F σ H Hb E D w => ef_ev h5 F σ H Hb E _ fun v H' Hb' E' s' r' => w _ H' Hb' (E'.set r') s'⟩
end
/-- a, b = a tuple of data -/
theorem qs_unp {js : List Nat} {tg : Expr} {ok : PyData → Prop} {to : List Sl → PyData → List Sl} {d : PyData} (h : PV G (one X) Γ e (.d d) Γ1) (hg : PGv G (one X) js tg ok to) (hok : ok d) (hs : swapsWithSole [tg] e pos.line X.env = pure false := by rfl) (hw : swappedStores [tg] e X.env = pure none := by rfl)
    (h1 : (assignEach [tg] X.env).map (·.2) = [assign tg X.env] := by rfl) : QS G X Γ (.Assign [tg] e pos) (.nx (to Γ1 d)) := by
  obtain ⟨r, r1, r2⟩ := h
  obtain ⟨g, g1, g2⟩ := hg
  exact ⟨_, ps_asg (r1 ()) (g1 ()) hs hw h1, fun F σ H Hb E D w => r2 F σ H Hb E _ fun v H' Hb' E' s' r' => g2 Γ1 d hok F σ H' Hb' v E' r' _ fun σ' E2 _ _ => w σ' H' Hb' E2 s'⟩

/-! ### loops -/
/-- turns of a loop that may return -/
def loopE {S A B : Type} (step : S → A → S ⊕ B) (s : S) : List A → S ⊕ B
  | [] => .inl s
  | a :: as => match step s a with
    | .inl s' => loopE step s' as
    | .inr t => .inr t
def outE {S : Type} (env : S → List Sl) : S ⊕ Tv → Out
  | .inl s => .nx (env s)
  | .inr t => .rt t
/-- for tg in iter: body; the state s is told by env s -/
theorem qs_forI (C : Ctx W k (one X)) (hG : W.G = G) {S A : Type} (xs : List A) (enc : A → PyData) {tg iter : Expr} {body : List Stmt} {js : List Nat} {ok : PyData → Prop} {to : List Sl → PyData → List Sl} (env : S → List Sl) (step : S → A → S ⊕ Tv) (s0 : S)
    (hi : PIv G (one X) Γ tg iter (xs.map enc) Γ1) (hg : PGv G (one X) js tg ok to) (hok : ∀ a ∈ xs, ok (enc a)) (h0 : ∀ F σ H Hb, EnvOk G F Γ1 σ H Hb → EnvOk G F (env s0) σ H Hb) (Inv : Nat → S → Prop) (hI0 : Inv 0 s0)
    (hb : ∀ i s a, xs[i]? = some a → Inv i s → (∀ s', step s a = .inl s' → Inv (i + 1) s') ∧ ∃ ob, QB G X (to (env s) (enc a)) body ob ∧ (match step s a with | .inl s' => ∃ Γ', ob = .nx Γ' ∧ ∀ F σ H Hb, EnvOk G F Γ' σ H Hb → EnvOk G F (env s') σ H Hb | .inr t => ob = .rt t))
    (hp : PassesOwn (model X.prog X.w) X.A X.env X.xe := by exact PassesOwn.never) (hs : ∀ x, foldedSetIterable iter X.env x = pure x := by intro _; rfl) :
    QS G X Γ (.For tg iter body [] pos) (outE env (loopE step s0 xs)) := by
  subst hG
  obtain ⟨wi, i1, i2⟩ := hi
  obtain ⟨g, g1, g2⟩ := hg
  refine ⟨tFor wi g (canB X body), ps_for hp (C.calm ()) (i1 ()) (g1 ()) (canB_pss X body) hs, fun F σ H Hb E D wsh => i2 F σ H Hb E _ fun J H1 Hb1 E1 s1 w => ?_⟩
  have wsh1 := wsh.up s1
  have hlen : (xs.map enc).length = xs.length := List.length_map ..
  -- the rest of the loop from state s on
  refine ⟨fun i m σ H => m = xs.length - i ∧ i ≤ xs.length ∧ ∃ s Hb2, Same Hb1 Hb2 ∧ EnvOk W.G F (env s) σ H Hb2 ∧ Inv i s ∧ loopE step s (xs.drop i) = loopE step s0 xs, ⟨xs.length, by simp, Nat.zero_le _, s0, Hb1, Same.refl _, h0 _ _ _ _ E1, hI0, rfl⟩, ?_⟩
  rintro i m σ2 H2 ⟨rfl, hi, s, Hb2, s2, E2, hIs, hl⟩
  by_cases hlt : i < xs.length
  · refine .inr ⟨w.goes i H2 (by rw [hlen]; exact hlt) (s2.trans E2.sub), fun σ' H' => i + 1 ≤ xs.length ∧ ∃ s Hb2, Same Hb1 Hb2 ∧ EnvOk W.G F (env s) σ' H' Hb2 ∧ Inv (i + 1) s ∧ loopE step s (xs.drop (i + 1)) = loopE step s0 xs, ?_, ?_⟩
    · rintro σ' H' ⟨h1, h2⟩
      exact ⟨xs.length - (i + 1), by omega, rfl, h1, h2⟩
    · intro x H3 hy
      obtain ⟨d, hd, hx⟩ := w.yields i H2 x H3 (by rw [hlen]; exact hlt) (s2.trans E2.sub) hy
      have hd' : d = enc xs[i] := by
        rw [List.getElem?_map, List.getElem?_eq_getElem hlt] at hd
        exact (Option.some.inj hd).symm
      subst hd'
      have hmem : xs[i] ∈ xs := List.getElem_mem hlt
      have hdrop : xs.drop i = xs[i] :: xs.drop (i + 1) := List.drop_eq_getElem_cons hlt
      have main : ∀ Hb3, Same Hb2 Hb3 → EnvOk W.G F (env s) σ2 H3 Hb3 → Dp W.G.K Hb3 x (enc xs[i]) → g x σ2 H3 fun σ' H' => canB X body { D with nx := fun σ' H' => i + 1 ≤ xs.length ∧ ∃ s Hb2, Same Hb1 Hb2 ∧ EnvOk W.G F (env s) σ' H' Hb2 ∧ Inv (i + 1) s ∧ loopE step s (xs.drop (i + 1)) = loopE step s0 xs, ct := fun σ' H' => i + 1 ≤ xs.length ∧ ∃ s Hb2, Same Hb1 Hb2 ∧ EnvOk W.G F (env s) σ' H' Hb2 ∧ Inv (i + 1) s ∧ loopE step s (xs.drop (i + 1)) = loopE step s0 xs, bk := D.nx } σ' H' := by
        intro Hb3 s3 E3 dx
        refine g2 (env s) (enc xs[i]) (hok _ hmem) F σ2 H3 Hb3 x E3 dx _ fun σ4 E4 _ _ => ?_
        obtain ⟨hI', ob, hb1, hb2⟩ := hb i s xs[i] (List.getElem?_eq_getElem hlt) hIs
        refine hb1.can F σ4 H3 Hb3 E4 _ ?_
        rw [hdrop] at hl
        cases hst : step s xs[i] with
        | inl s' =>
          rw [hst] at hb2
          obtain ⟨Γ', rfl, hΓ⟩ := hb2
          have hl' : loopE step s' (xs.drop (i + 1)) = loopE step s0 xs := by
            rw [← hl]
            simp only [loopE, hst]
          exact fun σ' H' Hb' E' s' => ⟨hlt, _, Hb', (s2.trans s3).trans s', hΓ _ _ _ _ E', hI' _ hst, hl'⟩
        | inr t =>
          rw [hst] at hb2
          have hb3 : ob = .rt t := hb2
          subst hb3
          have hl' : loopE step s0 xs = .inr t := by
            rw [← hl]
            simp only [loopE, hst]
          rw [hl'] at wsh1
          exact fun v σ' Γ' H' Hb' E' s' r' => wsh1 v σ' Γ' H' Hb' E' ((s2.trans s3).trans s') r'
      rcases hx with ⟨rfl, dx⟩ | ⟨T, x1, x2, d1, d2, rfl, hT, rfl, he, dx1, dx2⟩
      · exact main Hb2 (Same.refl _) E2 (dp_up s2 dx)
      · have up := same_upd (E2.hbn hT) (o := .tup [x1, x2])
        refine main _ up (E2.new hT tok2) ?_
        rw [he]
        exact .tup (.of upd_same) (.cons (dp_up (s2.trans up) dx1) (.cons (dp_up (s2.trans up) dx2) .nil))
  · have e : i = xs.length := by omega
    subst e
    refine .inl ⟨by have q := w.stops H2 (s2.trans E2.sub); rw [hlen] at q; exact q, ?_⟩
    rw [List.drop_length] at hl
    have hl' : loopE step s0 xs = .inl s := hl.symm
    rw [hl'] at wsh1
    exact wsh1 σ2 H2 Hb2 E2 s2
theorem qs_for (C : Ctx W k (one X)) (hG : W.G = G) {S A : Type} (xs : List A) (enc : A → PyData) {tg iter : Expr} {body : List Stmt} {js : List Nat} {ok : PyData → Prop} {to : List Sl → PyData → List Sl} (env : S → List Sl) (step : S → A → S ⊕ Tv) (s0 : S)
    (hi : PIv G (one X) Γ tg iter (xs.map enc) Γ1) (hg : PGv G (one X) js tg ok to) (hok : ∀ a ∈ xs, ok (enc a)) (h0 : ∀ F σ H Hb, EnvOk G F Γ1 σ H Hb → EnvOk G F (env s0) σ H Hb) (Inv : S → Prop) (hI0 : Inv s0)
    (hb : ∀ s a, a ∈ xs → Inv s → (∀ s', step s a = .inl s' → Inv s') ∧ ∃ ob, QB G X (to (env s) (enc a)) body ob ∧ (match step s a with | .inl s' => ∃ Γ', ob = .nx Γ' ∧ ∀ F σ H Hb, EnvOk G F Γ' σ H Hb → EnvOk G F (env s') σ H Hb | .inr t => ob = .rt t))
    (hp : PassesOwn (model X.prog X.w) X.A X.env X.xe := by exact PassesOwn.never) (hs : ∀ x, foldedSetIterable iter X.env x = pure x := by intro _; rfl) :
    QS G X Γ (.For tg iter body [] pos) (outE env (loopE step s0 xs)) :=
  qs_forI C hG xs enc env step s0 hi hg hok h0 (fun _ => Inv) hI0 (fun i s a ha hs => hb s a (List.mem_of_getElem? ha) hs) hp hs
/-- while c: body; n turns, ahead of turn m it is as it m tells -/
theorem qs_while (it : Nat → List Sl) (n : Nat) {hb : List Stmt} (h0 : ∀ F σ H Hb, EnvOk G F Γ σ H Hb → EnvOk G F (it 0) σ H Hb) (hc : ∀ m, m ≤ n → PB G (one X) (it m) c (decide (m < n)) (it m))
    (hbd : ∀ m, m < n → ∃ Γ', QB G X (it m) hb (.nx Γ') ∧ ∀ F σ H Hb, EnvOk G F Γ' σ H Hb → EnvOk G F (it (m + 1)) σ H Hb)
    (hp : PassesOwn (model X.prog X.w) X.A X.env X.xe := by exact PassesOwn.never) : QS G X Γ (.While c hb [] pos) (.nx (it n)) := by
  refine ⟨tWhile (canPB X c) (canB X hb), ps_while hp (canPB_pt X c) (canB_pss X hb), fun F σ H Hb E D wsh => ?_⟩
  refine ⟨fun d σ H => ∃ m Hb2, m ≤ n ∧ Same Hb Hb2 ∧ EnvOk G F (it m) σ H Hb2 ∧ d = n - m, ⟨_, 0, Hb, Nat.zero_le _, Same.refl _, h0 _ _ _ _ E, rfl⟩, ?_⟩
  rintro d σ2 H2 ⟨m, Hb2, hm, s2, E2, rfl⟩
  refine (hc m hm).can F σ2 H2 Hb2 E2 _ fun H3 Hb3 E3 s3 => ?_
  by_cases hlt : m < n
  · rw [decide_eq_true hlt]
    refine iteT ⟨fun σ' H' => ∃ Hb4, Same Hb Hb4 ∧ EnvOk G F (it (m + 1)) σ' H' Hb4, ?_, ?_⟩
    · rintro σ' H' ⟨Hb4, s4, E4⟩
      exact ⟨n - (m + 1), by omega, m + 1, Hb4, hlt, s4, E4, rfl⟩
    · obtain ⟨Γ', q1, q2⟩ := hbd m hlt
      exact q1.can F σ2 H3 Hb3 E3 _ fun σ' H' Hb' E' s' => ⟨Hb', (s2.trans s3).trans s', q2 _ _ _ _ E'⟩
  · rw [decide_eq_false hlt]
    have e : m = n := by omega
    subst e
    exact iteF (wsh σ2 H3 Hb3 E3 (s2.trans s3))
end

/-! ### defs -/
/-- a promise by trees: the arguments, what is given back -/
def spV (G : Gx) (R : List Tv → Tv → Prop) : Sp := fun vs H Q _ => ∃ Hb ts t, TOk Hb ∧ Same Hb H ∧ RepL G Hb vs ts ∧ R ts t ∧
  ∀ H' Hb' v, TOk Hb' → Same H H' → Same Hb Hb' → Same Hb' H' → (∀ b, H b ≠ none → Hb b = none → Hb' b = none) → Rep G Hb' v t → Q v H'
/-- the def x keeps its promise, at level k -/
def DefOk (W : Wd) (k : Nat) (x : Str) (ps : List Str) (R : List Tv → Tv → Prop) : Prop := ∃ f fd, W.mg x = some (.ref f) ∧ PySem.W.keepIn W.G.K (.ref f) = true ∧ Binds W.G.K fd ps [] ∧ FnOk W.P W.w W.G.K W.mg W.base CX0 k f fd ps (spV W.G R)
theorem DefOk.mono {W : Wd} {j k : Nat} {x : Str} {ps : List Str} {R : List Tv → Tv → Prop} (h : DefOk W j x ps R) (l : j ≤ k) : DefOk W k x ps R := by
  obtain ⟨f, fd, a, b, c, d⟩ := h
  exact ⟨f, fd, a, b, c, d.mono l⟩
/-- the slots at the entry -/
def startG (N : List Str) (ts : List Tv) : List Sl := ts.map Sl.fr ++ List.replicate (N.length - ts.length) .no
/-- the context of a def's body -/
def cx (W : Wd) (N : List Str) (qual : Str) (sc : Scope) (f : Addr) (cd : Value) (A : Around) (outer : List Env) (s : Shared) (H : Hp) (E : XK) : Cx := (cxOf CX0 W.P W.w W.G.K W.mg W.base N qual sc f cd A outer s H E).nox
theorem env_start {G : Gx} {H Hb : Hp} {N : List Str} {vs : List V} {ts : List Tv} (htp : TOk Hb) (hs : Same Hb H) (hr : RepL G Hb vs ts) : EnvOk G (fun b => if Hb b = none then H b else none) (startG N ts) (L2.start N vs) H Hb := by
  have hl := Paired.length hr
  have hfr : ∀ (i : Nat) (s : Sl), (startG N ts)[i]? = some s → (s = .no) ∨ ∃ t, s = .fr t ∧ ts[i]? = some t := fun i s h => by
    unfold startG at h
    by_cases hi : i < ts.length
    · rw [List.getElem?_append_left (by simpa using hi), List.getElem?_map, List.getElem?_eq_getElem hi] at h
      cases h
      exact .inr ⟨_, rfl, List.getElem?_eq_getElem hi⟩
    · rw [List.getElem?_append_right (by simpa using hi), List.getElem?_replicate] at h
      split at h
      · cases h; exact .inl rfl
      · cases h
  refine ⟨?_, hs, fun b o e => ?_, fun i s h => ?_, fun i j o o' a h1 => ?_, htp⟩
  · unfold startG L2.start
    rw [List.length_append, List.length_append, List.length_map, List.length_map, List.length_replicate, List.length_replicate, hl]
  · by_cases q : Hb b = none
    · have e' : H b = some o := by
        have e2 : (if Hb b = none then H b else none) = some o := e
        rw [if_pos q] at e2
        exact e2
      exact ⟨e', q⟩
    · have e2 : (if Hb b = none then H b else none) = some o := e
      rw [if_neg q] at e2
      cases e2
  · rcases hfr i s h with rfl | ⟨t, rfl, ht⟩
    · trivial
    · have g : ∀ {vs : List V} {ts : List Tv} {i : Nat} {t : Tv}, RepL G Hb vs ts → ts[i]? = some t → ∃ v, vs[i]? = some v ∧ Rep G Hb v t := by
        intro vs ts i t h e
        induction h generalizing i with
        | nil => simp at e
        | cons r _ ih =>
          cases i with
          | zero => simp only [List.getElem?_cons_zero, Option.some.injEq] at e; subst e; exact ⟨_, by simp, r⟩
          | succ i => simp only [List.getElem?_cons_succ] at e; obtain ⟨v, h1, h2⟩ := ih e; exact ⟨v, by simpa using h1, h2⟩
      obtain ⟨v, h1, h2⟩ := g hr ht
      refine ⟨v, ?_, h2⟩
      have hi : i < vs.length := (List.getElem?_eq_some_iff.mp h1).1
      unfold L2.start
      rw [List.getElem?_append_left (by simpa using hi), List.getElem?_map, h1]
      rfl
  · rcases hfr i _ h1 with q | ⟨t, q, _⟩ <;> cases q
/-- what a def's text says of it -/
structure DefT (W : Wd) (x : Str) (st : Stmt) : Prop where
  ex : ∃ f fd, W.mg x = some (.ref f) ∧ FunD W.G.K x x (defArgs st) (defBody st) (defScope st) [] [] f fd
/-- THE RULE for a def -/
theorem def_ok {W : Wd} {x : Str} {st : Stmt} {N ps : List Str} {k : Nat} (R : List Tv → Tv → Prop) (T : DefT W x st) (S : FnScope N ps (defScope st)) (hlen : ∀ ts t, R ts t → ts.length = ps.length)
    (hbind : ∀ (kV doc pm : Value) (an : Option Addr) (cdv ct : Value) (us : List Value), us.length = ps.length → bindArgs (PySem.W.fnOf x x (defArgs st) (defBody st) (defScope st) .none kV doc pm an cdv ct) ⟨us, []⟩ = pure (ps.zip us))
    (hbody : ∀ (f : Addr) (cdv : Value) (A : Around) (outer : List Env) (s : Shared) (H : Hp) (E : XK), Ctx W k (one (cx W N x (defScope st) f cdv A outer s H E)) → ∀ ts t, R ts t → QB W.G (cx W N x (defScope st) f cdv A outer s H E) (startG N ts) (defBody st) (.rt t)) : DefOk W (k + 1) x ps R := by
  obtain ⟨f, fd, hm, F⟩ := T.ex
  refine ⟨f, fd, hm, F.kp, F.bindsN hbind, F.ok S (fun vs H Q E h => ?_) (fun cdv A outer s H vs Q E hr h => ?_)⟩
  · obtain ⟨Hb, ts, t, _, _, h1, h2, _⟩ := h
    rw [Paired.length h1]
    exact hlen ts t h2
  · obtain ⟨Hb, ts, t, h0, h1, h2, h3, q⟩ := h
    have C : Ctx W k (one (cx W N x (defScope st) f cdv A outer s H E)) := ⟨fun _ => rfl, fun _ => rfl, fun _ => rfl, fun _ => rfl, fun _ => rfl, fun _ => rfl, fun _ => S.nd, fun _ => hr⟩
    obtain ⟨r, r1, r2⟩ := hbody f cdv A outer s H E C ts t h3
    refine ⟨r, PSs.nox r1, r2 _ _ _ _ (env_start h0 h1 h2) _ fun v σ' Γ' H' Hb' E' s' r' => ?_⟩
    refine q H' Hb' v E'.tp (fun b o e => ?_) s' E'.sub (fun b hb hn => ?_) r'
    · by_cases z : Hb b = none
      · exact (E'.frm b o (by show (if Hb b = none then H b else none) = some o; rw [if_pos z]; exact e)).1
      · cases e2 : Hb b with
        | none => exact absurd e2 z
        | some u =>
          have e3 := h1 b u e2
          rw [e] at e3
          cases e3
          exact E'.sub b o (s' b o e2)
    · cases e : H b with
      | none => exact absurd e hb
      | some o => exact (E'.frm b o (by show (if Hb b = none then H b else none) = some o; rw [if_pos hn]; exact e)).2
/-- f(e, ..) -/
theorem qv_call {ι : Type} {W : Wd} {G : Gx} {k j : Nat} {X : ι → Cx} {Γ Γ1 : List Sl} {x : Str} {ps : List Str} {R : List Tv → Tv → Prop} {e : Expr} {es : List Expr} {p pos : Pos} {ts : List Tv} {t : Tv} (C : Ctx W k X) (hG : W.G = G) (d : DefOk W j x ps R) (ha : PL G X Γ (e :: es) ts Γ1) (hr : R ts t) (hj : j ≤ k := by decide)
    (hg : ∀ i, Gl (X i) x := by intro _; rfl) (hdb : (x == ("__debug__" : Str)) = false := by decide) (he : ∀ i, starEach (e :: es) (X i).env = (false, eval e (X i).env) :: starEach es (X i).env := by intro _; rfl) (hpl : ∀ i, (backTo pos (starEach es (X i).env)).any (·.1) = false := by intro _; rfl) :
    PV G X Γ (.Call (.Name x p) (e :: es) [] pos) t Γ1 := by
  subst hG
  obtain ⟨f, fd, hm, hk, hb, F⟩ := d
  obtain ⟨u, u1, u2⟩ := ha
  refine ⟨tCall (spV W.G R) [] E0 u, fun i => ?_, fun F' σ H Hb E Q q => u2 F' σ H Hb E _ fun vs H1 Hb1 E1 s1 r1 => ?_⟩
  · have F2 : FnOk (X i).prog (X i).w (X i).K (X i).mg (X i).base CX0 j f fd ps (spV W.G R) := by
      rw [C.prog i, C.w i, C.K i, C.mg i, C.base i]
      exact F
    exact pe_call F2 ((C.room i).mono hj) (hg i) (by rw [C.mg i]; exact hm) (by rw [C.K i]; exact hk) (by rw [C.K i]; exact hb) .nil pass0 (u1 i) hdb (he i) (hpl i)
  · show spV W.G R (vs ++ []) H1 Q E0
    rw [List.append_nil]
    refine ⟨Hb1, ts, t, E1.tp, E1.sub, r1, hr, fun H' Hb' v a00 a1 a2 a3 a4 a5 => q v H' Hb' ?_ (s1.trans a2) a5⟩
    refine ⟨E1.len, a3, fun b o e => ⟨a1 _ _ (E1.frm b o e).1, a4 b (by rw [(E1.frm b o e).1]; intro z; cases z) (E1.frm b o e).2⟩, fun i s hs => ?_, E1.ap, a00⟩
    have z := E1.sl i s hs
    cases s with
    | no => exact z
    | fr t' =>
      obtain ⟨w, e1, e2⟩ := z
      exact ⟨w, e1, rep_up a2 e2⟩
    | ow o =>
      obtain ⟨a, ho, e1, e2, e3, e4, e5⟩ := z
      exact ⟨a, ho, e1, e2, a4 a (by rw [e4]; intro z; cases z) e3, a1 _ _ e4, owc_up a2 e5⟩
end Lk
set_option Elab.async false
set_option linter.all false
set_option maxRecDepth 100000
set_option maxHeartbeats 2000000
/-! T5: subscripts, slices, fields, built-ins. -/
namespace Lk
open PySem PySem.Spec PyProof.Rows L2

theorem atI_dp {K : PySem.W.Frag} {H : Hp} {vs : List V} {ds : List PyData} {i : Int} {d : PyData} (h : DpAll K H vs ds) (e : atI ds i = some d) : ∃ v, atI vs i = some v ∧ Dp K H v d := by
  unfold atI at e ⊢
  rw [dpAll_len h]
  cases q : ixN ds.length i with
  | none => rw [q] at e; cases e
  | some j =>
    rw [q] at e
    exact dpAll_get h e
/-- a type's name -/
def tyD : PyData → String
  | .none => "NoneType"
  | .bool _ => "bool"
  | .int _ => "int"
  | .str _ => "str"
  | .list _ => "list"
  | .tuple _ => "tuple"
  | .dict _ => "dict"
theorem dp_ty {K : PySem.W.Frag} {H : Hp} {v : V} {d : PyData} (h : Dp K H v d) : TyX K H v (.type (tyD d)) := by
  cases h with
  | non => exact .base .non
  | bl b => exact .base (.bl b)
  | int i => exact .base (.int i)
  | str x => exact .base (.str x)
  | lst h _ =>
    rcases h with (h | ⟨o, h⟩) | h
    · exact .base (.lst h)
    · exact .base (.frz h)
    · obtain ⟨d, its, n, e, c, _⟩ := h
      exact .kList e c
  | tup h _ =>
    rcases h with (h | ⟨o, h⟩) | h
    · exact .base (.tup h)
    · exact .fTuple h
    · obtain ⟨d, its, n, e, c, _⟩ := h
      exact .kTuple e c

section
variable {ι : Type} {G : Gx} {W : Wd} {k : Nat} {X : ι → Cx} {Γ Γ1 Γ2 Γ3 : List Sl} {a b c e o : Expr} {es rest : List Expr} {pos p q apos : Pos} {t t1 t2 : Tv} {ds ds2 : List PyData} {d : PyData}

/-! ### x[i] -/
theorem qv_ixL (C : Ctx W k X) (hG : W.G = G) {i : Int} (ha : PV G X Γ a (.d (.list ds)) Γ1) (hb : PV G X Γ1 b (.d (.int i)) Γ2) (hi : atI ds i = some d) (hs : PlainIx b := by exact fun _ _ => rfl) : PV G X Γ (.Subscript a b pos) (.d d) Γ2 := by
  subst hG
  obtain ⟨ra, a1, a2⟩ := ha
  obtain ⟨rb, b1, b2⟩ := hb
  refine ⟨tOp (rIxL W.G.K) ra rb, fun j => by have h := pe_ix (pos := pos) (ix_list (X := X j)) (a1 j) (b1 j) hs; rw [C.K j] at h; exact h, ev_op a2 b2 fun F σ H Hb v w E hv hw Q q => ?_⟩
  obtain ⟨x, vs, rfl, h1, h2⟩ := dp_lst hv
  obtain ⟨u, h3, h4⟩ := atI_dp h2 hi
  exact ⟨x, vs, i, u, rfl, dp_int hw, seqL_up E.sub h1, h3, q u H Hb E (Same.refl _) h4⟩
theorem qv_ixT (C : Ctx W k X) (hG : W.G = G) {i : Int} (ha : PV G X Γ a (.d (.tuple ds)) Γ1) (hb : PV G X Γ1 b (.d (.int i)) Γ2) (hi : atI ds i = some d) (hs : PlainIx b := by exact fun _ _ => rfl) : PV G X Γ (.Subscript a b pos) (.d d) Γ2 := by
  subst hG
  obtain ⟨ra, a1, a2⟩ := ha
  obtain ⟨rb, b1, b2⟩ := hb
  refine ⟨tOp (rIxT W.G.K) ra rb, fun j => by have h := pe_ix (pos := pos) (ix_tup (X := X j)) (a1 j) (b1 j) hs; rw [C.K j] at h; exact h, ev_op a2 b2 fun F σ H Hb v w E hv hw Q q => ?_⟩
  obtain ⟨x, vs, rfl, h1, h2⟩ := dp_tup hv
  obtain ⟨u, h3, h4⟩ := atI_dp h2 hi
  exact ⟨x, vs, i, u, rfl, dp_int hw, seqT_up E.sub h1, h3, q u H Hb E (Same.refl _) h4⟩
/-- an owned list read -/
theorem qv_ixO (C : Ctx W k X) (hG : W.G = G) (s : Nat) {x : Str} {i : Int} (hb : PV G X Γ b (.d (.int i)) Γ1) (hi : atI ds i = some d) (h0 : ∃ ds0, Γ[s]? = some (.ow (.lst ds0)) := by exact ⟨_, rfl⟩) (h1 : Γ1[s]? = some (.ow (.lst ds)) := by rfl) (hN : ∀ j, (X j).N[s]? = some x := by intro _; rfl)
    (hv : ∀ j, Vis (X j).env.scope x := by intro _; first | exact Or.inl rfl | exact Or.inr (Or.inl rfl) | exact Or.inr (Or.inr rfl)) (hs : PlainIx b := by exact fun _ _ => rfl) (hd : (x == ("__debug__" : Str)) = false := by decide) (hcd : (x == ("__classdict__" : Str)) = false := by decide) :
    PV G X Γ (.Subscript (.Name x p) b pos) (.d d) Γ1 := by
  subst hG
  obtain ⟨rb, b1, b2⟩ := hb
  refine ⟨tOp (rIxL W.G.K) (tVar s) rb, fun j => by have h := pe_ix (pos := pos) (ix_list (X := X j)) (pe_var (pos := p) (hN j) (hv j) hd hcd) (b1 j) hs; rw [C.K j] at h; exact h, fun F σ H Hb E Q q => ?_⟩
  obtain ⟨ds0, h0⟩ := h0
  obtain ⟨x0, ho, e1, _⟩ := E.ow h0
  refine ⟨_, e1, b2 F σ H Hb E _ fun v H' Hb' E' s' r' => ?_⟩
  obtain ⟨x1, ho1, f1, f2, f3, f4, f5⟩ := E'.ow h1
  rw [e1] at f1
  cases f1
  cases ho1 <;> first | exact (f5 : False).elim | skip
  rename_i vs
  obtain ⟨u, h3, h4⟩ := atI_dp f5 hi
  exact ⟨x0, vs, i, u, rfl, dp_int r', .of f4, h3, q u H' Hb' E' s' h4⟩

/-! ### looking at an owned thing for a flat answer -/
def peekG (Γ : List Sl) (s : Nat) (t : Tv) : List Sl := (Γ.map fun x => match x with
  | .ow _ => .no
  | x => x).set s (.fr t)
theorem peek_get {Γ : List Sl} {s i : Nat} {t : Tv} {x : Sl} (h : (peekG Γ s t)[i]? = some x) : (i = s ∧ x = .fr t) ∨ (i ≠ s ∧ ((x = .no ∧ ∃ y, Γ[i]? = some y) ∨ (Γ[i]? = some x ∧ ∀ w, x ≠ .ow w))) := by
  rcases get_set h with ⟨h1, h2⟩ | ⟨h1, h2⟩
  · exact .inl ⟨h1, h2⟩
  · refine .inr ⟨h1, ?_⟩
    rw [List.getElem?_map] at h2
    cases e : Γ[i]? with
    | none => rw [e] at h2; cases h2
    | some y =>
      rw [e] at h2
      have h3 := Option.some.inj h2
      cases y with
      | no => exact .inr ⟨by rw [← h3], fun w z => by rw [← h3] at z; cases z⟩
      | fr t' => exact .inr ⟨by rw [← h3], fun w z => by rw [← h3] at z; cases z⟩
      | ow w => exact .inl ⟨h3.symm, _, rfl⟩
open Classical in
theorem peek_env {F H Hb : Hp} {σ : L2.St} {s : Nat} {w : Ow} (E : EnvOk G F Γ σ H Hb) (hs : Γ[s]? = some (.ow w)) : ∃ (F2 Hb2 : Hp), EnvOk G F2 (peekG Γ s (frzO w)) σ H Hb2 ∧ Same Hb Hb2 ∧
    ∀ H' Hb', EnvOk G F2 (peekG Γ s (frzO w)) σ H' Hb' → Same Hb2 Hb' → ∃ Hb3, EnvOk G F Γ σ H' Hb3 ∧ Same Hb Hb3 := by
  obtain ⟨a, ho, e1, e2, e3, e4, e5⟩ := E.ow hs
  let ownd : Addr → Prop := fun b => ∃ i o, i ≠ s ∧ Γ[i]? = some (.ow o) ∧ σ[i]? = some (some (.ref b))
  let F2 : Hp := fun b => if ownd b then H b else F b
  have na : ¬ ownd a := fun ⟨i, o, hi, h1, h2⟩ => hi (E.ap i s o w a h1 hs h2 e1)
  have f2a : F2 a = none := by
    show (if ownd a then H a else F a) = none
    rw [if_neg na]
    exact e2
  have own_hb : ∀ b, ownd b → Hb b = none ∧ F b = none ∧ ∃ o, H b = some o := fun b ⟨i, o, hi, h1, h2⟩ => by
    obtain ⟨a', ho', g1, g2, g3, g4, _⟩ := E.ow h1
    rw [h2] at g1
    cases g1
    exact ⟨g3, g2, ho', g4⟩
  have up : Same Hb (upd Hb a ho) := same_upd e3
  refine ⟨F2, upd Hb a ho, ⟨?_, fun b u e => ?_, fun b u e => ?_, fun i x hx => ?_, fun i j o o' b h1 => ?_, E.tp.upd (owc_tok e5)⟩, up, fun H' Hb' E' s' => ?_⟩
  · unfold peekG
    rw [List.length_set, List.length_map]
    exact E.len
  · by_cases q : b = a
    · subst q; rw [upd_same] at e; cases e; exact e4
    · rw [upd_ne q] at e; exact E.sub b u e
  · have e' : (if ownd b then H b else F b) = some u := e
    by_cases q : ownd b
    · rw [if_pos q] at e'
      have nb : b ≠ a := fun z => na (z ▸ q)
      exact ⟨e', by rw [upd_ne nb]; exact (own_hb b q).1⟩
    · rw [if_neg q] at e'
      have nb : b ≠ a := fun z => by subst z; rw [e2] at e'; cases e'
      exact ⟨(E.frm b u e').1, by rw [upd_ne nb]; exact (E.frm b u e').2⟩
  · rcases peek_get hx with ⟨rfl, rfl⟩ | ⟨hi, ⟨rfl, _⟩ | ⟨h1, h2⟩⟩
    · exact ⟨.ref a, e1, frz_rep (owc_up up e5) upd_same⟩
    · trivial
    · have z := E.sl i x h1
      cases x with
      | no => trivial
      | fr t => obtain ⟨v, g1, g2⟩ := z; exact ⟨v, g1, rep_up up g2⟩
      | ow w' => exact absurd rfl (h2 w')
  · exfalso
    rcases peek_get h1 with ⟨_, q⟩ | ⟨_, ⟨q, _⟩ | ⟨_, q⟩⟩
    · cases q
    · cases q
    · exact q o rfl
  · let Hb3 : Hp := fun b => if b = a then none else Hb' b
    have h3 : ∀ b, b ≠ a → Hb3 b = Hb' b := fun b q => by show (if b = a then none else Hb' b) = _; rw [if_neg q]
    have sm : Same Hb Hb3 := fun b u e => by
      have nb : b ≠ a := fun z => by subst z; rw [e3] at e; cases e
      rw [h3 b nb]
      exact s' b u (up b u e)
    have ha' : H' a = some ho := E'.sub a ho (s' a ho upd_same)
    refine ⟨Hb3, ⟨E.len, fun b u e => ?_, fun b u e => ?_, fun i x hx => ?_, E.ap, fun b u e => ?_⟩, sm⟩
    · by_cases q : b = a
      · subst q
        have e' : (if b = b then none else Hb' b) = some u := e
        rw [if_pos rfl] at e'
        cases e'
      · rw [h3 b q] at e
        exact E'.sub b u e
    · have nb : b ≠ a := fun z => by subst z; rw [e2] at e; cases e
      have q : ¬ ownd b := fun z => by rw [(own_hb b z).2.1] at e; cases e
      have e' : F2 b = some u := by show (if ownd b then H b else F b) = some u; rw [if_neg q]; exact e
      obtain ⟨g1, g2⟩ := E'.frm b u e'
      exact ⟨g1, by rw [h3 b nb]; exact g2⟩
    · have z := E.sl i x hx
      cases x with
      | no => trivial
      | fr t => obtain ⟨v, g1, g2⟩ := z; exact ⟨v, g1, rep_up sm g2⟩
      | ow w' =>
        obtain ⟨b, hb, g1, g2, g3, g4, g5⟩ := z
        by_cases q : i = s
        · subst q
          rw [e1] at g1
          cases g1
          refine ⟨a, hb, e1, g2, ?_, ?_, owc_up sm g5⟩
          · show (if a = a then none else Hb' a) = none
            rw [if_pos rfl]
          · rw [e4] at g4
            cases g4
            exact ha'
        · have ob : ownd b := ⟨i, w', q, hx, g1⟩
          have nb : b ≠ a := fun z => na (z ▸ ob)
          have e' : F2 b = some hb := by show (if ownd b then H b else F b) = some hb; rw [if_pos ob]; exact g4
          obtain ⟨g6, g7⟩ := E'.frm b hb e'
          exact ⟨b, hb, g1, g2, by rw [h3 b nb]; exact g7, g6, owc_up sm g5⟩
    · have nb : b ≠ a := fun z => by
        subst z
        have e' : (if b = b then none else Hb' b) = some u := e
        rw [if_pos rfl] at e'
        cases e'
      rw [h3 b nb] at e
      exact E'.tp b u e
theorem flat_any {K : PySem.W.Frag} {H H' : Hp} {v : V} {d : PyData} (h : Dp K H v d) (f : flatD d = true) : Dp K H' v d := by
  cases h <;> first | (cases f; done) | exact .non | exact .bl _ | exact .int _
theorem qv_peek (s : Nat) {w : Ow} (h : PV G X (peekG Γ s (frzO w)) e (.d d) (peekG Γ s (frzO w))) (hs : Γ[s]? = some (.ow w) := by rfl) (hf : flatD d = true := by rfl) : PV G X Γ e (.d d) Γ := by
  obtain ⟨r, h1, h2⟩ := h
  refine ⟨r, h1, fun F σ H Hb E Q q => ?_⟩
  obtain ⟨F2, Hb2, E2, s2, bk⟩ := peek_env E hs
  refine h2 F2 σ H Hb2 E2 Q fun v H' Hb' E' s' r' => ?_
  obtain ⟨Hb3, E3, s3⟩ := bk H' Hb' E' s'
  exact q v H' Hb3 E3 s3 (flat_any r' hf)
theorem qb_peek (s : Nat) {w : Ow} {m : Bool} (h : PB G X (peekG Γ s (frzO w)) e m (peekG Γ s (frzO w))) (hs : Γ[s]? = some (.ow w) := by rfl) : PB G X Γ e m Γ := by
  obtain ⟨r, h1, h2⟩ := h
  refine ⟨r, h1, fun F σ H Hb E Q q => ?_⟩
  obtain ⟨F2, Hb2, E2, s2, bk⟩ := peek_env E hs
  refine h2 F2 σ H Hb2 E2 Q fun H' Hb' E' s' => ?_
  obtain ⟨Hb3, E3, s3⟩ := bk H' Hb' E' s'
  exact q H' Hb3 E3 s3

/-! ### slices -/
def cutD (ds : List PyData) (lo hi : Option Int) : List PyData := (ds.drop (HT.sIx ds.length 0 lo)).take (HT.sIx ds.length ds.length hi - HT.sIx ds.length 0 lo)
theorem cut_dp {K : PySem.W.Frag} {H : Hp} {vs : List V} {ds : List PyData} (h : DpAll K H vs ds) (lo hi : Option Int) : DpAll K H (cutV vs lo hi) (cutD ds lo hi) := by
  unfold cutV cutD
  rw [dpAll_len h]
  exact dpAll_take _ (dpAll_drop _ h)
/-- a part of a slice -/
def PP (G : Gx) (X : ι → Cx) (Γ : List Sl) (e : Option Expr) (i : Option Int) (Γ' : List Sl) : Prop := ∃ r, (∀ j, PO (X j) e r) ∧ ∀ F σ H Hb, EnvOk G F Γ σ H Hb → ∀ Q : Option Int → Hp → Prop, (∀ H' Hb', EnvOk G F Γ' σ H' Hb' → Same Hb Hb' → Q i H') → r σ H Q
theorem qp_none : PP G X Γ none none Γ := ⟨_, fun _ => po_none, fun F σ H Hb E Q q => q H Hb E (Same.refl _)⟩
theorem qp_some {i : Int} (h : PV G X Γ e (.d (.int i)) Γ1) : PP G X Γ (some e) (some i) Γ1 := by
  obtain ⟨r, h1, h2⟩ := h
  exact ⟨_, fun j => po_some (h1 j), fun F σ H Hb E Q q => h2 F σ H Hb E _ fun v H' Hb' E' s' r' => ⟨i, dp_int r', q H' Hb' E' s'⟩⟩
theorem qf_slL (C : Ctx W k X) (hG : W.G = G) {l h : Option Expr} {lo hi : Option Int} (ha : PV G X Γ a (.d (.list ds)) Γ1) (hl : PP G X Γ1 l lo Γ2) (hh : PP G X Γ2 h hi Γ3) : PF G X Γ (.Subscript a (.Slice l h none p) pos) (.lst (cutD ds lo hi)) Γ3 := by
  subst hG
  obtain ⟨r, r1, r2⟩ := ha
  obtain ⟨u, u1, u2⟩ := hl
  obtain ⟨w, w1, w2⟩ := hh
  refine ⟨tSl (rSlL W.G.K) r u w, fun j => by have z := pe_slice (pos := pos) (p2 := p) (sl_list (X := X j)) (r1 j) (u1 j) (w1 j); rw [C.K j] at z; exact z, fun F σ H Hb E Q q => ?_⟩
  refine r2 F σ H Hb E _ fun v H1 Hb1 E1 s1 d1 => u2 F σ H1 Hb1 E1 _ fun H2 Hb2 E2 s2 => w2 F σ H2 Hb2 E2 _ fun H3 Hb3 E3 s3 => ?_
  obtain ⟨x, vs, rfl, h1, h2⟩ := dp_lst (dp_up (s2.trans s3) d1)
  exact ⟨x, vs, rfl, seqL_up E3.sub h1, fun n hn => q n _ _ Hb3 (E3.lay hn) ((s1.trans s2).trans s3) upd_same (cut_dp h2 lo hi) (E3.fn hn) (E3.hbn hn) (E3.notN hn)⟩
theorem qv_slT (C : Ctx W k X) (hG : W.G = G) {l h : Option Expr} {lo hi : Option Int} (ha : PV G X Γ a (.d (.tuple ds)) Γ1) (hl : PP G X Γ1 l lo Γ2) (hh : PP G X Γ2 h hi Γ3) (hnw : NoWay (cutD ds lo hi)) : PV G X Γ (.Subscript a (.Slice l h none p) pos) (.d (.tuple (cutD ds lo hi))) Γ3 := by
  subst hG
  obtain ⟨r, r1, r2⟩ := ha
  obtain ⟨u, u1, u2⟩ := hl
  obtain ⟨w, w1, w2⟩ := hh
  refine ⟨tSl (rSlA W.G.K) r u w, fun j => by have z := pe_slice (pos := pos) (p2 := p) (sl_tupA (X := X j)) (r1 j) (u1 j) (w1 j); rw [C.K j] at z; exact z, fun F σ H Hb E Q q => ?_⟩
  refine r2 F σ H Hb E _ fun v H1 Hb1 E1 s1 d1 => u2 F σ H1 Hb1 E1 _ fun H2 Hb2 E2 s2 => w2 F σ H2 Hb2 E2 _ fun H3 Hb3 E3 s3 => ?_
  obtain ⟨x, vs, rfl, h1, h2⟩ := dp_tup (dp_up (s2.trans s3) d1)
  refine ⟨x, vs, rfl, seqT_up E3.sub h1, fun hw => ?_, fun hw n hn => ?_⟩
  · have e : cutD ds lo hi = ds := by
      unfold cutD
      rw [← dpAll_len h2, hw.1, hw.2]
      simp [dpAll_len h2]
    rw [e] at q
    exact q _ H3 Hb3 E3 ((s1.trans s2).trans s3) (.tup h1 h2)
  · exact q _ _ _ (E3.new hn (tok_dp (cut_dp h2 lo hi) hnw)) (((s1.trans s2).trans s3).trans (same_upd (E3.hbn hn))) (.tup (.of upd_same) (dpAll_up (same_upd (E3.hbn hn)) (cut_dp h2 lo hi)))
/-- x[::-1] -/
theorem qf_rev (C : Ctx W k X) (hG : W.G = G) {kk : Nat} {p1 p2 p3 : Pos} (ha : PV G X Γ a (.d (.list ds)) Γ1) : PF G X Γ (.Subscript a (.Slice none none (some (.UnaryOp .USub (.Constant (.int 1) kk p1) p2)) p3) pos) (.lst ds.reverse) Γ1 := by
  subst hG
  obtain ⟨r, r1, r2⟩ := ha
  refine ⟨tRevL W.G.K r, fun j => by have z := pe_revL (k := kk) (p1 := p1) (p2 := p2) (p3 := p3) (pos := pos) (r1 j); rw [C.K j] at z; exact z, fun F σ H Hb E Q q => r2 F σ H Hb E _ fun v H1 Hb1 E1 s1 d1 => ?_⟩
  obtain ⟨x, vs, rfl, h1, h2⟩ := dp_lst d1
  exact ⟨x, vs, rfl, seqL_up E1.sub h1, fun n hn => q n _ _ Hb1 (E1.lay hn) s1 upd_same (dpAll_rev h2) (E1.fn hn) (E1.hbn hn) (E1.notN hn)⟩

/-! ### calls of built-ins -/
def RC1 (G : Gx) (r : List V → Hp → VK → Prop) (Γ : List Sl) (ts : List Tv) (t : Tv) : Prop := ∀ F σ H Hb vs, EnvOk G F Γ σ H Hb → RepL G Hb vs ts → ∀ Q : VK, (∀ z H' Hb', EnvOk G F Γ σ H' Hb' → Same Hb Hb' → Rep G Hb' z t → Q z H') → r vs H Q
def RCF (G : Gx) (r : List V → Hp → VK → Prop) (Γ : List Sl) (ts : List Tv) (o : Ow) : Prop := ∀ F σ H Hb vs, EnvOk G F Γ σ H Hb → RepL G Hb vs ts → ∀ Q : VK, (∀ p ho, H p = none → OwC G Hb p o ho → Q (.ref p) (upd H p ho)) → r vs H Q
section
variable {x : Str} {id T : String} {r : List V → Hp → VK → Prop} {ts : List Tv}
theorem qv_callB (C : Ctx W k X) (hc : ∀ j, CallR (X j) (.builtin id) r) (hm : W.mg x = none) (hv : bootBuiltins x = some (.builtin id)) (ha : PL G X Γ (e :: es) ts Γ1) (h : RC1 G r Γ1 ts t) (hg : ∀ j, Gl (X j) x := by intro _; rfl) (hn : x ≠ "__name__" := by decide) (hdb : (x == ("__debug__" : Str)) = false := by decide)
    (he : ∀ i, starEach (e :: es) (X i).env = (false, eval e (X i).env) :: starEach es (X i).env := by intro _; rfl) (hpl : ∀ i, (backTo pos (starEach es (X i).env)).any (·.1) = false := by intro _; rfl) : PV G X Γ (.Call (.Name x p) (e :: es) [] pos) t Γ1 := by
  obtain ⟨u, u1, u2⟩ := ha
  exact ⟨_, fun j => pe_callB (hc j) (hg j) (by rw [C.mg j]; exact hm) hv (u1 j) hn hdb (he j) (hpl j), fun F σ H Hb E Q q => u2 F σ H Hb E _ fun vs H' Hb' E' s' r' => h F σ H' Hb' vs E' r' Q fun z H2 Hb2 E2 s2 r2 => q z H2 Hb2 E2 (s'.trans s2) r2⟩
theorem qf_callB {w : Ow} (C : Ctx W k X) (hc : ∀ j, CallR (X j) (.builtin id) r) (hm : W.mg x = none) (hv : bootBuiltins x = some (.builtin id)) (ha : PL G X Γ (e :: es) ts Γ1) (h : RCF G r Γ1 ts w) (hg : ∀ j, Gl (X j) x := by intro _; rfl) (hn : x ≠ "__name__" := by decide) (hdb : (x == ("__debug__" : Str)) = false := by decide)
    (he : ∀ i, starEach (e :: es) (X i).env = (false, eval e (X i).env) :: starEach es (X i).env := by intro _; rfl) (hpl : ∀ i, (backTo pos (starEach es (X i).env)).any (·.1) = false := by intro _; rfl) : PF G X Γ (.Call (.Name x p) (e :: es) [] pos) w Γ1 := by
  obtain ⟨u, u1, u2⟩ := ha
  exact ⟨_, fun j => pe_callB (hc j) (hg j) (by rw [C.mg j]; exact hm) hv (u1 j) hn hdb (he j) (hpl j), fun F σ H Hb E Q q => u2 F σ H Hb E _ fun vs H' Hb' E' s' r' => h F σ H' Hb' vs E' r' Q fun n ho hn hc => q n ho _ Hb' (E'.lay hn) s' upd_same hc (E'.fn hn) (E'.hbn hn) (E'.notN hn)⟩
theorem qv_callT (C : Ctx W k X) (hc : ∀ j, CallR (X j) (.type T) r) (hm : W.mg x = none) (hv : bootBuiltins x = some (.type T)) (ha : PL G X Γ (e :: es) ts Γ1) (h : RC1 G r Γ1 ts t) (hg : ∀ j, Gl (X j) x := by intro _; rfl) (hn : x ≠ "__name__" := by decide) (hdb : (x == ("__debug__" : Str)) = false := by decide)
    (he : ∀ i, starEach (e :: es) (X i).env = (false, eval e (X i).env) :: starEach es (X i).env := by intro _; rfl) (hpl : ∀ i, (backTo pos (starEach es (X i).env)).any (·.1) = false := by intro _; rfl) : PV G X Γ (.Call (.Name x p) (e :: es) [] pos) t Γ1 := by
  obtain ⟨u, u1, u2⟩ := ha
  exact ⟨_, fun j => pe_callTy (hc j) (hg j) (by rw [C.mg j]; exact hm) hv (u1 j) hn hdb (he j) (hpl j), fun F σ H Hb E Q q => u2 F σ H Hb E _ fun vs H' Hb' E' s' r' => h F σ H' Hb' vs E' r' Q fun z H2 Hb2 E2 s2 r2 => q z H2 Hb2 E2 (s'.trans s2) r2⟩
theorem qf_callT {w : Ow} (C : Ctx W k X) (hc : ∀ j, CallR (X j) (.type T) r) (hm : W.mg x = none) (hv : bootBuiltins x = some (.type T)) (ha : PL G X Γ (e :: es) ts Γ1) (h : RCF G r Γ1 ts w) (hg : ∀ j, Gl (X j) x := by intro _; rfl) (hn : x ≠ "__name__" := by decide) (hdb : (x == ("__debug__" : Str)) = false := by decide)
    (he : ∀ i, starEach (e :: es) (X i).env = (false, eval e (X i).env) :: starEach es (X i).env := by intro _; rfl) (hpl : ∀ i, (backTo pos (starEach es (X i).env)).any (·.1) = false := by intro _; rfl) : PF G X Γ (.Call (.Name x p) (e :: es) [] pos) w Γ1 := by
  obtain ⟨u, u1, u2⟩ := ha
  exact ⟨_, fun j => pe_callTy (hc j) (hg j) (by rw [C.mg j]; exact hm) hv (u1 j) hn hdb (he j) (hpl j), fun F σ H Hb E Q q => u2 F σ H Hb E _ fun vs H' Hb' E' s' r' => h F σ H' Hb' vs E' r' Q fun n ho hn hc => q n ho _ Hb' (E'.lay hn) s' upd_same hc (E'.fn hn) (E'.hbn hn) (E'.notN hn)⟩
end
theorem rep1 {Hb : Hp} {vs : List V} {t : Tv} (h : RepL G Hb vs [t]) : ∃ v, vs = [v] ∧ Rep G Hb v t := by
  cases h with
  | cons h hs => cases hs; exact ⟨_, rfl, h⟩
theorem rep2 {Hb : Hp} {vs : List V} {t u : Tv} (h : RepL G Hb vs [t, u]) : ∃ v w, vs = [v, w] ∧ Rep G Hb v t ∧ Rep G Hb w u := by
  cases h with
  | cons h hs =>
    obtain ⟨w, rfl, h2⟩ := rep1 hs
    exact ⟨_, w, rfl, h, h2⟩
abbrev PL1 (h : PV G X Γ e t Γ1) (hs : ∀ j, starEach [e] (X j).env = (false, eval e (X j).env) :: starEach [] (X j).env := by intro _; rfl) : PL G X Γ [e] [t] Γ1 := ql_cons h ql_nil hs
/-- len(x): a list, a tuple -/
theorem qv_lenL (C : Ctx W k X) (hG : W.G = G) (hm : W.mg "len" = none) (ha : PV G X Γ e (.d (.list ds)) Γ1) (hg : ∀ j, Gl (X j) "len" := by intro _; rfl) (hs : ∀ j, starEach [e] (X j).env = (false, eval e (X j).env) :: starEach [] (X j).env := by intro _; rfl) : PV G X Γ (.Call (.Name "len" p) [e] [] pos) (.d (.int ds.length)) Γ1 := by
  subst hG
  refine qv_callB C (r := fun xs H Q => ∃ p ys, xs = [.ref p] ∧ (SqL W.G.K H p ys ∨ SqT W.G.K H p ys) ∧ Q (.int ys.length) H) (fun j => by have h := call_len_seq (X := X j); rw [C.K j] at h; exact h) hm PySem.boot_len (ql_cons ha ql_nil hs) (fun F σ H Hb vs E hr Q q => ?_) hg (hpl := fun _ => rfl) (he := hs)
  obtain ⟨v, rfl, hv⟩ := rep1 hr
  obtain ⟨x, ws, rfl, h1, h2⟩ := dp_lst hv
  refine ⟨x, ws, rfl, .inl (seqL_up E.sub h1), ?_⟩
  rw [dpAll_len h2]
  exact q _ H Hb E (Same.refl _) (.int _)
theorem qv_lenT (C : Ctx W k X) (hG : W.G = G) (hm : W.mg "len" = none) (ha : PV G X Γ e (.d (.tuple ds)) Γ1) (hg : ∀ j, Gl (X j) "len" := by intro _; rfl) (hs : ∀ j, starEach [e] (X j).env = (false, eval e (X j).env) :: starEach [] (X j).env := by intro _; rfl) : PV G X Γ (.Call (.Name "len" p) [e] [] pos) (.d (.int ds.length)) Γ1 := by
  subst hG
  refine qv_callB C (r := fun xs H Q => ∃ p ys, xs = [.ref p] ∧ (SqL W.G.K H p ys ∨ SqT W.G.K H p ys) ∧ Q (.int ys.length) H) (fun j => by have h := call_len_seq (X := X j); rw [C.K j] at h; exact h) hm PySem.boot_len (ql_cons ha ql_nil hs) (fun F σ H Hb vs E hr Q q => ?_) hg (hpl := fun _ => rfl) (he := hs)
  obtain ⟨v, rfl, hv⟩ := rep1 hr
  obtain ⟨x, ws, rfl, h1, h2⟩ := dp_tup hv
  refine ⟨x, ws, rfl, .inr (seqT_up E.sub h1), ?_⟩
  rw [dpAll_len h2]
  exact q _ H Hb E (Same.refl _) (.int _)
section
variable {bs : List Bool} {ns : List Int}
theorem qv_all (C : Ctx W k X) (hG : W.G = G) (hm : W.mg "all" = none) (ha : PV G X Γ e (.d (.list (bs.map PyData.bool))) Γ1) (hg : ∀ j, Gl (X j) "all" := by intro _; rfl) (hs : ∀ j, starEach [e] (X j).env = (false, eval e (X j).env) :: starEach [] (X j).env := by intro _; rfl) : PV G X Γ (.Call (.Name "all" p) [e] [] pos) (.d (.bool (bs.all id))) Γ1 := by
  subst hG
  refine qv_callB C (r := rAll W.G.K) (fun j => by have h := cr_all (X := X j) (C.calm j); rw [C.K j] at h; exact h) hm PyProof.Rows.boot_all (ql_cons ha ql_nil hs) (fun F σ H Hb vs E hr Q q => ?_) hg (hpl := fun _ => rfl) (he := hs)
  obtain ⟨v, rfl, hv⟩ := rep1 hr
  obtain ⟨x, ws, rfl, h1, h2⟩ := dp_lst hv
  exact ⟨x, bs, rfl, by rw [← dpAll_bls h2]; exact seqL_up E.sub h1, q _ H Hb E (Same.refl _) (.bl _)⟩
theorem qv_any (C : Ctx W k X) (hG : W.G = G) (hm : W.mg "any" = none) (ha : PV G X Γ e (.d (.list (bs.map PyData.bool))) Γ1) (hg : ∀ j, Gl (X j) "any" := by intro _; rfl) (hs : ∀ j, starEach [e] (X j).env = (false, eval e (X j).env) :: starEach [] (X j).env := by intro _; rfl) : PV G X Γ (.Call (.Name "any" p) [e] [] pos) (.d (.bool (bs.any id))) Γ1 := by
  subst hG
  refine qv_callB C (r := rAny W.G.K) (fun j => by have h := cr_any (X := X j) (C.calm j); rw [C.K j] at h; exact h) hm PyProof.Rows.boot_any (ql_cons ha ql_nil hs) (fun F σ H Hb vs E hr Q q => ?_) hg (hpl := fun _ => rfl) (he := hs)
  obtain ⟨v, rfl, hv⟩ := rep1 hr
  obtain ⟨x, ws, rfl, h1, h2⟩ := dp_lst hv
  exact ⟨x, bs, rfl, by rw [← dpAll_bls h2]; exact seqL_up E.sub h1, q _ H Hb E (Same.refl _) (.bl _)⟩
theorem qv_sum (C : Ctx W k X) (hG : W.G = G) (hm : W.mg "sum" = none) (ha : PV G X Γ e (.d (.list (ns.map PyData.int))) Γ1) (hg : ∀ j, Gl (X j) "sum" := by intro _; rfl) (hs : ∀ j, starEach [e] (X j).env = (false, eval e (X j).env) :: starEach [] (X j).env := by intro _; rfl) : PV G X Γ (.Call (.Name "sum" p) [e] [] pos) (.d (.int ns.sum)) Γ1 := by
  subst hG
  refine qv_callB C (r := rSum W.G.K) (fun j => by have h := cr_sum (X := X j) (C.calm j); rw [C.K j] at h; exact h) hm PyProof.Rows.boot_sum (ql_cons ha ql_nil hs) (fun F σ H Hb vs E hr Q q => ?_) hg (hpl := fun _ => rfl) (he := hs)
  obtain ⟨v, rfl, hv⟩ := rep1 hr
  obtain ⟨x, ws, rfl, h1, h2⟩ := dp_lst hv
  exact ⟨x, ns, rfl, by rw [← dpAll_ints h2]; exact seqL_up E.sub h1, q _ H Hb E (Same.refl _) (.int _)⟩
theorem qv_min2 {m n : Int} (C : Ctx W k X) (hm : W.mg "min" = none) (ha : PV G X Γ a (.d (.int m)) Γ1) (hb : PV G X Γ1 b (.d (.int n)) Γ2) (hg : ∀ j, Gl (X j) "min" := by intro _; rfl) (hs : ∀ j, starEach [a, b] (X j).env = (false, eval a (X j).env) :: starEach [b] (X j).env := by intro _; rfl) (hs2 : ∀ j, starEach [b] (X j).env = (false, eval b (X j).env) :: starEach [] (X j).env := by intro _; rfl)
    (hpl : ∀ i, (backTo pos (starEach [b] (X i).env)).any (·.1) = false := by intro _; rfl) : PV G X Γ (.Call (.Name "min" p) [a, b] [] pos) (.d (.int (if n < m then n else m))) Γ2 :=
  qv_callB C (fun j => call_min2 (X := X j) (C.calm j)) hm PyProof.Rows.boot_min (ql_cons ha (ql_cons hb ql_nil hs2) hs) (fun F σ H Hb vs E hr Q q => by
    obtain ⟨v, w, rfl, h1, h2⟩ := rep2 hr
    exact ⟨m, n, by rw [dp_int h1, dp_int h2], q _ H Hb E (Same.refl _) (.int _)⟩) hg (hpl := hpl) (he := hs)
theorem qv_max2 {m n : Int} (C : Ctx W k X) (hm : W.mg "max" = none) (ha : PV G X Γ a (.d (.int m)) Γ1) (hb : PV G X Γ1 b (.d (.int n)) Γ2) (hg : ∀ j, Gl (X j) "max" := by intro _; rfl) (hs : ∀ j, starEach [a, b] (X j).env = (false, eval a (X j).env) :: starEach [b] (X j).env := by intro _; rfl) (hs2 : ∀ j, starEach [b] (X j).env = (false, eval b (X j).env) :: starEach [] (X j).env := by intro _; rfl)
    (hpl : ∀ i, (backTo pos (starEach [b] (X i).env)).any (·.1) = false := by intro _; rfl) : PV G X Γ (.Call (.Name "max" p) [a, b] [] pos) (.d (.int (if n > m then n else m))) Γ2 :=
  qv_callB C (fun j => call_max2 (X := X j) (C.calm j)) hm PyProof.Rows.boot_max (ql_cons ha (ql_cons hb ql_nil hs2) hs) (fun F σ H Hb vs E hr Q q => by
    obtain ⟨v, w, rfl, h1, h2⟩ := rep2 hr
    exact ⟨m, n, by rw [dp_int h1, dp_int h2], q _ H Hb E (Same.refl _) (.int _)⟩) hg (hpl := hpl) (he := hs)
theorem qv_abs {m : Int} (C : Ctx W k X) (hm : W.mg "abs" = none) (ha : PV G X Γ e (.d (.int m)) Γ1) (hg : ∀ j, Gl (X j) "abs" := by intro _; rfl) (hs : ∀ j, starEach [e] (X j).env = (false, eval e (X j).env) :: starEach [] (X j).env := by intro _; rfl) : PV G X Γ (.Call (.Name "abs" p) [e] [] pos) (.d (.int (if m < 0 then -m else m))) Γ1 :=
  qv_callB C (fun j => call_abs (X := X j)) hm PyProof.Rows.boot_abs (ql_cons ha ql_nil hs) (fun F σ H Hb vs E hr Q q => by
    obtain ⟨v, rfl, h1⟩ := rep1 hr
    exact ⟨m, by rw [dp_int h1], q _ H Hb E (Same.refl _) (.int _)⟩) hg (hpl := fun _ => rfl) (he := hs)
theorem qv_intof {m : Int} (C : Ctx W k X) (hm : W.mg "int" = none) (ha : PV G X Γ e (.d (.int m)) Γ1) (hg : ∀ j, Gl (X j) "int" := by intro _; rfl) (hs : ∀ j, starEach [e] (X j).env = (false, eval e (X j).env) :: starEach [] (X j).env := by intro _; rfl) : PV G X Γ (.Call (.Name "int" p) [e] [] pos) (.d (.int m)) Γ1 :=
  qv_callT C (fun j => call_int1 (X := X j)) hm PyProof.Rows.boot_int (ql_cons ha ql_nil hs) (fun F σ H Hb vs E hr Q q => by
    obtain ⟨v, rfl, h1⟩ := rep1 hr
    exact .inl ⟨m, by rw [dp_int h1], q _ H Hb E (Same.refl _) (.int _)⟩) hg (hpl := fun _ => rfl) (he := hs)
end
/-- list(x) -/
theorem qf_listL (C : Ctx W k X) (hG : W.G = G) (hm : W.mg "list" = none) (ha : PV G X Γ e (.d (.list ds)) Γ1) (hg : ∀ j, Gl (X j) "list" := by intro _; rfl) (hs : ∀ j, starEach [e] (X j).env = (false, eval e (X j).env) :: starEach [] (X j).env := by intro _; rfl) : PF G X Γ (.Call (.Name "list" p) [e] [] pos) (.lst ds) Γ1 := by
  subst hG
  refine qf_callT C (r := fun xs H Q => ∃ p ys, xs = [.ref p] ∧ (SqL W.G.K H p ys ∨ SqT W.G.K H p ys) ∧ ∀ l, H l = none → Q (.ref l) (upd H l (.lst ys))) (fun j => by have h := call_list_of (X := X j); rw [C.K j] at h; exact h) hm PyProof.Rows.boot_list (ql_cons ha ql_nil hs) (fun F σ H Hb vs E hr Q q => ?_) hg (hpl := fun _ => rfl) (he := hs)
  obtain ⟨v, rfl, hv⟩ := rep1 hr
  obtain ⟨x, ws, rfl, h1, h2⟩ := dp_lst hv
  exact ⟨x, ws, rfl, .inl (seqL_up E.sub h1), fun l hl => q l _ hl h2⟩
theorem qv_tupleL (C : Ctx W k X) (hG : W.G = G) (hm : W.mg "tuple" = none) (ha : PV G X Γ e (.d (.list ds)) Γ1) (hw : NoWay ds) (hg : ∀ j, Gl (X j) "tuple" := by intro _; rfl) (hs : ∀ j, starEach [e] (X j).env = (false, eval e (X j).env) :: starEach [] (X j).env := by intro _; rfl) : PV G X Γ (.Call (.Name "tuple" p) [e] [] pos) (.d (.tuple ds)) Γ1 := by
  subst hG
  refine qv_callT C (r := fun xs H Q => ∃ p ys, xs = [.ref p] ∧ ((SqL W.G.K H p ys ∧ ∀ l, H l = none → Q (.ref l) (upd H l (.tup ys))) ∨ (SqT W.G.K H p ys ∧ Q (.ref p) H))) (fun j => by have h := call_tuple_of (X := X j); rw [C.K j] at h; exact h) hm PyProof.Rows.boot_tuple (ql_cons ha ql_nil hs) (fun F σ H Hb vs E hr Q q => ?_) hg (hpl := fun _ => rfl) (he := hs)
  obtain ⟨v, rfl, hv⟩ := rep1 hr
  obtain ⟨x, ws, rfl, h1, h2⟩ := dp_lst hv
  exact ⟨x, ws, rfl, .inl ⟨seqL_up E.sub h1, fun l hl => q _ _ _ (E.new hl (tok_dp h2 hw)) (same_upd (E.hbn hl)) (.tup (.of upd_same) (dpAll_up (same_upd (E.hbn hl)) h2))⟩⟩
/-- t + u of tuples; xs + ys of lists -/
theorem qv_catT (C : Ctx W k X) (hG : W.G = G) (ha : PV G X Γ a (.d (.tuple ds)) Γ1) (hb : PV G X Γ1 b (.d (.tuple ds2)) Γ2) (hz : ds.length + ds2.length ≤ 100000) (hnw : NoWay (ds ++ ds2)) : PV G X Γ (.BinOp a .Add b pos) (.d (.tuple (ds ++ ds2))) Γ2 := by
  subst hG
  refine qv_op (r := rCatA W.G.K) (fun j => by have h := op_catA (X := X j); rw [C.K j] at h; exact h) ha hb fun F σ H Hb v w E hv hw Q q => ?_
  obtain ⟨x, vs, rfl, h1, h2⟩ := dp_tup hv
  obtain ⟨y, ws, rfl, h3, h4⟩ := dp_tup hw
  refine ⟨x, y, vs, ws, rfl, rfl, seqT_up E.sub h1, seqT_up E.sub h3, by rw [dpAll_len h2, dpAll_len h4]; exact small_sz hz, fun e => ?_, fun n e => ?_, fun n1 n2 l hl => ?_⟩
  · subst e
    cases h2
    exact q _ H Hb E (Same.refl _) (.tup h3 h4)
  · subst e
    cases h4
    rw [List.append_nil] at q
    exact q _ H Hb E (Same.refl _) (.tup h1 h2)
  · exact q _ _ _ (E.new hl (tok_dp (dpAll_app h2 h4) hnw)) (same_upd (E.hbn hl)) (.tup (.of upd_same) (dpAll_up (same_upd (E.hbn hl)) (dpAll_app h2 h4)))
end
end Lk
set_option Elab.async false
set_option linter.all false
set_option maxRecDepth 100000
set_option maxHeartbeats 2000000
/-! T6: fields, isinstance, methods of lists, several targets. -/
namespace Lk
open PySem PySem.Spec PyProof.Rows L2
/-- the classes' facts -/
structure ClsT (G : Gx) : Prop where
  cC : Cls G.K G.cC
  cW : Cls G.K G.cW
  nC : ∀ f, f ∈ ([("own_lanes" : Str), "own_ties", "own_ahead"] : List Str) → NoAttr G.K G.cC f
  nW : ∀ f, f ∈ ([("own_country" : Str), "own_books"] : List Str) → NoAttr G.K G.cW f
section
variable {ι : Type} {G : Gx} {W : Wd} {k : Nat} {X : ι → Cx} {Γ Γ1 Γ2 Γ3 : List Sl} {a b e o : Expr} {es rest : List Expr} {pos p q apos cpos : Pos} {t t1 t2 : Tv} {ds ds2 : List PyData} {d : PyData} {c : CD} {bs : PyData}

/-! ### fields -/
theorem qv_ties (C : Ctx W k X) (hG : W.G = G) (T : ClsT G) (h : PV G X Γ e (.ctry c) Γ1) (hb : ∀ j, attributeBase e "own_ties" (X j).env (eval e (X j).env) = eval e (X j).env := by intro _; rfl) : PV G X Γ (.Attribute e "own_ties" pos) (.d c.ties) Γ1 := by
  subst hG
  obtain ⟨r, h1, h2⟩ := h
  refine ⟨tFld W.G.K r "own_ties", fun j => by have z := pe_fld (pos := pos) (h1 j) (hb j); rw [C.K j] at z; exact z, fun F σ H Hb E Q q => h2 F σ H Hb E _ fun v H' Hb' E' s' r' => ?_⟩
  obtain ⟨x, dx, fs, v1, v2, v3, rfl, a2, a3, a4, a5, a6, a7, a8, a9⟩ := r'
  exact ⟨x, W.G.cC, dx, fs, v2, rfl, E'.sub _ _ a2, T.cC, T.nC _ (by simp), a4, q v2 H' Hb' E' s' a8⟩
theorem qv_ahead (C : Ctx W k X) (hG : W.G = G) (T : ClsT G) (h : PV G X Γ e (.ctry c) Γ1) (hb : ∀ j, attributeBase e "own_ahead" (X j).env (eval e (X j).env) = eval e (X j).env := by intro _; rfl) : PV G X Γ (.Attribute e "own_ahead" pos) (.d c.ahead) Γ1 := by
  subst hG
  obtain ⟨r, h1, h2⟩ := h
  refine ⟨tFld W.G.K r "own_ahead", fun j => by have z := pe_fld (pos := pos) (h1 j) (hb j); rw [C.K j] at z; exact z, fun F σ H Hb E Q q => h2 F σ H Hb E _ fun v H' Hb' E' s' r' => ?_⟩
  obtain ⟨x, dx, fs, v1, v2, v3, rfl, a2, a3, a4, a5, a6, a7, a8, a9⟩ := r'
  exact ⟨x, W.G.cC, dx, fs, v3, rfl, E'.sub _ _ a2, T.cC, T.nC _ (by simp), a5, q v3 H' Hb' E' s' a9⟩
theorem qv_octry (C : Ctx W k X) (hG : W.G = G) (T : ClsT G) (h : PV G X Γ e (.web c bs) Γ1) (hb : ∀ j, attributeBase e "own_country" (X j).env (eval e (X j).env) = eval e (X j).env := by intro _; rfl) : PV G X Γ (.Attribute e "own_country" pos) (.ctry c) Γ1 := by
  subst hG
  obtain ⟨r, h1, h2⟩ := h
  refine ⟨tFld W.G.K r "own_country", fun j => by have z := pe_fld (pos := pos) (h1 j) (hb j); rw [C.K j] at z; exact z, fun F σ H Hb E Q q => h2 F σ H Hb E _ fun v H' Hb' E' s' r' => ?_⟩
  obtain ⟨x, dx, fs, v1, v2, rfl, a2, a3, a4, a5, a6, a7⟩ := r'
  exact ⟨x, W.G.cW, dx, fs, v1, rfl, E'.sub _ _ a2, T.cW, T.nW _ (by simp), a3, q v1 H' Hb' E' s' a6⟩
theorem qv_obooks (C : Ctx W k X) (hG : W.G = G) (T : ClsT G) (h : PV G X Γ e (.web c bs) Γ1) (hb : ∀ j, attributeBase e "own_books" (X j).env (eval e (X j).env) = eval e (X j).env := by intro _; rfl) : PV G X Γ (.Attribute e "own_books" pos) (.d bs) Γ1 := by
  subst hG
  obtain ⟨r, h1, h2⟩ := h
  refine ⟨tFld W.G.K r "own_books", fun j => by have z := pe_fld (pos := pos) (h1 j) (hb j); rw [C.K j] at z; exact z, fun F σ H Hb E Q q => h2 F σ H Hb E _ fun v H' Hb' E' s' r' => ?_⟩
  obtain ⟨x, dx, fs, v1, v2, rfl, a2, a3, a4, a5, a6, a7⟩ := r'
  exact ⟨x, W.G.cW, dx, fs, v2, rfl, E'.sub _ _ a2, T.cW, T.nW _ (by simp), a4, q v2 H' Hb' E' s' a7⟩

/-! ### isinstance -/
theorem pe_tyname {X : Cx} {x : Str} {T : String} {pos : Pos} (hg : Gl X x) (hm : X.mg x = none) (hv : bootBuiltins x = some (.type T)) (hn : x ≠ "__name__") (hd : (x == ("__debug__" : Str)) = false) : PE X (.Name x pos) (tC (.ty T)) := pe_bltn hg hm hv rfl hn hd
theorem qv_isi (C : Ctx W k X) (hG : W.G = G) {x : Str} {T T0 : String} {r : Bool} (hm : W.mg "isinstance" = none) (hx : W.mg x = none) (hv : bootBuiltins x = some (.type T)) (ha : PV G X Γ e (.d d) Γ1) (ht : tyD d = T0) (hk : kitB T0 T = some r) (hg : ∀ j, Gl (X j) "isinstance" := by intro _; rfl) (hgx : ∀ j, Gl (X j) x := by intro _; rfl)
    (hs : ∀ j, starEach [e, .Name x q] (X j).env = (false, eval e (X j).env) :: starEach [.Name x q] (X j).env := by intro _; rfl) (hs2 : ∀ j, starEach [.Name x q] (X j).env = (false, eval (.Name x q) (X j).env) :: starEach [] (X j).env := by intro _; rfl)
    (hpl : ∀ i, (backTo pos (starEach [.Name x q] (X i).env)).any (·.1) = false := by intro _; rfl) (hn : x ≠ "__name__" := by decide) (hd : (x == ("__debug__" : Str)) = false := by decide) : PV G X Γ (.Call (.Name "isinstance" p) [e, .Name x q] [] pos) (.d (.bool r)) Γ1 := by
  subst hG
  obtain ⟨u, u1, u2⟩ := ha
  refine ⟨tCB (rIsi W.G.K) (tCons u (tCons (tC (.ty T)) tNil)), fun j => by
    have z := pe_callB (p := p) (pos := pos) (call_isi (X := X j)) (hg j) (by rw [C.mg j]; exact hm) PyProof.Rows.boot_isinstance (pa_cons (u1 j) (pa_cons (pe_tyname (pos := q) (hgx j) (by rw [C.mg j]; exact hx) hv hn hd) pa_nil (hs2 j)) (hs j)) (he := hs j) (hpl := hpl j)
    rw [C.K j] at z
    exact z, fun F σ H Hb E Q q => u2 F σ H Hb E _ fun v H' Hb' E' s' r' => ?_⟩
  refine ⟨v, .ty T, .type (tyD d), .type T, r, rfl, .ty T, dp_ty (dp_up E'.sub r'), ?_, q _ H' Hb' E' s' (.bl _)⟩
  rw [ht]
  exact kit_ty hk
/-- isinstance(x, (list, tuple)) -/
theorem qv_isiLT (C : Ctx W k X) (hG : W.G = G) {x y : Str} {T U T0 : String} {r1 r2 : Bool} {kk : _} {q1 q2 q3 : Pos} (hm : W.mg "isinstance" = none) (hx : W.mg x = none) (hy : W.mg y = none) (hv : bootBuiltins x = some (.type T)) (hw : bootBuiltins y = some (.type U)) (ha : PV G X Γ e (.d d) Γ1) (ht : tyD d = T0) (hk : kitB T0 T = some r1) (hk2 : kitB T0 U = some r2)
    (hg : ∀ j, Gl (X j) "isinstance" := by intro _; rfl) (hgx : ∀ j, Gl (X j) x := by intro _; rfl) (hgy : ∀ j, Gl (X j) y := by intro _; rfl)
    (hs : ∀ j, starEach [e, .Tuple [.Name x q1, .Name y q2] kk q3] (X j).env = (false, eval e (X j).env) :: starEach [.Tuple [.Name x q1, .Name y q2] kk q3] (X j).env := by intro _; rfl) (hs2 : ∀ j, starEach [.Tuple [.Name x q1, .Name y q2] kk q3] (X j).env = (false, eval (.Tuple [.Name x q1, .Name y q2] kk q3) (X j).env) :: starEach [] (X j).env := by intro _; rfl)
    (hs3 : ∀ j, starEach [.Name x q1, .Name y q2] (X j).env = (false, eval (.Name x q1) (X j).env) :: starEach [.Name y q2] (X j).env := by intro _; rfl) (hs4 : ∀ j, starEach [.Name y q2] (X j).env = (false, eval (.Name y q2) (X j).env) :: starEach [] (X j).env := by intro _; rfl)
    (hpl : ∀ i, (backTo pos (starEach [.Tuple [.Name x q1, .Name y q2] kk q3] (X i).env)).any (·.1) = false := by intro _; rfl) (hn : x ≠ "__name__" := by decide) (hd : (x == ("__debug__" : Str)) = false := by decide) (hn2 : y ≠ "__name__" := by decide) (hd2 : (y == ("__debug__" : Str)) = false := by decide) :
    PV G X Γ (.Call (.Name "isinstance" p) [e, .Tuple [.Name x q1, .Name y q2] kk q3] [] pos) (.d (.bool (r1 || r2))) Γ1 := by
  subst hG
  obtain ⟨u, u1, u2⟩ := ha
  refine ⟨tCB (rIsiT W.G.K) (tCons u (tCons (tTup (tCons (tC (.ty T)) (tCons (tC (.ty U)) tNil))) tNil)), fun j => by
    have z := pe_callB (p := p) (pos := pos) (call_isiT (X := X j)) (hg j) (by rw [C.mg j]; exact hm) PyProof.Rows.boot_isinstance (pa_cons (u1 j) (pa_cons (pe_tup (x1 := kk) (pos := q3) (pa_cons (pe_tyname (pos := q1) (hgx j) (by rw [C.mg j]; exact hx) hv hn hd) (pa_cons (pe_tyname (pos := q2) (hgy j) (by rw [C.mg j]; exact hy) hw hn2 hd2) pa_nil (hs4 j)) (hs3 j))) pa_nil (hs2 j)) (hs j)) (he := hs j) (hpl := hpl j)
    rw [C.K j] at z
    exact z, fun F σ H Hb E Q q => u2 F σ H Hb E _ fun v H' Hb' E' s' r' => ⟨(by show 2 ≤ sizeLine; decide), fun n hn => ?_⟩⟩
  have E2 := E'.new (o := .tup [.ty T, .ty U]) hn tok2
  have up := same_upd (E'.hbn hn) (o := .tup [.ty T, .ty U])
  refine ⟨v, n, _, .type (tyD d), [.type T, .type U], r1 || r2, rfl, upd_same, .cons (.ty T) (.cons (.ty U) .nil), dp_ty (dp_up E2.sub (dp_up up r')), ?_, q _ _ _ E2 (s'.trans up) (.bl _)⟩
  rw [ht]
  refine kitAny_cons (kit_ty hk) (fun h => ?_) (fun h => by rw [h]; rfl)
  rw [h, Bool.false_or]
  refine kitAny_cons (kit_ty hk2) (fun h => ?_) (fun h => h)
  rw [h]
  exact kitAny_nil
end

/-! ### methods of owned lists -/
section
variable {G : Gx} {W : Wd} {k : Nat} {X : Cx} {Γ Γ1 Γ2 Γ3 : List Sl} {a b e o : Expr} {pos p q apos cpos : Pos} {ds es : List PyData} {d : PyData} {x : Str}
theorem tyv_list {K : PySem.W.Frag} {a : Addr} {H : Hp} {vs : List V} (h : H a = some (.lst vs)) : tyV K "list" (.ref a) H := .inl ⟨rfl, vs, .of h⟩
theorem ow_lst {F H Hb : Hp} {σ : L2.St} {s : Nat} (E : EnvOk G F Γ σ H Hb) (h : Γ[s]? = some (.ow (.lst ds))) : ∃ a vs, σ[s]? = some (some (.ref a)) ∧ H a = some (.lst vs) ∧ DpAll G.K Hb vs ds := by
  obtain ⟨a, ho, e1, _, _, e4, e5⟩ := E.ow h
  cases ho <;> first | exact (e5 : False).elim | exact ⟨a, _, e1, e4, e5⟩
/-- xs.append(e) -/
theorem qs_app (C : Ctx W k (one X)) (hG : W.G = G) (s : Nat) (he : PV G (one X) Γ e (.d d) Γ1) (hz : ds.length < 100000) (h0 : ∃ ds0, Γ[s]? = some (.ow (.lst ds0)) := by exact ⟨_, rfl⟩) (h1 : Γ1[s]? = some (.ow (.lst ds)) := by rfl) (hN : X.N[s]? = some x := by rfl) (hv : Vis X.env.scope x := by first | exact Or.inl rfl | exact Or.inr (Or.inl rfl) | exact Or.inr (Or.inr rfl))
    (hd : (x == ("__debug__" : Str)) = false := by decide) (hcd : (x == ("__classdict__" : Str)) = false := by decide) (hbase : attributeBase (.Name x p) "append" X.env (eval (.Name x p) X.env) = eval (.Name x p) X.env := by rfl)
    (hfew : ((backTo cpos (starEach [e] X.env)).all (fun x => !x.1) && (backToKw cpos (keywordEach [] X.env)).all (fun x => x.1.isSome) && decide (([e] : List Expr).length + ([] : List Keyword).length + (if ([] : List Keyword).isEmpty then 0 else 1) < 30)) = true := by rfl)
    (hline : (apos.endLine == cpos.line) = true := by rfl) (hs : starEach [e] X.env = (false, eval e X.env) :: starEach [] X.env := by rfl) (hplain : (backTo cpos (starEach [] X.env)).any (·.1) = false := by rfl) (hsw : swapsWith (.Call (.Attribute (.Name x p) "append" apos) [e] [] cpos) none pos.line X.env = pure false := by rfl) :
    QS G X Γ (.Expr (.Call (.Attribute (.Name x p) "append" apos) [e] [] cpos) pos) (.nx (Γ1.set s (.ow (.lst (ds ++ [d]))))) := by
  subst hG
  obtain ⟨r, r1, r2⟩ := he
  refine ⟨tDrop (tBM W.G.K "list" rAppend (tVar s) (tCons r tNil)), ?_, fun F σ H Hb E D w => ?_⟩
  · have z := pe_bm (X := X) (cpos := cpos) (apos := apos) PySem.F.plainAttrs_list PySem.F.slot_list_append PySem.F.type_list_append (mt_append (X := X)) (pe_var (pos := p) hN hv hd hcd) (pa_cons (r1 ()) pa_nil hs) hbase hfew hline hs hplain
    rw [show X.K = W.G.K from C.K ()] at z
    exact ps_expr z hsw
  · obtain ⟨ds0, h0⟩ := h0
    obtain ⟨l, vs0, e1, e2, _⟩ := ow_lst E h0
    refine ⟨_, e1, tyv_list e2, r2 F σ H Hb E _ fun v H' Hb' E' s' r' => ?_⟩
    obtain ⟨l', vs, f1, f2, f3⟩ := ow_lst E' h1
    rw [e1] at f1
    cases f1
    refine ⟨l, vs, v, rfl, rfl, f2, by rw [dpAll_len f3]; exact Nat.lt_of_lt_of_le hz (by decide), ?_⟩
    exact w σ _ Hb' (E'.mut h1 e1 (dpAll_app f3 (.cons r' .nil))) s'
/-- xs.extend(e), e a new list -/
theorem qs_ext (C : Ctx W k (one X)) (hG : W.G = G) (s : Nat) (he : PF G (one X) Γ e (.lst es) Γ1) (hz : ds.length + es.length ≤ 100000) (h0 : ∃ ds0, Γ[s]? = some (.ow (.lst ds0)) := by exact ⟨_, rfl⟩) (h1 : Γ1[s]? = some (.ow (.lst ds)) := by rfl) (hN : X.N[s]? = some x := by rfl) (hv : Vis X.env.scope x := by first | exact Or.inl rfl | exact Or.inr (Or.inl rfl) | exact Or.inr (Or.inr rfl))
    (hd : (x == ("__debug__" : Str)) = false := by decide) (hcd : (x == ("__classdict__" : Str)) = false := by decide) (hbase : attributeBase (.Name x p) "extend" X.env (eval (.Name x p) X.env) = eval (.Name x p) X.env := by rfl)
    (hfew : ((backTo cpos (starEach [e] X.env)).all (fun x => !x.1) && (backToKw cpos (keywordEach [] X.env)).all (fun x => x.1.isSome) && decide (([e] : List Expr).length + ([] : List Keyword).length + (if ([] : List Keyword).isEmpty then 0 else 1) < 30)) = true := by rfl)
    (hline : (apos.endLine == cpos.line) = true := by rfl) (hs : starEach [e] X.env = (false, eval e X.env) :: starEach [] X.env := by rfl) (hplain : (backTo cpos (starEach [] X.env)).any (·.1) = false := by rfl) (hsw : swapsWith (.Call (.Attribute (.Name x p) "extend" apos) [e] [] cpos) none pos.line X.env = pure false := by rfl) :
    QS G X Γ (.Expr (.Call (.Attribute (.Name x p) "extend" apos) [e] [] cpos) pos) (.nx (Γ1.set s (.ow (.lst (ds ++ es))))) := by
  subst hG
  obtain ⟨r, r1, r2⟩ := he
  refine ⟨tDrop (tBM W.G.K "list" rExtend (tVar s) (tCons r tNil)), ?_, fun F σ H Hb E D w => ?_⟩
  · have z := pe_bm (X := X) (cpos := cpos) (apos := apos) PySem.F.plainAttrs_list PySem.F.slot_list_extend PySem.F.type_list_extend (mt_extend (X := X)) (pe_var (pos := p) hN hv hd hcd) (pa_cons (r1 ()) pa_nil hs) hbase hfew hline hs hplain
    rw [show X.K = W.G.K from C.K ()] at z
    exact ps_expr z hsw
  · obtain ⟨ds0, h0⟩ := h0
    obtain ⟨l, vs0, e1, e2, _⟩ := ow_lst E h0
    refine ⟨_, e1, tyv_list e2, r2 F σ H Hb E _ fun b ho H' Hb' E' s' g1 g2 g3 g4 g5 => ?_⟩
    obtain ⟨l', vs, f1, f2, f3⟩ := ow_lst E' h1
    rw [e1] at f1
    cases f1
    cases ho <;> first | exact (g2 : False).elim | skip
    rename_i zs
    refine ⟨l, b, vs, zs, rfl, rfl, f2, g1, by rw [dpAll_len f3, dpAll_len g2]; exact Nat.le_trans hz (by decide), ?_⟩
    exact w σ _ Hb' (E'.mut h1 e1 (dpAll_app f3 g2)) s'
end
section
variable {ι : Type} {G : Gx} {W : Wd} {k : Nat} {X : ι → Cx} {Γ Γ1 Γ2 Γ3 : List Sl} {a b e o : Expr} {pos p q apos cpos : Pos} {ds es : List PyData} {d : PyData} {x : Str}
/-- xs.pop() -/
theorem qv_pop (C : Ctx W k X) (hG : W.G = G) (s : Nat) (hl : ds[ds.length - 1]? = some d) (h1 : Γ[s]? = some (.ow (.lst ds)) := by rfl) (hN : ∀ j, (X j).N[s]? = some x := by intro _; rfl) (hv : ∀ j, Vis (X j).env.scope x := by intro _; first | exact Or.inl rfl | exact Or.inr (Or.inl rfl) | exact Or.inr (Or.inr rfl))
    (hd : (x == ("__debug__" : Str)) = false := by decide) (hcd : (x == ("__classdict__" : Str)) = false := by decide) (hbase : ∀ j, attributeBase (.Name x p) "pop" (X j).env (eval (.Name x p) (X j).env) = eval (.Name x p) (X j).env := by intro _; rfl) (hline : (apos.endLine == cpos.line) = true := by rfl) :
    PV G X Γ (.Call (.Attribute (.Name x p) "pop" apos) [] [] cpos) (.d d) (Γ.set s (.ow (.lst ds.dropLast))) := by
  subst hG
  refine ⟨tBM0 W.G.K "list" rPop (tVar s), fun j => by
    have z := pe_bm0 (X := X j) (cpos := cpos) (apos := apos) PySem.F.plainAttrs_list PySem.F.slot_list_pop PySem.F.type_list_pop (mt_pop (X := X j)) (pe_var (pos := p) (hN j) (hv j) hd hcd) (hbase j) hline
    rw [C.K j] at z
    exact z, fun F σ H Hb E Q q => ?_⟩
  obtain ⟨l, vs, e1, e2, e3⟩ := ow_lst E h1
  obtain ⟨v, h2, h3⟩ := dpAll_get e3 hl
  have hlen := dpAll_len e3
  refine ⟨_, e1, tyv_list e2, l, vs, v, rfl, rfl, e2, by rw [hlen]; exact h2, ?_⟩
  refine q v _ Hb (E.mut h1 e1 (ho := .lst vs.dropLast) ?_) (Same.refl _) h3
  show DpAll W.G.K Hb vs.dropLast ds.dropLast
  rw [List.dropLast_eq_take, List.dropLast_eq_take, hlen]
  exact dpAll_take _ e3
end
/-! ### several targets -/
/-- what waits to be stored -/
def ItOk (G : Gx) (F H Hb : Hp) (Γ : List Sl) (σ : L2.St) : List V → List Sl → Prop
  | [], [] => True
  | v :: vs, .fr t :: its => Rep G Hb v t ∧ ItOk G F H Hb Γ σ vs its
  | v :: vs, .ow o :: its => (∃ a ho, v = .ref a ∧ H a = some ho ∧ Hb a = none ∧ F a = none ∧ Not Γ σ a ∧ OwC G Hb a o ho ∧ ∀ (m : Nat) (o' : Ow), its[m]? = some (.ow o') → vs[m]? ≠ some (.ref a)) ∧ ItOk G F H Hb Γ σ vs its
  | _, _ => False
def EM (G : Gx) (r : TA) (Γ : List Sl) (its : List Sl) (Γ' : List Sl) : Prop := ∀ F σ H Hb, EnvOk G F Γ σ H Hb → ∀ Q : List V → Hp → Prop, (∀ vs H' Hb', EnvOk G F Γ' σ H' Hb' → Same Hb Hb' → ItOk G F H' Hb' Γ' σ vs its → Q vs H') → r σ H Q
def PM {ι : Type} (G : Gx) (X : ι → Cx) (Γ : List Sl) (es : List Expr) (its : List Sl) (Γ' : List Sl) : Prop := ∃ r, (∀ j, PA (X j) es r) ∧ EM G r Γ its Γ'
section
variable {ι : Type} {G : Gx} {W : Wd} {k : Nat} {X : ι → Cx} {Γ Γ1 Γ2 : List Sl} {e : Expr} {es : List Expr} {its : List Sl} {t : Tv} {w : Ow}
theorem itOk_len {F H Hb : Hp} {σ : L2.St} : ∀ {vs : List V} {its : List Sl}, ItOk G F H Hb Γ σ vs its → vs.length = its.length
  | [], [], _ => rfl
  | v :: vs, .fr t :: its, h => by rw [List.length_cons, List.length_cons, itOk_len h.2]
  | v :: vs, .ow o :: its, h => by rw [List.length_cons, List.length_cons, itOk_len h.2]
  | v :: vs, .no :: its, h => h.elim
  | [], _ :: _, h => h.elim
  | _ :: _, [], h => h.elim
theorem qm_nil : PM G X Γ [] [] Γ := ⟨_, fun _ => pa_nil, fun F σ H Hb E Q q => q [] H Hb E (Same.refl _) trivial⟩
theorem qm_fr (h : PV G X Γ e t Γ1) (h' : PM G X Γ1 es its Γ2) (hs : ∀ j, starEach (e :: es) (X j).env = (false, eval e (X j).env) :: starEach es (X j).env := by intro _; rfl) : PM G X Γ (e :: es) (.fr t :: its) Γ2 := by
  obtain ⟨r, h1, h2⟩ := h
  obtain ⟨u, u1, u2⟩ := h'
  exact ⟨_, fun j => pa_cons (h1 j) (u1 j) (hs j), fun F σ H Hb E Q q => h2 F σ H Hb E _ fun v H' Hb' E' s' r' => u2 F σ H' Hb' E' _ fun vs H2 Hb2 E2 s2 r2 => q _ H2 Hb2 E2 (s'.trans s2) ⟨rep_up s2 r', r2⟩⟩
theorem itOk_away {F H Hb : Hp} {σ : L2.St} {p : Addr} {o : HO} (E : EnvOk G (upd F p o) Γ σ H Hb) : ∀ {vs : List V} {its : List Sl}, ItOk G (upd F p o) H Hb Γ σ vs its → ItOk G F H Hb Γ σ vs its ∧ ∀ (m : Nat) (o' : Ow), its[m]? = some (.ow o') → vs[m]? ≠ some (.ref p)
  | [], [], _ => ⟨trivial, fun m o' h => by simp at h⟩
  | v :: vs, .fr t :: its, h => by
    obtain ⟨h1, h2⟩ := itOk_away E h.2
    refine ⟨⟨h.1, h1⟩, fun m o' hm => ?_⟩
    cases m with
    | zero => simp at hm
    | succ m => simp only [List.getElem?_cons_succ] at hm ⊢; exact h2 m o' hm
  | v :: vs, .ow w :: its, h => by
    obtain ⟨⟨a, ho, rfl, g1, g2, g3, g4, g5, g6⟩, h0⟩ := h
    obtain ⟨h1, h2⟩ := itOk_away E h0
    have na : a ≠ p := fun z => by subst z; rw [upd_same] at g3; cases g3
    refine ⟨⟨⟨a, ho, rfl, g1, g2, by rw [upd_ne na] at g3; exact g3, g4, g5, g6⟩, h1⟩, fun m o' hm => ?_⟩
    cases m with
    | zero => simp only [List.getElem?_cons_zero]; intro z; cases z; exact na rfl
    | succ m => simp only [List.getElem?_cons_succ] at hm ⊢; exact h2 m o' hm
  | v :: vs, .no :: its, h => h.elim
  | [], _ :: _, h => h.elim
  | _ :: _, [], h => h.elim
theorem qm_ow (h : PF G X Γ e w Γ1) (h' : PM G X Γ1 es its Γ2) (hs : ∀ j, starEach (e :: es) (X j).env = (false, eval e (X j).env) :: starEach es (X j).env := by intro _; rfl) : PM G X Γ (e :: es) (.ow w :: its) Γ2 := by
  obtain ⟨r, h1, h2⟩ := h
  obtain ⟨u, u1, u2⟩ := h'
  refine ⟨_, fun j => pa_cons (h1 j) (u1 j) (hs j), fun F σ H Hb E Q q => h2 F σ H Hb E _ fun a ho H' Hb' E' s' g1 g2 g3 g4 g5 => u2 (upd F a ho) σ H' Hb' (E'.frame g1 g4 g5) _ fun vs H2 Hb2 E2 s2 r2 => ?_⟩
  obtain ⟨E3, f1, f2, f3⟩ := E2.unframe g3
  obtain ⟨i1, i2⟩ := itOk_away E2 r2
  exact q _ H2 Hb2 E3 (s'.trans s2) ⟨⟨a, ho, rfl, f1, f2, g3, f3, owc_up s2 g2, i2⟩, i1⟩
/-- slots filled one behind another -/
def setAll {α : Type} : List α → List Nat → List α → List α
  | l, j :: js, x :: xs => setAll (l.set j x) js xs
  | l, _, _ => l
theorem itOk_set {F H Hb : Hp} : ∀ {vs : List V} {its : List Sl} {js : List Nat} {Γ : List Sl} {σ : L2.St}, EnvOk G F Γ σ H Hb → ItOk G F H Hb Γ σ vs its → js.length = its.length → EnvOk G F (setAll Γ js its) (setAll σ js (vs.map some)) H Hb
  | [], [], [], _, _, E, _, _ => E
  | v :: vs, .fr t :: its, j :: js, Γ, σ, E, h, hl => by
    have E2 := E.set (i := j) h.1
    refine itOk_set (vs := vs) (its := its) (js := js) E2 ?_ (by simpa using hl)
    have mv : ∀ {vs : List V} {its : List Sl}, ItOk G F H Hb Γ σ vs its → ItOk G F H Hb (Γ.set j (.fr t)) (σ.set j (some v)) vs its := by
      intro vs
      induction vs with
      | nil => intro its h; cases its with
        | nil => trivial
        | cons _ _ => exact h.elim
      | cons y ys ih => intro its h; cases its with
        | nil => exact h.elim
        | cons s its => cases s with
          | no => exact h.elim
          | fr t' => exact ⟨h.1, ih h.2⟩
          | ow o =>
            obtain ⟨⟨a, ho, e1, g1, g2, g3, g4, g5, g6⟩, h0⟩ := h
            refine ⟨⟨a, ho, e1, g1, g2, g3, fun m o' hm => ?_, g5, g6⟩, ih h0⟩
            rcases get_set hm with ⟨_, z⟩ | ⟨n, hm⟩
            · cases z
            · rw [List.getElem?_set_ne (Ne.symm n)]; exact g4 m o' hm
    exact mv h.2
  | v :: vs, .ow w :: its, j :: js, Γ, σ, E, h, hl => by
    obtain ⟨⟨a, ho, rfl, g1, g2, g3, g4, g5, g6⟩, h0⟩ := h
    have E2 := E.own (i := j) g1 g2 g3 g4 g5
    refine itOk_set (vs := vs) (its := its) (js := js) E2 ?_ (by simpa using hl)
    have mv : ∀ {vs : List V} {its : List Sl}, (∀ (m : Nat) (o' : Ow), its[m]? = some (.ow o') → vs[m]? ≠ some (.ref a)) → ItOk G F H Hb Γ σ vs its → ItOk G F H Hb (Γ.set j (.ow w)) (σ.set j (some (.ref a))) vs its := by
      intro vs
      induction vs with
      | nil => intro its _ h; cases its with
        | nil => trivial
        | cons _ _ => exact h.elim
      | cons y ys ih => intro its ha h; cases its with
        | nil => exact h.elim
        | cons s its =>
          have ha' : ∀ (m : Nat) (o' : Ow), its[m]? = some (.ow o') → ys[m]? ≠ some (.ref a) := fun m o' hm => by
            have z := ha (m + 1) o' (by simpa using hm)
            simpa using z
          cases s with
          | no => exact h.elim
          | fr t' => exact ⟨h.1, ih ha' h.2⟩
          | ow o =>
            obtain ⟨⟨b, hb, e1, f1, f2, f3, f4, f5, f6⟩, h0⟩ := h
            have nb : b ≠ a := fun z => by
              subst z
              exact ha 0 o (by simp) (by simp [e1])
            refine ⟨⟨b, hb, e1, f1, f2, f3, fun m o' hm => ?_, f5, f6⟩, ih ha' h0⟩
            rcases get_set hm with ⟨z, _⟩ | ⟨n, hm⟩
            · subst z
              have hlt : m < Γ.length := by
                have q := (List.getElem?_eq_some_iff.mp hm).1
                simpa using q
              rw [get_set_lt (by rw [← E.len]; exact hlt)]
              intro z
              cases z
              exact nb rfl
            · rw [List.getElem?_set_ne (Ne.symm n)]; exact f4 m o' hm
    exact mv g6 h0
  | v :: vs, .no :: its, _, _, _, _, h, _ => h.elim
  | [], _ :: _, _, _, _, _, h, _ => h.elim
  | _ :: _, [], _, _, _, _, h, _ => h.elim
  | [], [], _ :: _, _, _, _, _, hl => by simp at hl
  | _ :: _, _ :: _, [], _, _, _, _, hl => by simp at hl
end
section
variable {G : Gx} {W : Wd} {k : Nat} {X : Cx} {Γ Γ1 Γ2 : List Sl} {a b : Expr} {es : List Expr} {its : List Sl} {pos px py pt pt2 : Pos} {kt k2 : _} {x y : Str} {s1 s2 : Sl}
/-- x, y = a, b: plain local names on one row -/
theorem qs_par (C : Ctx W k (one X)) (i j : Nat) (ha : PM G (one X) Γ [a, b] [s1, s2] Γ1) (hij : i ≠ j := by decide) (hi : X.N[i]? = some x := by rfl) (hj : X.N[j]? = some y := by rfl) (hx : X.env.scope.names.lookup x = some .local := by rfl) (hy : X.env.scope.names.lookup y = some .local := by rfl)
    (hw : swappedStores [.Tuple [.Name x px, .Name y py] kt pt] (.Tuple [a, b] k2 pt2) X.env = pure (some [x, y]) := by rfl) (hs : swapsWithSole [.Tuple [.Name x px, .Name y py] kt pt] (.Tuple [a, b] k2 pt2) pos.line X.env = pure false := by rfl) :
    QS G X Γ (.Assign [.Tuple [.Name x px, .Name y py] kt pt] (.Tuple [a, b] k2 pt2) pos) (.nx ((Γ1.set i s1).set j s2)) := by
  obtain ⟨r, r1, r2⟩ := ha
  refine ⟨tPar i j r, ps_par (C.calm ()) (C.nd ()) hi hj hij hx hy (r1 ()) hw hs, fun F σ H Hb E D w => r2 F σ H Hb E _ fun vs H' Hb' E' s' it => ?_⟩
  have hl := itOk_len it
  match vs, hl with
  | [v, u], _ => exact ⟨v, u, rfl, w _ H' Hb' (itOk_set (js := [i, j]) E' it rfl) s'⟩
/-- x, y, .. = a, b, ..: a tuple is made and taken apart -/
def gNames : List Nat → TGs
  | [] => gNil
  | j :: js => gCons (gName j) (gNames js)
theorem gNames_set : ∀ {js : List Nat} {vs : List V} {σ : L2.St} {H : Hp} {Q : L2.St → Hp → Prop}, js.length = vs.length → Q (setAll σ js (vs.map some)) H → gNames js vs σ H Q
  | [], [], _, _, _, _, q => ⟨rfl, q⟩
  | j :: js, v :: vs, σ, H, Q, hl, q => ⟨v, vs, rfl, gNames_set (js := js) (vs := vs) (by simpa using hl) q⟩
  | [], _ :: _, _, _, _, hl, _ => by simp at hl
  | _ :: _, [], _, _, _, hl, _ => by simp at hl
theorem qs_tupm (C : Ctx W k (one X)) (hG : W.G = G) {tgs : List Expr} (js : List Nat) (ha : PM G (one X) Γ es its Γ1) (hg : PGs X tgs (gNames js)) (hl : js.length = its.length := by rfl) (hz : its.length ≤ 1000 := by exact Nat.le_of_ble_eq_true rfl)
    (hn : (assignEach tgs X.env).length = js.length := by rfl) (hst : (assignEach tgs X.env).findIdx? (·.1) = none := by rfl) (hs : swapsWithSole [.Tuple tgs kt pt] (.Tuple es k2 pt2) pos.line X.env = pure false := by rfl) (hw : swappedStores [.Tuple tgs kt pt] (.Tuple es k2 pt2) X.env = pure none := by rfl)
    (h1 : (assignEach [.Tuple tgs kt pt] X.env).map (·.2) = [assign (.Tuple tgs kt pt) X.env] := by rfl) : QS G X Γ (.Assign [.Tuple tgs kt pt] (.Tuple es k2 pt2) pos) (.nx (setAll Γ1 js its)) := by
  subst hG
  obtain ⟨r, r1, r2⟩ := ha
  refine ⟨tAsg (tTup r) (gTup W.G.K js.length (gNames js)), ?_, fun F σ H Hb E D w => r2 F σ H Hb E _ fun vs H' Hb' E' s' it => ?_⟩
  · have z := pg_tup (k := kt) (pos := pt) (C.calm ()) hg hn hst
    rw [show X.K = W.G.K from C.K ()] at z
    exact ps_asg (pe_tup (r1 ())) z hs hw h1
  · have hvl := itOk_len it
    refine ⟨by rw [hvl]; exact Nat.le_trans hz (by decide), fun n hn => ⟨n, vs, rfl, .of upd_same, by rw [hvl, hl], gNames_set (by rw [hl, hvl]) ?_⟩⟩
    have E2 : EnvOk W.G F Γ1 σ (upd H' n (.tup vs)) Hb' := E'.lay hn
    have it2 : ItOk W.G F (upd H' n (.tup vs)) Hb' Γ1 σ vs its := by
      have mv : ∀ {ws : List V} {js : List Sl}, ItOk W.G F H' Hb' Γ1 σ ws js → ItOk W.G F (upd H' n (.tup vs)) Hb' Γ1 σ ws js := by
        intro ws
        induction ws with
        | nil => intro js h; cases js with
          | nil => trivial
          | cons _ _ => exact h.elim
        | cons y ys ih => intro js h; cases js with
          | nil => exact h.elim
          | cons s js => cases s with
            | no => exact h.elim
            | fr t' => exact ⟨h.1, ih h.2⟩
            | ow o =>
              obtain ⟨⟨a, ho, e1, g1, g2, g3, g4, g5, g6⟩, h0⟩ := h
              exact ⟨⟨a, ho, e1, same_upd hn _ _ g1, g2, g3, g4, g5, g6⟩, ih h0⟩
      exact mv it
    exact w _ _ Hb' (itOk_set E2 it2 hl) s'
end
end Lk
set_option Elab.async false
set_option linter.all false
set_option maxRecDepth 100000
set_option maxHeartbeats 2000000
/-! T7: sorted, of data. -/
namespace Lk
open PySem PySem.Spec PyProof.Rows L2
open PySem.W (EachIs AllAlike Sortable dataLe dataLt alike alikeAll sorted_data)
/-- values that stand for data -/
theorem each_of_dp {K : PySem.W.Frag} {H : Hp} : ∀ {vs : List V} {us : List Value} {ds : List PyData}, Vals vs us → DpAll K H vs ds → EachIs (fun (u : Value) (d : PyData) => ∃ v, RelV v u ∧ Dp K H v d) us ds
  | _, _, _, r, .nil => by cases r; exact .nil
  | _, _, _, r, .cons h hs => by
    cases r with
    | cons r1 r2 => exact .cons ⟨_, r1, h⟩ (each_of_dp r2 hs)
theorem dp_of_each {K : PySem.W.Frag} {H : Hp} : ∀ {us : List Value} {ds : List PyData}, EachIs (fun (u : Value) (d : PyData) => ∃ v, RelV v u ∧ Dp K H v d) us ds → ∃ vs, Vals vs us ∧ DpAll K H vs ds
  | _, _, .nil => ⟨[], .nil, .nil⟩
  | _, _, .cons ⟨v, h1, h2⟩ t => by
    obtain ⟨vs, h3, h4⟩ := dp_of_each t
    exact ⟨v :: vs, .cons h1 h3, .cons h2 h4⟩
theorem each_reads {X : Cx} {pins : List (Addr × Obj)} {σ : L2.St} {H : Hp} {s : Shared} (I : Inv X pins σ H s) {us : List Value} {ds : List PyData} (e : EachIs (fun (u : Value) (d : PyData) => ∃ v, RelV v u ∧ Dp X.K H v d) us ds) : EachIs (fun u d => ∃ as, Reads s.heap u d as) us ds :=
  e.mono fun u d ⟨v, h1, h2⟩ => Dp.reads I d v u h2 h1
def rSortD (K : PySem.W.Frag) : List V → Hp → VK → Prop := fun xs H Q => ∃ (Hb : Hp) (a : Addr) (vs : List V) (ds : List PyData), Same Hb H ∧ xs = [.ref a] ∧ SqL K H a vs ∧ DpAll K Hb vs ds ∧ AllAlike ds ∧ Sortable ds ∧ (∀ d ∈ ds, d.depth ≤ 8) ∧
  ∀ (ws : List V) (p : Addr), DpAll K Hb ws (ds.mergeSort (dataLe false id)) → H p = none → Q (.ref p) (upd H p (.lst ws))
theorem cr_sortedD {X : Cx} (hu : X.A.units + 65 < cLine) : CallR X (.builtin "sorted") (rSortD X.K) := by
  intro pins s σ H xs us Q I r h
  obtain ⟨Hb, a, vs, ds, hsm, rfl, hs, hd, hal, hso, hdp, q⟩ := h
  obtain ⟨its, rv, hl, hz⟩ := I.list hs
  obtain rfl := Vals.ref1 r
  have e := each_of_dp rv hd
  have hlen : ds.length ≤ sizeLine := by
    have h1 := dpAll_len hd
    omega
  refine sorted_data (enc := id) hl.isList e (each_reads I (e.mono fun u d ⟨v, h1, h2⟩ => ⟨v, h1, dp_up hsm h2⟩)) (by rw [List.map_id]; exact hal) (by rw [List.map_id]; exact hso) hlen (fun b hb => by have z := hdp b hb; show X.A.units + 2 + b.depth < cLine; omega) fun out ho eo => ?_
  obtain ⟨ws, h1, h2⟩ := dp_of_each eo
  obtain ⟨ep, he'⟩ := PyProof.Rows.sortedAll_at s.heap its out.toArray
  exact ⟨.ref _, upd H (s.heap.objs.size + 1) (.lst ws), I.laid (t' := s.toks) (fun _ _ => PyProof.Rows.sortedAll_old) (Nat.le_succ _) ⟨by rw [h1.length, ho]; exact hlen, out, ep, h1, he'⟩, rfl, q ws _ h2 (I.hok.fresh (Nat.le_succ _))⟩
section
variable {ι : Type} {G : Gx} {W : Wd} {k : Nat} {X : ι → Cx} {Γ Γ1 Γ2 : List Sl} {e : Expr} {p pos : Pos} {ds : List PyData}
/-- sorted(e) -/
theorem qf_sorted (C : Ctx W k X) (hG : W.G = G) (hm : W.mg "sorted" = none) (ha : PV G X Γ e (.d (.list ds)) Γ1) (hal : AllAlike ds) (hso : Sortable ds) (hd : ∀ d ∈ ds, d.depth ≤ 8) (hg : ∀ j, Gl (X j) "sorted" := by intro _; rfl) (hs : ∀ j, starEach [e] (X j).env = (false, eval e (X j).env) :: starEach [] (X j).env := by intro _; rfl) : PF G X Γ (.Call (.Name "sorted" p) [e] [] pos) (.lst (ds.mergeSort (dataLe false id))) Γ1 := by
  subst hG
  refine qf_callB C (r := rSortD W.G.K) (fun j => by have h := cr_sortedD (X := X j) (room65 C j); rw [C.K j] at h; exact h) hm PyProof.Rows.boot_sorted (ql_cons ha ql_nil hs) (fun F σ H Hb vs E hr Q q => ?_) hg (hpl := fun _ => rfl) (he := hs)
  obtain ⟨v, rfl, hv⟩ := rep1 hr
  obtain ⟨x, ws, rfl, h1, h2⟩ := dp_lst hv
  exact ⟨Hb, x, ws, ds, E.sub, rfl, seqL_up E.sub h1, h2, hal, hso, hd, fun zs l hz hl => q l _ hl hz⟩
end
end Lk
set_option Elab.async false
set_option linter.all false
set_option maxRecDepth 100000
set_option maxHeartbeats 2000000
/-! T8: the list of two ints that goes from def to def. -/
namespace Lk
open PySem PySem.Spec PyProof.Rows L2
def spP (G : Gx) (R : Int × Int → List Tv → Tv → Int × Int → Prop) : Sp := fun vs H Q _ => ∃ (a : Addr) (vs' : List V) (Hb : Hp) (ts : List Tv) (t : Tv) (p p' : Int × Int), vs = .ref a :: vs' ∧ H a = some (.lst [.int p.1, .int p.2]) ∧ Hb a = none ∧ TOk Hb ∧ Same Hb H ∧ RepL G Hb vs' ts ∧ R p ts t p' ∧
  ∀ H' Hb' v, TOk Hb' → H' a = some (.lst [.int p'.1, .int p'.2]) → Hb' a = none → (∀ b o, b ≠ a → H b = some o → H' b = some o) → Same Hb Hb' → Same Hb' H' → (∀ b, b ≠ a → H b ≠ none → Hb b = none → Hb' b = none) → Rep G Hb' v t → Q v H'
def DefOkP (W : Wd) (k : Nat) (x : Str) (ps : List Str) (R : Int × Int → List Tv → Tv → Int × Int → Prop) : Prop := ∃ f fd, W.mg x = some (.ref f) ∧ PySem.W.keepIn W.G.K (.ref f) = true ∧ Binds W.G.K fd ps [] ∧ FnOk W.P W.w W.G.K W.mg W.base CX0 k f fd ps (spP W.G R)
theorem DefOkP.mono {W : Wd} {j k : Nat} {x : Str} {ps : List Str} {R : Int × Int → List Tv → Tv → Int × Int → Prop} (h : DefOkP W j x ps R) (l : j ≤ k) : DefOkP W k x ps R := by
  obtain ⟨f, fd, a, b, c, d⟩ := h
  exact ⟨f, fd, a, b, c, d.mono l⟩
def startGP (N : List Str) (a : Addr) (p : Int × Int) (ts : List Tv) : List Sl := (startG N (.any :: ts)).set 0 (.ow (.pot a p.1 p.2))
open Classical in
theorem env_startP {G : Gx} {H Hb : Hp} {N : List Str} {a : Addr} {p : Int × Int} {vs : List V} {ts : List Tv} (htp : TOk Hb) (hs : Same Hb H) (hr : RepL G Hb vs ts) (ha : H a = some (.lst [.int p.1, .int p.2])) (hb : Hb a = none) :
    ∃ F : Hp, EnvOk G F (startGP N a p ts) (L2.start N (.ref a :: vs)) H Hb ∧ F a = none ∧ ∀ b, b ≠ a → Hb b = none → F b = H b := by
  have E := env_start (N := N) htp hs (show RepL G Hb (.ref a :: vs) (.any :: ts) from .cons ⟨a, rfl⟩ hr)
  let F : Hp := fun b => if b = a then none else if Hb b = none then H b else none
  have e : (fun b => if Hb b = none then H b else none) = upd F a (.lst [.int p.1, .int p.2]) := by
    funext b
    by_cases q : b = a
    · subst q
      rw [upd_same]
      show (if Hb b = none then H b else none) = _
      rw [if_pos hb, ha]
    · rw [upd_ne q]
      show _ = (if b = a then none else if Hb b = none then H b else none)
      rw [if_neg q]
  rw [e] at E
  have hf : F a = none := by show (if a = a then none else _) = _; rw [if_pos rfl]
  obtain ⟨E1, h1, h2, h3⟩ := E.unframe hf
  have E2 := E1.own (i := 0) (o := .pot a p.1 p.2) h1 h2 hf h3 ⟨rfl, rfl⟩
  refine ⟨F, ?_, hf, fun b hb' hn => ?_⟩
  · have es : (L2.start N (.ref a :: vs)).set 0 (some (.ref a)) = L2.start N (.ref a :: vs) := rfl
    rw [es] at E2
    exact E2
  · show (if b = a then none else if Hb b = none then H b else none) = _
    rw [if_neg hb', if_pos hn]
/-- THE RULE for a def whose first argument is the pot -/
theorem defP_ok {W : Wd} {x : Str} {st : Stmt} {N ps : List Str} {k : Nat} (R : Int × Int → List Tv → Tv → Int × Int → Prop) (T : DefT W x st) (S : FnScope N ps (defScope st)) (hlen : ∀ p ts t p', R p ts t p' → ts.length + 1 = ps.length)
    (hbind : ∀ (kV doc pm : Value) (an : Option Addr) (cdv ct : Value) (us : List Value), us.length = ps.length → bindArgs (PySem.W.fnOf x x (defArgs st) (defBody st) (defScope st) .none kV doc pm an cdv ct) ⟨us, []⟩ = pure (ps.zip us))
    (hbody : ∀ (f : Addr) (cdv : Value) (A : Around) (outer : List Env) (s : Shared) (H : Hp) (E : XK), Ctx W k (one (cx W N x (defScope st) f cdv A outer s H E)) → ∀ a p ts t p', R p ts t p' → QB W.G (cx W N x (defScope st) f cdv A outer s H E) (startGP N a p ts) (defBody st) (.rto t 0 (.pot a p'.1 p'.2))) : DefOkP W (k + 1) x ps R := by
  obtain ⟨f, fd, hm, F⟩ := T.ex
  refine ⟨f, fd, hm, F.kp, F.bindsN hbind, F.ok S (fun vs H Q E h => ?_) (fun cdv A outer s H vs Q E hr h => ?_)⟩
  · obtain ⟨a, vs', Hb, ts, t, p, p', rfl, _, _, _, _, h1, h2, _⟩ := h
    rw [List.length_cons, Paired.length h1]
    exact hlen p ts t p' h2
  · obtain ⟨a, vs', Hb, ts, t, p, p', rfl, ha, hb, h0, h1, h2, h3, q⟩ := h
    have C : Ctx W k (one (cx W N x (defScope st) f cdv A outer s H E)) := ⟨fun _ => rfl, fun _ => rfl, fun _ => rfl, fun _ => rfl, fun _ => rfl, fun _ => rfl, fun _ => S.nd, fun _ => hr⟩
    obtain ⟨r, r1, r2⟩ := hbody f cdv A outer s H E C a p ts t p' h3
    obtain ⟨F', E0, f1, f2⟩ := env_startP (N := N) h0 h1 h2 ha hb
    refine ⟨r, PSs.nox r1, r2 _ _ _ _ E0 _ fun v σ' Γ' H' Hb' E' g' s' r' => ?_⟩
    obtain ⟨b, ho, e1, e2, e3, e4, e5⟩ := E'.ow g'
    cases ho <;> first | exact (e5 : False).elim | skip
    obtain ⟨rfl, rfl⟩ := e5
    refine q H' Hb' v E'.tp e4 e3 (fun b o hb' e => ?_) s' E'.sub (fun b hb' hb2 hn => ?_) r'
    · cases z : Hb b with
      | none => exact (E'.frm b o (by rw [f2 b hb' z]; exact e)).1
      | some u =>
        have e3 := h1 b u z
        rw [e] at e3
        cases e3
        exact E'.sub b o (s' b o z)
    · cases e : H b with
      | none => exact absurd e hb2
      | some o => exact (E'.frm b o (by rw [f2 b hb' hn]; exact e)).2
section
variable {ι : Type} {W : Wd} {G : Gx} {k j : Nat} {X : ι → Cx} {Γ Γ1 : List Sl} {x y : Str} {ps : List Str} {R : Int × Int → List Tv → Tv → Int × Int → Prop} {b e : Expr} {es : List Expr} {p pp pos : Pos} {ts : List Tv} {t : Tv} {a : Addr} {w w' : Int × Int}
theorem ow_pot {F H Hb : Hp} {σ : L2.St} {s : Nat} {m n : Int} (E : EnvOk G F Γ σ H Hb) (h : Γ[s]? = some (.ow (.pot a m n))) : σ[s]? = some (some (.ref a)) ∧ H a = some (.lst [.int m, .int n]) ∧ Hb a = none ∧ F a = none := by
  obtain ⟨a', ho, e1, e2, e3, e4, e5⟩ := E.ow h
  cases ho <;> first | exact (e5 : False).elim | skip
  obtain ⟨rfl, rfl⟩ := e5
  exact ⟨e1, e4, e3, e2⟩
/-- f(pot, e, ..) -/
theorem qv_callP (C : Ctx W k X) (hG : W.G = G) (d : DefOkP W j x ps R) (s : Nat) (ha : PL G X Γ es ts Γ1) (hr : R w ts t w') (hj : j ≤ k := by decide) (h0 : ∃ m n, Γ[s]? = some (.ow (.pot a m n)) := by exact ⟨_, _, rfl⟩) (h1 : Γ1[s]? = some (.ow (.pot a w.1 w.2)) := by rfl)
    (hN : ∀ j, (X j).N[s]? = some y := by intro _; rfl) (hv : ∀ j, Vis (X j).env.scope y := by intro _; first | exact Or.inl rfl | exact Or.inr (Or.inl rfl) | exact Or.inr (Or.inr rfl)) (hd : (y == ("__debug__" : Str)) = false := by decide) (hcd : (y == ("__classdict__" : Str)) = false := by decide)
    (hg : ∀ i, Gl (X i) x := by intro _; rfl) (hdb : (x == ("__debug__" : Str)) = false := by decide) (he : ∀ i, starEach (.Name y pp :: es) (X i).env = (false, eval (.Name y pp) (X i).env) :: starEach es (X i).env := by intro _; rfl) (hpl : ∀ i, (backTo pos (starEach es (X i).env)).any (·.1) = false := by intro _; rfl) :
    PV G X Γ (.Call (.Name x p) (.Name y pp :: es) [] pos) t (Γ1.set s (.ow (.pot a w'.1 w'.2))) := by
  subst hG
  obtain ⟨f, fd, hm, hk, hb, F⟩ := d
  obtain ⟨u, u1, u2⟩ := ha
  refine ⟨tCall (spP W.G R) [] E0 (tCons (tVar s) u), fun i => ?_, fun F' σ H Hb E Q q => ?_⟩
  · have F2 : FnOk (X i).prog (X i).w (X i).K (X i).mg (X i).base CX0 j f fd ps (spP W.G R) := by
      rw [C.prog i, C.w i, C.K i, C.mg i, C.base i]
      exact F
    exact pe_call F2 ((C.room i).mono hj) (hg i) (by rw [C.mg i]; exact hm) (by rw [C.K i]; exact hk) (by rw [C.K i]; exact hb) .nil pass0 (pa_cons (pe_var (hN i) (hv i) hd hcd) (u1 i) (he i)) hdb (he i) (hpl i)
  · obtain ⟨m, n, h0⟩ := h0
    refine ⟨_, (ow_pot E h0).1, u2 F' σ H Hb E _ fun vs H1 Hb1 E1 s1 r1 => ?_⟩
    obtain ⟨g1, g2, g3, g4⟩ := ow_pot E1 h1
    show spP W.G R (.ref a :: (vs ++ [])) H1 Q E0
    rw [List.append_nil]
    refine ⟨a, vs, Hb1, ts, t, w, w', rfl, g2, g3, E1.tp, E1.sub, r1, hr, fun H' Hb' v a000 a0 a00 a1 a2 a3 a4 a5 => q v H' Hb' ?_ (s1.trans a2) a5⟩
    refine ⟨by rw [List.length_set]; exact E1.len, a3, fun b o e => ?_, fun i sl hs => ?_, fun i i' o o' x hi hi' h2 h3 => ?_, a000⟩
    · have nb : b ≠ a := fun z => by subst z; rw [g4] at e; cases e
      exact ⟨a1 _ _ nb (E1.frm b o e).1, a4 b nb (by rw [(E1.frm b o e).1]; intro z; cases z) (E1.frm b o e).2⟩
    · rcases get_set hs with ⟨rfl, rfl⟩ | ⟨hi, hs2⟩
      · exact ⟨a, _, g1, g4, a00, a0, rfl, rfl⟩
      · clear hs
        have z := E1.sl i sl hs2
        cases sl with
        | no => exact z
        | fr t' =>
          obtain ⟨v', e1, e2⟩ := z
          exact ⟨v', e1, rep_up a2 e2⟩
        | ow o =>
          obtain ⟨b, ho, e1, e2, e3, e4, e5⟩ := z
          have nb : b ≠ a := fun z => by subst z; exact hi (E1.ap i s o _ b hs2 h1 e1 g1)
          exact ⟨b, ho, e1, e2, a4 b nb (by rw [e4]; intro z; cases z) e3, a1 _ _ nb e4, owc_up a2 e5⟩
    · have back : ∀ {i : Nat} {o : Ow}, (Γ1.set s (.ow (.pot a w'.1 w'.2)))[i]? = some (.ow o) → ∃ o2, Γ1[i]? = some (.ow o2) := fun {i o} h => by
        rcases get_set h with ⟨rfl, _⟩ | ⟨_, h⟩
        · exact ⟨_, h1⟩
        · exact ⟨o, h⟩
      obtain ⟨o1, k1⟩ := back hi
      obtain ⟨o2, k2⟩ := back hi'
      exact E1.ap i i' o1 o2 x k1 k2 h2 h3
/-- f(e, ..), e a new list of two ints -/
theorem qv_callPF (C : Ctx W k X) (hG : W.G = G) (d : DefOkP W j x ps R) (he0 : PF G X Γ e (.lst [.int w.1, .int w.2]) Γ1) (hr : R w [] t w') (hj : j ≤ k := by decide)
    (hg : ∀ i, Gl (X i) x := by intro _; rfl) (hdb : (x == ("__debug__" : Str)) = false := by decide) (he : ∀ i, starEach [e] (X i).env = (false, eval e (X i).env) :: starEach [] (X i).env := by intro _; rfl) (hpl : ∀ i, (backTo pos (starEach [] (X i).env)).any (·.1) = false := by intro _; rfl) :
    PV G X Γ (.Call (.Name x p) [e] [] pos) t Γ1 := by
  subst hG
  obtain ⟨f, fd, hm, hk, hb, F⟩ := d
  obtain ⟨u, u1, u2⟩ := he0
  refine ⟨tCall (spP W.G R) [] E0 (tCons u tNil), fun i => ?_, fun F' σ H Hb E Q q => ?_⟩
  · have F2 : FnOk (X i).prog (X i).w (X i).K (X i).mg (X i).base CX0 j f fd ps (spP W.G R) := by
      rw [C.prog i, C.w i, C.K i, C.mg i, C.base i]
      exact F
    exact pe_call F2 ((C.room i).mono hj) (hg i) (by rw [C.mg i]; exact hm) (by rw [C.K i]; exact hk) (by rw [C.K i]; exact hb) .nil pass0 (pa_cons (u1 i) pa_nil (he i)) hdb (he i) (hpl i)
  · refine u2 F' σ H Hb E _ fun a ho H1 Hb1 E1 s1 g2 g5 g4 g3 gn => ?_
    cases ho <;> first | exact (g5 : False).elim | skip
    rename_i vs
    have hvs : vs = [.int w.1, .int w.2] := dpAll_ints (ns := [w.1, w.2]) g5
    subst hvs
    show spP W.G R [.ref a] H1 Q E0
    refine ⟨a, [], Hb1, [], t, w, w', rfl, g2, g3, E1.tp, E1.sub, .nil, hr, fun H' Hb' v a000 a0 a00 a1 a2 a3 a4 a5 => q v H' Hb' ?_ (s1.trans a2) a5⟩
    refine ⟨E1.len, a3, fun b o e => ?_, fun i sl hs => ?_, E1.ap, a000⟩
    · have nb : b ≠ a := fun z => by subst z; rw [g4] at e; cases e
      exact ⟨a1 _ _ nb (E1.frm b o e).1, a4 b nb (by rw [(E1.frm b o e).1]; intro z; cases z) (E1.frm b o e).2⟩
    · have z := E1.sl i sl hs
      cases sl with
      | no => exact z
      | fr t' =>
        obtain ⟨v', e1, e2⟩ := z
        exact ⟨v', e1, rep_up a2 e2⟩
      | ow o =>
        obtain ⟨b, ho, e1, e2, e3, e4, e5⟩ := z
        have nb : b ≠ a := fun z => by subst z; exact gn i o hs e1
        exact ⟨b, ho, e1, e2, a4 b nb (by rw [e4]; intro z; cases z) e3, a1 _ _ nb e4, owc_up a2 e5⟩
/-- pot[0], pot[1] -/
theorem qv_ixP (C : Ctx W k X) (hG : W.G = G) (s : Nat) {i m n z : Int} (hb : PV G X Γ b (.d (.int i)) Γ) (hi : atI [m, n] i = some z) (h1 : Γ[s]? = some (.ow (.pot a m n)) := by rfl) (hN : ∀ j, (X j).N[s]? = some y := by intro _; rfl)
    (hv : ∀ j, Vis (X j).env.scope y := by intro _; first | exact Or.inl rfl | exact Or.inr (Or.inl rfl) | exact Or.inr (Or.inr rfl)) (hs : PlainIx b := by exact fun _ _ => rfl) (hd : (y == ("__debug__" : Str)) = false := by decide) (hcd : (y == ("__classdict__" : Str)) = false := by decide) :
    PV G X Γ (.Subscript (.Name y p) b pos) (.d (.int z)) Γ := by
  subst hG
  obtain ⟨rb, b1, b2⟩ := hb
  refine ⟨tOp (rIxL W.G.K) (tVar s) rb, fun j => by have h := pe_ix (pos := pos) (ix_list (X := X j)) (pe_var (pos := p) (hN j) (hv j) hd hcd) (b1 j) hs; rw [C.K j] at h; exact h, fun F σ H Hb E Q q => ?_⟩
  refine ⟨_, (ow_pot E h1).1, b2 F σ H Hb E _ fun v H' Hb' E' s' r' => ?_⟩
  obtain ⟨g1, g2, g3, g4⟩ := ow_pot E' h1
  have hz : atI [V.int m, V.int n] i = some (.int z) := by
    unfold atI at hi ⊢
    simp only [List.length_cons, List.length_nil] at hi ⊢
    cases q : ixN (0 + 1 + 1) i with
    | none => rw [q] at hi; cases hi
    | some j =>
      rw [q] at hi
      match j, hi with
      | 0, hi => cases hi; rfl
      | 1, hi => cases hi; rfl
  exact ⟨a, _, i, .int z, rfl, dp_int r', .of g2, hz, q _ H' Hb' E' s' (.int z)⟩
end
section
variable {W : Wd} {G : Gx} {k : Nat} {X : Cx} {Γ Γ1 Γ2 : List Sl} {x y : Str} {b e c : Expr} {p pp pos q1 q2 q3 : Pos} {a : Addr} {kk : Nat}
/-- pot[1] = e -/
theorem qs_potSet (C : Ctx W k (one X)) (hG : W.G = G) (s : Nat) {m n z : Int} (he : PV G (one X) Γ e (.d (.int z)) Γ1) (h1 : Γ1[s]? = some (.ow (.pot a m n)) := by rfl) (hN : X.N[s]? = some y := by rfl)
    (hv : Vis X.env.scope y := by first | exact Or.inl rfl | exact Or.inr (Or.inl rfl) | exact Or.inr (Or.inr rfl)) (hd : (y == ("__debug__" : Str)) = false := by decide) (hcd : (y == ("__classdict__" : Str)) = false := by decide)
    (hs : swapsWithSole [.Subscript (.Name y p) (.Constant (.int 1) kk q1) q2] e pos.line X.env = pure false := by rfl) (hw : swappedStores [.Subscript (.Name y p) (.Constant (.int 1) kk q1) q2] e X.env = pure none := by rfl)
    (hh : (assignEach [.Subscript (.Name y p) (.Constant (.int 1) kk q1) q2] X.env).map (·.2) = [assign (.Subscript (.Name y p) (.Constant (.int 1) kk q1) q2) X.env] := by rfl) :
    QS G X Γ (.Assign [.Subscript (.Name y p) (.Constant (.int 1) kk q1) q2] e pos) (.nx (Γ1.set s (.ow (.pot a m z)))) := by
  subst hG
  obtain ⟨r, r1, r2⟩ := he
  refine ⟨_, ps_asg (r1 ()) (pg_sub (pe_var hN hv hd hcd) pe_int set_list) hs hw hh, fun F σ H Hb E D w => r2 F σ H Hb E _ fun v H' Hb' E' s' r' => ?_⟩
  obtain ⟨g1, g2, g3, g4⟩ := ow_pot E' h1
  rw [dp_int r']
  refine ⟨_, g1, a, _, 1, 1, rfl, rfl, g2, rfl, ?_⟩
  exact w σ _ Hb' (E'.mut h1 g1 ⟨rfl, rfl⟩) s'
/-- pot[0], y = e, e two ints -/
theorem qs_potDiv (C : Ctx W k (one X)) (hG : W.G = G) (s i : Nat) {m n z u : Int} {px : Pos} {nt : Nat} {pt : Pos} (he : PV G (one X) Γ e (.d (.tuple [.int z, .int u])) Γ1) (h1 : Γ1[s]? = some (.ow (.pot a m n)) := by rfl) (hN : X.N[s]? = some y := by rfl)
    (hv : Vis X.env.scope y := by first | exact Or.inl rfl | exact Or.inr (Or.inl rfl) | exact Or.inr (Or.inr rfl)) (hi : X.N[i]? = some x := by rfl) (hx : Loc X.env.scope x := by first | exact Or.inl rfl | exact Or.inr rfl)
    (hf : X.fn x = true ∨ X.env.scope.names.lookup x = some .local := by first | exact .inl rfl | exact .inr rfl) (hd : (y == ("__debug__" : Str)) = false := by decide) (hcd : (y == ("__classdict__" : Str)) = false := by decide)
    (hn : (assignEach [.Subscript (.Name y p) (.Constant (.int 0) kk q1) q2, .Name x px] X.env).length = 2 := by rfl) (hst : (assignEach [.Subscript (.Name y p) (.Constant (.int 0) kk q1) q2, .Name x px] X.env).findIdx? (·.1) = none := by rfl)
    (hs1 : (assignEach [.Subscript (.Name y p) (.Constant (.int 0) kk q1) q2, .Name x px] X.env).map (·.2) = assign (.Subscript (.Name y p) (.Constant (.int 0) kk q1) q2) X.env :: (assignEach [.Name x px] X.env).map (·.2) := by rfl)
    (hs2 : (assignEach [.Name x px] X.env).map (·.2) = assign (.Name x px) X.env :: (assignEach [] X.env).map (·.2) := by rfl)
    (hs : swapsWithSole [.Tuple [.Subscript (.Name y p) (.Constant (.int 0) kk q1) q2, .Name x px] nt pt] e pos.line X.env = pure false := by rfl) (hw : swappedStores [.Tuple [.Subscript (.Name y p) (.Constant (.int 0) kk q1) q2, .Name x px] nt pt] e X.env = pure none := by rfl)
    (hh : (assignEach [.Tuple [.Subscript (.Name y p) (.Constant (.int 0) kk q1) q2, .Name x px] nt pt] X.env).map (·.2) = [assign (.Tuple [.Subscript (.Name y p) (.Constant (.int 0) kk q1) q2, .Name x px] nt pt) X.env] := by rfl) :
    QS G X Γ (.Assign [.Tuple [.Subscript (.Name y p) (.Constant (.int 0) kk q1) q2, .Name x px] nt pt] e pos) (.nx ((Γ1.set s (.ow (.pot a z n))).set i (.fr (.d (.int u))))) := by
  subst hG
  obtain ⟨r, r1, r2⟩ := he
  have tg := pg_tup (X := X) (k := nt) (pos := pt) (C.calm ()) (pgs_cons (pg_sub (pos := q2) (pe_var (pos := p) hN hv hd hcd) (pe_int (j := kk) (pos := q1) (i := 0)) set_list) (pgs_cons (pg_name (pos := px) (C.nd ()) hi hx hf) pgs_nil hs2) hs1) hn hst
  refine ⟨_, ps_asg (r1 ()) tg hs hw hh, fun F σ H Hb E D w => r2 F σ H Hb E _ fun v H' Hb' E' s' r' => ?_⟩
  obtain ⟨g1, g2, g3, g4⟩ := ow_pot E' h1
  obtain ⟨b, vs, rfl, t1, t2⟩ := dp_tup r'
  have hvs : vs = [.int z, .int u] := dpAll_ints (ns := [z, u]) t2
  subst hvs
  refine ⟨b, _, rfl, by rw [show X.K = W.G.K from C.K ()]; exact seqT_up E'.sub t1, rfl, _, _, rfl, ⟨_, g1, a, _, 0, 0, rfl, rfl, g2, rfl, ?_⟩⟩
  refine ⟨_, _, rfl, rfl, ?_⟩
  exact w _ _ Hb' ((E'.mut h1 g1 (ho := .lst [.int z, .int n]) (o' := .pot a z n) ⟨rfl, rfl⟩).set (.int u)) s'
end
/-- divmod(m, n) -/
theorem qv_divmod {ι : Type} {W : Wd} {G : Gx} {k : Nat} {X : ι → Cx} {Γ Γ1 Γ2 : List Sl} {b c : Expr} {p pos : Pos} {m n : Int} (C : Ctx W k X) (hm : W.mg "divmod" = none) (ha : PV G X Γ b (.d (.int m)) Γ1) (hb : PV G X Γ1 c (.d (.int n)) Γ2) (hc : CDiv m n) (hg : ∀ j, Gl (X j) "divmod" := by intro _; rfl) (hs : ∀ j, starEach [b, c] (X j).env = (false, eval b (X j).env) :: starEach [c] (X j).env := by intro _; rfl) (hs2 : ∀ j, starEach [c] (X j).env = (false, eval c (X j).env) :: starEach [] (X j).env := by intro _; rfl)
    (hpl : ∀ i, (backTo pos (starEach [c] (X i).env)).any (·.1) = false := by intro _; rfl) : PV G X Γ (.Call (.Name "divmod" p) [b, c] [] pos) (.d (.tuple [.int (m / n), .int (m % n)])) Γ2 :=
  qv_callB C (fun j => call_divmod (X := X j)) hm PyProof.Rows.boot_divmod (ql_cons ha (ql_cons hb ql_nil hs2) hs) (fun F σ H Hb vs E hr Q q => by
    obtain ⟨v, w, rfl, h1, h2⟩ := rep2 hr
    exact ⟨m, n, by rw [dp_int h1, dp_int h2], hc, fun l hl => q _ _ _ (E.new hl tok2) (same_upd (E.hbn hl)) (.tup (.of upd_same) (.cons (.int _) (.cons (.int _) .nil)))⟩) hg (hpl := hpl) (he := hs)
/-! ### a def that gives back a new thing -/
def spF (G : Gx) (R : List Tv → Ow → Prop) : Sp := fun vs H Q _ => ∃ Hb ts o, TOk Hb ∧ Same Hb H ∧ RepL G Hb vs ts ∧ R ts o ∧
  ∀ H' Hb' a ho, TOk Hb' → H' a = some ho → OwC G Hb' a o ho → Hb' a = none → H a = none → Same H H' → Same Hb Hb' → Same Hb' H' → (∀ b, H b ≠ none → Hb b = none → Hb' b = none) → Q (.ref a) H'
def DefOkF (W : Wd) (k : Nat) (x : Str) (ps : List Str) (R : List Tv → Ow → Prop) : Prop := ∃ f fd, W.mg x = some (.ref f) ∧ PySem.W.keepIn W.G.K (.ref f) = true ∧ Binds W.G.K fd ps [] ∧ FnOk W.P W.w W.G.K W.mg W.base CX0 k f fd ps (spF W.G R)
theorem defF_ok {W : Wd} {x : Str} {st : Stmt} {N ps : List Str} {k : Nat} (R : List Tv → Ow → Prop) (T : DefT W x st) (S : FnScope N ps (defScope st)) (hlen : ∀ ts t, R ts t → ts.length = ps.length)
    (hbind : ∀ (kV doc pm : Value) (an : Option Addr) (cdv ct : Value) (us : List Value), us.length = ps.length → bindArgs (PySem.W.fnOf x x (defArgs st) (defBody st) (defScope st) .none kV doc pm an cdv ct) ⟨us, []⟩ = pure (ps.zip us))
    (hbody : ∀ (f : Addr) (cdv : Value) (A : Around) (outer : List Env) (s : Shared) (H : Hp) (E : XK), Ctx W k (one (cx W N x (defScope st) f cdv A outer s H E)) → ∀ ts o, R ts o → QB W.G (cx W N x (defScope st) f cdv A outer s H E) (startG N ts) (defBody st) (.rtf o)) : DefOkF W (k + 1) x ps R := by
  obtain ⟨f, fd, hm, F⟩ := T.ex
  refine ⟨f, fd, hm, F.kp, F.bindsN hbind, F.ok S (fun vs H Q E h => ?_) (fun cdv A outer s H vs Q E hr h => ?_)⟩
  · obtain ⟨Hb, ts, o, _, _, h1, h2, _⟩ := h
    rw [Paired.length h1]
    exact hlen ts o h2
  · obtain ⟨Hb, ts, o, h0, h1, h2, h3, q⟩ := h
    have C : Ctx W k (one (cx W N x (defScope st) f cdv A outer s H E)) := ⟨fun _ => rfl, fun _ => rfl, fun _ => rfl, fun _ => rfl, fun _ => rfl, fun _ => rfl, fun _ => S.nd, fun _ => hr⟩
    obtain ⟨r, r1, r2⟩ := hbody f cdv A outer s H E C ts o h3
    refine ⟨r, PSs.nox r1, r2 _ _ _ _ (env_start h0 h1 h2) _ fun a ho σ' Γ' H' Hb' E' s' g1 g2 g3 g4 => ?_⟩
    have hba : Hb a = none := by
      cases e : Hb a with
      | none => rfl
      | some u => rw [s' a u e] at g4; cases g4
    have hHa : H a = none := by
      have z : (if Hb a = none then H a else none) = none := g3
      rw [if_pos hba] at z
      exact z
    refine q H' Hb' a ho E'.tp g1 g2 g4 hHa (fun b u e => ?_) s' E'.sub (fun b hb hn => ?_)
    · by_cases z : Hb b = none
      · exact (E'.frm b u (by show (if Hb b = none then H b else none) = some u; rw [if_pos z]; exact e)).1
      · cases e2 : Hb b with
        | none => exact absurd e2 z
        | some v =>
          have e3 := h1 b v e2
          rw [e] at e3
          cases e3
          exact E'.sub b u (s' b u e2)
    · cases e : H b with
      | none => exact absurd e hb
      | some u => exact (E'.frm b u (by show (if Hb b = none then H b else none) = some u; rw [if_pos hn]; exact e)).2
theorem qf_callF {ι : Type} {W : Wd} {G : Gx} {k j : Nat} {X : ι → Cx} {Γ Γ1 : List Sl} {x : Str} {ps : List Str} {R : List Tv → Ow → Prop} {e : Expr} {es : List Expr} {p pos : Pos} {ts : List Tv} {o : Ow} (C : Ctx W k X) (hG : W.G = G) (d : DefOkF W j x ps R) (ha : PL G X Γ (e :: es) ts Γ1) (hr : R ts o) (hj : j ≤ k := by decide)
    (hg : ∀ i, Gl (X i) x := by intro _; rfl) (hdb : (x == ("__debug__" : Str)) = false := by decide) (he : ∀ i, starEach (e :: es) (X i).env = (false, eval e (X i).env) :: starEach es (X i).env := by intro _; rfl) (hpl : ∀ i, (backTo pos (starEach es (X i).env)).any (·.1) = false := by intro _; rfl) :
    PF G X Γ (.Call (.Name x p) (e :: es) [] pos) o Γ1 := by
  subst hG
  obtain ⟨f, fd, hm, hk, hb, F⟩ := d
  obtain ⟨u, u1, u2⟩ := ha
  refine ⟨tCall (spF W.G R) [] E0 u, fun i => ?_, fun F' σ H Hb E Q q => u2 F' σ H Hb E _ fun vs H1 Hb1 E1 s1 r1 => ?_⟩
  · have F2 : FnOk (X i).prog (X i).w (X i).K (X i).mg (X i).base CX0 j f fd ps (spF W.G R) := by
      rw [C.prog i, C.w i, C.K i, C.mg i, C.base i]
      exact F
    exact pe_call F2 ((C.room i).mono hj) (hg i) (by rw [C.mg i]; exact hm) (by rw [C.K i]; exact hk) (by rw [C.K i]; exact hb) .nil pass0 (u1 i) hdb (he i) (hpl i)
  · show spF W.G R (vs ++ []) H1 Q E0
    rw [List.append_nil]
    refine ⟨Hb1, ts, o, E1.tp, E1.sub, r1, hr, fun H' Hb' a ho a0 a1 a2 a3 a4 a5 a6 a7 a8 => q a ho H' Hb' ?_ (s1.trans a6) a1 a2 (E1.fn a4) a3 (E1.notN a4)⟩
    refine ⟨E1.len, a7, fun b o e => ⟨a5 _ _ (E1.frm b o e).1, a8 b (by rw [(E1.frm b o e).1]; intro z; cases z) (E1.frm b o e).2⟩, fun i s hs => ?_, E1.ap, a0⟩
    have z := E1.sl i s hs
    cases s with
    | no => exact z
    | fr t' =>
      obtain ⟨w, e1, e2⟩ := z
      exact ⟨w, e1, rep_up a6 e2⟩
    | ow o =>
      obtain ⟨b, ho, e1, e2, e3, e4, e5⟩ := z
      exact ⟨b, ho, e1, e2, a8 b (by rw [e4]; intro z; cases z) e3, a5 _ _ e4, owc_up a6 e5⟩
end Lk
set_option Elab.async false
set_option linter.all false
set_option maxRecDepth 100000
set_option maxHeartbeats 2000000
/-! T9: dicts with int keys. -/
namespace Lk
open PySem PySem.Spec PyProof.Rows L2
def dget (kvs : List (Int × PyData)) (i : Int) : Option PyData := (kvs.find? fun q => decide (q.1 = i)).map (·.2)
def dput (kvs : List (Int × PyData)) (i : Int) (x : PyData) : List (Int × PyData) :=
  if (kvs.any fun q => decide (q.1 = i)) = true then kvs.map (fun q => if q.1 = i then (q.1, x) else q) else kvs ++ [(i, x)]
section
variable {K : PySem.W.Frag} {H : Hp}
theorem kvd_get {i : Int} : ∀ {ks : List (Key × V)} {kvs : List (Int × PyData)}, KvD K H ks kvs → match dget kvs i with
    | some x => ∃ v, valV ks (.inl i) = some v ∧ Dp K H v x
    | none => valV ks (.inl i) = none
  | _, _, .nil => rfl
  | _, _, @Paired.cons _ _ _ p q ks kvs h t => by
    have ih := kvd_get (i := i) t
    by_cases e : q.1 = i
    · have e2 : p.1 = Sum.inl i := by rw [h.1, e]
      have d : dget (q :: kvs) i = some q.2 := by simp [dget, List.find?_cons, e]
      rw [d]
      exact ⟨p.2, valV_pos e2, h.2⟩
    · have e2 : ¬ p.1 = Sum.inl i := by rw [h.1]; intro z; exact e (Sum.inl.inj z)
      have d : dget (q :: kvs) i = dget kvs i := by simp [dget, List.find?_cons, e]
      rw [d, valV_neg e2]
      exact ih
theorem kvd_any {i : Int} : ∀ {ks : List (Key × V)} {kvs : List (Int × PyData)}, KvD K H ks kvs → (ks.any fun q => decide (q.1 = Sum.inl i)) = kvs.any fun q => decide (q.1 = i)
  | _, _, .nil => rfl
  | _, _, @Paired.cons _ _ _ p q ks kvs h t => by
    rw [List.any_cons, List.any_cons, kvd_any t, h.1]
    congr 1
    by_cases e : q.1 = i
    · rw [e]; simp
    · simp [e]
theorem kvd_app {ks ks' : List (Key × V)} {kvs kvs' : List (Int × PyData)} (h : KvD K H ks kvs) (h' : KvD K H ks' kvs') : KvD K H (ks ++ ks') (kvs ++ kvs') := by
  induction h with
  | nil => exact h'
  | cons a _ ih => exact .cons a ih
theorem kvd_repl {i : Int} {v : V} {x : PyData} (hv : Dp K H v x) : ∀ {ks : List (Key × V)} {kvs : List (Int × PyData)}, KvD K H ks kvs → KvD K H (ks.map fun kv => if kv.1 = Sum.inl i then (kv.1, v) else kv) (kvs.map fun q => if q.1 = i then (q.1, x) else q)
  | _, _, .nil => .nil
  | _, _, @Paired.cons _ _ _ p q ks kvs h t => by
    rw [List.map_cons, List.map_cons]
    refine .cons ?_ (kvd_repl hv t)
    by_cases e : q.1 = i
    · have e2 : p.1 = Sum.inl i := by rw [h.1, e]
      rw [if_pos e2, if_pos e]
      exact ⟨h.1, hv⟩
    · have e2 : ¬ p.1 = Sum.inl i := by rw [h.1]; intro z; exact e (Sum.inl.inj z)
      rw [if_neg e2, if_neg e]
      exact h
theorem kvd_put {i : Int} {v : V} {x : PyData} (hv : Dp K H v x) {ks : List (Key × V)} {kvs : List (Int × PyData)} (h : KvD K H ks kvs) : KvD K H (putK ks (Sum.inl i) v) (dput kvs i x) := by
  unfold putK dput
  rw [kvd_any h]
  split
  · exact kvd_repl hv h
  · exact kvd_app h (.cons ⟨rfl, hv⟩ .nil)
theorem kvd_len {ks : List (Key × V)} {kvs : List (Int × PyData)} (h : KvD K H ks kvs) : ks.length = kvs.length := Paired.length h
theorem kvd_keys : ∀ {ks : List (Key × V)} {kvs : List (Int × PyData)}, KvD K H ks kvs → ks.map (·.1) = (kvs.map (·.1)).map Sum.inl
  | _, _, .nil => rfl
  | _, _, .cons h t => by rw [List.map_cons, List.map_cons, List.map_cons, kvd_keys t, h.1]
theorem kvd_vals : ∀ {ks : List (Key × V)} {kvs : List (Int × PyData)} {ns : List Int}, KvD K H ks kvs → kvs.map (·.2) = ns.map PyData.int → ks.map (·.2) = ns.map V.int
  | _, _, ns, .nil, e => by
    have e' : ns.map PyData.int = [] := e.symm
    rw [List.map_eq_nil_iff] at e'
    subst e'
    rfl
  | _, _, [], .cons _ _, e => by simp at e
  | _, _, n :: ns, .cons h t, e => by
    simp only [List.map_cons, List.cons.injEq] at e
    obtain ⟨e1, e2⟩ := e
    have h2 := h.2
    rw [e1] at h2
    rw [List.map_cons, List.map_cons, kvd_vals t e2, dp_int h2]
end
section
variable {ι : Type} {G : Gx} {W : Wd} {k : Nat} {X : ι → Cx} {Γ Γ1 Γ2 Γ3 : List Sl} {a b c e o : Expr} {es rest : List Expr} {pos p q apos mpos cpos : Pos} {kvs : List (Int × PyData)} {d x : PyData} {i : Int} {y : Str}
theorem u1 {X : ι → Cx} (C : Ctx W k X) (j : ι) : (X j).A.units + 1 < cLine := by have h := (C.room j).un; omega
/-- {} -/
theorem qf_dct0 : PF G X Γ (.Dict [] [] pos) (.dct []) Γ := ⟨_, fun _ => pe_dnewK, fun F σ H Hb E Q q => fun n hn => q n _ _ Hb (E.lay hn) (Same.refl _) upd_same .nil (E.fn hn) (E.hbn hn) (E.notN hn)⟩
/-- d[i] -/
theorem qv_dget (C : Ctx W k X) (ha : PV G X Γ a (.dct kvs) Γ1) (hb : PV G X Γ1 b (.d (.int i)) Γ2) (hd : dget kvs i = some d) (hs : NoSl b := by exact fun _ _ => rfl) : PV G X Γ (.Subscript a b pos) (.d d) Γ2 := by
  obtain ⟨ra, a1, a2⟩ := ha
  obtain ⟨rb, b1, b2⟩ := hb
  refine ⟨_, fun j => pe_dget (u1 C j) (a1 j) (b1 j) hs, fun F σ H Hb E Q q => a2 F σ H Hb E _ fun v H1 Hb1 E1 s1 r1 => b2 F σ H1 Hb1 E1 _ fun w H2 Hb2 E2 s2 r2 => ?_⟩
  obtain ⟨p, ks, rfl, h1, h2⟩ := rep_up s2 r1
  have h3 := kvd_get (i := i) h2
  rw [hd] at h3
  obtain ⟨v, h4, h5⟩ := h3
  rw [dp_int r2]
  exact ⟨p, v, rfl, .inl ⟨ks, .inl i, .inl (E2.sub _ _ h1), rfl, h4.symm⟩, q v H2 Hb2 E2 (s1.trans s2) h5⟩
theorem isSome_kvd {K : PySem.W.Frag} {H : Hp} {ks : List (Key × V)} (h : KvD K H ks kvs) : (valV ks (.inl i)).isSome = (dget kvs i).isSome := by
  have h3 := kvd_get (i := i) h
  cases q : dget kvs i with
  | none => rw [q] at h3; rw [h3]; rfl
  | some x => rw [q] at h3; obtain ⟨v, h4, _⟩ := h3; rw [h4]; rfl
/-- i in d -/
theorem qv_dnin (C : Ctx W k X) (ha : PV G X Γ a (.d (.int i)) Γ1) (hb : PV G X Γ1 b (.dct kvs) Γ2) (hm : behindInMarks .NotIn b = false := by rfl) : PV G X Γ (.Compare a [.NotIn] [b] pos) (.d (.bool (!(dget kvs i).isSome))) Γ2 := by
  obtain ⟨ra, a1, a2⟩ := ha
  obtain ⟨rb, b1, b2⟩ := hb
  refine ⟨_, fun j => pe_cmp (pc_dnotin (u1 C j) (a1 j) (b1 j)) hm, fun F σ H Hb E Q q => a2 F σ H Hb E _ fun v H1 Hb1 E1 s1 r1 => b2 F σ H1 Hb1 E1 _ fun w H2 Hb2 E2 s2 r2 => ?_⟩
  obtain ⟨p, ks, rfl, h1, h2⟩ := r2
  rw [dp_int r1]
  refine ⟨p, _, rfl, .inl ⟨ks, .inl i, .inl (E2.sub _ _ h1), rfl, rfl⟩, ?_⟩
  rw [isSome_kvd h2]
  exact q _ H2 Hb2 E2 (s1.trans s2) (.bl _)
theorem qv_din (C : Ctx W k X) (ha : PV G X Γ a (.d (.int i)) Γ1) (hb : PV G X Γ1 b (.dct kvs) Γ2) (hm : behindInMarks .In b = false := by rfl) : PV G X Γ (.Compare a [.In] [b] pos) (.d (.bool ((dget kvs i).isSome))) Γ2 := by
  obtain ⟨ra, a1, a2⟩ := ha
  obtain ⟨rb, b1, b2⟩ := hb
  refine ⟨_, fun j => pe_cmp (pc_din (u1 C j) (a1 j) (b1 j)) hm, fun F σ H Hb E Q q => a2 F σ H Hb E _ fun v H1 Hb1 E1 s1 r1 => b2 F σ H1 Hb1 E1 _ fun w H2 Hb2 E2 s2 r2 => ?_⟩
  obtain ⟨p, ks, rfl, h1, h2⟩ := r2
  rw [dp_int r1]
  refine ⟨p, _, rfl, .inl ⟨ks, .inl i, .inl (E2.sub _ _ h1), rfl, rfl⟩, ?_⟩
  rw [isSome_kvd h2]
  exact q _ H2 Hb2 E2 (s1.trans s2) (.bl _)
/-- d.get(i, x), d owned -/
theorem qv_dgetO (C : Ctx W k X) (s : Nat) (hb : PV G X Γ b (.d (.int i)) Γ1) (hc : PV G X Γ1 c (.d x) Γ2) (h0 : ∃ kv0, Γ[s]? = some (.ow (.dct kv0)) := by exact ⟨_, rfl⟩) (h1 : Γ2[s]? = some (.ow (.dct kvs)) := by rfl) (hN : ∀ j, (X j).N[s]? = some y := by intro _; rfl)
    (hv : ∀ j, Vis (X j).env.scope y := by intro _; first | exact Or.inl rfl | exact Or.inr (Or.inl rfl) | exact Or.inr (Or.inr rfl)) (hd : (y == ("__debug__" : Str)) = false := by decide) (hcd : (y == ("__classdict__" : Str)) = false := by decide)
    (m : ∀ j, M2 (X j) (.Name y p) "get" apos b c cpos := by exact fun _ => ⟨rfl, rfl, rfl, rfl⟩) : PV G X Γ (.Call (.Attribute (.Name y p) "get" apos) [b, c] [] cpos) (.d ((dget kvs i).getD x)) Γ2 := by
  obtain ⟨rb, b1, b2⟩ := hb
  obtain ⟨rc, c1, c2⟩ := hc
  refine ⟨_, fun j => pe_dget2 (u1 C j) (pe_var (hN j) (hv j) hd hcd) (b1 j) (c1 j) (m j), fun F σ H Hb E Q q => ?_⟩
  obtain ⟨kv0, h0⟩ := h0
  obtain ⟨l, ho, e1, _, _, e4, e5⟩ := E.ow h0
  cases ho <;> first | exact (e5 : False).elim | skip
  refine ⟨_, e1, l, rfl, .inl ⟨_, .inl e4⟩, b2 F σ H Hb E _ fun w H2 Hb2 E2 s2 r2 => c2 F σ H2 Hb2 E2 _ fun z H3 Hb3 E3 s3 r3 => ?_⟩
  obtain ⟨l', ho', f1, _, _, f4, f5⟩ := E3.ow h1
  rw [e1] at f1
  cases f1
  cases ho' <;> first | exact (f5 : False).elim | skip
  rename_i ks
  rw [dp_int r2]
  refine ⟨_, .inl ⟨ks, .inl i, .inl f4, rfl, rfl⟩, ?_⟩
  have h3 := kvd_get (i := i) f5
  cases e : dget kvs i with
  | none =>
    rw [e] at h3 q
    rw [h3]
    exact q z H3 Hb3 E3 (s2.trans s3) r3
  | some u =>
    rw [e] at h3 q
    obtain ⟨v, h4, h5⟩ := h3
    rw [h4]
    exact q v H3 Hb3 E3 (s2.trans s3) h5
/-- sorted(d) -/
theorem qf_sortedDI (C : Ctx W k X) (hm : W.mg "sorted" = none) {ns : List Int} (ha : PV G X Γ e (.dct kvs) Γ1) (hp : ns.Perm (kvs.map (·.1))) (hso : ns.Pairwise (· ≤ ·)) (hz : kvs.length < 64) (hg : ∀ j, Gl (X j) "sorted" := by intro _; rfl) (hs : ∀ j, starEach [e] (X j).env = (false, eval e (X j).env) :: starEach [] (X j).env := by intro _; rfl) : PF G X Γ (.Call (.Name "sorted" p) [e] [] pos) (.lst (ns.map PyData.int)) Γ1 := by
  refine qf_callB C (fun j => call_sortedDI (X := X j) (C.calm j)) hm PyProof.Rows.boot_sorted (ql_cons ha ql_nil hs) (fun F σ H Hb vs E hr Q q => ?_) hg (hpl := fun _ => rfl) (he := hs)
  obtain ⟨v, rfl, hv⟩ := rep1 hr
  obtain ⟨l, ks, rfl, h1, h2⟩ := hv
  refine ⟨l, ks, kvs.map (·.1), rfl, .inl (E.sub _ _ h1), kvd_keys h2, by rw [List.length_map]; exact hz, fun ys n h3 h4 hn => ?_⟩
  have e : ys = ns := (h3.trans hp.symm).eq_of_pairwise (fun a b _ _ h h' => Int.le_antisymm h h') h4 hso
  subst e
  exact q n _ hn (dpAll_of_ints ys)
/-- min(d.values()) -/
theorem qv_minVals (C : Ctx W k X) (hm : W.mg "min" = none) {ns : List Int} {n : Int} (ha : PV G X Γ o (.dct kvs) Γ1) (hk : kvs.map (·.2) = ns.map PyData.int) (hn : n ∈ ns) (hl : ∀ j ∈ ns, n ≤ j) (hg : ∀ j, Gl (X j) "min" := by intro _; rfl) (hbase : ∀ j, attributeBase o "values" (X j).env (eval o (X j).env) = eval o (X j).env := by intro _; rfl) (hline : (apos.endLine == mpos.line) = true := by rfl)
    (hse : ∀ j, starEach [Expr.Call (.Attribute o "values" apos) [] [] mpos] (X j).env = [(false, eval (Expr.Call (.Attribute o "values" apos) [] [] mpos) (X j).env)] := by intro _; rfl) :
    PV G X Γ (.Call (.Name "min" p) [.Call (.Attribute o "values" apos) [] [] mpos] [] pos) (.d (.int n)) Γ1 := by
  obtain ⟨ra, a1, a2⟩ := ha
  refine ⟨_, fun j => pe_minVals (C.calm j) (hg j) (by rw [C.mg j]; exact hm) (a1 j) (hbase j) hline (hse j), fun F σ H Hb E Q q => a2 F σ H Hb E _ fun v H1 Hb1 E1 s1 r1 => ?_⟩
  obtain ⟨l, ks, rfl, h1, h2⟩ := r1
  refine ⟨l, ks, ns, rfl, E1.sub _ _ h1, kvd_vals h2 hk, (by intro z; rw [z] at hn; cases hn), fun m h3 h4 => ?_⟩
  have e : m = n := Int.le_antisymm (h4 n hn) (hl m h3)
  subst e
  exact q _ H1 Hb1 E1 s1 (.int _)
/-- {1: a, ..} -/
def PPr (G : Gx) (X : ι → Cx) (Γ : List Sl) (ks : List (Option Expr)) (vs : List Expr) (qs : List (Int × PyData)) (Γ' : List Sl) : Prop := ∃ trs, (∀ j p, PPs (X j) p ks vs trs) ∧
  ∀ F σ H Hb, EnvOk G F Γ σ H Hb → ∀ Q : List (V × V) → Hp → Prop, (∀ (kvs : List (Key × V)) H' Hb', EnvOk G F Γ' σ H' Hb' → Same Hb Hb' → KvD G.K Hb' kvs qs → Q (kvs.map fun kv => (kV kv.1, kv.2)) H') → tPairs trs σ H Q
theorem qp_nil : PPr G X Γ [] [] [] Γ := ⟨[], fun _ _ => pps_nil, fun F σ H Hb E Q q => q [] H Hb E (Same.refl _) .nil⟩
theorem qp_cons {ks : List (Option Expr)} {vs : List Expr} {qs : List (Int × PyData)} (ha : PV G X Γ a (.d (.int i)) Γ1) (hb : PV G X Γ1 b (.d x) Γ2) (h : PPr G X Γ2 ks vs qs Γ3) : PPr G X Γ (some a :: ks) (b :: vs) ((i, x) :: qs) Γ3 := by
  obtain ⟨ra, a1, a2⟩ := ha
  obtain ⟨rb, b1, b2⟩ := hb
  obtain ⟨trs, t1, t2⟩ := h
  refine ⟨(ra, rb) :: trs, fun j p => pps_cons (a1 j) (b1 j) (t1 j p), fun F σ H Hb E Q q => a2 F σ H Hb E _ fun v H1 Hb1 E1 s1 r1 => b2 F σ H1 Hb1 E1 _ fun w H2 Hb2 E2 s2 r2 => t2 F σ H2 Hb2 E2 _ fun kvs H3 Hb3 E3 s3 r3 => ?_⟩
  rw [dp_int r1]
  exact q ((.inl i, w) :: kvs) H3 Hb3 E3 ((s1.trans s2).trans s3) (.cons ⟨rfl, dp_up s3 r2⟩ r3)
def dmerge (kvs more : List (Int × PyData)) : List (Int × PyData) := more.foldl (fun acc q => dput acc q.1 q.2) kvs
theorem kvd_merge {K : PySem.W.Frag} {H : Hp} : ∀ {more : List (Key × V)} {qs : List (Int × PyData)} {ks : List (Key × V)} {kvs : List (Int × PyData)}, KvD K H more qs → KvD K H ks kvs → KvD K H (mergeK ks more) (dmerge kvs qs)
  | _, _, _, _, .nil, h => h
  | _, _, ks, kvs, @Paired.cons _ _ _ p q more qs h t, h0 => by
    have e : KvD K H (putK ks p.1 p.2) (dput kvs q.1 q.2) := by rw [h.1]; exact kvd_put h.2 h0
    exact kvd_merge (more := more) (qs := qs) t e
theorem qf_disp {ks : List (Option Expr)} {vs : List Expr} {qs : List (Int × PyData)} (h : PPr G X Γ ks vs qs Γ1) (hall : ks.all (·.isSome) = true := by rfl) (hl : ks.length = vs.length := by rfl) (h0 : ks ≠ [] := by exact List.cons_ne_nil _ _) (h15 : ks.length ≤ 15 := by decide) (hq : qs.length ≤ 15 := by decide) : PF G X Γ (.Dict ks vs pos) (.dct (dmerge [] qs)) Γ1 := by
  obtain ⟨trs, t1, t2⟩ := h
  refine ⟨tDisp trs, fun j => pe_disp (t1 j pos) hall hl h0 h15, fun F σ H Hb E Q q => fun n hn => ?_⟩
  have E1 := (E.lay (o := .dK []) hn).frame upd_same (E.hbn hn) (E.notN hn)
  refine t2 _ σ _ Hb E1 _ fun kvs H' Hb' E' s' r' => ?_
  obtain ⟨E2, g1, g2, g3⟩ := E'.unframe (E.fn hn)
  refine ⟨g1, kvs, rfl, by rw [kvd_len r']; exact hq, ?_⟩
  obtain ⟨E4, g4, g5, g6⟩ := (E'.reframe (o' := .dK (mergeK [] kvs)) (E.fn hn)).unframe (E.fn hn)
  exact q n _ _ Hb' E4 s' g4 (kvd_merge r' .nil) (E.fn hn) g5 g6
end
section
variable {G : Gx} {W : Wd} {k : Nat} {X : Cx} {Γ Γ1 Γ2 : List Sl} {y : Str} {b e : Expr} {p pos pos' : Pos} {kvs : List (Int × PyData)} {x : PyData} {i : Int}
/-- d[i] = e -/
theorem qs_dput (C : Ctx W k (one X)) (s : Nat) (he : PV G (one X) Γ e (.d x) Γ1) (hb : PV G (one X) Γ1 b (.d (.int i)) Γ2) (hz : kvs.length < 1000) (h0 : ∃ kv0, Γ1[s]? = some (.ow (.dct kv0)) := by exact ⟨_, rfl⟩) (h1 : Γ2[s]? = some (.ow (.dct kvs)) := by rfl) (hN : X.N[s]? = some y := by rfl)
    (hv : Vis X.env.scope y := by first | exact Or.inl rfl | exact Or.inr (Or.inl rfl) | exact Or.inr (Or.inr rfl)) (hd : (y == ("__debug__" : Str)) = false := by decide) (hcd : (y == ("__classdict__" : Str)) = false := by decide)
    (hs : swapsWith e (some (.Subscript (.Name y p) b pos')) pos.line X.env = pure false := by rfl) : QS G X Γ (.Assign [.Subscript (.Name y p) b pos'] e pos) (.nx (Γ2.set s (.ow (.dct (dput kvs i x))))) := by
  obtain ⟨re, e1, e2⟩ := he
  obtain ⟨rb, b1, b2⟩ := hb
  refine ⟨_, ps_dput (u1 C ()) (pe_var hN hv hd hcd) (b1 ()) (e1 ()) hs, fun F σ H Hb E D w => e2 F σ H Hb E _ fun v H1 Hb1 E1 s1 r1 => ?_⟩
  obtain ⟨kv0, h0⟩ := h0
  obtain ⟨l, ho, f1, _⟩ := E1.ow h0
  refine ⟨_, f1, b2 F σ H1 Hb1 E1 _ fun u H2 Hb2 E2 s2 r2 => ?_⟩
  obtain ⟨l', ho', g1, _, _, g4, g5⟩ := E2.ow h1
  rw [f1] at g1
  cases g1
  cases ho' <;> first | exact (g5 : False).elim | skip
  rename_i ks
  rw [dp_int r2]
  refine ⟨l, _, rfl, .inl ⟨ks, .inl i, g4, rfl, by rw [kvd_len g5]; exact Nat.lt_of_lt_of_le hz (by decide), rfl⟩, ?_⟩
  exact w σ _ Hb2 (E2.mut h1 f1 (kvd_put (dp_up s2 r1) g5)) (s1.trans s2)
end
end Lk
set_option Elab.async false
set_option linter.all false
set_option maxRecDepth 100000
set_option maxHeartbeats 2000000
/-! T10: index, remove, len(set()), list + list, [x] * n, stores, chains. -/
namespace Lk
open PySem PySem.Spec PyProof.Rows L2
section
variable {X : Cx}
/-! ### list + list -/
def rCatD (K : PySem.W.Frag) : R2 := fun x y H Q => ∃ l b xs zs, x = .ref l ∧ y = .ref b ∧ SqL K H l xs ∧ SqL K H b zs ∧ xs.length + zs.length ≤ sizeLine ∧ ∀ p, H p = none → Q (.ref p) (upd H p (.lst (xs ++ zs)))
theorem op_catD : OpR X (binaryOp .Add) (rCatD X.K) := by
  intro pins s σ H x y v u Q I rx ry h
  obtain ⟨l, b, xs, zs, rfl, rfl, hH, hB, hz, q⟩ := h
  cases rx
  cases ry
  obtain ⟨its, r, ⟨⟨cls, dd, data, sl⟩, n, ho, hc, hdn, hdt⟩, h1⟩ := I.list hH
  obtain ⟨its2, r2, ⟨⟨cls2, dd2, data2, sl2⟩, n2, ho2, hc2, hdn2, hdt2⟩, h2⟩ := I.list hB
  simp only at hc hdt hc2 hdt2
  subst hc hdt hc2 hdt2
  have ea : its.toArray ++ its2.toArray = (its ++ its2).toArray := by simp
  refine concat_meets ⟨_, ho, rfl⟩ ⟨_, ho2, rfl⟩ noFill_list_add seq_list_add PySem.F.slot_list_add PySem.F.entry_list_add (PySem.F.args_list_add_2 _ _) (list_addW l b its.toArray its2.toArray n n2 dd dd2 sl sl2 (by rw [List.size_toArray, List.size_toArray, ← r.length, ← r2.length]; exact hz)) ⟨ho, ho2, ?_⟩
  rw [ea]
  exact ⟨.ref _, _, I.lnew (t' := s.toks) (r.append r2) (by rw [List.length_append]; omega), rfl, q _ I.fresh⟩
/-! ### t.index(i) -/
def rIndexT (K : PySem.W.Frag) : V → List V → Hp → VK → Prop := fun x xs H Q => ∃ (p : Addr) (ns : List Int) (z : Int) (j : Nat), x = V.ref p ∧ xs = [.int z] ∧ SqT K H p (ns.map V.int) ∧ ns[j]? = some z ∧ (∀ m, m < j → ns[m]? ≠ some z) ∧ Q (.int (j : Nat)) H
theorem flat_intsV (ns : List Int) : (ns.map V.int).all flatV = true := by
  rw [List.all_eq_true]
  intro x hx
  obtain ⟨i, _, rfl⟩ := List.mem_map.mp hx
  rfl
theorem mt_indexT : MtR X "tuple.index" (rIndexT X.K) := by
  intro pins s σ H x xs v us Q I rx rs h
  obtain ⟨p, ys, z, j, rfl, rfl, hq, hy, hno, q⟩ := h
  cases rx
  obtain ⟨u, rfl, t, rfl⟩ := vals1 rs
  obtain ⟨its, r, pl, hz⟩ := I.tuple hq
  obtain ⟨⟨cls, dd, dt, sl⟩, ho, hc, n, hd⟩ := pl
  simp only at hc hd
  subst hc
  subst hd
  have hl : its.toArray.size = ys.length := by rw [List.size_toArray, ← r.length, List.length_map]
  have hj : j < its.toArray.size := by rw [hl]; exact (List.getElem?_eq_some_iff.mp hy).1
  have at' : ∀ (m : Nat) (hm : m < its.toArray.size), ∃ y t', ys[m]? = some y ∧ its.toArray[m] = Value.int y t' := fun m hm => by
    have hm' : m < ys.length := by rw [← hl]; exact hm
    obtain ⟨w, hw, t', hw'⟩ := r.get (i := m) (x := .int ys[m]) (by simp [hm'])
    refine ⟨ys[m], t', List.getElem?_eq_getElem hm', ?_⟩
    have e := (List.getElem?_eq_some_iff.mp hw).2
    rw [← hw', ← e]
    simp
  refine call_meets PySem.F.slot_tuple_index ⟨_, ho, rfl⟩ PySem.F.entry_tuple_index (PySem.F.args_tuple_index_2 _ _) (TI.tuple_indexAt p its.toArray n dd sl (.int z t) (eqU (.int z)) j hj ?_ ?_)
    ⟨ho, fun w hw => mem_eqAt (x := .int z) ⟨t, rfl⟩ rfl r (flat_intsV ys) w (by simpa using hw), ⟨.int (j : Nat), H, I.tok _, ⟨_, rfl⟩, q⟩⟩
  · obtain ⟨y, t', h1, h2⟩ := at' j hj
    rw [hy] at h1
    cases h1
    rw [h2]
    show decide (z = z) = true
    simp
  · intro m hm hmj
    obtain ⟨y, t', h1, h2⟩ := at' m hm
    rw [h2]
    show decide (y = z) = false
    rw [decide_eq_false_iff_not]
    intro e
    exact hno m hmj (e ▸ h1)
def tIndexT (K : PySem.W.Frag) (to : TE) (t : TA) : TE := fun σ H Q => to σ H fun x H1 => (∃ p, x = V.ref p ∧ ((∃ o xs, H1 p = some (.frz o (.tup xs)) ∧ o.dict = none) ∨ ∃ o, K.lookup p = some o ∧ o.cls = .type "tuple" ∧ o.dict = none)) ∧ t σ H1 fun xs H2 => rIndexT K x xs H2 Q
theorem pe_indexT {o e : Expr} {to : TE} {t : TA} {apos cpos : Pos} (ho : PE X o to) (ha : PA X [e] t) (hbase : attributeBase o "index" X.env (eval o X.env) = eval o X.env := by rfl)
    (hfew : ((backTo cpos (starEach [e] X.env)).all (fun x => !x.1) && (backToKw cpos (keywordEach [] X.env)).all (fun x => x.1.isSome)
      && decide (([e] : List Expr).length + ([] : List Keyword).length + (if ([] : List Keyword).isEmpty then 0 else 1) < 30)) = true := by rfl)
    (hline : (apos.endLine == cpos.line) = true := by rfl) (hs : starEach [e] X.env = (false, eval e X.env) :: starEach [] X.env := by rfl) (hplain : (backTo cpos (starEach [] X.env)).any (·.1) = false := by rfl) :
    PE X (.Call (.Attribute o "index" apos) [e] [] cpos) (tIndexT X.K to t) := by
  refine ⟨fun pins s σ H Q I h => ?_⟩
  refine wpAny_Call_method_late hbase hfew hline rfl (thn (ho.run pins s σ H _ I h) fun v s1 ⟨x, H1, I1, r1, ty, q1⟩ => ?_)
  have h12 : s1.TypeIs v "tuple" ∧ ∀ a, v = .ref a → ∃ ob, s1.heap.get? a = some ob ∧ ob.dict = none := by
    obtain ⟨p, rfl, ⟨o, xs, hH, hd⟩ | ⟨o, hk, hc, hd⟩⟩ := ty
    · cases r1
      obtain ⟨e1, _, its, _, ⟨o', e2, hc, _⟩⟩ := I1.hok p _ hH
      rw [e1] at e2
      cases e2
      exact ⟨⟨o, e1, hc⟩, fun a e => by cases e; exact ⟨o, e1, hd⟩⟩
    · cases r1
      exact ⟨⟨o, I1.kIn p o hk, hc⟩, fun a e => by cases e; exact ⟨o, I1.kIn _ o hk, hd⟩⟩
  refine ⟨"tuple", "tuple.index", PySem.F.plainAttrs_tuple, PySem.F.slot_tuple_index, PySem.F.type_tuple_index, h12.1, h12.2, ?_⟩
  have hA := ha.run cpos pins s1 σ H1 _ I1 q1
  rw [hs] at hA ⊢
  refine Calls.callWith_builtin (by show (false || (backTo cpos (starEach [] X.env)).any (·.1)) = false; rw [hplain] <;> rfl) (Calls.evalArgs_plain ?_)
  exact thn hA fun us s2 ⟨vs, H2, I2, r2, q2⟩ => mt_indexT pins s2 σ H2 x vs v us Q I2 r1 r2 q2
/-! ### l.remove(x) -/
def rRemoveD (K : PySem.W.Frag) : V → List V → Hp → VK → Prop := fun x xs H Q => ∃ (Hb : Hp) (a : Addr) (y : V) (d : PyData) (vs : List V) (ds : List PyData) (j : Nat) (z : PyData), Same Hb H ∧ x = V.ref a ∧ xs = [y] ∧ H a = some (.lst vs) ∧ DpAll K Hb vs ds ∧ Dp K Hb y d ∧
  SeqAt.shaped (.list ds) = true ∧ SeqAt.shaped d = true ∧ ds[j]? = some z ∧ PyData.eqv z d = true ∧ (∀ (m : Nat) (z' : PyData), m < j → ds[m]? = some z' → PyData.eqv z' d = false) ∧ Q .non (upd H a (.lst (vs.eraseIdx j)))
theorem mt_removeD (hu : X.A.units + 65 < cLine) : MtM X "list.remove" (rRemoveD X.K) := by
  intro pins s σ H x xs v us Q I rx rxs h
  obtain ⟨Hb, a, y, d, ws, ds, j, z, hsm, rfl, rfl, hH, hl, hy, sl, sd, hz, hzj, hno, q⟩ := h
  cases rx
  obtain ⟨uy, rfl, ry⟩ := rxs.one
  obtain ⟨bs, r1⟩ := Dp.reads I d y uy (dp_up hsm hy) ry
  have hxs : PyData.canLayAll0 ds = true := SeqAt.canLay_of_shaped sl
  have hroom : X.A.units + 1 + min (PyData.depthAll ds) d.depth < cLine := room_in_shaped sd hu
  obtain ⟨hlz, its, n, rv, hlen, e⟩ := I.lstM hH
  obtain ⟨as, h4⟩ := Dp.readsAll I ds _ its (dpAll_up hsm hl) rv
  have hn : its.length = ds.length := SeqAt.ReadsAll.length ds its as h4
  have hmap : its.map (SeqAt.readOf s.heap) = ds := SeqAt.readsAll_map ds its as hxs h4
  have hsl := sizeLine_eq
  obtain ⟨hjd, _⟩ := List.getElem?_eq_some_iff.mp hz
  have hjl : j < its.length := by omega
  have hj : j < its.toArray.size := by simpa using hjl
  have at_ : ∀ (m : Nat) (hm : m < its.toArray.size) (z' : PyData), ds[m]? = some z' → SeqAt.readOf s.heap its.toArray[m] = z' := by
    intro m hm z' hz'
    have hml : m < its.length := by simpa using hm
    rw [← hmap, List.getElem?_map, List.getElem?_eq_getElem hml] at hz'
    have e1 : SeqAt.readOf s.heap its[m] = z' := Option.some.inj (show some (SeqAt.readOf s.heap its[m]) = some z' from hz')
    simpa using e1
  refine call_meets PySem.F.slot_list_remove ⟨_, e, rfl⟩ PySem.F.entry_list_remove (PySem.F.args_list_remove_2 _ _)
    (SeqAt.list_removeAt a its.toArray n none #[] uy (fun u => PyData.eqv (SeqAt.readOf s.heap u) d) j hj ?_ ?_ (by rw [List.size_toArray]; omega)) ⟨e, SeqAt.items_eqAt (vs := its.toArray) (show ReadsAll s.heap its.toArray.toList ds as from h4) r1 hxs (SeqAt.canLay_of_shaped sd) hroom, ?_⟩
  · show PyData.eqv (SeqAt.readOf s.heap its.toArray[j]) d = true
    rw [at_ j hj z hz]
    exact hzj
  · intro m hm hmj
    have hml : m < its.length := by simpa using hm
    have hmd : m < ds.length := by omega
    have hz' : ds[m]? = some ds[m] := List.getElem?_eq_getElem hmd
    show PyData.eqv (SeqAt.readOf s.heap its.toArray[m]) d = false
    rw [at_ m hm _ hz']
    exact hno m _ hmj hz'
  · refine ⟨.non, _, I.lset (its' := its.eraseIdx j) hH e ?_ ?_ ?_, rfl, q⟩
    · rw [List.eraseIdxIfInBounds_toArray]
    · have er : ∀ {vs : List V} {us : List Value} (j : Nat), Vals vs us → Vals (vs.eraseIdx j) (us.eraseIdx j) := by
        intro vs us j h
        induction h generalizing j with
        | nil => exact .nil
        | cons r t ih => cases j with
          | zero => exact t
          | succ j => exact .cons r (ih j)
      exact er j rv
    · exact Nat.le_trans (List.length_eraseIdx_le ..) hlz
/-! ### len(set(l)) of int tuples that differ -/
theorem nodup_len {α : Type} [DecidableEq α] : ∀ {l m : List α}, l.Nodup → (∀ x ∈ l, x ∈ m) → l.length ≤ m.length
  | [], _, _, _ => Nat.zero_le _
  | a :: l, m, hn, hs => by
    have ha : a ∈ m := hs a (List.mem_cons_self ..)
    have h := nodup_len (l := l) (m := m.erase a) (List.nodup_cons.mp hn).2 fun x hx => by
      refine (List.mem_erase_of_ne ?_).mpr (hs x (List.mem_cons_of_mem _ hx))
      intro e
      subst e
      exact (List.nodup_cons.mp hn).1 hx
    rw [List.length_erase_of_mem ha] at h
    have := List.length_pos_of_mem ha
    rw [List.length_cons]
    omega
theorem rowsOf_len {P : Program} {w : World} (L : List (Addr × List Int)) : (rowsOf P w L).length = L.length := by unfold rowsOf; rw [List.length_map]
def tLenSetT (K : PySem.W.Frag) (ta : TE) : TE := fun σ H Q => ta σ H fun x H1 => ∃ (l : Addr) (ks : List (Addr × List Int)), x = V.ref l ∧ SqL K H1 l (ks.map fun p => V.ref p.1) ∧ (∀ p ∈ ks, SqT K H1 p.1 (p.2.map V.int)) ∧ ks.length < 64 ∧ (ks.map (·.2)).Nodup ∧ ∀ p o, H1 p = none → Q (.int ks.length) (upd H1 p o)
theorem pe_lenSetT {a : Expr} {ta : TE} {p p2 q pos : Pos} (hc : X.calm = true) (hu : X.A.units + 65 < cLine) (hg : Gl X "len") (hm : X.mg "len" = none) (hg2 : Gl X "set") (hm2 : X.mg "set" = none) (ha : PE X a ta)
    (na : starEach [a] X.env = (false, eval a X.env) :: starEach [] X.env := by rfl) : PE X (.Call (.Name "len" p) [.Call (.Name "set" p2) [a] [] q] [] pos) (tLenSetT X.K ta) := by
  refine ⟨fun pins s σ H Q I h => ?_⟩
  refine Call_ (ld_blt I hg hm PySem.boot_len ?_)
  refine PyProof.Rows.callWith_builtin1 (PyProof.Rows.args_cons ?_ rfl) rfl rfl
  refine Call_ (ld_blt I hg2 hm2 PyProof.Rows.boot_set ?_)
  refine PyProof.Rows.callWith_type1 (PyProof.Rows.args_cons (thn (ha.run pins s σ H _ I h) fun v s1 ⟨x, H1, I1, r1, q1⟩ => PyProof.Rows.args_nil ?_) na) na rfl
  obtain ⟨l, ks, rfl, hq, hk, h1, hnd, q1⟩ := q1
  refine thn (cr_setOfT (X := X) hc (by omega) pins s1 σ H1 [.ref l] [v] (fun v H2 => ∃ a L, v = V.ref a ∧ H2 = upd H1 a (SetTO X.prog X.w a L) ∧ H1 a = none ∧ (∀ p ∈ L, p ∈ ks) ∧ (∀ p ∈ ks, p.2 ∈ L.map (·.2))) I1 (.cons r1 .nil) ⟨l, ks, rfl, hq, hk, h1, fun a L ha h2 h3 => ⟨a, L, rfl, rfl, ha, h2, h3⟩⟩) fun v2 s2 ⟨x2, H2, I2, r2, q2⟩ => ?_
  obtain ⟨a2, L, rfl, rfl, hn, h2, h3⟩ := q2
  cases r2
  have R : SetT0 X.prog X.w s2.heap a2 L := (I2.hok a2 _ upd_same).1
  obtain ⟨es, ep, t, R2⟩ := R.full fun p hp => I2.isT (seqT_up (same_upd hn) (hk p (h2 p hp)))
  obtain ⟨o, ho, hex, hd⟩ := R2.ob
  have hln := R2.nd
  have hL : L.length = ks.length := by
    refine Nat.le_antisymm ?_ ?_
    · have z := nodup_len (l := L.map (·.2)) (m := ks.map (·.2)) hln fun x hx => by
        obtain ⟨p, hp, rfl⟩ := List.mem_map.mp hx
        exact List.mem_map.mpr ⟨p, h2 p hp, rfl⟩
      rw [List.length_map, List.length_map] at z
      exact z
    · have z := nodup_len (l := ks.map (·.2)) (m := L.map (·.2)) hnd fun x hx => by
        obtain ⟨p, hp, rfl⟩ := List.mem_map.mp hx
        exact h3 p hp
      rw [List.length_map, List.length_map] at z
      exact z
  have hsz : es.size = ks.length := by rw [← Array.length_toList, R2.rows, rowsOf_len, hL]
  have hf : t.fits es.size = true := R2.fits
  refine PyProof.Rows.args_nil ?_
  refine call_len_set ho hex hd hf (by rw [hsz]; omega) ⟨.int ks.length, _, I2.tok _, ⟨_, by rw [hsz]⟩, q1 a2 _ hn⟩
end
end Lk
set_option Elab.async false
set_option linter.all false
set_option maxRecDepth 100000
set_option maxHeartbeats 2000000
/-! T11: the rules of T10 over trees. -/
namespace Lk
open PySem PySem.Spec PyProof.Rows L2
section
variable {ι : Type} {G : Gx} {W : Wd} {k : Nat} {X : ι → Cx} {Γ Γ1 Γ2 Γ3 : List Sl} {a b c e o : Expr} {es : List Expr} {pos p p2 q apos cpos : Pos} {ds ds2 : List PyData} {d : PyData} {x : Str}
/-- xs + ys -/
theorem qf_catL (C : Ctx W k X) (hG : W.G = G) (ha : PV G X Γ a (.d (.list ds)) Γ1) (hb : PV G X Γ1 b (.d (.list ds2)) Γ2) (hz : ds.length + ds2.length ≤ 100000) : PF G X Γ (.BinOp a .Add b pos) (.lst (ds ++ ds2)) Γ2 := by
  subst hG
  refine qf_op (r := rCatD W.G.K) (fun j => by have h := op_catD (X := X j); rw [C.K j] at h; exact h) ha hb fun F σ H Hb v w E hv hw Q q => ?_
  obtain ⟨x, vs, rfl, h1, h2⟩ := dp_lst hv
  obtain ⟨y, ws, rfl, h3, h4⟩ := dp_lst hw
  exact ⟨x, y, vs, ws, rfl, rfl, seqL_up E.sub h1, seqL_up E.sub h3, by rw [dpAll_len h2, dpAll_len h4]; exact small_sz hz, fun l hl => q l _ hl (dpAll_app h2 h4)⟩
theorem eqv_int (m n : Int) : PyData.eqv (.int m) (.int n) = decide (m = n) := by by_cases h : m = n <;> simp [PyData.eqv, h]
theorem shaped_ints (ns : List Int) : SeqAt.shaped (.list (ns.map PyData.int)) = true := by
  have h1 : ∀ ns : List Int, PyData.canLayAll0 (ns.map PyData.int) = true := by
    intro ns
    induction ns with
    | nil => rfl
    | cons n ns ih => simp [PyData.canLayAll0, PyData.canLay0, ih]
  have h2 : ∀ ns : List Int, PyData.depthAll (ns.map PyData.int) = 0 := by
    intro ns
    induction ns with
    | nil => rfl
    | cons n ns ih => simp [PyData.depthAll, PyData.depth, ih]
  simp [SeqAt.shaped, PyData.canLay0, PyData.depth, h1, h2]
/-- xs.index(i) -/
theorem qv_indexL (C : Ctx W k X) (hG : W.G = G) {ns : List Int} {z : Int} {i : Nat} (ha : PV G X Γ o (.d (.list (ns.map PyData.int))) Γ1) (hb : PV G X Γ1 e (.d (.int z)) Γ2) (h1 : ns[i]? = some z) (h2 : ∀ m, m < i → ns[m]? ≠ some z)
    (hbase : ∀ j, attributeBase o "index" (X j).env (eval o (X j).env) = eval o (X j).env := by intro _; rfl)
    (hfew : ∀ j, ((backTo cpos (starEach [e] (X j).env)).all (fun x => !x.1) && (backToKw cpos (keywordEach [] (X j).env)).all (fun x => x.1.isSome) && decide (([e] : List Expr).length + ([] : List Keyword).length + (if ([] : List Keyword).isEmpty then 0 else 1) < 30)) = true := by intro _; rfl)
    (hline : (apos.endLine == cpos.line) = true := by rfl) (hs : ∀ j, starEach [e] (X j).env = (false, eval e (X j).env) :: starEach [] (X j).env := by intro _; rfl) (hplain : ∀ j, (backTo cpos (starEach [] (X j).env)).any (·.1) = false := by intro _; rfl) :
    PV G X Γ (.Call (.Attribute o "index" apos) [e] [] cpos) (.d (.int (i : Nat))) Γ2 := by
  subst hG
  obtain ⟨ra, a1, a2⟩ := ha
  obtain ⟨rb, b1, b2⟩ := hb
  refine ⟨tBM W.G.K "list" (rIndexD W.G.K) ra (tCons rb tNil), fun j => ?_, fun F σ H Hb E Q q => a2 F σ H Hb E _ fun v H1 Hb1 E1 s1 r1 => ?_⟩
  · have z := pe_bm (X := X j) (cpos := cpos) (apos := apos) PySem.F.plainAttrs_list PySem.F.slot_list_index PySem.F.type_list_index (mt_indexD (X := X j) (room65 C j)) (a1 j) (pa_cons (b1 j) pa_nil (hs j)) (hbase j) (hfew j) hline (hs j) (hplain j)
    rw [C.K j] at z
    exact z
  · obtain ⟨l, vs, rfl, g1, g2⟩ := dp_lst r1
    refine ⟨.inl ⟨rfl, vs, seqL_up E1.sub g1⟩, b2 F σ H1 Hb1 E1 _ fun w H2 Hb2 E2 s2 r2 => ?_⟩
    refine ⟨l, w, .int z, ns.map PyData.int, i, .int z, rfl, rfl, .lst (seqL_up (s2.trans E2.sub) g1) (dpAll_up (s2.trans E2.sub) g2), dp_up E2.sub r2, shaped_ints ns, rfl, by rw [List.getElem?_map, h1]; rfl, by simp [PyData.eqv], fun m z' hm hz => ?_, q _ H2 Hb2 E2 (s1.trans s2) (.int _)⟩
    rw [List.getElem?_map] at hz
    cases h3 : ns[m]? with
    | none => rw [h3] at hz; cases hz
    | some y =>
      rw [h3] at hz
      cases hz
      rw [eqv_int, decide_eq_false_iff_not]
      intro e
      exact h2 m hm (e ▸ h3)
/-- what must hold of the written part: its tuples have no dict -/
def KTup (G : Gx) : Prop := ∀ a o, G.K.lookup a = some o → o.cls = .type "tuple" → o.dict = none
/-- w.index(i), w a way -/
theorem qv_indexT (C : Ctx W k X) (hG : W.G = G) (hK : KTup G) {ns : List Int} {z : Int} {i : Nat} (ha : PV G X Γ o (.d (.tuple (ns.map PyData.int))) Γ1) (hb : PV G X Γ1 e (.d (.int z)) Γ2) (hw : ns ∈ ways10) (h1 : ns[i]? = some z) (h2 : ∀ m, m < i → ns[m]? ≠ some z)
    (hbase : ∀ j, attributeBase o "index" (X j).env (eval o (X j).env) = eval o (X j).env := by intro _; rfl)
    (hfew : ∀ j, ((backTo cpos (starEach [e] (X j).env)).all (fun x => !x.1) && (backToKw cpos (keywordEach [] (X j).env)).all (fun x => x.1.isSome) && decide (([e] : List Expr).length + ([] : List Keyword).length + (if ([] : List Keyword).isEmpty then 0 else 1) < 30)) = true := by intro _; rfl)
    (hline : (apos.endLine == cpos.line) = true := by rfl) (hs : ∀ j, starEach [e] (X j).env = (false, eval e (X j).env) :: starEach [] (X j).env := by intro _; rfl) (hplain : ∀ j, (backTo cpos (starEach [] (X j).env)).any (·.1) = false := by intro _; rfl) :
    PV G X Γ (.Call (.Attribute o "index" apos) [e] [] cpos) (.d (.int (i : Nat))) Γ2 := by
  subst hG
  obtain ⟨ra, a1, a2⟩ := ha
  obtain ⟨rb, b1, b2⟩ := hb
  refine ⟨tIndexT W.G.K ra (tCons rb tNil), fun j => ?_, fun F σ H Hb E Q q => a2 F σ H Hb E _ fun v H1 Hb1 E1 s1 r1 => ?_⟩
  · have z := pe_indexT (X := X j) (cpos := cpos) (apos := apos) (a1 j) (pa_cons (b1 j) pa_nil (hs j)) (hbase j) (hfew j) hline (hs j) (hplain j)
    rw [C.K j] at z
    exact z
  · obtain ⟨l, vs, rfl, g1, g2⟩ := dp_tup r1
    obtain rfl := dpAll_ints g2
    refine ⟨⟨l, rfl, ?_⟩, b2 F σ H1 Hb1 E1 _ fun w H2 Hb2 E2 s2 r2 => ?_⟩
    · rcases g1 with (g | ⟨ob, g⟩) | ⟨ob, its, n, g3, g4, _⟩
      · exact absurd rfl (E1.tp l _ g ns hw)
      · exact .inl ⟨ob, _, E1.sub _ _ g, E1.tp l _ g⟩
      · exact .inr ⟨ob, g3, g4, hK l ob g3 g4⟩
    · exact ⟨l, ns, z, i, rfl, by rw [dp_int r2], seqT_up (s2.trans E2.sub) g1, h1, h2, q _ H2 Hb2 E2 (s1.trans s2) (.int _)⟩
/-- len(set(l)) -/
theorem qv_lenSet (C : Ctx W k X) (hG : W.G = G) (hm : W.mg "len" = none) (hm2 : W.mg "set" = none) {ls : List (List Int)} (ha : PV G X Γ e (.d (.list (ls.map fun l => .tuple (l.map PyData.int)))) Γ1) (hz : ls.length < 64) (hn : ls.Nodup) (hg : ∀ j, Gl (X j) "len" := by intro _; rfl) (hg2 : ∀ j, Gl (X j) "set" := by intro _; rfl)
    (na : ∀ j, starEach [e] (X j).env = (false, eval e (X j).env) :: starEach [] (X j).env := by intro _; rfl) : PV G X Γ (.Call (.Name "len" p) [.Call (.Name "set" p2) [e] [] q] [] pos) (.d (.int ls.length)) Γ1 := by
  subst hG
  obtain ⟨ra, a1, a2⟩ := ha
  refine ⟨tLenSetT W.G.K ra, fun j => ?_, fun F σ H Hb E Q q => a2 F σ H Hb E _ fun v H1 Hb1 E1 s1 r1 => ?_⟩
  · have z := pe_lenSetT (X := X j) (p := p) (p2 := p2) (q := q) (pos := pos) (C.calm j) (room65 C j) (hg j) (by rw [C.mg j]; exact hm) (hg2 j) (by rw [C.mg j]; exact hm2) (a1 j) (na j)
    rw [C.K j] at z
    exact z
  · obtain ⟨l, vs, rfl, g1, g2⟩ := dp_lst r1
    have z : ∀ {vs : List V} {ls : List (List Int)}, DpAll W.G.K Hb1 vs (ls.map fun l => .tuple (l.map PyData.int)) → ∃ ks : List (Addr × List Int), vs = ks.map (fun p => V.ref p.1) ∧ ks.map (·.2) = ls ∧ ∀ p ∈ ks, SqT W.G.K H1 p.1 (p.2.map V.int) := by
      intro vs ls h
      induction ls generalizing vs with
      | nil => cases h; exact ⟨[], rfl, rfl, fun p hp => by cases hp⟩
      | cons l ls ih => cases h with
        | cons h1 h2 =>
          obtain ⟨ks, rfl, rfl, h3⟩ := ih h2
          obtain ⟨p, vs, rfl, h4, h5⟩ := dp_tup h1
          obtain rfl := dpAll_ints h5
          refine ⟨(p, l) :: ks, rfl, rfl, fun p' hp' => ?_⟩
          rcases List.mem_cons.mp hp' with rfl | hp'
          · exact seqT_up E1.sub h4
          · exact h3 p' hp'
    obtain ⟨ks, rfl, h6, h7⟩ := z g2
    have hl : ks.length = ls.length := by rw [← h6, List.length_map]
    refine ⟨l, ks, rfl, seqL_up E1.sub g1, h7, by rw [hl]; exact hz, by rw [h6]; exact hn, fun n u hn => ?_⟩
    rw [hl]
    exact q _ _ Hb1 (E1.lay hn) s1 (.int _)
/-- [x] * n -/
theorem qf_rep (ha : PF G X Γ a (.lst ds) Γ1) {n : Int} (hb : PV G X Γ1 b (.d (.int n)) Γ2) (h1 : -(2 ^ 62) ≤ n) (h2 : n < 2 ^ 62) (hz : ds.length * n.toNat ≤ 100000) : PF G X Γ (.BinOp a .Mult b pos) (.lst (List.replicate n.toNat ds).flatten) Γ2 := by
  obtain ⟨ra, a1, a2⟩ := ha
  obtain ⟨rb, b1, b2⟩ := hb
  refine ⟨_, fun j => pe_op op_rep (a1 j) (b1 j), fun F σ H Hb E Q q => a2 F σ H Hb E _ fun l ho H1 Hb1 E1 s1 g1 g2 g3 g4 g5 => ?_⟩
  cases ho <;> first | exact (g2 : False).elim | skip
  rename_i vs
  refine b2 _ σ H1 Hb1 (E1.frame g1 g4 g5) _ fun w H2 Hb2 E2 s2 r2 => ?_
  obtain ⟨E3, f1, f2, f3⟩ := E2.unframe g3
  rw [dp_int r2]
  refine ⟨l, n, vs, rfl, rfl, f1, by omega, by omega, by rw [dpAll_len g2]; exact small_sz hz, fun m hm => ?_⟩
  have rp : ∀ m : Nat, DpAll G.K Hb2 (List.replicate m vs).flatten (List.replicate m ds).flatten := by
    intro m
    induction m with
    | zero => exact .nil
    | succ m ih => rw [List.replicate_succ, List.replicate_succ, List.flatten_cons, List.flatten_cons]; exact dpAll_app (dpAll_up s2 g2) ih
  exact q m _ _ Hb2 (E3.lay hm) (s1.trans s2) upd_same (rp _) (E3.fn hm) (E3.hbn hm) (E3.notN hm)
/-! ### a < b < c -/
theorem qv_chain {r1 r2 : R2} {op1 op2 : CmpOp} {t1 t2 t3 : Tv} {m n : Bool} (ho1 : ∀ j, OpR (X j) (compareOp op1) r1) (ho2 : ∀ j, OpR (X j) (compareOp op2) r2) (ha : PV G X Γ a t1 Γ1) (hb : PV G X Γ1 b t2 Γ2) (hc : PV G X Γ2 c t3 Γ2) (h1 : RVt G r1 Γ2 t1 t2 (.d (.bool m))) (h2 : RVt G r2 Γ2 t2 t3 (.d (.bool n)))
    (hm : lastMarks [op1, op2] [b, c] = false := by with_unfolding_all rfl) : PV G X Γ (.Compare a [op1, op2] [b, c] pos) (.d (.bool (m && n))) Γ2 := by
  obtain ⟨ra, a1, a2⟩ := ha
  obtain ⟨rb, b1, b2⟩ := hb
  obtain ⟨rc, c1, c2⟩ := hc
  refine ⟨_, fun j => pe_chain (ho1 j) (ho2 j) (a1 j) (b1 j) (c1 j) hm, fun F σ H Hb E Q q => a2 F σ H Hb E _ fun v H1 Hb1 E1 s1 d1 => b2 F σ H1 Hb1 E1 _ fun w H2 Hb2 E2 s2 d2 => h1 F σ H2 Hb2 v w E2 (rep_up s2 d1) d2 _ fun z H3 Hb3 E3 s3 d3 => ?_⟩
  refine ⟨m, dp_bl d3, ?_⟩
  cases m with
  | true => exact iteT (c2 F σ H3 Hb3 E3 _ fun u H4 Hb4 E4 s4 d4 => h2 F σ H4 Hb4 w u E4 (rep_up (s3.trans s4) d2) d4 _ fun z H5 Hb5 E5 s5 d5 => q z H5 Hb5 E5 ((((s1.trans s2).trans s3).trans s4).trans s5) d5)
  | false => exact iteF (q _ H3 Hb3 E3 ((s1.trans s2).trans s3) (.bl _))
/-- i <= j <= l -/
theorem qv_lele {i j l : Int} (ha : PV G X Γ a (.d (.int i)) Γ1) (hb : PV G X Γ1 b (.d (.int j)) Γ2) (hc : PV G X Γ2 c (.d (.int l)) Γ2) (hm : lastMarks [.LtE, .LtE] [b, c] = false := by with_unfolding_all rfl) : PV G X Γ (.Compare a [.LtE, .LtE] [b, c] pos) (.d (.bool (decide (i ≤ j) && decide (j ≤ l)))) Γ2 :=
  qv_chain (fun _ => op_le) (fun _ => op_le) ha hb hc (rvt_bl0 (g := fun i j => decide (i ≤ j))) (rvt_bl0 (g := fun i j => decide (i ≤ j))) hm
theorem qb_lele {i j l : Int} (ha : PV G X Γ a (.d (.int i)) Γ1) (hb : PV G X Γ1 b (.d (.int j)) Γ2) (hc : PV G X Γ2 c (.d (.int l)) Γ2) (hm : lastMarks [.LtE, .LtE] [b, c] = false := by with_unfolding_all rfl) : PB G X Γ (.Compare a [.LtE, .LtE] [b, c] pos) (decide (i ≤ j) && decide (j ≤ l)) Γ2 := by
  obtain ⟨ra, a1, a2⟩ := ha
  obtain ⟨rb, b1, b2⟩ := hb
  obtain ⟨rc, c1, c2⟩ := hc
  refine ⟨_, fun n => pt_chain op_le op_le (a1 n) (b1 n) (c1 n) hm, fun F σ H Hb E Q q => a2 F σ H Hb E _ fun v H1 Hb1 E1 s1 d1 => b2 F σ H1 Hb1 E1 _ fun w H2 Hb2 E2 s2 d2 => ?_⟩
  refine ⟨i, j, dp_int d1, dp_int d2, _, rfl, ?_⟩
  by_cases h : i ≤ j
  · rw [decide_eq_true h] at q ⊢
    exact iteT (c2 F σ H2 Hb2 E2 _ fun u H4 Hb4 E4 s4 d4 => ⟨j, l, dp_int (dp_up s4 d2), dp_int d4, _, rfl, q H4 Hb4 E4 ((s1.trans s2).trans s4)⟩)
  · rw [decide_eq_false h] at q ⊢
    exact iteF ⟨_, rfl, q H2 Hb2 E2 (s1.trans s2)⟩
end
section
variable {G : Gx} {W : Wd} {k : Nat} {X : Cx} {Γ Γ1 Γ2 : List Sl} {x : Str} {b e : Expr} {p pos pos' apos cpos : Pos} {ds : List PyData} {d : PyData}
/-- xs[i] = e -/
theorem qs_lput (C : Ctx W k (one X)) (hG : W.G = G) (s : Nat) {i : Int} {j : Nat} (he : PV G (one X) Γ e (.d d) Γ1) (hb : PV G (one X) Γ1 b (.d (.int i)) Γ2) (hj : ixN ds.length i = some j) (h0 : ∃ ds0, Γ1[s]? = some (.ow (.lst ds0)) := by exact ⟨_, rfl⟩) (h1 : Γ2[s]? = some (.ow (.lst ds)) := by rfl) (hN : X.N[s]? = some x := by rfl)
    (hv : Vis X.env.scope x := by first | exact Or.inl rfl | exact Or.inr (Or.inl rfl) | exact Or.inr (Or.inr rfl)) (hd : (x == ("__debug__" : Str)) = false := by decide) (hcd : (x == ("__classdict__" : Str)) = false := by decide)
    (ha : ∀ v, assign (.Subscript (.Name x p) b pos') X.env v = (do
      let ov ← holding [v] (eval (.Name x p) X.env)
      let iv ← holding [v, ov] (eval b X.env)
      standAt pos'
      holding [v, ov, iv] (setItem ov iv v)
      release [v, ov, iv] []) := by intro _; rfl)
    (hs : swapsWithSole [.Subscript (.Name x p) b pos'] e pos.line X.env = pure false := by rfl) (hw : swappedStores [.Subscript (.Name x p) b pos'] e X.env = pure none := by rfl)
    (hh : (assignEach [.Subscript (.Name x p) b pos'] X.env).map (·.2) = [assign (.Subscript (.Name x p) b pos') X.env] := by rfl) :
    QS G X Γ (.Assign [.Subscript (.Name x p) b pos'] e pos) (.nx (Γ2.set s (.ow (.lst (ds.set j d))))) := by
  subst hG
  obtain ⟨re, e1, e2⟩ := he
  obtain ⟨rb, b1, b2⟩ := hb
  refine ⟨_, ps_asg (e1 ()) (pg_sub (pe_var hN hv hd hcd) (b1 ()) set_list ha) hs hw hh, fun F σ H Hb E D w => e2 F σ H Hb E _ fun v H1 Hb1 E1 s1 r1 => ?_⟩
  obtain ⟨ds0, h0⟩ := h0
  obtain ⟨l, vs0, g1, _⟩ := ow_lst E1 h0
  refine ⟨_, g1, b2 F σ H1 Hb1 E1 _ fun u H2 Hb2 E2 s2 r2 => ?_⟩
  obtain ⟨l', vs, f1, f2, f3⟩ := ow_lst E2 h1
  rw [g1] at f1
  cases f1
  refine ⟨l, vs, i, j, rfl, dp_int r2, f2, by rw [dpAll_len f3]; exact hj, ?_⟩
  exact w σ _ Hb2 (E2.mut h1 g1 (dpAll_set j f3 (dp_up s2 r1))) (s1.trans s2)
/-- xs.remove(e) -/
theorem qs_remove (C : Ctx W k (one X)) (hG : W.G = G) (s : Nat) {j : Nat} {z : PyData} (he : PV G (one X) Γ e (.d d) Γ1) (hsl : SeqAt.shaped (.list ds) = true) (hsd : SeqAt.shaped d = true) (hz : ds[j]? = some z) (hzj : PyData.eqv z d = true) (hno : ∀ (m : Nat) (z' : PyData), m < j → ds[m]? = some z' → PyData.eqv z' d = false)
    (h0 : ∃ ds0, Γ[s]? = some (.ow (.lst ds0)) := by exact ⟨_, rfl⟩) (h1 : Γ1[s]? = some (.ow (.lst ds)) := by rfl) (hN : X.N[s]? = some x := by rfl) (hv : Vis X.env.scope x := by first | exact Or.inl rfl | exact Or.inr (Or.inl rfl) | exact Or.inr (Or.inr rfl))
    (hd : (x == ("__debug__" : Str)) = false := by decide) (hcd : (x == ("__classdict__" : Str)) = false := by decide) (hbase : attributeBase (.Name x p) "remove" X.env (eval (.Name x p) X.env) = eval (.Name x p) X.env := by rfl)
    (hfew : ((backTo cpos (starEach [e] X.env)).all (fun x => !x.1) && (backToKw cpos (keywordEach [] X.env)).all (fun x => x.1.isSome) && decide (([e] : List Expr).length + ([] : List Keyword).length + (if ([] : List Keyword).isEmpty then 0 else 1) < 30)) = true := by rfl)
    (hline : (apos.endLine == cpos.line) = true := by rfl) (hs : starEach [e] X.env = (false, eval e X.env) :: starEach [] X.env := by rfl) (hplain : (backTo cpos (starEach [] X.env)).any (·.1) = false := by rfl) (hsw : swapsWith (.Call (.Attribute (.Name x p) "remove" apos) [e] [] cpos) none pos.line X.env = pure false := by rfl) :
    QS G X Γ (.Expr (.Call (.Attribute (.Name x p) "remove" apos) [e] [] cpos) pos) (.nx (Γ1.set s (.ow (.lst (ds.eraseIdx j))))) := by
  subst hG
  obtain ⟨r, r1, r2⟩ := he
  refine ⟨tDrop (tBM W.G.K "list" (rRemoveD W.G.K) (tVar s) (tCons r tNil)), ?_, fun F σ H Hb E D w => ?_⟩
  · have z := pe_bm (X := X) (cpos := cpos) (apos := apos) PySem.F.plainAttrs_list PySem.F.slot_list_remove PySem.F.type_list_remove (mt_removeD (X := X) (room65 C ())) (pe_var (pos := p) hN hv hd hcd) (pa_cons (r1 ()) pa_nil hs) hbase hfew hline hs hplain
    rw [show X.K = W.G.K from C.K ()] at z
    exact ps_expr z hsw
  · obtain ⟨ds0, h0⟩ := h0
    obtain ⟨l, vs0, e1, e2, _⟩ := ow_lst E h0
    refine ⟨_, e1, tyv_list e2, r2 F σ H Hb E _ fun v H' Hb' E' s' r' => ?_⟩
    obtain ⟨l', vs, f1, f2, f3⟩ := ow_lst E' h1
    rw [e1] at f1
    cases f1
    refine ⟨Hb', l, v, d, vs, ds, j, z, E'.sub, rfl, rfl, f2, f3, r', hsl, hsd, hz, hzj, hno, ?_⟩
    have er : ∀ {K : PySem.W.Frag} {H : Hp} {vs : List V} {ds : List PyData} (j : Nat), DpAll K H vs ds → DpAll K H (vs.eraseIdx j) (ds.eraseIdx j) := by
      intro K H vs
      induction vs with
      | nil => intro ds j h; cases h; exact .nil
      | cons v vs ih => intro ds j h; cases h with
        | cons h1 h2 => cases j with
          | zero => exact h2
          | succ j => exact .cons h1 (ih j h2)
    exact w σ _ Hb' (E'.mut h1 e1 (er j f3)) s'
end
end Lk
set_option Elab.async false
set_option linter.all false
set_option maxRecDepth 100000
set_option maxHeartbeats 2000000
/-! T12: objects made. -/
namespace Lk
open PySem PySem.Spec PyProof.Rows L2
/-- the promise of __init__: the fields it leaves -/
def spI (G : Gx) (C : Addr) (R : List Tv → List (Str × Tv) → Prop) : Sp := fun vs H Q _ => ∃ (x dx : Addr) (vs' : List V) (Hb : Hp) (ts : List Tv) (fds : List (Str × Tv)), vs = .ref x :: vs' ∧ H x = some (.ins C dx []) ∧ Hb x = none ∧ TOk Hb ∧ Same Hb H ∧ RepL G Hb vs' ts ∧ R ts fds ∧
  ∀ H' Hb' fs dx', TOk Hb' → H' x = some (.ins C dx' fs) → FdD G Hb' fs fds → Hb' x = none → (∀ b o, b ≠ x → H b = some o → H' b = some o) → Same Hb Hb' → Same Hb' H' → (∀ b, b ≠ x → H b ≠ none → Hb b = none → Hb' b = none) → Q .non H'
/-- what is known of __init__ of the class at C -/
def DefOkI (W : Wd) (k : Nat) (C : Addr) (ps : List Str) (R : List Tv → List (Str × Tv) → Prop) : Prop := ∃ f fd, Mk W.G.K C f ∧ Binds W.G.K fd ps [] ∧ FnOk W.P W.w W.G.K W.mg W.base CX0 k f fd ps (spI W.G C R)
theorem DefOkI.mono {W : Wd} {j k : Nat} {C : Addr} {ps : List Str} {R : List Tv → List (Str × Tv) → Prop} (h : DefOkI W j C ps R) (l : j ≤ k) : DefOkI W k C ps R := by
  obtain ⟨f, fd, a, b, d⟩ := h
  exact ⟨f, fd, a, b, d.mono l⟩
def startGI (N : List Str) (a C : Addr) (ts : List Tv) : List Sl := (startG N (.any :: ts)).set 0 (.ow (.obj a C []))
open Classical in
theorem env_startI {G : Gx} {H Hb : Hp} {N : List Str} {a C dx : Addr} {vs : List V} {ts : List Tv} (htp : TOk Hb) (hs : Same Hb H) (hr : RepL G Hb vs ts) (ha : H a = some (.ins C dx [])) (hb : Hb a = none) :
    ∃ F : Hp, EnvOk G F (startGI N a C ts) (L2.start N (.ref a :: vs)) H Hb ∧ F a = none ∧ ∀ b, b ≠ a → Hb b = none → F b = H b := by
  have E := env_start (N := N) htp hs (show RepL G Hb (.ref a :: vs) (.any :: ts) from .cons ⟨a, rfl⟩ hr)
  let F : Hp := fun b => if b = a then none else if Hb b = none then H b else none
  have e : (fun b => if Hb b = none then H b else none) = upd F a (.ins C dx []) := by
    funext b
    by_cases q : b = a
    · subst q
      rw [upd_same]
      show (if Hb b = none then H b else none) = _
      rw [if_pos hb, ha]
    · rw [upd_ne q]
      show _ = (if b = a then none else if Hb b = none then H b else none)
      rw [if_neg q]
  rw [e] at E
  have hf : F a = none := by show (if a = a then none else _) = _; rw [if_pos rfl]
  obtain ⟨E1, h1, h2, h3⟩ := E.unframe hf
  have E2 := E1.own (i := 0) (o := .obj a C []) h1 h2 hf h3 ⟨rfl, rfl, .nil⟩
  refine ⟨F, ?_, hf, fun b hb' hn => ?_⟩
  · have es : (L2.start N (.ref a :: vs)).set 0 (some (.ref a)) = L2.start N (.ref a :: vs) := rfl
    rw [es] at E2
    exact E2
  · show (if b = a then none else if Hb b = none then H b else none) = _
    rw [if_neg hb', if_pos hn]
/-- what __init__'s text says -/
structure InitT (W : Wd) (C : Addr) (qual : Str) (st : Stmt) : Prop where
  ex : ∃ f fd, Mk W.G.K C f ∧ FunD W.G.K "__init__" qual (defArgs st) (defBody st) (defScope st) [] [] f fd
theorem defI_ok {W : Wd} {C : Addr} {qual : Str} {st : Stmt} {N ps : List Str} {k : Nat} (R : List Tv → List (Str × Tv) → Prop) (T : InitT W C qual st) (S : FnScope N ps (defScope st)) (hlen : ∀ ts fds, R ts fds → ts.length + 1 = ps.length)
    (hbind : ∀ (kV doc pm : Value) (an : Option Addr) (cdv ct : Value) (us : List Value), us.length = ps.length → bindArgs (PySem.W.fnOf "__init__" qual (defArgs st) (defBody st) (defScope st) .none kV doc pm an cdv ct) ⟨us, []⟩ = pure (ps.zip us))
    (hbody : ∀ (f : Addr) (cdv : Value) (A : Around) (outer : List Env) (s : Shared) (H : Hp) (E : XK), Ctx W k (one (cx W N qual (defScope st) f cdv A outer s H E)) → ∀ a ts fds, R ts fds → ∃ Γ', QB W.G (cx W N qual (defScope st) f cdv A outer s H E) (startGI N a C ts) (defBody st) (.nx Γ') ∧ Γ'[0]? = some (.ow (.obj a C fds))) : DefOkI W (k + 1) C ps R := by
  obtain ⟨f, fd, hm, F⟩ := T.ex
  refine ⟨f, fd, hm, F.bindsN hbind, F.ok S (fun vs H Q E h => ?_) (fun cdv A outer s H vs Q E hr h => ?_)⟩
  · obtain ⟨a, dx, vs', Hb, ts, fds, rfl, _, _, _, _, h1, h2, _⟩ := h
    rw [List.length_cons, Paired.length h1]
    exact hlen ts fds h2
  · obtain ⟨a, dx, vs', Hb, ts, fds, rfl, ha, hb, h0, h1, h2, h3, q⟩ := h
    have C' : Ctx W k (one (cx W N qual (defScope st) f cdv A outer s H E)) := ⟨fun _ => rfl, fun _ => rfl, fun _ => rfl, fun _ => rfl, fun _ => rfl, fun _ => rfl, fun _ => S.nd, fun _ => hr⟩
    obtain ⟨Γ', ⟨r, r1, r2⟩, g'⟩ := hbody f cdv A outer s H E C' a ts fds h3
    obtain ⟨F', E0, f1, f2⟩ := env_startI (N := N) (C := C) h0 h1 h2 ha hb
    refine ⟨r, PSs.nox r1, r2 _ _ _ _ E0 _ fun σ' H' Hb' E' s' => ?_⟩
    obtain ⟨b, ho, e1, e2, e3, e4, e5⟩ := E'.ow g'
    cases ho <;> first | exact (e5 : False).elim | skip
    rename_i C2 dx2 fs2
    obtain ⟨rfl, rfl, e6⟩ := e5
    refine q H' Hb' _ _ E'.tp e4 e6 e3 (fun b o hb' e => ?_) s' E'.sub (fun b hb' hb2 hn => ?_)
    · cases z : Hb b with
      | none => exact (E'.frm b o (by rw [f2 b hb' z]; exact e)).1
      | some u =>
        have e3 := h1 b u z
        rw [e] at e3
        cases e3
        exact E'.sub b o (s' b o z)
    · cases e : H b with
      | none => exact absurd e hb2
      | some o => exact (E'.frm b o (by rw [f2 b hb' hn]; exact e)).2
section
variable {ι : Type} {W : Wd} {G : Gx} {k j : Nat} {X : ι → Cx} {Γ Γ1 : List Sl} {x : Str} {ps : List Str} {R : List Tv → List (Str × Tv) → Prop} {e : Expr} {es : List Expr} {p pos : Pos} {ts : List Tv} {C0 : Addr} {fds : List (Str × Tv)} {t : Tv}
/-- C(e, ..): an object that stands still from here on -/
theorem qv_make (C : Ctx W k X) (hG : W.G = G) (d : DefOkI W j C0 ps R) (hm : W.mg x = some (.ref C0)) (ha : PL G X Γ (e :: es) ts Γ1) (hr : R ts fds) (hrep : ∀ (Hb : Hp) (a dx : Addr) (fs : List (Str × V)), Hb a = some (.ins C0 dx fs) → FdD G Hb fs fds → Rep G Hb (.ref a) t) (hj : j + 1 ≤ k := by decide)
    (hg : ∀ i, Gl (X i) x := by intro _; rfl) (hdb : (x == ("__debug__" : Str)) = false := by decide) (he : ∀ i, starEach (e :: es) (X i).env = (false, eval e (X i).env) :: starEach es (X i).env := by intro _; rfl) (hpl : ∀ i, (backTo pos (starEach es (X i).env)).any (·.1) = false := by intro _; rfl) :
    PV G X Γ (.Call (.Name x p) (e :: es) [] pos) t Γ1 := by
  subst hG
  obtain ⟨f, fd, hk, hb, F⟩ := d
  obtain ⟨u, u1, u2⟩ := ha
  refine ⟨tMake C0 (spI W.G C0 R) [] E0 u, fun i => ?_, fun F' σ H Hb E Q q => u2 F' σ H Hb E _ fun vs H1 Hb1 E1 s1 r1 => ?_⟩
  · have F2 : FnOk (X i).prog (X i).w (X i).K (X i).mg (X i).base CX0 j f fd ps (spI W.G C0 R) := by
      rw [C.prog i, C.w i, C.K i, C.mg i, C.base i]
      exact F
    exact pe_make (by rw [C.K i]; exact hk) F2 ((C.room i).mono hj) (hg i) (by rw [C.mg i]; exact hm) (by rw [C.K i]; exact hb) .nil pass0 (u1 i) hdb (he i) (hpl i)
  · intro a dx hax hdx hne
    show spI W.G C0 R (.ref a :: (vs ++ [])) _ _ E0
    rw [List.append_nil]
    have nax : a ≠ dx := fun z => hne z.symm
    have hdx' : upd H1 dx (.own a) a = none := by rw [upd_ne nax]; exact hax
    have E2 := (E1.lay (o := .own a) hdx).lay (p := a) (o := .ins C0 dx []) hdx'
    refine ⟨a, dx, vs, Hb1, ts, fds, rfl, upd_same, E1.hbn hax, E1.tp, E2.sub, r1, hr, fun H' Hb' fs dx' a0 a1 a2 a3 a4 a5 a6 a7 => ⟨rfl, ?_⟩⟩
    have fa := E1.fn hax
    have na := E1.notN hax
    have E3 : EnvOk W.G F' Γ1 σ H' Hb' := by
      refine ⟨E2.len, a6, fun b o e => ?_, fun i sl hs => ?_, E2.ap, a0⟩
      · have nb : b ≠ a := fun z => by subst z; rw [fa] at e; cases e
        exact ⟨a4 _ _ nb (E2.frm b o e).1, a7 b nb (by rw [(E2.frm b o e).1]; intro z; cases z) (E2.frm b o e).2⟩
      · have z := E2.sl i sl hs
        cases sl with
        | no => exact z
        | fr t' =>
          obtain ⟨v', e1, e2⟩ := z
          exact ⟨v', e1, rep_up a5 e2⟩
        | ow o =>
          obtain ⟨b, ho, e1, e2, e3, e4, e5⟩ := z
          have nb : b ≠ a := fun z => by subst z; exact na i o hs e1
          exact ⟨b, ho, e1, e2, a7 b nb (by rw [e4]; intro z; cases z) e3, a4 _ _ nb e4, owc_up a5 e5⟩
    have E4 := E3.still a1 a3 fa na trivial
    have up := same_upd a3 (o := .ins C0 dx' fs)
    exact q (.ref a) H' _ E4 ((s1.trans a5).trans up) (hrep _ a dx' fs upd_same (Paired.mapP a2 fun _ _ z => ⟨z.1, rep_up up z.2⟩))
theorem rep_ctry {G : Gx} {Hb : Hp} {a dx : Addr} {fs : List (Str × V)} {l ti ah : PyData} (h : Hb a = some (.ins G.cC dx fs)) (hf : FdD G Hb fs [("own_lanes", .d l), ("own_ties", .d ti), ("own_ahead", .d ah)]) : Rep G Hb (.ref a) (.ctry ⟨l, ti, ah⟩) := by
  match fs, hf with
  | [(n1, v1), (n2, v2), (n3, v3)], .cons ⟨h1, h2⟩ (.cons ⟨h3, h4⟩ (.cons ⟨h5, h6⟩ .nil)) =>
    cases h1; cases h3; cases h5
    exact ⟨a, dx, _, v1, v2, v3, rfl, h, rfl, rfl, rfl, rfl, h2, h4, h6⟩
theorem rep_web {G : Gx} {Hb : Hp} {a dx : Addr} {fs : List (Str × V)} {c : CD} {b : PyData} (h : Hb a = some (.ins G.cW dx fs)) (hf : FdD G Hb fs [("own_country", .ctry c), ("own_books", .d b)]) : Rep G Hb (.ref a) (.web c b) := by
  match fs, hf with
  | [(n1, v1), (n2, v2)], .cons ⟨h1, h2⟩ (.cons ⟨h3, h4⟩ .nil) =>
    cases h1; cases h3
    exact ⟨a, dx, _, v1, v2, rfl, h, rfl, rfl, rfl, h2, h4⟩
end
section
variable {W : Wd} {G : Gx} {k : Nat} {Γ Γ1 : List Sl} {y f : Str} {e : Expr} {p pos pos' : Pos} {a C0 : Addr} {fds : List (Str × Tv)} {t : Tv}
theorem ow_obj {F H Hb : Hp} {σ : L2.St} {s : Nat} (E : EnvOk G F Γ σ H Hb) (h : Γ[s]? = some (.ow (.obj a C0 fds))) : ∃ dx fs, σ[s]? = some (some (.ref a)) ∧ H a = some (.ins C0 dx fs) ∧ FdD G Hb fs fds := by
  obtain ⟨a', ho, e1, e2, e3, e4, e5⟩ := E.ow h
  cases ho <;> first | exact (e5 : False).elim | skip
  obtain ⟨rfl, rfl, e6⟩ := e5
  exact ⟨_, _, e1, e4, e6⟩
theorem fdd_look {Hb : Hp} : ∀ {fs : List (Str × V)} {fds : List (Str × Tv)} {t : Tv}, FdD G Hb fs fds → fds.lookup f = some t → ∃ v, fs.lookup f = some v ∧ Rep G Hb v t
  | _, _, _, .nil, h => by cases h
  | _, _, t, @Paired.cons _ _ _ p q fs fds h hs, e => by
    obtain ⟨n, v⟩ := p
    obtain ⟨m, t'⟩ := q
    obtain ⟨h1, h2⟩ := h
    have h1' : n = m := h1
    subst h1'
    rw [List.lookup_cons] at e ⊢
    cases z : (f == n) with
    | true =>
      rw [z] at e
      cases e
      exact ⟨v, rfl, h2⟩
    | false =>
      rw [z] at e
      exact fdd_look hs e
/-- self.f read while self is made -/
theorem qv_fldO {ι : Type} {X : ι → Cx} (C : Ctx W k X) (hG : W.G = G) (cl : Cls G.K C0) (s : Nat) (na : NoAttr G.K C0 f) (hl : fds.lookup f = some t) (h1 : Γ[s]? = some (.ow (.obj a C0 fds))) (hN : ∀ j, (X j).N[s]? = some y := by intro _; rfl)
    (hv : ∀ j, Vis (X j).env.scope y := by intro _; first | exact Or.inl rfl | exact Or.inr (Or.inl rfl) | exact Or.inr (Or.inr rfl)) (hb : ∀ j, attributeBase (.Name y p) f (X j).env (eval (.Name y p) (X j).env) = eval (.Name y p) (X j).env := by intro _; rfl) (hd : (y == ("__debug__" : Str)) = false := by decide) (hcd : (y == ("__classdict__" : Str)) = false := by decide) :
    PV G X Γ (.Attribute (.Name y p) f pos) t Γ := by
  subst hG
  refine ⟨tFld W.G.K (tVar s) f, fun j => by have z := pe_fld (pos := pos) (f := f) (pe_var (pos := p) (hN j) (hv j) hd hcd) (hb j); rw [C.K j] at z; exact z, fun F σ H Hb E Q q => ?_⟩
  obtain ⟨dx, fs, e1, e2, e3⟩ := ow_obj E h1
  obtain ⟨v, h4, h5⟩ := fdd_look e3 hl
  exact ⟨_, e1, a, C0, dx, fs, v, rfl, e2, cl, na, h4, q v H Hb E (Same.refl _) h5⟩
/-- self.f = e, a new field -/
theorem qs_fld {X : Cx} (C : Ctx W k (one X)) (hG : W.G = G) (cl : Cls G.K C0) (s : Nat) (na : NoAttr G.K C0 f) (he : PV G (one X) Γ e t Γ1) (h1 : Γ1[s]? = some (.ow (.obj a C0 fds))) (hl : fds.all (fun q => !(q.1 == f)) = true := by rfl) (hz : fds.length < 100 := by exact Nat.lt_of_lt_of_le (Nat.lt_succ_self _) (Nat.le_of_ble_eq_true rfl)) (hN : X.N[s]? = some y := by rfl)
    (hv : Vis X.env.scope y := by first | exact Or.inl rfl | exact Or.inr (Or.inl rfl) | exact Or.inr (Or.inr rfl)) (hd : (y == ("__debug__" : Str)) = false := by decide) (hcd : (y == ("__classdict__" : Str)) = false := by decide)
    (hs : swapsWith e (some (.Attribute (.Name y p) f pos')) pos.line X.env = pure false := by rfl) : QS G X Γ (.Assign [.Attribute (.Name y p) f pos'] e pos) (.nx (Γ1.set s (.ow (.obj a C0 (fds ++ [(f, t)]))))) := by
  subst hG
  obtain ⟨r, r1, r2⟩ := he
  refine ⟨sFld W.G.K (tVar s) r f, by have z := ps_fld (X := X) (pos := pos) (f := f) (pe_var (pos := p) hN hv hd hcd) (r1 ()) hs; rw [show X.K = W.G.K from C.K ()] at z; exact z, fun F σ H Hb E D w => r2 F σ H Hb E _ fun v H1 Hb1 E1 s1 d1 => ?_⟩
  obtain ⟨dx, fs, e1, e2, e3⟩ := ow_obj E1 h1
  refine ⟨_, e1, a, C0, dx, fs, rfl, e2, cl, na, by rw [Paired.length e3]; omega, ?_⟩
  have pf : ∀ {fs : List (Str × V)} {fds : List (Str × Tv)}, FdD W.G Hb1 fs fds → fds.all (fun q => !(q.1 == f)) = true → FdD W.G Hb1 (putF f v fs) (fds ++ [(f, t)]) := by
    intro fs fds h
    induction h with
    | nil => intro _; exact .cons ⟨rfl, d1⟩ .nil
    | @cons p q fs fds h hs ih =>
      intro hl
      rw [List.all_cons, Bool.and_eq_true] at hl
      obtain ⟨n, u⟩ := p
      obtain ⟨m, t'⟩ := q
      obtain ⟨h1, h2⟩ := h
      have h1' : n = m := h1
      subst h1'
      have hne : n ≠ f := fun z => by
        subst z
        simp at hl
      have hp : putF f v ((n, u) :: fs) = (n, u) :: putF f v fs := by
        first
          | (rw [putF, if_neg hne])
          | (rw [putF, if_neg (fun z => hne z.symm)])
          | simp [putF, hne]
      rw [hp]
      exact .cons ⟨rfl, h2⟩ (ih hl.2)
  exact w σ _ Hb1 (E1.mut h1 e1 ⟨rfl, rfl, pf e3 hl⟩) s1
end
end Lk
set_option Elab.async false
set_option linter.all false
set_option maxRecDepth 100000
set_option maxHeartbeats 2000000
/-! T13: own classes asked, a property, keywords, defaults, repr. -/
namespace Lk
open PySem PySem.Spec PyProof.Rows L2
/-- what isinstance asks of an own class -/
structure IsiC (G : Gx) (C : Addr) : Prop where
  cl : Cls G.K C
  ha : PySem.W.findIn G.K (.ref C) "__class__" = some (some (.builtin "object.__class__"))
  hn : PySem.W.specialIn G.K (.builtin "object.__class__") "__get__" = some (some (.builtin "getset_descriptor.__get__"))
  ht : PySem.W.takesIn G.K (.builtin "object.__class__") = some true
  hm : PySem.W.mroIn G.K C (.type "object") = some true
  kit : PySem.W.kitOne G.K (.ref C) (.ref C) = some true
section
variable {ι : Type} {G : Gx} {W : Wd} {k : Nat} {X : ι → Cx} {Γ Γ1 Γ2 Γ3 : List Sl} {a b e o : Expr} {es rest : List Expr} {pos p q apos cpos : Pos} {t t1 t2 : Tv} {ds ds2 : List PyData} {d : PyData} {c : CD} {bs : PyData}
/-- isinstance(e, C), e of C -/
theorem qv_isiC (C : Ctx W k X) (hG : W.G = G) {x : Str} {C0 : Addr} (I : IsiC G C0) (hm : W.mg "isinstance" = none) (hx : W.mg x = some (.ref C0)) (ha : PV G X Γ e t Γ1) (hi : ∀ (H : Hp) (v : V), Rep G H v t → ∃ a dx fs, v = .ref a ∧ H a = some (.ins C0 dx fs)) (hg : ∀ j, Gl (X j) "isinstance" := by intro _; rfl) (hgx : ∀ j, Gl (X j) x := by intro _; rfl)
    (hs : ∀ j, starEach [e, .Name x q] (X j).env = (false, eval e (X j).env) :: starEach [.Name x q] (X j).env := by intro _; rfl) (hs2 : ∀ j, starEach [.Name x q] (X j).env = (false, eval (.Name x q) (X j).env) :: starEach [] (X j).env := by intro _; rfl)
    (hpl : ∀ i, (backTo pos (starEach [.Name x q] (X i).env)).any (·.1) = false := by intro _; rfl) (hd : (x == ("__debug__" : Str)) = false := by decide) : PV G X Γ (.Call (.Name "isinstance" p) [e, .Name x q] [] pos) (.d (.bool true)) Γ1 := by
  subst hG
  obtain ⟨u, u1, u2⟩ := ha
  refine ⟨tCB (rIsi W.G.K) (tCons u (tCons (tC (.ref C0)) tNil)), fun j => by
    have z := pe_callB (p := p) (pos := pos) (call_isi (X := X j)) (hg j) (by rw [C.mg j]; exact hm) PyProof.Rows.boot_isinstance (pa_cons (u1 j) (pa_cons (pe_glob (pos := q) (v := .ref C0) (hgx j) (by rw [C.mg j]; exact hx) rfl hd) pa_nil (hs2 j)) (hs j)) (he := hs j) (hpl := hpl j)
    rw [C.K j] at z
    exact z, fun F σ H Hb E Q q => u2 F σ H Hb E _ fun v H' Hb' E' s' r' => ?_⟩
  obtain ⟨a, dx, fs, rfl, ha⟩ := hi _ _ r'
  exact ⟨.ref a, .ref C0, .ref C0, .ref C0, true, rfl, .own C0, .base (.ins (E'.sub _ _ ha) I.cl I.ha I.hn I.ht I.hm), I.kit, q _ H' Hb' E' s' (.bl _)⟩
theorem isi_ctry {H : Hp} {v : V} {c : CD} (h : Rep G H v (.ctry c)) : ∃ a dx fs, v = .ref a ∧ H a = some (.ins G.cC dx fs) := by
  obtain ⟨p, dx, fs, v1, v2, v3, a1, a2, _⟩ := h
  exact ⟨p, dx, fs, a1, a2⟩
theorem isi_web {H : Hp} {v : V} {c : CD} {b : PyData} (h : Rep G H v (.web c b)) : ∃ a dx fs, v = .ref a ∧ H a = some (.ins G.cW dx fs) := by
  obtain ⟨p, dx, fs, v1, v2, a1, a2, _⟩ := h
  exact ⟨p, dx, fs, a1, a2⟩
/-- the property country of Web -/
structure PropT (W : Wd) : Prop where
  ex : ∃ p g fd, PropOf W.G.K W.G.cW "country" p g ∧ Cls W.G.K W.G.cW ∧ Binds W.G.K fd ["self"] [] ∧ FnOk W.P W.w W.G.K W.mg W.base CX0 1 g fd ["self"] (getSp W.G.cW "own_country")
theorem qv_country (C : Ctx W k X) (hG : W.G = G) (T : PropT W) (h : PV G X Γ e (.web c bs) Γ1) (hk : 2 ≤ k := by decide) (hb : ∀ j, attributeBase e "country" (X j).env (eval e (X j).env) = eval e (X j).env := by intro _; rfl) : PV G X Γ (.Attribute e "country" pos) (.ctry c) Γ1 := by
  subst hG
  obtain ⟨r, h1, h2⟩ := h
  obtain ⟨p, g, fd, hp, hc, hbd, F⟩ := T.ex
  refine ⟨tProp W.G.cW (getSp W.G.cW "own_country") [] E0 r, fun j => ?_, fun F σ H Hb E Q q => h2 F σ H Hb E _ fun v H' Hb' E' s' r' => ?_⟩
  · have F2 : FnOk (X j).prog (X j).w (X j).K (X j).mg (X j).base CX0 1 g fd ["self"] (getSp W.G.cW "own_country") := by
      rw [C.prog j, C.w j, C.K j, C.mg j, C.base j]
      exact F
    exact pe_prop (h1 j) (by rw [C.K j]; exact hc) (by rw [C.K j]; exact hp) F2 ((C.room j).mono hk) (by rw [C.K j]; exact hbd) .nil pass0 (hb j)
  · obtain ⟨x, dx, fs, v1, v2, rfl, a2, a3, a4, a5, a6, a7⟩ := r'
    exact ⟨x, dx, fs, rfl, E'.sub _ _ a2, x, dx, fs, v1, rfl, E'.sub _ _ a2, a3, q v1 H' Hb' E' s' a6⟩
end
/-! ### a def with a default, called without it -/
structure DefTd (W : Wd) (x : Str) (st : Stmt) (dvs : List V) : Prop where
  ex : ∃ f fd, W.mg x = some (.ref f) ∧ FunD W.G.K x x (defArgs st) (defBody st) (defScope st) dvs [] f fd
/-- the promise with n arguments given -/
def DefOkD (W : Wd) (k : Nat) (x : Str) (ps : List Str) (dvs : List V) (R : List Tv → Tv → Prop) : Prop := ∃ f fd ds, W.mg x = some (.ref f) ∧ PySem.W.keepIn W.G.K (.ref f) = true ∧ Vals dvs ds ∧ Binds W.G.K fd ps ds ∧ FnOk W.P W.w W.G.K W.mg W.base CX0 k f fd ps (spV W.G R)
theorem fn_okV {W : Wd} {x qual : Str} {args : Arguments} {body : List Stmt} {scope : Scope} {dvs : List V} {kws : List (Str × V)} {f : Addr} {fd : FuncData} {N ps : List Str} {k : Nat} (R : List Tv → Tv → Prop) (F : FunD W.G.K x qual args body scope dvs kws f fd) (S : FnScope N ps scope) (hlen : ∀ ts t, R ts t → ts.length = ps.length)
    (hbody : ∀ (f : Addr) (cdv : Value) (A : Around) (outer : List Env) (s : Shared) (H : Hp) (E : XK), Ctx W k (one (cx W N qual scope f cdv A outer s H E)) → ∀ ts t, R ts t → QB W.G (cx W N qual scope f cdv A outer s H E) (startG N ts) body (.rt t)) : FnOk W.P W.w W.G.K W.mg W.base CX0 (k + 1) f fd ps (spV W.G R) := by
  refine F.ok S (fun vs H Q E h => ?_) (fun cdv A outer s H vs Q E hr h => ?_)
  · obtain ⟨Hb, ts, t, _, _, h1, h2, _⟩ := h
    rw [Paired.length h1]
    exact hlen ts t h2
  · obtain ⟨Hb, ts, t, h0, h1, h2, h3, q⟩ := h
    have C : Ctx W k (one (cx W N qual scope f cdv A outer s H E)) := ⟨fun _ => rfl, fun _ => rfl, fun _ => rfl, fun _ => rfl, fun _ => rfl, fun _ => rfl, fun _ => S.nd, fun _ => hr⟩
    obtain ⟨r, r1, r2⟩ := hbody f cdv A outer s H E C ts t h3
    refine ⟨r, PSs.nox r1, r2 _ _ _ _ (env_start h0 h1 h2) _ fun v σ' Γ' H' Hb' E' s' r' => ?_⟩
    refine q H' Hb' v E'.tp (fun b o e => ?_) s' E'.sub (fun b hb hn => ?_) r'
    · by_cases z : Hb b = none
      · exact (E'.frm b o (by show (if Hb b = none then H b else none) = some o; rw [if_pos z]; exact e)).1
      · cases e2 : Hb b with
        | none => exact absurd e2 z
        | some u =>
          have e3 := h1 b u e2
          rw [e] at e3
          cases e3
          exact E'.sub b o (s' b o e2)
    · cases e : H b with
      | none => exact absurd e hb
      | some o => exact (E'.frm b o (by show (if Hb b = none then H b else none) = some o; rw [if_pos hn]; exact e)).2
theorem env_called {G : Gx} {F H1 Hb1 H' Hb' : Hp} {Γ1 : List Sl} {σ : L2.St} (E1 : EnvOk G F Γ1 σ H1 Hb1) (a0 : TOk Hb') (a1 : Same H1 H') (a2 : Same Hb1 Hb') (a3 : Same Hb' H') (a4 : ∀ b, H1 b ≠ none → Hb1 b = none → Hb' b = none) : EnvOk G F Γ1 σ H' Hb' := by
  refine ⟨E1.len, a3, fun b o e => ⟨a1 _ _ (E1.frm b o e).1, a4 b (by rw [(E1.frm b o e).1]; intro z; cases z) (E1.frm b o e).2⟩, fun i s hs => ?_, E1.ap, a0⟩
  have z := E1.sl i s hs
  cases s with
  | no => exact z
  | fr t' =>
    obtain ⟨w, e1, e2⟩ := z
    exact ⟨w, e1, rep_up a2 e2⟩
  | ow o =>
    obtain ⟨a, ho, e1, e2, e3, e4, e5⟩ := z
    exact ⟨a, ho, e1, e2, a4 a (by rw [e4]; intro z; cases z) e3, a1 _ _ e4, owc_up a2 e5⟩
section
variable {ι : Type} {W : Wd} {G : Gx} {k j : Nat} {X : ι → Cx} {Γ Γ1 Γ2 : List Sl} {x : Str} {ps : List Str} {R : List Tv → Tv → Prop} {a b e : Expr} {es : List Expr} {p pos kp1 kp2 : Pos} {ts : List Tv} {t t1 t2 : Tv}
theorem qv_callD (C : Ctx W k X) (hG : W.G = G) (d : DefOkD W j x ps [.non] R) (ha : PL G X Γ (e :: es) ts Γ1) (hr : R (ts ++ [.d .none]) t) (hj : j ≤ k := by decide)
    (hg : ∀ i, Gl (X i) x := by intro _; rfl) (hdb : (x == ("__debug__" : Str)) = false := by decide) (he : ∀ i, starEach (e :: es) (X i).env = (false, eval e (X i).env) :: starEach es (X i).env := by intro _; rfl) (hpl : ∀ i, (backTo pos (starEach es (X i).env)).any (·.1) = false := by intro _; rfl) :
    PV G X Γ (.Call (.Name x p) (e :: es) [] pos) t Γ1 := by
  subst hG
  obtain ⟨f, fd, ds, hm, hk, hv, hb, F⟩ := d
  obtain ⟨u, u1, u2⟩ := ha
  refine ⟨tCall (spV W.G R) [.non] E0 u, fun i => ?_, fun F' σ H Hb E Q q => u2 F' σ H Hb E _ fun vs H1 Hb1 E1 s1 r1 => ?_⟩
  · have F2 : FnOk (X i).prog (X i).w (X i).K (X i).mg (X i).base CX0 j f fd ps (spV W.G R) := by
      rw [C.prog i, C.w i, C.K i, C.mg i, C.base i]
      exact F
    exact pe_call F2 ((C.room i).mono hj) (hg i) (by rw [C.mg i]; exact hm) (by rw [C.K i]; exact hk) (by rw [C.K i]; exact hb) hv pass0 (u1 i) hdb (he i) (hpl i)
  · have app : ∀ {vs : List V} {ts : List Tv}, RepL W.G Hb1 vs ts → RepL W.G Hb1 (vs ++ [.non]) (ts ++ [.d .none]) := by
      intro vs ts h
      induction h with
      | nil => exact .cons .non .nil
      | cons a _ ih => exact .cons a ih
    exact ⟨Hb1, ts ++ [.d .none], t, E1.tp, E1.sub, app r1, hr, fun H' Hb' v a00 a1 a2 a3 a4 a5 => q v H' Hb' (env_called E1 a00 a1 a2 a3 a4) (s1.trans a2) a5⟩
/-! ### f(k = a, l = b) -/
def DefOkK (W : Wd) (k : Nat) (x : Str) (ps : List Str) (R : List Tv → Tv → Prop) : Prop := ∃ f fd, W.mg x = some (.ref f) ∧ PySem.W.keepIn W.G.K (.ref f) = true ∧ (∀ (s : Shared) (ws : List Value), ws.length = ps.length → BindsTo s fd ⟨[], ps.zip ws⟩ (ps.zip ws)) ∧ FnOk W.P W.w W.G.K W.mg W.base CX0 k f fd ps (spV W.G R)
theorem defK_ok {st : Stmt} {N : List Str} (R : List Tv → Tv → Prop) (T : DefT W x st) (S : FnScope N ps (defScope st)) (hlen : ∀ ts t, R ts t → ts.length = ps.length)
    (hbind : ∀ (kV doc pm : Value) (an : Option Addr) (cdv ct : Value) (ws : List Value), ws.length = ps.length → bindArgs (PySem.W.fnOf x x (defArgs st) (defBody st) (defScope st) .none kV doc pm an cdv ct) ⟨[], ps.zip ws⟩ = pure (ps.zip ws))
    (hbody : ∀ (f : Addr) (cdv : Value) (A : Around) (outer : List Env) (s : Shared) (H : Hp) (E : XK), Ctx W k (one (cx W N x (defScope st) f cdv A outer s H E)) → ∀ ts t, R ts t → QB W.G (cx W N x (defScope st) f cdv A outer s H E) (startG N ts) (defBody st) (.rt t)) : DefOkK W (k + 1) x ps R := by
  obtain ⟨f, fd, hm, F⟩ := T.ex
  refine ⟨f, fd, hm, F.kp, fun s ws hl => ?_, fn_okV R F S hlen hbody⟩
  obtain ⟨oc, od, dV, kV, doc, pm, an, cdv, ct, osl, rfl, lk, hcd, hD, hK⟩ := F.ex
  rcases hD with ⟨_, rfl⟩ | ⟨e, _⟩
  · exact .of_eq (hbind kV doc pm an cdv ct ws hl)
  · exact absurd rfl e
theorem pe_callKW {X : Cx} {sp : Sp} {k : Nat} {f : Addr} {fd : FuncData} {kws : List Keyword} {tk : TA} (F : FnOk X.prog X.w X.K X.mg X.base CX0 k f fd ps sp) (hr : Room k X.A) (hg : Gl X x) (hm : X.mg x = some (.ref f)) (hk : PySem.W.keepIn X.K (.ref f) = true) (hb : ∀ (s : Shared) (ws : List Value), ws.length = ps.length → BindsTo s fd ⟨[], ps.zip ws⟩ (ps.zip ws))
    (hkw : PK X kws tk) (hall : (backToKw pos (keywordEach kws X.env)).all (·.1.isSome) = true) (hks : (backToKw pos (keywordEach kws X.env)).filterMap (·.1) = ps) (hdb : (x == ("__debug__" : Str)) = false)
    (hpl : ((backTo pos (starEach [] X.env)).any (·.1) || (backToKw pos (keywordEach kws X.env)).any (·.1.isNone)) = false) :
    PE X (.Call (.Name x p) [] kws pos) (fun σ H Q => tk σ H fun zs H2 => sp zs H2 Q E0) := by
  refine ⟨fun pins s σ H Q I h => ?_⟩
  refine wpAny_Call_Name_kw (ld_glob I hg hm ?_ hdb)
  refine PySem.W.callWith_KW0 (h₀ := X.base) I.ok.mod.kin hk hall (thn (hkw.run pos pins s σ H _ I h) fun ws s2 ⟨zs, H2, I2, rz, q2⟩ => ⟨I2.kIn, ?_⟩) hpl
  rw [hks]
  have hl : ws.length = ps.length := by rw [← rz.length]; exact F.len _ _ _ _ q2
  refine wpAny_call (codeAny_mono (F.run X.A X.stack s2 H2 ⟨[], ps.zip ws⟩ ws zs Q E0 hr I2.env0 (hb s2 ws hl) rz q2) fun r s' hq => ?_)
  cases r with
  | error e => exact pass0 pins σ H2 s2 e s' I2 hq
  | ok fl =>
    cases fl with
    | ret u => exact I2.after hq
    | next => exact False.elim hq
    | brk => exact False.elim hq
    | cont => exact False.elim hq
theorem qv_callK2 {n1 n2 : Str} (C : Ctx W k X) (hG : W.G = G) (d : DefOkK W j x [n1, n2] R) (ha : PV G X Γ a t1 Γ1) (hb : PV G X Γ1 b t2 Γ2) (hr : R [t1, t2] t) (hj : j ≤ k := by decide)
    (hg : ∀ i, Gl (X i) x := by intro _; rfl) (hdb : (x == ("__debug__" : Str)) = false := by decide) (hall : ∀ i, (backToKw pos (keywordEach [⟨some n1, a, kp1⟩, ⟨some n2, b, kp2⟩] (X i).env)).all (·.1.isSome) = true := by intro _; rfl) (hks : ∀ i, (backToKw pos (keywordEach [⟨some n1, a, kp1⟩, ⟨some n2, b, kp2⟩] (X i).env)).filterMap (·.1) = [n1, n2] := by intro _; rfl)
    (hpl : ∀ i, ((backTo pos (starEach [] (X i).env)).any (·.1) || (backToKw pos (keywordEach [⟨some n1, a, kp1⟩, ⟨some n2, b, kp2⟩] (X i).env)).any (·.1.isNone)) = false := by intro _; rfl) :
    PV G X Γ (.Call (.Name x p) [] [⟨some n1, a, kp1⟩, ⟨some n2, b, kp2⟩] pos) t Γ2 := by
  subst hG
  obtain ⟨f, fd, hm, hk, hbd, F⟩ := d
  obtain ⟨ra, a1, a2⟩ := ha
  obtain ⟨rb, b1, b2⟩ := hb
  refine ⟨fun σ H Q => tCons ra (tCons rb tNil) σ H fun zs H2 => spV W.G R zs H2 Q E0, fun i => ?_, fun F' σ H Hb E Q q => a2 F' σ H Hb E _ fun v H1 Hb1 E1 s1 r1 => b2 F' σ H1 Hb1 E1 _ fun w H2 Hb2 E2 s2 r2 => ?_⟩
  · have F2 : FnOk (X i).prog (X i).w (X i).K (X i).mg (X i).base CX0 j f fd [n1, n2] (spV W.G R) := by
      rw [C.prog i, C.w i, C.K i, C.mg i, C.base i]
      exact F
    exact pe_callKW F2 ((C.room i).mono hj) (hg i) (by rw [C.mg i]; exact hm) (by rw [C.K i]; exact hk) hbd (pk_cons (a1 i) (pk_cons (b1 i) pk_nil)) (hall i) (hks i) hdb (hpl i)
  · exact ⟨Hb2, [t1, t2], t, E2.tp, E2.sub, .cons (rep_up s2 r1) (.cons r2 .nil), hr, fun H' Hb' v a00 a1 a2 a3 a4 a5 => q v H' Hb' (env_called E2 a00 a1 a2 a3 a4) ((s1.trans s2).trans a2) a5⟩
end
/-! ### repr -/
section
variable {ι : Type} {W : Wd} {G : Gx} {k : Nat} {X : ι → Cx} {Γ Γ1 Γ2 : List Sl} {e : Expr} {p pos : Pos} {bs : List Bool}
def shB (bs : List Bool) : Str := PyData.shown (.list (bs.map PyData.bool))
theorem cr_reprB {X : Cx} (hgd : X.A.guards = some []) (hu : X.A.units + 65 < cLine) : CallR X (.builtin "repr") (fun xs H Q => ∃ (a : Addr) (bs : List Bool), xs = [.ref a] ∧ Dp X.K H (.ref a) (.list (bs.map PyData.bool)) ∧ bs.length ≤ 3 ∧ Q (.str (shB bs)) H) := by
  intro pins s σ H xs us Q I r h
  obtain ⟨a, bs, rfl, hd, hl, q⟩ := h
  obtain rfl := Vals.ref1 r
  obtain ⟨as, rd⟩ := Dp.reads I _ _ (.ref a) hd rfl
  have dp : ∀ bs : List Bool, PyData.depthAll (bs.map PyData.bool) = 0 := by
    intro bs
    induction bs with
    | nil => rfl
    | cons n ns ih => simp [PyData.depthAll, PyData.depth, ih]
  have sh : ∀ bs : List Bool, PyData.showableAll (bs.map PyData.bool) = true := by
    intro bs
    induction bs with
    | nil => rfl
    | cons n ns ih => simp [PyData.showableAll, PyData.showable, ih]
  have hs : ∀ bs : List Bool, PyData.hasDictAll (bs.map PyData.bool) = false := by
    intro bs
    induction bs with
    | nil => rfl
    | cons n ns ih => simp [PyData.hasDictAll, PyData.hasDict, ih]
  have hsz : (PyData.shown (.list (bs.map PyData.bool))).length ≤ sizeLine := by
    refine Nat.le_trans (m := 100) ?_ (by decide)
    match bs, hl with
    | [], _ => decide +kernel
    | [a], _ => cases a <;> decide +kernel
    | [a, b], _ => cases a <;> cases b <;> decide +kernel
    | [a, b, c], _ => cases a <;> cases b <;> cases c <;> decide +kernel
  refine repr_of_reads' (h₀ := s.heap) rd (by simp [PyData.showable, sh]) (fun z => by simp [PyData.hasDict, hs] at z) hgd (by simp [PyData.depth, dp]; omega) (fun b o e => e) (fun h' u tk k => ?_) hsz
  exact ⟨.str (shB bs), H, I.kept k, ⟨u, rfl⟩, q⟩
theorem qv_repr (C : Ctx W k X) (hG : W.G = G) (hgd : ∀ j, (X j).A.guards = some []) (hm : W.mg "repr" = none) (ha : PV G X Γ e (.d (.list (bs.map PyData.bool))) Γ1) (hl : bs.length ≤ 3) (hg : ∀ j, Gl (X j) "repr" := by intro _; rfl) (hs : ∀ j, starEach [e] (X j).env = (false, eval e (X j).env) :: starEach [] (X j).env := by intro _; rfl) : PV G X Γ (.Call (.Name "repr" p) [e] [] pos) (.d (.str (shB bs))) Γ1 := by
  subst hG
  refine qv_callB C (r := fun xs H Q => ∃ (a : Addr) (bs : List Bool), xs = [.ref a] ∧ Dp W.G.K H (.ref a) (.list (bs.map PyData.bool)) ∧ bs.length ≤ 3 ∧ Q (.str (shB bs)) H) (fun j => by have h := cr_reprB (X := X j) (hgd j) (room65 C j); rw [C.K j] at h; exact h) hm PyProof.Rows.boot_repr (ql_cons ha ql_nil hs) (fun F σ H Hb vs E hr Q q => ?_) hg (hpl := fun _ => rfl) (he := hs)
  obtain ⟨v, rfl, hv⟩ := rep1 hr
  have hv' : Dp W.G.K Hb v (.list (bs.map PyData.bool)) := hv
  obtain ⟨x, ws, rfl, h1, h2⟩ := dp_lst hv'
  exact ⟨x, bs, rfl, dp_up E.sub hv', hl, q _ H Hb E (Same.refl _) (.str _)⟩
end
end Lk
set_option Elab.async false
set_option linter.all false
set_option maxRecDepth 100000
set_option maxHeartbeats 2000000
/-! T14: comparisons as tests. -/
namespace Lk
open PySem PySem.Spec PyProof.Rows L2
theorem bo_by {N : List Str} {sc scope : Scope} {own : List (Str × Nat)} (h : blkC N sc scope own = true) : BlkOk N sc scope own := blkOk_by h
section
variable {ι : Type} {G : Gx} {W : Wd} {k : Nat} {X : ι → Cx} {Γ Γ1 Γ2 Γ3 : List Sl} {a b c e : Expr} {es rest : List Expr} {pos : Pos} {t t1 t2 : Tv}
theorem qb_cmp {op : CmpOp} {r : R2} {m : Bool} (ho : ∀ j, OpR (X j) (compareOp op) r) (ha : PV G X Γ a t1 Γ1) (hb : PV G X Γ1 b t2 Γ2) (h : RVt G r Γ2 t1 t2 (.d (.bool m))) (hm : behindInMarks op b = false := by first | exact nobehind _ (by decide) (by decide) | rfl) : PB G X Γ (.Compare a [op] [b] pos) m Γ2 := by
  obtain ⟨ra, a1, a2⟩ := ha
  obtain ⟨rb, b1, b2⟩ := hb
  exact ⟨_, fun j => pt_cmpR (ho j) (a1 j) (b1 j) hm, fun F σ H Hb E Q q => ev_op a2 b2 h F σ H Hb E _ fun v H' Hb' E' s' r' => ⟨m, dp_bl r', q H' Hb' E' s'⟩⟩
section
variable {m n : Int} {x y : PyData} {ds : List PyData}
theorem qb_lt (ha : PV G X Γ a (.d (.int m)) Γ1) (hb : PV G X Γ1 b (.d (.int n)) Γ2) : PB G X Γ (.Compare a [.Lt] [b] pos) (decide (m < n)) Γ2 := qb_cmp (fun _ => op_lt) ha hb (rvt_bl0 (g := fun i j => decide (i < j)))
theorem qb_le (ha : PV G X Γ a (.d (.int m)) Γ1) (hb : PV G X Γ1 b (.d (.int n)) Γ2) : PB G X Γ (.Compare a [.LtE] [b] pos) (decide (m ≤ n)) Γ2 := qb_cmp (fun _ => op_le) ha hb (rvt_bl0 (g := fun i j => decide (i ≤ j)))
theorem qb_gt (ha : PV G X Γ a (.d (.int m)) Γ1) (hb : PV G X Γ1 b (.d (.int n)) Γ2) : PB G X Γ (.Compare a [.Gt] [b] pos) (decide (n < m)) Γ2 := qb_cmp (fun _ => op_gt) ha hb (rvt_bl0 (g := fun i j => decide (j < i)))
theorem qb_ge (ha : PV G X Γ a (.d (.int m)) Γ1) (hb : PV G X Γ1 b (.d (.int n)) Γ2) : PB G X Γ (.Compare a [.GtE] [b] pos) (decide (n ≤ m)) Γ2 := qb_cmp (fun _ => op_ge) ha hb (rvt_bl0 (g := fun i j => decide (j ≤ i)))
theorem qb_eqD (C : Ctx W k X) (hG : W.G = G) (ha : PV G X Γ a (.d x) Γ1) (hb : PV G X Γ1 b (.d y) Γ2) (hx : SeqAt.shaped x = true) (hy : SeqAt.shaped y = true) : PB G X Γ (.Compare a [.Eq] [b] pos) (PyData.eqv x y) Γ2 := by
  subst hG
  refine qb_cmp (r := rEqD W.G.K) (fun j => by have h := op_eqD (X := X j) (C.room j).units; rw [C.K j] at h; exact h) ha hb ?_
  exact fun F σ H Hb v w E hv hw Q q => ⟨x, y, dp_up E.sub hv, dp_up E.sub hw, hx, hy, q _ H Hb E (Same.refl _) (.bl _)⟩
theorem qb_neD (C : Ctx W k X) (hG : W.G = G) (ha : PV G X Γ a (.d x) Γ1) (hb : PV G X Γ1 b (.d y) Γ2) (hx : SeqAt.shaped x = true) (hy : SeqAt.shaped y = true) : PB G X Γ (.Compare a [.NotEq] [b] pos) (!PyData.eqv x y) Γ2 := by
  subst hG
  refine qb_cmp (r := rNeD W.G.K) (fun j => by have h := op_neD (X := X j) (C.room j).units; rw [C.K j] at h; exact h) ha hb ?_
  exact fun F σ H Hb v w E hv hw Q q => ⟨x, y, dp_up E.sub hv, dp_up E.sub hw, hx, hy, q _ H Hb E (Same.refl _) (.bl _)⟩
theorem qb_in (C : Ctx W k X) (hG : W.G = G) (ha : PV G X Γ a (.d x) Γ1) (hb : PV G X Γ1 b (.d (.list ds)) Γ2) (hx : SeqAt.shaped x = true) (hy : SeqAt.shaped (.list ds) = true) (hm : behindInMarks .In b = false := by rfl) :
    PB G X Γ (.Compare a [.In] [b] pos) (ds.any fun z => PyData.eqv z x) Γ2 := by
  subst hG
  refine qb_cmp (r := rInD W.G.K) (fun j => by have h := op_inD (X := X j) (room65 C j); rw [C.K j] at h; exact h) ha hb ?_ hm
  exact fun F σ H Hb v w E hv hw Q q => ⟨x, ds, dp_up E.sub hv, dp_up E.sub hw, hx, hy, q _ H Hb E (Same.refl _) (.bl _)⟩
theorem qb_nin (C : Ctx W k X) (hG : W.G = G) (ha : PV G X Γ a (.d x) Γ1) (hb : PV G X Γ1 b (.d (.list ds)) Γ2) (hx : SeqAt.shaped x = true) (hy : SeqAt.shaped (.list ds) = true) (hm : behindInMarks .NotIn b = false := by rfl) :
    PB G X Γ (.Compare a [.NotIn] [b] pos) (!ds.any fun z => PyData.eqv z x) Γ2 := by
  subst hG
  refine qb_cmp (r := rNotInD W.G.K) (fun j => by have h := op_notInD (X := X j) (room65 C j); rw [C.K j] at h; exact h) ha hb ?_ hm
  exact fun F σ H Hb v w E hv hw Q q => ⟨x, ds, dp_up E.sub hv, dp_up E.sub hw, hx, hy, q _ H Hb E (Same.refl _) (.bl _)⟩
theorem qb_inT (C : Ctx W k X) (hG : W.G = G) (ha : PV G X Γ a (.d x) Γ1) (hb : PV G X Γ1 b (.d (.tuple ds)) Γ2) (hx : flatD x = true) (hy : ds.all flatD = true) (hm : behindInMarks .In b = false := by rfl) :
    PB G X Γ (.Compare a [.In] [b] pos) (ds.any fun z => PyData.eqv z x) Γ2 := by
  subst hG
  refine qb_cmp (r := rIn W.G.K false) (fun j => by have h := op_in_seq (X := X j); rw [C.K j] at h; exact h) ha hb ?_ hm
  refine fun F σ H Hb v w E hv hw Q q => ?_
  obtain ⟨p, vs, rfl, h1, h2⟩ := dp_tup (dp_up E.sub hw)
  have hv' : Dp W.G.K H v x := dp_up E.sub hv
  refine ⟨p, vs, rfl, .inr h1, flat_dp hv' hx, flat_all h2 hy, ?_⟩
  have z := inV_dp hv' hx h2 hy
  show Q (V.bl (inV v vs)) H
  rw [z]
  exact q _ H Hb E (Same.refl _) (.bl _)
theorem qb_isB {m n : Bool} (ha : PV G X Γ a (.d (.bool m)) Γ1) (hb : PV G X Γ1 b (.d (.bool n)) Γ2) : PB G X Γ (.Compare a [.Is] [b] pos) (decide (m = n)) Γ2 :=
  qb_cmp (fun _ => op_is_bl) ha hb fun F σ H Hb v w E hv hw Q q => ⟨m, n, dp_bl hv, dp_bl hw, q _ H Hb E (Same.refl _) (.bl _)⟩
theorem qb_isnotB {m n : Bool} (ha : PV G X Γ a (.d (.bool m)) Γ1) (hb : PV G X Γ1 b (.d (.bool n)) Γ2) : PB G X Γ (.Compare a [.IsNot] [b] pos) (!decide (m = n)) Γ2 :=
  qb_cmp (fun _ => op_isnot_bl) ha hb fun F σ H Hb v w E hv hw Q q => ⟨m, n, dp_bl hv, dp_bl hw, q _ H Hb E (Same.refl _) (.bl _)⟩

end
theorem qb_isN {j pos' : _} (ha : PV G X Γ a t Γ1) : PB G X Γ (.Compare a [.Is] [.Constant .none j pos'] pos) (isN t) Γ1 := by
  obtain ⟨r, h1, h2⟩ := ha
  refine ⟨_, fun i => pt_cmp (pc_isN (h1 i)), fun F σ H Hb E Q q => h2 F σ H Hb E _ fun v H' Hb' E' s' r' => ?_⟩
  exact ⟨isN t, by rw [← rep_isN r'], q H' Hb' E' s'⟩
theorem qb_notN {j pos' : _} (ha : PV G X Γ a t Γ1) : PB G X Γ (.Compare a [.IsNot] [.Constant .none j pos'] pos) (!isN t) Γ1 := by
  obtain ⟨r, h1, h2⟩ := ha
  refine ⟨_, fun i => pt_cmp (pc_notN (h1 i)), fun F σ H Hb E Q q => h2 F σ H Hb E _ fun v H' Hb' E' s' r' => ?_⟩
  exact ⟨!isN t, by rw [← rep_isN r'], q H' Hb' E' s'⟩
theorem qb_dnin {kvs : List (Int × PyData)} {i : Int} (C : Ctx W k X) (ha : PV G X Γ a (.d (.int i)) Γ1) (hb : PV G X Γ1 b (.dct kvs) Γ2) (hm : behindInMarks .NotIn b = false := by rfl) : PB G X Γ (.Compare a [.NotIn] [b] pos) (!(dget kvs i).isSome) Γ2 := by
  obtain ⟨ra, a1, a2⟩ := ha
  obtain ⟨rb, b1, b2⟩ := hb
  refine ⟨_, fun j => pt_cmp (pc_dnotin (u1 C j) (a1 j) (b1 j)) hm, fun F σ H Hb E Q q => a2 F σ H Hb E _ fun v H1 Hb1 E1 s1 r1 => b2 F σ H1 Hb1 E1 _ fun w H2 Hb2 E2 s2 r2 => ?_⟩
  obtain ⟨p, ks, rfl, h1, h2⟩ := r2
  rw [dp_int r1]
  refine ⟨p, _, rfl, .inl ⟨ks, .inl i, .inl (E2.sub _ _ h1), rfl, rfl⟩, ?_⟩
  rw [isSome_kvd h2]
  exact ⟨_, rfl, q H2 Hb2 E2 (s1.trans s2)⟩
theorem qb_din {kvs : List (Int × PyData)} {i : Int} (C : Ctx W k X) (ha : PV G X Γ a (.d (.int i)) Γ1) (hb : PV G X Γ1 b (.dct kvs) Γ2) (hm : behindInMarks .In b = false := by rfl) : PB G X Γ (.Compare a [.In] [b] pos) ((dget kvs i).isSome) Γ2 := by
  obtain ⟨ra, a1, a2⟩ := ha
  obtain ⟨rb, b1, b2⟩ := hb
  refine ⟨_, fun j => pt_cmp (pc_din (u1 C j) (a1 j) (b1 j)) hm, fun F σ H Hb E Q q => a2 F σ H Hb E _ fun v H1 Hb1 E1 s1 r1 => b2 F σ H1 Hb1 E1 _ fun w H2 Hb2 E2 s2 r2 => ?_⟩
  obtain ⟨p, ks, rfl, h1, h2⟩ := r2
  rw [dp_int r1]
  refine ⟨p, _, rfl, .inl ⟨ks, .inl i, .inl (E2.sub _ _ h1), rfl, rfl⟩, ?_⟩
  rw [isSome_kvd h2]
  exact ⟨_, rfl, q H2 Hb2 E2 (s1.trans s2)⟩
end
end Lk
set_option Elab.async false
set_option linter.all false
set_option maxRecDepth 100000
set_option maxHeartbeats 2000000
/-! P0: what the program's values are, as plain data. -/
namespace Lk
open PySem PySem.Spec PyProof.Rows L2
open PySem.W (AllAlike Sortable dataLe dataLt alike alikeAll)
abbrev Pr := Int × Int
abbrev Rw := Int × Int × Int
abbrev Bd := Option Int × Option Int × Int
abbrev Al := Int × List Bd
abbrev Bk2 := List Al
def eI (i : Int) : PyData := .int i
def eP (p : Pr) : PyData := .tuple [.int p.1, .int p.2]
def e3 (r : Rw) : PyData := .tuple [.int r.1, .int r.2.1, .int r.2.2]
def eIs (l : List Int) : PyData := .list (l.map PyData.int)
def eL (l : List Rw) : PyData := .list (l.map e3)
def eO : Option Int → PyData
  | none => .none
  | some i => .int i
def eB (b : Bd) : PyData := .tuple [eO b.1, eO b.2.1, .int b.2.2]
def eA (a : Al) : PyData := .tuple [.int a.1, .list (a.2.map eB)]
def eK (b : Bk2) : PyData := .list (b.map eA)
/-- a country -/
structure Cy where
  lanes : List Pr
  ties : List (List Int)
  ahead : List (List Int)
def Cy.cd (c : Cy) : CD := ⟨.list (c.lanes.map eP), .list (c.ties.map eIs), .list (c.ahead.map eIs)⟩
/-! ### small data -/
def Sm (d : PyData) : Prop := d.canLay0 = true ∧ d.depth ≤ 8
theorem sm_list {α : Type} {enc : α → PyData} {n : Nat} : ∀ {xs : List α}, (∀ x ∈ xs, (enc x).canLay0 = true ∧ (enc x).depth ≤ n) → (PyData.list (xs.map enc)).canLay0 = true ∧ (PyData.list (xs.map enc)).depth ≤ n + 1
  | [], _ => by simp [PyData.canLay0, PyData.canLayAll0, PyData.depth, PyData.depthAll]
  | x :: xs, h => by
    have h1 := h x (List.mem_cons_self ..)
    have h2 := sm_list (xs := xs) fun y hy => h y (List.mem_cons_of_mem _ hy)
    simp only [List.map_cons, PyData.canLay0, PyData.canLayAll0, PyData.depth, PyData.depthAll, Bool.and_eq_true] at h2 ⊢
    refine ⟨⟨h1.1, h2.1⟩, ?_⟩
    have := h1.2
    omega
theorem shaped_sm {d : PyData} (h : Sm d) : SeqAt.shaped d = true := by
  unfold SeqAt.shaped
  rw [h.1, decide_eq_true (Nat.le_trans h.2 (by decide))]
  rfl
theorem sz_int (i : Int) : (PyData.int i).canLay0 = true ∧ (PyData.int i).depth ≤ 0 := by simp [PyData.canLay0, PyData.depth]
theorem sz_P (p : Pr) : (eP p).canLay0 = true ∧ (eP p).depth ≤ 1 := by simp [eP, PyData.canLay0, PyData.canLayAll0, PyData.depth, PyData.depthAll]
theorem sz_3 (p : Rw) : (e3 p).canLay0 = true ∧ (e3 p).depth ≤ 1 := by simp [e3, PyData.canLay0, PyData.canLayAll0, PyData.depth, PyData.depthAll]
theorem sz_O (o : Option Int) : (eO o).canLay0 = true ∧ (eO o).depth ≤ 0 := by cases o <;> simp [eO, PyData.canLay0, PyData.depth]
theorem sz_B (p : Bd) : (eB p).canLay0 = true ∧ (eB p).depth ≤ 1 := by
  have h1 := sz_O p.1
  have h2 := sz_O p.2.1
  simp only [eB, PyData.canLay0, PyData.canLayAll0, PyData.depth, PyData.depthAll, Bool.and_eq_true, h1.1, h2.1]
  refine ⟨by simp, by omega⟩
theorem sz_L (l : List Rw) : (eL l).canLay0 = true ∧ (eL l).depth ≤ 2 := sm_list fun x _ => sz_3 x
theorem sz_Is (l : List Int) : (eIs l).canLay0 = true ∧ (eIs l).depth ≤ 1 := sm_list fun x _ => sz_int x
theorem sz_A (a : Al) : (eA a).canLay0 = true ∧ (eA a).depth ≤ 3 := by
  have h1 := sm_list (enc := eB) (xs := a.2) (n := 1) fun x _ => sz_B x
  simp only [eA, PyData.canLay0, PyData.canLayAll0, PyData.depth, PyData.depthAll, Bool.and_eq_true] at h1 ⊢
  refine ⟨by simp [h1.1], by omega⟩
/-! ### equality -/
def EqE {α : Type} [DecidableEq α] (enc : α → PyData) : Prop := ∀ a b, PyData.eqv (enc a) (enc b) = decide (a = b)
theorem eqe_int : EqE PyData.int := eqv_int
theorem eqvAll_map {α : Type} [DecidableEq α] {enc : α → PyData} (h : EqE enc) : ∀ xs ys : List α, PyData.eqvAll (xs.map enc) (ys.map enc) = decide (xs = ys)
  | [], [] => by simp [PyData.eqvAll]
  | [], _ :: _ => by simp [PyData.eqvAll]
  | _ :: _, [] => by simp [PyData.eqvAll]
  | x :: xs, y :: ys => by
    rw [List.map_cons, List.map_cons, PyData.eqvAll, h, eqvAll_map h xs ys]
    by_cases h1 : x = y <;> by_cases h2 : xs = ys <;> simp [h1, h2]
theorem eqe_list {α : Type} [DecidableEq α] {enc : α → PyData} (h : EqE enc) : EqE fun xs : List α => PyData.list (xs.map enc) := fun a b => by
  show PyData.eqv (.list (a.map enc)) (.list (b.map enc)) = _
  rw [PyData.eqv, eqvAll_map h]
theorem eqe_P : EqE eP := fun a b => by
  obtain ⟨a1, a2⟩ := a
  obtain ⟨b1, b2⟩ := b
  simp only [eP, PyData.eqv, PyData.eqvAll, eqv_int]
  by_cases h1 : a1 = b1 <;> by_cases h2 : a2 = b2 <;> simp [h1, h2]
theorem eqe_3 : EqE e3 := fun a b => by
  obtain ⟨a1, a2, a3⟩ := a
  obtain ⟨b1, b2, b3⟩ := b
  simp only [e3, PyData.eqv, PyData.eqvAll, eqv_int]
  by_cases h1 : a1 = b1 <;> by_cases h2 : a2 = b2 <;> by_cases h3 : a3 = b3 <;> simp [h1, h2, h3]
theorem eqe_Is : EqE eIs := eqe_list eqe_int
theorem eqe_L : EqE eL := eqe_list eqe_3
theorem eqe_O : EqE eO := fun a b => by cases a <;> cases b <;> simp [eO, PyData.eqv, eqv_int]
theorem any_eqv {α : Type} [DecidableEq α] {enc : α → PyData} (h : EqE enc) (x : α) : ∀ xs : List α, ((xs.map enc).any fun z => PyData.eqv z (enc x)) = decide (x ∈ xs)
  | [] => by simp
  | y :: ys => by
    rw [List.map_cons, List.any_cons, h, any_eqv h x ys]
    by_cases h1 : y = x
    · subst h1; simp
    · have h2 : ¬ x = y := fun z => h1 z.symm
      simp [h1, h2]
/-! ### order -/
def le3 (a b : Rw) : Bool := decide (a.1 < b.1 ∨ (a.1 = b.1 ∧ (a.2.1 < b.2.1 ∨ (a.2.1 = b.2.1 ∧ a.2.2 ≤ b.2.2))))
def leP (a b : Pr) : Bool := decide (a.1 < b.1 ∨ (a.1 = b.1 ∧ a.2 ≤ b.2))
def sort3 (xs : List Rw) : List Rw := xs.mergeSort le3
def sortP (xs : List Pr) : List Pr := xs.mergeSort leP
theorem al_int (a b : Int) : alike (.int a) (.int b) = true := by simp [alike]
theorem al_3 (a b : Rw) : alike (e3 a) (e3 b) = true := by simp [alike, alikeAll, e3]
theorem al_P (a b : Pr) : alike (eP a) (eP b) = true := by simp [alike, alikeAll, eP]
theorem allAlike_3 (xs : List Rw) : AllAlike (xs.map e3) := PySem.W.AllAlike.of al_3
theorem sortable_3 (xs : List Rw) : Sortable (xs.map e3) := PySem.W.Sortable.tuples fun b => ⟨_, _, rfl⟩
theorem allAlike_P (xs : List Pr) : AllAlike (xs.map eP) := PySem.W.AllAlike.of al_P
theorem sortable_P (xs : List Pr) : Sortable (xs.map eP) := PySem.W.Sortable.tuples fun b => ⟨_, _, rfl⟩
theorem allAlike_I (xs : List Int) : AllAlike (xs.map PyData.int) := PySem.W.AllAlike.of al_int
theorem sortable_I (xs : List Int) : Sortable (xs.map PyData.int) := PySem.W.Sortable.others fun b => ⟨(by intro h; cases h), (by intro xs h; cases h)⟩
theorem ltT {x y : PyData} {xs ys : List PyData} (h : alike x y = true) : dataLt (.tuple (x :: xs)) (.tuple (y :: ys)) = if PyData.eqv x y = true then dataLt (.tuple xs) (.tuple ys) else dataLt x y := by
  rw [PySem.W.dataLt_tuple, PySem.W.dataLt_cons h]
  split
  · rw [PySem.W.dataLt_tuple]
  · rfl
theorem lt0 : dataLt (.tuple []) (.tuple []) = false := by rw [PySem.W.dataLt_tuple]; rfl
theorem dataLe_3 (a b : Rw) : dataLe false id (e3 a) (e3 b) = le3 a b := by
  obtain ⟨a1, a2, a3⟩ := a
  obtain ⟨b1, b2, b3⟩ := b
  rw [PySem.W.dataLe_eq]
  show (!dataLt (e3 (b1, b2, b3)) (e3 (a1, a2, a3))) = _
  simp only [e3]
  rw [ltT (al_int _ _), ltT (al_int _ _), ltT (al_int _ _), lt0, PySem.W.dataLt_int, PySem.W.dataLt_int, PySem.W.dataLt_int, eqv_int, eqv_int, eqv_int]
  unfold le3
  rw [Bool.eq_iff_iff]
  by_cases h1 : b1 = a1
  · subst h1
    by_cases h2 : b2 = a2
    · subst h2
      by_cases h3 : b3 = a3
      · subst h3; simp
      · simp [h3]
    · have h2' : ¬ a2 = b2 := fun z => h2 z.symm
      simp [h2, h2']; omega
  · have h1' : ¬ a1 = b1 := fun z => h1 z.symm
    simp [h1, h1']; omega
theorem dataLe_P (a b : Pr) : dataLe false id (eP a) (eP b) = leP a b := by
  obtain ⟨a1, a2⟩ := a
  obtain ⟨b1, b2⟩ := b
  rw [PySem.W.dataLe_eq]
  show (!dataLt (eP (b1, b2)) (eP (a1, a2))) = _
  simp only [eP]
  rw [ltT (al_int _ _), ltT (al_int _ _), lt0, PySem.W.dataLt_int, PySem.W.dataLt_int, eqv_int, eqv_int]
  unfold leP
  rw [Bool.eq_iff_iff]
  by_cases h1 : b1 = a1
  · subst h1
    by_cases h2 : b2 = a2
    · subst h2; simp
    · simp [h2]
  · have h1' : ¬ a1 = b1 := fun z => h1 z.symm
    simp [h1, h1']; omega
theorem dataLe_I (a b : Int) : dataLe false id (.int a) (.int b) = decide (a ≤ b) := by
  rw [PySem.W.dataLe_eq]
  show (!dataLt (.int b) (.int a)) = _
  rw [PySem.W.dataLt_int, PySem.W.not_lt_int]
theorem sort_map {α : Type} {enc : α → PyData} {le : α → α → Bool} (h : ∀ a b, dataLe false id (enc a) (enc b) = le a b) (xs : List α) : (xs.map enc).mergeSort (dataLe false id) = (xs.mergeSort le).map enc :=
  (List.map_mergeSort fun a _ b _ => (h a b).symm).symm
theorem sort_3 (xs : List Rw) : (xs.map e3).mergeSort (dataLe false id) = (sort3 xs).map e3 := sort_map dataLe_3 xs
theorem sort_P (xs : List Pr) : (xs.map eP).mergeSort (dataLe false id) = (sortP xs).map eP := sort_map dataLe_P xs
def sortI (xs : List Int) : List Int := xs.mergeSort fun a b => decide (a ≤ b)
theorem sort_I (xs : List Int) : (xs.map PyData.int).mergeSort (dataLe false id) = (sortI xs).map PyData.int := sort_map dataLe_I xs
theorem d8_3 (xs : List Rw) : ∀ d ∈ xs.map e3, d.depth ≤ 8 := fun d h => by
  obtain ⟨x, _, rfl⟩ := List.mem_map.mp h
  exact Nat.le_trans (sz_3 x).2 (by decide)
theorem d8_P (xs : List Pr) : ∀ d ∈ xs.map eP, d.depth ≤ 8 := fun d h => by
  obtain ⟨x, _, rfl⟩ := List.mem_map.mp h
  exact Nat.le_trans (sz_P x).2 (by decide)
theorem d8_I (xs : List Int) : ∀ d ∈ xs.map PyData.int, d.depth ≤ 8 := fun d h => by
  obtain ⟨x, _, rfl⟩ := List.mem_map.mp h
  exact Nat.le_trans (sz_int x).2 (by decide)
/-! ### lists by places -/
theorem atI_map {α β : Type} {f : α → β} {xs : List α} {i : Int} {x : α} (h : atI xs i = some x) : atI (xs.map f) i = some (f x) := by
  unfold atI at h ⊢
  rw [List.length_map]
  cases q : ixN xs.length i with
  | none => rw [q] at h; cases h
  | some j =>
    rw [q] at h
    have h' : xs[j]? = some x := h
    show (xs.map f)[j]? = _
    rw [List.getElem?_map, h']
    rfl
def zipI {α : Type} (i : Nat) : List α → List (Nat × α)
  | [] => []
  | x :: xs => (i, x) :: zipI (i + 1) xs
theorem enumD_map {α : Type} (f : α → PyData) : ∀ (xs : List α) (i : Nat), enumD i (xs.map f) = (zipI i xs).map fun p => PyData.tuple [.int (p.1 : Nat), f p.2]
  | [], _ => rfl
  | x :: xs, i => by
    rw [List.map_cons, enumD, zipI, List.map_cons, enumD_map f xs (i + 1)]
theorem zipI_len {α : Type} : ∀ (xs : List α) (i : Nat), (zipI i xs).length = xs.length
  | [], _ => rfl
  | _ :: xs, i => by rw [zipI, List.length_cons, List.length_cons, zipI_len xs]
/-- the turns of a loop that never returns -/
theorem loopE_nx {S A B : Type} {step : S → A → S ⊕ B} {f : S → A → S} (h : ∀ s a, step s a = .inl (f s a)) : ∀ (xs : List A) (s : S), loopE step s xs = .inl (xs.foldl f s)
  | [], _ => rfl
  | x :: xs, s => by rw [loopE, h, List.foldl_cons]; exact loopE_nx h xs (f s x)
end Lk
set_option Elab.async false
set_option linter.all false
set_option maxRecDepth 100000
set_option maxHeartbeats 2000000
/-! T15: loops told shortly. -/
namespace Lk
open PySem PySem.Spec PyProof.Rows L2
theorem ixN_pos {n : Nat} {i : Int} (h : 0 ≤ i) (h2 : i.toNat < n) : ixN n i = some i.toNat := by
  unfold ixN
  rw [if_pos h, if_pos (by omega)]
theorem atI_pos {α : Type} {xs : List α} {i : Int} (h : 0 ≤ i) (h2 : i.toNat < xs.length) : atI xs i = xs[i.toNat]? := by
  unfold atI
  rw [ixN_pos h h2]
  rfl
section
variable {G : Gx} {W : Wd} {k : Nat} {X : Cx} {Γ Γ1 Γ2 : List Sl} {pos : Pos}
/-- a loop that never returns -/
theorem qs_forN (C : Ctx W k (one X)) (hG : W.G = G) {S A : Type} (xs : List A) (enc : A → PyData) {tg iter : Expr} {body : List Stmt} {js : List Nat} {ok : PyData → Prop} {to : List Sl → PyData → List Sl} (env : S → List Sl) (f : S → A → S) (s0 : S) (Inv : S → Prop)
    (hi : PIv G (one X) Γ tg iter (xs.map enc) Γ1) (hg : PGv G (one X) js tg ok to) (hI0 : Inv s0) (h0 : ∀ F σ H Hb, EnvOk G F Γ1 σ H Hb → EnvOk G F (env s0) σ H Hb)
    (hb : ∀ s a, a ∈ xs → Inv s → Inv (f s a) ∧ ∃ Γ', QB G X (to (env s) (enc a)) body (.nx Γ') ∧ ∀ F σ H Hb, EnvOk G F Γ' σ H Hb → EnvOk G F (env (f s a)) σ H Hb)
    (hok : ∀ a ∈ xs, ok (enc a) := by intro _ _; first | trivial | exact ⟨rfl, trivial, trivial, rfl⟩ | exact ⟨rfl, trivial, trivial, trivial, rfl⟩)
    (hp : PassesOwn (model X.prog X.w) X.A X.env X.xe := by exact PassesOwn.never) (hs : ∀ x, foldedSetIterable iter X.env x = pure x := by intro _; rfl) :
    QS G X Γ (.For tg iter body [] pos) (.nx (env (xs.foldl f s0))) := by
  have h := qs_for (pos := pos) C hG xs enc (tg := tg) (iter := iter) (body := body) env (fun s a => (.inl (f s a) : S ⊕ Tv)) s0 hi hg hok h0 Inv hI0 (fun s a ha hs => by
    obtain ⟨h1, Γ', h2, h3⟩ := hb s a ha hs
    refine ⟨fun s' e => ?_, .nx Γ', h2, Γ', rfl, h3⟩
    cases e
    exact h1) hp hs
  rw [loopE_nx (B := Tv) (f := f) (fun _ _ => rfl)] at h
  exact h
/-- .. the invariant with the turn's number -/
theorem qs_forM (C : Ctx W k (one X)) (hG : W.G = G) {S A : Type} (xs : List A) (enc : A → PyData) {tg iter : Expr} {body : List Stmt} {js : List Nat} {ok : PyData → Prop} {to : List Sl → PyData → List Sl} (env : S → List Sl) (f : S → A → S) (s0 : S) (Inv : Nat → S → Prop)
    (hi : PIv G (one X) Γ tg iter (xs.map enc) Γ1) (hg : PGv G (one X) js tg ok to) (hI0 : Inv 0 s0) (h0 : ∀ F σ H Hb, EnvOk G F Γ1 σ H Hb → EnvOk G F (env s0) σ H Hb)
    (hb : ∀ i s a, xs[i]? = some a → Inv i s → Inv (i + 1) (f s a) ∧ ∃ Γ', QB G X (to (env s) (enc a)) body (.nx Γ') ∧ ∀ F σ H Hb, EnvOk G F Γ' σ H Hb → EnvOk G F (env (f s a)) σ H Hb)
    (hok : ∀ a ∈ xs, ok (enc a) := by intro _ _; first | trivial | exact ⟨rfl, trivial, trivial, rfl⟩ | exact ⟨rfl, trivial, trivial, trivial, rfl⟩)
    (hp : PassesOwn (model X.prog X.w) X.A X.env X.xe := by exact PassesOwn.never) (hs : ∀ x, foldedSetIterable iter X.env x = pure x := by intro _; rfl) :
    QS G X Γ (.For tg iter body [] pos) (.nx (env (xs.foldl f s0))) := by
  have h := qs_forI (pos := pos) C hG xs enc (tg := tg) (iter := iter) (body := body) env (fun s a => (.inl (f s a) : S ⊕ Tv)) s0 hi hg hok h0 Inv hI0 (fun i s a ha hs => by
    obtain ⟨h1, Γ', h2, h3⟩ := hb i s a ha hs
    refine ⟨fun s' e => ?_, .nx Γ', h2, Γ', rfl, h3⟩
    cases e
    exact h1) hp hs
  rw [loopE_nx (B := Tv) (f := f) (fun _ _ => rfl)] at h
  exact h
theorem eqv_nat (m n : Nat) : PyData.eqv (.int m) (.int n) = decide (m = n) := by
  rw [eqv_int]
  exact decide_eq_decide.mpr Int.ofNat_inj
end
theorem filtT {α : Type} (xs : List α) : xs.filter (fun _ => true) = xs := List.filter_eq_self.mpr (by simp)
section
variable {ι : Type} {G : Gx} {W : Wd} {k : Nat} {X : ι → Cx} {Γ Γ1 Γ2 : List Sl} {tg iter elt : Expr} {ifs : List Expr} {scope : Scope} {pos : Pos} {ts : List PyData} {js : List Nat}
/-- pure, of all items -/
theorem lcA (C : Ctx W k X) (hG : W.G = G) {α : Type} (xs : List α) (enc : α → PyData) (v : α → PyData) {vs : List Nat} {ok : PyData → Prop} {to : List Sl → PyData → List Sl} (Γb : List Sl) (Γe : α → List Sl)
    (hi : PIv G X Γ tg iter (xs.map enc) Γ1) (hg : PGv G (blk X scope) js tg ok to) (he : ∀ a ∈ xs, PV G (blk X scope) (Γe a) elt (.d (v a)) (Γe a)) (hz : xs.length ≤ 100000)
    (hj : ∀ m ∈ js, m ∈ vs := by decide) (hb : wipeG Γ1 vs = Γb := by rfl) (hto : ∀ a, to Γb (enc a) = Γe a := by intro _; rfl) (hwe : ∀ a, wipeG (Γe a) vs = Γb := by intro _; rfl) (hok : ∀ a, ok (enc a) := by intro _; first | trivial | exact ⟨rfl, trivial, trivial, rfl⟩ | exact ⟨rfl, trivial, trivial, trivial, rfl⟩) (hbb : wipeG Γb vs = Γb := by rfl) :
    PLc G X Γ elt tg iter [] scope vs (.lst (xs.map v)) Γb := by
  have h := lcM (ifs := []) C hG xs enc (fun _ => true) v Γb Γe hi hg (fun _ _ => qt_nil) (fun a ha _ => he a ha) hz hj hb hto hwe hok hbb
  rw [filtT] at h
  exact h
end
section
variable {ι : Type} {G : Gx} {W : Wd} {k : Nat} {X : ι → Cx} {Γ Γ1 Γ2 : List Sl} {e : Expr} {p pos : Pos}
theorem qi_enumM (C : Ctx W k X) (hG : W.G = G) {α : Type} {xs : List α} {f : α → PyData} {elts : List Expr} {kk : Nat} {tpos : Pos} (hm : W.mg "enumerate" = none) (h : PV G X Γ e (.d (.list (xs.map f))) Γ1) (hg : ∀ j, Gl (X j) "enumerate" := by intro _; rfl) (hs : ∀ j, starEach [e] (X j).env = [(false, eval e (X j).env)] := by intro _; rfl)
    (hs2 : ∀ j, starEach [e] (X j).env = (false, eval e (X j).env) :: starEach [] (X j).env := by intro _; rfl) : PIv G X Γ (.Tuple elts kk tpos) (.Call (.Name "enumerate" p) [e] [] pos) ((zipI 0 xs).map fun p => PyData.tuple [.int (p.1 : Nat), f p.2]) Γ1 := by
  rw [← enumD_map]
  exact qi_enum C hG hm h hg hs hs2
end
section
variable {G : Gx} {W : Wd} {k : Nat} {X : Cx} {Γ Γ1 Γ2 : List Sl} {x y : Str} {a b : Expr} {px py pos pt pt2 : Pos} {kt k2 : Nat} {s1 s2 : Sl}
/-- x, y = a, b -/
theorem qs_tup2 (C : Ctx W k (one X)) (hG : W.G = G) (i j : Nat) (ha : PM G (one X) Γ [a, b] [s1, s2] Γ1) (hi : X.N[i]? = some x := by rfl) (hj : X.N[j]? = some y := by rfl) (hx : Loc X.env.scope x := by first | exact Or.inl rfl | exact Or.inr rfl) (hy : Loc X.env.scope y := by first | exact Or.inl rfl | exact Or.inr rfl)
    (hfx : X.fn x = true ∨ X.env.scope.names.lookup x = some .local := by first | exact .inl rfl | exact .inr rfl) (hfy : X.fn y = true ∨ X.env.scope.names.lookup y = some .local := by first | exact .inl rfl | exact .inr rfl)
    (hs1 : (assignEach [.Name x px, .Name y py] X.env).map (·.2) = assign (.Name x px) X.env :: (assignEach [.Name y py] X.env).map (·.2) := by rfl) (hs2 : (assignEach [.Name y py] X.env).map (·.2) = assign (.Name y py) X.env :: (assignEach [] X.env).map (·.2) := by rfl)
    (hn : (assignEach [.Name x px, .Name y py] X.env).length = 2 := by rfl) (hst : (assignEach [.Name x px, .Name y py] X.env).findIdx? (·.1) = none := by rfl) (hs : swapsWithSole [.Tuple [.Name x px, .Name y py] kt pt] (.Tuple [a, b] k2 pt2) pos.line X.env = pure false := by rfl) (hw : swappedStores [.Tuple [.Name x px, .Name y py] kt pt] (.Tuple [a, b] k2 pt2) X.env = pure none := by rfl)
    (h1 : (assignEach [.Tuple [.Name x px, .Name y py] kt pt] X.env).map (·.2) = [assign (.Tuple [.Name x px, .Name y py] kt pt) X.env] := by rfl) : QS G X Γ (.Assign [.Tuple [.Name x px, .Name y py] kt pt] (.Tuple [a, b] k2 pt2) pos) (.nx ((Γ1.set i s1).set j s2)) :=
  qs_tupm C hG [i, j] ha (pgs_cons (pg_name (C.nd ()) hi hx hfx) (pgs_cons (pg_name (C.nd ()) hj hy hfy) pgs_nil hs2) hs1) rfl (Nat.le_of_ble_eq_true rfl) hn hst hs hw h1
end
/-- a def that ends without return -/
theorem def_okN {W : Wd} {x : Str} {st : Stmt} {N ps : List Str} {k : Nat} (R : List Tv → Tv → Prop) (T : DefT W x st) (S : FnScope N ps (defScope st)) (hlen : ∀ ts t, R ts t → ts.length = ps.length)
    (hbind : ∀ (kV doc pm : Value) (an : Option Addr) (cdv ct : Value) (us : List Value), us.length = ps.length → bindArgs (PySem.W.fnOf x x (defArgs st) (defBody st) (defScope st) .none kV doc pm an cdv ct) ⟨us, []⟩ = pure (ps.zip us))
    (hbody : ∀ (f : Addr) (cdv : Value) (A : Around) (outer : List Env) (s : Shared) (H : Hp) (E : XK), Ctx W k (one (cx W N x (defScope st) f cdv A outer s H E)) → ∀ ts t, R ts t → t = .d .none ∧ ∃ Γ', QB W.G (cx W N x (defScope st) f cdv A outer s H E) (startG N ts) (defBody st) (.nx Γ')) : DefOk W (k + 1) x ps R := by
  obtain ⟨f, fd, hm, F⟩ := T.ex
  refine ⟨f, fd, hm, F.kp, F.bindsN hbind, F.ok S (fun vs H Q E h => ?_) (fun cdv A outer s H vs Q E hr h => ?_)⟩
  · obtain ⟨Hb, ts, t, _, _, h1, h2, _⟩ := h
    rw [Paired.length h1]
    exact hlen ts t h2
  · obtain ⟨Hb, ts, t, h0, h1, h2, h3, q⟩ := h
    have C : Ctx W k (one (cx W N x (defScope st) f cdv A outer s H E)) := ⟨fun _ => rfl, fun _ => rfl, fun _ => rfl, fun _ => rfl, fun _ => rfl, fun _ => rfl, fun _ => S.nd, fun _ => hr⟩
    obtain ⟨rfl, Γ', r, r1, r2⟩ := hbody f cdv A outer s H E C ts t h3
    refine ⟨r, PSs.nox r1, r2 _ _ _ _ (env_start h0 h1 h2) _ fun σ' H' Hb' E' s' => ?_⟩
    refine q H' Hb' .non E'.tp (fun b o e => ?_) s' E'.sub (fun b hb hn => ?_) .non
    · by_cases z : Hb b = none
      · exact (E'.frm b o (by show (if Hb b = none then H b else none) = some o; rw [if_pos z]; exact e)).1
      · cases e2 : Hb b with
        | none => exact absurd e2 z
        | some u =>
          have e3 := h1 b u e2
          rw [e] at e3
          cases e3
          exact E'.sub b o (s' b o e2)
    · cases e : H b with
      | none => exact absurd e hb
      | some o => exact (E'.frm b o (by show (if Hb b = none then H b else none) = some o; rw [if_pos hn]; exact e)).2
end Lk
set_option Elab.async false
set_option linter.all false
set_option maxRecDepth 100000
set_option maxHeartbeats 2000000
/-! D0: the text by places, what its top leaves. -/
namespace Lk
open PySem PySem.Spec PyProof.Rows L2
/-- what the top leaves -/
structure Tx (W : Wd) : Prop where
  cls : ClsT W.G
  gw : W.G.w = W.w
  ktup : KTup W.G
  n_Country : W.mg "Country" = some (.ref W.G.cC)
  n_Web : W.mg "Web" = some (.ref W.G.cW)
  isC : IsiC W.G W.G.cC
  isW : IsiC W.G W.G.cW
  initC : InitT W W.G.cC "Country.__init__" (clsM (top 23) 0)
  initW : InitT W W.G.cW "Web.__init__" (clsM (top 51) 0)
  prop : PropT W
  d_standing_by : DefTd W "standing_by" (top 56) [.non]
  d_law : DefT W "law" (top 108)
  m_len : W.mg "len" = none
  m_isinstance : W.mg "isinstance" = none
  m_int : W.mg "int" = none
  m_bool : W.mg "bool" = none
  m_list : W.mg "list" = none
  m_tuple : W.mg "tuple" = none
  m_all : W.mg "all" = none
  m_any : W.mg "any" = none
  m_min : W.mg "min" = none
  m_max : W.mg "max" = none
  m_range : W.mg "range" = none
  m_sorted : W.mg "sorted" = none
  m_set : W.mg "set" = none
  m_enumerate : W.mg "enumerate" = none
  m_zip : W.mg "zip" = none
  m_sum : W.mg "sum" = none
  m_repr : W.mg "repr" = none
  m_abs : W.mg "abs" = none
  m_divmod : W.mg "divmod" = none
  c_MOST_YARDS : ∃ u, W.mg "MOST_YARDS" = some (.int 7 u)
  c_MOST_LANES : ∃ u, W.mg "MOST_LANES" = some (.int 4 u)
  c_MOST_PLACES : ∃ u, W.mg "MOST_PLACES" = some (.int 6 u)
  c_MOST_BOUNDS : ∃ u, W.mg "MOST_BOUNDS" = some (.int 6 u)
  c_MOST_ALTERNATIVES : ∃ u, W.mg "MOST_ALTERNATIVES" = some (.int 4 u)
  c_MOST_CARTS : ∃ u, W.mg "MOST_CARTS" = some (.int 42 u)
  d_is_integer : DefT W "is_integer" (top 12)
  d_is_count : DefT W "is_count" (top 13)
  d_is_list : DefT W "is_list" (top 14)
  d_lane_in : DefT W "lane_in" (top 18)
  d_ties_of : DefT W "ties_of" (top 19)
  d_is_whole : DefT W "is_whole" (top 20)
  d_ahead_of : DefT W "ahead_of" (top 21)
  d_lanes_in : DefT W "lanes_in" (top 22)
  d_beside : DefT W "beside" (top 24)
  d_yards_in : DefT W "yards_in" (top 25)
  d_is_place : DefT W "is_place" (top 26)
  d_is_yard : DefT W "is_yard" (top 27)
  d_is_gate : DefT W "is_gate" (top 28)
  d_want_country : DefT W "want_country" (top 29)
  d_want_yard : DefT W "want_yard" (top 30)
  d_pairs_at : DefT W "pairs_at" (top 35)
  d_plus_cart : DefT W "plus_cart" (top 36)
  d_is_end_for : DefT W "is_end_for" (top 37)
  d_is_bound_for : DefT W "is_bound_for" (top 38)
  d_alternative_in : DefT W "alternative_in" (top 39)
  d_keeps : DefT W "keeps" (top 40)
  d_stands_by_one : DefT W "stands_by_one" (top 41)
  d_stands_by : DefT W "stands_by" (top 42)
  d_book_in : DefT W "book_in" (top 43)
  d_want_book : DefT W "want_book" (top 44)
  d_way_between : DefT W "way_between" (top 47)
  d_step_towards : DefT W "step_towards" (top 48)
  d_yards_behind : DefT W "yards_behind" (top 49)
  d_book_at : DefT W "book_at" (top 52)
  d_country_of : DefT W "country_of" (top 53)
  d_want_web : DefT W "want_web" (top 54)
  d_pairs_towards : DefT W "pairs_towards" (top 57)
  d_towards : DefT W "towards" (top 58)
  d_yard_sides : DefT W "yard_sides" (top 60)
  d_is_shut : DefT W "is_shut" (top 61)
  d_has_plug : DefT W "has_plug" (top 62)
  d_load_weight : DefT W "load_weight" (top 63)
  d_sides_plugged : DefT W "sides_plugged" (top 64)
  d_common_yards : DefT W "common_yards" (top 66)
  d_posts_of : DefT W "posts_of" (top 67)
  d_are_facing : DefT W "are_facing" (top 68)
  d_facing_pairs : DefT W "facing_pairs" (top 69)
  d_posts : DefT W "posts" (top 70)
  d_is_post : DefT W "is_post" (top 71)
  d_can_be_stuck : DefT W "can_be_stuck" (top 72)
  d_facing : DefT W "facing" (top 73)
  d_way_of_cart : DefT W "way_of_cart" (top 76)
  d_cart_next : DefT W "cart_next" (top 77)
  d_pair_on : DefT W "pair_on" (top 78)
  d_cart_pair : DefT W "cart_pair" (top 79)
  d_load_of_carts : DefT W "load_of_carts" (top 80)
  d_stand_in : DefT W "stand_in" (top 81)
  d_want_stand : DefT W "want_stand" (top 82)
  d_is_stand : DefT W "is_stand" (top 83)
  d_on_of : DefT W "on_of" (top 85)
  d_come_to : DefT W "come_to" (top 86)
  d_stand_behind : DefT W "stand_behind" (top 87)
  d_kinds_of : DefT W "kinds_of" (top 88)
  d_refused_of : DefT W "refused_of" (top 89)
  d_is_stuck_in : DefT W "is_stuck_in" (top 90)
  d_refused : DefT W "refused" (top 91)
  d_is_stuck : DefT W "is_stuck" (top 92)
  d__law_pot : DefT W "_law_pot" (top 94)
  d__law_draw : DefT W "_law_draw" (top 95)
  d__law_pick : DefT W "_law_pick" (top 96)
  d__law_shape : DefT W "_law_shape" (top 97)
  d__law_bound : DefT W "_law_bound" (top 98)
  d__law_book : DefT W "_law_book" (top 99)
  d__law_pair : DefT W "_law_pair" (top 100)
  d__law_lets : DefT W "_law_lets" (top 101)
  d__law_comes : DefT W "_law_comes" (top 102)
  d__law_on : DefT W "_law_on" (top 103)
  d__law_all : DefT W "_law_all" (top 104)
  d__law_is_plugged : DefT W "_law_is_plugged" (top 105)
  d__law_told : DefT W "_law_told" (top 106)
  d__law_right : DefT W "_law_right" (top 107)
abbrev n_is_integer : List Str := ["value"]
theorem sc_is_integer : FnScope n_is_integer ["value"] (defScope (top 12)) := ⟨rfl, rfl, rfl, by decide +kernel, rfl, by decide +kernel, by decide +kernel⟩
abbrev n_is_count : List Str := ["value"]
theorem sc_is_count : FnScope n_is_count ["value"] (defScope (top 13)) := ⟨rfl, rfl, rfl, by decide +kernel, rfl, by decide +kernel, by decide +kernel⟩
abbrev n_is_list : List Str := ["value"]
theorem sc_is_list : FnScope n_is_list ["value"] (defScope (top 14)) := ⟨rfl, rfl, rfl, by decide +kernel, rfl, by decide +kernel, by decide +kernel⟩
abbrev n_lane_in : List Str := ["value", "one"]
theorem sc_lane_in : FnScope n_lane_in ["value"] (defScope (top 18)) := ⟨rfl, rfl, rfl, by decide +kernel, rfl, by decide +kernel, by decide +kernel⟩
abbrev n_ties_of : List Str := ["lanes", "found", "near", "far", "place", "row"]
theorem sc_ties_of : FnScope n_ties_of ["lanes"] (defScope (top 19)) := ⟨rfl, rfl, rfl, by decide +kernel, rfl, by decide +kernel, by decide +kernel⟩
abbrev n_is_whole : List Str := ["ties", "met", "waiting", "place"]
theorem sc_is_whole : FnScope n_is_whole ["ties"] (defScope (top 20)) := ⟨rfl, rfl, rfl, by decide +kernel, rfl, by decide +kernel, by decide +kernel⟩
abbrev n_ahead_of : List Str := ["ties", "goal", "found", "waiting", "here", "place"]
theorem sc_ahead_of : FnScope n_ahead_of ["ties", "goal"] (defScope (top 21)) := ⟨rfl, rfl, rfl, by decide +kernel, rfl, by decide +kernel, by decide +kernel⟩
abbrev n_lanes_in : List Str := ["value", "found", "ties", "yards", "one", "row", "lane"]
theorem sc_lanes_in : FnScope n_lanes_in ["value"] (defScope (top 22)) := ⟨rfl, rfl, rfl, by decide +kernel, rfl, by decide +kernel, by decide +kernel⟩
abbrev n_beside : List Str := ["country", "place"]
theorem sc_beside : FnScope n_beside ["country", "place"] (defScope (top 24)) := ⟨rfl, rfl, rfl, by decide +kernel, rfl, by decide +kernel, by decide +kernel⟩
abbrev n_yards_in : List Str := ["country", "place", "row"]
theorem sc_yards_in : FnScope n_yards_in ["country"] (defScope (top 25)) := ⟨rfl, rfl, rfl, by decide +kernel, rfl, by decide +kernel, by decide +kernel⟩
abbrev n_is_place : List Str := ["country", "value"]
theorem sc_is_place : FnScope n_is_place ["country", "value"] (defScope (top 26)) := ⟨rfl, rfl, rfl, by decide +kernel, rfl, by decide +kernel, by decide +kernel⟩
abbrev n_is_yard : List Str := ["country", "value"]
theorem sc_is_yard : FnScope n_is_yard ["country", "value"] (defScope (top 27)) := ⟨rfl, rfl, rfl, by decide +kernel, rfl, by decide +kernel, by decide +kernel⟩
abbrev n_is_gate : List Str := ["country", "value"]
theorem sc_is_gate : FnScope n_is_gate ["country", "value"] (defScope (top 28)) := ⟨rfl, rfl, rfl, by decide +kernel, rfl, by decide +kernel, by decide +kernel⟩
abbrev n_want_country : List Str := ["value"]
theorem sc_want_country : FnScope n_want_country ["value"] (defScope (top 29)) := ⟨rfl, rfl, rfl, by decide +kernel, rfl, by decide +kernel, by decide +kernel⟩
abbrev n_want_yard : List Str := ["country", "value"]
theorem sc_want_yard : FnScope n_want_yard ["country", "value"] (defScope (top 30)) := ⟨rfl, rfl, rfl, by decide +kernel, rfl, by decide +kernel, by decide +kernel⟩
abbrev n_pairs_at : List Str := ["country", "yard", "near", "found", "origin", "target"]
theorem sc_pairs_at : FnScope n_pairs_at ["country", "yard"] (defScope (top 35)) := ⟨rfl, rfl, rfl, by decide +kernel, rfl, by decide +kernel, by decide +kernel⟩
abbrev n_plus_cart : List Str := ["load", "origin", "target", "found", "many", "one"]
theorem sc_plus_cart : FnScope n_plus_cart ["load", "origin", "target"] (defScope (top 36)) := ⟨rfl, rfl, rfl, by decide +kernel, rfl, by decide +kernel, by decide +kernel⟩
abbrev n_is_end_for : List Str := ["near", "value"]
theorem sc_is_end_for : FnScope n_is_end_for ["near", "value"] (defScope (top 37)) := ⟨rfl, rfl, rfl, by decide +kernel, rfl, by decide +kernel, by decide +kernel⟩
abbrev n_is_bound_for : List Str := ["near", "value"]
theorem sc_is_bound_for : FnScope n_is_bound_for ["near", "value"] (defScope (top 38)) := ⟨rfl, rfl, rfl, by decide +kernel, rfl, by decide +kernel, by decide +kernel⟩
abbrev n_alternative_in : List Str := ["near", "value", "bounds", "one"]
theorem sc_alternative_in : FnScope n_alternative_in ["near", "value"] (defScope (top 39)) := ⟨rfl, rfl, rfl, by decide +kernel, rfl, by decide +kernel, by decide +kernel⟩
abbrev n_keeps : List Str := ["bound", "load", "origin", "target", "most", "many", "start", "end", "some"]
theorem sc_keeps : FnScope n_keeps ["bound", "load"] (defScope (top 40)) := ⟨rfl, rfl, rfl, by decide +kernel, rfl, by decide +kernel, by decide +kernel⟩
abbrev n_stands_by_one : List Str := ["alternative", "load", "places", "bounds", "bound", "start", "end", "some"]
theorem sc_stands_by_one : FnScope n_stands_by_one ["alternative", "load"] (defScope (top 41)) := ⟨rfl, rfl, rfl, by decide +kernel, rfl, by decide +kernel, by decide +kernel⟩
abbrev n_stands_by : List Str := ["book", "load", "alternative"]
theorem sc_stands_by : FnScope n_stands_by ["book", "load"] (defScope (top 42)) := ⟨rfl, rfl, rfl, by decide +kernel, rfl, by decide +kernel, by decide +kernel⟩
abbrev n_book_in : List Str := ["country", "yard", "value", "near", "found", "single", "one", "origin", "target"]
theorem sc_book_in : FnScope n_book_in ["country", "yard", "value"] (defScope (top 43)) := ⟨rfl, rfl, rfl, by decide +kernel, rfl, by decide +kernel, by decide +kernel⟩
abbrev n_want_book : List Str := ["country", "yard", "value", "found"]
theorem sc_want_book : FnScope n_want_book ["country", "yard", "value"] (defScope (top 44)) := ⟨rfl, rfl, rfl, by decide +kernel, rfl, by decide +kernel, by decide +kernel⟩
abbrev n_way_between : List Str := ["country", "start", "end", "ahead", "found"]
theorem sc_way_between : FnScope n_way_between ["country", "start", "end"] (defScope (top 47)) := ⟨rfl, rfl, rfl, by decide +kernel, rfl, by decide +kernel, by decide +kernel⟩
abbrev n_step_towards : List Str := ["country", "place", "goal"]
theorem sc_step_towards : FnScope n_step_towards ["country", "place", "goal"] (defScope (top 48)) := ⟨rfl, rfl, rfl, by decide +kernel, rfl, by decide +kernel, by decide +kernel⟩
abbrev n_yards_behind : List Str := ["country", "yard", "target", "met", "waiting", "place"]
theorem sc_yards_behind : FnScope n_yards_behind ["country", "yard", "target"] (defScope (top 49)) := ⟨rfl, rfl, rfl, by decide +kernel, rfl, by decide +kernel, by decide +kernel⟩
abbrev n_book_at : List Str := ["web", "yard"]
theorem sc_book_at : FnScope n_book_at ["web", "yard"] (defScope (top 52)) := ⟨rfl, rfl, rfl, by decide +kernel, rfl, by decide +kernel, by decide +kernel⟩
abbrev n_country_of : List Str := ["web"]
theorem sc_country_of : FnScope n_country_of ["web"] (defScope (top 53)) := ⟨rfl, rfl, rfl, by decide +kernel, rfl, by decide +kernel, by decide +kernel⟩
abbrev n_want_web : List Str := ["value"]
theorem sc_want_web : FnScope n_want_web ["value"] (defScope (top 54)) := ⟨rfl, rfl, rfl, by decide +kernel, rfl, by decide +kernel, by decide +kernel⟩
abbrev n_standing_by : List Str := ["book", "pairs", "most", "found", "last", "later", "load", "first", "at", "more"]
theorem sc_standing_by : FnScope n_standing_by ["book", "pairs", "most"] (defScope (top 56)) := ⟨rfl, rfl, rfl, by decide +kernel, rfl, by decide +kernel, by decide +kernel⟩
abbrev n_pairs_towards : List Str := ["country", "yard", "target", "pair"]
theorem sc_pairs_towards : FnScope n_pairs_towards ["country", "yard", "target"] (defScope (top 57)) := ⟨rfl, rfl, rfl, by decide +kernel, rfl, by decide +kernel, by decide +kernel⟩
abbrev n_towards : List Str := ["web", "yard", "target", "pairs"]
theorem sc_towards : FnScope n_towards ["web", "yard", "target"] (defScope (top 58)) := ⟨rfl, rfl, rfl, by decide +kernel, rfl, by decide +kernel, by decide +kernel⟩
abbrev n_yard_sides : List Str := ["country", "found", "yard", "place"]
theorem sc_yard_sides : FnScope n_yard_sides ["country"] (defScope (top 60)) := ⟨rfl, rfl, rfl, by decide +kernel, rfl, by decide +kernel, by decide +kernel⟩
abbrev n_is_shut : List Str := ["book", "target", "load", "place"]
theorem sc_is_shut : FnScope n_is_shut ["book", "target", "load", "place"] (defScope (top 61)) := ⟨rfl, rfl, rfl, by decide +kernel, rfl, by decide +kernel, by decide +kernel⟩
abbrev n_has_plug : List Str := ["web", "side", "yard", "target", "book", "near", "load", "place"]
theorem sc_has_plug : FnScope n_has_plug ["web", "side"] (defScope (top 62)) := ⟨rfl, rfl, rfl, by decide +kernel, rfl, by decide +kernel, by decide +kernel⟩
abbrev n_load_weight : List Str := ["load", "row"]
theorem sc_load_weight : FnScope n_load_weight ["load"] (defScope (top 63)) := ⟨rfl, rfl, rfl, by decide +kernel, rfl, by decide +kernel, by decide +kernel⟩
abbrev n_sides_plugged : List Str := ["web", "side"]
theorem sc_sides_plugged : FnScope n_sides_plugged ["web"] (defScope (top 64)) := ⟨rfl, rfl, rfl, by decide +kernel, rfl, by decide +kernel, by decide +kernel⟩
abbrev n_common_yards : List Str := ["country", "sides", "rows", "yard", "target", "row"]
theorem sc_common_yards : FnScope n_common_yards ["country", "sides"] (defScope (top 66)) := ⟨rfl, rfl, rfl, by decide +kernel, rfl, by decide +kernel, by decide +kernel⟩
abbrev n_posts_of : List Str := ["web"]
theorem sc_posts_of : FnScope n_posts_of ["web"] (defScope (top 67)) := ⟨rfl, rfl, rfl, by decide +kernel, rfl, by decide +kernel, by decide +kernel⟩
abbrev n_are_facing : List Str := ["country", "one", "other", "way"]
theorem sc_are_facing : FnScope n_are_facing ["country", "one", "other"] (defScope (top 68)) := ⟨rfl, rfl, rfl, by decide +kernel, rfl, by decide +kernel, by decide +kernel⟩
abbrev n_facing_pairs : List Str := ["country", "sides", "found", "at", "one", "other"]
theorem sc_facing_pairs : FnScope n_facing_pairs ["country", "sides"] (defScope (top 69)) := ⟨rfl, rfl, rfl, by decide +kernel, rfl, by decide +kernel, by decide +kernel⟩
abbrev n_posts : List Str := ["web"]
theorem sc_posts : FnScope n_posts ["web"] (defScope (top 70)) := ⟨rfl, rfl, rfl, by decide +kernel, rfl, by decide +kernel, by decide +kernel⟩
abbrev n_is_post : List Str := ["web", "yard", "here"]
theorem sc_is_post : FnScope n_is_post ["web", "yard"] (defScope (top 71)) := ⟨rfl, rfl, rfl, by decide +kernel, rfl, by decide +kernel, by decide +kernel⟩
abbrev n_can_be_stuck : List Str := ["web"]
theorem sc_can_be_stuck : FnScope n_can_be_stuck ["web"] (defScope (top 72)) := ⟨rfl, rfl, rfl, by decide +kernel, rfl, by decide +kernel, by decide +kernel⟩
abbrev n_facing : List Str := ["web", "here"]
theorem sc_facing : FnScope n_facing ["web"] (defScope (top 73)) := ⟨rfl, rfl, rfl, by decide +kernel, rfl, by decide +kernel, by decide +kernel⟩
abbrev n_way_of_cart : List Str := ["country", "value", "yard", "start", "end", "way"]
theorem sc_way_of_cart : FnScope n_way_of_cart ["country", "value"] (defScope (top 76)) := ⟨rfl, rfl, rfl, by decide +kernel, rfl, by decide +kernel, by decide +kernel⟩
abbrev n_cart_next : List Str := ["country", "cart"]
theorem sc_cart_next : FnScope n_cart_next ["country", "cart"] (defScope (top 77)) := ⟨rfl, rfl, rfl, by decide +kernel, rfl, by decide +kernel, by decide +kernel⟩
abbrev n_pair_on : List Str := ["way", "yard", "at"]
theorem sc_pair_on : FnScope n_pair_on ["way", "yard"] (defScope (top 78)) := ⟨rfl, rfl, rfl, by decide +kernel, rfl, by decide +kernel, by decide +kernel⟩
abbrev n_cart_pair : List Str := ["country", "cart"]
theorem sc_cart_pair : FnScope n_cart_pair ["country", "cart"] (defScope (top 79)) := ⟨rfl, rfl, rfl, by decide +kernel, rfl, by decide +kernel, by decide +kernel⟩
abbrev n_load_of_carts : List Str := ["country", "carts", "yard", "found", "cart", "origin", "target"]
theorem sc_load_of_carts : FnScope n_load_of_carts ["country", "carts", "yard"] (defScope (top 80)) := ⟨rfl, rfl, rfl, by decide +kernel, rfl, by decide +kernel, by decide +kernel⟩
abbrev n_stand_in : List Str := ["web", "value", "country", "loads", "one", "way", "origin", "target", "yard"]
theorem sc_stand_in : FnScope n_stand_in ["web", "value"] (defScope (top 81)) := ⟨rfl, rfl, rfl, by decide +kernel, rfl, by decide +kernel, by decide +kernel⟩
abbrev n_want_stand : List Str := ["web", "value", "found"]
theorem sc_want_stand : FnScope n_want_stand ["web", "value"] (defScope (top 82)) := ⟨rfl, rfl, rfl, by decide +kernel, rfl, by decide +kernel, by decide +kernel⟩
abbrev n_is_stand : List Str := ["web", "value"]
theorem sc_is_stand : FnScope n_is_stand ["web", "value"] (defScope (top 83)) := ⟨rfl, rfl, rfl, by decide +kernel, rfl, by decide +kernel, by decide +kernel⟩
abbrev n_on_of : List Str := ["cart"]
theorem sc_on_of : FnScope n_on_of ["cart"] (defScope (top 85)) := ⟨rfl, rfl, rfl, by decide +kernel, rfl, by decide +kernel, by decide +kernel⟩
abbrev n_come_to : List Str := ["web", "left", "cart", "country", "yard", "origin", "target", "load"]
theorem sc_come_to : FnScope n_come_to ["web", "left", "cart"] (defScope (top 86)) := ⟨rfl, rfl, rfl, by decide +kernel, rfl, by decide +kernel, by decide +kernel⟩
abbrev n_stand_behind : List Str := ["web", "stand", "step", "country", "cart", "left", "place"]
theorem sc_stand_behind : FnScope n_stand_behind ["web", "stand", "step"] (defScope (top 87)) := ⟨rfl, rfl, rfl, by decide +kernel, rfl, by decide +kernel, by decide +kernel⟩
abbrev n_kinds_of : List Str := ["stand", "at", "cart"]
theorem sc_kinds_of : FnScope n_kinds_of ["stand"] (defScope (top 88)) := ⟨rfl, rfl, rfl, by decide +kernel, rfl, by decide +kernel, by decide +kernel⟩
abbrev n_refused_of : List Str := ["web", "stand", "cart"]
theorem sc_refused_of : FnScope n_refused_of ["web", "stand"] (defScope (top 89)) := ⟨rfl, rfl, rfl, by decide +kernel, rfl, by decide +kernel, by decide +kernel⟩
abbrev n_is_stuck_in : List Str := ["web", "stand"]
theorem sc_is_stuck_in : FnScope n_is_stuck_in ["web", "stand"] (defScope (top 90)) := ⟨rfl, rfl, rfl, by decide +kernel, rfl, by decide +kernel, by decide +kernel⟩
abbrev n_refused : List Str := ["web", "stand", "here"]
theorem sc_refused : FnScope n_refused ["web", "stand"] (defScope (top 91)) := ⟨rfl, rfl, rfl, by decide +kernel, rfl, by decide +kernel, by decide +kernel⟩
abbrev n_is_stuck : List Str := ["web", "stand", "here"]
theorem sc_is_stuck : FnScope n_is_stuck ["web", "stand"] (defScope (top 92)) := ⟨rfl, rfl, rfl, by decide +kernel, rfl, by decide +kernel, by decide +kernel⟩
abbrev n__law_pot : List Str := ["_law_script", "_law_k", "_law_cell", "_law_low"]
theorem sc__law_pot : FnScope n__law_pot ["_law_script", "_law_k"] (defScope (top 94)) := ⟨rfl, rfl, rfl, by decide +kernel, rfl, by decide +kernel, by decide +kernel⟩
abbrev n__law_draw : List Str := ["_law_pot_here", "_law_many", "_law_digit"]
theorem sc__law_draw : FnScope n__law_draw ["_law_pot_here", "_law_many"] (defScope (top 95)) := ⟨rfl, rfl, rfl, by decide +kernel, rfl, by decide +kernel, by decide +kernel⟩
abbrev n__law_pick : List Str := ["_law_pot_here", "_law_some"]
theorem sc__law_pick : FnScope n__law_pick ["_law_pot_here", "_law_some"] (defScope (top 96)) := ⟨rfl, rfl, rfl, by decide +kernel, rfl, by decide +kernel, by decide +kernel⟩
abbrev n__law_shape : List Str := ["_law_pot_here", "_law_way", "_law_ways"]
theorem sc__law_shape : FnScope n__law_shape ["_law_pot_here"] (defScope (top 97)) := ⟨rfl, rfl, rfl, by decide +kernel, rfl, by decide +kernel, by decide +kernel⟩
abbrev n__law_bound : List Str := ["_law_pot_here", "_law_beside", "_law_least", "_law_most", "_law_near", "_law_kind", "_law_far", "_law_place"]
theorem sc__law_bound : FnScope n__law_bound ["_law_pot_here", "_law_beside", "_law_least", "_law_most"] (defScope (top 98)) := ⟨rfl, rfl, rfl, by decide +kernel, rfl, by decide +kernel, by decide +kernel⟩
abbrev n__law_book : List Str := ["_law_pot_here", "_law_beside", "_law_most", "_law_places", "_law_found", "_law_turn"]
theorem sc__law_book : FnScope n__law_book ["_law_pot_here", "_law_beside", "_law_most"] (defScope (top 99)) := ⟨rfl, rfl, rfl, by decide +kernel, rfl, by decide +kernel, by decide +kernel⟩
abbrev n__law_pair : List Str := ["_law_cart", "_law_yard", "_law_way", "_law_at"]
theorem sc__law_pair : FnScope n__law_pair ["_law_cart"] (defScope (top 100)) := ⟨rfl, rfl, rfl, by decide +kernel, rfl, by decide +kernel, by decide +kernel⟩
abbrev n__law_lets : List Str := ["_law_book_here", "_law_pairs", "_law_places", "_law_bounds", "_law_over", "_law_near", "_law_far", "_law_most", "_law_one"]
theorem sc__law_lets : FnScope n__law_lets ["_law_book_here", "_law_pairs"] (defScope (top 101)) := ⟨rfl, rfl, rfl, by decide +kernel, rfl, by decide +kernel, by decide +kernel⟩
abbrev n__law_comes : List Str := ["_law_books", "_law_stand", "_law_cart", "_law_yard", "_law_one"]
theorem sc__law_comes : FnScope n__law_comes ["_law_books", "_law_stand", "_law_cart"] (defScope (top 102)) := ⟨rfl, rfl, rfl, by decide +kernel, rfl, by decide +kernel, by decide +kernel⟩
abbrev n__law_on : List Str := ["_law_cart", "_law_yard", "_law_way"]
theorem sc__law_on : FnScope n__law_on ["_law_cart"] (defScope (top 103)) := ⟨rfl, rfl, rfl, by decide +kernel, rfl, by decide +kernel, by decide +kernel⟩
abbrev n__law_all : List Str := ["_law_books", "_law_ways", "_law_rows", "_law_met", "_law_stuck", "_law_spot", "_law_stand", "_law_found", "_law_going", "_law_way", "_law_cart", "_law_at", "_law_late", "_law_left", "_law_one", "_law_some"]
theorem sc__law_all : FnScope n__law_all ["_law_books", "_law_ways"] (defScope (top 104)) := ⟨rfl, rfl, rfl, by decide +kernel, rfl, by decide +kernel, by decide +kernel⟩
abbrev n__law_is_plugged : List Str := ["_law_rows", "_law_books", "_law_yard", "_law_target", "_law_ways", "_law_stand", "_law_pairs", "_law_others", "_law_one", "_law_way"]
theorem sc__law_is_plugged : FnScope n__law_is_plugged ["_law_rows", "_law_books", "_law_yard", "_law_target", "_law_ways"] (defScope (top 105)) := ⟨rfl, rfl, rfl, by decide +kernel, rfl, by decide +kernel, by decide +kernel⟩
abbrev n__law_told : List Str := ["_law_stand", "_law_yard", "_law_way"]
theorem sc__law_told : FnScope n__law_told ["_law_stand"] (defScope (top 106)) := ⟨rfl, rfl, rfl, by decide +kernel, rfl, by decide +kernel, by decide +kernel⟩
abbrev n__law_right : List Str := ["_law_pot_here", "_law_lanes", "_law_ways", "_law_most", "_law_yards", "_law_books", "_law_post", "_law_is_kept", "_law_yard", "_law_beside", "_law_web", "_law_rows", "_law_stuck", "_law_told_here", "_law_carts", "_law_once", "_law_due", "_law_some", "_law_last", "_law_place", "_law_at", "_law_one", "_law_target"]
theorem sc__law_right : FnScope n__law_right ["_law_pot_here"] (defScope (top 107)) := ⟨rfl, rfl, rfl, by decide +kernel, rfl, by decide +kernel, by decide +kernel⟩
abbrev n_law : List Str := ["_law_script"]
theorem sc_law : FnScope n_law ["_law_script"] (defScope (top 108)) := ⟨rfl, rfl, rfl, by decide +kernel, rfl, by decide +kernel, by decide +kernel⟩
abbrev n_initC : List Str := ["self", "lanes", "told", "goal"]
theorem sc_initC : FnScope n_initC ["self", "lanes"] (defScope (clsM (top 23) 0)) := ⟨rfl, rfl, rfl, by decide +kernel, rfl, by decide +kernel, by decide +kernel⟩
abbrev n_initW : List Str := ["self", "country", "books", "here", "yards", "yard", "book"]
theorem sc_initW : FnScope n_initW ["self", "country", "books"] (defScope (clsM (top 51) 0)) := ⟨rfl, rfl, rfl, by decide +kernel, rfl, by decide +kernel, by decide +kernel⟩
end Lk
set_option Elab.async false
set_option linter.all false
set_option maxRecDepth 100000
set_option maxHeartbeats 2000000
/-! D1: small defs. -/
namespace Lk
open PySem PySem.Spec PyProof.Rows L2
section
variable {W : Wd}
def isDict : PyData → Bool
  | .dict _ => true
  | _ => false
def isInt : PyData → Bool
  | .int _ => true
  | _ => false
def isCnt : PyData → Bool
  | .int i => decide (0 ≤ i)
  | _ => false
def isLst : PyData → Bool
  | .list _ => true
  | .tuple _ => true
  | _ => false
theorem boot_boolT : bootBuiltins "bool" = some (.type "bool") := by decide +kernel
theorem kit_int : ∀ x : PyData, isDict x = false → ∃ a b, kitB (tyD x) "int" = some a ∧ kitB (tyD x) "bool" = some b ∧ (a && !b) = isInt x
  | .none, _ => ⟨false, false, (by show kitB "NoneType" "int" = _; decide +kernel), (by show kitB "NoneType" "bool" = _; decide +kernel), rfl⟩
  | .bool _, _ => ⟨true, true, (by show kitB "bool" "int" = _; decide +kernel), (by show kitB "bool" "bool" = _; decide +kernel), rfl⟩
  | .int _, _ => ⟨true, false, (by show kitB "int" "int" = _; decide +kernel), (by show kitB "int" "bool" = _; decide +kernel), rfl⟩
  | .str _, _ => ⟨false, false, (by show kitB "str" "int" = _; decide +kernel), (by show kitB "str" "bool" = _; decide +kernel), rfl⟩
  | .list _, _ => ⟨false, false, (by show kitB "list" "int" = _; decide +kernel), (by show kitB "list" "bool" = _; decide +kernel), rfl⟩
  | .tuple _, _ => ⟨false, false, (by show kitB "tuple" "int" = _; decide +kernel), (by show kitB "tuple" "bool" = _; decide +kernel), rfl⟩
  | .dict _, h => by cases h
theorem kit_lst : ∀ x : PyData, isDict x = false → ∃ a b, kitB (tyD x) "list" = some a ∧ kitB (tyD x) "tuple" = some b ∧ (a || b) = isLst x
  | .none, _ => ⟨false, false, (by show kitB "NoneType" "list" = _; decide +kernel), (by show kitB "NoneType" "tuple" = _; decide +kernel), rfl⟩
  | .bool _, _ => ⟨false, false, (by show kitB "bool" "list" = _; decide +kernel), (by show kitB "bool" "tuple" = _; decide +kernel), rfl⟩
  | .int _, _ => ⟨false, false, (by show kitB "int" "list" = _; decide +kernel), (by show kitB "int" "tuple" = _; decide +kernel), rfl⟩
  | .str _, _ => ⟨false, false, (by show kitB "str" "list" = _; decide +kernel), (by show kitB "str" "tuple" = _; decide +kernel), rfl⟩
  | .list _, _ => ⟨true, false, (by show kitB "list" "list" = _; decide +kernel), (by show kitB "list" "tuple" = _; decide +kernel), rfl⟩
  | .tuple _, _ => ⟨false, true, (by show kitB "tuple" "list" = _; decide +kernel), (by show kitB "tuple" "tuple" = _; decide +kernel), rfl⟩
  | .dict _, h => by cases h
theorem ok_is_integer (T : Tx W) : DefOk W 1 "is_integer" ["value"] (fun ts t => ∃ x, ts = [.d x] ∧ isDict x = false ∧ t = .d (.bool (isInt x))) := by
  refine def_ok _ T.d_is_integer sc_is_integer (fun ts t h => by obtain ⟨x, rfl, _⟩ := h; rfl) (fun _ _ _ _ _ _ us hl => match us, hl with | [_], _ => rfl) (fun f cdv A outer s H E C ts t h => ?_)
  obtain ⟨x, rfl, hx, rfl⟩ := h
  obtain ⟨a, b, h1, h2, e⟩ := kit_int x hx
  rw [← e]
  exact qb_ret (qs_ret (qv_and (qv_isi C rfl T.m_isinstance T.m_int PyProof.Rows.boot_int (qv_var 0) rfl h1) (fun _ => qv_one (qv_not (qv_isi C rfl T.m_isinstance T.m_bool boot_boolT (qv_var 0) rfl h2)))))
theorem ok_is_count (T : Tx W) : DefOk W 2 "is_count" ["value"] (fun ts t => ∃ x, ts = [.d x] ∧ isDict x = false ∧ t = .d (.bool (isCnt x))) := by
  have d1 := ok_is_integer T
  refine def_ok _ T.d_is_count sc_is_count (fun ts t h => by obtain ⟨x, rfl, _⟩ := h; rfl) (fun _ _ _ _ _ _ us hl => match us, hl with | [_], _ => rfl) (fun f cdv A outer s H E C ts t h => ?_)
  obtain ⟨x, rfl, hx, rfl⟩ := h
  cases x with
  | int i => exact qb_rt (qv_and (qv_call C rfl d1 (ql_cons (qv_var 0) ql_nil) ⟨_, rfl, rfl, rfl⟩) (fun _ => qv_one (qv_ge (qv_var 0) qv_int))) rfl
  | dict l => cases hx
  | _ => exact qb_rt (qv_and (n := true) (qv_call C rfl d1 (ql_cons (qv_var 0) ql_nil) ⟨_, rfl, rfl, rfl⟩) (fun h => by cases h)) rfl
theorem ok_is_list (T : Tx W) : DefOk W 1 "is_list" ["value"] (fun ts t => ∃ x, ts = [.d x] ∧ isDict x = false ∧ t = .d (.bool (isLst x))) := by
  refine def_ok _ T.d_is_list sc_is_list (fun ts t h => by obtain ⟨x, rfl, _⟩ := h; rfl) (fun _ _ _ _ _ _ us hl => match us, hl with | [_], _ => rfl) (fun f cdv A outer s H E C ts t h => ?_)
  obtain ⟨x, rfl, hx, rfl⟩ := h
  obtain ⟨a, b, h1, h2, e⟩ := kit_lst x hx
  rw [← e]
  exact qb_ret (qs_ret (qv_isiLT C rfl T.m_isinstance T.m_list T.m_tuple PyProof.Rows.boot_list PyProof.Rows.boot_tuple (qv_var 0) rfl h1 h2))
/-- def step_towards(country, place, goal): return country.own_ahead[goal][place] -/
theorem ok_step_towards (T : Tx W) : DefOk W 1 "step_towards" ["country", "place", "goal"] (fun ts t => ∃ c i j rows row d, ts = [.ctry c, .d (.int i), .d (.int j)] ∧ c.ahead = .list rows ∧ atI rows j = some (.list row) ∧ atI row i = some d ∧ t = .d d) := by
  refine def_ok _ T.d_step_towards sc_step_towards (fun ts t h => by obtain ⟨c, i, j, rows, row, d, rfl, _⟩ := h; rfl) (fun _ _ _ _ _ _ us hl => match us, hl with | [_, _, _], _ => rfl) (fun f cdv A outer s H E C ts t h => ?_)
  obtain ⟨c, i, j, rows, row, d, rfl, e1, e2, e3, rfl⟩ := h
  exact qb_ret (qs_ret <| qv_ixL C rfl (qv_ixL C rfl (qv_eq (qv_ahead C rfl T.cls (qv_var 0)) (by rw [e1])) (qv_var 2) e2) (qv_var 1) e3)
end
end Lk
set_option Elab.async false
set_option linter.all false
set_option maxRecDepth 100000
set_option maxHeartbeats 2000000
/-! D2: lanes, countries asked. -/
namespace Lk
open PySem PySem.Spec PyProof.Rows L2
section
variable {W : Wd}
theorem ok_lane_in (T : Tx W) : DefOk W 3 "lane_in" ["value"] (fun ts t => ∃ a b : Int, ts = [.d (eP (a, b))] ∧ 0 ≤ a ∧ a < b ∧ t = .d (eP (a, b))) := by
  have d1 := ok_is_list T
  have d2 := ok_is_count T
  refine def_ok _ T.d_lane_in sc_lane_in (fun ts t h => by obtain ⟨a, b, rfl, _⟩ := h; rfl) (fun _ _ _ _ _ _ us hl => match us, hl with | [_], _ => rfl) (fun f cdv A outer s H E C ts t h => ?_)
  obtain ⟨a, b, rfl, ha, hb, rfl⟩ := h
  have hb0 : 0 ≤ b := by omega
  have hc : ∀ x ∈ [a, b], Tv.d (PyData.bool true) = .d (.bool (isCnt (.int x))) := fun x hx => by
    have : 0 ≤ x := by
      simp only [List.mem_cons, List.not_mem_nil, or_false] at hx
      rcases hx with rfl | rfl <;> assumption
    simp [isCnt, this]
  exact qb_guard (qb_eq (qb_w (qw_or (qb_not (qb_val (qv_call C rfl d1 (ql_cons (qv_var 0) ql_nil) ⟨_, rfl, rfl, rfl⟩))) fun _ => qw_or ((qb_neD C rfl (qv_lenT C rfl T.m_len (qv_var 0)) qv_int rfl rfl)) fun _ =>
    qw_or (qb_not (qb_val (qv_all C rfl T.m_all (bs := [true, true]) (qv_new (qf_lcP C (lcM C rfl [a, b] PyData.int (fun _ => true) (fun _ => PyData.bool true) _ (fun x => [.fr (.d (eP (a, b))), .fr (.d (.int x))]) (qi_tup C rfl (qv_var 0)) (qg_name C.blk 1) (fun _ _ => qt_nil)
      (fun x hx _ => qv_call C.blk rfl d2 (ql_cons (qv_var 1) ql_nil) ⟨_, rfl, rfl, hc x hx⟩) (by simp)) (own := [("one", 1)]) (fun _ => bo_by rfl)))))) fun _ => qw_or1 ((qb_eqD C rfl (qv_ixT C rfl (qv_var 0) qv_int (d := .int a) rfl) (qv_ixT C rfl (qv_var 0) qv_int (d := .int b) rfl) rfl rfl)))) (by
      simp [isLst, eP, eqv_int]; omega)) (qb_rt (qv_tup (qd_cons (qv_min2 C T.m_min (qv_ixT C rfl (qv_var 0) qv_int (d := .int a) rfl) (qv_ixT C rfl (qv_var 0) qv_int (d := .int b) rfl)) (qd_cons (qv_max2 C T.m_max (qv_ixT C rfl (qv_var 0) qv_int (d := .int a) rfl) (qv_ixT C rfl (qv_var 0) qv_int (d := .int b) rfl)) qd_nil))) (by
      have h1 : ¬ b < a := by omega
      have h2 : b > a := by omega
      rw [if_neg h1, if_pos h2]; rfl))
/-! ### is_whole -/
def whTurn (s : List Int × List Int) (p : Int) : List Int × List Int := if p ∈ s.1 then s else (s.1 ++ [p], s.2 ++ [p])
def rowAt (ties : List (List Int)) (h : Int) : List Int := (atI ties h).getD []
def whStep (ties : List (List Int)) (s : List Int × List Int) : List Int × List Int := (rowAt ties (s.2.getLast?.getD 0)).foldl whTurn (s.1, s.2.dropLast)
def whIt (ties : List (List Int)) : Nat → List Int × List Int
  | 0 => ([0], [0])
  | m + 1 => whStep ties (whIt ties m)
def whOk (ties : List (List Int)) (n : Nat) : Bool := (List.range n).all (fun m => !(whIt ties m).2.isEmpty && (atI ties ((whIt ties m).2.getLast?.getD 0)).isSome && decide ((whIt ties m).1.length < 90 ∧ (whIt ties m).2.length < 90)) && (whIt ties n).2.isEmpty && ties.all fun r => decide (r.length < 10)
theorem last_get {α : Type} {xs : List α} {d : α} (h : xs.isEmpty = false) : xs[xs.length - 1]? = some (xs.getLast?.getD d) := by
  cases xs with
  | nil => cases h
  | cons a r =>
    rw [List.getLast?_eq_getElem?]
    rw [List.getElem?_eq_getElem (by simp)]
    rfl
theorem wh_len {row : List Int} : ∀ s : List Int × List Int, (row.foldl whTurn s).1.length ≤ s.1.length + row.length ∧ (row.foldl whTurn s).2.length ≤ s.2.length + row.length := by
  induction row with
  | nil => intro s; simp
  | cons a r ih =>
    intro s
    rw [List.foldl_cons]
    have h := ih (whTurn s a)
    have h2 : (whTurn s a).1.length ≤ s.1.length + 1 ∧ (whTurn s a).2.length ≤ s.2.length + 1 := by
      unfold whTurn
      split
      · omega
      · simp
    rw [List.length_cons]
    omega
theorem eqv_nil (xs : List PyData) : PyData.eqv (.list xs) (.list []) = xs.isEmpty := by cases xs <;> simp [PyData.eqv, PyData.eqvAll]
theorem ok_is_whole (T : Tx W) : DefOk W 1 "is_whole" ["ties"] (fun ts t => ∃ ties n, ts = [.d (.list (ties.map eIs))] ∧ whOk ties n = true ∧ t = .d (.bool (decide ((whIt ties n).1.length = ties.length)))) := by
  refine def_ok _ T.d_is_whole sc_is_whole (fun ts t h => by obtain ⟨a, b, rfl, _⟩ := h; rfl) (fun _ _ _ _ _ _ us hl => match us, hl with | [_], _ => rfl) (fun f cdv A outer s H E C ts t h => ?_)
  obtain ⟨ties, n, rfl, hok, rfl⟩ := h
  simp only [whOk, Bool.and_eq_true, List.all_eq_true, decide_eq_true_eq, List.mem_range, Bool.not_eq_true'] at hok
  obtain ⟨⟨h1, h2⟩, h3⟩ := hok
  have hrow : ∀ m, m < n → atI ties ((whIt ties m).2.getLast?.getD 0) = some (rowAt ties ((whIt ties m).2.getLast?.getD 0)) := fun m hm => by
    have h := (h1 m hm).1.2
    unfold rowAt
    cases e : atI ties ((whIt ties m).2.getLast?.getD 0) with
    | none => rw [e] at h; cases h
    | some r => rfl
  let env : List Int × List Int → List Sl := fun s => [.fr (.d (.list (ties.map eIs))), .ow (.lst (s.1.map PyData.int)), .ow (.lst (s.2.map PyData.int)), .no]
  have hlast : ∀ m, m < n → ((whIt ties m).2.map PyData.int)[((whIt ties m).2.map PyData.int).length - 1]? = some (.int ((whIt ties m).2.getLast?.getD 0)) := fun m hm => by
    rw [List.length_map, List.getElem?_map, last_get (d := 0) (h1 m hm).1.1]
    rfl
  have hdl : ∀ m, ((whIt ties m).2.map PyData.int).dropLast = ((whIt ties m).2.dropLast).map PyData.int := fun m => by rw [List.map_dropLast]
  have hlen : ∀ m, m < n → (rowAt ties ((whIt ties m).2.getLast?.getD 0)).length < 10 := fun m hm => by
    have h := hrow m hm
    unfold atI at h
    cases q : ixN ties.length ((whIt ties m).2.getLast?.getD 0) with
    | none => rw [q] at h; cases h
    | some j => rw [q] at h; exact h3 _ (List.mem_of_getElem? (show ties[j]? = _ from h))
  exact qb_cons (qs_par C (i := 1) (j := 2) (qm_ow (qf_lst (qd_cons qv_int qd_nil)) (qm_ow (qf_lst (qd_cons qv_int qd_nil)) qm_nil)))
    (qb_cons (qs_while (fun m => env (whIt ties m)) n (fun F σ H Hb E => E)
      (fun m hm => qb_peek 2 (hs := rfl) (qb_eq (qb_neD C rfl (qv_var 2) (qv_lst qd_nil) (shaped_ints _) rfl) (by
        rw [eqv_nil]
        by_cases hlt : m < n
        · have := (h1 m hlt).1.1
          rw [decide_eq_true hlt, List.isEmpty_map, this]
          rfl
        · have e : m = n := by omega
          subst e
          rw [decide_eq_false hlt, List.isEmpty_map, h2]
          rfl)))
      (fun m hm => ⟨_, qb_cons (qs_forM C rfl (rowAt ties ((whIt ties m).2.getLast?.getD 0)) PyData.int env whTurn ((whIt ties m).1, (whIt ties m).2.dropLast) (fun i s => s.1.length ≤ (whIt ties m).1.length + i ∧ s.2.length ≤ (whIt ties m).2.length + i)
          (qi_list C rfl (qv_ixL C rfl (qv_var 0) (qv_pop C rfl 2 (hlast m hm)) (atI_map (f := eIs) (hrow m hm)))) (qg_name C 3) ⟨Nat.le_refl _, by simp⟩ (fun F σ H Hb E => by rw [hdl m] at E; exact E)
          (fun i s a ha hs => ⟨by
            have h2 : (whTurn s a).1.length ≤ s.1.length + 1 ∧ (whTurn s a).2.length ≤ s.2.length + 1 := by
              unfold whTurn
              split
              · omega
              · simp
            omega, by
            have hi : i < 10 := by
              have h := (List.getElem?_eq_some_iff.mp ha).1
              have := hlen m hm
              omega
            have hb := (h1 m hm).2
            have hb1 : (s.1.map PyData.int).length < 100000 := by rw [List.length_map]; omega
            have hb2 : (s.2.map PyData.int).length < 100000 := by rw [List.length_map]; omega
            by_cases hin : a ∈ s.1
            · refine ⟨_, qb_cons (qs_if (o := .nx ((env s).set 3 (.fr (.d (.int a))))) (qb_eq (b2 := false) (qb_peek 1 (hs := rfl) (qb_nin C rfl (qv_var 3) (qv_var 1) rfl (shaped_ints _))) (by rw [any_eqv eqe_int]; simp [hin])) (fun z => by cases z) (fun _ => qb_nil)) qb_nil, fun F σ H Hb E => ?_⟩
              have e : whTurn s a = s := by unfold whTurn; rw [if_pos hin]
              rw [e]
              exact E.drop 3
            · refine ⟨_, qb_cons (qs_if (o := .nx [.fr (.d (.list (ties.map eIs))), .ow (.lst (s.1.map PyData.int ++ [.int a])), .ow (.lst (s.2.map PyData.int ++ [.int a])), .fr (.d (.int a))]) (qb_eq (b2 := true) (qb_peek 1 (hs := rfl) (qb_nin C rfl (qv_var 3) (qv_var 1) rfl (shaped_ints _))) (by rw [any_eqv eqe_int]; simp [hin]))
                (fun _ => qb_cons (qs_app C rfl 1 (qv_var 3) hb1) (qb_cons (qs_app C rfl 2 (qv_var 3) hb2) qb_nil)) (fun z => by cases z)) qb_nil, fun F σ H Hb E => ?_⟩
              have e : whTurn s a = (s.1 ++ [a], s.2 ++ [a]) := by unfold whTurn; rw [if_neg hin]
              rw [e]
              have E2 := E.drop 3
              have e2 : env (s.1 ++ [a], s.2 ++ [a]) = [.fr (.d (.list (ties.map eIs))), .ow (.lst (s.1.map PyData.int ++ [.int a])), .ow (.lst (s.2.map PyData.int ++ [.int a])), .no] := by simp [env]
              rw [e2]
              exact E2⟩)) qb_nil, fun F σ H Hb E => E⟩))
      (qb_rt (qv_eqD C rfl (qv_peek 1 (qv_lenL C rfl T.m_len (qv_var 1)) (hs := rfl)) (qv_lenL C rfl T.m_len (qv_var 0)) rfl rfl) (by rw [eqv_nat, List.length_map, List.length_map])))
end
end Lk
set_option Elab.async false
set_option linter.all false
set_option maxRecDepth 100000
set_option maxHeartbeats 2000000
/-! D3: ahead_of. -/
namespace Lk
open PySem PySem.Spec PyProof.Rows L2
section
variable {W : Wd}
def ahTurn (h : Int) (s : List (Option Int) × List Int) (p : Int) : List (Option Int) × List Int := match s.1[p.toNat]? with
  | some none => (s.1.set p.toNat (some h), s.2 ++ [p])
  | _ => s
def ahStep (ties : List (List Int)) (s : List (Option Int) × List Int) : List (Option Int) × List Int := (rowAt ties (s.2.getLast?.getD 0)).foldl (ahTurn (s.2.getLast?.getD 0)) (s.1, s.2.dropLast)
def ahIt (ties : List (List Int)) (g : Int) : Nat → List (Option Int) × List Int
  | 0 => ((List.replicate ties.length (none : Option Int)).set g.toNat (some g), [g])
  | m + 1 => ahStep ties (ahIt ties g m)
def ahOk (ties : List (List Int)) (g : Int) (n : Nat) : Bool := decide (0 ≤ g ∧ g.toNat < ties.length ∧ ties.length < 90) && (List.range n).all (fun m => !(ahIt ties g m).2.isEmpty && (atI ties ((ahIt ties g m).2.getLast?.getD 0)).isSome && decide ((ahIt ties g m).2.length < 90)) && (ahIt ties g n).2.isEmpty &&
  ties.all (fun r => decide (r.length < 10) && r.all fun p => decide (0 ≤ p ∧ p.toNat < ties.length)) && (ahIt ties g n).1.all (·.isSome)
theorem ahTurn_len (h : Int) (s : List (Option Int) × List Int) (p : Int) : (ahTurn h s p).1.length = s.1.length ∧ (ahTurn h s p).2.length ≤ s.2.length + 1 := by
  unfold ahTurn
  split <;> simp
theorem ahFold_len (h : Int) : ∀ (row : List Int) (s : List (Option Int) × List Int), (row.foldl (ahTurn h) s).1.length = s.1.length
  | [], s => rfl
  | p :: row, s => by rw [List.foldl_cons, ahFold_len h row, (ahTurn_len h s p).1]
theorem ahIt_len (ties : List (List Int)) (g : Int) : ∀ m, (ahIt ties g m).1.length = ties.length
  | 0 => by simp [ahIt]
  | m + 1 => by
    rw [ahIt, ahStep, ahFold_len]
    exact ahIt_len ties g m
theorem flat_rep (n : Nat) : (List.replicate n [PyData.none]).flatten = (List.replicate n (none : Option Int)).map eO := by
  induction n with
  | zero => rfl
  | succ n ih => rw [List.replicate_succ, List.flatten_cons, ih, List.replicate_succ, List.map_cons]; rfl
theorem ok_ahead_of (T : Tx W) : DefOk W 1 "ahead_of" ["ties", "goal"] (fun ts t => ∃ ties g n, ts = [.d (.list (ties.map eIs)), .d (.int g)] ∧ ahOk ties g n = true ∧ t = .d (.list ((ahIt ties g n).1.map eO))) := by
  refine def_ok _ T.d_ahead_of sc_ahead_of (fun ts t h => by obtain ⟨a, b, n, rfl, _⟩ := h; rfl) (fun _ _ _ _ _ _ us hl => match us, hl with | [_, _], _ => rfl) (fun f cdv A outer s H E C ts t h => ?_)
  obtain ⟨ties, g, n, rfl, hok, rfl⟩ := h
  simp only [ahOk, Bool.and_eq_true, List.all_eq_true, decide_eq_true_eq, List.mem_range, Bool.not_eq_true'] at hok
  obtain ⟨⟨⟨⟨⟨hg0, hg1, hg2⟩, h1⟩, h2⟩, h3⟩, h4⟩ := hok
  have hrow : ∀ m, m < n → atI ties ((ahIt ties g m).2.getLast?.getD 0) = some (rowAt ties ((ahIt ties g m).2.getLast?.getD 0)) := fun m hm => by
    have h := (h1 m hm).1.2
    unfold rowAt
    cases e : atI ties ((ahIt ties g m).2.getLast?.getD 0) with
    | none => rw [e] at h; cases h
    | some r => rfl
  let env : List (Option Int) × List Int → List Sl := fun s => [.fr (.d (.list (ties.map eIs))), .fr (.d (.int g)), .ow (.lst (s.1.map eO)), .ow (.lst (s.2.map PyData.int)), .no, .no]
  let env2 : Int → List (Option Int) × List Int → List Sl := fun h s => [.fr (.d (.list (ties.map eIs))), .fr (.d (.int g)), .ow (.lst (s.1.map eO)), .ow (.lst (s.2.map PyData.int)), .fr (.d (.int h)), .no]
  have hlast : ∀ m, m < n → ((ahIt ties g m).2.map PyData.int)[((ahIt ties g m).2.map PyData.int).length - 1]? = some (.int ((ahIt ties g m).2.getLast?.getD 0)) := fun m hm => by
    rw [List.length_map, List.getElem?_map, last_get (d := 0) (h1 m hm).1.1]
    rfl
  have hdl : ∀ m, ((ahIt ties g m).2.map PyData.int).dropLast = ((ahIt ties g m).2.dropLast).map PyData.int := fun m => by rw [List.map_dropLast]
  have hmem : ∀ m, m < n → rowAt ties ((ahIt ties g m).2.getLast?.getD 0) ∈ ties := fun m hm => by
    have h := hrow m hm
    unfold atI at h
    cases q : ixN ties.length ((ahIt ties g m).2.getLast?.getD 0) with
    | none => rw [q] at h; cases h
    | some j => rw [q] at h; exact List.mem_of_getElem? (show ties[j]? = _ from h)
  have hfl : (List.replicate (((ties.map eIs).length : Int).toNat) [PyData.none]).flatten = (List.replicate ties.length (none : Option Int)).map eO := by
    rw [flat_rep, List.length_map]
    rfl
  have hg2 : ((List.replicate ties.length (none : Option Int)).map eO).set g.toNat (.int g) = (ahIt ties g 0).1.map eO := by
    rw [ahIt, List.map_set]
    rfl
  have hg3 : g.toNat < ((List.replicate (((ties.map eIs).length : Int).toNat) [PyData.none]).flatten).length := by rw [hfl]; simp; exact hg1
  have hz : ([PyData.none] : List PyData).length * ((ties.map eIs).length : Int).toNat ≤ 100000 := by simp; omega
  have hz2 : -(2 ^ 62) ≤ ((ties.map eIs).length : Int) := by omega
  have hz3 : ((ties.map eIs).length : Int) < 2 ^ 62 := by rw [List.length_map]; omega
  exact qb_cons (qs_par C (i := 2) (j := 3) (qm_ow (qf_rep (qf_lst (qd_cons qv_non qd_nil)) (qv_lenL C rfl T.m_len (qv_var 0)) hz2 hz3 hz) (qm_ow (qf_lst (qd_cons (qv_var 1) qd_nil)) qm_nil)))
    (qb_cons (qs_lput C rfl 2 (qv_var 1) (qv_var 1) (j := g.toNat) (ixN_pos hg0 hg3) (h1 := rfl))
    (qb_cons (qs_while (fun m => env (ahIt ties g m)) n (fun F σ H Hb E => by
        have E2 : EnvOk W.G F [.fr (.d (.list (ties.map eIs))), .fr (.d (.int g)), .ow (.lst (((List.replicate (((ties.map eIs).length : Int).toNat) [PyData.none]).flatten).set g.toNat (.int g))), .ow (.lst [.int g]), .no, .no] σ H Hb := E
        rw [hfl, hg2] at E2
        exact E2)
      (fun m hm => qb_peek 3 (hs := rfl) (qb_eq (qb_neD C rfl (qv_var 3) (qv_lst qd_nil) (shaped_ints _) rfl) (by
        rw [eqv_nil]
        by_cases hlt : m < n
        · have := (h1 m hlt).1.1
          rw [decide_eq_true hlt, List.isEmpty_map, this]
          rfl
        · have e : m = n := by omega
          subst e
          rw [decide_eq_false hlt, List.isEmpty_map, h2]
          rfl)))
      (fun m hm => ⟨_, qb_cons (qs_set C 4 (qv_pop C rfl 3 (hlast m hm))) (qb_cons (qs_forM C rfl (rowAt ties ((ahIt ties g m).2.getLast?.getD 0)) PyData.int (env2 ((ahIt ties g m).2.getLast?.getD 0)) (ahTurn ((ahIt ties g m).2.getLast?.getD 0)) ((ahIt ties g m).1, (ahIt ties g m).2.dropLast) (fun i s => s.1.length = ties.length ∧ s.2.length ≤ (ahIt ties g m).2.length + i)
          (qi_list C rfl (qv_ixL C rfl (qv_var 0) (qv_var 4) (atI_map (f := eIs) (hrow m hm)))) (qg_name C 5) ⟨ahIt_len ties g m, by simp⟩ (fun F σ H Hb E => by rw [hdl m] at E; exact E)
          (fun i s a ha hs => ⟨by
            have h2 := ahTurn_len ((ahIt ties g m).2.getLast?.getD 0) s a
            omega, by
            have hrm := h3 _ (hmem m hm)
            have hi : i < 10 := by
              have h := (List.getElem?_eq_some_iff.mp ha).1
              have := hrm.1
              omega
            have hb := (h1 m hm).2
            have hb2 : (s.2.map PyData.int).length < 100000 := by rw [List.length_map]; omega
            obtain ⟨ha0, ha1⟩ := hrm.2 a (List.mem_of_getElem? ha)
            have hal : a.toNat < s.1.length := by omega
            have hget : s.1[a.toNat]? = some s.1[a.toNat] := List.getElem?_eq_getElem hal
            have hat : atI (s.1.map eO) a = some (eO s.1[a.toNat]) := by
              refine atI_map ?_
              rw [atI_pos ha0 hal, hget]
            cases hv : s.1[a.toNat] with
            | some b =>
              rw [hv] at hat hget
              refine ⟨_, qb_cons (qs_if (o := .nx ((env2 ((ahIt ties g m).2.getLast?.getD 0) s).set 5 (.fr (.d (.int a))))) (qb_eq (b2 := false) (qb_isN (qv_ixO C rfl 2 (qv_var 5) hat)) rfl) (fun z => by cases z) (fun _ => qb_nil)) qb_nil, fun F σ H Hb E => ?_⟩
              have e : ahTurn ((ahIt ties g m).2.getLast?.getD 0) s a = s := by unfold ahTurn; rw [hget]
              rw [e]
              exact E.drop 5
            | none =>
              rw [hv] at hat hget
              refine ⟨_, qb_cons (qs_if (o := .nx [.fr (.d (.list (ties.map eIs))), .fr (.d (.int g)), .ow (.lst ((s.1.map eO).set a.toNat (.int ((ahIt ties g m).2.getLast?.getD 0)))), .ow (.lst (s.2.map PyData.int ++ [.int a])), .fr (.d (.int ((ahIt ties g m).2.getLast?.getD 0))), .fr (.d (.int a))]) (qb_eq (b2 := true) (qb_isN (qv_ixO C rfl 2 (qv_var 5) hat)) rfl)
                (fun _ => qb_cons (qs_lput C rfl 2 (qv_var 4) (qv_var 5) (j := a.toNat) (ixN_pos ha0 (by rw [List.length_map]; exact hal))) (qb_cons (qs_app C rfl 3 (qv_var 5) hb2) qb_nil)) (fun z => by cases z)) qb_nil, fun F σ H Hb E => ?_⟩
              have e : ahTurn ((ahIt ties g m).2.getLast?.getD 0) s a = (s.1.set a.toNat (some ((ahIt ties g m).2.getLast?.getD 0)), s.2 ++ [a]) := by unfold ahTurn; rw [hget]
              rw [e]
              have E2 := E.drop 5
              have e2 : env2 ((ahIt ties g m).2.getLast?.getD 0) (s.1.set a.toNat (some ((ahIt ties g m).2.getLast?.getD 0)), s.2 ++ [a]) = [.fr (.d (.list (ties.map eIs))), .fr (.d (.int g)), .ow (.lst ((s.1.map eO).set a.toNat (.int ((ahIt ties g m).2.getLast?.getD 0)))), .ow (.lst (s.2.map PyData.int ++ [.int a])), .fr (.d (.int ((ahIt ties g m).2.getLast?.getD 0))), .no] := by
                simp only [env2, List.map_set, List.map_append]
                rfl
              rw [e2]
              exact E2⟩)) qb_nil), fun F σ H Hb E => E.drop 4⟩))
      (qb_frz 2 rfl (qb_rt (qv_var 2) rfl))))
end
end Lk
set_option Elab.async false
set_option linter.all false
set_option maxRecDepth 100000
set_option maxHeartbeats 2000000
/-! D4: ties_of: a list of lists that grow. -/
namespace Lk
open PySem PySem.Spec PyProof.Rows L2
def appAt (dss : List (List Int)) (i x : Int) : List (List Int) := dss.set i.toNat ((dss[i.toNat]?.getD []) ++ [x])
def tiTurn (dss : List (List Int)) (p : Pr) : List (List Int) := appAt (appAt dss p.1 p.2) p.2 p.1
def tiRaw (L : List Pr) : List (List Int) := L.foldl tiTurn (List.replicate (L.length + 1) [])
def tiesOf (L : List Pr) : List (List Int) := (tiRaw L).map sortI
theorem reframe2 {G : Gx} {F H Hb : Hp} {Γ : List Sl} {σ : L2.St} {p : Addr} {o o' : HO} (E : EnvOk G F Γ σ H Hb) (h : F p = some o) : EnvOk G (upd F p o') Γ σ (upd H p o') Hb where
  len := E.len
  sub := fun b u e => by
    have nb : b ≠ p := fun z => by subst z; rw [(E.frm b o h).2] at e; cases e
    rw [upd_ne nb]
    exact E.sub b u e
  frm := fun b u e => by
    by_cases q : b = p
    · subst q
      rw [upd_same] at e
      cases e
      exact ⟨upd_same, (E.frm b o h).2⟩
    · rw [upd_ne q] at e
      exact ⟨by rw [upd_ne q]; exact (E.frm b u e).1, (E.frm b u e).2⟩
  sl := fun i s hs => by
    have q := E.sl i s hs
    cases s with
    | no => exact q
    | fr t => exact q
    | ow w =>
      obtain ⟨a, ho, e1, e2, e3, e4, e5⟩ := q
      have nb : a ≠ p := fun z => by subst z; rw [h] at e2; cases e2
      exact ⟨a, ho, e1, by rw [upd_ne nb]; exact e2, e3, by rw [upd_ne nb]; exact e4, e5⟩
  ap := E.ap
  tp := E.tp
theorem unframe2 {G : Gx} {F F' H Hb : Hp} {Γ : List Sl} {σ : L2.St} (E : EnvOk G F' Γ σ H Hb) (h : ∀ b o, F b = some o → F' b = some o) : EnvOk G F Γ σ H Hb where
  len := E.len
  sub := E.sub
  frm := fun b u e => E.frm b u (h b u e)
  sl := fun i s hs => by
    have q := E.sl i s hs
    cases s with
    | no => exact q
    | fr t => exact q
    | ow w =>
      obtain ⟨a, ho, e1, e2, e3, e4, e5⟩ := q
      refine ⟨a, ho, e1, ?_, e3, e4, e5⟩
      cases z : F a with
      | none => rfl
      | some u => rw [h a u z] at e2; cases e2
  ap := E.ap
  tp := E.tp
structure Nst (G : Gx) (F FF H Hb : Hp) (Γ : List Sl) (σ : L2.St) (D : Addr) (bs : List Addr) (dss : List (List Int)) : Prop where
  E : EnvOk G FF Γ σ H Hb
  sub : ∀ b o, F b = some o → FF b = some o
  hD : FF D = some (.lst (bs.map V.ref))
  fD : F D = none
  hb : ∀ (i : Nat) b, bs[i]? = some b → ∃ d : List Int, dss[i]? = some d ∧ FF b = some (.lst (d.map V.int)) ∧ F b = none ∧ b ≠ D
  nd : bs.Nodup
  len : bs.length = dss.length
theorem Nst.env {G : Gx} {F FF H Hb H' Hb' : Hp} {Γ Γ' : List Sl} {σ σ' : L2.St} {D : Addr} {bs : List Addr} {dss : List (List Int)} (N : Nst G F FF H Hb Γ σ D bs dss) (E' : EnvOk G FF Γ' σ' H' Hb') : Nst G F FF H' Hb' Γ' σ' D bs dss := ⟨E', N.sub, N.hD, N.fD, N.hb, N.nd, N.len⟩
/-- one more list -/
theorem Nst.snoc {G : Gx} {F FF H Hb : Hp} {Γ : List Sl} {σ : L2.St} {D p : Addr} {bs : List Addr} {dss : List (List Int)} (N : Nst G F FF H Hb Γ σ D bs dss) (hp : H p = none) :
    Nst G F (upd (upd FF p (.lst [])) D (.lst ((bs ++ [p]).map V.ref))) (upd (upd H p (.lst [])) D (.lst ((bs ++ [p]).map V.ref))) Hb Γ σ D (bs ++ [p]) (dss ++ [[]]) := by
  have fp : FF p = none := N.E.fn hp
  have nD : p ≠ D := fun z => by subst z; rw [N.hD] at fp; cases fp
  have E1 := (N.E.lay (o := .lst []) hp).frame upd_same (N.E.hbn hp) (N.E.notN hp)
  have hD1 : upd FF p (.lst []) D = some (.lst (bs.map V.ref)) := by rw [upd_ne nD.symm]; exact N.hD
  have nb : ∀ b ∈ bs, b ≠ p := fun b hb z => by
    subst z
    obtain ⟨i, hi⟩ := List.mem_iff_getElem?.mp hb
    obtain ⟨d, _, h2, _⟩ := N.hb i b hi
    rw [h2] at fp
    cases fp
  refine ⟨reframe2 E1 hD1, fun b o e => ?_, upd_same, N.fD, fun i b hi => ?_, ?_, by simp [N.len]⟩
  · have h1 := N.sub b o e
    have n1 : b ≠ p := fun z => by subst z; rw [h1] at fp; cases fp
    have n2 : b ≠ D := fun z => by subst z; rw [N.fD] at e; cases e
    rw [upd_ne n2, upd_ne n1]
    exact h1
  · by_cases hl : i < bs.length
    · rw [List.getElem?_append_left hl] at hi
      obtain ⟨d, h1, h2, h3, h4⟩ := N.hb i b hi
      refine ⟨d, by rw [List.getElem?_append_left (by rw [← N.len]; exact hl)]; exact h1, ?_, h3, h4⟩
      rw [upd_ne h4, upd_ne (nb b (List.mem_of_getElem? hi))]
      exact h2
    · rw [List.getElem?_append_right (by omega)] at hi
      have e : i = bs.length := by
        have h := (List.getElem?_eq_some_iff.mp hi).1
        simp at h
        omega
      subst e
      simp at hi
      subst hi
      refine ⟨[], by rw [N.len]; simp, ?_, ?_, nD⟩
      · rw [upd_ne nD, upd_same]; rfl
      · cases z : F p with
        | none => rfl
        | some u => rw [N.sub p u z] at fp; cases fp
  · rw [List.nodup_append]
    exact ⟨N.nd, by simp, fun a ha b hb => by simp at hb; subst hb; exact nb a ha⟩
/-- found[i].append(x) -/
theorem Nst.app {G : Gx} {F FF H Hb : Hp} {Γ : List Sl} {σ : L2.St} {D b : Addr} {bs : List Addr} {dss : List (List Int)} {i : Nat} {d : List Int} {x : Int} (N : Nst G F FF H Hb Γ σ D bs dss) (hb : bs[i]? = some b) (hd : dss[i]? = some d) :
    Nst G F (upd FF b (.lst ((d ++ [x]).map V.int))) (upd H b (.lst ((d ++ [x]).map V.int))) Hb Γ σ D bs (dss.set i (d ++ [x])) := by
  obtain ⟨d', h1, h2, h3, h4⟩ := N.hb i b hb
  rw [hd] at h1
  cases h1
  refine ⟨reframe2 N.E h2, fun c o e => ?_, by rw [upd_ne (Ne.symm h4)]; exact N.hD, N.fD, fun j c hc => ?_, N.nd, by rw [List.length_set]; exact N.len⟩
  · rw [upd_ne (fun z => by subst z; rw [h3] at e; cases e)]
    exact N.sub c o e
  · obtain ⟨d2, g1, g2, g3, g4⟩ := N.hb j c hc
    by_cases z : j = i
    · subst z
      rw [hb] at hc
      cases hc
      refine ⟨d ++ [x], by rw [List.getElem?_set_self (List.getElem?_eq_some_iff.mp hd).1], upd_same, h3, h4⟩
    · have nc : c ≠ b := fun w => by
        subst w
        exact z ((List.getElem?_inj (List.getElem?_eq_some_iff.mp hc).1 N.nd).mp (hc.trans hb.symm))
      exact ⟨d2, by rw [List.getElem?_set_ne (Ne.symm z)]; exact g1, by rw [upd_ne nc]; exact g2, g3, g4⟩
/-- all let stand -/
theorem stillAll {G : Gx} {F H : Hp} {Γ : List Sl} {σ : L2.St} : ∀ {bs : List Addr} {dss : List (List Int)} {Hb : Hp}, EnvOk G F Γ σ H Hb → bs.length = dss.length → bs.Nodup → (∀ (i : Nat) b, bs[i]? = some b → ∃ d : List Int, dss[i]? = some d ∧ H b = some (.lst (d.map V.int)) ∧ Hb b = none ∧ F b = none ∧ Not Γ σ b) →
    ∃ Hb', EnvOk G F Γ σ H Hb' ∧ Same Hb Hb' ∧ (∀ c, c ∉ bs → Hb' c = Hb c) ∧ DpAll G.K Hb' (bs.map V.ref) (dss.map eIs)
  | [], [], Hb, E, _, _, _ => ⟨Hb, E, Same.refl _, fun _ _ => rfl, .nil⟩
  | [], _ :: _, _, _, hl, _, _ => by simp at hl
  | _ :: _, [], _, _, hl, _, _ => by simp at hl
  | b :: bs, d :: dss, Hb, E, hl, hn, h => by
    obtain ⟨d', g1, g2, g3, g4, g5⟩ := h 0 b (by simp)
    simp at g1
    subst g1
    have E1 := E.still g2 g3 g4 g5 trivial
    have hn2 := List.nodup_cons.mp hn
    obtain ⟨Hb', E2, s2, k2, a2⟩ := stillAll (bs := bs) (dss := dss) E1 (by simpa using hl) hn2.2 (fun i c hc => by
      obtain ⟨d2, f1, f2, f3, f4, f5⟩ := h (i + 1) c (by simpa using hc)
      refine ⟨d2, by simpa using f1, f2, ?_, f4, f5⟩
      rw [upd_ne (fun z => by subst z; exact hn2.1 (List.mem_of_getElem? hc))]
      exact f3)
    refine ⟨Hb', E2, (same_upd g3).trans s2, fun c hc => ?_, ?_⟩
    · rw [List.mem_cons, not_or] at hc
      rw [k2 c hc.2, upd_ne hc.1]
    · refine .cons (.lst (.of (s2 b _ upd_same)) (dpAll_of_ints d)) a2
theorem appAt_len (dss : List (List Int)) (i x : Int) : (appAt dss i x).length = dss.length := by unfold appAt; rw [List.length_set]
end Lk
set_option Elab.async false
set_option linter.all false
set_option maxRecDepth 100000
set_option maxHeartbeats 2000000
/-! D5: ties_of. -/
namespace Lk
open PySem PySem.Spec PyProof.Rows L2
section
variable {W : Wd}
def tiOk (L : List Pr) : Bool := decide (L.length < 50) && L.all fun p => decide (0 ≤ p.1 ∧ p.1.toNat ≤ L.length ∧ 0 ≤ p.2 ∧ p.2.toNat ≤ L.length)
/-- x.append(y), x an expression -/
theorem app_any {X : Cx} {o e : Expr} {ro re : TE} {pos apos cpos : Pos} (ho : PE X o ro) (he : PE X e re) (hbase : attributeBase o "append" X.env (eval o X.env) = eval o X.env := by rfl)
    (hfew : ((backTo cpos (starEach [e] X.env)).all (fun x => !x.1) && (backToKw cpos (keywordEach [] X.env)).all (fun x => x.1.isSome) && decide (([e] : List Expr).length + ([] : List Keyword).length + (if ([] : List Keyword).isEmpty then 0 else 1) < 30)) = true := by rfl)
    (hline : (apos.endLine == cpos.line) = true := by rfl) (hs : starEach [e] X.env = (false, eval e X.env) :: starEach [] X.env := by rfl) (hplain : (backTo cpos (starEach [] X.env)).any (·.1) = false := by rfl) (hsw : swapsWith (.Call (.Attribute o "append" apos) [e] [] cpos) none pos.line X.env = pure false := by rfl) :
    PS X (.Expr (.Call (.Attribute o "append" apos) [e] [] cpos) pos) (tDrop (tBM X.K "list" rAppend ro (tCons re tNil))) :=
  ps_expr (pe_bm (X := X) (cpos := cpos) (apos := apos) PySem.F.plainAttrs_list PySem.F.slot_list_append PySem.F.type_list_append (mt_append (X := X)) ho (pa_cons he pa_nil hs) hbase hfew hline hs hplain) hsw
/-- its reading: found[slot i].append(slot j) -/
theorem app_sv {G : Gx} {F FF H Hb : Hp} {Γ : List Sl} {σ : L2.St} {D : Addr} {bs : List Addr} {dss : List (List Int)} {i j : Nat} {m x : Int} (N : Nst G F FF H Hb Γ σ D bs dss) (h1 : σ[1]? = some (some (.ref D))) (hi : σ[i]? = some (some (.int m))) (hj : σ[j]? = some (some (.int x))) (h0 : 0 ≤ m) (hm : m.toNat < dss.length) (hz : ∀ d ∈ dss, d.length < 1000) {D' : Ends}
    (h : ∀ FF' H', Nst G F FF' H' Hb Γ σ D bs (appAt dss m x) → D'.nx σ H') : tDrop (tBM G.K "list" rAppend (tOp (rIxL G.K) (tVar 1) (tVar i)) (tCons (tVar j) tNil)) D' σ H := by
  obtain ⟨b, hb⟩ : ∃ b, bs[m.toNat]? = some b := ⟨_, List.getElem?_eq_getElem (by rw [N.len]; exact hm)⟩
  obtain ⟨d, hd, hF, _, _⟩ := N.hb _ _ hb
  have hD := (N.E.frm D _ N.hD).1
  have hB := (N.E.frm b _ hF).1
  have hbl : m.toNat < bs.length := by rw [N.len]; exact hm
  refine ⟨_, h1, _, hi, D, bs.map V.ref, m, .ref b, rfl, rfl, .of hD, ?_, tyv_list hB, _, hj, b, d.map V.int, .int x, rfl, rfl, hB, ?_, ?_⟩
  · rw [atI_pos h0 (by rw [List.length_map]; exact hbl), List.getElem?_map, hb]
    rfl
  · rw [List.length_map]
    exact Nat.lt_of_lt_of_le (hz d (List.mem_of_getElem? hd)) (by decide)
  · have N2 := N.app (x := x) hb hd
    have e : appAt dss m x = dss.set m.toNat (d ++ [x]) := by unfold appAt; rw [hd]; rfl
    rw [List.map_append] at N2
    rw [← e] at N2
    exact h _ _ N2
theorem appAt_small {dss : List (List Int)} {i x : Int} {n : Nat} (h : ∀ d ∈ dss, d.length ≤ n) : ∀ d ∈ appAt dss i x, d.length ≤ n + 1 := fun d hd => by
  unfold appAt at hd
  rcases List.mem_or_eq_of_mem_set hd with h1 | h1
  · have := h d h1; omega
  · subst h1
    cases e : dss[i.toNat]? with
    | none => simp
    | some r =>
      have := h r (List.mem_of_getElem? e)
      simp
      omega
end
end Lk
set_option Elab.async false
set_option linter.all false
set_option maxRecDepth 100000
set_option maxHeartbeats 2000000
/-! D6: ties_of. -/
namespace Lk
open PySem PySem.Spec PyProof.Rows L2
section
variable {W : Wd}
theorem tiTurn_len (dss : List (List Int)) (p : Pr) : (tiTurn dss p).length = dss.length := by unfold tiTurn; rw [appAt_len, appAt_len]
theorem foldl_len (l : List Pr) : ∀ dss : List (List Int), (l.foldl tiTurn dss).length = dss.length := by
  induction l with
  | nil => intro dss; rfl
  | cons p l ih => intro dss; rw [List.foldl_cons, ih, tiTurn_len]
/-- the two statements that make and fill the lists -/
theorem qb_nest {k : Nat} {X : Cx} {t0 : Tv} {L : List Pr} {iter iter2 tg1 tg2 : Expr} {scope : Scope} {p1 p2 p4 p5 p6 q1 q2 q3 q4 q5 q6 q7 r1 r2 r3 r4 r5 r6 r7 : Pos} {rest : List Stmt} {out : Out} (C : Ctx W k (one X)) (hN : X.N = n_ties_of) (hL : L.length < 50) (hp : ∀ p ∈ L, 0 ≤ p.1 ∧ p.1.toNat ≤ L.length ∧ 0 ≤ p.2 ∧ p.2.toNat ≤ L.length)
    (hv : X.env.scope.names.lookup ("found" : Str) = some .local) {nr : Nat} {ok : PyData → Prop} {to : List Sl → PyData → List Sl} (hnr : nr = L.length + 1) (hK : X.K = W.G.K)
    (hi : PIv W.G (one X) [.fr t0, .no, .no, .no, .no, .no] tg1 iter (rngD 0 nr) [.fr t0, .no, .no, .no, .no, .no]) (hg : PGv W.G (blk (one X) scope) [4] tg1 (fun _ => True) (fun Γ d => Γ.set 4 (.fr (.d d)))) (bo : BlkOk X.N X.env.scope scope [("place", 4)])
    (hi2 : PIv W.G (one X) [.fr t0, .no, .no, .no, .no, .no] tg2 iter2 (L.map eP) [.fr t0, .no, .no, .no, .no, .no]) (hg2 : PGv W.G (one X) [2, 3] tg2 ok to) (hok : ∀ p, ok (eP p)) (hto : ∀ p : Pr, to [.fr t0, .no, .no, .no, .no, .no] (eP p) = [.fr t0, .no, .fr (.d (.int p.1)), .fr (.d (.int p.2)), .no, .no])
    (hrest : QB W.G X [.fr t0, .fr (.d (.list ((tiRaw L).map eIs))), .no, .no, .no, .no] rest out)
    (hsw : swapsWith (.ListComp (.List [] p2) [⟨tg1, iter, [], 0⟩] scope p4) (some (.Name "found" p1)) p5.line X.env = pure true) (hs : ∀ x, foldedSetIterable iter X.env x = pure x) (hs2 : ∀ x, foldedSetIterable iter2 X.env x = pure x)
    (ha1 : PS X (.Expr (.Call (.Attribute (.Subscript (.Name "found" q1) (.Name "near" q2) q3) "append" q4) [.Name "far" q5] [] q6) q7) (tDrop (tBM X.K "list" rAppend (tOp (rIxL X.K) (tVar 1) (tVar 2)) (tCons (tVar 3) tNil))))
    (ha2 : PS X (.Expr (.Call (.Attribute (.Subscript (.Name "found" r1) (.Name "far" r2) r3) "append" r4) [.Name "near" r5] [] r6) r7) (tDrop (tBM X.K "list" rAppend (tOp (rIxL X.K) (tVar 1) (tVar 3)) (tCons (tVar 2) tNil))))
    (hpo : PassesOwn (model X.prog X.w) X.A X.env X.xe) :
    QB W.G X [.fr t0, .no, .no, .no, .no, .no] (.Assign [.Name "found" p1] (.ListComp (.List [] p2) [⟨tg1, iter, [], 0⟩] scope p4) p5 ::
      .For tg2 iter2 [.Expr (.Call (.Attribute (.Subscript (.Name "found" q1) (.Name "near" q2) q3) "append" q4) [.Name "far" q5] [] q6) q7, .Expr (.Call (.Attribute (.Subscript (.Name "found" r1) (.Name "far" r2) r3) "append" r4) [.Name "near" r5] [] r6) r7] [] p6 :: rest) out := by
  subst hnr
  rw [hK] at ha1 ha2
  let Γ0 : List Sl := [.fr t0, .no, .no, .no, .no, .no]
  obtain ⟨wi, i1, i2⟩ := hi
  obtain ⟨g, g1, g2⟩ := hg
  obtain ⟨wj, j1, j2⟩ := hi2
  obtain ⟨u, u1, u2⟩ := hg2
  have hfound : X.N[1]? = some ("found" : Str) := by rw [hN]; rfl
  have s1 := ps_setLc (X := X) (te := tLst tNil) (tt := canT (blk (one X) scope) []) (pos := p4) (spos := p5) (py := p1) (i := 1) (C.calm ()) (C.nd ()) hfound hv hsw (i1 ()) bo (fun s H c cl fp => g1 ((), s, H, c, cl, fp)) (fun s H c cl fp => canT_pts (blk (one X) scope) [] ((), s, H, c, cl, fp)) (fun s H c cl fp => pe_lst pa_nil) hs
  have s2 := ps_for (X := X) (pos := p6) hpo (C.calm ()) (j1 ()) (u1 ()) (pss_cons ha1 (pss_cons ha2 pss_nil)) hs2
  refine ⟨_, pss_cons s1 (pss_cons s2 (canB_pss X rest)), fun F σ H Hb E D wsh => ?_⟩
  refine i2 F σ H Hb E _ fun J H1 Hb1 E1 sm1 wk => fun D0 hD => ?_
  have hn : (rngD 0 (L.length + 1)).length = L.length + 1 := by unfold rngD; rw [List.length_map, List.length_range]
  have wk2 : Walk J (rngD 0 (L.length + 1)).length (fun H => Same Hb1 H) (fun i H x H' => ∃ d, (rngD 0 (L.length + 1))[i]? = some d ∧ ((H' = H ∧ Dp W.G.K Hb1 x d) ∨ ∃ T x1 x2 d1 d2, x = .ref T ∧ H T = none ∧ H' = upd H T (.tup [x1, x2]) ∧ d = .tuple [d1, d2] ∧ Dp W.G.K Hb1 x1 d1 ∧ Dp W.G.K Hb1 x2 d2)) := ⟨wk.goes, wk.stops, wk.yields⟩
  have fD := E1.fn hD
  refine lc_it wk2 (fun i H => ∃ Hb2 FF bs, Same Hb1 Hb2 ∧ Nst W.G F FF H Hb2 Γ0 (wipe σ [4]) D0 bs (List.replicate i [])) ?_ ?_ ?_ ?_
  · have E2 := (E1.wiped [4]).lay (o := .lst []) hD
    exact ⟨Hb1, _, [], Same.refl _, E2.frame upd_same (E1.hbn hD) ((E1.wiped _).notN hD), fun b o e => by rw [upd_ne (fun z => by subst z; rw [fD] at e; cases e)]; exact e, upd_same, fD, fun i b h => by simp at h, .nil, rfl⟩
  · rintro i H2 hi ⟨Hb2, FF, bs, s2, N⟩
    exact s2.trans N.E.sub
  · rintro i x H2 H3 hi ⟨Hb2, FF, bs, sm2, N⟩ ⟨d, hd, hx⟩
    have hint : ∃ m : Int, d = .int m := by
      unfold rngD at hd
      rw [List.getElem?_map] at hd
      cases e : (List.range (L.length + 1))[i]? with
      | none => rw [e] at hd; cases hd
      | some m => rw [e] at hd; cases hd; exact ⟨_, rfl⟩
    obtain ⟨m, rfl⟩ := hint
    rcases hx with ⟨rfl, dx⟩ | ⟨T, x1, x2, d1, d2, _, _, _, h5, _⟩
    · refine g2 Γ0 (.int m) trivial FF _ _ Hb2 x N.E (dp_up sm2 dx) _ fun σ2 E4 hl hm => ?_
      have ew : wipe σ2 [4] = wipe σ [4] := by
        have e1 := wipe_eq (vs := [4]) hl fun m hm' => hm m hm'
        rw [e1]
        exact wipe_eq (wipe_length _ _) fun m hm' => wipe_out hm'
      refine ⟨ew, PTv.can (qt_nil (X := blk (one X) scope)) _ _ _ _ E4 _ fun H5 Hb5 E5 s5 => iteT ⟨by decide, fun p hpn => ?_⟩⟩
      have hDp : p ≠ D0 := fun z => by subst z; rw [(E5.frm _ _ N.hD).1] at hpn; cases hpn
      have N5 : Nst W.G F FF H5 Hb5 Γ0 (wipe σ [4]) D0 bs (List.replicate i []) := N.env (by
        have z := E5.wiped [4]
        rw [ew] at z
        exact z)
      have N6 := N5.snoc hpn
      have hbl : bs.length = i := by rw [N.len, List.length_replicate]
      refine ⟨bs.map V.ref, by rw [upd_ne hDp.symm]; exact (E5.frm _ _ N.hD).1, ?_, Hb5, upd (upd FF p (.lst [])) D0 (.lst ((bs ++ [p]).map V.ref)), bs ++ [p], sm2.trans s5, ?_⟩
      · rw [List.length_map, hbl]
        rw [hn] at hi
        exact Nat.lt_of_lt_of_le (show i < 100 by omega) (by decide)
      · rw [List.replicate_succ', show List.map V.ref bs ++ [V.ref p] = (bs ++ [p]).map V.ref by simp]
        exact N6
    · cases h5
  · rintro H2 ⟨Hb2, FF, bs, sm2, N⟩
    -- found gets the list
    show tSeq _ _ _ _ _
    have N1s : Same Hb1 Hb2 := sm2
    have N1 : Nst W.G F FF H2 Hb2 Γ0 (σ.set 1 (some (.ref D0))) D0 bs (List.replicate (L.length + 1) []) := by
      rw [hn] at N
      have z : EnvOk W.G FF (wipeG Γ0 [4]) (wipe σ [4]) H2 Hb2 := N.E
      exact N.env ((z.unwipe).forget 1 _)
    have hσ : (σ.set 1 (some (V.ref D0)))[1]? = some (some (.ref D0)) := get_set_lt (by rw [← E.len]; simp)
    generalize σ.set 1 (some (V.ref D0)) = τ at N1 hσ
    -- the loop
    refine j2 FF τ H2 Hb2 N1.E _ fun J2 H3 Hb3 E3 sm3 wk3 => ?_
    have N2 := N1.env E3
    refine ⟨fun i m σ H => m = L.length - i ∧ i ≤ L.length ∧ ∃ Hb4 FF bs, Same Hb3 Hb4 ∧ Nst W.G F FF H Hb4 Γ0 σ D0 bs ((L.take i).foldl tiTurn (List.replicate (L.length + 1) [])) ∧ σ[1]? = some (some (.ref D0)) ∧ ∀ d ∈ (L.take i).foldl tiTurn (List.replicate (L.length + 1) []), d.length ≤ 2 * i, ⟨L.length, by simp, Nat.zero_le _, Hb3, FF, bs, Same.refl _, N2, hσ, fun d hd => by
      rw [List.take_zero] at hd
      have := List.eq_of_mem_replicate hd
      subst this
      simp⟩, ?_⟩
    rintro i m σ4 H4 ⟨rfl, hi, Hb4, FF4, bs4, sm4, N4, hσ4, hz4⟩
    have hlen : (L.map eP).length = L.length := List.length_map ..
    by_cases hlt : i < L.length
    · refine .inr ⟨wk3.goes i H4 (by rw [hlen]; exact hlt) (sm4.trans N4.E.sub), fun σ' H' => i + 1 ≤ L.length ∧ ∃ Hb4 FF bs, Same Hb3 Hb4 ∧ Nst W.G F FF H' Hb4 Γ0 σ' D0 bs ((L.take (i + 1)).foldl tiTurn (List.replicate (L.length + 1) [])) ∧ σ'[1]? = some (some (.ref D0)) ∧ ∀ d ∈ (L.take (i + 1)).foldl tiTurn (List.replicate (L.length + 1) []), d.length ≤ 2 * (i + 1), ?_, ?_⟩
      · rintro σ' H' ⟨h1, h2⟩
        exact ⟨L.length - (i + 1), by omega, rfl, h1, h2⟩
      · intro x H5 hy
        obtain ⟨d, hd, hx⟩ := wk3.yields i H4 x H5 (by rw [hlen]; exact hlt) (sm4.trans N4.E.sub) hy
        have hd' : d = eP L[i] := by
          rw [List.getElem?_map, List.getElem?_eq_getElem hlt] at hd
          exact (Option.some.inj hd).symm
        subst hd'
        obtain ⟨a1, a2, a3, a4⟩ := hp _ (List.getElem_mem hlt)
        have etake : (L.take (i + 1)).foldl tiTurn (List.replicate (L.length + 1) []) = tiTurn ((L.take i).foldl tiTurn (List.replicate (L.length + 1) [])) L[i] := by
          rw [List.take_succ, List.getElem?_eq_getElem hlt, List.foldl_append]
          rfl
        rw [etake]
        generalize hdss : (L.take i).foldl tiTurn (List.replicate (L.length + 1) []) = dss at N4 hz4
        have hdl : dss.length = L.length + 1 := by rw [← hdss, foldl_len, List.length_replicate]
        let Nx : L2.St → Hp → Prop := fun σ' H' => i + 1 ≤ L.length ∧ ∃ Hb4 FF bs, Same Hb3 Hb4 ∧ Nst W.G F FF H' Hb4 Γ0 σ' D0 bs (tiTurn dss L[i]) ∧ σ'[1]? = some (some (.ref D0)) ∧ ∀ d ∈ tiTurn dss L[i], d.length ≤ 2 * (i + 1)
        have main : ∀ (Db : Ends), Db.nx = Nx → ∀ Hb5, Same Hb4 Hb5 → Nst W.G F FF4 H5 Hb5 Γ0 σ4 D0 bs4 dss → Dp W.G.K Hb5 x (eP L[i]) → u x σ4 H5 fun σ' H' => tSeq (tDrop (tBM W.G.K "list" rAppend (tOp (rIxL W.G.K) (tVar 1) (tVar 2)) (tCons (tVar 3) tNil))) (tSeq (tDrop (tBM W.G.K "list" rAppend (tOp (rIxL W.G.K) (tVar 1) (tVar 3)) (tCons (tVar 2) tNil))) tNext) Db σ' H' := by
          intro Db hDb Hb5 s5 N5 dx
          refine u2 Γ0 (eP L[i]) (hok _) FF4 σ4 H5 Hb5 x N5.E dx _ fun σ6 E6 hl6 hm6 => ?_
          rw [hto] at E6
          obtain ⟨v2, f2, f3⟩ := E6.fr (i := 2) (t := .d (.int L[i].1)) rfl
          obtain ⟨v3, f4, f5⟩ := E6.fr (i := 3) (t := .d (.int L[i].2)) rfl
          rw [dp_int f3] at f2
          rw [dp_int f5] at f4
          have h61 : σ6[1]? = some (some (.ref D0)) := by rw [hm6 1 (by simp)]; exact hσ4
          have E7 : EnvOk W.G FF4 Γ0 σ6 H5 Hb5 := (E6.drop 2).drop 3
          have N7 := N5.env E7
          refine app_sv N7 h61 f2 f4 a1 (by omega) (fun d hd => by have := hz4 d hd; omega) fun FF8 H8 N8 => ?_
          refine app_sv N8 h61 f4 f2 a3 (by rw [appAt_len]; omega) (fun d hd => by have := appAt_small hz4 d hd; omega) fun FF9 H9 N9 => ?_
          show Db.nx σ6 H9
          rw [hDb]
          refine ⟨hlt, Hb5, FF9, bs4, sm4.trans s5, N9, h61, fun d hd => ?_⟩
          have := appAt_small (appAt_small hz4) d hd
          omega
        rcases hx with ⟨rfl, dx⟩ | ⟨T, x1, x2, d1, d2, rfl, hT, rfl, he, dx1, dx2⟩
        · exact main _ rfl Hb4 (Same.refl _) N4 (dp_up sm4 dx)
        · have up := same_upd (N4.E.hbn hT) (o := .tup [x1, x2])
          refine main _ rfl _ up (N4.env (N4.E.new hT tok2)) ?_
          rw [he]
          exact .tup (.of upd_same) (.cons (dp_up (sm4.trans up) dx1) (.cons (dp_up (sm4.trans up) dx2) .nil))
    · have e : i = L.length := by omega
      subst e
      refine .inl ⟨by have q := wk3.stops H4 (sm4.trans N4.E.sub); rw [hlen] at q; exact q, ?_⟩
      rw [List.take_length] at N4
      show canB X rest D σ4 H4
      have E5 := unframe2 N4.E N4.sub
      have hFn : ∀ (i : Nat) b, bs4[i]? = some b → ∃ d : List Int, (tiRaw L)[i]? = some d ∧ H4 b = some (.lst (d.map V.int)) ∧ Hb4 b = none ∧ F b = none ∧ Not Γ0 σ4 b := fun i b hb => by
        obtain ⟨d, h1, h2, h3, h4⟩ := N4.hb i b hb
        refine ⟨d, h1, (N4.E.frm _ _ h2).1, (N4.E.frm _ _ h2).2, h3, fun j o hj => ?_⟩
        match j, hj with
        | 0, hj => cases hj
        | 1, hj => cases hj
        | 2, hj => cases hj
        | 3, hj => cases hj
        | 4, hj => cases hj
        | 5, hj => cases hj
        | j + 6, hj => simp [Γ0] at hj
      obtain ⟨Hb6, E6, s6, k6, a6⟩ := stillAll E5 N4.len N4.nd hFn
      have hDn : D0 ∉ bs4 := fun hb => by
        obtain ⟨j, hj⟩ := List.mem_iff_getElem?.mp hb
        obtain ⟨_, _, _, _, h4⟩ := N4.hb j D0 hj
        exact h4 rfl
      have hD6 : Hb6 D0 = none := by rw [k6 D0 hDn]; exact (N4.E.frm _ _ N4.hD).2
      have E7 := E6.still (N4.E.frm _ _ N4.hD).1 hD6 N4.fD (fun j o hj => by
        match j, hj with
        | 0, hj => cases hj
        | 1, hj => cases hj
        | 2, hj => cases hj
        | 3, hj => cases hj
        | 4, hj => cases hj
        | 5, hj => cases hj
        | j + 6, hj => simp [Γ0] at hj) trivial
      have up := same_upd hD6 (o := .lst (bs4.map V.ref))
      have E8 := E7.set (i := 1) (v := .ref D0) (t := .d (.list ((tiRaw L).map eIs))) (.lst (.of upd_same) (dpAll_up up a6))
      have es : σ4.set 1 (some (V.ref D0)) = σ4 := by
        refine List.ext_getElem? fun j => ?_
        by_cases q : j = 1
        · subst q
          rw [get_set_lt (List.getElem?_eq_some_iff.mp hσ4).1, hσ4]
        · rw [List.getElem?_set_ne (Ne.symm q)]
      rw [es] at E8
      exact hrest.can F σ4 H4 _ E8 D (wsh.up (((((sm1.trans N1s).trans sm3).trans sm4).trans s6).trans up))
theorem ok_ties_of (T : Tx W) : DefOk W 1 "ties_of" ["lanes"] (fun ts t => ∃ L : List Pr, ts = [.d (.list (L.map eP))] ∧ tiOk L = true ∧ t = .d (.list ((tiesOf L).map eIs))) := by
  refine def_ok _ T.d_ties_of sc_ties_of (fun ts t h => by obtain ⟨a, rfl, _⟩ := h; rfl) (fun _ _ _ _ _ _ us hl => match us, hl with | [_], _ => rfl) (fun f cdv A outer s H E C ts t h => ?_)
  obtain ⟨L, rfl, hok, rfl⟩ := h
  simp only [tiOk, Bool.and_eq_true, List.all_eq_true, decide_eq_true_eq] at hok
  obtain ⟨hL, hp⟩ := hok
  have hraw : (tiRaw L).length ≤ 100000 := by
    unfold tiRaw
    rw [foldl_len, List.length_replicate]
    omega
  exact qb_nest (nr := (((L.map eP).length : Int) + 1).toNat) C rfl hL hp rfl (by rw [List.length_map]; omega) (C.K ()) (qi_rng1 C T.m_range (qv_add (qv_lenL C rfl T.m_len (qv_var 0)) qv_int) (by omega) (by rw [List.length_map]; omega)) (qg_name C.blk 4) (bo_by rfl) (qi_list C rfl (qv_var 0)) (qg_tup (n := 2) C rfl (qgs_cons (qg_name C 2) (qgs_cons (qg_name C 3) qgs_nil))) (fun _ => ⟨rfl, trivial, trivial, rfl⟩) (fun _ => rfl)
    (qb_rt (qv_new (qf_lcP C (lcA C rfl (tiRaw L) eIs (fun r => eIs (sortI r)) _ (fun r => [.fr (.d (.list (L.map eP))), .fr (.d (.list ((tiRaw L).map eIs))), .no, .no, .no, .fr (.d (eIs r))]) (qi_list C rfl (qv_var 1)) (qg_name C.blk 5)
      (fun r _ => qv_eq (qv_new (qf_sorted C.blk rfl T.m_sorted (qv_var 5) (allAlike_I _) (sortable_I _) (d8_I _))) (by rw [sort_I]; rfl)) hraw) (own := [("row", 5)]) (fun _ => bo_by rfl))) (by simp [frzO, tiesOf, Function.comp_def]))
    (sw_true rfl rfl rfl (by decide +kernel)) (fun _ => rfl) (fun _ => rfl)
    (app_any (pe_ix ix_list (pe_var (i := 1) rfl (Or.inl rfl)) (pe_var (i := 2) rfl (Or.inl rfl)) (fun _ _ => rfl)) (pe_var (i := 3) rfl (Or.inl rfl)))
    (app_any (pe_ix ix_list (pe_var (i := 1) rfl (Or.inl rfl)) (pe_var (i := 3) rfl (Or.inl rfl)) (fun _ _ => rfl)) (pe_var (i := 2) rfl (Or.inl rfl))) PassesOwn.never
end
end Lk
set_option Elab.async false
set_option linter.all false
set_option maxRecDepth 100000
set_option maxHeartbeats 2000000
/-! E1: lanes_in, what a country tells. -/
namespace Lk
open PySem PySem.Spec PyProof.Rows L2
section
variable {W : Wd}
def lnOk (L : List Pr) (n : Nat) : Bool := decide (L.length ≤ 28) && L.all (fun p => decide (0 ≤ p.1 ∧ p.1 < p.2 ∧ p.2 ≤ L.length)) && decide L.Nodup && tiOk L && decide (1 ≤ ((tiesOf L).filter fun r => decide (r.length > 1)).length ∧ ((tiesOf L).filter fun r => decide (r.length > 1)).length ≤ 7) && (tiesOf L).all (fun r => decide (r.length ≤ 4)) && whOk (tiesOf L) n && decide ((whIt (tiesOf L) n).1.length = (tiesOf L).length)
theorem tiesOf_len (L : List Pr) : (tiesOf L).length = L.length + 1 := by
  unfold tiesOf tiRaw
  rw [List.length_map, foldl_len, List.length_replicate]
theorem any_false {α : Type} {xs : List α} {f : α → Bool} (h : ∀ x ∈ xs, f x = false) : (xs.map f).any id = false := by
  rw [List.any_map, List.any_eq_false]
  intro x hx
  simp [h x hx]
theorem ok_lanes_in (T : Tx W) : DefOk W 4 "lanes_in" ["value"] (fun ts t => ∃ L n, ts = [.d (.list (L.map eP))] ∧ lnOk L n = true ∧ t = .d (.list ((sortP L).map eP))) := by
  have d1 := ok_is_list T
  have d2 := ok_lane_in T
  have d3 := ok_ties_of T
  have d4 := ok_is_whole T
  refine def_ok _ T.d_lanes_in sc_lanes_in (fun ts t h => by obtain ⟨a, n, rfl, _⟩ := h; rfl) (fun _ _ _ _ _ _ us hl => match us, hl with | [_], _ => rfl) (fun f cdv A outer s H E C ts t h => ?_)
  obtain ⟨L, n, rfl, hok, rfl⟩ := h
  simp only [lnOk, Bool.and_eq_true, List.all_eq_true, decide_eq_true_eq] at hok
  obtain ⟨⟨⟨⟨⟨⟨⟨h1, h2⟩, h3⟩, h4⟩, h5, h6⟩, h7⟩, h8⟩, h9⟩ := hok
  have hlen : L.length ≤ 100000 := by omega
  have htl : (tiesOf L).length ≤ 100000 := by rw [tiesOf_len]; omega
  have hls : (L.map fun p => [p.1, p.2]).Nodup := by
    rw [List.nodup_iff_pairwise_ne] at h3 ⊢
    rw [List.pairwise_map]
    refine h3.imp fun {a b} hne e => hne ?_
    simp only [List.cons.injEq] at e
    exact Prod.ext e.1 e.2.1
  have hlm : (L.map fun p => [p.1, p.2]).map (fun l => PyData.tuple (l.map PyData.int)) = L.map eP := by simp [eP, Function.comp_def]
  have hno : ((L.map eP).any fun z => PyData.eqv z .none) = false := by
    rw [List.any_map, List.any_eq_false]
    intro p _
    simp [eP, PyData.eqv]
  have hshP : SeqAt.shaped (.list (L.map eP)) = true := shaped_sm ⟨(sm_list fun x _ => sz_P x).1, Nat.le_trans (sm_list fun x _ => sz_P x).2 (by decide)⟩
  exact qb_guard (qb_eq (qb_w (qw_or (qb_not (qb_val (qv_call C rfl d1 (ql_cons (qv_var 0) ql_nil) ⟨_, rfl, rfl, rfl⟩))) fun _ => qw_or1 (qb_gt (qv_lenL C rfl T.m_len (qv_var 0)) (qv_mul (qv_glob C T.c_MOST_YARDS) (qv_glob C T.c_MOST_LANES) (by unfold CMul; omega))))) (by
      simp [isLst]; omega))
    (qb_cons (qs_set C 1 (qv_new (qf_lcP C (lcA C rfl L eP eP _ (fun p => [.fr (.d (.list (L.map eP))), .no, .no, .no, .fr (.d (eP p)), .no, .no]) (qi_list C rfl (qv_var 0)) (qg_name C.blk 4)
      (fun p hp => qv_call C.blk rfl d2 (ql_cons (qv_var 4) ql_nil) ⟨p.1, p.2, rfl, (h2 p hp).1, (h2 p hp).2.1, rfl⟩) hlen) (own := [("one", 4)]) (fun _ => bo_by rfl))))
    (qb_guard (qb_eq (qb_w (qw_or (qb_in C rfl qv_non (qv_var 1) rfl hshP) fun _ => qw_or (qb_neD C rfl (qv_lenSet C rfl T.m_len T.m_set (ls := L.map fun p => [p.1, p.2]) (qv_eq (qv_var 1) (by rw [hlm]; rfl)) (by rw [List.length_map]; omega) hls) (qv_lenL C rfl T.m_len (qv_var 1)) rfl rfl) fun _ =>
        qw_or1 (qb_val (qv_any C rfl T.m_any (bs := L.map fun p => decide ((L.length : Int) < p.2)) (qv_eq (qv_new (qf_lcP C (lcA C rfl L eP (fun p => .bool (decide ((L.length : Int) < p.2))) _ (fun p => [.fr (.d (.list (L.map eP))), .fr (.d (.list (L.map eP))), .no, .no, .no, .no, .fr (.d (eP p))]) (qi_list C rfl (qv_var 1)) (qg_name C.blk 6)
          (fun p hp => qv_eq (qv_gt (qv_ixT C.blk rfl (qv_var 6) qv_int (d := .int p.2) rfl) (qv_lenL C.blk rfl T.m_len (qv_var 1))) (by rw [List.length_map])) hlen) (own := [("lane", 6)]) (fun _ => bo_by rfl))) (by simp [frzO, Function.comp_def])))))) (by
        rw [hno, eqv_nat, any_false (fun p hp => by simp; exact (h2 p hp).2.2)]
        simp))
    (qb_cons (qs_set C 2 (qv_call C rfl d3 (ql_cons (qv_var 1) ql_nil) ⟨L, rfl, h4, rfl⟩))
    (qb_cons (qs_setLc C 3 (lcM C rfl (tiesOf L) eIs (fun r => decide (r.length > 1)) eIs _ (fun r => [.fr (.d (.list (L.map eP))), .fr (.d (.list (L.map eP))), .fr (.d (.list ((tiesOf L).map eIs))), .no, .no, .fr (.d (eIs r)), .no]) (qi_list C rfl (qv_var 2)) (qg_name C.blk 5)
        (fun r _ => qt_one (qb_eq (qb_gt (qv_lenL C.blk rfl T.m_len (qv_var 5)) qv_int) (by rw [List.length_map]; exact decide_eq_decide.mpr (by omega)))) (fun r _ _ => qv_var 5) htl) (own := [("row", 5)]) (bo_by rfl))
    (qb_guard (qb_eq (qb_w (qw_or (qb_not (qb_lele qv_int (qv_lenL C rfl T.m_len (qv_var 3)) (qv_glob C T.c_MOST_YARDS))) fun _ => qw_or
        (qb_val (qv_any C rfl T.m_any (bs := (tiesOf L).map fun r => decide (4 < r.length)) (qv_eq (qv_new (qf_lcP C (lcA C rfl (tiesOf L) eIs (fun r => .bool (decide (4 < r.length))) _ (fun r => [.fr (.d (.list (L.map eP))), .fr (.d (.list (L.map eP))), .fr (.d (.list ((tiesOf L).map eIs))), .fr (.d (.list (((tiesOf L).filter fun r => decide (r.length > 1)).map eIs))), .no, .fr (.d (eIs r)), .no]) (qi_list C rfl (qv_var 2)) (qg_name C.blk 5)
          (fun r hr => qv_eq (qv_gt (qv_lenL C.blk rfl T.m_len (qv_var 5)) (qv_glob C.blk T.c_MOST_LANES)) (by rw [List.length_map]; exact congrArg (fun b => Tv.d (.bool b)) (decide_eq_decide.mpr (by omega)))) htl) (own := [("row", 5)]) (fun _ => bo_by rfl))) (by simp [frzO, Function.comp_def])))) fun _ =>
        qw_or1 (qb_not (qb_val (qv_call C rfl d4 (ql_cons (qv_var 2) ql_nil) ⟨tiesOf L, n, rfl, h8, rfl⟩))))) (by
          have e1 : (1 : Int) ≤ (((tiesOf L).filter fun r => decide (r.length > 1)).length : Int) := by omega
          have e2 : (((tiesOf L).filter fun r => decide (r.length > 1)).length : Int) ≤ 7 := by omega
          rw [List.length_map, decide_eq_true e1, decide_eq_true e2, any_false (fun r hr => by have := h7 r hr; simp; omega), decide_eq_true h9]
          rfl))
    (qb_rt (qv_new (qf_sorted C rfl T.m_sorted (qv_var 1) (allAlike_P L) (sortable_P L) (d8_P L))) (by rw [sort_P]; rfl)))))))
end
end Lk
set_option Elab.async false
set_option linter.all false
set_option maxRecDepth 100000
set_option maxHeartbeats 2000000
/-! E2: Country made; what it tells. -/
namespace Lk
open PySem PySem.Spec PyProof.Rows L2
section
variable {W : Wd}
def ahList (ties : List (List Int)) (na : Nat → Nat) (n : Nat) : PyData := .list ((List.range n).map fun i : Nat => PyData.list ((ahIt ties (0 + (i : Int)) (na i)).1.map eO))
theorem ok_initC (T : Tx W) : DefOkI W 5 W.G.cC ["self", "lanes"] (fun ts fds => ∃ (L : List Pr) (n : Nat) (na : Nat → Nat), ts = [.d (.list (L.map eP))] ∧ lnOk L n = true ∧ tiOk (sortP L) = true ∧ (∀ i, i < L.length + 1 → ahOk (tiesOf (sortP L)) (0 + (i : Int)) (na i) = true) ∧
    fds = [(("own_lanes" : Str), Tv.d (.list ((sortP L).map eP))), ("own_ties", Tv.d (.list ((tiesOf (sortP L)).map eIs))), ("own_ahead", Tv.d (ahList (tiesOf (sortP L)) na (L.length + 1)))]) := by
  have d1 := ok_lanes_in T
  have d3 := ok_ties_of T
  have d4 := ok_ahead_of T
  refine defI_ok _ T.initC sc_initC (fun ts t h => by obtain ⟨a, n, na, rfl, _⟩ := h; rfl) (fun _ _ _ _ _ _ us hl => match us, hl with | [_, _], _ => rfl) (fun f cdv A outer s H E C a ts fds h => ?_)
  obtain ⟨L, n, na, rfl, hok, hti, hah, rfl⟩ := h
  have hsl : (sortP L).length = L.length := (List.mergeSort_perm L leP).length_eq
  have hL28 : L.length ≤ 28 := by
    simp only [lnOk, Bool.and_eq_true, List.all_eq_true, decide_eq_true_eq] at hok
    exact hok.1.1.1.1.1.1.1
  have hL : (((sortP L).map eP).length : Int) = L.length := by rw [List.length_map, hsl]
  have hn : ((((sortP L).map eP).length : Int) + 1).toNat = L.length + 1 := by rw [hL]; omega
  refine ⟨_, qb_cons (qs_set C 2 (qv_call C rfl d1 (ql_cons (qv_var 1) ql_nil) ⟨L, n, rfl, hok, rfl⟩)) (qb_guard (qb_eq (qb_isN (qv_var 2)) rfl)
    (qb_cons (qs_fld C rfl T.cls.cC 0 (T.cls.nC _ (by simp)) (qv_var 2) rfl)
    (qb_cons (qs_fld C rfl T.cls.cC 0 (T.cls.nC _ (by simp)) (qv_call C rfl d3 (ql_cons (qv_var 2) ql_nil) ⟨sortP L, rfl, hti, rfl⟩) rfl)
    (qb_cons (qs_fld C rfl T.cls.cC 0 (T.cls.nC _ (by simp)) (qv_new (qf_lcP C (lcA C rfl (List.range ((((sortP L).map eP).length : Int) + 1).toNat) (fun i : Nat => PyData.int (0 + (i : Int))) (fun i : Nat => PyData.list ((ahIt (tiesOf (sortP L)) (0 + (i : Int)) (na i)).1.map eO)) _
        (fun i => [.ow (.obj a W.G.cC [(("own_lanes" : Str), .d (.list ((sortP L).map eP))), ("own_ties", .d (.list ((tiesOf (sortP L)).map eIs)))]), .fr (.d (.list (L.map eP))), .fr (.d (.list ((sortP L).map eP))), .fr (.d (.int (0 + (i : Int))))])
        (qi_rng1 C T.m_range (qv_add (qv_lenL C rfl T.m_len (qv_var 2)) qv_int) (by rw [hL]; omega) (by rw [hL]; omega)) (qg_name C.blk 3)
        (fun i hi => qv_call C.blk rfl d4 (ql_cons (qv_fldO C.blk rfl T.cls.cC 0 (T.cls.nC "own_ties" (by simp)) rfl rfl) (ql_cons (qv_var 3) ql_nil)) ⟨tiesOf (sortP L), 0 + (i : Int), na i, rfl, hah i (by rw [hn] at hi; exact List.mem_range.mp hi), rfl⟩) (by rw [List.length_range, hn]; omega)) (own := [("goal", 3)]) (fun _ => bo_by rfl))) rfl) qb_nil)))), ?_⟩
  have e : (Tv.d (PyData.list ((List.range ((((sortP L).map eP).length : Int) + 1).toNat).map fun i : Nat => PyData.list ((ahIt (tiesOf (sortP L)) (0 + (i : Int)) (na i)).1.map eO)))) = .d (ahList (tiesOf (sortP L)) na (L.length + 1)) := by
    rw [hn]
    rfl
  rw [← e]
  rfl
end
end Lk
set_option Elab.async false
set_option linter.all false
set_option maxRecDepth 100000
set_option maxHeartbeats 2000000
/-! E3: what a country tells. -/
namespace Lk
open PySem PySem.Spec PyProof.Rows L2
section
variable {W : Wd}
def Cy.row (c : Cy) (v : Int) : List Int := rowAt c.ties v
def Cy.isP (c : Cy) (v : Int) : Bool := decide (0 ≤ v) && decide (v < c.ties.length)
def Cy.isY (c : Cy) (v : Int) : Bool := c.isP v && decide ((c.row v).length > 1)
def Cy.isG (c : Cy) (v : Int) : Bool := c.isP v && decide ((c.row v).length = 1)
def Cy.yards (c : Cy) : List Int := ((zipI 0 c.ties).filter fun p => decide (p.2.length > 1)).map fun p => (p.1 : Int)
/-- small enough -/
def Cy.ok (c : Cy) : Bool := decide (c.ties.length ≤ 50) && c.ties.all fun r => decide (r.length ≤ 10)
theorem Cy.row_at {c : Cy} {v : Int} (h : c.isP v = true) : atI c.ties v = some (c.row v) := by
  simp only [Cy.isP, Bool.and_eq_true, decide_eq_true_eq] at h
  have h2 : v.toNat < c.ties.length := by omega
  unfold Cy.row rowAt
  rw [atI_pos h.1 h2, List.getElem?_eq_getElem h2]
  rfl
theorem Cy.row_len {c : Cy} {v : Int} (h : c.ok = true) : (c.row v).length ≤ 10 := by
  simp only [Cy.ok, Bool.and_eq_true, List.all_eq_true, decide_eq_true_eq] at h
  unfold Cy.row rowAt
  cases e : atI c.ties v with
  | none => simp
  | some r =>
    unfold atI at e
    cases q : ixN c.ties.length v with
    | none => rw [q] at e; cases e
    | some j => rw [q] at e; exact h.2 r (List.mem_of_getElem? (show c.ties[j]? = _ from e))
theorem ok_beside (T : Tx W) : DefOk W 1 "beside" ["country", "place"] (fun ts t => ∃ (c : Cy) (v : Int), ts = [.ctry c.cd, .d (.int v)] ∧ c.isP v = true ∧ t = .d (eIs (c.row v))) := by
  refine def_ok _ T.d_beside sc_beside (fun ts t h => by obtain ⟨c, v, rfl, _⟩ := h; rfl) (fun _ _ _ _ _ _ us hl => match us, hl with | [_, _], _ => rfl) (fun f cdv A outer s H E C ts t h => ?_)
  obtain ⟨c, v, rfl, hp, rfl⟩ := h
  exact qb_rt (qv_new (qf_listL C rfl T.m_list (qv_ixL C rfl (qv_ties (c := c.cd) C rfl T.cls (qv_var 0)) (qv_var 1) (atI_map (f := eIs) (Cy.row_at hp))))) rfl
theorem ok_yards_in (T : Tx W) : DefOk W 1 "yards_in" ["country"] (fun ts t => ∃ (c : Cy), ts = [.ctry c.cd] ∧ c.ok = true ∧ t = .d (eIs c.yards)) := by
  refine def_ok _ T.d_yards_in sc_yards_in (fun ts t h => by obtain ⟨c, rfl, _⟩ := h; rfl) (fun _ _ _ _ _ _ us hl => match us, hl with | [_], _ => rfl) (fun f cdv A outer s H E C ts t h => ?_)
  obtain ⟨c, rfl, hc, rfl⟩ := h
  have hz : (zipI 0 c.ties).length ≤ 100000 := by
    simp only [Cy.ok, Bool.and_eq_true, decide_eq_true_eq] at hc
    rw [zipI_len]
    omega
  exact qb_rt (qv_new (qf_lcP C (lcM C rfl (zipI 0 c.ties) (fun p => PyData.tuple [.int (p.1 : Nat), eIs p.2]) (fun p => decide (p.2.length > 1)) (fun p => .int (p.1 : Nat)) _ (fun p => [.fr (.ctry c.cd), .fr (.d (.int (p.1 : Nat))), .fr (.d (eIs p.2))])
    (qi_enumM (xs := c.ties) (f := eIs) C rfl T.m_enumerate (qv_ties (c := c.cd) C rfl T.cls (qv_var 0))) (qg_tup (n := 2) C.blk rfl (qgs_cons (qg_name C.blk 1) (qgs_cons (qg_name C.blk 2) qgs_nil)))
    (fun p _ => qt_one (qb_eq (qb_gt (qv_lenL C.blk rfl T.m_len (qv_var 2)) qv_int) (by rw [List.length_map]; exact decide_eq_decide.mpr (by omega)))) (fun p _ _ => qv_var 1) hz) (own := [("place", 1), ("row", 2)]) (fun _ => bo_by rfl))) (by simp [frzO, eIs, Cy.yards, Function.comp_def])
theorem ok_is_place (T : Tx W) : DefOk W 3 "is_place" ["country", "value"] (fun ts t => ∃ (c : Cy) (v : Int), ts = [.ctry c.cd, .d (.int v)] ∧ t = .d (.bool (c.isP v))) := by
  have d1 := ok_is_count T
  refine def_ok _ T.d_is_place sc_is_place (fun ts t h => by obtain ⟨c, v, rfl, _⟩ := h; rfl) (fun _ _ _ _ _ _ us hl => match us, hl with | [_, _], _ => rfl) (fun f cdv A outer s H E C ts t h => ?_)
  obtain ⟨c, v, rfl, rfl⟩ := h
  exact qb_rt (qv_and (qv_call C rfl d1 (ql_cons (qv_var 1) ql_nil) ⟨_, rfl, rfl, rfl⟩) fun _ => qv_one (qv_lt (qv_var 1) (qv_lenL C rfl T.m_len (qv_ties (c := c.cd) C rfl T.cls (qv_var 0))))) (by rw [List.length_map]; rfl)
theorem ok_is_yard (T : Tx W) : DefOk W 4 "is_yard" ["country", "value"] (fun ts t => ∃ (c : Cy) (v : Int), ts = [.ctry c.cd, .d (.int v)] ∧ t = .d (.bool (c.isY v))) := by
  have d1 := ok_is_place T
  refine def_ok _ T.d_is_yard sc_is_yard (fun ts t h => by obtain ⟨c, v, rfl, _⟩ := h; rfl) (fun _ _ _ _ _ _ us hl => match us, hl with | [_, _], _ => rfl) (fun f cdv A outer s H E C ts t h => ?_)
  obtain ⟨c, v, rfl, rfl⟩ := h
  exact qb_rt (qv_and (n := decide ((c.row v).length > 1)) (qv_call C rfl d1 (ql_cons (qv_var 0) (ql_cons (qv_var 1) ql_nil)) ⟨c, v, rfl, rfl⟩) fun hp => qv_one (qv_eq (qv_gt (qv_lenL C rfl T.m_len (qv_ixL C rfl (qv_ties (c := c.cd) C rfl T.cls (qv_var 0)) (qv_var 1) (atI_map (f := eIs) (Cy.row_at hp)))) qv_int) (by rw [List.length_map]; exact congrArg (fun b => Tv.d (.bool b)) (decide_eq_decide.mpr (by omega))))) rfl
theorem ok_is_gate (T : Tx W) : DefOk W 4 "is_gate" ["country", "value"] (fun ts t => ∃ (c : Cy) (v : Int), ts = [.ctry c.cd, .d (.int v)] ∧ t = .d (.bool (c.isG v))) := by
  have d1 := ok_is_place T
  refine def_ok _ T.d_is_gate sc_is_gate (fun ts t h => by obtain ⟨c, v, rfl, _⟩ := h; rfl) (fun _ _ _ _ _ _ us hl => match us, hl with | [_, _], _ => rfl) (fun f cdv A outer s H E C ts t h => ?_)
  obtain ⟨c, v, rfl, rfl⟩ := h
  exact qb_rt (qv_and (n := decide ((c.row v).length = 1)) (qv_call C rfl d1 (ql_cons (qv_var 0) (ql_cons (qv_var 1) ql_nil)) ⟨c, v, rfl, rfl⟩) fun hp => qv_one (qv_eq (qv_eqD C rfl (qv_lenL C rfl T.m_len (qv_ixL C rfl (qv_ties (c := c.cd) C rfl T.cls (qv_var 0)) (qv_var 1) (atI_map (f := eIs) (Cy.row_at hp)))) qv_int rfl rfl) (by rw [List.length_map]; exact congrArg (fun b => Tv.d (.bool b)) (eqv_nat _ 1)))) rfl
theorem ok_want_country (T : Tx W) : DefOk W 1 "want_country" ["value"] (fun ts t => ∃ c, ts = [.ctry c] ∧ t = .ctry c) := by
  refine def_ok _ T.d_want_country sc_want_country (fun ts t h => by obtain ⟨c, rfl, _⟩ := h; rfl) (fun _ _ _ _ _ _ us hl => match us, hl with | [_], _ => rfl) (fun f cdv A outer s H E C ts t h => ?_)
  obtain ⟨c, rfl, rfl⟩ := h
  exact qb_guard (qb_eq (qb_not (qb_val (qv_isiC C rfl T.isC T.m_isinstance T.n_Country (qv_var 0) fun _ _ h => isi_ctry h))) rfl) (qb_rt (qv_var 0) rfl)
theorem ok_want_yard (T : Tx W) : DefOk W 5 "want_yard" ["country", "value"] (fun ts t => ∃ (c : Cy) (v : Int), ts = [.ctry c.cd, .d (.int v)] ∧ c.isY v = true ∧ t = .d .none) := by
  have d1 := ok_is_yard T
  refine def_okN _ T.d_want_yard sc_want_yard (fun ts t h => by obtain ⟨c, v, rfl, _⟩ := h; rfl) (fun _ _ _ _ _ _ us hl => match us, hl with | [_, _], _ => rfl) (fun f cdv A outer s H E C ts t h => ?_)
  obtain ⟨c, v, rfl, hy, rfl⟩ := h
  exact ⟨rfl, _, qb_guard (qb_eq (qb_not (qb_val (qv_call C rfl d1 (ql_cons (qv_var 0) (ql_cons (qv_var 1) ql_nil)) ⟨c, v, rfl, rfl⟩))) (by rw [hy]; rfl)) qb_nil⟩
def pairsOf (row : List Int) : List Pr := row.foldl (fun s o => s ++ ((row.filter fun t => !decide (t = o)).map fun t => (o, t))) []
theorem ok_pairs_at (T : Tx W) : DefOk W 2 "pairs_at" ["country", "yard"] (fun ts t => ∃ (c : Cy) (v : Int), ts = [.ctry c.cd, .d (.int v)] ∧ c.ok = true ∧ c.isP v = true ∧ t = .d (.list ((pairsOf (c.row v)).map eP))) := by
  have d1 := ok_beside T
  refine def_ok _ T.d_pairs_at sc_pairs_at (fun ts t h => by obtain ⟨c, v, rfl, _⟩ := h; rfl) (fun _ _ _ _ _ _ us hl => match us, hl with | [_, _], _ => rfl) (fun f cdv A outer s H E C ts t h => ?_)
  obtain ⟨c, v, rfl, hc, hp, rfl⟩ := h
  have hr := Cy.row_len (v := v) hc
  exact qb_cons (qs_par C (i := 2) (j := 3) (qm_fr (qv_call C rfl d1 (ql_cons (qv_var 0) (ql_cons (qv_var 1) ql_nil)) ⟨c, v, rfl, hp, rfl⟩) (qm_ow (qf_lst qd_nil) qm_nil)))
    (qb_cons (qs_forM C rfl (c.row v) PyData.int (fun s : List Pr => [.fr (.ctry c.cd), .fr (.d (.int v)), .fr (.d (eIs (c.row v))), .ow (.lst (s.map eP)), .no, .no]) (fun s o => s ++ (((c.row v).filter fun t => !decide (t = o)).map fun t => (o, t))) [] (fun i s => s.length ≤ 10 * i)
      (qi_list C rfl (qv_var 2)) (qg_name C 4) (by simp) (fun F σ H Hb E => E)
      (fun i s o ho hs => by
        have hi : i < 10 := by
          have h := (List.getElem?_eq_some_iff.mp ho).1
          omega
        have hf : ((c.row v).filter fun t => !decide (t = o)).length ≤ 10 := Nat.le_trans (List.length_filter_le _ _) hr
        have hz : (s.map eP).length + (((c.row v).filter fun t => !decide (t = o)).map fun t => eP (o, t)).length ≤ 100000 := by rw [List.length_map, List.length_map]; omega
        refine ⟨by rw [List.length_append, List.length_map]; omega, _, qb_cons (qs_ext C rfl 3 (qf_lcP C (lcM C rfl (c.row v) PyData.int (fun t => !decide (t = o)) (fun t => eP (o, t)) _ (fun t => [.fr (.ctry c.cd), .fr (.d (.int v)), .fr (.d (eIs (c.row v))), .ow (.lst (s.map eP)), .fr (.d (.int o)), .fr (.d (.int t))])
          (qi_list C rfl (qv_var 2)) (qg_name C.blk 5) (fun t _ => qt_one (qb_eq (qb_neD C.blk rfl (qv_var 5) (qv_var 4) rfl rfl) (by rw [eqv_int]))) (fun t _ _ => qv_tup (qd_cons (qv_var 4) (qd_cons (qv_var 5) qd_nil))) (by omega)) (own := [("target", 5)]) (fun _ => bo_by rfl)) hz (h1 := rfl)) qb_nil, fun F σ H Hb E => ?_⟩
        have E2 := E.drop 4
        have e : (s ++ (((c.row v).filter fun t => !decide (t = o)).map fun t => (o, t))).map eP = s.map eP ++ ((c.row v).filter fun t => !decide (t = o)).map fun t => eP (o, t) := by simp
        rw [e]
        exact E2))
    (qb_frz 3 rfl (qb_rt (qv_var 3) rfl)))
end
end Lk
set_option Elab.async false
set_option linter.all false
set_option maxRecDepth 100000
set_option maxHeartbeats 2000000
/-! E4: books. -/
namespace Lk
open PySem PySem.Spec PyProof.Rows L2
section
variable {W : Wd}
def pcTurn (o t : Int) (s : List Rw × Int) (r : Rw) : List Rw × Int := if (r.1, r.2.1) = (o, t) then (s.1, s.2 + r.2.2) else (s.1 ++ [r], s.2)
def plusC (l : List Rw) (o t : Int) : List Rw := sort3 ((l.foldl (pcTurn o t) ([], 1)).1 ++ [(o, t, (l.foldl (pcTurn o t) ([], 1)).2)])
theorem pcTurn_len (o t : Int) (s : List Rw × Int) (r : Rw) : (pcTurn o t s r).1.length ≤ s.1.length + 1 := by
  unfold pcTurn
  split <;> simp
theorem pcFold_len (o t : Int) : ∀ (l : List Rw) (s : List Rw × Int), (l.foldl (pcTurn o t) s).1.length ≤ s.1.length + l.length
  | [], s => by simp
  | r :: l, s => by
    have h := pcFold_len o t l (pcTurn o t s r)
    have h2 := pcTurn_len o t s r
    rw [List.foldl_cons, List.length_cons]
    omega
theorem noway_P (a b : Int) : NoWay [.int a, .int b] := noway2
theorem ok_plus_cart (T : Tx W) : DefOk W 1 "plus_cart" ["load", "origin", "target"] (fun ts t => ∃ (l : List Rw) (o u : Int), ts = [.d (eL l), .d (.int o), .d (.int u)] ∧ l.length ≤ 1000 ∧ t = .d (eL (plusC l o u))) := by
  refine def_ok _ T.d_plus_cart sc_plus_cart (fun ts t h => by obtain ⟨l, o, u, rfl, _⟩ := h; rfl) (fun _ _ _ _ _ _ us hl => match us, hl with | [_, _, _], _ => rfl) (fun f cdv A outer s H E C ts t h => ?_)
  obtain ⟨l, o, u, rfl, hl, rfl⟩ := h
  let env : List Rw × Int → List Sl := fun s => [.fr (.d (eL l)), .fr (.d (.int o)), .fr (.d (.int u)), .ow (.lst (s.1.map e3)), .fr (.d (.int s.2)), .no]
  have hz : ((l.foldl (pcTurn o u) ([], 1)).1.map e3).length + 1 ≤ 100000 := by
    have h := pcFold_len o u l ([], 1)
    rw [List.length_map]
    simp at h
    omega
  have e : ((l.foldl (pcTurn o u) ([], 1)).1.map e3) ++ [e3 (o, u, (l.foldl (pcTurn o u) ([], 1)).2)] = ((l.foldl (pcTurn o u) ([], 1)).1 ++ [(o, u, (l.foldl (pcTurn o u) ([], 1)).2)]).map e3 := by simp
  exact qb_cons (qs_par C (i := 3) (j := 4) (qm_ow (qf_lst qd_nil) (qm_fr qv_int qm_nil)))
    (qb_cons (qs_forM C rfl l e3 env (pcTurn o u) ([], 1) (fun i s => s.1.length ≤ i) (qi_list C rfl (qv_var 0)) (qg_name C 5) (by simp) (fun F σ H Hb E => E)
      (fun i s r hr hs => by
        have hi : i < 1000 := by
          have h := (List.getElem?_eq_some_iff.mp hr).1
          omega
        have hb : (s.1.map e3).length < 100000 := by rw [List.length_map]; omega
        refine ⟨by have := pcTurn_len o u s r; omega, ?_⟩
        by_cases hin : (r.1, r.2.1) = (o, u)
        · refine ⟨_, qb_cons (qs_if (o := .nx ((env (s.1, s.2 + r.2.2)).set 5 (.fr (.d (e3 r))))) (qb_eq (b2 := true) (qb_eqD C rfl (qv_slT (ds := [.int r.1, .int r.2.1, .int r.2.2]) C rfl (qv_var 5) qp_none (qp_some qv_int) (noway_P r.1 r.2.1)) (qv_tup (qd_cons (qv_var 1) (qd_cons (qv_var 2) qd_nil))) rfl rfl) (by
              show PyData.eqv (eP (r.1, r.2.1)) (eP (o, u)) = true
              rw [eqe_P, decide_eq_true hin])) (fun _ => qb_cons (qs_set C 4 (qv_add (qv_var 4) (qv_ixT C rfl (qv_var 5) qv_int (d := .int r.2.2) rfl))) qb_nil) (fun z => by cases z)) qb_nil, fun F σ H Hb E => ?_⟩
          have e2 : pcTurn o u s r = (s.1, s.2 + r.2.2) := by unfold pcTurn; rw [if_pos hin]
          rw [e2]
          exact E.drop 5
        · refine ⟨_, qb_cons (qs_if (o := .nx [.fr (.d (eL l)), .fr (.d (.int o)), .fr (.d (.int u)), .ow (.lst (s.1.map e3 ++ [e3 r])), .fr (.d (.int s.2)), .fr (.d (e3 r))]) (qb_eq (b2 := false) (qb_eqD C rfl (qv_slT (ds := [.int r.1, .int r.2.1, .int r.2.2]) C rfl (qv_var 5) qp_none (qp_some qv_int) (noway_P r.1 r.2.1)) (qv_tup (qd_cons (qv_var 1) (qd_cons (qv_var 2) qd_nil))) rfl rfl) (by
              show PyData.eqv (eP (r.1, r.2.1)) (eP (o, u)) = false
              rw [eqe_P, decide_eq_false hin])) (fun z => by cases z) (fun _ => qb_cons (qs_app C rfl 3 (qv_var 5) hb) qb_nil)) qb_nil, fun F σ H Hb E => ?_⟩
          have e2 : pcTurn o u s r = (s.1 ++ [r], s.2) := by unfold pcTurn; rw [if_neg hin]
          rw [e2]
          have E2 := E.drop 5
          have e3' : env (s.1 ++ [r], s.2) = [.fr (.d (eL l)), .fr (.d (.int o)), .fr (.d (.int u)), .ow (.lst (s.1.map e3 ++ [e3 r])), .fr (.d (.int s.2)), .no] := by simp [env]
          rw [e3']
          exact E2))
    (qb_frz 3 rfl (qb_rt (qv_new (qf_sorted C rfl T.m_sorted (ds := ((l.foldl (pcTurn o u) ([], 1)).1 ++ [(o, u, (l.foldl (pcTurn o u) ([], 1)).2)]).map e3) (qv_eq (qv_new (qf_catL C rfl (qv_var 3) (qv_lst (qd_cons (qv_tup (qd_cons (qv_var 1) (qd_cons (qv_var 2) (qd_cons (qv_var 4) qd_nil)))) qd_nil)) hz)) (by rw [← e]; rfl)) (allAlike_3 _) (sortable_3 _) (d8_3 _))) (by rw [sort_3]; rfl))))
end
end Lk
set_option Elab.async false
set_option linter.all false
set_option maxRecDepth 100000
set_option maxHeartbeats 2000000
/-! E5: books asked. -/
namespace Lk
open PySem PySem.Spec PyProof.Rows L2
section
variable {W : Wd}
def eoOk (near : List Int) : Option Int → Bool
  | none => true
  | some i => decide (0 ≤ i) && decide (i ∈ near)
def bOk (near : List Int) (b : Bd) : Bool := eoOk near b.1 && eoOk near b.2.1 && decide (b.1 ≠ b.2.1) && decide (0 ≤ b.2.2 ∧ b.2.2 ≤ 6)
def aOk (near : List Int) (a : Al) : Bool := decide (1 ≤ a.1 ∧ a.1 ≤ 6 ∧ a.2.length ≤ 6) && a.2.all (bOk near)
theorem kit_tup : kitB "tuple" "tuple" = some true := by decide +kernel
theorem ok_is_end_for (T : Tx W) : DefOk W 3 "is_end_for" ["near", "value"] (fun ts t => ∃ (near : List Int) (o : Option Int), ts = [.d (eIs near), .d (eO o)] ∧ t = .d (.bool (eoOk near o))) := by
  have d1 := ok_is_count T
  refine def_ok _ T.d_is_end_for sc_is_end_for (fun ts t h => by obtain ⟨l, o, rfl, _⟩ := h; rfl) (fun _ _ _ _ _ _ us hl => match us, hl with | [_, _], _ => rfl) (fun f cdv A outer s H E C ts t h => ?_)
  obtain ⟨near, o, rfl, rfl⟩ := h
  cases o with
  | none => exact qb_rt (qv_or (n := true) (qv_isN (qv_var 1)) (fun h => by cases h)) rfl
  | some i => exact qb_rt (qv_or (qv_isN (qv_var 1)) (fun _ => qv_one (qv_and (qv_call C rfl d1 (ql_cons (qv_var 1) ql_nil) ⟨.int i, rfl, rfl, rfl⟩) fun _ => qv_one (qv_in C rfl (qv_var 1) (qv_var 0) (x := .int i) (ds := near.map PyData.int) rfl (shaped_ints _))))) (by rw [any_eqv eqe_int]; rfl)
theorem sh_O (o : Option Int) : SeqAt.shaped (eO o) = true := by cases o <;> rfl
theorem ok_is_bound_for (T : Tx W) : DefOk W 4 "is_bound_for" ["near", "value"] (fun ts t => ∃ (near : List Int) (b : Bd), ts = [.d (eIs near), .d (eB b)] ∧ bOk near b = true ∧ t = .d (.bool true)) := by
  have d1 := ok_is_count T
  have d2 := ok_is_end_for T
  refine def_ok _ T.d_is_bound_for sc_is_bound_for (fun ts t h => by obtain ⟨l, o, rfl, _⟩ := h; rfl) (fun _ _ _ _ _ _ us hl => match us, hl with | [_, _], _ => rfl) (fun f cdv A outer s H E C ts t h => ?_)
  obtain ⟨near, b, rfl, hb, rfl⟩ := h
  simp only [bOk, Bool.and_eq_true, decide_eq_true_eq] at hb
  obtain ⟨⟨⟨h1, h2⟩, h3⟩, h4, h5⟩ := hb
  have hc : isCnt (.int b.2.2) = true := by simp [isCnt, h4]
  exact qb_guard (qb_eq (qb_w (qw_or (qb_not (qb_val (qv_isi (T0 := "tuple") (d := eB b) C rfl T.m_isinstance T.m_tuple PyProof.Rows.boot_tuple (qv_var 1) rfl kit_tup))) fun _ => qw_or (qb_neD C rfl (qv_lenT C rfl T.m_len (qv_var 1)) qv_int rfl rfl) fun _ =>
      qw_or (qb_not (qb_val (qv_call C rfl d1 (ql_cons (qv_ixT C rfl (qv_var 1) qv_int (d := .int b.2.2) rfl) ql_nil) ⟨_, rfl, rfl, rfl⟩))) fun _ => qw_or1 (qb_gt (qv_ixT C rfl (qv_var 1) qv_int (d := .int b.2.2) rfl) (qv_glob C T.c_MOST_PLACES)))) (by
        rw [hc, decide_eq_false (show ¬ (6 : Int) < b.2.2 by omega)]
        rfl))
    (qb_rt (qv_and (qv_call C rfl d2 (ql_cons (qv_var 0) (ql_cons (qv_ixT C rfl (qv_var 1) qv_int (d := eO b.1) rfl) ql_nil)) ⟨near, b.1, rfl, rfl⟩) fun _ => qv_and (qv_call C rfl d2 (ql_cons (qv_var 0) (ql_cons (qv_ixT C rfl (qv_var 1) qv_int (d := eO b.2.1) rfl) ql_nil)) ⟨near, b.2.1, rfl, rfl⟩) fun _ =>
      qv_one (qv_neD C rfl (qv_ixT C rfl (qv_var 1) qv_int (d := eO b.1) rfl) (qv_ixT C rfl (qv_var 1) qv_int (d := eO b.2.1) rfl) (sh_O _) (sh_O _))) (by
        rw [h1, h2, eqe_O, decide_eq_false h3]
        rfl))
theorem ok_alternative_in (T : Tx W) : DefOk W 5 "alternative_in" ["near", "value"] (fun ts t => ∃ (near : List Int) (a : Al), ts = [.d (eIs near), .d (eA a)] ∧ aOk near a = true ∧ t = .d (eA a)) := by
  have d0 := ok_is_list T
  have d1 := ok_is_count T
  have d2 := ok_is_bound_for T
  refine def_ok _ T.d_alternative_in sc_alternative_in (fun ts t h => by obtain ⟨l, o, rfl, _⟩ := h; rfl) (fun _ _ _ _ _ _ us hl => match us, hl with | [_, _], _ => rfl) (fun f cdv A outer s H E C ts t h => ?_)
  obtain ⟨near, a, rfl, ha, rfl⟩ := h
  simp only [aOk, Bool.and_eq_true, List.all_eq_true, decide_eq_true_eq] at ha
  obtain ⟨⟨h1, h2, h3⟩, h4⟩ := ha
  have hc : isCnt (.int a.1) = true := by simp [isCnt]; omega
  have hall : (a.2.map fun _ => true).all id = true := by simp
  exact qb_guard (qb_eq (qb_w (qw_or (qb_not (qb_val (qv_isi (T0 := "tuple") (d := eA a) C rfl T.m_isinstance T.m_tuple PyProof.Rows.boot_tuple (qv_var 1) rfl kit_tup))) fun _ => qw_or (qb_neD C rfl (qv_lenT C rfl T.m_len (qv_var 1)) qv_int rfl rfl) fun _ =>
      qw_or (qb_not (qb_val (qv_call C rfl d1 (ql_cons (qv_ixT C rfl (qv_var 1) qv_int (d := .int a.1) rfl) ql_nil) ⟨_, rfl, rfl, rfl⟩))) fun _ => qw_or1 (qb_not (qb_lele qv_int (qv_ixT C rfl (qv_var 1) qv_int (d := .int a.1) rfl) (qv_glob C T.c_MOST_PLACES))))) (by
        rw [hc, decide_eq_true h1, decide_eq_true h2]
        rfl))
    (qb_cons (qs_set C 2 (qv_ixT C rfl (qv_var 1) qv_int (d := .list (a.2.map eB)) rfl))
    (qb_guard (qb_eq (qb_w (qw_or (qb_not (qb_val (qv_call C rfl d0 (ql_cons (qv_var 2) ql_nil) ⟨_, rfl, rfl, rfl⟩))) fun _ => qw_or (qb_gt (qv_lenL C rfl T.m_len (qv_var 2)) (qv_glob C T.c_MOST_BOUNDS)) fun _ =>
        qw_or1 (qb_not (qb_val (qv_all C rfl T.m_all (bs := a.2.map fun _ => true) (qv_eq (qv_new (qf_lcP C (lcA C rfl a.2 eB (fun _ => .bool true) _ (fun b => [.fr (.d (eIs near)), .fr (.d (eA a)), .fr (.d (.list (a.2.map eB))), .fr (.d (eB b))]) (qi_list C rfl (qv_var 2)) (qg_name C.blk 3)
          (fun b hb => qv_call C.blk rfl d2 (ql_cons (qv_var 0) (ql_cons (qv_var 3) ql_nil)) ⟨near, b, rfl, h4 b hb, rfl⟩) (by omega)) (own := [("one", 3)]) (fun _ => bo_by rfl))) (by simp [frzO]))))))) (by
          rw [List.length_map, hall, decide_eq_false (show ¬ (6 : Int) < (a.2.length : Int) by omega)]
          rfl))
    (qb_rt (qv_tup (qd_cons (qv_ixT C rfl (qv_var 1) qv_int (d := .int a.1) rfl) (qd_cons (qv_new (qf_listL C rfl T.m_list (qv_var 2))) qd_nil))) rfl)))
end
end Lk
set_option Elab.async false
set_option linter.all false
set_option maxRecDepth 100000
set_option maxHeartbeats 2000000
/-! E6: books and loads. -/
namespace Lk
open PySem PySem.Spec PyProof.Rows L2
section
variable {W : Wd}
/-- does the bound see the row? -/
def fits (x : Option Int) (i : Int) : Bool := match x with
  | none => true
  | some j => decide (j = i)
def kpTurn (b : Bd) (m : Int) (r : Rw) : Int := if fits b.1 r.1 && fits b.2.1 r.2.1 then m + r.2.2 else m
def keepsF (b : Bd) (l : List Rw) : Bool := decide (l.foldl (kpTurn b) 0 ≤ b.2.2)
def wgt (l : List Rw) : Int := (l.map fun r => r.2.2).sum
def standsOne (a : Al) (l : List Rw) : Bool := decide (wgt l ≤ a.1) && a.2.all fun b => keepsF b l
def standsF (book : Bk2) (l : List Rw) : Bool := book.any fun a => standsOne a l
theorem fits_eqv (x : Option Int) (i : Int) : ([PyData.none, .int i].any fun z => PyData.eqv z (eO x)) = fits x i := by
  cases x with
  | none => rfl
  | some j =>
    simp only [List.any_cons, List.any_nil, eO, eqv_int, fits, Bool.or_false]
    simp only [PyData.eqv, Bool.false_or]
    exact decide_eq_decide.mpr ⟨fun h => h.symm, fun h => h.symm⟩
theorem flat_O (x : Option Int) : flatD (eO x) = true := by cases x <;> rfl
theorem ok_keeps (T : Tx W) : DefOk W 1 "keeps" ["bound", "load"] (fun ts t => ∃ (b : Bd) (l : List Rw), ts = [.d (eB b), .d (eL l)] ∧ t = .d (.bool (keepsF b l))) := by
  refine def_ok _ T.d_keeps sc_keeps (fun ts t h => by obtain ⟨l, o, rfl, _⟩ := h; rfl) (fun _ _ _ _ _ _ us hl => match us, hl with | [_, _], _ => rfl) (fun f cdv A outer s H E C ts t h => ?_)
  obtain ⟨b, l, rfl, rfl⟩ := h
  let env : Int → List Sl := fun m => [.fr (.d (eB b)), .fr (.d (eL l)), .fr (.d (eO b.1)), .fr (.d (eO b.2.1)), .fr (.d (.int b.2.2)), .fr (.d (.int m)), .no, .no, .no]
  let en3 : Int → Rw → List Sl := fun m r => [.fr (.d (eB b)), .fr (.d (eL l)), .fr (.d (eO b.1)), .fr (.d (eO b.2.1)), .fr (.d (.int b.2.2)), .fr (.d (.int m)), .fr (.d (.int r.1)), .fr (.d (.int r.2.1)), .fr (.d (.int r.2.2))]
  exact qb_cons (qs_unp (d := eB b) (qv_var 0) (qg_tup (n := 3) C rfl (qgs_cons (qg_name C 2) (qgs_cons (qg_name C 3) (qgs_cons (qg_name C 4) qgs_nil)))) ⟨rfl, trivial, trivial, trivial, rfl⟩)
    (qb_cons (qs_set C 5 qv_int)
    (qb_cons (qs_forN C rfl l e3 env (kpTurn b) 0 (fun _ => True) (qi_list C rfl (qv_var 1)) (qg_tup (n := 3) C rfl (qgs_cons (qg_name C 6) (qgs_cons (qg_name C 7) (qgs_cons (qg_name C 8) qgs_nil)))) trivial (fun F σ H Hb E => E)
      (fun m r _ _ => ⟨trivial, by
        cases hv : (fits b.1 r.1 && fits b.2.1 r.2.1) with
        | true =>
          refine ⟨_, qb_cons (qs_if (o := .nx ((en3 m r).set 5 (.fr (.d (.int (m + r.2.2)))))) (qb_eq (b2 := true) (qb_w (qw_and (qb_eq (qb_inT (x := eO b.1) C rfl (qv_var 2) (qv_tup (qd_cons qv_non (qd_cons (qv_var 6) qd_nil))) (flat_O _) rfl) (fits_eqv b.1 r.1)) fun _ => qw_and1 (qb_eq (qb_inT (x := eO b.2.1) C rfl (qv_var 3) (qv_tup (qd_cons qv_non (qd_cons (qv_var 7) qd_nil))) (flat_O _) rfl) (fits_eqv b.2.1 r.2.1)))) hv) (fun _ => qb_cons (qs_set C 5 (qv_add (qv_var 5) (qv_var 8))) qb_nil) (fun z => by cases z)) qb_nil, fun F σ H Hb E => ?_⟩
          have e : kpTurn b m r = m + r.2.2 := by unfold kpTurn; rw [hv]; rfl
          rw [e]
          exact ((E.drop 6).drop 7).drop 8
        | false =>
          refine ⟨_, qb_cons (qs_if (o := .nx (en3 m r)) (qb_eq (b2 := false) (qb_w (qw_and (qb_eq (qb_inT (x := eO b.1) C rfl (qv_var 2) (qv_tup (qd_cons qv_non (qd_cons (qv_var 6) qd_nil))) (flat_O _) rfl) (fits_eqv b.1 r.1)) fun _ => qw_and1 (qb_eq (qb_inT (x := eO b.2.1) C rfl (qv_var 3) (qv_tup (qd_cons qv_non (qd_cons (qv_var 7) qd_nil))) (flat_O _) rfl) (fits_eqv b.2.1 r.2.1)))) hv) (fun z => by cases z) (fun _ => qb_nil)) qb_nil, fun F σ H Hb E => ?_⟩
          have e : kpTurn b m r = m := by unfold kpTurn; rw [hv]; rfl
          rw [e]
          exact ((E.drop 6).drop 7).drop 8⟩) (fun _ _ => ⟨rfl, trivial, trivial, trivial, rfl⟩))
    (qb_rt (qv_le (qv_var 5) (qv_var 4)) rfl)))
theorem ok_stands_by_one (T : Tx W) : DefOk W 2 "stands_by_one" ["alternative", "load"] (fun ts t => ∃ (a : Al) (l : List Rw), ts = [.d (eA a), .d (eL l)] ∧ a.2.length ≤ 100 ∧ l.length ≤ 1000 ∧ t = .d (.bool (standsOne a l))) := by
  have d1 := ok_keeps T
  refine def_ok _ T.d_stands_by_one sc_stands_by_one (fun ts t h => by obtain ⟨l, o, rfl, _⟩ := h; rfl) (fun _ _ _ _ _ _ us hl => match us, hl with | [_, _], _ => rfl) (fun f cdv A outer s H E C ts t h => ?_)
  obtain ⟨a, l, rfl, ha, hl, rfl⟩ := h
  have hA : a.2.length ≤ 100000 := by omega
  have hL : l.length ≤ 100000 := by omega
  have hall : (a.2.map fun b => keepsF b l).all id = a.2.all fun b => keepsF b l := by rw [List.all_map]; rfl
  exact qb_cons (qs_unp (d := eA a) (qv_var 0) (qg_tup (n := 2) C rfl (qgs_cons (qg_name C 2) (qgs_cons (qg_name C 3) qgs_nil))) ⟨rfl, trivial, trivial, rfl⟩)
    (qb_ifret (m := decide (a.1 < wgt l)) (qb_gt (qv_sum C rfl T.m_sum (ns := l.map fun r => r.2.2) (qv_eq (qv_new (qf_lcP C (lcA C rfl l e3 (fun r => .int r.2.2) _ (fun r => [.fr (.d (eA a)), .fr (.d (eL l)), .fr (.d (.int a.1)), .fr (.d (.list (a.2.map eB))), .no, .fr (.d (.int r.1)), .fr (.d (.int r.2.1)), .fr (.d (.int r.2.2))]) (qi_list C rfl (qv_var 1)) (qg_tup (n := 3) C.blk rfl (qgs_cons (qg_name C.blk 5) (qgs_cons (qg_name C.blk 6) (qgs_cons (qg_name C.blk 7) qgs_nil))))
        (fun r _ => qv_var 7) hL) (own := [("start", 5), ("end", 6), ("some", 7)]) (fun _ => bo_by rfl))) (by simp [frzO, Function.comp_def]))) (qv_var 2))
      (fun hlt => ⟨_, by
        have e : ¬ wgt l ≤ a.1 := by have := of_decide_eq_true hlt; omega
        show Out.rt (.d (.bool (standsOne a l))) = Out.rt (.d (.bool false))
        unfold standsOne
        rw [decide_eq_false e]
        rfl, qb_rt qv_bl rfl⟩)
      (fun hge => qb_rt (qv_all C rfl T.m_all (bs := a.2.map fun b => keepsF b l) (qv_eq (qv_new (qf_lcP C (lcA C rfl a.2 eB (fun b => .bool (keepsF b l)) _ (fun b => [.fr (.d (eA a)), .fr (.d (eL l)), .fr (.d (.int a.1)), .fr (.d (.list (a.2.map eB))), .fr (.d (eB b)), .no, .no, .no]) (qi_list C rfl (qv_var 3)) (qg_name C.blk 4)
        (fun b _ => qv_call C.blk rfl d1 (ql_cons (qv_var 4) (ql_cons (qv_var 1) ql_nil)) ⟨b, l, rfl, rfl⟩) hA) (own := [("bound", 4)]) (fun _ => bo_by rfl))) (by simp [frzO, Function.comp_def]))) (by
          have e : wgt l ≤ a.1 := by have := of_decide_eq_false hge; omega
          unfold standsOne
          rw [decide_eq_true e, hall]
          rfl)))
def bkSmall (book : Bk2) : Bool := decide (book.length ≤ 100) && book.all fun a => decide (a.2.length ≤ 100)
theorem loopE_any {α B : Type} (p : α → Bool) (y : B) : ∀ xs : List α, loopE (fun (_ : Unit) a => if p a = true then (.inr y : Unit ⊕ B) else .inl ()) () xs = if xs.any p = true then .inr y else .inl ()
  | [] => rfl
  | x :: xs => by
    rw [loopE, List.any_cons]
    cases h : p x with
    | true => rfl
    | false =>
      show loopE _ () xs = _
      rw [loopE_any p y xs, Bool.false_or]
theorem ok_stands_by (T : Tx W) : DefOk W 3 "stands_by" ["book", "load"] (fun ts t => ∃ (book : Bk2) (l : List Rw), ts = [.d (eK book), .d (eL l)] ∧ bkSmall book = true ∧ l.length ≤ 1000 ∧ t = .d (.bool (standsF book l))) := by
  have d1 := ok_stands_by_one T
  refine def_ok _ T.d_stands_by sc_stands_by (fun ts t h => by obtain ⟨l, o, rfl, _⟩ := h; rfl) (fun _ _ _ _ _ _ us hl => match us, hl with | [_, _], _ => rfl) (fun f cdv A outer s H E C ts t h => ?_)
  obtain ⟨book, l, rfl, hb, hl, rfl⟩ := h
  simp only [bkSmall, Bool.and_eq_true, List.all_eq_true, decide_eq_true_eq] at hb
  exact qb_may (qs_for C rfl book eA (fun _ : Unit => [.fr (.d (eK book)), .fr (.d (eL l)), .no]) (fun _ a => if standsOne a l = true then (.inr (.d (.bool true)) : Unit ⊕ Tv) else .inl ()) () (qi_list C rfl (qv_var 0)) (qg_name C 2) (fun _ _ => trivial) (fun F σ H Hb E => E) (fun _ => True) trivial
      (fun _ a ha _ => ⟨fun _ _ => trivial, by
        cases hv : standsOne a l with
        | true => exact ⟨_, qb_ret (qs_if (m := true) (qb_eq (qb_val (qv_call C rfl d1 (ql_cons (qv_var 2) (ql_cons (qv_var 1) ql_nil)) ⟨a, l, rfl, hb.2 a ha, hl, rfl⟩)) hv) (fun _ => qb_rt qv_bl rfl) (fun z => by cases z)), rfl⟩
        | false => exact ⟨_, qb_cons (qs_if (m := false) (o := .nx [.fr (.d (eK book)), .fr (.d (eL l)), .fr (.d (eA a))]) (qb_eq (qb_val (qv_call C rfl d1 (ql_cons (qv_var 2) (ql_cons (qv_var 1) ql_nil)) ⟨a, l, rfl, hb.2 a ha, hl, rfl⟩)) hv) (fun z => by cases z) (fun _ => qb_nil)) qb_nil, _, rfl, fun F σ H Hb E => E.drop 2⟩⟩))
    (fun Γ1 h => by
      rw [loopE_any] at h
      cases hv : book.any fun a => standsOne a l with
      | true => rw [hv] at h; cases h
      | false =>
        rw [hv] at h
        cases h
        exact qb_rt qv_bl (by show Tv.d (.bool false) = .d (.bool (standsF book l)); unfold standsF; rw [hv]))
    (fun t h => by
      rw [loopE_any] at h
      cases hv : book.any fun a => standsOne a l with
      | false => rw [hv] at h; cases h
      | true =>
        rw [hv] at h
        cases h
        unfold standsF
        rw [hv])
    (fun t i u h => by
      rw [loopE_any] at h
      cases hv : book.any fun a => standsOne a l with
      | false => rw [hv] at h; cases h
      | true => rw [hv] at h; cases h)
    (fun u h => by
      rw [loopE_any] at h
      cases hv : book.any fun a => standsOne a l with
      | false => rw [hv] at h; cases h
      | true => rw [hv] at h; cases h)
end
end Lk
set_option Elab.async false
set_option linter.all false
set_option maxRecDepth 100000
set_option maxHeartbeats 2000000
/-! E7: webs made and asked. -/
namespace Lk
open PySem PySem.Spec PyProof.Rows L2
section
variable {W : Wd}
def bookOk (c : Cy) (v : Int) (book : Bk2) : Bool := c.ok && c.isP v && decide (1 ≤ book.length ∧ book.length ≤ 4) && book.all (aOk (c.row v)) && (pairsOf (c.row v)).all fun p => standsF book [(p.1, p.2, 1)]
theorem pairsOf_fold (row : List Int) : ∀ (l : List Int) (s : List Pr), (l.foldl (fun s o => s ++ ((row.filter fun t => !decide (t = o)).map fun t => (o, t))) s).length ≤ s.length + l.length * row.length
  | [], s => by simp
  | o :: l, s => by
    have h := pairsOf_fold row l (s ++ ((row.filter fun t => !decide (t = o)).map fun t => (o, t)))
    have h2 : (row.filter fun t => !decide (t = o)).length ≤ row.length := List.length_filter_le _ _
    rw [List.length_append, List.length_map] at h
    rw [List.foldl_cons, List.length_cons, Nat.add_mul, Nat.one_mul]
    omega
theorem pairsOf_len (row : List Int) : (pairsOf row).length ≤ row.length * row.length := by
  have h := pairsOf_fold row row []
  simp only [List.length_nil, Nat.zero_add] at h
  exact h
theorem aOk_small {near : List Int} {book : Bk2} (h : ∀ a ∈ book, aOk near a = true) (hl : book.length ≤ 4) : bkSmall book = true := by
  simp only [bkSmall, Bool.and_eq_true, List.all_eq_true, decide_eq_true_eq]
  refine ⟨by omega, fun a ha => ?_⟩
  have := h a ha
  simp only [aOk, Bool.and_eq_true, decide_eq_true_eq] at this
  omega
theorem ok_book_in (T : Tx W) : DefOk W 6 "book_in" ["country", "yard", "value"] (fun ts t => ∃ (c : Cy) (v : Int) (book : Bk2), ts = [.ctry c.cd, .d (.int v), .d (eK book)] ∧ bookOk c v book = true ∧ t = .d (eK book)) := by
  have d0 := ok_is_list T
  have d1 := ok_beside T
  have d2 := ok_alternative_in T
  have d3 := ok_stands_by T
  have d4 := ok_pairs_at T
  refine def_ok _ T.d_book_in sc_book_in (fun ts t h => by obtain ⟨l, o, u, rfl, _⟩ := h; rfl) (fun _ _ _ _ _ _ us hl => match us, hl with | [_, _, _], _ => rfl) (fun f cdv A outer s H E C ts t h => ?_)
  obtain ⟨c, v, book, rfl, hb, rfl⟩ := h
  simp only [bookOk, Bool.and_eq_true, List.all_eq_true, decide_eq_true_eq] at hb
  obtain ⟨⟨⟨⟨h1, h2⟩, h3, h4⟩, h5⟩, h6⟩ := hb
  have hr := Cy.row_len (v := v) h1
  have hbl : book.length ≤ 100000 := by omega
  have hpl : (pairsOf (c.row v)).length ≤ 100000 := by
    have := pairsOf_len (c.row v)
    have h7 : (c.row v).length * (c.row v).length ≤ 10 * 10 := Nat.mul_le_mul hr hr
    omega
  have hno : ((book.map eA).any fun z => PyData.eqv z .none) = false := by
    rw [List.any_map, List.any_eq_false]
    intro p _
    simp [eA, PyData.eqv]
  have hsh : SeqAt.shaped (.list (book.map eA)) = true := shaped_sm ⟨(sm_list fun x _ => sz_A x).1, Nat.le_trans (sm_list fun x _ => sz_A x).2 (by decide)⟩
  have hall : ((pairsOf (c.row v)).map fun p => standsF book [(p.1, p.2, 1)]).all id = true := by
    rw [List.all_map, List.all_eq_true]
    exact fun p hp => h6 p hp
  exact qb_guard (qb_eq (qb_w (qw_or (qb_not (qb_val (qv_call C rfl d0 (ql_cons (qv_var 2) ql_nil) ⟨_, rfl, rfl, rfl⟩))) fun _ => qw_or1 (qb_not (qb_lele qv_int (qv_lenL (ds := book.map eA) C rfl T.m_len (qv_var 2)) (qv_glob C T.c_MOST_ALTERNATIVES))))) (by
      rw [List.length_map, decide_eq_true (show (1 : Int) ≤ (book.length : Int) by omega), decide_eq_true (show (book.length : Int) ≤ 4 by omega)]
      rfl))
    (qb_cons (qs_set C 3 (qv_call C rfl d1 (ql_cons (qv_var 0) (ql_cons (qv_var 1) ql_nil)) ⟨c, v, rfl, h2, rfl⟩))
    (qb_cons (qs_set C 4 (qv_new (qf_lcP C (lcA C rfl book eA eA _ (fun a => [.fr (.ctry c.cd), .fr (.d (.int v)), .fr (.d (eK book)), .fr (.d (eIs (c.row v))), .no, .no, .fr (.d (eA a)), .no, .no]) (qi_list (ds := book.map eA) C rfl (qv_var 2)) (qg_name C.blk 6)
        (fun a ha => qv_call C.blk rfl d2 (ql_cons (qv_var 3) (ql_cons (qv_var 6) ql_nil)) ⟨c.row v, a, rfl, h5 a ha, rfl⟩) hbl) (own := [("one", 6)]) (fun _ => bo_by rfl))))
    (qb_guard (qb_eq (qb_in C rfl qv_non (qv_var 4) rfl hsh) hno)
    (qb_cons (qs_setLc C 5 (lcA C rfl (pairsOf (c.row v)) eP (fun p => .bool (standsF book [(p.1, p.2, 1)])) _ (fun p => [.fr (.ctry c.cd), .fr (.d (.int v)), .fr (.d (eK book)), .fr (.d (eIs (c.row v))), .fr (.d (.list (book.map eA))), .no, .no, .fr (.d (.int p.1)), .fr (.d (.int p.2))])
        (qi_list C rfl (qv_call C rfl d4 (ql_cons (qv_var 0) (ql_cons (qv_var 1) ql_nil)) ⟨c, v, rfl, h1, h2, rfl⟩)) (qg_tup (n := 2) C.blk rfl (qgs_cons (qg_name C.blk 7) (qgs_cons (qg_name C.blk 8) qgs_nil)))
        (fun p _ => qv_call C.blk rfl d3 (ql_cons (qv_var 4) (ql_cons (qv_lst (qd_cons (qv_tup (qd_cons (qv_var 7) (qd_cons (qv_var 8) (qd_cons qv_int qd_nil)))) qd_nil)) ql_nil)) ⟨book, [(p.1, p.2, 1)], rfl, aOk_small h5 h4, by simp, rfl⟩) hpl) (own := [("origin", 7), ("target", 8)]) (bo_by rfl))
    (qb_rt (qv_if (m := true) (qb_eq (qb_val (qv_all C rfl T.m_all (bs := (pairsOf (c.row v)).map fun p => standsF book [(p.1, p.2, 1)]) (qv_eq (qv_var 5) (by simp [frzO, Function.comp_def])))) hall) (fun _ => qv_var 4) (fun z => by cases z)) rfl)))))
theorem ok_want_book (T : Tx W) : DefOk W 7 "want_book" ["country", "yard", "value"] (fun ts t => ∃ (c : Cy) (v : Int) (book : Bk2), ts = [.ctry c.cd, .d (.int v), .d (eK book)] ∧ bookOk c v book = true ∧ t = .d (eK book)) := by
  have d1 := ok_book_in T
  refine def_ok _ T.d_want_book sc_want_book (fun ts t h => by obtain ⟨l, o, u, rfl, _⟩ := h; rfl) (fun _ _ _ _ _ _ us hl => match us, hl with | [_, _, _], _ => rfl) (fun f cdv A outer s H E C ts t h => ?_)
  obtain ⟨c, v, book, rfl, hb, rfl⟩ := h
  exact qb_cons (qs_set C 3 (qv_call C rfl d1 (ql_cons (qv_var 0) (ql_cons (qv_var 1) (ql_cons (qv_var 2) ql_nil))) ⟨c, v, book, rfl, hb, rfl⟩))
    (qb_guard (qb_eq (qb_isN (qv_var 3)) rfl) (qb_rt (qv_var 3) rfl))
theorem zipD_map {α β : Type} (f : α → PyData) (g : β → PyData) : ∀ (xs : List α) (ys : List β), zipD (xs.map f) (ys.map g) = (xs.zip ys).map fun p => PyData.tuple [f p.1, g p.2]
  | [], _ => by simp [zipD]
  | _ :: _, [] => by simp [zipD]
  | x :: xs, y :: ys => by
    rw [List.map_cons, List.map_cons, zipD, zipD_map f g xs ys]
    rfl
theorem qi_zipM {ι : Type} {G : Gx} {W : Wd} {k : Nat} {X : ι → Cx} {Γ Γ1 Γ2 : List Sl} {e e2 : Expr} {p pos : Pos} {α β : Type} {f : α → PyData} {g : β → PyData} {xs : List α} {ys : List β} (C : Ctx W k X) (hG : W.G = G) {elts : List Expr} {kk : Nat} {tpos : Pos} (hm : W.mg "zip" = none) (h : PV G X Γ e (.d (.list (xs.map f))) Γ1) (h' : PV G X Γ1 e2 (.d (.list (ys.map g))) Γ2) (hg : ∀ j, Gl (X j) "zip" := by intro _; rfl)
    (hs : ∀ j, starEach [e, e2] (X j).env = (false, eval e (X j).env) :: starEach [e2] (X j).env := by intro _; rfl) (hs4 : ∀ j, starEach [e2] (X j).env = (false, eval e2 (X j).env) :: starEach [] (X j).env := by intro _; rfl)
    (hpl : ∀ j, (backTo pos (starEach [e2] (X j).env)).any (·.1) = false := by intro _; rfl) : PIv G X Γ (.Tuple elts kk tpos) (.Call (.Name "zip" p) [e, e2] [] pos) ((xs.zip ys).map fun p => PyData.tuple [f p.1, g p.2]) Γ2 := by
  rw [← zipD_map]
  exact qi_zip C hG hm h h' hg hs hs4 hpl
/-- the books of a web -/
def websOk (c : Cy) (bs : List Bk2) : Bool := c.ok && decide (bs.length = c.yards.length) && (c.yards.zip bs).all fun p => bookOk c p.1 p.2
theorem zip_snd {α β γ : Type} (f : β → γ) : ∀ (xs : List α) (ys : List β), ys.length = xs.length → ((xs.zip ys).map fun p => f p.2) = ys.map f
  | [], [], _ => rfl
  | [], _ :: _, h => by simp at h
  | _ :: _, [], h => by simp at h
  | x :: xs, y :: ys, h => by
    rw [List.zip_cons_cons, List.map_cons, List.map_cons, zip_snd f xs ys (by simpa using h)]
theorem yards_len (c : Cy) : c.yards.length ≤ c.ties.length := by
  unfold Cy.yards
  rw [List.length_map]
  exact Nat.le_trans (List.length_filter_le _ _) (Nat.le_of_eq (zipI_len _ _))
theorem ok_initW (T : Tx W) : DefOkI W 8 W.G.cW ["self", "country", "books"] (fun ts fds => ∃ (c : Cy) (bs : List Bk2), ts = [.ctry c.cd, .d (.list (bs.map eK))] ∧ websOk c bs = true ∧ fds = [(("own_country" : Str), Tv.ctry c.cd), ("own_books", Tv.d (.list (bs.map eK)))]) := by
  have d1 := ok_want_country T
  have d2 := ok_yards_in T
  have d3 := ok_is_list T
  have d4 := ok_want_book T
  refine defI_ok _ T.initW sc_initW (fun ts t h => by obtain ⟨a, n, rfl, _⟩ := h; rfl) (fun _ _ _ _ _ _ us hl => match us, hl with | [_, _, _], _ => rfl) (fun f cdv A outer s H E C a ts fds h => ?_)
  obtain ⟨c, bs, rfl, hok, rfl⟩ := h
  simp only [websOk, Bool.and_eq_true, List.all_eq_true, decide_eq_true_eq] at hok
  obtain ⟨⟨h1, h2⟩, h3⟩ := hok
  have hz : (c.yards.zip bs).length ≤ 100000 := by
    have h5 := yards_len c
    simp only [Cy.ok, Bool.and_eq_true, decide_eq_true_eq] at h1
    rw [List.length_zip]
    omega
  refine ⟨_, qb_cons (qs_set C 3 (qv_call C rfl d1 (ql_cons (qv_var 1) ql_nil) ⟨_, rfl, rfl⟩)) (qb_cons (qs_set C 4 (qv_call C rfl d2 (ql_cons (qv_var 3) ql_nil) ⟨c, rfl, h1, rfl⟩))
    (qb_guard (qb_eq (qb_w (qw_or (qb_not (qb_val (qv_call C rfl d3 (ql_cons (qv_var 2) ql_nil) ⟨_, rfl, rfl, rfl⟩))) fun _ => qw_or1 (qb_neD C rfl (qv_lenL C rfl T.m_len (qv_var 2)) (qv_lenL (ds := c.yards.map PyData.int) C rfl T.m_len (qv_var 4)) rfl rfl))) (by
        rw [eqv_nat, List.length_map, List.length_map, decide_eq_true h2]
        rfl))
    (qb_cons (qs_fld C rfl T.cls.cW 0 (T.cls.nW _ (by simp)) (qv_var 3) rfl)
    (qb_cons (qs_fld C rfl T.cls.cW 0 (T.cls.nW _ (by simp)) (qv_new (qf_lcP C (lcA C rfl (c.yards.zip bs) (fun p => .tuple [.int p.1, eK p.2]) (fun p => eK p.2) _
        (fun p => [.ow (.obj a W.G.cW [("own_country", .ctry c.cd)]), .fr (.ctry c.cd), .fr (.d (.list (bs.map eK))), .fr (.ctry c.cd), .fr (.d (eIs c.yards)), .fr (.d (.int p.1)), .fr (.d (eK p.2))])
        (qi_zipM (f := PyData.int) (g := eK) (xs := c.yards) (ys := bs) C rfl T.m_zip (qv_var 4) (qv_var 2)) (qg_tup (n := 2) C.blk rfl (qgs_cons (qg_name C.blk 5) (qgs_cons (qg_name C.blk 6) qgs_nil)))
        (fun p hp => qv_call C.blk rfl d4 (ql_cons (qv_var 3) (ql_cons (qv_var 5) (ql_cons (qv_var 6) ql_nil))) ⟨c, p.1, p.2, rfl, h3 p hp, rfl⟩) hz) (own := [("yard", 5), ("book", 6)]) (fun _ => bo_by rfl))) rfl) qb_nil)))), ?_⟩
  have e : Tv.d (PyData.list ((c.yards.zip bs).map fun p => eK p.2)) = .d (.list (bs.map eK)) := by rw [zip_snd eK c.yards bs h2]
  rw [← e]
  rfl
theorem ok_country_of (T : Tx W) : DefOk W 1 "country_of" ["web"] (fun ts t => ∃ c b, ts = [.web c b] ∧ t = .ctry c) := by
  refine def_ok _ T.d_country_of sc_country_of (fun ts t h => by obtain ⟨l, o, rfl, _⟩ := h; rfl) (fun _ _ _ _ _ _ us hl => match us, hl with | [_], _ => rfl) (fun f cdv A outer s H E C ts t h => ?_)
  obtain ⟨c, b, rfl, rfl⟩ := h
  exact qb_rt (qv_octry C rfl T.cls (qv_var 0)) rfl
theorem ok_want_web (T : Tx W) : DefOk W 1 "want_web" ["value"] (fun ts t => ∃ c b, ts = [.web c b] ∧ t = .web c b) := by
  refine def_ok _ T.d_want_web sc_want_web (fun ts t h => by obtain ⟨c, b, rfl, _⟩ := h; rfl) (fun _ _ _ _ _ _ us hl => match us, hl with | [_], _ => rfl) (fun f cdv A outer s H E C ts t h => ?_)
  obtain ⟨c, b, rfl, rfl⟩ := h
  exact qb_guard (qb_eq (qb_not (qb_val (qv_isiC C rfl T.isW T.m_isinstance T.n_Web (qv_var 0) fun _ _ h => isi_web h))) rfl) (qb_rt (qv_var 0) rfl)
theorem ok_book_at (T : Tx W) : DefOk W 2 "book_at" ["web", "yard"] (fun ts t => ∃ (c : Cy) (bs : List Bk2) (v : Int) (i : Nat) (b : Bk2), ts = [.web c.cd (.list (bs.map eK)), .d (.int v)] ∧ c.ok = true ∧ c.yards[i]? = some v ∧ (∀ m, m < i → c.yards[m]? ≠ some v) ∧ bs[i]? = some b ∧ t = .d (eK b)) := by
  have d1 := ok_yards_in T
  refine def_ok _ T.d_book_at sc_book_at (fun ts t h => by obtain ⟨c, bs, v, i, b, rfl, _⟩ := h; rfl) (fun _ _ _ _ _ _ us hl => match us, hl with | [_, _], _ => rfl) (fun f cdv A outer s H E C ts t h => ?_)
  obtain ⟨c, bs, v, i, b, rfl, hc, h1, h2, h3, rfl⟩ := h
  have hat : atI bs (i : Nat) = some b := by
    rw [atI_pos (by omega) (by have := (List.getElem?_eq_some_iff.mp h3).1; omega)]
    exact h3
  exact qb_rt (qv_ixL C rfl (qv_obooks C rfl T.cls (qv_var 0)) (qv_indexL C rfl (ns := c.yards) (qv_call C rfl d1 (ql_cons (qv_octry C rfl T.cls (qv_var 0)) ql_nil) ⟨c, rfl, hc, rfl⟩) (qv_var 1) h1 h2) (atI_map (f := eK) hat)) rfl
end
end Lk
set_option Elab.async false
set_option linter.all false
set_option maxRecDepth 100000
set_option maxHeartbeats 2000000
/-! E8: ways. -/
namespace Lk
open PySem PySem.Spec PyProof.Rows L2
section
variable {ι : Type} {G : Gx} {W : Wd} {k : Nat} {X : ι → Cx} {Γ Γ1 Γ2 : List Sl} {e : Expr} {pos : Pos}
theorem qv_neg {m : Int} (h : PV G X Γ e (.d (.int m)) Γ1) : PV G X Γ (.UnaryOp .USub e pos) (.d (.int (-m))) Γ1 := by
  obtain ⟨r, h1, h2⟩ := h
  refine ⟨_, fun j => pe_un un_neg (h1 j), fun F σ H Hb E Q q => h2 F σ H Hb E _ fun v H' Hb' E' s' r' => ?_⟩
  exact ⟨m, dp_int r', q _ H' Hb' E' s' (.int _)⟩
end
theorem atI_last {α : Type} {xs : List α} {d : α} (h : xs.isEmpty = false) : atI xs (-1) = some (xs.getLast?.getD d) := by
  have hl : 0 < xs.length := by cases xs with
    | nil => cases h
    | cons a r => simp
  unfold atI ixN
  rw [if_neg (by omega), if_pos (by omega)]
  show xs[((-1 : Int) + xs.length).toNat]? = _
  have e : ((-1 : Int) + xs.length).toNat = xs.length - 1 := by omega
  rw [e]
  exact last_get h
section
variable {W : Wd}
def geti (row : List Int) (i : Int) : Int := (atI row i).getD 0
def lastI (l : List Int) : Int := l.getLast?.getD 0
def wbIt (row : List Int) (s : Int) : Nat → List Int
  | 0 => [s]
  | m + 1 => wbIt row s m ++ [geti row (lastI (wbIt row s m))]
def wbOk (c : Cy) (s e : Int) (n : Nat) : Bool := (atI c.ahead e).isSome && decide (n ≤ 50) && (List.range n).all (fun m => decide (lastI (wbIt (rowAt c.ahead e) s m) ≠ e) && (atI (rowAt c.ahead e) (lastI (wbIt (rowAt c.ahead e) s m))).isSome) && decide (lastI (wbIt (rowAt c.ahead e) s n) = e)
theorem wbIt_len (row : List Int) (s : Int) : ∀ m, (wbIt row s m).length = m + 1
  | 0 => rfl
  | m + 1 => by rw [wbIt, List.length_append, wbIt_len row s m]; rfl
theorem wbIt_ne (row : List Int) (s : Int) (m : Nat) : (wbIt row s m).isEmpty = false := by
  have h := wbIt_len row s m
  cases e : wbIt row s m with
  | nil => rw [e] at h; simp at h
  | cons _ _ => rfl
theorem ok_way_between (T : Tx W) : DefOk W 1 "way_between" ["country", "start", "end"] (fun ts t => ∃ (c : Cy) (a e : Int) (n : Nat), ts = [.ctry c.cd, .d (.int a), .d (.int e)] ∧ wbOk c a e n = true ∧ t = .d (eIs (wbIt (rowAt c.ahead e) a n))) := by
  refine def_ok _ T.d_way_between sc_way_between (fun ts t h => by obtain ⟨l, o, u, n, rfl, _⟩ := h; rfl) (fun _ _ _ _ _ _ us hl => match us, hl with | [_, _, _], _ => rfl) (fun f cdv A outer s H E C ts t h => ?_)
  obtain ⟨c, a, e, n, rfl, hok, rfl⟩ := h
  simp only [wbOk, Bool.and_eq_true, List.all_eq_true, decide_eq_true_eq, List.mem_range] at hok
  obtain ⟨⟨⟨h1, h2⟩, h3⟩, h4⟩ := hok
  let row := rowAt c.ahead e
  have hrow : atI c.ahead e = some row := by
    cases q : atI c.ahead e with
    | none => rw [q] at h1; cases h1
    | some r => show some r = some (rowAt c.ahead e); unfold rowAt; rw [q]; rfl
  let env : Nat → List Sl := fun m => [.fr (.ctry c.cd), .fr (.d (.int a)), .fr (.d (.int e)), .fr (.d (eIs row)), .ow (.lst ((wbIt row a m).map PyData.int))]
  have hlast : ∀ m, atI ((wbIt row a m).map PyData.int) (-1) = some (.int (lastI (wbIt row a m))) := fun m => atI_map (f := PyData.int) (atI_last (wbIt_ne row a m))
  have hnx : ∀ m, m < n → atI (row.map PyData.int) (lastI (wbIt row a m)) = some (.int (geti row (lastI (wbIt row a m)))) := fun m hm => by
    refine atI_map (f := PyData.int) ?_
    have h := (h3 m hm).2
    unfold geti
    cases q : atI row (lastI (wbIt row a m)) with
    | none => rw [q] at h; cases h
    | some r => rfl
  exact qb_cons (qs_par C (i := 3) (j := 4) (qm_fr (qv_ixL C rfl (qv_ahead (c := c.cd) C rfl T.cls (qv_var 0)) (qv_var 2) (atI_map (f := eIs) hrow)) (qm_ow (qf_lst (qd_cons (qv_var 1) qd_nil)) qm_nil)))
    (qb_cons (qs_while env n (fun F σ H Hb E => E)
      (fun m hm => qb_eq (qb_neD C rfl (qv_ixO C rfl 4 (qv_neg qv_int) (hlast m)) (qv_var 2) rfl rfl) (by
        rw [eqv_int]
        by_cases hlt : m < n
        · rw [decide_eq_true hlt, decide_eq_false (h3 m hlt).1]; rfl
        · have em : m = n := by omega
          subst em
          rw [decide_eq_false hlt, decide_eq_true h4]; rfl))
      (fun m hm => ⟨_, qb_cons (qs_app C rfl 4 (qv_ixL C rfl (qv_var 3) (qv_ixO C rfl 4 (qv_neg qv_int) (hlast m)) (hnx m hm)) (by rw [List.length_map, wbIt_len]; omega) (h1 := rfl)) qb_nil, fun F σ H Hb E => by
        have e2 : (wbIt row a (m + 1)).map PyData.int = (wbIt row a m).map PyData.int ++ [.int (geti row (lastI (wbIt row a m)))] := by rw [wbIt, List.map_append]; rfl
        show EnvOk _ _ [_, _, _, _, .ow (.lst ((wbIt row a (m + 1)).map PyData.int))] _ _ _
        rw [e2]
        exact E⟩))
    (qb_frz 4 rfl (qb_rt (qv_var 4) rfl)))
/-! ### yards_behind -/
def ybTurn (t : Int) (s : List Int × List Int) (p : Int) : List Int × List Int := if p ∉ s.1 ∧ p ≠ t then (s.1 ++ [p], s.2 ++ [p]) else s
def ybStep (c : Cy) (t : Int) (s : List Int × List Int) : List Int × List Int := (c.row (lastI s.2)).foldl (ybTurn t) (s.1, s.2.dropLast)
def ybIt (c : Cy) (y t : Int) : Nat → List Int × List Int
  | 0 => ([y], [y])
  | m + 1 => ybStep c t (ybIt c y t m)
def ybOk (c : Cy) (y t : Int) (n : Nat) : Bool := c.ok && (List.range n).all (fun m => !(ybIt c y t m).2.isEmpty && c.isP (lastI (ybIt c y t m).2) && decide ((ybIt c y t m).1.length < 90 ∧ (ybIt c y t m).2.length < 90)) && (ybIt c y t n).2.isEmpty && (ybIt c y t n).1.all (fun p => c.isP p) && decide ((ybIt c y t n).1.length < 90)
def ybOf (c : Cy) (y t : Int) (n : Nat) : List Int := sortI ((ybIt c y t n).1.filter fun p => decide ((c.row p).length > 1))
theorem ybTurn_len (t : Int) (s : List Int × List Int) (p : Int) : (ybTurn t s p).1.length ≤ s.1.length + 1 ∧ (ybTurn t s p).2.length ≤ s.2.length + 1 := by
  unfold ybTurn
  split <;> simp
theorem ok_yards_behind (T : Tx W) : DefOk W 2 "yards_behind" ["country", "yard", "target"] (fun ts t => ∃ (c : Cy) (y u : Int) (n : Nat), ts = [.ctry c.cd, .d (.int y), .d (.int u)] ∧ ybOk c y u n = true ∧ t = .d (eIs (ybOf c y u n))) := by
  have d1 := ok_beside T
  refine def_ok _ T.d_yards_behind sc_yards_behind (fun ts t h => by obtain ⟨l, o, u, n, rfl, _⟩ := h; rfl) (fun _ _ _ _ _ _ us hl => match us, hl with | [_, _, _], _ => rfl) (fun f cdv A outer s H E C ts t h => ?_)
  obtain ⟨c, y, u, n, rfl, hok, rfl⟩ := h
  simp only [ybOk, Bool.and_eq_true, List.all_eq_true, decide_eq_true_eq, List.mem_range, Bool.not_eq_true'] at hok
  obtain ⟨⟨⟨⟨h0, h1⟩, h2⟩, h3⟩, h4⟩ := hok
  let env : List Int × List Int → List Sl := fun s => [.fr (.ctry c.cd), .fr (.d (.int y)), .fr (.d (.int u)), .ow (.lst (s.1.map PyData.int)), .ow (.lst (s.2.map PyData.int)), .no]
  have hlast : ∀ m, m < n → ((ybIt c y u m).2.map PyData.int)[((ybIt c y u m).2.map PyData.int).length - 1]? = some (.int (lastI (ybIt c y u m).2)) := fun m hm => by
    rw [List.length_map, List.getElem?_map, last_get (d := 0) (h1 m hm).1.1]
    rfl
  have hdl : ∀ m, ((ybIt c y u m).2.map PyData.int).dropLast = ((ybIt c y u m).2.dropLast).map PyData.int := fun m => by rw [List.map_dropLast]
  exact qb_cons (qs_par C (i := 3) (j := 4) (qm_ow (qf_lst (qd_cons (qv_var 1) qd_nil)) (qm_ow (qf_lst (qd_cons (qv_var 1) qd_nil)) qm_nil)))
    (qb_cons (qs_while (fun m => env (ybIt c y u m)) n (fun F σ H Hb E => E)
      (fun m hm => qb_peek 4 (hs := rfl) (qb_eq (qb_neD C rfl (qv_var 4) (qv_lst qd_nil) (shaped_ints _) rfl) (by
        rw [eqv_nil]
        by_cases hlt : m < n
        · have := (h1 m hlt).1.1
          rw [decide_eq_true hlt, List.isEmpty_map, this]
          rfl
        · have e : m = n := by omega
          subst e
          rw [decide_eq_false hlt, List.isEmpty_map, h2]
          rfl)))
      (fun m hm => ⟨_, qb_cons (qs_forM C rfl (c.row (lastI (ybIt c y u m).2)) PyData.int env (ybTurn u) ((ybIt c y u m).1, (ybIt c y u m).2.dropLast) (fun i s => s.1.length ≤ (ybIt c y u m).1.length + i ∧ s.2.length ≤ (ybIt c y u m).2.length + i)
          (qi_list C rfl (qv_call C rfl d1 (ql_cons (qv_var 0) (ql_cons (qv_pop C rfl 4 (hlast m hm)) ql_nil)) ⟨c, _, rfl, (h1 m hm).1.2, rfl⟩)) (qg_name C 5) ⟨Nat.le_refl _, by simp⟩ (fun F σ H Hb E => by rw [hdl m] at E; exact E)
          (fun i s a ha hs => ⟨by
            have h2 := ybTurn_len u s a
            omega, by
            have hi : i < 10 := by
              have h := (List.getElem?_eq_some_iff.mp ha).1
              have := Cy.row_len (v := lastI (ybIt c y u m).2) h0
              omega
            have hb := (h1 m hm).2
            have hb1 : (s.1.map PyData.int).length < 100000 := by rw [List.length_map]; omega
            have hb2 : (s.2.map PyData.int).length < 100000 := by rw [List.length_map]; omega
            by_cases hin : a ∉ s.1 ∧ a ≠ u
            · refine ⟨_, qb_cons (qs_if (o := .nx [.fr (.ctry c.cd), .fr (.d (.int y)), .fr (.d (.int u)), .ow (.lst (s.1.map PyData.int ++ [.int a])), .ow (.lst (s.2.map PyData.int ++ [.int a])), .fr (.d (.int a))]) (qb_eq (b2 := true) (qb_w (qw_and (qb_peek 3 (hs := rfl) (qb_nin C rfl (qv_var 5) (qv_var 3) rfl (shaped_ints _))) fun _ => qw_and1 (qb_neD C rfl (qv_var 5) (qv_var 2) rfl rfl))) (by rw [any_eqv eqe_int, eqv_int, decide_eq_false hin.1, decide_eq_false hin.2]; rfl))
                (fun _ => qb_cons (qs_app C rfl 3 (qv_var 5) hb1) (qb_cons (qs_app C rfl 4 (qv_var 5) hb2) qb_nil)) (fun z => by cases z)) qb_nil, fun F σ H Hb E => ?_⟩
              have e : ybTurn u s a = (s.1 ++ [a], s.2 ++ [a]) := by unfold ybTurn; rw [if_pos hin]
              rw [e]
              have E2 := E.drop 5
              have e2 : env (s.1 ++ [a], s.2 ++ [a]) = [.fr (.ctry c.cd), .fr (.d (.int y)), .fr (.d (.int u)), .ow (.lst (s.1.map PyData.int ++ [.int a])), .ow (.lst (s.2.map PyData.int ++ [.int a])), .no] := by simp [env]
              rw [e2]
              exact E2
            · refine ⟨_, qb_cons (qs_if (o := .nx ((env s).set 5 (.fr (.d (.int a))))) (qb_eq (b2 := false) (qb_w (qw_and (qb_peek 3 (hs := rfl) (qb_nin C rfl (qv_var 5) (qv_var 3) rfl (shaped_ints _))) fun _ => qw_and1 (qb_neD C rfl (qv_var 5) (qv_var 2) rfl rfl))) (by
                  rw [any_eqv eqe_int, eqv_int]
                  by_cases h5 : a ∈ s.1
                  · simp [h5]
                  · have h6 : a = u := by
                      by_cases h7 : a = u
                      · exact h7
                      · exact absurd ⟨h5, h7⟩ hin
                    simp [h6])) (fun z => by cases z) (fun _ => qb_nil)) qb_nil, fun F σ H Hb E => ?_⟩
              have e : ybTurn u s a = s := by unfold ybTurn; rw [if_neg hin]
              rw [e]
              exact E.drop 5⟩)) qb_nil, fun F σ H Hb E => E⟩))
    (qb_frz 3 rfl (qb_rt (qv_new (qf_sorted C rfl T.m_sorted (ds := ((ybIt c y u n).1.filter fun p => decide ((c.row p).length > 1)).map PyData.int) (qv_new (qf_lcP C (lcM C rfl (ybIt c y u n).1 PyData.int (fun p => decide ((c.row p).length > 1)) PyData.int _ (fun p => [.fr (.ctry c.cd), .fr (.d (.int y)), .fr (.d (.int u)), .fr (.d (.list ((ybIt c y u n).1.map PyData.int))), .ow (.lst ((ybIt c y u n).2.map PyData.int)), .fr (.d (.int p))]) (qi_list C rfl (qv_var 3)) (qg_name C.blk 5)
        (fun p hp => qt_one (qb_eq (qb_gt (qv_lenL (ds := (c.row p).map PyData.int) C.blk rfl T.m_len (qv_call C.blk rfl d1 (ql_cons (qv_var 0) (ql_cons (qv_var 5) ql_nil)) ⟨c, p, rfl, h3 p hp, rfl⟩)) qv_int) (by rw [List.length_map]; exact decide_eq_decide.mpr (by omega)))) (fun p _ _ => qv_var 5) (by omega)) (own := [("place", 5)]) (fun _ => bo_by rfl))) (allAlike_I _) (sortable_I _) (d8_I _))) (by rw [sort_I]; rfl))))
end
end Lk
set_option Elab.async false
set_option linter.all false
set_option maxRecDepth 100000
set_option maxHeartbeats 2000000
/-! E9: standing_by. -/
namespace Lk
open PySem PySem.Spec PyProof.Rows L2
section
variable {W : Wd}
abbrev LF := List Rw × Nat
def eLF (p : LF) : PyData := .tuple [eL p.1, .int (p.2 : Nat)]
def prAt (pairs : List Pr) (i : Nat) : Pr := pairs[i]?.getD (0, 0)
def sbIn (book : Bk2) (pairs : List Pr) (p : LF) (acc : List LF) (j : Nat) : List LF :=
  if standsF book (plusC p.1 (prAt pairs (p.2 + j)).1 (prAt pairs (p.2 + j)).2) = true then acc ++ [(plusC p.1 (prAt pairs (p.2 + j)).1 (prAt pairs (p.2 + j)).2, p.2 + j)] else acc
def sbOut (book : Bk2) (pairs : List Pr) (acc : List LF) (p : LF) : List LF := (List.range (pairs.length - p.2)).foldl (sbIn book pairs p) acc
def sbLater (book : Bk2) (pairs : List Pr) (last : List LF) : List LF := last.foldl (sbOut book pairs) []
def sbIt (book : Bk2) (pairs : List Pr) : Nat → List (List Rw) × List LF
  | 0 => ([[]], [([], 0)])
  | m + 1 => ((sbIt book pairs m).1 ++ (sbLater book pairs (sbIt book pairs m).2).map (·.1), sbLater book pairs (sbIt book pairs m).2)
structure SbOk (book : Bk2) (pairs : List Pr) (n : Nat) : Prop where
  bk : bkSmall book = true
  pl : pairs.length ≤ 20
  go : ∀ m, m < n → (sbIt book pairs m).2.isEmpty = false
  stop : (sbIt book pairs n).2.isEmpty = true
  sz : ∀ m, m ≤ n → (sbIt book pairs m).1.length ≤ 5000 ∧ (sbIt book pairs m).2.length ≤ 500 ∧ ∀ p ∈ (sbIt book pairs m).2, p.1.length ≤ 100 ∧ p.2 ≤ 100
theorem plusC_len (l : List Rw) (o t : Int) : (plusC l o t).length ≤ l.length + 1 := by
  unfold plusC sort3
  rw [(List.mergeSort_perm _ _).length_eq, List.length_append]
  have h := pcFold_len o t l ([], 1)
  simp at h ⊢
  omega
theorem sbIn_len (book : Bk2) (pairs : List Pr) (p : LF) (acc : List LF) (j : Nat) : (sbIn book pairs p acc j).length ≤ acc.length + 1 := by
  unfold sbIn
  split <;> simp
theorem sbInF_len (book : Bk2) (pairs : List Pr) (p : LF) : ∀ (l : List Nat) (acc : List LF), (l.foldl (sbIn book pairs p) acc).length ≤ acc.length + l.length
  | [], acc => by simp
  | j :: l, acc => by
    have h := sbInF_len book pairs p l (sbIn book pairs p acc j)
    have h2 := sbIn_len book pairs p acc j
    rw [List.foldl_cons, List.length_cons]
    omega
theorem sbOut_len (book : Bk2) (pairs : List Pr) (acc : List LF) (p : LF) : (sbOut book pairs acc p).length ≤ acc.length + pairs.length := by
  unfold sbOut
  have h := sbInF_len book pairs p (List.range (pairs.length - p.2)) acc
  rw [List.length_range] at h
  omega
theorem sz_LF (p : LF) : (eLF p).canLay0 = true ∧ (eLF p).depth ≤ 3 := by
  have h1 := sz_L p.1
  simp only [eLF, PyData.canLay0, PyData.canLayAll0, PyData.depth, PyData.depthAll, Bool.and_eq_true, h1.1]
  refine ⟨by simp, by omega⟩
theorem ok_standing_by (T : Tx W) : DefOkD W 4 "standing_by" ["book", "pairs", "most"] [.non] (fun ts t => ∃ (book : Bk2) (pairs : List Pr) (n : Nat), ts = [.d (eK book), .d (.list (pairs.map eP)), .d .none] ∧ SbOk book pairs n ∧ t = .d (.list ((sbIt book pairs n).1.map eL))) := by
  have d1 := ok_plus_cart T
  have d2 := ok_stands_by T
  obtain ⟨f0, fd0, hm, F⟩ := T.d_standing_by.ex
  obtain ⟨ds, hds, hbd⟩ := F.binds1 (ps := ["book", "pairs", "most"]) 2 0 (by simp) rfl (fun T kV doc pm an cdv ct us its h1 h2 => match us, its, h1, h2 with | [_, _], [_], _, _ => ⟨_, rfl, rfl⟩)
  refine ⟨f0, fd0, ds, hm, F.kp, hds, hbd, fn_okV _ F sc_standing_by (fun ts t h => by obtain ⟨a, b, n, rfl, _⟩ := h; rfl) (fun f cdv A outer s H E C ts t h => ?_)⟩
  obtain ⟨book, pairs, n, rfl, ok, rfl⟩ := h
  have hpl := ok.pl
  let enO : Nat → List LF → List Sl := fun m acc => [.fr (.d (eK book)), .fr (.d (.list (pairs.map eP))), .fr (.d .none), .ow (.lst ((sbIt book pairs m).1.map eL)), .fr (.d (.list ((sbIt book pairs m).2.map eLF))), .ow (.lst (acc.map eLF)), .no, .no, .no, .no]
  let enI : Nat → LF → List LF → List Sl := fun m p acc => [.fr (.d (eK book)), .fr (.d (.list (pairs.map eP))), .fr (.d .none), .ow (.lst ((sbIt book pairs m).1.map eL)), .fr (.d (.list ((sbIt book pairs m).2.map eLF))), .ow (.lst (acc.map eLF)), .fr (.d (eL p.1)), .fr (.d (.int (p.2 : Nat))), .no, .no]
  let env : Nat → List Sl := fun m => [.fr (.d (eK book)), .fr (.d (.list (pairs.map eP))), .fr (.d .none), .ow (.lst ((sbIt book pairs m).1.map eL)), .fr (.d (.list ((sbIt book pairs m).2.map eLF))), .no, .no, .no, .no, .no]
  have hsh : ∀ m, SeqAt.shaped (.list ((sbIt book pairs m).2.map eLF)) = true := fun m => shaped_sm ⟨(sm_list fun x _ => sz_LF x).1, Nat.le_trans (sm_list fun x _ => sz_LF x).2 (by decide)⟩
  have hlat : ∀ m, m < n → (sbLater book pairs (sbIt book pairs m).2).length ≤ 500 := fun m hm => (ok.sz (m + 1) (by omega)).2.1
  have hzE : ∀ m, m < n → ((sbIt book pairs m).1.map eL).length + ((sbLater book pairs (sbIt book pairs m).2).map fun p => eL p.1).length ≤ 100000 := fun m hm => by
    have := hlat m hm
    have := (ok.sz m (by omega)).1
    rw [List.length_map, List.length_map]
    omega
  exact qb_cons (qs_par C (i := 3) (j := 4) (qm_ow (qf_lst (qd_cons (qv_lst qd_nil) qd_nil)) (qm_fr (qv_lst (qd_cons (qv_tup (qd_cons (qv_lst qd_nil) (qd_cons qv_int qd_nil))) qd_nil)) qm_nil)))
    (qb_cons (qs_while env n (fun F σ H Hb E => E)
      (fun m hm => qb_eq (qb_neD C rfl (qv_var 4) (qv_lst qd_nil) (hsh m) rfl) (by
        rw [eqv_nil, List.isEmpty_map]
        by_cases hlt : m < n
        · rw [decide_eq_true hlt, ok.go m hlt]; rfl
        · have e : m = n := by omega
          subst e
          rw [decide_eq_false hlt, ok.stop]; rfl))
      (fun m hm => ⟨_, qb_cons (qs_own C 5 (qf_lst qd_nil)) (qb_cons
        (qs_forM C rfl (sbIt book pairs m).2 eLF (enO m) (sbOut book pairs) [] (fun i acc => acc.length ≤ i * pairs.length) (qi_list C rfl (qv_var 4)) (qg_tup (n := 2) C rfl (qgs_cons (qg_name C 6) (qgs_cons (qg_name C 7) qgs_nil))) (by simp) (fun F σ H Hb E => E)
          (fun i acc p hp hacc => ⟨by have := sbOut_len book pairs acc p; rw [Nat.add_mul]; omega, by
            have hi : i < 500 := by
              have h := (List.getElem?_eq_some_iff.mp hp).1
              have := (ok.sz m (by omega)).2.1
              omega
            obtain ⟨hp1, hp2⟩ := (ok.sz m (by omega)).2.2 p (List.mem_of_getElem? hp)
            have hil : i * pairs.length ≤ 500 * 20 := Nat.mul_le_mul (by omega) hpl
            have hbnd : -(2 ^ 62) ≤ ((p.2 : Nat) : Int) ∧ ((p.2 : Nat) : Int) < 2 ^ 62 ∧ -(2 ^ 62) ≤ ((pairs.map eP).length : Int) ∧ ((pairs.map eP).length : Int) < 2 ^ 62 := by rw [List.length_map]; omega
            have hrng : (((pairs.map eP).length : Int) - ((p.2 : Nat) : Int)).toNat = pairs.length - p.2 := by rw [List.length_map]; omega
            refine ⟨_, qb_cons (qs_forM C rfl (List.range (((pairs.map eP).length : Int) - ((p.2 : Nat) : Int)).toNat) (fun j : Nat => PyData.int (((p.2 : Nat) : Int) + (j : Int))) (enI m p) (sbIn book pairs p) acc (fun j a2 => a2.length ≤ acc.length + j)
              (qi_rng2 C T.m_range (qv_var 7) (qv_lenL C rfl T.m_len (qv_var 1)) hbnd) (qg_name C 8) (Nat.le_refl _) (fun F σ H Hb E => E)
              (fun j a2 jj hj ha2 => ⟨by have := sbIn_len book pairs p a2 jj; omega, by
                have hjl := (List.getElem?_eq_some_iff.mp hj).1
                have hje : jj = j := by
                  rw [List.getElem?_range (by simpa using hjl)] at hj
                  exact (Option.some.inj hj).symm
                subst hje
                rw [List.length_range, hrng] at hjl
                have hpr : pairs[p.2 + jj]? = some (prAt pairs (p.2 + jj)) := by
                  unfold prAt
                  rw [List.getElem?_eq_getElem (by omega)]
                  rfl
                have hat : atI (pairs.map eP) (((p.2 : Nat) : Int) + (jj : Int)) = some (eP (prAt pairs (p.2 + jj))) := by
                  refine atI_map (f := eP) ?_
                  rw [atI_pos (by omega) (by omega)]
                  have e : (((p.2 : Nat) : Int) + (jj : Int)).toNat = p.2 + jj := by omega
                  rw [e]
                  exact hpr
                have hml := plusC_len p.1 (prAt pairs (p.2 + jj)).1 (prAt pairs (p.2 + jj)).2
                have hb : (a2.map eLF).length < 100000 := by rw [List.length_map]; omega
                have hcast : (((p.2 : Nat) : Int) + (jj : Int)) = ((p.2 + jj : Nat) : Int) := by omega
                cases hv : standsF book (plusC p.1 (prAt pairs (p.2 + jj)).1 (prAt pairs (p.2 + jj)).2) with
                | true =>
                  refine ⟨_, qb_cons (qs_set C 9 (qv_call C rfl d1 (ql_cons (qv_var 6) (ql_cons (qv_ixT (d := .int (prAt pairs (p.2 + jj)).1) C rfl (qv_ixL C rfl (qv_var 1) (qv_var 8) hat) qv_int rfl) (ql_cons (qv_ixT (d := .int (prAt pairs (p.2 + jj)).2) C rfl (qv_ixL C rfl (qv_var 1) (qv_var 8) hat) qv_int rfl) ql_nil))) ⟨p.1, _, _, rfl, by omega, rfl⟩))
                    (qb_cons (qs_if (m := true) (o := .nx [.fr (.d (eK book)), .fr (.d (.list (pairs.map eP))), .fr (.d .none), .ow (.lst ((sbIt book pairs m).1.map eL)), .fr (.d (.list ((sbIt book pairs m).2.map eLF))), .ow (.lst (a2.map eLF ++ [.tuple [eL (plusC p.1 (prAt pairs (p.2 + jj)).1 (prAt pairs (p.2 + jj)).2), .int (((p.2 : Nat) : Int) + (jj : Int))]])), .fr (.d (eL p.1)), .fr (.d (.int (p.2 : Nat))), .fr (.d (.int (((p.2 : Nat) : Int) + (jj : Int)))), .fr (.d (eL (plusC p.1 (prAt pairs (p.2 + jj)).1 (prAt pairs (p.2 + jj)).2)))])
                      (qb_eq (qb_val (qv_call C rfl d2 (ql_cons (qv_var 0) (ql_cons (qv_var 9) ql_nil)) ⟨book, _, rfl, ok.bk, by omega, rfl⟩)) hv) (fun _ => qb_cons (qs_app C rfl 5 (qv_tup (qd_cons (qv_var 9) (qd_cons (qv_var 8) qd_nil))) hb) qb_nil) (fun z => by cases z)) qb_nil), fun F σ H Hb E => ?_⟩
                  have e : sbIn book pairs p a2 jj = a2 ++ [(plusC p.1 (prAt pairs (p.2 + jj)).1 (prAt pairs (p.2 + jj)).2, p.2 + jj)] := by unfold sbIn; rw [if_pos hv]
                  rw [e]
                  have E2 := (E.drop 8).drop 9
                  rw [hcast] at E2
                  have e3 : (a2 ++ [(plusC p.1 (prAt pairs (p.2 + jj)).1 (prAt pairs (p.2 + jj)).2, p.2 + jj)]).map eLF = a2.map eLF ++ [.tuple [eL (plusC p.1 (prAt pairs (p.2 + jj)).1 (prAt pairs (p.2 + jj)).2), .int ((p.2 + jj : Nat) : Int)]] := by rw [List.map_append]; rfl
                  show EnvOk _ _ [_, _, _, _, _, .ow (.lst ((a2 ++ [(plusC p.1 (prAt pairs (p.2 + jj)).1 (prAt pairs (p.2 + jj)).2, p.2 + jj)]).map eLF)), _, _, _, _] _ _ _
                  rw [e3]
                  exact E2
                | false =>
                  refine ⟨_, qb_cons (qs_set C 9 (qv_call C rfl d1 (ql_cons (qv_var 6) (ql_cons (qv_ixT (d := .int (prAt pairs (p.2 + jj)).1) C rfl (qv_ixL C rfl (qv_var 1) (qv_var 8) hat) qv_int rfl) (ql_cons (qv_ixT (d := .int (prAt pairs (p.2 + jj)).2) C rfl (qv_ixL C rfl (qv_var 1) (qv_var 8) hat) qv_int rfl) ql_nil))) ⟨p.1, _, _, rfl, by omega, rfl⟩))
                    (qb_cons (qs_if (m := false) (o := .nx (((enI m p a2).set 8 (.fr (.d (.int (((p.2 : Nat) : Int) + (jj : Int)))))).set 9 (.fr (.d (eL (plusC p.1 (prAt pairs (p.2 + jj)).1 (prAt pairs (p.2 + jj)).2))))))
                      (qb_eq (qb_val (qv_call C rfl d2 (ql_cons (qv_var 0) (ql_cons (qv_var 9) ql_nil)) ⟨book, _, rfl, ok.bk, by omega, rfl⟩)) hv) (fun z => by cases z) (fun _ => qb_nil)) qb_nil), fun F σ H Hb E => ?_⟩
                  have e : sbIn book pairs p a2 jj = a2 := by unfold sbIn; rw [hv]; rfl
                  rw [e]
                  exact (E.drop 8).drop 9⟩)) qb_nil, fun F σ H Hb E => ?_⟩
            rw [hrng] at E
            exact (E.drop 6).drop 7⟩) (fun _ _ => ⟨rfl, trivial, trivial, rfl⟩))
        (qb_frz 5 rfl (qb_cons (qs_ext C rfl 3 (qf_lcP C (lcA C rfl (sbLater book pairs (sbIt book pairs m).2) eLF (fun p => eL p.1) _ (fun p => [.fr (.d (eK book)), .fr (.d (.list (pairs.map eP))), .fr (.d .none), .ow (.lst ((sbIt book pairs m).1.map eL)), .fr (.d (.list ((sbIt book pairs m).2.map eLF))), .fr (.d (.list ((sbLater book pairs (sbIt book pairs m).2).map eLF))), .fr (.d (eL p.1)), .no, .fr (.d (.int (p.2 : Nat))), .no])
            (qi_list C rfl (qv_var 5)) (qg_tup (n := 2) C.blk rfl (qgs_cons (qg_name C.blk 6) (qgs_cons (qg_name C.blk 8) qgs_nil))) (fun p _ => qv_var 6) (by have := hlat m hm; omega)) (own := [("load", 6), ("at", 8)]) (fun _ => bo_by rfl)) (hzE m hm) (h1 := rfl))
          (qb_guard (qb_eq (qb_w (qw_and (n := false) (qb_notN (qv_var 2)) (fun z => by cases z))) rfl)
          (qb_cons (qs_set C 4 (qv_var 5)) qb_nil))))), fun F σ H Hb E => by
            have e : (sbIt book pairs (m + 1)).1.map eL = (sbIt book pairs m).1.map eL ++ (sbLater book pairs (sbIt book pairs m).2).map fun p => eL p.1 := by rw [sbIt, List.map_append, List.map_map]; rfl
            show EnvOk _ _ [_, _, _, .ow (.lst ((sbIt book pairs (m + 1)).1.map eL)), _, _, _, _, _, _] _ _ _
            rw [e]
            exact E.drop 5⟩))
    (qb_frz 3 rfl (qb_rt (qv_var 3) rfl)))
end
end Lk
set_option Elab.async false
set_option linter.all false
set_option maxRecDepth 100000
set_option maxHeartbeats 2000000
/-! F1: sides. -/
namespace Lk
open PySem PySem.Spec PyProof.Rows L2
open PySem.W (AllAlike Sortable dataLe dataLt alike alikeAll)
section
variable {W : Wd}
def prT (c : Cy) (y u : Int) : List Pr := (pairsOf (c.row y)).filter fun p => decide (p.2 = u)
theorem ok_pairs_towards (T : Tx W) : DefOk W 3 "pairs_towards" ["country", "yard", "target"] (fun ts t => ∃ (c : Cy) (y u : Int), ts = [.ctry c.cd, .d (.int y), .d (.int u)] ∧ c.ok = true ∧ c.isP y = true ∧ t = .d (.list ((prT c y u).map eP))) := by
  have d1 := ok_pairs_at T
  refine def_ok _ T.d_pairs_towards sc_pairs_towards (fun ts t h => by obtain ⟨l, o, u, rfl, _⟩ := h; rfl) (fun _ _ _ _ _ _ us hl => match us, hl with | [_, _, _], _ => rfl) (fun f cdv A outer s H E C ts t h => ?_)
  obtain ⟨c, y, u, rfl, hc, hp, rfl⟩ := h
  have hr := Cy.row_len (v := y) hc
  have hpl : (pairsOf (c.row y)).length ≤ 100000 := by
    have := pairsOf_len (c.row y)
    have h7 : (c.row y).length * (c.row y).length ≤ 10 * 10 := Nat.mul_le_mul hr hr
    omega
  exact qb_rt (qv_new (qf_lcP C (lcM C rfl (pairsOf (c.row y)) eP (fun p => decide (p.2 = u)) eP _ (fun p => [.fr (.ctry c.cd), .fr (.d (.int y)), .fr (.d (.int u)), .fr (.d (eP p))]) (qi_list C rfl (qv_call C rfl d1 (ql_cons (qv_var 0) (ql_cons (qv_var 1) ql_nil)) ⟨c, y, rfl, hc, hp, rfl⟩)) (qg_name C.blk 3)
    (fun p _ => qt_one (qb_eq (qb_eqD C.blk rfl (qv_ixT C.blk rfl (qv_var 3) qv_int (d := .int p.2) rfl) (qv_var 2) rfl rfl) (by rw [eqv_int]))) (fun p _ _ => qv_var 3) hpl) (own := [("pair", 3)]) (fun _ => bo_by rfl))) rfl
def sbn (b : Bk2) (prs : List Pr) : Nat := ((List.range 20).find? fun m => (sbIt b prs m).2.isEmpty).getD 0
def loadsOf (b : Bk2) (prs : List Pr) : List (List Rw) := (sbIt b prs (sbn b prs)).1
def leL (a b : List Rw) : Bool := dataLe false id (eL a) (eL b)
def sortL (xs : List (List Rw)) : List (List Rw) := xs.mergeSort leL
theorem al_3s : ∀ a b : List Rw, alikeAll (a.map e3) (b.map e3) = true
  | [], _ => by simp [alikeAll]
  | _ :: _, [] => by simp [alikeAll]
  | x :: a, y :: b => by
    rw [List.map_cons, List.map_cons, alikeAll, al_3, al_3s a b]
    rfl
theorem al_L (a b : List Rw) : alike (eL a) (eL b) = true := by
  show alike (.list (a.map e3)) (.list (b.map e3)) = true
  rw [alike]
  exact al_3s a b
theorem allAlike_L (xs : List (List Rw)) : AllAlike (xs.map eL) := PySem.W.AllAlike.of al_L
theorem sortable_L (xs : List (List Rw)) : Sortable (xs.map eL) := PySem.W.Sortable.others fun b => ⟨(by intro h; cases h), (by intro xs h; cases h)⟩
theorem d8_L (xs : List (List Rw)) : ∀ d ∈ xs.map eL, d.depth ≤ 8 := fun d h => by
  obtain ⟨x, _, rfl⟩ := List.mem_map.mp h
  exact Nat.le_trans (sz_L x).2 (by decide)
theorem sort_L (xs : List (List Rw)) : (xs.map eL).mergeSort (dataLe false id) = (sortL xs).map eL := sort_map (fun _ _ => rfl) xs
theorem cut1 {ds : List PyData} (h : 1 ≤ ds.length) : cutD ds (some 1) none = ds.drop 1 := by
  have e1 : HT.sIx ds.length 0 (some 1) = 1 := (HT.sIx_nat ds.length 0 1).trans (Nat.min_eq_left h)
  unfold cutD
  rw [e1, HT.sIx_none]
  exact List.take_of_length_le (by rw [List.length_drop]; exact Nat.le_refl _)
/-- where y's book stands -/
def bookOf (c : Cy) (bs : List Bk2) (y : Int) : Bk2 := (bs[c.yards.idxOf y]?).getD []
theorem bookOf_at {c : Cy} {bs : List Bk2} {y : Int} (h : y ∈ c.yards) (hl : bs.length = c.yards.length) : c.yards[c.yards.idxOf y]? = some y ∧ (∀ m, m < c.yards.idxOf y → c.yards[m]? ≠ some y) ∧ bs[c.yards.idxOf y]? = some (bookOf c bs y) := by
  have h1 : c.yards.idxOf y < c.yards.length := List.idxOf_lt_length_of_mem h
  refine ⟨?_, fun m hm e => ?_, ?_⟩
  · rw [List.getElem?_eq_getElem h1]
    congr 1
    exact List.getElem_idxOf h1
  · have hm2 : m < c.yards.length := by omega
    rw [List.getElem?_eq_getElem hm2] at e
    have e2 := Option.some.inj e
    have := List.not_of_lt_findIdx (p := (· == y)) (xs := c.yards) (i := m) hm
    simp [e2] at this
  · unfold bookOf
    rw [List.getElem?_eq_getElem (by omega)]
    rfl
/-- a web's books, and what comes of them -/
structure WOk (c : Cy) (bs : List Bk2) : Prop where
  w : websOk c bs = true
  sb : ∀ y ∈ c.yards, ∀ u ∈ c.row y, SbOk (bookOf c bs y) (prT c y u) (sbn (bookOf c bs y) (prT c y u))
  isP : ∀ y ∈ c.yards, c.isP y = true
theorem WOk.ok {c : Cy} {bs : List Bk2} (h : WOk c bs) : c.ok = true := by
  have := h.w
  simp only [websOk, Bool.and_eq_true] at this
  exact this.1.1
theorem WOk.len {c : Cy} {bs : List Bk2} (h : WOk c bs) : bs.length = c.yards.length := by
  have := h.w
  simp only [websOk, Bool.and_eq_true, decide_eq_true_eq] at this
  exact this.1.2
def bsD (bs : List Bk2) : PyData := .list (bs.map eK)
theorem sbIt_pos (b : Bk2) (prs : List Pr) : ∀ n, 1 ≤ (sbIt b prs n).1.length
  | 0 => by simp [sbIt]
  | n + 1 => by
    have := sbIt_pos b prs n
    rw [sbIt, List.length_append]
    omega
def towF (b : Bk2) (prs : List Pr) : List (List Rw) := sortL ((loadsOf b prs).drop 1)
theorem ok_towards (T : Tx W) : DefOk W 5 "towards" ["web", "yard", "target"] (fun ts t => ∃ (c : Cy) (bs : List Bk2) (y u : Int), ts = [.web c.cd (bsD bs), .d (.int y), .d (.int u)] ∧ WOk c bs ∧ y ∈ c.yards ∧ u ∈ c.row y ∧ t = .d (.list ((towF (bookOf c bs y) (prT c y u)).map eL))) := by
  have d1 := ok_pairs_towards T
  have d2 := ok_country_of T
  have d3 := ok_standing_by T
  have d4 := ok_book_at T
  refine def_ok _ T.d_towards sc_towards (fun ts t h => by obtain ⟨l, o, u, v, rfl, _⟩ := h; rfl) (fun _ _ _ _ _ _ us hl => match us, hl with | [_, _, _], _ => rfl) (fun f cdv A outer s H E C ts t h => ?_)
  obtain ⟨c, bs, y, u, rfl, hw, hy, hu, rfl⟩ := h
  obtain ⟨b1, b2, b3⟩ := bookOf_at hy hw.len
  have hsb := hw.sb y hy u hu
  have h1 : 1 ≤ ((loadsOf (bookOf c bs y) (prT c y u)).map eL).length := by rw [List.length_map]; exact sbIt_pos _ _ _
  have e : cutD ((loadsOf (bookOf c bs y) (prT c y u)).map eL) (some 1) none = ((loadsOf (bookOf c bs y) (prT c y u)).drop 1).map eL := by rw [cut1 h1, List.map_drop]
  exact qb_cons (qs_set C 3 (qv_call C rfl d1 (ql_cons (qv_call C rfl d2 (ql_cons (qv_var 0) ql_nil) ⟨c.cd, bsD bs, rfl, rfl⟩) (ql_cons (qv_var 1) (ql_cons (qv_var 2) ql_nil))) ⟨c, y, u, rfl, hw.ok, hw.isP y hy, rfl⟩))
    (qb_rt (qv_new (qf_sorted C rfl T.m_sorted (ds := ((loadsOf (bookOf c bs y) (prT c y u)).drop 1).map eL) (qv_eq (qv_new (qf_slL (ds := (loadsOf (bookOf c bs y) (prT c y u)).map eL) C rfl (qv_callD C rfl d3 (ql_cons (qv_call C rfl d4 (ql_cons (qv_var 0) (ql_cons (qv_var 1) ql_nil)) ⟨c, bs, y, c.yards.idxOf y, bookOf c bs y, rfl, hw.ok, b1, b2, b3, rfl⟩) (ql_cons (qv_var 3) ql_nil)) ⟨_, _, _, rfl, hsb, rfl⟩) (qp_some qv_int) qp_none)) (by rw [e]; rfl)) (allAlike_L _) (sortable_L _) (d8_L _))) (by rw [sort_L]; rfl))
def ysF (c : Cy) : List Pr := c.yards.foldl (fun s y => s ++ (((c.row y).filter c.isY).map fun p => (y, p))) []
theorem yards_ok {c : Cy} {y : Int} (h : y ∈ c.yards) : c.isP y = true := by
  unfold Cy.yards at h
  obtain ⟨p, hp, rfl⟩ := List.mem_map.mp h
  have hp2 := (List.mem_filter.mp hp).1
  have : ∀ (xs : List (List Int)) (i : Nat) (p : Nat × List Int), p ∈ zipI i xs → p.1 < i + xs.length := by
    intro xs
    induction xs with
    | nil => intro i p h; cases h
    | cons x xs ih =>
      intro i p h
      rw [zipI, List.mem_cons] at h
      rcases h with rfl | h
      · simp
      · have := ih (i + 1) p h
        simp
        omega
  have h3 := this c.ties 0 p hp2
  simp only [Cy.isP, Bool.and_eq_true, decide_eq_true_eq]
  omega
theorem ok_yard_sides (T : Tx W) : DefOk W 5 "yard_sides" ["country"] (fun ts t => ∃ (c : Cy), ts = [.ctry c.cd] ∧ c.ok = true ∧ t = .d (.list ((ysF c).map eP))) := by
  have d1 := ok_yards_in T
  have d2 := ok_beside T
  have d3 := ok_is_yard T
  refine def_ok _ T.d_yard_sides sc_yard_sides (fun ts t h => by obtain ⟨l, rfl, _⟩ := h; rfl) (fun _ _ _ _ _ _ us hl => match us, hl with | [_], _ => rfl) (fun f cdv A outer s H E C ts t h => ?_)
  obtain ⟨c, rfl, hc, rfl⟩ := h
  have hyl : c.yards.length ≤ 50 := by
    have := yards_len c
    simp only [Cy.ok, Bool.and_eq_true, decide_eq_true_eq] at hc
    omega
  exact qb_cons (qs_own C 1 (qf_lst qd_nil))
    (qb_cons (qs_forM C rfl c.yards PyData.int (fun s : List Pr => [.fr (.ctry c.cd), .ow (.lst (s.map eP)), .no, .no]) (fun s y => s ++ (((c.row y).filter c.isY).map fun p => (y, p))) [] (fun i s => s.length ≤ 10 * i)
      (qi_list C rfl (qv_call C rfl d1 (ql_cons (qv_var 0) ql_nil) ⟨c, rfl, hc, rfl⟩)) (qg_name C 2) (by simp) (fun F σ H Hb E => E)
      (fun i s y hy hs => by
        have hi : i < 50 := by
          have h := (List.getElem?_eq_some_iff.mp hy).1
          omega
        have hr := Cy.row_len (v := y) hc
        have hyP := yards_ok (List.mem_of_getElem? hy)
        have hf : ((c.row y).filter c.isY).length ≤ 10 := Nat.le_trans (List.length_filter_le _ _) hr
        have hz : (s.map eP).length + (((c.row y).filter c.isY).map fun p => eP (y, p)).length ≤ 100000 := by rw [List.length_map, List.length_map]; omega
        refine ⟨by rw [List.length_append, List.length_map]; omega, _, qb_cons (qs_ext C rfl 1 (qf_lcP C (lcM C rfl (c.row y) PyData.int c.isY (fun p => eP (y, p)) _ (fun p => [.fr (.ctry c.cd), .ow (.lst (s.map eP)), .fr (.d (.int y)), .fr (.d (.int p))])
          (qi_list C rfl (qv_call C rfl d2 (ql_cons (qv_var 0) (ql_cons (qv_var 2) ql_nil)) ⟨c, y, rfl, hyP, rfl⟩)) (qg_name C.blk 3) (fun p _ => qt_one (qb_val (qv_call C.blk rfl d3 (ql_cons (qv_var 0) (ql_cons (qv_var 3) ql_nil)) ⟨c, p, rfl, rfl⟩))) (fun p _ _ => qv_tup (qd_cons (qv_var 2) (qd_cons (qv_var 3) qd_nil))) (by omega)) (own := [("place", 3)]) (fun _ => bo_by rfl)) hz (h1 := rfl)) qb_nil, fun F σ H Hb E => ?_⟩
        have E2 := E.drop 2
        have e : (s ++ (((c.row y).filter c.isY).map fun p => (y, p))).map eP = s.map eP ++ ((c.row y).filter c.isY).map fun p => eP (y, p) := by simp
        rw [e]
        exact E2))
    (qb_frz 1 rfl (qb_rt (qv_var 1) rfl)))
theorem ok_is_shut (T : Tx W) : DefOk W 4 "is_shut" ["book", "target", "load", "place"] (fun ts t => ∃ (b : Bk2) (u : Int) (l : List Rw) (p : Int), ts = [.d (eK b), .d (.int u), .d (eL l), .d (.int p)] ∧ bkSmall b = true ∧ l.length ≤ 900 ∧ t = .d (.bool (!standsF b (plusC l u p)))) := by
  have d1 := ok_plus_cart T
  have d2 := ok_stands_by T
  refine def_ok _ T.d_is_shut sc_is_shut (fun ts t h => by obtain ⟨l, o, u, v, rfl, _⟩ := h; rfl) (fun _ _ _ _ _ _ us hl => match us, hl with | [_, _, _, _], _ => rfl) (fun f cdv A outer s H E C ts t h => ?_)
  obtain ⟨b, u, l, p, rfl, hb, hl, rfl⟩ := h
  exact qb_rt (qv_not (qv_call C rfl d2 (ql_cons (qv_var 0) (ql_cons (qv_call C rfl d1 (ql_cons (qv_var 2) (ql_cons (qv_var 1) (ql_cons (qv_var 3) ql_nil))) ⟨l, u, p, rfl, by omega, rfl⟩) ql_nil)) ⟨b, _, rfl, hb, by have := plusC_len l u p; omega, rfl⟩)) rfl
theorem ok_load_weight (T : Tx W) : DefOk W 1 "load_weight" ["load"] (fun ts t => ∃ (l : List Rw), ts = [.d (eL l)] ∧ l.length ≤ 1000 ∧ t = .d (.int (wgt l))) := by
  refine def_ok _ T.d_load_weight sc_load_weight (fun ts t h => by obtain ⟨l, rfl, _⟩ := h; rfl) (fun _ _ _ _ _ _ us hl => match us, hl with | [_], _ => rfl) (fun f cdv A outer s H E C ts t h => ?_)
  obtain ⟨l, rfl, hl, rfl⟩ := h
  exact qb_rt (qv_sum C rfl T.m_sum (ns := l.map fun r => r.2.2) (qv_eq (qv_new (qf_lcP C (lcA C rfl l e3 (fun r => .int r.2.2) _ (fun r => [.fr (.d (eL l)), .fr (.d (e3 r))]) (qi_list C rfl (qv_var 0)) (qg_name C.blk 1)
    (fun r _ => qv_ixT C.blk rfl (qv_var 1) qv_int (d := .int r.2.2) rfl) (by omega)) (own := [("row", 1)]) (fun _ => bo_by rfl))) (by simp [frzO, Function.comp_def]))) rfl
end
end Lk
set_option Elab.async false
set_option linter.all false
set_option maxRecDepth 100000
set_option maxHeartbeats 2000000
/-! F2: plugs, posts (from has_plug). -/
namespace Lk
open PySem PySem.Spec PyProof.Rows L2
section
variable {W : Wd}
def plugF (c : Cy) (bs : List Bk2) (s : Pr) : Bool := (towF (bookOf c bs s.1) (prT c s.1 s.2)).any fun l => ((c.row s.1).filter fun p => !decide (p = s.2)).any fun p => !standsF (bookOf c bs s.1) (plusC l s.2 p)
/-- has_plug's promise -/
def RPlug (ts : List Tv) (t : Tv) : Prop := ∃ (c : Cy) (bs : List Bk2) (s : Pr), ts = [.web c.cd (bsD bs), .d (eP s)] ∧ WOk c bs ∧ s.1 ∈ c.yards ∧ s.2 ∈ c.row s.1 ∧ t = .d (.bool (plugF c bs s))
theorem ys_mem {c : Cy} : ∀ (l : List Int) (s0 : List Pr) (s : Pr), s ∈ l.foldl (fun s y => s ++ (((c.row y).filter c.isY).map fun p => (y, p))) s0 → s ∈ s0 ∨ (s.1 ∈ l ∧ s.2 ∈ c.row s.1 ∧ c.isY s.2 = true)
  | [], s0, s, h => .inl h
  | y :: l, s0, s, h => by
    rcases ys_mem l _ s h with h | ⟨h1, h2⟩
    · rcases List.mem_append.mp h with h | h
      · exact .inl h
      · obtain ⟨p, hp, rfl⟩ := List.mem_map.mp h
        have := List.mem_filter.mp hp
        exact .inr ⟨List.mem_cons_self .., this.1, this.2⟩
    · exact .inr ⟨List.mem_cons_of_mem _ h1, h2⟩
theorem ysF_mem {c : Cy} {s : Pr} (h : s ∈ ysF c) : s.1 ∈ c.yards ∧ s.2 ∈ c.row s.1 ∧ c.isY s.2 = true := by
  rcases ys_mem c.yards [] s h with h | h
  · cases h
  · exact h
theorem ysF_fold (c : Cy) (hc : c.ok = true) : ∀ (l : List Int) (s : List Pr), (l.foldl (fun s y => s ++ (((c.row y).filter c.isY).map fun p => (y, p))) s).length ≤ s.length + 10 * l.length
  | [], s => by simp
  | y :: l, s => by
    have h := ysF_fold c hc l (s ++ (((c.row y).filter c.isY).map fun p => (y, p)))
    have h2 : ((c.row y).filter c.isY).length ≤ 10 := Nat.le_trans (List.length_filter_le _ _) (Cy.row_len hc)
    rw [List.length_append, List.length_map] at h
    rw [List.foldl_cons, List.length_cons]
    omega
theorem yards50 {c : Cy} (hc : c.ok = true) : c.yards.length ≤ 50 := by
  have := yards_len c
  simp only [Cy.ok, Bool.and_eq_true, decide_eq_true_eq] at hc
  omega
theorem ysF_len {c : Cy} (hc : c.ok = true) : (ysF c).length ≤ 500 := by
  have h := ysF_fold c hc c.yards []
  have := yards50 hc
  simp only [List.length_nil, Nat.zero_add] at h
  exact Nat.le_trans h (by omega)
def plugged (c : Cy) (bs : List Bk2) : List Pr := (ysF c).filter (plugF c bs)
theorem plugged_len {c : Cy} {bs : List Bk2} (hc : c.ok = true) : (plugged c bs).length ≤ 500 := Nat.le_trans (List.length_filter_le _ _) (ysF_len hc)
theorem ok_sides_plugged (T : Tx W) (dp : DefOk W 6 "has_plug" ["web", "side"] RPlug) : DefOk W 7 "sides_plugged" ["web"] (fun ts t => ∃ (c : Cy) (bs : List Bk2), ts = [.web c.cd (bsD bs)] ∧ WOk c bs ∧ t = .d (.list ((plugged c bs).map eP))) := by
  have d1 := ok_yard_sides T
  refine def_ok _ T.d_sides_plugged sc_sides_plugged (fun ts t h => by obtain ⟨l, b, rfl, _⟩ := h; rfl) (fun _ _ _ _ _ _ us hl => match us, hl with | [_], _ => rfl) (fun f cdv A outer s H E C ts t h => ?_)
  obtain ⟨c, bs, rfl, hw, rfl⟩ := h
  exact qb_rt (qv_new (qf_lcP C (lcM C rfl (ysF c) eP (plugF c bs) eP _ (fun p => [.fr (.web c.cd (bsD bs)), .fr (.d (eP p))]) (qi_list C rfl (qv_call C rfl d1 (ql_cons (qv_country C rfl T.prop (qv_var 0)) ql_nil) ⟨c, rfl, hw.ok, rfl⟩)) (qg_name C.blk 1)
    (fun p hp => qt_one (qb_val (qv_call C.blk rfl dp (ql_cons (qv_var 0) (ql_cons (qv_var 1) ql_nil)) ⟨c, bs, p, rfl, hw, (ysF_mem hp).1, (ysF_mem hp).2.1, rfl⟩))) (fun p _ _ => qv_var 1) (by have := ysF_len hw.ok; omega)) (own := [("side", 1)]) (fun _ => bo_by rfl))) rfl
def ybn (c : Cy) (y t : Int) : Nat := ((List.range 20).find? fun m => (ybIt c y t m).2.isEmpty).getD 0
def behind (c : Cy) (y t : Int) : List Int := ybOf c y t (ybn c y t)
/-- the ways behind are told for all sides -/
def behOk (c : Cy) : Bool := (ysF c).all fun s => ybOk c s.1 s.2 (ybn c s.1 s.2)
def commonF (c : Cy) (sides : List Pr) : List Int := c.yards.filter fun y => (sides.map fun s => decide (y ∈ behind c s.1 s.2)).all id
theorem ok_common_yards (T : Tx W) : DefOk W 3 "common_yards" ["country", "sides"] (fun ts t => ∃ (c : Cy) (sides : List Pr), ts = [.ctry c.cd, .d (.list (sides.map eP))] ∧ c.ok = true ∧ behOk c = true ∧ (∀ s ∈ sides, s ∈ ysF c) ∧ sides.length ≤ 500 ∧ t = .d (eIs (commonF c sides))) := by
  have d1 := ok_yards_behind T
  have d2 := ok_yards_in T
  refine def_ok _ T.d_common_yards sc_common_yards (fun ts t h => by obtain ⟨l, b, rfl, _⟩ := h; rfl) (fun _ _ _ _ _ _ us hl => match us, hl with | [_, _], _ => rfl) (fun f cdv A outer s H E C ts t h => ?_)
  obtain ⟨c, sides, rfl, hc, hb, hs, hl, rfl⟩ := h
  have hb' : ∀ s ∈ sides, ybOk c s.1 s.2 (ybn c s.1 s.2) = true := fun s h => List.all_eq_true.mp hb s (hs s h)
  have hyl := yards50 hc
  exact qb_cons (qs_set C 2 (qv_new (qf_lcP C (lcA C rfl sides eP (fun s => eIs (behind c s.1 s.2)) _ (fun s => [.fr (.ctry c.cd), .fr (.d (.list (sides.map eP))), .no, .fr (.d (.int s.1)), .fr (.d (.int s.2)), .no]) (qi_list C rfl (qv_var 1)) (qg_tup (n := 2) C.blk rfl (qgs_cons (qg_name C.blk 3) (qgs_cons (qg_name C.blk 4) qgs_nil)))
      (fun s hs' => qv_call C.blk rfl d1 (ql_cons (qv_var 0) (ql_cons (qv_var 3) (ql_cons (qv_var 4) ql_nil))) ⟨c, s.1, s.2, _, rfl, hb' s hs', rfl⟩) (by omega)) (own := [("yard", 3), ("target", 4)]) (fun _ => bo_by rfl))))
    (qb_rt (qv_new (qf_lcP C (lcM C rfl c.yards PyData.int (fun y => (sides.map fun s => decide (y ∈ behind c s.1 s.2)).all id) PyData.int _ (fun y => [.fr (.ctry c.cd), .fr (.d (.list (sides.map eP))), .fr (.d (.list (sides.map fun s => eIs (behind c s.1 s.2)))), .fr (.d (.int y)), .no, .no])
      (qi_list C rfl (qv_call C rfl d2 (ql_cons (qv_var 0) ql_nil) ⟨c, rfl, hc, rfl⟩)) (qg_name C.blk 3)
      (fun y _ => qt_one (qb_val (qv_all C.blk rfl T.m_all (bs := sides.map fun s => decide (y ∈ behind c s.1 s.2)) (qv_eq (qv_new (qf_lcP C.blk (lcA C.blk rfl sides (fun s => eIs (behind c s.1 s.2)) (fun s => .bool (decide (y ∈ behind c s.1 s.2))) _ (fun s => [.fr (.ctry c.cd), .fr (.d (.list (sides.map eP))), .fr (.d (.list (sides.map fun s => eIs (behind c s.1 s.2)))), .fr (.d (.int y)), .no, .fr (.d (eIs (behind c s.1 s.2)))])
        (qi_list C.blk rfl (qv_var 2)) (qg_name C.blk.blk 5) (fun s _ => qv_eq (qv_in C.blk.blk rfl (qv_var 3) (qv_var 5) (x := .int y) (ds := (behind c s.1 s.2).map PyData.int) rfl (shaped_ints _)) (by rw [any_eqv eqe_int])) (by omega)) (own := [("row", 5)]) (fun _ => bo_by rfl))) (by simp [frzO, Function.comp_def]))))) (fun y _ _ => qv_var 3) (by omega)) (own := [("yard", 3)]) (fun _ => bo_by rfl))) rfl)
end
end Lk
set_option Elab.async false
set_option linter.all false
set_option maxRecDepth 100000
set_option maxHeartbeats 2000000
/-! F3: posts, facing sides. -/
namespace Lk
open PySem PySem.Spec PyProof.Rows L2
section
variable {W : Wd}
theorem cutN {ds : List PyData} {k : Nat} (h : k ≤ ds.length) : cutD ds (some (k : Int)) none = ds.drop k := by
  have e1 : HT.sIx ds.length 0 (some (k : Int)) = k := (HT.sIx_nat ds.length 0 k).trans (Nat.min_eq_left h)
  unfold cutD
  rw [e1, HT.sIx_none]
  exact List.take_of_length_le (by rw [List.length_drop]; exact Nat.le_refl _)
/-- what a land must tell -/
def landOk (c : Cy) (bs : List Bk2) : Prop := WOk c bs ∧ behOk c = true
theorem ok_posts_of (T : Tx W) (dp : DefOk W 6 "has_plug" ["web", "side"] RPlug) : DefOk W 8 "posts_of" ["web"] (fun ts t => ∃ (c : Cy) (bs : List Bk2), ts = [.web c.cd (bsD bs)] ∧ landOk c bs ∧ t = .d (eIs (commonF c (plugged c bs)))) := by
  have d1 := ok_sides_plugged T dp
  have d2 := ok_common_yards T
  refine def_ok _ T.d_posts_of sc_posts_of (fun ts t h => by obtain ⟨l, b, rfl, _⟩ := h; rfl) (fun _ _ _ _ _ _ us hl => match us, hl with | [_], _ => rfl) (fun f cdv A outer s H E C ts t h => ?_)
  obtain ⟨c, bs, rfl, ⟨hw, hb⟩, rfl⟩ := h
  exact qb_rt (qv_call C rfl d2 (ql_cons (qv_country C rfl T.prop (qv_var 0)) (ql_cons (qv_call C rfl d1 (ql_cons (qv_var 0) ql_nil) ⟨c, bs, rfl, hw, rfl⟩) ql_nil)) ⟨c, plugged c bs, rfl, hw.ok, hb, fun s hs => (List.mem_filter.mp hs).1, plugged_len hw.ok, rfl⟩) rfl
def wbn (c : Cy) (a e : Int) : Nat := ((List.range 20).find? fun m => decide (lastI (wbIt (rowAt c.ahead e) a m) = e)).getD 0
def wayF (c : Cy) (a e : Int) : List Int := wbIt (rowAt c.ahead e) a (wbn c a e)
def facF (c : Cy) (one other : Pr) : Bool := if one.1 = other.1 then false else decide (geti (wayF c one.1 other.1) 1 = one.2) && decide (geti (wayF c one.1 other.1) (-2) = other.2)
def facOk (c : Cy) (one other : Pr) : Bool := decide (one.1 = other.1) || (wbOk c one.1 other.1 (wbn c one.1 other.1) && (atI (wayF c one.1 other.1) 1).isSome && (atI (wayF c one.1 other.1) (-2)).isSome)
theorem geti_some {row : List Int} {i : Int} (h : (atI row i).isSome = true) : atI row i = some (geti row i) := by
  unfold geti
  cases q : atI row i with
  | none => rw [q] at h; cases h
  | some r => rfl
theorem ok_are_facing (T : Tx W) : DefOk W 2 "are_facing" ["country", "one", "other"] (fun ts t => ∃ (c : Cy) (one other : Pr), ts = [.ctry c.cd, .d (eP one), .d (eP other)] ∧ facOk c one other = true ∧ t = .d (.bool (facF c one other))) := by
  have d1 := ok_way_between T
  refine def_ok _ T.d_are_facing sc_are_facing (fun ts t h => by obtain ⟨l, o, u, rfl, _⟩ := h; rfl) (fun _ _ _ _ _ _ us hl => match us, hl with | [_, _, _], _ => rfl) (fun f cdv A outer s H E C ts t h => ?_)
  obtain ⟨c, one, other, rfl, hok, rfl⟩ := h
  refine qb_ifR (m := decide (one.1 = other.1)) (qb_eq (qb_eqD C rfl (qv_ixT (d := .int one.1) C rfl (qv_var 1) qv_int rfl) (qv_ixT (d := .int other.1) C rfl (qv_var 2) qv_int rfl) rfl rfl) (eqv_int _ _)) (fun h => qb_rt qv_bl (by
    unfold facF
    rw [if_pos (of_decide_eq_true h)])) (fun h => ?_)
  have hne := of_decide_eq_false h
  simp only [facOk, Bool.or_eq_true, decide_eq_true_eq, Bool.and_eq_true] at hok
  obtain ⟨⟨h1, h2⟩, h3⟩ := hok.resolve_left hne
  exact qb_cons (qs_set C 3 (qv_call C rfl d1 (ql_cons (qv_var 0) (ql_cons (qv_ixT (d := .int one.1) C rfl (qv_var 1) qv_int rfl) (ql_cons (qv_ixT (d := .int other.1) C rfl (qv_var 2) qv_int rfl) ql_nil))) ⟨c, one.1, other.1, _, rfl, h1, rfl⟩))
    (qb_rt (qv_and (qv_eq (qv_eqD C rfl (qv_ixL C rfl (qv_var 3) qv_int (atI_map (f := PyData.int) (geti_some h2))) (qv_ixT (d := .int one.2) C rfl (qv_var 1) qv_int rfl) rfl rfl) (by rw [eqv_int])) fun _ => qv_one (qv_eq (qv_eqD C rfl (qv_ixL C rfl (qv_var 3) (qv_neg qv_int) (atI_map (f := PyData.int) (geti_some h3))) (qv_ixT (d := .int other.2) C rfl (qv_var 2) qv_int rfl) rfl rfl) (by rw [eqv_int]))) (by
      unfold facF
      rw [if_neg hne]))
def eQ (q : Pr × Pr) : PyData := .tuple [eP q.1, eP q.2]
def fpTurn (c : Cy) (sides : List Pr) (s : List (Pr × Pr)) (p : Nat × Pr) : List (Pr × Pr) := s ++ ((sides.drop (p.1 + 1)).filter (facF c p.2)).map fun o => (p.2, o)
def facPairs (c : Cy) (sides : List Pr) : List (Pr × Pr) := (zipI 0 sides).foldl (fpTurn c sides) []
theorem zipI_mem {α : Type} : ∀ (xs : List α) (i : Nat) (p : Nat × α), p ∈ zipI i xs → i ≤ p.1 ∧ p.1 < i + xs.length ∧ p.2 ∈ xs
  | [], _, _, h => by cases h
  | x :: xs, i, p, h => by
    rw [zipI, List.mem_cons] at h
    rcases h with rfl | h
    · simp
    · obtain ⟨h1, h2, h3⟩ := zipI_mem xs (i + 1) p h
      simp
      exact ⟨by omega, by omega, .inr h3⟩
theorem ok_facing_pairs (T : Tx W) : DefOk W 3 "facing_pairs" ["country", "sides"] (fun ts t => ∃ (c : Cy) (sides : List Pr), ts = [.ctry c.cd, .d (.list (sides.map eP))] ∧ (∀ a ∈ sides, ∀ b ∈ sides, facOk c a b = true) ∧ sides.length ≤ 100 ∧ t = .d (.list ((facPairs c sides).map eQ))) := by
  have d1 := ok_are_facing T
  refine def_ok _ T.d_facing_pairs sc_facing_pairs (fun ts t h => by obtain ⟨l, b, rfl, _⟩ := h; rfl) (fun _ _ _ _ _ _ us hl => match us, hl with | [_, _], _ => rfl) (fun f cdv A outer s H E C ts t h => ?_)
  obtain ⟨c, sides, rfl, hf, hl, rfl⟩ := h
  exact qb_cons (qs_own C 2 (qf_lst qd_nil))
    (qb_cons (qs_forM C rfl (zipI 0 sides) (fun p => PyData.tuple [.int (p.1 : Nat), eP p.2]) (fun s : List (Pr × Pr) => [.fr (.ctry c.cd), .fr (.d (.list (sides.map eP))), .ow (.lst (s.map eQ)), .no, .no, .no]) (fpTurn c sides) [] (fun i s => s.length ≤ 100 * i)
      (qi_enumM (xs := sides) (f := eP) C rfl T.m_enumerate (qv_var 1)) (qg_tup (n := 2) C rfl (qgs_cons (qg_name C 3) (qgs_cons (qg_name C 4) qgs_nil))) (by simp) (fun F σ H Hb E => E)
      (fun i s p hp hs => by
        have hi : i < 100 := by
          have h := (List.getElem?_eq_some_iff.mp hp).1
          rw [zipI_len] at h
          omega
        obtain ⟨_, hp1, hp2⟩ := zipI_mem sides 0 p (List.mem_of_getElem? hp)
        have hfl : ((sides.drop (p.1 + 1)).filter (facF c p.2)).length ≤ 100 := Nat.le_trans (List.length_filter_le _ _) (by rw [List.length_drop]; omega)
        have hz : (s.map eQ).length + (((sides.drop (p.1 + 1)).filter (facF c p.2)).map fun o => eQ (p.2, o)).length ≤ 100000 := by rw [List.length_map, List.length_map]; omega
        have hcut : cutD (sides.map eP) (some (((p.1 : Nat) : Int) + 1)) none = (sides.drop (p.1 + 1)).map eP := by
          have e : (((p.1 : Nat) : Int) + 1) = ((p.1 + 1 : Nat) : Int) := by omega
          rw [e, cutN (by rw [List.length_map]; omega), List.map_drop]
        refine ⟨by unfold fpTurn; rw [List.length_append, List.length_map]; omega, _, qb_cons (qs_ext C rfl 2 (qf_lcP C (lcM C rfl (sides.drop (p.1 + 1)) eP (facF c p.2) (fun o => eQ (p.2, o)) _ (fun o => [.fr (.ctry c.cd), .fr (.d (.list (sides.map eP))), .ow (.lst (s.map eQ)), .fr (.d (.int (p.1 : Nat))), .fr (.d (eP p.2)), .fr (.d (eP o))])
          (qi_list (ds := (sides.drop (p.1 + 1)).map eP) C rfl (qv_eq (qv_new (qf_slL C rfl (qv_var 1) (qp_some (qv_add (qv_var 3) qv_int)) qp_none)) (by rw [hcut]; rfl))) (qg_name C.blk 5) (fun o ho => qt_one (qb_val (qv_call C.blk rfl d1 (ql_cons (qv_var 0) (ql_cons (qv_var 4) (ql_cons (qv_var 5) ql_nil))) ⟨c, p.2, o, rfl, hf _ hp2 _ (List.mem_of_mem_drop ho), rfl⟩))) (fun o _ _ => qv_tup (qd_cons (qv_var 4) (qd_cons (qv_var 5) qd_nil))) (by rw [List.length_drop]; omega)) (own := [("other", 5)]) (fun _ => bo_by rfl)) hz (h1 := rfl)) qb_nil, fun F σ H Hb E => ?_⟩
        have E2 := (E.drop 3).drop 4
        have e : (fpTurn c sides s p).map eQ = s.map eQ ++ ((sides.drop (p.1 + 1)).filter (facF c p.2)).map fun o => eQ (p.2, o) := by simp [fpTurn]
        rw [e]
        exact E2) (fun _ _ => ⟨rfl, trivial, trivial, rfl⟩))
    (qb_frz 2 rfl (qb_rt (qv_var 2) rfl)))
theorem ok_posts (T : Tx W) (dp : DefOk W 6 "has_plug" ["web", "side"] RPlug) : DefOk W 9 "posts" ["web"] (fun ts t => ∃ (c : Cy) (bs : List Bk2), ts = [.web c.cd (bsD bs)] ∧ landOk c bs ∧ t = .d (eIs (commonF c (plugged c bs)))) := by
  have d1 := ok_want_web T
  have d2 := ok_posts_of T dp
  refine def_ok _ T.d_posts sc_posts (fun ts t h => by obtain ⟨l, b, rfl, _⟩ := h; rfl) (fun _ _ _ _ _ _ us hl => match us, hl with | [_], _ => rfl) (fun f cdv A outer s H E C ts t h => ?_)
  obtain ⟨c, bs, rfl, hw, rfl⟩ := h
  exact qb_rt (qv_call C rfl d2 (ql_cons (qv_call C rfl d1 (ql_cons (qv_var 0) ql_nil) ⟨c.cd, bsD bs, rfl, rfl⟩) ql_nil) ⟨c, bs, rfl, hw, rfl⟩) rfl
theorem ok_is_post (T : Tx W) (dp : DefOk W 6 "has_plug" ["web", "side"] RPlug) : DefOk W 9 "is_post" ["web", "yard"] (fun ts t => ∃ (c : Cy) (bs : List Bk2) (y : Int), ts = [.web c.cd (bsD bs), .d (.int y)] ∧ landOk c bs ∧ c.isY y = true ∧ t = .d (.bool (decide (y ∈ commonF c (plugged c bs))))) := by
  have d1 := ok_want_web T
  have d2 := ok_posts_of T dp
  have d3 := ok_want_yard T
  refine def_ok _ T.d_is_post sc_is_post (fun ts t h => by obtain ⟨l, b, y, rfl, _⟩ := h; rfl) (fun _ _ _ _ _ _ us hl => match us, hl with | [_, _], _ => rfl) (fun f cdv A outer s H E C ts t h => ?_)
  obtain ⟨c, bs, y, rfl, hw, hy, rfl⟩ := h
  exact qb_cons (qs_set C 2 (qv_call C rfl d1 (ql_cons (qv_var 0) ql_nil) ⟨c.cd, bsD bs, rfl, rfl⟩))
    (qb_cons (qs_expr (qv_call C rfl d3 (ql_cons (qv_country C rfl T.prop (qv_var 2)) (ql_cons (qv_var 1) ql_nil)) ⟨c, y, rfl, hy, rfl⟩))
    (qb_rt (qv_in C rfl (qv_var 1) (qv_call C rfl d2 (ql_cons (qv_var 2) ql_nil) ⟨c, bs, rfl, hw, rfl⟩) (x := .int y) (ds := (commonF c (plugged c bs)).map PyData.int) rfl (shaped_ints _)) (by rw [any_eqv eqe_int])))
theorem ok_can_be_stuck (T : Tx W) (dp : DefOk W 6 "has_plug" ["web", "side"] RPlug) : DefOk W 9 "can_be_stuck" ["web"] (fun ts t => ∃ (c : Cy) (bs : List Bk2), ts = [.web c.cd (bsD bs)] ∧ landOk c bs ∧ t = .d (.bool (commonF c (plugged c bs)).isEmpty)) := by
  have d1 := ok_want_web T
  have d2 := ok_posts_of T dp
  refine def_ok _ T.d_can_be_stuck sc_can_be_stuck (fun ts t h => by obtain ⟨l, b, rfl, _⟩ := h; rfl) (fun _ _ _ _ _ _ us hl => match us, hl with | [_], _ => rfl) (fun f cdv A outer s H E C ts t h => ?_)
  obtain ⟨c, bs, rfl, hw, rfl⟩ := h
  exact qb_rt (qv_eqD C rfl (qv_call C rfl d2 (ql_cons (qv_call C rfl d1 (ql_cons (qv_var 0) ql_nil) ⟨c.cd, bsD bs, rfl, rfl⟩) ql_nil) ⟨c, bs, rfl, hw, rfl⟩) (qv_lst qd_nil) (shaped_ints _) rfl) (by
    show Tv.d (.bool (PyData.eqv (.list ((commonF c (plugged c bs)).map PyData.int)) (.list []))) = _
    rw [eqv_nil, List.isEmpty_map])
def allFac (c : Cy) : Bool := (ysF c).all fun a => (ysF c).all fun b => facOk c a b
theorem ok_facing (T : Tx W) (dp : DefOk W 6 "has_plug" ["web", "side"] RPlug) : DefOk W 8 "facing" ["web"] (fun ts t => ∃ (c : Cy) (bs : List Bk2), ts = [.web c.cd (bsD bs)] ∧ WOk c bs ∧ allFac c = true ∧ (ysF c).length ≤ 100 ∧ t = .d (.list ((facPairs c (plugged c bs)).map eQ))) := by
  have d1 := ok_want_web T
  have d2 := ok_sides_plugged T dp
  have d3 := ok_facing_pairs T
  refine def_ok _ T.d_facing sc_facing (fun ts t h => by obtain ⟨l, b, rfl, _⟩ := h; rfl) (fun _ _ _ _ _ _ us hl => match us, hl with | [_], _ => rfl) (fun f cdv A outer s H E C ts t h => ?_)
  obtain ⟨c, bs, rfl, hw, ha, hz, rfl⟩ := h
  have hf : ∀ a ∈ plugged c bs, ∀ b ∈ plugged c bs, facOk c a b = true := fun a h1 b h2 => List.all_eq_true.mp (List.all_eq_true.mp ha a (List.mem_filter.mp h1).1) b (List.mem_filter.mp h2).1
  exact qb_cons (qs_set C 1 (qv_call C rfl d1 (ql_cons (qv_var 0) ql_nil) ⟨c.cd, bsD bs, rfl, rfl⟩))
    (qb_rt (qv_call C rfl d3 (ql_cons (qv_country C rfl T.prop (qv_var 1)) (ql_cons (qv_call C rfl d2 (ql_cons (qv_var 1) ql_nil) ⟨c, bs, rfl, hw, rfl⟩) ql_nil)) ⟨c, plugged c bs, rfl, hf, Nat.le_trans (List.length_filter_le _ _) hz, rfl⟩) rfl)
end
end Lk
set_option Elab.async false
set_option linter.all false
set_option maxRecDepth 100000
set_option maxHeartbeats 2000000
/-! F4: carts. -/
namespace Lk
open PySem PySem.Spec PyProof.Rows L2
section
variable {W : Wd}
def pairW (way : List Int) (y : Int) : Pr := (geti way ((way.idxOf y : Nat) - 1), geti way ((way.idxOf y : Nat) + 1))
def pairF (c : Cy) (k : Rw) : Pr := pairW (wayF c k.2.1 k.2.2) k.1
def nextF (c : Cy) (k : Rw) : Int := geti (rowAt c.ahead k.2.2) k.1
/-- a way, and where the yard stands on it -/
def onWay (way : List Int) (y : Int) : Bool := decide (y ∈ way) && (atI way ((way.idxOf y : Nat) - 1)).isSome && (atI way ((way.idxOf y : Nat) + 1)).isSome && decide (way.length ≤ 50)
def cartOk (c : Cy) (k : Rw) : Bool := c.isY k.1 && c.isG k.2.1 && c.isG k.2.2 && decide (k.2.1 ≠ k.2.2) && wbOk c k.2.1 k.2.2 (wbn c k.2.1 k.2.2) && onWay (wayF c k.2.1 k.2.2) k.1 && (atI c.ahead k.2.2).isSome && (atI (rowAt c.ahead k.2.2) k.1).isSome && decide (k ≠ (0, 2, 1) ∧ k ≠ (1, 2, 0)) && decide (k.1 ∈ c.yards)
theorem onWay_idx {way : List Int} {y : Int} (h : onWay way y = true) : way[way.idxOf y]? = some y ∧ (∀ m, m < way.idxOf y → way[m]? ≠ some y) ∧ atI way ((way.idxOf y : Nat) - 1) = some (pairW way y).1 ∧ atI way ((way.idxOf y : Nat) + 1) = some (pairW way y).2 := by
  simp only [onWay, Bool.and_eq_true, decide_eq_true_eq] at h
  obtain ⟨⟨⟨h1, h2⟩, h3⟩, _⟩ := h
  have hl : way.idxOf y < way.length := List.idxOf_lt_length_of_mem h1
  refine ⟨?_, fun m hm e => ?_, geti_some h2, geti_some h3⟩
  · rw [List.getElem?_eq_getElem hl]
    congr 1
    exact List.getElem_idxOf hl
  · have hm2 : m < way.length := by omega
    rw [List.getElem?_eq_getElem hm2] at e
    have e2 := Option.some.inj e
    have := List.not_of_lt_findIdx (p := (· == y)) (xs := way) (i := m) hm
    simp [e2] at this
theorem ok_pair_on (T : Tx W) : DefOk W 1 "pair_on" ["way", "yard"] (fun ts t => ∃ (way : List Int) (y : Int), ts = [.d (eIs way), .d (.int y)] ∧ onWay way y = true ∧ t = .d (eP (pairW way y))) := by
  refine def_ok _ T.d_pair_on sc_pair_on (fun ts t h => by obtain ⟨l, b, rfl, _⟩ := h; rfl) (fun _ _ _ _ _ _ us hl => match us, hl with | [_, _], _ => rfl) (fun f cdv A outer s H E C ts t h => ?_)
  obtain ⟨way, y, rfl, hw, rfl⟩ := h
  obtain ⟨h1, h2, h3, h4⟩ := onWay_idx hw
  exact qb_cons (qs_set C 2 (qv_indexL C rfl (ns := way) (qv_var 0) (qv_var 1) h1 h2))
    (qb_rt (qv_tup (qd_cons (qv_ixL C rfl (qv_var 0) (qv_sub (qv_var 2) qv_int) (atI_map (f := PyData.int) h3)) (qd_cons (qv_ixL C rfl (qv_var 0) (qv_add (qv_var 2) qv_int) (atI_map (f := PyData.int) h4)) qd_nil))) rfl)
theorem ok_way_of_cart (T : Tx W) : DefOk W 5 "way_of_cart" ["country", "value"] (fun ts t => ∃ (c : Cy) (k : Rw), ts = [.ctry c.cd, .d (e3 k)] ∧ cartOk c k = true ∧ t = .d (eIs (wayF c k.2.1 k.2.2))) := by
  have d1 := ok_is_yard T
  have d2 := ok_is_gate T
  have d3 := ok_way_between T
  refine def_ok _ T.d_way_of_cart sc_way_of_cart (fun ts t h => by obtain ⟨l, b, rfl, _⟩ := h; rfl) (fun _ _ _ _ _ _ us hl => match us, hl with | [_, _], _ => rfl) (fun f cdv A outer s H E C ts t h => ?_)
  obtain ⟨c, k, rfl, hk, rfl⟩ := h
  simp only [cartOk, Bool.and_eq_true, decide_eq_true_eq] at hk
  obtain ⟨⟨⟨⟨⟨⟨⟨⟨⟨h1, h2⟩, h3⟩, h4⟩, h5⟩, h6⟩, _⟩, _⟩, _⟩, _⟩ := hk
  have hin : k.1 ∈ wayF c k.2.1 k.2.2 := by
    simp only [onWay, Bool.and_eq_true, decide_eq_true_eq] at h6
    exact h6.1.1.1
  exact qb_guard (qb_eq (qb_w (qw_or (qb_not (qb_val (qv_isi (T0 := "tuple") (d := e3 k) C rfl T.m_isinstance T.m_tuple PyProof.Rows.boot_tuple (qv_var 1) rfl kit_tup))) fun _ => qw_or (qb_neD C rfl (qv_lenT (ds := [.int k.1, .int k.2.1, .int k.2.2]) C rfl T.m_len (qv_var 1)) qv_int rfl rfl) fun _ =>
      qw_or1 (qb_not (qb_val (qv_call C rfl d1 (ql_cons (qv_var 0) (ql_cons (qv_ixT (d := .int k.1) C rfl (qv_var 1) qv_int rfl) ql_nil)) ⟨c, k.1, rfl, rfl⟩))))) (by rw [h1]; rfl))
    (qb_cons (qs_unp (d := e3 k) (qv_var 1) (qg_tup (n := 3) C rfl (qgs_cons (qg_name C 2) (qgs_cons (qg_name C 3) (qgs_cons (qg_name C 4) qgs_nil)))) ⟨rfl, trivial, trivial, trivial, rfl⟩)
    (qb_guard (qb_eq (qb_w (qw_or (qb_not (qb_val (qv_call C rfl d2 (ql_cons (qv_var 0) (ql_cons (qv_var 3) ql_nil)) ⟨c, k.2.1, rfl, rfl⟩))) fun _ => qw_or (qb_not (qb_val (qv_call C rfl d2 (ql_cons (qv_var 0) (ql_cons (qv_var 4) ql_nil)) ⟨c, k.2.2, rfl, rfl⟩))) fun _ => qw_or1 (qb_eqD C rfl (qv_var 3) (qv_var 4) (x := .int k.2.1) (y := .int k.2.2) rfl rfl))) (by rw [h2, h3, eqv_int, decide_eq_false h4]; rfl))
    (qb_cons (qs_set C 5 (qv_call C rfl d3 (ql_cons (qv_var 0) (ql_cons (qv_var 3) (ql_cons (qv_var 4) ql_nil))) ⟨c, k.2.1, k.2.2, _, rfl, h5, rfl⟩))
    (qb_rt (qv_if (m := true) (qb_eq (qb_in C rfl (qv_var 2) (qv_var 5) (x := .int k.1) (ds := (wayF c k.2.1 k.2.2).map PyData.int) rfl (shaped_ints _)) (by rw [any_eqv eqe_int, decide_eq_true hin])) (fun _ => qv_var 5) (fun z => by cases z)) rfl))))
theorem ok_cart_next (T : Tx W) : DefOk W 2 "cart_next" ["country", "cart"] (fun ts t => ∃ (c : Cy) (k : Rw), ts = [.ctry c.cd, .d (e3 k)] ∧ (atI c.ahead k.2.2).isSome = true ∧ (atI (rowAt c.ahead k.2.2) k.1).isSome = true ∧ t = .d (.int (nextF c k))) := by
  have d1 := ok_step_towards T
  refine def_ok _ T.d_cart_next sc_cart_next (fun ts t h => by obtain ⟨l, b, rfl, _⟩ := h; rfl) (fun _ _ _ _ _ _ us hl => match us, hl with | [_, _], _ => rfl) (fun f cdv A outer s H E C ts t h => ?_)
  obtain ⟨c, k, rfl, h1, h2, rfl⟩ := h
  have hrow : atI c.ahead k.2.2 = some (rowAt c.ahead k.2.2) := by
    unfold rowAt
    cases q : atI c.ahead k.2.2 with
    | none => rw [q] at h1; cases h1
    | some r => rfl
  exact qb_rt (qv_call C rfl d1 (ql_cons (qv_var 0) (ql_cons (qv_ixT (d := .int k.1) C rfl (qv_var 1) qv_int rfl) (ql_cons (qv_ixT (d := .int k.2.2) C rfl (qv_var 1) qv_int rfl) ql_nil))) ⟨c.cd, k.1, k.2.2, c.ahead.map eIs, (rowAt c.ahead k.2.2).map PyData.int, .int (nextF c k), rfl, rfl, atI_map (f := eIs) hrow, atI_map (f := PyData.int) (geti_some h2), rfl⟩) rfl
theorem ok_cart_pair (T : Tx W) : DefOk W 2 "cart_pair" ["country", "cart"] (fun ts t => ∃ (c : Cy) (k : Rw), ts = [.ctry c.cd, .d (e3 k)] ∧ cartOk c k = true ∧ t = .d (eP (pairF c k))) := by
  have d1 := ok_pair_on T
  have d2 := ok_way_between T
  refine def_ok _ T.d_cart_pair sc_cart_pair (fun ts t h => by obtain ⟨l, b, rfl, _⟩ := h; rfl) (fun _ _ _ _ _ _ us hl => match us, hl with | [_, _], _ => rfl) (fun f cdv A outer s H E C ts t h => ?_)
  obtain ⟨c, k, rfl, hk, rfl⟩ := h
  simp only [cartOk, Bool.and_eq_true, decide_eq_true_eq] at hk
  obtain ⟨⟨⟨⟨⟨⟨⟨⟨⟨h1, h2⟩, h3⟩, h4⟩, h5⟩, h6⟩, _⟩, _⟩, _⟩, _⟩ := hk
  exact qb_rt (qv_call C rfl d1 (ql_cons (qv_call C rfl d2 (ql_cons (qv_var 0) (ql_cons (qv_ixT (d := .int k.2.1) C rfl (qv_var 1) qv_int rfl) (ql_cons (qv_ixT (d := .int k.2.2) C rfl (qv_var 1) qv_int rfl) ql_nil))) ⟨c, k.2.1, k.2.2, _, rfl, h5, rfl⟩) (ql_cons (qv_ixT (d := .int k.1) C rfl (qv_var 1) qv_int rfl) ql_nil)) ⟨wayF c k.2.1 k.2.2, k.1, rfl, h6, rfl⟩) rfl
def ldTurn (c : Cy) (y : Int) (l : List Rw) (k : Rw) : List Rw := if k.1 = y then plusC l (pairF c k).1 (pairF c k).2 else l
def loadF (c : Cy) (carts : List Rw) (y : Int) : List Rw := carts.foldl (ldTurn c y) []
theorem ldTurn_len (c : Cy) (y : Int) (l : List Rw) (k : Rw) : (ldTurn c y l k).length ≤ l.length + 1 := by
  unfold ldTurn
  split
  · exact plusC_len _ _ _
  · omega
theorem ldFold_len (c : Cy) (y : Int) : ∀ (ks : List Rw) (l : List Rw), (ks.foldl (ldTurn c y) l).length ≤ l.length + ks.length
  | [], l => by simp
  | k :: ks, l => by
    have h := ldFold_len c y ks (ldTurn c y l k)
    have h2 := ldTurn_len c y l k
    rw [List.foldl_cons, List.length_cons]
    omega
theorem ok_load_of_carts (T : Tx W) : DefOk W 3 "load_of_carts" ["country", "carts", "yard"] (fun ts t => ∃ (c : Cy) (ks : List Rw) (y : Int), ts = [.ctry c.cd, .d (eL ks), .d (.int y)] ∧ (∀ k ∈ ks, cartOk c k = true) ∧ ks.length ≤ 900 ∧ t = .d (eL (loadF c ks y))) := by
  have d1 := ok_cart_pair T
  have d2 := ok_plus_cart T
  refine def_ok _ T.d_load_of_carts sc_load_of_carts (fun ts t h => by obtain ⟨l, b, y, rfl, _⟩ := h; rfl) (fun _ _ _ _ _ _ us hl => match us, hl with | [_, _, _], _ => rfl) (fun f cdv A outer s H E C ts t h => ?_)
  obtain ⟨c, ks, y, rfl, hk, hl, rfl⟩ := h
  let env : List Rw → List Sl := fun l => [.fr (.ctry c.cd), .fr (.d (eL ks)), .fr (.d (.int y)), .fr (.d (eL l)), .no, .no, .no]
  exact qb_cons (qs_set C 3 (qv_lst qd_nil))
    (qb_cons (qs_forM C rfl ks e3 env (ldTurn c y) [] (fun i l => l.length ≤ i) (qi_list C rfl (qv_var 1)) (qg_name C 4) (by simp) (fun F σ H Hb E => E)
      (fun i l k hki hli => ⟨by have := ldTurn_len c y l k; omega, by
        have hi : i < 900 := by
          have h := (List.getElem?_eq_some_iff.mp hki).1
          omega
        by_cases hy : k.1 = y
        · refine ⟨_, qb_cons (qs_if (m := true) (o := .nx [.fr (.ctry c.cd), .fr (.d (eL ks)), .fr (.d (.int y)), .fr (.d (eL (plusC l (pairF c k).1 (pairF c k).2))), .fr (.d (e3 k)), .fr (.d (.int (pairF c k).1)), .fr (.d (.int (pairF c k).2))]) (qb_eq (qb_eqD C rfl (qv_ixT (d := .int k.1) C rfl (qv_var 4) qv_int rfl) (qv_var 2) rfl rfl) (by rw [eqv_int, decide_eq_true hy]))
              (fun _ => qb_cons (qs_unp (d := eP (pairF c k)) (qv_call C rfl d1 (ql_cons (qv_var 0) (ql_cons (qv_var 4) ql_nil)) ⟨c, k, rfl, hk k (List.mem_of_getElem? hki), rfl⟩) (qg_tup (n := 2) C rfl (qgs_cons (qg_name C 5) (qgs_cons (qg_name C 6) qgs_nil))) ⟨rfl, trivial, trivial, rfl⟩)
                (qb_cons (qs_set C 3 (qv_call C rfl d2 (ql_cons (qv_var 3) (ql_cons (qv_var 5) (ql_cons (qv_var 6) ql_nil))) ⟨l, (pairF c k).1, (pairF c k).2, rfl, by omega, rfl⟩)) qb_nil)) (fun z => by cases z)) qb_nil, fun F σ H Hb E => ?_⟩
          have e : ldTurn c y l k = plusC l (pairF c k).1 (pairF c k).2 := by unfold ldTurn; rw [if_pos hy]
          rw [e]
          exact ((E.drop 4).drop 5).drop 6
        · refine ⟨_, qb_cons (qs_if (m := false) (o := .nx ((env l).set 4 (.fr (.d (e3 k))))) (qb_eq (qb_eqD C rfl (qv_ixT (d := .int k.1) C rfl (qv_var 4) qv_int rfl) (qv_var 2) rfl rfl) (by rw [eqv_int, decide_eq_false hy])) (fun z => by cases z) (fun _ => qb_nil)) qb_nil, fun F σ H Hb E => ?_⟩
          have e : ldTurn c y l k = l := by unfold ldTurn; rw [if_neg hy]
          rw [e]
          exact E.drop 4⟩))
    (qb_rt (qv_var 3) rfl))
theorem ok_on_of (T : Tx W) : DefOk W 1 "on_of" ["cart"] (fun ts t => ∃ (k : Rw), ts = [.d (e3 k)] ∧ t = .d (.tuple [.str "on", .int k.1, .int k.2.1, .int k.2.2])) := by
  refine def_ok _ T.d_on_of sc_on_of (fun ts t h => by obtain ⟨l, rfl, _⟩ := h; rfl) (fun _ _ _ _ _ _ us hl => match us, hl with | [_], _ => rfl) (fun f cdv A outer s H E C ts t h => ?_)
  obtain ⟨k, rfl, rfl⟩ := h
  exact qb_rt (qv_tup (qd_cons qv_str (qd_cons (qv_ixT (d := .int k.1) C rfl (qv_var 0) qv_int rfl) (qd_cons (qv_ixT (d := .int k.2.1) C rfl (qv_var 0) qv_int rfl) (qd_cons (qv_ixT (d := .int k.2.2) C rfl (qv_var 0) qv_int rfl) qd_nil))))) rfl
end
end Lk
set_option Elab.async false
set_option linter.all false
set_option maxRecDepth 100000
set_option maxHeartbeats 2000000
/-! F5: stands told. -/
namespace Lk
open PySem PySem.Spec PyProof.Rows L2
section
variable {W : Wd}
abbrev KL := List (Int × List Rw)
def getL (kvs : KL) (i : Int) : Option (List Rw) := (kvs.find? fun q => decide (q.1 = i)).map (·.2)
def putL (kvs : KL) (i : Int) (x : List Rw) : KL := if (kvs.any fun q => decide (q.1 = i)) = true then kvs.map (fun q => if q.1 = i then (q.1, x) else q) else kvs ++ [(i, x)]
def eKL (kvs : KL) : List (Int × PyData) := kvs.map fun p => (p.1, eL p.2)
theorem dget_eKL (i : Int) : ∀ kvs : KL, dget (eKL kvs) i = (getL kvs i).map eL
  | [] => rfl
  | p :: kvs => by
    have ih := dget_eKL i kvs
    unfold dget getL eKL at ih ⊢
    rw [List.map_cons, List.find?_cons, List.find?_cons]
    by_cases h : p.1 = i
    · simp [h]
    · simp only [h, decide_false]
      exact ih
theorem dput_eKL (kvs : KL) (i : Int) (x : List Rw) : dput (eKL kvs) i (eL x) = eKL (putL kvs i x) := by
  have ha : ((eKL kvs).any fun q => decide (q.1 = i)) = kvs.any fun q => decide (q.1 = i) := by
    unfold eKL
    rw [List.any_map]
    rfl
  unfold dput putL
  rw [ha]
  split
  · unfold eKL
    rw [List.map_map, List.map_map]
    refine List.map_congr_left fun p _ => ?_
    simp only [Function.comp]
    split <;> rfl
  · simp [eKL]
theorem putL_len (kvs : KL) (i : Int) (x : List Rw) : (putL kvs i x).length ≤ kvs.length + 1 := by
  unfold putL
  split <;> simp
def ldsTurn (c : Cy) (kvs : KL) (k : Rw) : KL := putL kvs k.1 (plusC ((getL kvs k.1).getD []) (pairF c k).1 (pairF c k).2)
def ldsF (c : Cy) (carts : List Rw) : KL := carts.foldl (ldsTurn c) []
theorem getL_len {kvs : KL} {i : Int} {n : Nat} (h : ∀ p ∈ kvs, p.2.length ≤ n) : ((getL kvs i).getD []).length ≤ n := by
  unfold getL
  cases e : kvs.find? fun q => decide (q.1 = i) with
  | none => simp
  | some p => exact h p (List.mem_of_find?_eq_some e)
theorem putL_small {kvs : KL} {i : Int} {x : List Rw} {n : Nat} (h : ∀ p ∈ kvs, p.2.length ≤ n) (hx : x.length ≤ n) : ∀ p ∈ putL kvs i x, p.2.length ≤ n := fun p hp => by
  unfold putL at hp
  split at hp
  · obtain ⟨q, hq, rfl⟩ := List.mem_map.mp hp
    split
    · exact hx
    · exact h q hq
  · rcases List.mem_append.mp hp with hp | hp
    · exact h p hp
    · rw [List.mem_singleton.mp hp]; exact hx
/-- a stand, for the package -/
structure StOk (c : Cy) (bs : List Bk2) (ks : List Rw) : Prop where
  few : ks.length ≤ 42
  ck : ∀ k ∈ ks, cartOk c k = true
  ld : ∀ y l, getL (ldsF c ks) y = some l → y ∈ c.yards ∧ l.length ≤ 1000 ∧ standsF (bookOf c bs y) l = true
theorem bookOf_small {c : Cy} {bs : List Bk2} {y : Int} (hw : WOk c bs) (hy : y ∈ c.yards) : bkSmall (bookOf c bs y) = true := by
  have h := hw.w
  simp only [websOk, Bool.and_eq_true, List.all_eq_true, decide_eq_true_eq] at h
  obtain ⟨b1, _, b3⟩ := bookOf_at hy hw.len
  have hz : (c.yards.zip bs)[c.yards.idxOf y]? = some (y, bookOf c bs y) := by rw [List.getElem?_zip_eq_some]; exact ⟨b1, b3⟩
  have hb := h.2 _ (List.mem_of_getElem? hz)
  simp only [bookOk, Bool.and_eq_true, List.all_eq_true, decide_eq_true_eq] at hb
  exact aOk_small hb.1.2 hb.1.1.2.2
theorem keys_get {kvs : KL} {y : Int} (h : y ∈ kvs.map (·.1)) : ∃ l, getL kvs y = some l := by
  obtain ⟨p, hp, rfl⟩ := List.mem_map.mp h
  unfold getL
  cases e : kvs.find? fun q => decide (q.1 = p.1) with
  | none => exact absurd (List.find?_eq_none.mp e p hp) (by simp)
  | some q => exact ⟨q.2, rfl⟩
theorem ok_stand_in (T : Tx W) : DefOk W 6 "stand_in" ["web", "value"] (fun ts t => ∃ (c : Cy) (bs : List Bk2) (ks : List Rw), ts = [.web c.cd (bsD bs), .d (eL ks)] ∧ WOk c bs ∧ StOk c bs ks ∧ t = .d (eL (sort3 ks))) := by
  have d0 := ok_is_list T
  have d1 := ok_way_of_cart T
  have d2 := ok_pair_on T
  have d3 := ok_plus_cart T
  have d4 := ok_stands_by T
  have d5 := ok_book_at T
  refine def_ok _ T.d_stand_in sc_stand_in (fun ts t h => by obtain ⟨l, b, y, rfl, _⟩ := h; rfl) (fun _ _ _ _ _ _ us hl => match us, hl with | [_, _], _ => rfl) (fun f cdv A outer s H E C ts t h => ?_)
  obtain ⟨c, bs, ks, rfl, hw, hs, rfl⟩ := h
  have hfew := hs.few
  let env : KL → List Sl := fun kvs => [.fr (.web c.cd (bsD bs)), .fr (.d (eL ks)), .fr (.ctry c.cd), .ow (.dct (eKL kvs)), .no, .no, .no, .no, .no]
  have hfold : (ldsF c ks).length ≤ 42 := by
    have : ∀ (ks : List Rw) (kvs : KL), (ks.foldl (ldsTurn c) kvs).length ≤ kvs.length + ks.length := by
      intro ks
      induction ks with
      | nil => intro kvs; simp
      | cons k ks ih =>
        intro kvs
        have h := ih (ldsTurn c kvs k)
        have h2 := putL_len kvs k.1 (plusC ((getL kvs k.1).getD []) (pairF c k).1 (pairF c k).2)
        rw [List.foldl_cons, List.length_cons]
        unfold ldsTurn at h ⊢
        omega
    have h := this ks []
    simp only [List.length_nil] at h
    exact Nat.le_trans h (by omega)
  have hkeys : (eKL (ldsF c ks)).map (·.1) = (ldsF c ks).map (·.1) := by simp [eKL]
  have hperm : (sortI ((ldsF c ks).map (·.1))).Perm ((eKL (ldsF c ks)).map (·.1)) := by rw [hkeys]; exact List.mergeSort_perm _ _
  have hpair : (sortI ((ldsF c ks).map (·.1))).Pairwise (· ≤ ·) := by
    have h := List.pairwise_mergeSort (le := fun a b : Int => decide (a ≤ b)) (fun a b c h1 h2 => by simp at *; omega) (fun a b => by simp; omega) ((ldsF c ks).map (·.1))
    exact h.imp fun h => of_decide_eq_true h
  have hin : ∀ y ∈ sortI ((ldsF c ks).map (·.1)), ∃ l, getL (ldsF c ks) y = some l := fun y hy => keys_get ((List.mergeSort_perm _ _).mem_iff.mp hy)
  exact qb_guard (qb_eq (qb_w (qw_or (qb_not (qb_val (qv_call C rfl d0 (ql_cons (qv_var 1) ql_nil) ⟨_, rfl, rfl, rfl⟩))) fun _ => qw_or1 (qb_gt (qv_lenL (ds := ks.map e3) C rfl T.m_len (qv_var 1)) (qv_glob C T.c_MOST_CARTS)))) (by
      rw [List.length_map, decide_eq_false (show ¬ (42 : Int) < (ks.length : Int) by omega)]
      rfl))
    (qb_cons (qs_par C (i := 2) (j := 3) (qm_fr (qv_country C rfl T.prop (qv_var 0)) (qm_ow qf_dct0 qm_nil)))
    (qb_cons (qs_forM C rfl ks e3 env (ldsTurn c) [] (fun i kvs => kvs.length ≤ i ∧ ∀ p ∈ kvs, p.2.length ≤ i) (qi_list (ds := ks.map e3) C rfl (qv_var 1)) (qg_name C 4) ⟨by simp, fun p hp => by cases hp⟩ (fun F σ H Hb E => E)
      (fun i kvs k hk hkv => by
        have hi : i < 42 := by
          have h := (List.getElem?_eq_some_iff.mp hk).1
          omega
        have hck := hs.ck k (List.mem_of_getElem? hk)
        have how : onWay (wayF c k.2.1 k.2.2) k.1 = true := by
          simp only [cartOk, Bool.and_eq_true, decide_eq_true_eq] at hck
          exact hck.1.1.1.1.2
        have hgl := getL_len (i := k.1) hkv.2
        have hg : (dget (eKL kvs) k.1).getD (.list []) = eL ((getL kvs k.1).getD []) := by
          rw [dget_eKL]
          cases getL kvs k.1 <;> rfl
        have hlen : (eKL kvs).length < 1000 := by
          have := hkv.1
          unfold eKL
          rw [List.length_map]
          omega
        refine ⟨⟨by have := putL_len kvs k.1 (plusC ((getL kvs k.1).getD []) (pairF c k).1 (pairF c k).2); have := hkv.1; unfold ldsTurn; omega, putL_small (fun p hp => by have := hkv.2 p hp; omega) (by have := plusC_len ((getL kvs k.1).getD []) (pairF c k).1 (pairF c k).2; omega)⟩, _,
          qb_cons (qs_set C 5 (qv_call C rfl d1 (ql_cons (qv_var 2) (ql_cons (qv_var 4) ql_nil)) ⟨c, k, rfl, hck, rfl⟩))
          (qb_guard (qb_eq (qb_isN (qv_var 5)) rfl)
          (qb_cons (qs_unp (d := eP (pairF c k)) (qv_call C rfl d2 (ql_cons (qv_var 5) (ql_cons (qv_ixT (d := .int k.1) C rfl (qv_var 4) qv_int rfl) ql_nil)) ⟨_, k.1, rfl, how, rfl⟩) (qg_tup (n := 2) C rfl (qgs_cons (qg_name C 6) (qgs_cons (qg_name C 7) qgs_nil))) ⟨rfl, trivial, trivial, rfl⟩)
          (qb_cons (qs_dput (kvs := eKL kvs) C 3 (qv_call C rfl d3 (ql_cons (qv_eq (qv_dgetO (kvs := eKL kvs) C 3 (qv_ixT (d := .int k.1) C rfl (qv_var 4) qv_int rfl) (qv_lst qd_nil) (h1 := rfl)) (by rw [hg])) (ql_cons (qv_var 6) (ql_cons (qv_var 7) ql_nil))) ⟨(getL kvs k.1).getD [], (pairF c k).1, (pairF c k).2, rfl, by omega, rfl⟩) (qv_ixT (d := .int k.1) C rfl (qv_var 4) qv_int rfl) hlen) qb_nil))), fun F σ H Hb E => ?_⟩
        have E2 := (((E.drop 4).drop 5).drop 6).drop 7
        show EnvOk _ _ [_, _, _, .ow (.dct (eKL (ldsTurn c kvs k))), _, _, _, _, _] _ _ _
        unfold ldsTurn
        rw [← dput_eKL]
        exact E2))
    (qb_frz 3 rfl
    (qb_cons (qs_forN C rfl (sortI ((ldsF c ks).map (·.1))) PyData.int (fun _ : Unit => [.fr (.web c.cd (bsD bs)), .fr (.d (eL ks)), .fr (.ctry c.cd), .fr (.dct (eKL (ldsF c ks))), .no, .no, .no, .no, .no]) (fun _ _ => ()) () (fun _ => True) (qi_list C rfl (qv_new (qf_sortedDI C T.m_sorted (qv_var 3) hperm hpair (by unfold eKL; rw [List.length_map]; omega)))) (qg_name C 8) trivial (fun F σ H Hb E => E)
      (fun _ y hy _ => ⟨trivial, by
        obtain ⟨l, hl⟩ := hin y hy
        obtain ⟨hyY, hll, hst⟩ := hs.ld y l hl
        obtain ⟨b1, b2, b3⟩ := bookOf_at hyY hw.len
        have hdg : dget (eKL (ldsF c ks)) y = some (eL l) := by rw [dget_eKL, hl]; rfl
        exact ⟨_, qb_cons (qs_if (m := false) (o := .nx [.fr (.web c.cd (bsD bs)), .fr (.d (eL ks)), .fr (.ctry c.cd), .fr (.dct (eKL (ldsF c ks))), .no, .no, .no, .no, .fr (.d (.int y))]) (qb_eq (qb_not (qb_val (qv_call C rfl d4 (ql_cons (qv_call C rfl d5 (ql_cons (qv_var 0) (ql_cons (qv_var 8) ql_nil)) ⟨c, bs, y, c.yards.idxOf y, bookOf c bs y, rfl, hw.ok, b1, b2, b3, rfl⟩) (ql_cons (qv_dget (d := eL l) C (qv_var 3) (qv_var 8) hdg) ql_nil)) ⟨bookOf c bs y, l, rfl, bookOf_small hw hyY, hll, rfl⟩))) (by rw [hst]; rfl)) (fun z => by cases z) (fun _ => qb_nil)) qb_nil, fun F σ H Hb E => E.drop 8⟩⟩))
    (qb_rt (qv_new (qf_sorted (ds := ks.map e3) C rfl T.m_sorted (qv_var 1) (allAlike_3 _) (sortable_3 _) (d8_3 _))) (by rw [sort_3]; rfl))))))
theorem ok_want_stand (T : Tx W) : DefOk W 7 "want_stand" ["web", "value"] (fun ts t => ∃ (c : Cy) (bs : List Bk2) (ks : List Rw), ts = [.web c.cd (bsD bs), .d (eL ks)] ∧ WOk c bs ∧ StOk c bs ks ∧ t = .d (eL (sort3 ks))) := by
  have d0 := ok_stand_in T
  refine def_ok _ T.d_want_stand sc_want_stand (fun ts t h => by obtain ⟨l, b, y, rfl, _⟩ := h; rfl) (fun _ _ _ _ _ _ us hl => match us, hl with | [_, _], _ => rfl) (fun f cdv A outer s H E C ts t h => ?_)
  obtain ⟨c, bs, ks, rfl, hw, hs, rfl⟩ := h
  exact qb_cons (qs_set C 2 (qv_call C rfl d0 (ql_cons (qv_var 0) (ql_cons (qv_var 1) ql_nil)) ⟨c, bs, ks, rfl, hw, hs, rfl⟩)) (qb_guard (qb_eq (qb_isN (qv_var 2)) rfl) (qb_rt (qv_var 2) rfl))
theorem ok_is_stand (T : Tx W) : DefOk W 7 "is_stand" ["web", "value"] (fun ts t => ∃ (c : Cy) (bs : List Bk2) (ks : List Rw), ts = [.web c.cd (bsD bs), .d (eL ks)] ∧ WOk c bs ∧ StOk c bs ks ∧ t = .d (.bool true)) := by
  have d0 := ok_stand_in T
  have d1 := ok_want_web T
  refine def_ok _ T.d_is_stand sc_is_stand (fun ts t h => by obtain ⟨l, b, y, rfl, _⟩ := h; rfl) (fun _ _ _ _ _ _ us hl => match us, hl with | [_, _], _ => rfl) (fun f cdv A outer s H E C ts t h => ?_)
  obtain ⟨c, bs, ks, rfl, hw, hs, rfl⟩ := h
  exact qb_rt (qv_notN (qv_call C rfl d0 (ql_cons (qv_call C rfl d1 (ql_cons (qv_var 0) ql_nil) ⟨c.cd, bsD bs, rfl, rfl⟩) (ql_cons (qv_var 1) ql_nil)) ⟨c, bs, ks, rfl, hw, hs, rfl⟩)) rfl
end
end Lk
set_option Elab.async false
set_option linter.all false
set_option maxRecDepth 100000
set_option maxHeartbeats 2000000
/-! F6: steps. -/
namespace Lk
open PySem PySem.Spec PyProof.Rows L2
section
variable {W : Wd}
def eOL : Option (List Rw) → PyData
  | none => .none
  | some l => eL l
def comeF (c : Cy) (bs : List Bk2) (left : List Rw) (k : Rw) : Option (List Rw) := if standsF (bookOf c bs k.1) (plusC (loadF c left k.1) (pairF c k).1 (pairF c k).2) = true then some (sort3 (left ++ [k])) else none
theorem yard_of {c : Cy} {k : Rw} (h : cartOk c k = true) : k.1 ∈ c.yards := by
  simp only [cartOk, Bool.and_eq_true, decide_eq_true_eq] at h
  exact h.2
theorem ok_come_to (T : Tx W) : DefOk W 4 "come_to" ["web", "left", "cart"] (fun ts t => ∃ (c : Cy) (bs : List Bk2) (left : List Rw) (k : Rw), ts = [.web c.cd (bsD bs), .d (eL left), .d (e3 k)] ∧ WOk c bs ∧ (∀ q ∈ left, cartOk c q = true) ∧ cartOk c k = true ∧ left.length ≤ 800 ∧ t = .d (eOL (comeF c bs left k))) := by
  have d1 := ok_cart_pair T
  have d2 := ok_load_of_carts T
  have d3 := ok_plus_cart T
  have d4 := ok_stands_by T
  have d5 := ok_book_at T
  refine def_ok _ T.d_come_to sc_come_to (fun ts t h => by obtain ⟨l, b, y, u, rfl, _⟩ := h; rfl) (fun _ _ _ _ _ _ us hl => match us, hl with | [_, _, _], _ => rfl) (fun f cdv A outer s H E C ts t h => ?_)
  obtain ⟨c, bs, left, k, rfl, hw, hl, hk, hn, rfl⟩ := h
  have hy := yard_of hk
  obtain ⟨b1, b2, b3⟩ := bookOf_at hy hw.len
  have hll := ldFold_len c k.1 left []
  have hll2 : (loadF c left k.1).length ≤ 800 := by unfold loadF; simp at hll; omega
  have hz : (left.map e3).length + ([e3 k] : List PyData).length ≤ 100000 := by rw [List.length_map]; simp; omega
  have hcat : left.map e3 ++ [e3 k] = (left ++ [k]).map e3 := by simp
  exact qb_cons (qs_par C (i := 3) (j := 4) (qm_fr (qv_country C rfl T.prop (qv_var 0)) (qm_fr (qv_ixT (d := .int k.1) C rfl (qv_var 2) qv_int rfl) qm_nil)))
    (qb_cons (qs_unp (d := eP (pairF c k)) (qv_call C rfl d1 (ql_cons (qv_var 3) (ql_cons (qv_var 2) ql_nil)) ⟨c, k, rfl, hk, rfl⟩) (qg_tup (n := 2) C rfl (qgs_cons (qg_name C 5) (qgs_cons (qg_name C 6) qgs_nil))) ⟨rfl, trivial, trivial, rfl⟩)
    (qb_cons (qs_set C 7 (qv_call C rfl d3 (ql_cons (qv_call C rfl d2 (ql_cons (qv_var 3) (ql_cons (qv_var 1) (ql_cons (qv_var 4) ql_nil))) ⟨c, left, k.1, rfl, hl, by omega, rfl⟩) (ql_cons (qv_var 5) (ql_cons (qv_var 6) ql_nil))) ⟨loadF c left k.1, (pairF c k).1, (pairF c k).2, rfl, by omega, rfl⟩))
    (qb_rt (qv_if (m := standsF (bookOf c bs k.1) (plusC (loadF c left k.1) (pairF c k).1 (pairF c k).2)) (t := .d (eOL (comeF c bs left k))) (qb_val (qv_call C rfl d4 (ql_cons (qv_call C rfl d5 (ql_cons (qv_var 0) (ql_cons (qv_var 4) ql_nil)) ⟨c, bs, k.1, c.yards.idxOf k.1, bookOf c bs k.1, rfl, hw.ok, b1, b2, b3, rfl⟩) (ql_cons (qv_var 7) ql_nil)) ⟨_, _, rfl, bookOf_small hw hy, by have := plusC_len (loadF c left k.1) (pairF c k).1 (pairF c k).2; omega, rfl⟩))
      (fun h => qv_eq (qv_new (qf_sorted (ds := (left ++ [k]).map e3) C rfl T.m_sorted (qv_eq (qv_new (qf_catL C rfl (qv_var 1) (qv_lst (qd_cons (qv_var 2) qd_nil)) hz)) (by rw [← hcat]; rfl)) (allAlike_3 _) (sortable_3 _) (d8_3 _))) (by rw [sort_3]; unfold comeF; rw [if_pos h]; rfl))
      (fun h => qv_eq qv_non (by unfold comeF; rw [h]; rfl))) rfl)))
/-- the step on -/
def onF (c : Cy) (k : Rw) : Rw := (nextF c k, k.2.1, k.2.2)
def behF (c : Cy) (bs : List Bk2) (stand : List Rw) (k : Rw) : Option (List Rw) := if nextF c k = k.2.2 then some (stand.erase k) else comeF c bs (stand.erase k) (onF c k)
/-- a cart that may go on -/
def goOk (c : Cy) (k : Rw) : Bool := cartOk c k && (decide (nextF c k = k.2.2) || cartOk c (onF c k))
theorem noway_k {k : Rw} (h1 : k ≠ (0, 2, 1)) (h2 : k ≠ (1, 2, 0)) : NoWay [.int k.1, .int k.2.1, .int k.2.2] := by
  intro w hw e
  have hl := congrArg List.length e
  rw [List.length_map] at hl
  simp only [ways10, List.mem_cons, List.not_mem_nil, or_false] at hw
  obtain ⟨a, b, d⟩ := k
  rcases hw with rfl | rfl | rfl | rfl | rfl | rfl | rfl | rfl | rfl | rfl <;> simp at hl e
  · exact h1 (by rw [e.1, e.2.1, e.2.2])
  · exact h2 (by rw [e.1, e.2.1, e.2.2])
theorem erase_idx {α : Type} [BEq α] [LawfulBEq α] (a : α) : ∀ l : List α, l.erase a = l.eraseIdx (l.idxOf a) := fun l => by
  rw [List.erase_eq_eraseIdx_of_idxOf rfl]
theorem idx_e3 {stand : List Rw} {k : Rw} (h : k ∈ stand) : (stand.map e3)[stand.idxOf k]? = some (e3 k) ∧ ∀ (m : Nat) (z : PyData), m < stand.idxOf k → (stand.map e3)[m]? = some z → PyData.eqv z (e3 k) = false := by
  have hl : stand.idxOf k < stand.length := List.idxOf_lt_length_of_mem h
  refine ⟨?_, fun m z hm hz => ?_⟩
  · rw [List.getElem?_map, List.getElem?_eq_getElem hl, List.getElem_idxOf hl]
    rfl
  · rw [List.getElem?_map, List.getElem?_eq_getElem (by omega)] at hz
    cases hz
    rw [eqe_3, decide_eq_false_iff_not]
    intro e2
    have := List.not_of_lt_findIdx (p := (· == k)) (xs := stand) (i := m) hm
    simp [e2] at this
theorem eraseIdx_map {α β : Type} (f : α → β) : ∀ (l : List α) (i : Nat), (l.map f).eraseIdx i = (l.eraseIdx i).map f
  | [], _ => rfl
  | _ :: _, 0 => rfl
  | a :: l, i + 1 => by
    rw [List.map_cons, List.eraseIdx_cons_succ, List.eraseIdx_cons_succ, List.map_cons, eraseIdx_map f l i]
theorem shL (l : List Rw) : SeqAt.shaped (.list (l.map e3)) = true := shaped_sm ⟨(sz_L l).1, Nat.le_trans (sz_L l).2 (by decide)⟩
theorem ok_stand_behind (T : Tx W) : DefOk W 5 "stand_behind" ["web", "stand", "step"] (fun ts t => ∃ (c : Cy) (bs : List Bk2) (st : List Rw) (k : Rw), ts = [.web c.cd (bsD bs), .d (eL st), .d (.tuple [.str "on", .int k.1, .int k.2.1, .int k.2.2])] ∧ WOk c bs ∧ (∀ q ∈ st, goOk c q = true) ∧ k ∈ st ∧ st.length ≤ 800 ∧ t = .d (eOL (behF c bs st k))) := by
  have d1 := ok_come_to T
  have d2 := ok_cart_next T
  refine def_ok _ T.d_stand_behind sc_stand_behind (fun ts t h => by obtain ⟨l, b, y, u, rfl, _⟩ := h; rfl) (fun _ _ _ _ _ _ us hl => match us, hl with | [_, _, _], _ => rfl) (fun f cdv A outer s H E C ts t h => ?_)
  obtain ⟨c, bs, st, k, rfl, hw, hgo, hk, hn, rfl⟩ := h
  have hgk := hgo k hk
  simp only [goOk, Bool.and_eq_true, Bool.or_eq_true, decide_eq_true_eq] at hgk
  obtain ⟨hck, hnx⟩ := hgk
  have hck2 := hck
  simp only [cartOk, Bool.and_eq_true, decide_eq_true_eq] at hck2
  have hnw := noway_k hck2.1.2.1 hck2.1.2.2
  have hcut : cutD [PyData.str "on", .int k.1, .int k.2.1, .int k.2.2] (some 1) none = [.int k.1, .int k.2.1, .int k.2.2] := by
    rw [cut1 (by simp)]
    rfl
  obtain ⟨i1, i2⟩ := idx_e3 hk
  have hre : (st.map e3).eraseIdx (st.idxOf k) = (st.erase k).map e3 := by rw [eraseIdx_map, erase_idx]
  have hlen : (st.erase k).length ≤ 800 := Nat.le_trans (List.length_erase_le ..) hn
  have hleft : ∀ q ∈ st.erase k, cartOk c q = true := fun q hq => by
    have h := hgo q (List.mem_of_mem_erase hq)
    simp only [goOk, Bool.and_eq_true] at h
    exact h.1
  refine qb_cons (qs_set C 3 (qv_country C rfl T.prop (qv_var 0)))
    (qb_guard (qb_eq (qb_eqD C rfl (qv_ixT (d := .str "on") C rfl (qv_var 2) qv_int rfl) qv_str (by decide +kernel) (by decide +kernel)) (by decide +kernel))
    (qb_cons (qs_set C 4 (qv_eq (t1 := .d (e3 k)) (qv_slT (ds := [.str "on", .int k.1, .int k.2.1, .int k.2.2]) C rfl (qv_var 2) (qp_some qv_int) qp_none (by rw [hcut]; exact hnw)) (by rw [hcut]; rfl)))
    (qb_guard (qb_eq (qb_nin C rfl (qv_var 4) (qv_var 1) (x := e3 k) (ds := st.map e3) rfl (shL st)) (by rw [any_eqv eqe_3]; simp [hk]))
    (qb_cons (qs_own C 5 (qf_listL (ds := st.map e3) C rfl T.m_list (qv_var 1)))
    (qb_cons (qs_remove (ds := st.map e3) (d := e3 k) (z := e3 k) (j := st.idxOf k) C rfl 5 (qv_var 4) (shL st) rfl i1 (by rw [eqe_3]; simp) i2)
    (qb_cons (qs_set C 6 (qv_call C rfl d2 (ql_cons (qv_var 3) (ql_cons (qv_var 4) ql_nil)) ⟨c, k, rfl, hck2.1.1.1.2, hck2.1.1.2, rfl⟩))
    (qb_frz 5 rfl ?_)))))))
  rw [hre]
  by_cases hx : nextF c k = k.2.2
  · exact qb_rt (qv_if (m := true) (t := .d (eOL (behF c bs st k))) (qb_eq (qb_eqD C rfl (qv_var 6) (qv_ixT (d := .int k.2.2) C rfl (qv_var 4) qv_int rfl) rfl rfl) (by rw [eqv_int, decide_eq_true hx])) (fun _ => qv_eq (qv_var 5) (by unfold behF; rw [if_pos hx]; rfl)) (fun z => by cases z)) rfl
  · exact qb_rt (qv_if (m := false) (t := .d (eOL (behF c bs st k))) (qb_eq (qb_eqD C rfl (qv_var 6) (qv_ixT (d := .int k.2.2) C rfl (qv_var 4) qv_int rfl) rfl rfl) (by rw [eqv_int, decide_eq_false hx])) (fun z => by cases z) (fun _ => qv_eq (qv_call C rfl d1 (ql_cons (qv_var 0) (ql_cons (qv_var 5) (ql_cons (qv_tup (qd_cons (qv_var 6) (qd_cons (qv_ixT (d := .int k.2.1) C rfl (qv_var 4) qv_int rfl) (qd_cons (qv_ixT (d := .int k.2.2) C rfl (qv_var 4) qv_int rfl) qd_nil)))) ql_nil))) ⟨c, bs, st.erase k, onF c k, rfl, hw, hleft, hnx.resolve_left hx, hlen, rfl⟩) (by unfold behF; rw [if_neg hx]))) rfl
def kindsF (st : List Rw) : List Rw := ((zipI 0 st).filter fun p => decide (p.1 = 0) || !decide (st[p.1 - 1]? = some p.2)).map (·.2)
theorem ok_kinds_of (T : Tx W) : DefOk W 1 "kinds_of" ["stand"] (fun ts t => ∃ (st : List Rw), ts = [.d (eL st)] ∧ st.length ≤ 800 ∧ t = .d (eL (kindsF st))) := by
  refine def_ok _ T.d_kinds_of sc_kinds_of (fun ts t h => by obtain ⟨l, rfl, _⟩ := h; rfl) (fun _ _ _ _ _ _ us hl => match us, hl with | [_], _ => rfl) (fun f cdv A outer s H E C ts t h => ?_)
  obtain ⟨st, rfl, hl, rfl⟩ := h
  exact qb_rt (qv_new (qf_lcP C (lcM C rfl (zipI 0 st) (fun p => PyData.tuple [.int (p.1 : Nat), e3 p.2]) (fun p => decide (p.1 = 0) || !decide (st[p.1 - 1]? = some p.2)) (fun p => e3 p.2) _ (fun p => [.fr (.d (eL st)), .fr (.d (.int (p.1 : Nat))), .fr (.d (e3 p.2))])
    (qi_enumM (xs := st) (f := e3) C rfl T.m_enumerate (qv_var 0)) (qg_tup (n := 2) C.blk rfl (qgs_cons (qg_name C.blk 1) (qgs_cons (qg_name C.blk 2) qgs_nil)))
    (fun p hp => qt_one (qb_w (qw_or (qb_eq (qb_eqD C.blk rfl (qv_var 1) qv_int rfl rfl) (eqv_nat p.1 0)) fun h0 => qw_or1 (by
      have hp0 : p.1 ≠ 0 := of_decide_eq_false h0
      obtain ⟨_, hp1, _⟩ := zipI_mem st 0 p hp
      have hlt : p.1 - 1 < st.length := by omega
      have hat : atI (st.map e3) (((p.1 : Nat) : Int) - 1) = some (e3 st[p.1 - 1]) := by
        refine atI_map (f := e3) ?_
        rw [atI_pos (by omega) (by omega)]
        have e : (((p.1 : Nat) : Int) - 1).toNat = p.1 - 1 := by omega
        rw [e, List.getElem?_eq_getElem hlt]
      exact qb_eq (qb_neD C.blk rfl (qv_ixL C.blk rfl (qv_var 0) (qv_sub (qv_var 1) qv_int) hat) (qv_var 2) rfl rfl) (by
        rw [eqe_3, List.getElem?_eq_getElem hlt]
        simp))))) (fun p _ _ => qv_var 2) (by rw [zipI_len]; omega)) (own := [("at", 1), ("cart", 2)]) (fun _ => bo_by rfl))) (by simp [frzO, kindsF, eL, Function.comp_def])
def refusedF (c : Cy) (bs : List Bk2) (st : List Rw) : List Rw := (kindsF st).filter fun k => (behF c bs st k).isNone
theorem kinds_mem {st : List Rw} {k : Rw} (h : k ∈ kindsF st) : k ∈ st := by
  unfold kindsF at h
  obtain ⟨p, hp, rfl⟩ := List.mem_map.mp h
  exact (zipI_mem st 0 p (List.mem_filter.mp hp).1).2.2
theorem kinds_len (st : List Rw) : (kindsF st).length ≤ st.length := by
  unfold kindsF
  rw [List.length_map]
  exact Nat.le_trans (List.length_filter_le _ _) (Nat.le_of_eq (zipI_len _ _))
theorem isN_eOL (o : Option (List Rw)) : isN (.d (eOL o)) = o.isNone := by cases o <;> rfl
theorem ok_refused_of (T : Tx W) : DefOk W 6 "refused_of" ["web", "stand"] (fun ts t => ∃ (c : Cy) (bs : List Bk2) (st : List Rw), ts = [.web c.cd (bsD bs), .d (eL st)] ∧ WOk c bs ∧ (∀ q ∈ st, goOk c q = true) ∧ st.length ≤ 800 ∧ t = .d (eL (refusedF c bs st))) := by
  have d1 := ok_kinds_of T
  have d2 := ok_stand_behind T
  have d3 := ok_on_of T
  refine def_ok _ T.d_refused_of sc_refused_of (fun ts t h => by obtain ⟨l, b, y, rfl, _⟩ := h; rfl) (fun _ _ _ _ _ _ us hl => match us, hl with | [_, _], _ => rfl) (fun f cdv A outer s H E C ts t h => ?_)
  obtain ⟨c, bs, st, rfl, hw, hgo, hl, rfl⟩ := h
  exact qb_rt (qv_new (qf_lcP C (lcM C rfl (kindsF st) e3 (fun k => (behF c bs st k).isNone) e3 _ (fun k => [.fr (.web c.cd (bsD bs)), .fr (.d (eL st)), .fr (.d (e3 k))]) (qi_list (ds := (kindsF st).map e3) C rfl (qv_call C rfl d1 (ql_cons (qv_var 1) ql_nil) ⟨st, rfl, hl, rfl⟩)) (qg_name C.blk 2)
    (fun k hk => qt_one (qb_eq (qb_isN (qv_call C.blk rfl d2 (ql_cons (qv_var 0) (ql_cons (qv_var 1) (ql_cons (qv_call C.blk rfl d3 (ql_cons (qv_var 2) ql_nil) ⟨k, rfl, rfl⟩) ql_nil))) ⟨c, bs, st, k, rfl, hw, hgo, kinds_mem hk, hl, rfl⟩)) (isN_eOL _))) (fun k _ _ => qv_var 2) (by have := kinds_len st; omega)) (own := [("cart", 2)]) (fun _ => bo_by rfl))) rfl
def stuckF (c : Cy) (bs : List Bk2) (st : List Rw) : Bool := !st.isEmpty && decide (refusedF c bs st = kindsF st)
theorem ok_is_stuck_in (T : Tx W) : DefOk W 7 "is_stuck_in" ["web", "stand"] (fun ts t => ∃ (c : Cy) (bs : List Bk2) (st : List Rw), ts = [.web c.cd (bsD bs), .d (eL st)] ∧ WOk c bs ∧ (∀ q ∈ st, goOk c q = true) ∧ st.length ≤ 800 ∧ t = .d (.bool (stuckF c bs st))) := by
  have d1 := ok_kinds_of T
  have d2 := ok_refused_of T
  refine def_ok _ T.d_is_stuck_in sc_is_stuck_in (fun ts t h => by obtain ⟨l, b, y, rfl, _⟩ := h; rfl) (fun _ _ _ _ _ _ us hl => match us, hl with | [_, _], _ => rfl) (fun f cdv A outer s H E C ts t h => ?_)
  obtain ⟨c, bs, st, rfl, hw, hgo, hl, rfl⟩ := h
  exact qb_rt (qv_and (qv_neD (x := .list (st.map e3)) C rfl (qv_var 1) (qv_lst qd_nil) (shL st) rfl) fun _ => qv_one (qv_eqD (x := .list ((refusedF c bs st).map e3)) (y := .list ((kindsF st).map e3)) C rfl (qv_call C rfl d2 (ql_cons (qv_var 0) (ql_cons (qv_var 1) ql_nil)) ⟨c, bs, st, rfl, hw, hgo, hl, rfl⟩) (qv_call C rfl d1 (ql_cons (qv_var 1) ql_nil) ⟨st, rfl, hl, rfl⟩) (shL _) (shL _))) (by
    rw [eqv_nil, List.isEmpty_map]
    have e := eqe_L (refusedF c bs st) (kindsF st)
    unfold eL at e
    rw [e]
    rfl)
theorem ok_refused (T : Tx W) : DefOkK W 8 "refused" ["web", "stand"] (fun ts t => ∃ (c : Cy) (bs : List Bk2) (st : List Rw), ts = [.web c.cd (bsD bs), .d (eL st)] ∧ WOk c bs ∧ StOk c bs st ∧ (∀ q ∈ st, goOk c q = true) ∧ t = .d (eL (refusedF c bs (sort3 st)))) := by
  have d1 := ok_want_web T
  have d2 := ok_want_stand T
  have d3 := ok_refused_of T
  refine defK_ok _ T.d_refused sc_refused (fun ts t h => by obtain ⟨l, b, y, rfl, _⟩ := h; rfl) (fun _ _ _ _ _ _ us hl => match us, hl with | [_, _], _ => rfl) (fun f cdv A outer s H E C ts t h => ?_)
  obtain ⟨c, bs, st, rfl, hw, hs, hgo, rfl⟩ := h
  have hp := List.mergeSort_perm st le3
  exact qb_cons (qs_set C 2 (qv_call C rfl d1 (ql_cons (qv_var 0) ql_nil) ⟨c.cd, bsD bs, rfl, rfl⟩))
    (qb_rt (qv_call C rfl d3 (ql_cons (qv_var 2) (ql_cons (qv_call C rfl d2 (ql_cons (qv_var 2) (ql_cons (qv_var 1) ql_nil)) ⟨c, bs, st, rfl, hw, hs, rfl⟩) ql_nil)) ⟨c, bs, sort3 st, rfl, hw, fun q hq => hgo q (hp.mem_iff.mp hq), by have := hs.few; unfold sort3; rw [hp.length_eq]; omega, rfl⟩) rfl)
theorem ok_is_stuck (T : Tx W) : DefOk W 8 "is_stuck" ["web", "stand"] (fun ts t => ∃ (c : Cy) (bs : List Bk2) (st : List Rw), ts = [.web c.cd (bsD bs), .d (eL st)] ∧ WOk c bs ∧ StOk c bs st ∧ (∀ q ∈ st, goOk c q = true) ∧ t = .d (.bool (stuckF c bs (sort3 st)))) := by
  have d1 := ok_want_web T
  have d2 := ok_want_stand T
  have d3 := ok_is_stuck_in T
  refine def_ok _ T.d_is_stuck sc_is_stuck (fun ts t h => by obtain ⟨l, b, y, rfl, _⟩ := h; rfl) (fun _ _ _ _ _ _ us hl => match us, hl with | [_, _], _ => rfl) (fun f cdv A outer s H E C ts t h => ?_)
  obtain ⟨c, bs, st, rfl, hw, hs, hgo, rfl⟩ := h
  have hp := List.mergeSort_perm st le3
  exact qb_cons (qs_set C 2 (qv_call C rfl d1 (ql_cons (qv_var 0) ql_nil) ⟨c.cd, bsD bs, rfl, rfl⟩))
    (qb_rt (qv_call C rfl d3 (ql_cons (qv_var 2) (ql_cons (qv_call C rfl d2 (ql_cons (qv_var 2) (ql_cons (qv_var 1) ql_nil)) ⟨c, bs, st, rfl, hw, hs, rfl⟩) ql_nil)) ⟨c, bs, sort3 st, rfl, hw, fun q hq => hgo q (hp.mem_iff.mp hq), by have := hs.few; unfold sort3; rw [hp.length_eq]; omega, rfl⟩) rfl)
end
end Lk
set_option Elab.async false
set_option linter.all false
set_option maxRecDepth 100000
set_option maxHeartbeats 2000000
/-! G1: the law's draws. -/
namespace Lk
open PySem PySem.Spec PyProof.Rows L2
section
variable {W : Wd}
abbrev Pot := Int × Int
def drawF (p : Pot) (m : Int) : Int × Pot := if 0 < p.1 then (p.1 % m, (p.1 / m, p.2)) else
  ((p.2 * 40014 + 9011) % 2147483587 * ((p.2 * 40014 + 9011) % 2147483587) % 2147483563 / 31 % m, (p.1, (p.2 * 40014 + 9011) % 2147483587))
def good (p : Pot) : Prop := 0 ≤ p.2 ∧ p.2 < 4294967296
theorem draw_good {p : Pot} {m : Int} (h : good p) (hm : 0 < m) : good (drawF p m).2 ∧ 0 ≤ (drawF p m).1 ∧ (drawF p m).1 < m := by
  unfold drawF good at *
  split
  · exact ⟨h, Int.emod_nonneg _ (by omega), Int.emod_lt_of_pos _ hm⟩
  · refine ⟨?_, Int.emod_nonneg _ (by omega), Int.emod_lt_of_pos _ hm⟩
    have h1 := Int.emod_nonneg (p.2 * 40014 + 9011) (show (2147483587 : Int) ≠ 0 by omega)
    have h2 := Int.emod_lt_of_pos (p.2 * 40014 + 9011) (show (0 : Int) < 2147483587 by omega)
    exact ⟨h1, Int.lt_trans h2 (by omega)⟩
theorem ok_draw (T : Tx W) : DefOkP W 1 "_law_draw" ["_law_pot_here", "_law_many"] (fun p ts t p' => ∃ m : Int, ts = [.d (.int m)] ∧ 0 < m ∧ m < 1000 ∧ good p ∧ t = .d (.int (drawF p m).1) ∧ p' = (drawF p m).2) := by
  refine defP_ok _ T.d__law_draw sc__law_draw (fun p ts t p' h => by obtain ⟨m, rfl, _⟩ := h; rfl) (fun _ _ _ _ _ _ us hl => match us, hl with | [_, _], _ => rfl) (fun f cdv A outer s H E C a p ts t p' h => ?_)
  obtain ⟨m, rfl, h1, h2, ⟨g1, g2⟩, rfl, rfl⟩ := h
  have q1 := Int.emod_nonneg (p.2 * 40014 + 9011) (show (2147483587 : Int) ≠ 0 by omega)
  have q2 := Int.emod_lt_of_pos (p.2 * 40014 + 9011) (show (0 : Int) < 2147483587 by omega)
  exact qb_ifR (m := decide (0 < p.1)) (qb_gt (qv_ixP (m := p.1) (n := p.2) (z := p.1) C rfl 0 qv_int rfl) qv_int)
    (fun hp => qb_cons (qs_potDiv (m := p.1) (n := p.2) C rfl 0 2 (qv_divmod C T.m_divmod (qv_ixP (m := p.1) (n := p.2) (z := p.1) C rfl 0 qv_int rfl) (qv_var 1) ⟨h1, by omega⟩))
      (qb_rto (qv_var 2) (by unfold drawF; rw [if_pos (of_decide_eq_true hp)]) rfl (by unfold drawF; rw [if_pos (of_decide_eq_true hp)])))
    (fun hp => qb_cons (qs_potSet (m := p.1) (n := p.2) C rfl 0 (qv_mod (qv_intof C T.m_int (qv_add (qv_mul (qv_ixP (m := p.1) (n := p.2) (z := p.2) C rfl 0 qv_int rfl) qv_int (.inr ⟨by omega, by omega⟩)) qv_int)) qv_int (by omega)))
      (qb_rto (qv_mod (qv_intof C T.m_int (qv_fdiv (qv_mod (qv_intof C T.m_int (qv_mul (qv_ixP (m := p.1) (n := (p.2 * 40014 + 9011) % 2147483587) (z := (p.2 * 40014 + 9011) % 2147483587) C rfl 0 qv_int rfl) (qv_ixP (m := p.1) (n := (p.2 * 40014 + 9011) % 2147483587) (z := (p.2 * 40014 + 9011) % 2147483587) C rfl 0 qv_int rfl) (.inl ⟨by omega, by omega⟩))) qv_int (by omega)) qv_int ⟨by omega, by omega⟩)) (qv_var 1) h1)
        (by unfold drawF; rw [if_neg (of_decide_eq_false hp)]) rfl (by unfold drawF; rw [if_neg (of_decide_eq_false hp)])))
def pickF (p : Pot) (l : List Int) : Int × Pot := (geti l (drawF p l.length).1, (drawF p l.length).2)
theorem pick_at {p : Pot} {l : List Int} (h : good p) (hl : l ≠ []) : atI l (drawF p l.length).1 = some (pickF p l).1 ∧ (pickF p l).1 ∈ l ∧ good (pickF p l).2 := by
  have hpos : 0 < l.length := List.length_pos_iff.mpr hl
  obtain ⟨d1, d2, d3⟩ := draw_good (m := (l.length : Int)) h (by omega)
  have e : atI l (drawF p l.length).1 = some l[(drawF p l.length).1.toNat] := by rw [atI_pos d2 (by omega), List.getElem?_eq_getElem (by omega)]
  have e2 : (pickF p l).1 = l[(drawF p l.length).1.toNat]'(by omega) := by unfold pickF geti; rw [e]; rfl
  exact ⟨by rw [e, e2], by rw [e2]; exact List.getElem_mem _, d1⟩
theorem ok_pick (T : Tx W) : DefOkP W 2 "_law_pick" ["_law_pot_here", "_law_some"] (fun p ts t p' => ∃ l : List Int, ts = [.d (eIs l)] ∧ l ≠ [] ∧ l.length < 1000 ∧ good p ∧ t = .d (.int (pickF p l).1) ∧ p' = (pickF p l).2) := by
  have d1 := ok_draw T
  refine defP_ok _ T.d__law_pick sc__law_pick (fun p ts t p' h => by obtain ⟨m, rfl, _⟩ := h; rfl) (fun _ _ _ _ _ _ us hl => match us, hl with | [_, _], _ => rfl) (fun f cdv A outer s H E C a p ts t p' h => ?_)
  obtain ⟨l, rfl, h1, h2, hg, rfl, rfl⟩ := h
  have hpos : 0 < l.length := List.length_pos_iff.mpr h1
  obtain ⟨e1, _⟩ := pick_at hg h1
  exact qb_rto (qv_ixL C rfl (qv_var 1) (qv_callP (w := p) (w' := (drawF p l.length).2) (t := .d (.int (drawF p l.length).1)) C rfl d1 0 (ql_cons (qv_lenL (ds := l.map PyData.int) C rfl T.m_len (qv_var 1)) ql_nil) ⟨l.length, by rw [List.length_map], by omega, by omega, hg, rfl, rfl⟩) (atI_map (f := PyData.int) e1)) rfl rfl rfl
/-! ### the lands -/
def eW (w : List Int) : PyData := .tuple (w.map PyData.int)
def lanesS : Nat → List Pr
  | 0 => [(0, 1), (1, 2), (2, 3)]
  | 1 => [(0, 1), (1, 2), (2, 3), (3, 4)]
  | _ => [(0, 2), (1, 2), (2, 3), (3, 4)]
def waysS : Nat → List (List Int)
  | 0 => [[0, 1, 2, 3], [3, 2, 1, 0]]
  | 1 => [[0, 1, 2, 3, 4], [4, 3, 2, 1, 0]]
  | _ => [[0, 2, 1], [1, 2, 0], [0, 2, 3, 4], [1, 2, 3, 4], [4, 3, 2, 0], [4, 3, 2, 1]]
def mostS : Nat → List (Int × Int)
  | 0 => [(1, 3), (2, 3)]
  | 1 => [(1, 2), (2, 2), (3, 2)]
  | 2 => [(2, 2), (3, 1)]
  | _ => [(2, 1), (3, 2)]
def eM (l : List (Int × Int)) : List (Int × PyData) := l.map fun p => (p.1, .int p.2)
def shapeF (p : Pot) : Nat × Pot := if (drawF p 3).1 = 0 then (0, (drawF p 3).2) else if (drawF p 3).1 = 1 then (1, (drawF p 3).2) else
  if (drawF (drawF p 3).2 2).1 = 0 then (2, (drawF (drawF p 3).2 2).2) else (3, (drawF (drawF p 3).2 2).2)
section
variable {ι : Type} {G : Gx} {k : Nat} {X : ι → Cx} {Γ Γ1 Γ2 Γ3 : List Sl} {a b c : Expr} {pos : Pos} {x y : PyData} {kvs : List (Int × PyData)} {x1 : _}
/-- (a, b, {..}) -/
theorem qv_shp (ha : PV G X Γ a (.d x) Γ1) (hb : PV G X Γ1 b (.d y) Γ2) (hc : PV G X Γ2 c (.dct kvs) Γ3) (hs : ∀ j, starEach [a, b, c] (X j).env = (false, eval a (X j).env) :: starEach [b, c] (X j).env := by intro _; rfl) (hs2 : ∀ j, starEach [b, c] (X j).env = (false, eval b (X j).env) :: starEach [c] (X j).env := by intro _; rfl)
    (hs3 : ∀ j, starEach [c] (X j).env = (false, eval c (X j).env) :: starEach [] (X j).env := by intro _; rfl) : PV G X Γ (.Tuple [a, b, c] x1 pos) (.shp x y kvs) Γ3 := by
  obtain ⟨ra, a1, a2⟩ := ha
  obtain ⟨rb, b1, b2⟩ := hb
  obtain ⟨rc, c1, c2⟩ := hc
  refine ⟨_, fun j => pe_tup (pa_cons (a1 j) (pa_cons (b1 j) (pa_cons (c1 j) pa_nil (hs3 j)) (hs2 j)) (hs j)), fun F σ H Hb E Q q => a2 F σ H Hb E _ fun v H1 Hb1 E1 s1 r1 => b2 F σ H1 Hb1 E1 _ fun w H2 Hb2 E2 s2 r2 => c2 F σ H2 Hb2 E2 _ fun u H3 Hb3 E3 s3 r3 => ⟨(by show 3 ≤ sizeLine; decide), fun p hp => ?_⟩⟩
  obtain ⟨d, ks, rfl, h1, h2⟩ := r3
  have tk : TokO (.tup [v, w, .ref d]) := by
    intro wy hw e
    have hl := congrArg List.length e
    rw [List.length_map] at hl
    simp only [ways10, List.mem_cons, List.not_mem_nil, or_false] at hw
    rcases hw with rfl | rfl | rfl | rfl | rfl | rfl | rfl | rfl | rfl | rfl <;> simp at hl e
  have up := same_upd (E3.hbn hp) (o := .tup [v, w, .ref d])
  exact q (.ref p) _ _ (E3.new hp tk) ((((s1.trans s2).trans s3)).trans up) ⟨p, v, w, d, ks, rfl, upd_same, dp_up ((s2.trans s3).trans up) r1, dp_up (s3.trans up) r2, up _ _ h1, kvd_up up h2⟩
end
theorem ok_shape (T : Tx W) : DefOkP W 2 "_law_shape" ["_law_pot_here"] (fun p ts t p' => ts = [] ∧ good p ∧ t = .shp (.list ((lanesS (shapeF p).1).map eP)) (.list ((waysS (shapeF p).1).map eW)) (eM (mostS (shapeF p).1)) ∧ p' = (shapeF p).2) := by
  have d1 := ok_draw T
  refine defP_ok _ T.d__law_shape sc__law_shape (fun p ts t p' h => by obtain ⟨rfl, _⟩ := h; rfl) (fun _ _ _ _ _ _ us hl => match us, hl with | [_], _ => rfl) (fun f cdv A outer s H E C a p ts t p' h => ?_)
  obtain ⟨rfl, hg, rfl, rfl⟩ := h
  obtain ⟨g1, _, _⟩ := draw_good (m := 3) hg (by omega)
  have pr : ∀ a b : Int, Tv.d (PyData.tuple [.int a, .int b]) = .d (eP (a, b)) := fun _ _ => rfl
  refine qb_cons (qs_set C 1 (qv_callP (w := p) (w' := (drawF p 3).2) (t := .d (.int (drawF p 3).1)) C rfl d1 0 (ql_cons qv_int ql_nil) ⟨3, rfl, by omega, by omega, hg, rfl, rfl⟩))
    (qb_ifR (m := decide ((drawF p 3).1 = 0)) (qb_eq (qb_eqD C rfl (qv_var 1) qv_int rfl rfl) (eqv_int _ _)) (fun h => ?_) (fun h => qb_ifR (m := decide ((drawF p 3).1 = 1)) (qb_eq (qb_eqD C rfl (qv_var 1) qv_int rfl rfl) (eqv_int _ _)) (fun h' => ?_) (fun h' => ?_)))
  · have e : shapeF p = (0, (drawF p 3).2) := by unfold shapeF; rw [if_pos (of_decide_eq_true h)]
    rw [e]
    exact qb_rto (qv_shp (qv_lst (qd_cons (qv_tup (qd_cons qv_int (qd_cons qv_int qd_nil))) (qd_cons (qv_tup (qd_cons qv_int (qd_cons qv_int qd_nil))) (qd_cons (qv_tup (qd_cons qv_int (qd_cons qv_int qd_nil))) qd_nil))))
      (qv_lst (qd_cons (qv_tup (qd_cons qv_int (qd_cons qv_int (qd_cons qv_int (qd_cons qv_int qd_nil))))) (qd_cons (qv_tup (qd_cons qv_int (qd_cons qv_int (qd_cons qv_int (qd_cons qv_int qd_nil))))) qd_nil)))
      (qv_new (qf_disp (qp_cons qv_int qv_int (qp_cons qv_int qv_int qp_nil))))) rfl rfl rfl
  · have e : shapeF p = (1, (drawF p 3).2) := by unfold shapeF; rw [if_neg (of_decide_eq_false h), if_pos (of_decide_eq_true h')]
    rw [e]
    exact qb_rto (qv_shp (qv_lst (qd_cons (qv_tup (qd_cons qv_int (qd_cons qv_int qd_nil))) (qd_cons (qv_tup (qd_cons qv_int (qd_cons qv_int qd_nil))) (qd_cons (qv_tup (qd_cons qv_int (qd_cons qv_int qd_nil))) (qd_cons (qv_tup (qd_cons qv_int (qd_cons qv_int qd_nil))) qd_nil)))))
      (qv_lst (qd_cons (qv_tup (qd_cons qv_int (qd_cons qv_int (qd_cons qv_int (qd_cons qv_int (qd_cons qv_int qd_nil)))))) (qd_cons (qv_tup (qd_cons qv_int (qd_cons qv_int (qd_cons qv_int (qd_cons qv_int (qd_cons qv_int qd_nil)))))) qd_nil)))
      (qv_new (qf_disp (qp_cons qv_int qv_int (qp_cons qv_int qv_int (qp_cons qv_int qv_int qp_nil)))))) rfl rfl rfl
  · have e0 : shapeF p = if (drawF (drawF p 3).2 2).1 = 0 then (2, (drawF (drawF p 3).2 2).2) else (3, (drawF (drawF p 3).2 2).2) := by unfold shapeF; rw [if_neg (of_decide_eq_false h), if_neg (of_decide_eq_false h')]
    have hways := fun (Γ : List Sl) => ()
    refine qb_cons (qs_set C 2 (qv_lst (qd_cons (qv_tup (qd_cons qv_int (qd_cons qv_int (qd_cons qv_int qd_nil)))) (qd_cons (qv_tup (qd_cons qv_int (qd_cons qv_int (qd_cons qv_int qd_nil)))) (qd_cons (qv_tup (qd_cons qv_int (qd_cons qv_int (qd_cons qv_int (qd_cons qv_int qd_nil)))))
      (qd_cons (qv_tup (qd_cons qv_int (qd_cons qv_int (qd_cons qv_int (qd_cons qv_int qd_nil))))) (qd_cons (qv_tup (qd_cons qv_int (qd_cons qv_int (qd_cons qv_int (qd_cons qv_int qd_nil))))) (qd_cons (qv_tup (qd_cons qv_int (qd_cons qv_int (qd_cons qv_int (qd_cons qv_int qd_nil))))) qd_nil)))))))) ?_
    by_cases h2 : (drawF (drawF p 3).2 2).1 = 0
    · have e : shapeF p = (2, (drawF (drawF p 3).2 2).2) := by rw [e0, if_pos h2]
      rw [e]
      exact qb_rto (qv_shp (qv_lst (qd_cons (qv_tup (qd_cons qv_int (qd_cons qv_int qd_nil))) (qd_cons (qv_tup (qd_cons qv_int (qd_cons qv_int qd_nil))) (qd_cons (qv_tup (qd_cons qv_int (qd_cons qv_int qd_nil))) (qd_cons (qv_tup (qd_cons qv_int (qd_cons qv_int qd_nil))) qd_nil))))) (qv_var 2)
        (qv_if (m := true) (qb_eq (qb_eqD C rfl (qv_callP (w := (drawF p 3).2) (w' := (drawF (drawF p 3).2 2).2) (t := .d (.int (drawF (drawF p 3).2 2).1)) C rfl d1 0 (ql_cons qv_int ql_nil) ⟨2, rfl, by omega, by omega, g1, rfl, rfl⟩) qv_int rfl rfl) (by rw [eqv_int, decide_eq_true h2]))
          (fun _ => qv_new (qf_disp (qp_cons qv_int qv_int (qp_cons qv_int qv_int qp_nil)))) (fun z => by cases z))) rfl rfl rfl
    · have e : shapeF p = (3, (drawF (drawF p 3).2 2).2) := by rw [e0, if_neg h2]
      rw [e]
      exact qb_rto (qv_shp (qv_lst (qd_cons (qv_tup (qd_cons qv_int (qd_cons qv_int qd_nil))) (qd_cons (qv_tup (qd_cons qv_int (qd_cons qv_int qd_nil))) (qd_cons (qv_tup (qd_cons qv_int (qd_cons qv_int qd_nil))) (qd_cons (qv_tup (qd_cons qv_int (qd_cons qv_int qd_nil))) qd_nil))))) (qv_var 2)
        (qv_if (m := false) (qb_eq (qb_eqD C rfl (qv_callP (w := (drawF p 3).2) (w' := (drawF (drawF p 3).2 2).2) (t := .d (.int (drawF (drawF p 3).2 2).1)) C rfl d1 0 (ql_cons qv_int ql_nil) ⟨2, rfl, by omega, by omega, g1, rfl, rfl⟩) qv_int rfl rfl) (by rw [eqv_int, decide_eq_false h2]))
          (fun z => by cases z) (fun _ => qv_new (qf_disp (qp_cons qv_int qv_int (qp_cons qv_int qv_int qp_nil)))))) rfl rfl rfl
end
end Lk
set_option Elab.async false
set_option linter.all false
set_option maxRecDepth 100000
set_option maxHeartbeats 2000000
/-! G2: the law's books drawn. -/
namespace Lk
open PySem PySem.Spec PyProof.Rows L2
section
variable {W : Wd}
def othersOf (bes : List Int) (x : Int) : List Int := bes.filter fun y => !decide (y = x)
def boundF (p : Pot) (bes : List Int) (least most : Int) : Bd × Pot :=
  (((if 0 < (drawF (pickF p bes).2 3).1 then some (pickF p bes).1 else none), (if (drawF (pickF p bes).2 3).1 < 2 then some (pickF (drawF (pickF p bes).2 3).2 (othersOf bes (pickF p bes).1)).1 else none),
    least + (drawF (pickF (drawF (pickF p bes).2 3).2 (othersOf bes (pickF p bes).1)).2 (most - least + 1)).1), (drawF (pickF (drawF (pickF p bes).2 3).2 (othersOf bes (pickF p bes).1)).2 (most - least + 1)).2)
def besOk (bes : List Int) : Prop := bes ≠ [] ∧ bes.length < 100 ∧ ∀ x ∈ bes, othersOf bes x ≠ []
theorem bound_good {p : Pot} {bes : List Int} {least most : Int} (hg : good p) (hb : besOk bes) (hm : least ≤ most) : good (boundF p bes least most).2 := by
  obtain ⟨_, m1, g1⟩ := pick_at hg hb.1
  obtain ⟨g2, _, _⟩ := draw_good (m := 3) g1 (by omega)
  obtain ⟨_, _, g3⟩ := pick_at g2 (hb.2.2 _ m1)
  exact (draw_good (m := most - least + 1) g3 (by omega)).1
theorem ok_bound (T : Tx W) : DefOkP W 3 "_law_bound" ["_law_pot_here", "_law_beside", "_law_least", "_law_most"] (fun p ts t p' => ∃ (bes : List Int) (least most : Int), ts = [.d (eIs bes), .d (.int least), .d (.int most)] ∧ besOk bes ∧ least ≤ most ∧ most - least < 100 ∧ good p ∧ t = .d (eB (boundF p bes least most).1) ∧ p' = (boundF p bes least most).2) := by
  have d1 := ok_draw T
  have d2 := ok_pick T
  refine defP_ok _ T.d__law_bound sc__law_bound (fun p ts t p' h => by obtain ⟨m, _, _, rfl, _⟩ := h; rfl) (fun _ _ _ _ _ _ us hl => match us, hl with | [_, _, _, _], _ => rfl) (fun f cdv A outer s H E C a p ts t p' h => ?_)
  obtain ⟨bes, least, most, rfl, hb, hm, hm2, hg, rfl, rfl⟩ := h
  obtain ⟨_, m1, g1⟩ := pick_at hg hb.1
  obtain ⟨g2, _, _⟩ := draw_good (m := 3) g1 (by omega)
  have ho := hb.2.2 _ m1
  obtain ⟨_, _, g3⟩ := pick_at g2 ho
  have hol : (othersOf bes (pickF p bes).1).length < 1000 := Nat.lt_of_le_of_lt (List.length_filter_le _ _) (by have := hb.2.1; omega)
  have hbl := hb.2.1
  exact qb_cons (qs_tup2 C rfl 4 5 (qm_fr (qv_callP (w := p) (w' := (pickF p bes).2) (t := .d (.int (pickF p bes).1)) C rfl d2 0 (ql_cons (qv_var 1) ql_nil) ⟨bes, rfl, hb.1, by omega, hg, rfl, rfl⟩)
      (qm_fr (qv_callP (w := (pickF p bes).2) (w' := (drawF (pickF p bes).2 3).2) (t := .d (.int (drawF (pickF p bes).2 3).1)) C rfl d1 0 (ql_cons qv_int ql_nil) ⟨3, rfl, by omega, by omega, g1, rfl, rfl⟩) qm_nil)))
    (qb_cons (qs_set C 6 (qv_callP (w := (drawF (pickF p bes).2 3).2) (w' := (pickF (drawF (pickF p bes).2 3).2 (othersOf bes (pickF p bes).1)).2) (t := .d (.int (pickF (drawF (pickF p bes).2 3).2 (othersOf bes (pickF p bes).1)).1)) C rfl d2 0
        (ql_cons (qv_new (qf_lcP C (lcM C rfl bes PyData.int (fun y => !decide (y = (pickF p bes).1)) PyData.int _ (fun y => [.ow (.pot a (drawF (pickF p bes).2 3).2.1 (drawF (pickF p bes).2 3).2.2), .fr (.d (eIs bes)), .fr (.d (.int least)), .fr (.d (.int most)), .fr (.d (.int (pickF p bes).1)), .fr (.d (.int (drawF (pickF p bes).2 3).1)), .no, .fr (.d (.int y))])
          (qi_list (ds := bes.map PyData.int) C rfl (qv_var 1)) (qg_name C.blk 7) (fun y _ => qt_one (qb_eq (qb_neD C.blk rfl (qv_var 7) (qv_var 4) rfl rfl) (by rw [eqv_int]))) (fun y _ _ => qv_var 7) (by omega)) (own := [("_law_place", 7)]) (fun _ => bo_by rfl))) ql_nil)
        ⟨othersOf bes (pickF p bes).1, rfl, ho, hol, g2, rfl, rfl⟩))
    (qb_rto (qv_tup (ds := [eO (boundF p bes least most).1.1, eO (boundF p bes least most).1.2.1, .int (boundF p bes least most).1.2.2]) (qd_cons (qv_if (m := decide (0 < (drawF (pickF p bes).2 3).1)) (t := .d (eO (boundF p bes least most).1.1)) (qb_gt (qv_var 5) qv_int) (fun h => qv_eq (qv_var 4) (by unfold boundF; rw [if_pos (of_decide_eq_true h)]; rfl)) (fun h => qv_eq qv_non (by unfold boundF; rw [if_neg (of_decide_eq_false h)]; rfl)))
      (qd_cons (qv_if (m := decide ((drawF (pickF p bes).2 3).1 < 2)) (t := .d (eO (boundF p bes least most).1.2.1)) (qb_lt (qv_var 5) qv_int) (fun h => qv_eq (qv_var 6) (by unfold boundF; rw [if_pos (of_decide_eq_true h)]; rfl)) (fun h => qv_eq qv_non (by unfold boundF; rw [if_neg (of_decide_eq_false h)]; rfl)))
      (qd_cons (qv_add (qv_var 2) (qv_callP (w := (pickF (drawF (pickF p bes).2 3).2 (othersOf bes (pickF p bes).1)).2) (w' := (boundF p bes least most).2) (t := .d (.int (drawF (pickF (drawF (pickF p bes).2 3).2 (othersOf bes (pickF p bes).1)).2 (most - least + 1)).1)) C rfl d1 0 (ql_cons (qv_add (qv_sub (qv_var 3) (qv_var 2)) qv_int) ql_nil) ⟨most - least + 1, rfl, by omega, by omega, g3, rfl, rfl⟩)) qd_nil)))) rfl rfl rfl))
/-! ### books -/
def bsIt (bes : List Int) (l m : Int) : Nat → Pot → List Bd × Pot
  | 0, p => ([], p)
  | n + 1, p => ((bsIt bes l m n p).1 ++ [(boundF (bsIt bes l m n p).2 bes l m).1], (boundF (bsIt bes l m n p).2 bes l m).2)
theorem bsIt_good {bes : List Int} {l m : Int} {p : Pot} (hg : good p) (hb : besOk bes) (hm : l ≤ m) : ∀ n, good (bsIt bes l m n p).2
  | 0 => hg
  | n + 1 => bound_good (bsIt_good hg hb hm n) hb hm
theorem bsIt_map (bes : List Int) (l m : Int) (p : Pot) : ∀ n, (List.range n).map (fun i => eB (boundF (bsIt bes l m i p).2 bes l m).1) = (bsIt bes l m n p).1.map eB
  | 0 => rfl
  | n + 1 => by
    rw [List.range_succ, List.map_append, bsIt_map bes l m p n, bsIt, List.map_append]
    rfl
section
variable {ι : Type} {G : Gx} {k : Nat} {X : ι → Cx} {Γ : List Sl} {tg iter elt : Expr} {scope : Scope} {a : Addr} {s1 s2 s3 s4 : Sl} {bes : List Int} {l m : Int} {p : Pot} {n : Nat} {to : List Sl → PyData → List Sl} {ok : PyData → Prop}
theorem lc_bounds (C : Ctx W k X) (hG : W.G = G) (hg0 : good p) (hb : besOk bes) (hm : l ≤ m) (hn : n ≤ 1000) (hi : PIv G X Γ tg iter (rngD 0 n) [.ow (.pot a p.1 p.2), s1, s2, s3, s4, .no]) (hg : PGv G (blk X scope) [5] tg ok to) (hok : ∀ d, ok d) (hto : ∀ Γ d, to Γ d = Γ.set 5 (.fr (.d d)))
    (he : ∀ (q : Pot) (i : Int), good q → PV G (blk X scope) [.ow (.pot a q.1 q.2), s1, s2, s3, s4, .fr (.d (.int i))] elt (.d (eB (boundF q bes l m).1)) [.ow (.pot a (boundF q bes l m).2.1 (boundF q bes l m).2.2), s1, s2, s3, s4, .fr (.d (.int i))]) :
    PLc G X Γ elt tg iter [] scope [5] (.lst ((bsIt bes l m n p).1.map eB)) [.ow (.pot a (bsIt bes l m n p).2.1 (bsIt bes l m n p).2.2), s1, s2, s3, s4, .no] := by
  have hl : (rngD 0 n).length = n := by unfold rngD; rw [List.length_map, List.length_range]
  have hget : ∀ (i : Nat) (d : PyData), (rngD 0 n)[i]? = some d → d = PyData.int (0 + (i : Int)) := fun i d h => by
    unfold rngD at h
    rw [List.getElem?_map] at h
    by_cases hlt : i < n
    · rw [List.getElem?_range hlt] at h
      exact (Option.some.inj h).symm
    · rw [List.getElem?_eq_none (by rw [List.length_range]; omega)] at h
      cases h
  have h := lcG (ifs := []) (elt := elt) (scope := scope) C hG (vs := [5]) (fun i : Nat => ([.ow (.pot a (bsIt bes l m i p).2.1 (bsIt bes l m i p).2.2), s1, s2, s3, s4, .no] : List Sl)) (fun i : Nat => ([.ow (.pot a (bsIt bes l m (i + 1) p).2.1 (bsIt bes l m (i + 1) p).2.2), s1, s2, s3, s4, .fr (.d (PyData.int (0 + (i : Int))))] : List Sl)) (fun _ => true) (fun i => eB (boundF (bsIt bes l m i p).2 bes l m).1) hi hg (by simp) rfl (fun i _ => rfl) (fun d _ => hok d) (by rw [hl]; omega)
    (fun i d _ => qt_nil) (fun i d hd _ => by
      rw [hget i d hd, hto]
      exact he _ _ (bsIt_good hg0 hb hm i)) (fun i d _ hf => by cases hf) rfl
  rw [hl, filtT, bsIt_map] at h
  exact h
end
def placesF (p : Pot) (most : Int) : Int × Pot := if 1 < most then (most - (drawF p 2).1, (drawF p 2).2) else (most, p)
def bookF (p : Pot) (bes : List Int) (most : Int) : Bk2 × Pot :=
  let q := placesF p most
  let n := drawF q.2 3
  let b := bsIt bes 1 2 n.1.toNat n.2
  let z := drawF b.2 2
  if z.1 = 0 then
    let d := drawF z.2 most
    let n2 := drawF d.2 2
    let b2 := bsIt bes 0 1 (1 + n2.1).toNat n2.2
    ([(q.1, b.1), (1 + d.1, b2.1)], b2.2)
  else ([(q.1, b.1)], z.2)
theorem ok_book (T : Tx W) : DefOkP W 4 "_law_book" ["_law_pot_here", "_law_beside", "_law_most"] (fun p ts t p' => ∃ (bes : List Int) (most : Int), ts = [.d (eIs bes), .d (.int most)] ∧ besOk bes ∧ 1 ≤ most ∧ most < 100 ∧ good p ∧ t = .d (eK (bookF p bes most).1) ∧ p' = (bookF p bes most).2) := by
  have d1 := ok_draw T
  have d2 := ok_bound T
  refine defP_ok _ T.d__law_book sc__law_book (fun p ts t p' h => by obtain ⟨m, _, rfl, _⟩ := h; rfl) (fun _ _ _ _ _ _ us hl => match us, hl with | [_, _, _], _ => rfl) (fun f cdv A outer s H E C a p ts t p' h => ?_)
  obtain ⟨bes, most, rfl, hb, hm, hm2, hg, rfl, rfl⟩ := h
  have hgq : good (placesF p most).2 := by
    unfold placesF
    split
    · exact (draw_good (m := 2) hg (by omega)).1
    · exact hg
  obtain ⟨gn, n1, n2⟩ := draw_good (m := 3) hgq (by omega)
  have gb := bsIt_good gn hb (show (1 : Int) ≤ 2 by omega) (drawF (placesF p most).2 3).1.toNat
  obtain ⟨gz, _, _⟩ := draw_good (m := 2) gb (by omega)
  obtain ⟨gd, _, _⟩ := draw_good (m := most) gz (by omega)
  obtain ⟨gn2, z1, z2⟩ := draw_good (m := 2) gd (by omega)
  have hbk : bookF p bes most = if (drawF (bsIt bes 1 2 (drawF (placesF p most).2 3).1.toNat (drawF (placesF p most).2 3).2).2 2).1 = 0 then
      ([((placesF p most).1, (bsIt bes 1 2 (drawF (placesF p most).2 3).1.toNat (drawF (placesF p most).2 3).2).1), (1 + (drawF (drawF (bsIt bes 1 2 (drawF (placesF p most).2 3).1.toNat (drawF (placesF p most).2 3).2).2 2).2 most).1, (bsIt bes 0 1 (1 + (drawF (drawF (drawF (bsIt bes 1 2 (drawF (placesF p most).2 3).1.toNat (drawF (placesF p most).2 3).2).2 2).2 most).2 2).1).toNat (drawF (drawF (drawF (bsIt bes 1 2 (drawF (placesF p most).2 3).1.toNat (drawF (placesF p most).2 3).2).2 2).2 most).2 2).2).1)],
        (bsIt bes 0 1 (1 + (drawF (drawF (drawF (bsIt bes 1 2 (drawF (placesF p most).2 3).1.toNat (drawF (placesF p most).2 3).2).2 2).2 most).2 2).1).toNat (drawF (drawF (drawF (bsIt bes 1 2 (drawF (placesF p most).2 3).1.toNat (drawF (placesF p most).2 3).2).2 2).2 most).2 2).2).2)
      else ([((placesF p most).1, (bsIt bes 1 2 (drawF (placesF p most).2 3).1.toNat (drawF (placesF p most).2 3).2).1)], (drawF (bsIt bes 1 2 (drawF (placesF p most).2 3).1.toNat (drawF (placesF p most).2 3).2).2 2).2) := rfl
  rw [hbk]
  generalize hq : placesF p most = q at *
  generalize hN : drawF q.2 3 = nn at *
  generalize hB : bsIt bes 1 2 nn.1.toNat nn.2 = bb at *
  generalize hZ : drawF bb.2 2 = zz at *
  generalize hD : drawF zz.2 most = dd at *
  generalize hN2 : drawF dd.2 2 = n2n at *
  generalize hB2 : bsIt bes 0 1 (1 + n2n.1).toNat n2n.2 = b2 at *
  refine qb_cons (qs_set C 3 (qv_if (Γ2 := [.ow (.pot a q.2.1 q.2.2), .fr (.d (eIs bes)), .fr (.d (.int most)), .no, .no, .no]) (m := decide (1 < most)) (t := .d (.int q.1)) (qb_gt (qv_var 2) qv_int)
      (fun h => by
        have e : q = (most - (drawF p 2).1, (drawF p 2).2) := by rw [← hq]; unfold placesF; rw [if_pos (of_decide_eq_true h)]
        rw [e]
        exact qv_sub (qv_var 2) (qv_callP (w := p) (w' := (drawF p 2).2) (t := .d (.int (drawF p 2).1)) C rfl d1 0 (ql_cons qv_int ql_nil) ⟨2, rfl, by omega, by omega, hg, rfl, rfl⟩))
      (fun h => by
        have e : q = (most, p) := by rw [← hq]; unfold placesF; rw [if_neg (of_decide_eq_false h)]
        rw [e]
        exact qv_var 2))) ?_
  have s1 : ∀ n : Int, n < 3 → n.toNat ≤ 1000 := fun n h => by omega
  refine qb_cons (qs_own C 4 (qf_lst (ds := [eA (q.1, bb.1)]) (qd_cons (qv_tup (qd_cons (qv_var 3) (qd_cons (qv_new (qf_lcP C (hB ▸ lc_bounds (a := a) (s1 := .fr (.d (eIs bes))) (s2 := .fr (.d (.int most))) (s3 := .fr (.d (.int q.1))) (s4 := .no) (p := nn.2) (bes := bes) (l := 1) (m := 2) (n := nn.1.toNat) C rfl gn hb (by omega) (s1 _ n2)
      (qi_rng1 C T.m_range ?hq2 (by omega) (by omega)) (qg_name C.blk 5) (fun _ => trivial) (fun _ _ => rfl)
      (fun w i hw => qv_callP (w := w) (w' := (boundF w bes 1 2).2) (t := .d (eB (boundF w bes 1 2).1)) C.blk rfl d2 0 (ql_cons (qv_var 1) (ql_cons qv_int (ql_cons qv_int ql_nil))) ⟨bes, 1, 2, rfl, hb, by omega, by omega, hw, rfl, rfl⟩)) (own := [("_law_turn", 5)]) (fun _ => bo_by rfl))) qd_nil))) qd_nil))) ?_
  case hq2 => exact qv_callP (w := q.2) (w' := nn.2) (t := .d (.int nn.1)) C rfl d1 0 (ql_cons qv_int ql_nil) ⟨3, rfl, by omega, by omega, hgq, by rw [hN], by rw [hN]⟩
  have hzz : decide (zz.1 = 0) = true ∨ decide (zz.1 = 0) = false := by cases decide (zz.1 = 0) <;> simp
  refine qb_cons (qs_if (m := decide (zz.1 = 0)) (o := .nx (if zz.1 = 0 then [.ow (.pot a b2.2.1 b2.2.2), .fr (.d (eIs bes)), .fr (.d (.int most)), .fr (.d (.int q.1)), .ow (.lst [eA (q.1, bb.1), eA (1 + dd.1, b2.1)]), .no] else [.ow (.pot a zz.2.1 zz.2.2), .fr (.d (eIs bes)), .fr (.d (.int most)), .fr (.d (.int q.1)), .ow (.lst [eA (q.1, bb.1)]), .no]))
      (qb_eq (qb_eqD C rfl (qv_callP (w := bb.2) (w' := zz.2) (t := .d (.int zz.1)) C rfl d1 0 (ql_cons qv_int ql_nil) ⟨2, rfl, by omega, by omega, gb, by rw [hZ], by rw [hZ]⟩) qv_int rfl rfl) (eqv_int _ _)) (fun h => ?ha) (fun h => ?hb)) ?hc
  case hb =>
    rw [if_neg (of_decide_eq_false h)]
    exact qb_nil
  case hc =>
    by_cases h : zz.1 = 0
    · rw [if_pos h, if_pos h]
      exact qb_frz 4 rfl (qb_rto (qv_var 4) rfl rfl)
    · rw [if_neg h, if_neg h]
      exact qb_frz 4 rfl (qb_rto (qv_var 4) rfl rfl)
  case ha =>
    rw [if_pos (of_decide_eq_true h)]
    refine qb_cons (qs_app (ds := [eA (q.1, bb.1)]) (d := eA (1 + dd.1, b2.1)) C rfl 4 (qv_tup (qd_cons (qv_add qv_int (qv_callP (w := zz.2) (w' := dd.2) (t := .d (.int dd.1)) C rfl d1 0 (ql_cons (qv_var 2) ql_nil) ⟨most, rfl, by omega, by omega, gz, by rw [hD], by rw [hD]⟩))
      (qd_cons (qv_new (qf_lcP C (hB2 ▸ lc_bounds (a := a) (s1 := .fr (.d (eIs bes))) (s2 := .fr (.d (.int most))) (s3 := .fr (.d (.int q.1))) (s4 := .ow (.lst [eA (q.1, bb.1)])) (p := n2n.2) (bes := bes) (l := 0) (m := 1) (n := (1 + n2n.1).toNat) C rfl gn2 hb (by omega) (by omega)
      (qi_rng1 C T.m_range (qv_add qv_int ?hq3) (by omega) (by omega)) (qg_name C.blk 5) (fun _ => trivial) (fun _ _ => rfl)
      (fun w i hw => qv_callP (w := w) (w' := (boundF w bes 0 1).2) (t := .d (eB (boundF w bes 0 1).1)) C.blk rfl d2 0 (ql_cons (qv_var 1) (ql_cons qv_int (ql_cons qv_int ql_nil))) ⟨bes, 0, 1, rfl, hb, by omega, by omega, hw, rfl, rfl⟩)) (own := [("_law_turn", 5)]) (fun _ => bo_by rfl))) qd_nil))) (by simp)) qb_nil
    exact qv_callP (w := dd.2) (w' := n2n.2) (t := .d (.int n2n.1)) C rfl d1 0 (ql_cons qv_int ql_nil) ⟨2, rfl, by omega, by omega, gd, by rw [hN2], by rw [hN2]⟩
end
end Lk
set_option Elab.async false
set_option linter.all false
set_option maxRecDepth 100000
set_option maxHeartbeats 2000000
/-! G3: the law's carts. -/
namespace Lk
open PySem PySem.Spec PyProof.Rows L2
section
variable {W : Wd}
abbrev LC := Int × List Int
def eC (c : LC) : PyData := .tuple [.int c.1, eW c.2]
def eSt (s : List LC) : PyData := .tuple (s.map eC)
def lcOk (c : LC) : Bool := decide (c.2 ∈ ways10) && onWay c.2 c.1
def pairL (c : LC) : Pr := pairW c.2 c.1
def onL (c : LC) : LC := ((pairL c).2, c.2)
theorem ok_pair (T : Tx W) : DefOk W 1 "_law_pair" ["_law_cart"] (fun ts t => ∃ (c : LC), ts = [.d (eC c)] ∧ lcOk c = true ∧ t = .d (eP (pairL c))) := by
  refine def_ok _ T.d__law_pair sc__law_pair (fun ts t h => by obtain ⟨l, rfl, _⟩ := h; rfl) (fun _ _ _ _ _ _ us hl => match us, hl with | [_], _ => rfl) (fun f cdv A outer s H E C ts t h => ?_)
  obtain ⟨c, rfl, hc, rfl⟩ := h
  simp only [lcOk, Bool.and_eq_true, decide_eq_true_eq] at hc
  obtain ⟨hw, ho⟩ := hc
  obtain ⟨h1, h2, h3, h4⟩ := onWay_idx ho
  exact qb_cons (qs_unp (d := eC c) (qv_var 0) (qg_tup (n := 2) C rfl (qgs_cons (qg_name C 1) (qgs_cons (qg_name C 2) qgs_nil))) ⟨rfl, trivial, trivial, rfl⟩)
    (qb_cons (qs_set C 3 (qv_indexT C rfl T.ktup (ns := c.2) (qv_var 2) (qv_var 1) hw h1 h2))
    (qb_rt (qv_tup (qd_cons (qv_ixT C rfl (qv_var 2) (qv_sub (qv_var 3) qv_int) (atI_map (f := PyData.int) h3)) (qd_cons (qv_ixT C rfl (qv_var 2) (qv_add (qv_var 3) qv_int) (atI_map (f := PyData.int) h4)) qd_nil))) rfl))
theorem ok_lawon (T : Tx W) : DefOk W 1 "_law_on" ["_law_cart"] (fun ts t => ∃ (c : LC), ts = [.d (eC c)] ∧ lcOk c = true ∧ t = .d (eC (onL c))) := by
  refine def_ok _ T.d__law_on sc__law_on (fun ts t h => by obtain ⟨l, rfl, _⟩ := h; rfl) (fun _ _ _ _ _ _ us hl => match us, hl with | [_], _ => rfl) (fun f cdv A outer s H E C ts t h => ?_)
  obtain ⟨c, rfl, hc, rfl⟩ := h
  simp only [lcOk, Bool.and_eq_true, decide_eq_true_eq] at hc
  obtain ⟨hw, ho⟩ := hc
  obtain ⟨h1, h2, h3, h4⟩ := onWay_idx ho
  exact qb_cons (qs_unp (d := eC c) (qv_var 0) (qg_tup (n := 2) C rfl (qgs_cons (qg_name C 1) (qgs_cons (qg_name C 2) qgs_nil))) ⟨rfl, trivial, trivial, rfl⟩)
    (qb_rt (qv_tup (ds := [.int (pairL c).2, eW c.2]) (qd_cons (qv_ixT (d := .int (pairL c).2) C rfl (qv_var 2) (qv_add (qv_indexT C rfl T.ktup (ns := c.2) (qv_var 2) (qv_var 1) hw h1 h2) qv_int) (atI_map (f := PyData.int) h4)) (qd_cons (qv_var 2) qd_nil))) rfl)
/-! ### lets -/
def overF (b : Bd) (ps : List Pr) : Bool := decide (b.2.2 < ((ps.filter fun p => fits b.1 p.1 && fits b.2.1 p.2).length : Nat))
def lets1 (a : Al) (ps : List Pr) : Bool := decide ((ps.length : Int) ≤ a.1) && (a.2.filter fun b => overF b ps).isEmpty
def letsF (b : Bk2) (ps : List Pr) : Bool := b.any fun a => lets1 a ps
theorem ok_lets (T : Tx W) : DefOk W 1 "_law_lets" ["_law_book_here", "_law_pairs"] (fun ts t => ∃ (b : Bk2) (ps : List Pr), ts = [.d (eK b), .d (.list (ps.map eP))] ∧ bkSmall b = true ∧ ps.length ≤ 1000 ∧ t = .d (.bool (letsF b ps))) := by
  refine def_ok _ T.d__law_lets sc__law_lets (fun ts t h => by obtain ⟨l, p, rfl, _⟩ := h; rfl) (fun _ _ _ _ _ _ us hl => match us, hl with | [_, _], _ => rfl) (fun f cdv A outer s H E C ts t h => ?_)
  obtain ⟨b, ps, rfl, hb, hp, rfl⟩ := h
  simp only [bkSmall, Bool.and_eq_true, List.all_eq_true, decide_eq_true_eq] at hb
  let en0 : List Sl := [.fr (.d (eK b)), .fr (.d (.list (ps.map eP))), .no, .no, .no, .no, .no, .no, .no]
  let en4 : Al → Sl → List Sl := fun a o => [.fr (.d (eK b)), .fr (.d (.list (ps.map eP))), .fr (.d (.int a.1)), .fr (.d (.list (a.2.map eB))), o, .no, .no, .no, .no]
  exact qb_may (qs_for C rfl b eA (fun _ : Unit => en0) (fun _ a => if lets1 a ps = true then (.inr (.d (.bool true)) : Unit ⊕ Tv) else .inl ()) () (qi_list C rfl (qv_var 0)) (qg_tup (n := 2) C rfl (qgs_cons (qg_name C 2) (qgs_cons (qg_name C 3) qgs_nil))) (fun _ _ => ⟨rfl, trivial, trivial, rfl⟩) (fun F σ H Hb E => E) (fun _ => True) trivial
      (fun _ a ha _ => ⟨fun _ _ => trivial, by
        have haz := hb.2 a ha
        have hsh : SeqAt.shaped (.list ((a.2.filter fun q => overF q ps).map fun q => PyData.int q.2.2)) = true := by
          have h := shaped_ints ((a.2.filter fun q => overF q ps).map fun q => q.2.2)
          rw [List.map_map] at h
          exact h
        have hev : PyData.eqv (.list ((a.2.filter fun q => overF q ps).map fun q => PyData.int q.2.2)) (.list []) = (a.2.filter fun q => overF q ps).isEmpty := by rw [eqv_nil, List.isEmpty_map]
        cases hle : decide ((ps.length : Int) ≤ a.1) with
        | false =>
          have e : lets1 a ps = false := by unfold lets1; rw [hle]; rfl
          rw [e]
          exact ⟨_, qb_cons (qs_if (m := false) (o := .nx (en4 a .no)) (qb_eq (qb_le (qv_lenL (ds := ps.map eP) C rfl T.m_len (qv_var 1)) (qv_var 2)) (by rw [List.length_map]; exact hle)) (fun z => by cases z) (fun _ => qb_nil)) qb_nil, _, rfl, fun F σ H Hb E => (E.drop 2).drop 3⟩
        | true =>
          have e : lets1 a ps = (a.2.filter fun q => overF q ps).isEmpty := by unfold lets1; rw [hle]; rfl
          rw [e]
          cases hv : (a.2.filter fun q => overF q ps).isEmpty with
          | true => exact ⟨_, qb_ret (qs_if (m := true) (o := .rt (.d (.bool true))) (qb_eq (qb_le (qv_lenL (ds := ps.map eP) C rfl T.m_len (qv_var 1)) (qv_var 2)) (by rw [List.length_map]; exact hle)) (fun _ => qb_cons (qs_setLc C 4 (lcM C rfl a.2 eB (fun q => overF q ps) (fun q => PyData.int q.2.2) (en4 a .no) (fun q => [.fr (.d (eK b)), .fr (.d (.list (ps.map eP))), .fr (.d (.int a.1)), .fr (.d (.list (a.2.map eB))), .no, .fr (.d (eO q.1)), .fr (.d (eO q.2.1)), .fr (.d (.int q.2.2)), .no])
            (qi_list C rfl (qv_var 3)) (qg_tup (n := 3) C.blk rfl (qgs_cons (qg_name C.blk 5) (qgs_cons (qg_name C.blk 6) (qgs_cons (qg_name C.blk 7) qgs_nil))))
            (fun q _ => qt_one (qb_eq (qb_gt (qv_lenL (ds := (ps.filter fun p => fits q.1 p.1 && fits q.2.1 p.2).map eP) C.blk rfl T.m_len (qv_new (qf_lcP C.blk (lcM C.blk rfl ps eP (fun p => fits q.1 p.1 && fits q.2.1 p.2) eP _ (fun p => [.fr (.d (eK b)), .fr (.d (.list (ps.map eP))), .fr (.d (.int a.1)), .fr (.d (.list (a.2.map eB))), .no, .fr (.d (eO q.1)), .fr (.d (eO q.2.1)), .fr (.d (.int q.2.2)), .fr (.d (eP p))])
                (qi_list C.blk rfl (qv_var 1)) (qg_name C.blk.blk 8)
                (fun p _ => qt_one (qb_w (qw_and (qb_eq (qb_inT (x := eO q.1) C.blk.blk rfl (qv_var 5) (qv_tup (qd_cons qv_non (qd_cons (qv_ixT (d := .int p.1) C.blk.blk rfl (qv_var 8) qv_int rfl) qd_nil))) (flat_O _) rfl) (fits_eqv q.1 p.1)) fun _ => qw_and1 (qb_eq (qb_inT (x := eO q.2.1) C.blk.blk rfl (qv_var 6) (qv_tup (qd_cons qv_non (qd_cons (qv_ixT (d := .int p.2) C.blk.blk rfl (qv_var 8) qv_int rfl) qd_nil))) (flat_O _) rfl) (fits_eqv q.2.1 p.2)))))
                (fun p _ _ => qv_var 8) (by omega)) (own := [("_law_one", 8)]) (fun _ => bo_by rfl)))) (qv_var 7)) (by rw [List.length_map]; rfl)))
            (fun q _ _ => qv_var 7) (by omega)) (own := [("_law_near", 5), ("_law_far", 6), ("_law_most", 7)]) (bo_by rfl)) (qb_ret (qs_if (m := true) (qb_eq (qb_eqD C rfl (qv_var 4) (qv_lst qd_nil) hsh rfl) (by rw [hev]; exact hv)) (fun _ => qb_rt qv_bl rfl) (fun z => by cases z)))) (fun z => by cases z)), rfl⟩
          | false => exact ⟨_, qb_cons (qs_if (m := true) (o := .nx (en4 a (.fr (.d (.list ((a.2.filter fun q => overF q ps).map fun q => PyData.int q.2.2)))))) (qb_eq (qb_le (qv_lenL (ds := ps.map eP) C rfl T.m_len (qv_var 1)) (qv_var 2)) (by rw [List.length_map]; exact hle)) (fun _ => qb_cons (qs_setLc C 4 (lcM C rfl a.2 eB (fun q => overF q ps) (fun q => PyData.int q.2.2) (en4 a .no) (fun q => [.fr (.d (eK b)), .fr (.d (.list (ps.map eP))), .fr (.d (.int a.1)), .fr (.d (.list (a.2.map eB))), .no, .fr (.d (eO q.1)), .fr (.d (eO q.2.1)), .fr (.d (.int q.2.2)), .no])
            (qi_list C rfl (qv_var 3)) (qg_tup (n := 3) C.blk rfl (qgs_cons (qg_name C.blk 5) (qgs_cons (qg_name C.blk 6) (qgs_cons (qg_name C.blk 7) qgs_nil))))
            (fun q _ => qt_one (qb_eq (qb_gt (qv_lenL (ds := (ps.filter fun p => fits q.1 p.1 && fits q.2.1 p.2).map eP) C.blk rfl T.m_len (qv_new (qf_lcP C.blk (lcM C.blk rfl ps eP (fun p => fits q.1 p.1 && fits q.2.1 p.2) eP _ (fun p => [.fr (.d (eK b)), .fr (.d (.list (ps.map eP))), .fr (.d (.int a.1)), .fr (.d (.list (a.2.map eB))), .no, .fr (.d (eO q.1)), .fr (.d (eO q.2.1)), .fr (.d (.int q.2.2)), .fr (.d (eP p))])
                (qi_list C.blk rfl (qv_var 1)) (qg_name C.blk.blk 8)
                (fun p _ => qt_one (qb_w (qw_and (qb_eq (qb_inT (x := eO q.1) C.blk.blk rfl (qv_var 5) (qv_tup (qd_cons qv_non (qd_cons (qv_ixT (d := .int p.1) C.blk.blk rfl (qv_var 8) qv_int rfl) qd_nil))) (flat_O _) rfl) (fits_eqv q.1 p.1)) fun _ => qw_and1 (qb_eq (qb_inT (x := eO q.2.1) C.blk.blk rfl (qv_var 6) (qv_tup (qd_cons qv_non (qd_cons (qv_ixT (d := .int p.2) C.blk.blk rfl (qv_var 8) qv_int rfl) qd_nil))) (flat_O _) rfl) (fits_eqv q.2.1 p.2)))))
                (fun p _ _ => qv_var 8) (by omega)) (own := [("_law_one", 8)]) (fun _ => bo_by rfl)))) (qv_var 7)) (by rw [List.length_map]; rfl)))
            (fun q _ _ => qv_var 7) (by omega)) (own := [("_law_near", 5), ("_law_far", 6), ("_law_most", 7)]) (bo_by rfl)) (qb_cons (qs_if (m := false) (o := .nx (en4 a (.fr (.d (.list ((a.2.filter fun q => overF q ps).map fun q => PyData.int q.2.2)))))) (qb_eq (qb_eqD C rfl (qv_var 4) (qv_lst qd_nil) hsh rfl) (by rw [hev]; exact hv)) (fun z => by cases z) (fun _ => qb_nil)) qb_nil)) (fun z => by cases z)) qb_nil, _, rfl, fun F σ H Hb E => ((E.drop 2).drop 3).drop 4⟩⟩))
    (fun Γ1 h => by
      rw [loopE_any] at h
      cases hv : b.any fun a => lets1 a ps with
      | true => rw [hv] at h; cases h
      | false =>
        rw [hv] at h
        cases h
        exact qb_rt qv_bl (by show Tv.d (.bool false) = .d (.bool (letsF b ps)); unfold letsF; rw [hv]))
    (fun t h => by
      rw [loopE_any] at h
      cases hv : b.any fun a => lets1 a ps with
      | false => rw [hv] at h; cases h
      | true =>
        rw [hv] at h
        cases h
        unfold letsF
        rw [hv])
    (fun t i u h => by
      rw [loopE_any] at h
      cases hv : b.any fun a => lets1 a ps with
      | false => rw [hv] at h; cases h
      | true => rw [hv] at h; cases h)
    (fun u h => by
      rw [loopE_any] at h
      cases hv : b.any fun a => lets1 a ps with
      | false => rw [hv] at h; cases h
      | true => rw [hv] at h; cases h)
end
end Lk
set_option Elab.async false
set_option linter.all false
set_option maxRecDepth 100000
set_option maxHeartbeats 2000000
/-! G4: law_comes, law_told, law_is_plugged. -/
namespace Lk
open PySem PySem.Spec PyProof.Rows L2
section
variable {W : Wd}
abbrev BM := List (Int × Bk2)
def getB (bm : BM) (i : Int) : Option Bk2 := (bm.find? fun q => decide (q.1 = i)).map (·.2)
def eBM (bm : BM) : List (Int × PyData) := bm.map fun p => (p.1, eK p.2)
theorem dget_eBM (i : Int) : ∀ kvs : BM, dget (eBM kvs) i = (getB kvs i).map eK
  | [] => rfl
  | p :: kvs => by
    have ih := dget_eBM i kvs
    unfold dget getB eBM at ih ⊢
    rw [List.map_cons, List.find?_cons, List.find?_cons]
    by_cases h : p.1 = i
    · simp [h]
    · simp only [h, decide_false]
      exact ih
theorem getB_mem {bm : BM} {i : Int} {b : Bk2} (h : getB bm i = some b) : ∃ p ∈ bm, p.2 = b := by
  unfold getB at h
  cases e : bm.find? fun q => decide (q.1 = i) with
  | none => rw [e] at h; cases h
  | some p =>
    rw [e] at h
    cases h
    exact ⟨p, List.mem_of_find?_eq_some e, rfl⟩
def pairsOn (s : List LC) (y : Int) : List Pr := (s.filter fun q => decide (q.1 = y)).map pairL
def comesF (bm : BM) (s : List LC) (c : LC) : Bool := match getB bm c.1 with
  | none => true
  | some b => letsF b (pairsOn s c.1 ++ [pairL c])
theorem pairsOn_len (s : List LC) (y : Int) : (pairsOn s y).length ≤ s.length := by
  unfold pairsOn
  rw [List.length_map]
  exact List.length_filter_le _ _
theorem ok_comes (T : Tx W) : DefOk W 2 "_law_comes" ["_law_books", "_law_stand", "_law_cart"] (fun ts t => ∃ (bm : BM) (s : List LC) (c : LC), ts = [.dct (eBM bm), .d (eSt s), .d (eC c)] ∧ (∀ p ∈ bm, bkSmall p.2 = true) ∧ (∀ q ∈ s, lcOk q = true) ∧ (getB bm c.1 ≠ none → lcOk c = true) ∧ s.length ≤ 500 ∧ t = .d (.bool (comesF bm s c))) := by
  have d1 := ok_pair T
  have d2 := ok_lets T
  refine def_ok _ T.d__law_comes sc__law_comes (fun ts t h => by obtain ⟨l, p, q, rfl, _⟩ := h; rfl) (fun _ _ _ _ _ _ us hl => match us, hl with | [_, _, _], _ => rfl) (fun f cdv A outer s H E C ts t h => ?_)
  obtain ⟨bm, st, c, rfl, hb, hs, hc, hz, rfl⟩ := h
  refine qb_cons (qs_set C 3 (qv_ixT (d := .int c.1) C rfl (qv_var 2) qv_int rfl)) ?_
  cases hg : getB bm c.1 with
  | none =>
    exact qb_retR (qs_if (m := true) (qb_eq (qb_dnin C (qv_var 3) (qv_var 0)) (by rw [dget_eBM, hg]; rfl)) (fun _ => qb_rt qv_bl (by unfold comesF; rw [hg])) (fun z => by cases z))
  | some b =>
    obtain ⟨p, hp, rfl⟩ := getB_mem hg
    have hl := pairsOn_len st c.1
    have hcat : (pairsOn st c.1).map eP ++ [eP (pairL c)] = (pairsOn st c.1 ++ [pairL c]).map eP := by simp
    have hz2 : (pairsOn st c.1 ++ [pairL c]).length ≤ 1000 := by rw [List.length_append]; simp; omega
    have hzz : ((pairsOn st c.1).map eP).length + ([eP (pairL c)] : List PyData).length ≤ 100000 := by rw [List.length_map]; simp; omega
    exact qb_guard (qb_eq (qb_dnin C (qv_var 3) (qv_var 0)) (by rw [dget_eBM, hg]; rfl))
      (qb_rt (qv_call C rfl d2 (ql_cons (qv_dget (d := eK p.2) C (qv_var 0) (qv_var 3) (by rw [dget_eBM, hg]; rfl)) (ql_cons (qv_eq (qv_new (qf_catL (ds := (pairsOn st c.1).map eP) (ds2 := [eP (pairL c)]) C rfl
          (qv_eq (qv_new (qf_lcP C (lcM C rfl st eC (fun q => decide (q.1 = c.1)) (fun q => eP (pairL q)) _ (fun q => [.fr (.dct (eBM bm)), .fr (.d (eSt st)), .fr (.d (eC c)), .fr (.d (.int c.1)), .fr (.d (eC q))])
            (qi_tup C rfl (qv_var 1)) (qg_name C.blk 4) (fun q _ => qt_one (qb_eq (qb_eqD C.blk rfl (qv_ixT (d := .int q.1) C.blk rfl (qv_var 4) qv_int rfl) (qv_var 3) rfl rfl) (eqv_int _ _)))
            (fun q hq _ => qv_call C.blk rfl d1 (ql_cons (qv_var 4) ql_nil) ⟨q, rfl, hs q hq, rfl⟩) (by omega)) (own := [("_law_one", 4)]) (fun _ => bo_by rfl))) (by unfold pairsOn; rw [List.map_map]; rfl))
          (qv_lst (qd_cons (qv_call (t := .d (eP (pairL c))) C rfl d1 (ql_cons (qv_var 2) ql_nil) ⟨c, rfl, hc (by rw [hg]; exact fun z => by cases z), rfl⟩) qd_nil)) hzz)) (by rw [← hcat]; rfl)) ql_nil)) ⟨p.2, pairsOn st c.1 ++ [pairL c], rfl, hb p hp, hz2, rfl⟩)
        (by unfold comesF; rw [hg]))
def toldF (s : List LC) : List Rw := s.map fun c => (c.1, geti c.2 0, geti c.2 (-1))
theorem ok_told (T : Tx W) : DefOk W 1 "_law_told" ["_law_stand"] (fun ts t => ∃ s : List LC, ts = [.d (eSt s)] ∧ (∀ q ∈ s, lcOk q = true) ∧ s.length ≤ 500 ∧ t = .d (eL (toldF s))) := by
  refine def_ok _ T.d__law_told sc__law_told (fun ts t h => by obtain ⟨l, rfl, _⟩ := h; rfl) (fun _ _ _ _ _ _ us hl => match us, hl with | [_], _ => rfl) (fun f cdv A outer s H E C ts t h => ?_)
  obtain ⟨st, rfl, hs, hz, rfl⟩ := h
  have hw : ∀ q ∈ st, atI q.2 0 = some (geti q.2 0) ∧ atI q.2 (-1) = some (geti q.2 (-1)) := fun q hq => by
    have h := hs q hq
    simp only [lcOk, Bool.and_eq_true, decide_eq_true_eq] at h
    have h1 := h.1
    generalize q.2 = w at h1
    simp only [ways10, List.mem_cons, List.not_mem_nil, or_false] at h1
    rcases h1 with rfl | rfl | rfl | rfl | rfl | rfl | rfl | rfl | rfl | rfl <;> exact ⟨rfl, rfl⟩
  exact qb_rt (qv_new (qf_lcP C (lcA C rfl st eC (fun q => e3 (q.1, geti q.2 0, geti q.2 (-1))) _ (fun q => [.fr (.d (eSt st)), .fr (.d (.int q.1)), .fr (.d (eW q.2))]) (qi_tup C rfl (qv_var 0)) (qg_tup (n := 2) C.blk rfl (qgs_cons (qg_name C.blk 1) (qgs_cons (qg_name C.blk 2) qgs_nil)))
    (fun q hq => qv_tup (ds := [.int q.1, .int (geti q.2 0), .int (geti q.2 (-1))]) (qd_cons (qv_var 1) (qd_cons (qv_ixT C.blk rfl (qv_var 2) qv_int (atI_map (f := PyData.int) (hw q hq).1)) (qd_cons (qv_ixT C.blk rfl (qv_var 2) (qv_neg qv_int) (atI_map (f := PyData.int) (hw q hq).2)) qd_nil)))) (by omega)) (own := [("_law_yard", 1), ("_law_way", 2)]) (fun _ => bo_by rfl)))
    (by unfold toldF eL; rw [List.map_map]; rfl)
end
end Lk
set_option Elab.async false
set_option linter.all false
set_option maxRecDepth 100000
set_option maxHeartbeats 2000000
/-! G5: law_is_plugged. -/
namespace Lk
open PySem PySem.Spec PyProof.Rows L2
section
variable {W : Wd}
def backW (y tg : Int) (w : List Int) : Bool := decide (y ∈ w) && decide (geti w ((w.idxOf y : Nat) - 1) = tg)
def othF (ways : List (List Int)) (y tg : Int) : List Pr := (ways.filter (backW y tg)).map fun w => pairL (y, w)
def plugRow (b : Bk2) (ways : List (List Int)) (y tg : Int) (s : List LC) : Bool :=
  !(pairsOn s y).isEmpty && ((pairsOn s y).filter fun p => !decide (p.2 = tg)).isEmpty && !((othF ways y tg).all fun o => letsF b (pairsOn s y ++ [o]))
def lawPlug (rows : List (List LC)) (b : Bk2) (ways : List (List Int)) (y tg : Int) : Bool := rows.any (plugRow b ways y tg)
theorem flat_ints (l : List Int) : (l.map PyData.int).all flatD = true := by rw [List.all_map]; exact List.all_eq_true.mpr fun _ _ => rfl
theorem ok_isplugged (T : Tx W) : DefOk W 2 "_law_is_plugged" ["_law_rows", "_law_books", "_law_yard", "_law_target", "_law_ways"] (fun ts t => ∃ (rows : List (List LC)) (bm : BM) (b : Bk2) (y tg : Int) (ways : List (List Int)), ts = [.d (.list (rows.map eSt)), .dct (eBM bm), .d (.int y), .d (.int tg), .d (.list (ways.map eW))] ∧ (∀ p ∈ bm, bkSmall p.2 = true) ∧ getB bm y = some b ∧ (∀ s ∈ rows, s.length ≤ 500 ∧ ∀ q ∈ s, lcOk q = true) ∧ (∀ w ∈ ways, w ∈ ways10 ∧ (y ∈ w → onWay w y = true)) ∧ ways.length ≤ 100 ∧ t = .d (.bool (lawPlug rows b ways y tg))) := by
  have d1 := ok_pair T
  have d2 := ok_lets T
  refine def_ok _ T.d__law_is_plugged sc__law_is_plugged (fun ts t h => by obtain ⟨_, _, _, _, _, _, rfl, _⟩ := h; rfl) (fun _ _ _ _ _ _ us hl => match us, hl with | [_, _, _, _, _], _ => rfl) (fun f cdv A outer s H E C ts t h => ?_)
  obtain ⟨rows, bm, b, y, tg, ways, rfl, hb, hg, hr, hw, hz, rfl⟩ := h
  have hbs : bkSmall b = true := by obtain ⟨p, hp, rfl⟩ := getB_mem hg; exact hb p hp
  have hgd : dget (eBM bm) y = some (eK b) := by rw [dget_eBM, hg]; rfl
  let en : Sl → Sl → Sl → List Sl := fun st prs oth => [.fr (.d (.list (rows.map eSt))), .fr (.dct (eBM bm)), .fr (.d (.int y)), .fr (.d (.int tg)), .fr (.d (.list (ways.map eW))), st, prs, oth, .no, .no]
  exact qb_may (qs_for C rfl rows eSt (fun _ : Unit => en .no .no .no) (fun _ st => if plugRow b ways y tg st = true then (.inr (.d (.bool true)) : Unit ⊕ Tv) else .inl ()) () (qi_list C rfl (qv_var 0)) (qg_name C 5) (fun _ _ => trivial) (fun F σ H Hb E => E) (fun _ => True) trivial
      (fun _ st hst _ => ⟨fun _ _ => trivial, by
        obtain ⟨hz1, hs⟩ := hr st hst
        have hl := pairsOn_len st y
        have hpm : ∀ l : List Pr, SeqAt.shaped (.list (l.map eP)) = true := fun l => shaped_sm ⟨(sm_list fun x _ => sz_P x).1, Nat.le_trans (sm_list fun x _ => sz_P x).2 (by decide)⟩
        have e1 : (PyData.eqv (.list ((pairsOn st y).map eP)) (.list [])) = (pairsOn st y).isEmpty := by rw [eqv_nil, List.isEmpty_map]
        have e2 : (PyData.eqv (.list (((pairsOn st y).filter fun p => !decide (p.2 = tg)).map eP)) (.list [])) = ((pairsOn st y).filter fun p => !decide (p.2 = tg)).isEmpty := by rw [eqv_nil, List.isEmpty_map]
        have hlc : ∀ w ∈ ways, backW y tg w = true → lcOk (y, w) = true := fun w hww hb => by
          simp only [backW, Bool.and_eq_true, decide_eq_true_eq] at hb
          simp only [lcOk, Bool.and_eq_true, decide_eq_true_eq]
          exact ⟨(hw w hww).1, (hw w hww).2 hb.1⟩
        have hcat : ∀ o : Pr, (pairsOn st y).map eP ++ [eP o] = (pairsOn st y ++ [o]).map eP := fun o => by simp
        have hz2 : ∀ o : Pr, (pairsOn st y ++ [o]).length ≤ 1000 := fun o => by rw [List.length_append]; simp; omega
        have hzz : ∀ o : Pr, ((pairsOn st y).map eP).length + ([eP o] : List PyData).length ≤ 100000 := fun o => by rw [List.length_map]; simp; omega
        have hol : (ways.filter (backW y tg)).length ≤ 100000 := by
          have := List.length_filter_le (backW y tg) ways
          omega
        cases hc1 : (!(pairsOn st y).isEmpty && ((pairsOn st y).filter fun p => !decide (p.2 = tg)).isEmpty) with
        | false =>
          have e : plugRow b ways y tg st = false := by unfold plugRow; rw [hc1]; rfl
          rw [e]
          exact ⟨_, qb_cons (qs_set C 6 (qv_eq (qv_new (qf_lcP C (lcM C rfl st eC (fun q => decide (q.1 = y)) (fun q => eP (pairL q)) _ (fun q => [.fr (.d (.list (rows.map eSt))), .fr (.dct (eBM bm)), .fr (.d (.int y)), .fr (.d (.int tg)), .fr (.d (.list (ways.map eW))), .fr (.d (eSt st)), .no, .no, .fr (.d (eC q)), .no])
            (qi_tup C rfl (qv_var 5)) (qg_name C.blk 8) (fun q _ => qt_one (qb_eq (qb_eqD C.blk rfl (qv_ixT (d := .int q.1) C.blk rfl (qv_var 8) qv_int rfl) (qv_var 2) rfl rfl) (eqv_int _ _)))
            (fun q hq _ => qv_call C.blk rfl d1 (ql_cons (qv_var 8) ql_nil) ⟨q, rfl, hs q hq, rfl⟩) (by omega)) (own := [("_law_one", 8)]) (fun _ => bo_by rfl))) (by show _ = Tv.d (.list ((pairsOn st y).map eP)); unfold pairsOn; rw [List.map_map]; rfl))) (qb_cons (qs_if (m := false) (o := .nx (en (.fr (.d (eSt st))) (.fr (.d (.list ((pairsOn st y).map eP)))) .no)) (qb_eq (qb_w (qw_and (qb_eq (qb_neD C rfl (qv_var 6) (qv_lst qd_nil) (hpm _) rfl) (by rw [e1])) fun _ => qw_and1 (qb_eq (qb_eqD C rfl (qv_new (qf_lcP C (lcM C rfl (pairsOn st y) eP (fun p => !decide (p.2 = tg)) eP _ (fun p => [.fr (.d (.list (rows.map eSt))), .fr (.dct (eBM bm)), .fr (.d (.int y)), .fr (.d (.int tg)), .fr (.d (.list (ways.map eW))), .fr (.d (eSt st)), .fr (.d (.list ((pairsOn st y).map eP))), .no, .fr (.d (eP p)), .no])
            (qi_list C rfl (qv_var 6)) (qg_name C.blk 8) (fun p _ => qt_one (qb_eq (qb_neD C.blk rfl (qv_ixT (d := .int p.2) C.blk rfl (qv_var 8) qv_int rfl) (qv_var 3) rfl rfl) (by rw [eqv_int])))
            (fun p _ _ => qv_var 8) (by omega)) (own := [("_law_one", 8)]) (fun _ => bo_by rfl))) (qv_lst qd_nil) (hpm _) rfl) e2))) hc1) (fun z => by cases z) (fun _ => qb_nil)) qb_nil), _, rfl, fun F σ H Hb E => (E.drop 5).drop 6⟩
        | true =>
          have e : plugRow b ways y tg st = !((othF ways y tg).all fun o => letsF b (pairsOn st y ++ [o])) := by unfold plugRow; rw [hc1]; rfl
          have ea : (((othF ways y tg).map fun o => letsF b (pairsOn st y ++ [o])).all id) = (othF ways y tg).all fun o => letsF b (pairsOn st y ++ [o]) := by rw [List.all_map]; rfl
          rw [e]
          cases hc2 : (!((othF ways y tg).all fun o => letsF b (pairsOn st y ++ [o]))) with
          | true => exact ⟨_, qb_cons (qs_set C 6 (qv_eq (qv_new (qf_lcP C (lcM C rfl st eC (fun q => decide (q.1 = y)) (fun q => eP (pairL q)) _ (fun q => [.fr (.d (.list (rows.map eSt))), .fr (.dct (eBM bm)), .fr (.d (.int y)), .fr (.d (.int tg)), .fr (.d (.list (ways.map eW))), .fr (.d (eSt st)), .no, .no, .fr (.d (eC q)), .no])
            (qi_tup C rfl (qv_var 5)) (qg_name C.blk 8) (fun q _ => qt_one (qb_eq (qb_eqD C.blk rfl (qv_ixT (d := .int q.1) C.blk rfl (qv_var 8) qv_int rfl) (qv_var 2) rfl rfl) (eqv_int _ _)))
            (fun q hq _ => qv_call C.blk rfl d1 (ql_cons (qv_var 8) ql_nil) ⟨q, rfl, hs q hq, rfl⟩) (by omega)) (own := [("_law_one", 8)]) (fun _ => bo_by rfl))) (by show _ = Tv.d (.list ((pairsOn st y).map eP)); unfold pairsOn; rw [List.map_map]; rfl))) (qb_ret (qs_if (m := true) (o := .rt (.d (.bool true))) (qb_eq (qb_w (qw_and (qb_eq (qb_neD C rfl (qv_var 6) (qv_lst qd_nil) (hpm _) rfl) (by rw [e1])) fun _ => qw_and1 (qb_eq (qb_eqD C rfl (qv_new (qf_lcP C (lcM C rfl (pairsOn st y) eP (fun p => !decide (p.2 = tg)) eP _ (fun p => [.fr (.d (.list (rows.map eSt))), .fr (.dct (eBM bm)), .fr (.d (.int y)), .fr (.d (.int tg)), .fr (.d (.list (ways.map eW))), .fr (.d (eSt st)), .fr (.d (.list ((pairsOn st y).map eP))), .no, .fr (.d (eP p)), .no])
            (qi_list C rfl (qv_var 6)) (qg_name C.blk 8) (fun p _ => qt_one (qb_eq (qb_neD C.blk rfl (qv_ixT (d := .int p.2) C.blk rfl (qv_var 8) qv_int rfl) (qv_var 3) rfl rfl) (by rw [eqv_int])))
            (fun p _ _ => qv_var 8) (by omega)) (own := [("_law_one", 8)]) (fun _ => bo_by rfl))) (qv_lst qd_nil) (hpm _) rfl) e2))) hc1) (fun _ => qb_cons (qs_setLc C 7 (lcM C rfl ways eW (backW y tg) (fun w => eP (pairL (y, w))) _ (fun w => [.fr (.d (.list (rows.map eSt))), .fr (.dct (eBM bm)), .fr (.d (.int y)), .fr (.d (.int tg)), .fr (.d (.list (ways.map eW))), .fr (.d (eSt st)), .fr (.d (.list ((pairsOn st y).map eP))), .no, .no, .fr (.d (eW w))])
            (qi_list C rfl (qv_var 4)) (qg_name C.blk 9) (fun w hww => qt_one (qb_w (qw_and (qb_eq (qb_inT (x := .int y) C.blk rfl (qv_var 2) (qv_var 9) rfl (flat_ints w)) (any_eqv eqe_int y w)) fun hm => qw_and1 (by
                obtain ⟨g1, g2, g3, g4⟩ := onWay_idx ((hw w hww).2 (of_decide_eq_true hm))
                exact qb_eq (qb_eqD C.blk rfl (qv_ixT (d := .int (geti w ((w.idxOf y : Nat) - 1))) C.blk rfl (qv_var 9) (qv_sub (qv_indexT C.blk rfl T.ktup (ns := w) (qv_var 9) (qv_var 2) (hw w hww).1 g1 g2) qv_int) (atI_map (f := PyData.int) g3)) (qv_var 3) rfl rfl) (eqv_int _ _)))))
            (fun w hww hb => qv_call (t := .d (eP (pairL (y, w)))) C.blk rfl d1 (ql_cons (qv_tup (ds := [.int y, eW w]) (qd_cons (qv_var 2) (qd_cons (qv_var 9) qd_nil))) ql_nil) ⟨(y, w), rfl, hlc w hww hb, rfl⟩) (by omega)) (own := [("_law_way", 9)]) (bo_by rfl)) (qb_ret (qs_if (m := true) (qb_eq (qb_not (qb_val (qv_all C rfl T.m_all (bs := (othF ways y tg).map fun o => letsF b (pairsOn st y ++ [o])) (qv_eq (qv_new (qf_lcP C (lcA C rfl (ways.filter (backW y tg)) (fun w => eP (pairL (y, w))) (fun w => .bool (letsF b (pairsOn st y ++ [pairL (y, w)]))) _ (fun w => [.fr (.d (.list (rows.map eSt))), .fr (.dct (eBM bm)), .fr (.d (.int y)), .fr (.d (.int tg)), .fr (.d (.list (ways.map eW))), .fr (.d (eSt st)), .fr (.d (.list ((pairsOn st y).map eP))), .fr (.d (.list ((ways.filter (backW y tg)).map fun w => eP (pairL (y, w))))), .fr (.d (eP (pairL (y, w)))), .no])
            (qi_list C rfl (qv_var 7)) (qg_name C.blk 8) (fun w _ => qv_call C.blk rfl d2 (ql_cons (qv_dget (d := eK b) C.blk (qv_var 1) (qv_var 2) hgd) (ql_cons (qv_eq (qv_new (qf_catL (ds := (pairsOn st y).map eP) (ds2 := [eP (pairL (y, w))]) C.blk rfl (qv_var 6) (qv_lst (qd_cons (qv_var 8) qd_nil)) (hzz _))) (by rw [← hcat]; rfl)) ql_nil)) ⟨b, pairsOn st y ++ [pairL (y, w)], rfl, hbs, hz2 _, rfl⟩) hol) (own := [("_law_one", 8)]) (fun _ => bo_by rfl))) (by simp [othF, frzO, Function.comp_def]))))) (by rw [ea]; exact hc2)) (fun _ => qb_rt qv_bl rfl) (fun z => by cases z)))) (fun z => by cases z))), rfl⟩
          | false => exact ⟨_, qb_cons (qs_set C 6 (qv_eq (qv_new (qf_lcP C (lcM C rfl st eC (fun q => decide (q.1 = y)) (fun q => eP (pairL q)) _ (fun q => [.fr (.d (.list (rows.map eSt))), .fr (.dct (eBM bm)), .fr (.d (.int y)), .fr (.d (.int tg)), .fr (.d (.list (ways.map eW))), .fr (.d (eSt st)), .no, .no, .fr (.d (eC q)), .no])
            (qi_tup C rfl (qv_var 5)) (qg_name C.blk 8) (fun q _ => qt_one (qb_eq (qb_eqD C.blk rfl (qv_ixT (d := .int q.1) C.blk rfl (qv_var 8) qv_int rfl) (qv_var 2) rfl rfl) (eqv_int _ _)))
            (fun q hq _ => qv_call C.blk rfl d1 (ql_cons (qv_var 8) ql_nil) ⟨q, rfl, hs q hq, rfl⟩) (by omega)) (own := [("_law_one", 8)]) (fun _ => bo_by rfl))) (by show _ = Tv.d (.list ((pairsOn st y).map eP)); unfold pairsOn; rw [List.map_map]; rfl))) (qb_cons (qs_if (m := true) (o := .nx (en (.fr (.d (eSt st))) (.fr (.d (.list ((pairsOn st y).map eP)))) (.fr (.d (.list ((ways.filter (backW y tg)).map fun w => eP (pairL (y, w)))))))) (qb_eq (qb_w (qw_and (qb_eq (qb_neD C rfl (qv_var 6) (qv_lst qd_nil) (hpm _) rfl) (by rw [e1])) fun _ => qw_and1 (qb_eq (qb_eqD C rfl (qv_new (qf_lcP C (lcM C rfl (pairsOn st y) eP (fun p => !decide (p.2 = tg)) eP _ (fun p => [.fr (.d (.list (rows.map eSt))), .fr (.dct (eBM bm)), .fr (.d (.int y)), .fr (.d (.int tg)), .fr (.d (.list (ways.map eW))), .fr (.d (eSt st)), .fr (.d (.list ((pairsOn st y).map eP))), .no, .fr (.d (eP p)), .no])
            (qi_list C rfl (qv_var 6)) (qg_name C.blk 8) (fun p _ => qt_one (qb_eq (qb_neD C.blk rfl (qv_ixT (d := .int p.2) C.blk rfl (qv_var 8) qv_int rfl) (qv_var 3) rfl rfl) (by rw [eqv_int])))
            (fun p _ _ => qv_var 8) (by omega)) (own := [("_law_one", 8)]) (fun _ => bo_by rfl))) (qv_lst qd_nil) (hpm _) rfl) e2))) hc1) (fun _ => qb_cons (qs_setLc C 7 (lcM C rfl ways eW (backW y tg) (fun w => eP (pairL (y, w))) _ (fun w => [.fr (.d (.list (rows.map eSt))), .fr (.dct (eBM bm)), .fr (.d (.int y)), .fr (.d (.int tg)), .fr (.d (.list (ways.map eW))), .fr (.d (eSt st)), .fr (.d (.list ((pairsOn st y).map eP))), .no, .no, .fr (.d (eW w))])
            (qi_list C rfl (qv_var 4)) (qg_name C.blk 9) (fun w hww => qt_one (qb_w (qw_and (qb_eq (qb_inT (x := .int y) C.blk rfl (qv_var 2) (qv_var 9) rfl (flat_ints w)) (any_eqv eqe_int y w)) fun hm => qw_and1 (by
                obtain ⟨g1, g2, g3, g4⟩ := onWay_idx ((hw w hww).2 (of_decide_eq_true hm))
                exact qb_eq (qb_eqD C.blk rfl (qv_ixT (d := .int (geti w ((w.idxOf y : Nat) - 1))) C.blk rfl (qv_var 9) (qv_sub (qv_indexT C.blk rfl T.ktup (ns := w) (qv_var 9) (qv_var 2) (hw w hww).1 g1 g2) qv_int) (atI_map (f := PyData.int) g3)) (qv_var 3) rfl rfl) (eqv_int _ _)))))
            (fun w hww hb => qv_call (t := .d (eP (pairL (y, w)))) C.blk rfl d1 (ql_cons (qv_tup (ds := [.int y, eW w]) (qd_cons (qv_var 2) (qd_cons (qv_var 9) qd_nil))) ql_nil) ⟨(y, w), rfl, hlc w hww hb, rfl⟩) (by omega)) (own := [("_law_way", 9)]) (bo_by rfl)) (qb_cons (qs_if (m := false) (o := .nx (en (.fr (.d (eSt st))) (.fr (.d (.list ((pairsOn st y).map eP)))) (.fr (.d (.list ((ways.filter (backW y tg)).map fun w => eP (pairL (y, w)))))))) (qb_eq (qb_not (qb_val (qv_all C rfl T.m_all (bs := (othF ways y tg).map fun o => letsF b (pairsOn st y ++ [o])) (qv_eq (qv_new (qf_lcP C (lcA C rfl (ways.filter (backW y tg)) (fun w => eP (pairL (y, w))) (fun w => .bool (letsF b (pairsOn st y ++ [pairL (y, w)]))) _ (fun w => [.fr (.d (.list (rows.map eSt))), .fr (.dct (eBM bm)), .fr (.d (.int y)), .fr (.d (.int tg)), .fr (.d (.list (ways.map eW))), .fr (.d (eSt st)), .fr (.d (.list ((pairsOn st y).map eP))), .fr (.d (.list ((ways.filter (backW y tg)).map fun w => eP (pairL (y, w))))), .fr (.d (eP (pairL (y, w)))), .no])
            (qi_list C rfl (qv_var 7)) (qg_name C.blk 8) (fun w _ => qv_call C.blk rfl d2 (ql_cons (qv_dget (d := eK b) C.blk (qv_var 1) (qv_var 2) hgd) (ql_cons (qv_eq (qv_new (qf_catL (ds := (pairsOn st y).map eP) (ds2 := [eP (pairL (y, w))]) C.blk rfl (qv_var 6) (qv_lst (qd_cons (qv_var 8) qd_nil)) (hzz _))) (by rw [← hcat]; rfl)) ql_nil)) ⟨b, pairsOn st y ++ [pairL (y, w)], rfl, hbs, hz2 _, rfl⟩) hol) (own := [("_law_one", 8)]) (fun _ => bo_by rfl))) (by simp [othF, frzO, Function.comp_def]))))) (by rw [ea]; exact hc2)) (fun z => by cases z) (fun _ => qb_nil)) qb_nil)) (fun z => by cases z)) qb_nil), _, rfl, fun F σ H Hb E => ((E.drop 5).drop 6).drop 7⟩⟩))
    (fun Γ1 h => by
      rw [loopE_any] at h
      cases hv : rows.any (plugRow b ways y tg) with
      | true => rw [hv] at h; cases h
      | false =>
        rw [hv] at h
        cases h
        exact qb_rt qv_bl (by show Tv.d (.bool false) = .d (.bool (lawPlug rows b ways y tg)); unfold lawPlug; rw [hv]))
    (fun t h => by
      rw [loopE_any] at h
      cases hv : rows.any (plugRow b ways y tg) with
      | false => rw [hv] at h; cases h
      | true =>
        rw [hv] at h
        cases h
        unfold lawPlug
        rw [hv])
    (fun t i u h => by
      rw [loopE_any] at h
      cases hv : rows.any (plugRow b ways y tg) with
      | false => rw [hv] at h; cases h
      | true => rw [hv] at h; cases h)
    (fun u h => by
      rw [loopE_any] at h
      cases hv : rows.any (plugRow b ways y tg) with
      | false => rw [hv] at h; cases h
      | true => rw [hv] at h; cases h)
end
end Lk
set_option Elab.async false
set_option linter.all false
set_option maxRecDepth 100000
set_option maxHeartbeats 2000000
/-! G6: law_pot. -/
namespace Lk
open PySem PySem.Spec PyProof.Rows L2
section
variable {W : Wd}
def cellF : List Int → Int
  | [] => 349
  | x :: _ => if x < 0 then -x else x
def lowF (c : Int) : Int := (c % 2147483549 * 40692 + 103) % 2147483563 + 1
def potF (l : List Int) : Pot := (if 0 < cellF l - 10 ^ 18 then cellF l - 10 ^ 18 else 0, lowF (cellF l))
theorem pot_good (l : List Int) : good (potF l) := by
  have h1 := Int.emod_nonneg (cellF l % 2147483549 * 40692 + 103) (show (2147483563 : Int) ≠ 0 by omega)
  have h2 := Int.emod_lt_of_pos (cellF l % 2147483549 * 40692 + 103) (show (0 : Int) < 2147483563 by omega)
  unfold potF good lowF
  exact ⟨by show 0 ≤ _ + 1; omega, by show _ + 1 < _; omega⟩
theorem ok_pot (T : Tx W) : DefOkF W 1 "_law_pot" ["_law_script", "_law_k"] (fun ts o => ∃ l : List Int, ts = [.d (eIs l), .d (.int 0)] ∧ o = .lst [.int (potF l).1, .int (potF l).2]) := by
  refine defF_ok _ T.d__law_pot sc__law_pot (fun ts t h => by obtain ⟨l, rfl, _⟩ := h; rfl) (fun _ _ _ _ _ _ us hl => match us, hl with | [_, _], _ => rfl) (fun f cdv A outer s H E C ts t h => ?_)
  obtain ⟨l, rfl, rfl⟩ := h
  have hm1 := Int.emod_nonneg (cellF l) (show (2147483549 : Int) ≠ 0 by omega)
  have hm2 := Int.emod_lt_of_pos (cellF l) (show (0 : Int) < 2147483549 by omega)
  refine qb_cons (qs_set (t := .d (.int (cellF l))) (Γ1 := startG n__law_pot [.d (eIs l), .d (.int 0)]) C 2 ?_) ?_
  · cases l with
    | nil => exact qv_if (m := false) (qb_eq (qb_lt (qv_var 1) (qv_lenL (ds := []) C rfl T.m_len (qv_var 0))) rfl) (fun z => by cases z) (fun _ => qv_eq (qv_add (qv_mul qv_int (qv_var 1) (.inl ⟨by omega, by omega⟩)) qv_int) rfl)
    | cons x r => exact qv_if (m := true) (qb_eq (qb_lt (qv_var 1) (qv_lenL (ds := (x :: r).map PyData.int) C rfl T.m_len (qv_var 0))) (by rw [List.length_map]; exact decide_eq_true (by simp))) (fun _ => qv_abs (m := x) C T.m_abs (qv_ixL (d := .int x) C rfl (qv_var 0) (qv_var 1) (atI_map (f := PyData.int) (by rw [atI_pos (by omega) (by simp)]; rfl)))) (fun z => by cases z)
  · exact qb_cons (qs_set C 3 (qv_add (qv_mod (qv_intof C T.m_int (qv_add (qv_add (qv_mul (qv_mod (qv_intof C T.m_int (qv_var 2)) qv_int (by omega)) qv_int (.inl ⟨by omega, by omega⟩)) (qv_mul qv_int (qv_var 1) (.inl ⟨by omega, by omega⟩))) qv_int)) qv_int (by omega)) qv_int))
      (qb_rtf (qf_lst (qd_cons (qv_max2 C T.m_max qv_int (qv_sub (qv_var 2) (qv_pow qv_int qv_int ⟨by omega, by omega, by decide⟩))) (qd_cons (qv_var 3) qd_nil))) (by unfold potF lowF; simp))
end
end Lk
set_option Elab.async false
set_option linter.all false
set_option maxRecDepth 100000
set_option maxHeartbeats 2000000
/-! M1: a dict whose keys are nested tuples. -/
namespace Lk
open PySem PySem.Spec PyProof.Rows L2
mutual
theorem nested_of {h : Heap} : ∀ (k : NestedKey) (v : Value) (as : List Addr), Reads h v k.data as → NestedIs h k v
  | .none, _, _, r => by cases r; exact .none
  | .num i, _, _, r => by cases r; exact .int _ _
  | .text x, _, _, r => by cases r; exact .text _ _
  | .tup ks, _, _, r => by
    cases r with
    | tuple h1 h2 h3 h4 => exact .tup h1 h2 h3 (nested_all ks _ _ h4)
theorem nested_all {h : Heap} : ∀ (ks : List NestedKey) (vs : List Value) (as : List Addr), ReadsAll h vs (NestedKey.datas ks) as → NestedAll h ks vs
  | [], _, _, r => by cases r; exact .nil
  | k :: ks, _, _, r => by
    cases r with
    | cons r1 r2 => exact .cons (nested_of k _ _ r1) (nested_all ks _ _ r2)
end
abbrev ME := NestedKey × Addr × Value
def MeOk (K : PySem.W.Frag) (H : Hp) (x : ME) : Prop := Dp K H (.ref x.2.1) x.1.data ∧ x.1.depth ≤ 8
section
variable {X : Cx} {pins : List (Addr × Obj)} {σ : L2.St} {H : Hp} {s : Shared} {d a : Addr} {xs : List ME} {k : NestedKey}
theorem met_is (I : Inv X pins σ H s) (h : MeOk X.K H (k, a, val)) : (nestedKind X.prog X.w).is s.heap k a := by
  obtain ⟨as, r⟩ := Dp.reads I k.data (.ref a) (.ref a) h.1 rfl
  exact ⟨nested_of k _ _ r, h.2⟩
theorem met_heap (I : Inv X pins σ H s) (e : H d = some (.ext (metF X.w d xs))) (hx : ∀ x ∈ xs, MeOk X.K H x) : s.heap.DictOfH (nestedKind X.prog X.w) d xs ∧ (d == sysModules) = false := by
  obtain ⟨⟨o, es, ep, h1, h2, h3, h4, h5, h6⟩, _⟩ := I.hok d _ e
  exact ⟨⟨o, es, ep, h1, h2, h3, h4, fun x hq => met_is (val := x.2.2) I (hx x hq), h5⟩, h6⟩
theorem met_new {H' : Hp} {h' : Heap} (P : Program) (w : World) (hd : (d == sysModules) = false) (dd : h'.DictOfH (nestedKind P w) d xs) : ObjOk P w H' h' d (.ext (metF w d xs)) := by
  obtain ⟨o, es, ep, h1, h2, h3, h4, _, h5⟩ := dd
  exact ⟨⟨o, es, ep, h1, h2, h3, h4, h5, hd⟩, ⟨o, h1⟩, fun g1 g2 ⟨o', es', ep', k1, k2, k3, k4, k5, k6⟩ hk => ⟨o', es', ep', hk _ k1, k2, k3, k4, k5, k6⟩⟩
theorem atKey_some (xs : List ME) (k : NestedKey) : (atKey xs k).isSome = decide (k ∈ xs.map (·.1)) := by
  unfold atKey
  rw [Option.isSome_map]
  by_cases h : k ∈ xs.map (·.1)
  · rw [decide_eq_true h]
    obtain ⟨x, hx, rfl⟩ := List.mem_map.mp h
    exact List.find?_isSome.mpr ⟨x, hx, decide_eq_true rfl⟩
  · rw [decide_eq_false h, List.find?_eq_none.mpr fun x hx e => h (List.mem_map.mpr ⟨x, hx, of_decide_eq_true e⟩)]
    rfl
/-- k not in d -/
def rMetNin (w : World) (K : PySem.W.Frag) : R2 := fun x y H Q => ∃ (k : NestedKey) (a d : Addr) (xs : List ME), x = .ref a ∧ y = .ref d ∧ H d = some (.ext (metF w d xs)) ∧ (∀ x ∈ xs, MeOk K H x) ∧ Dp K H (.ref a) k.data ∧ k.depth ≤ 8 ∧ Q (.bl (!decide (k ∈ xs.map (·.1)))) H
theorem op_metNin (hu : X.A.units + 9 < cLine) : OpR X (compareOp .NotIn) (rMetNin X.w X.K) := by
  intro pins s σ H x y v u Q I rx ry h
  obtain ⟨k, a, d, xs, rfl, rfl, e, hx, hk, hd, q⟩ := h
  cases rx
  cases ry
  obtain ⟨m1, m2⟩ := met_heap I e hx
  refine wpAny_notIn_heap (knd := nestedKind X.prog X.w) (by show X.A.in1.units + 8 < cLine; show X.A.units + 1 + 8 < cLine; omega) (met_is (val := .none) I ⟨hk, hd⟩) m2 m1 ?_
  rw [atKey_some]
  exact ⟨.bl _, H, I.tok _, rfl, q⟩
/-- d[k] = v -/
def sMPut (w : World) (K : PySem.W.Frag) (td ty tv : TE) : TS := fun D σ H => tv σ H fun v H1 => td σ H1 fun x H2 => ty σ H2 fun y H3 => ∃ (k : NestedKey) (a d : Addr) (xs : List ME), x = .ref d ∧ y = .ref a ∧ H3 d = some (.ext (metF w d xs)) ∧ (∀ x ∈ xs, MeOk K H3 x) ∧
  Dp K H3 (.ref a) k.data ∧ k.depth ≤ 8 ∧ xs.length ≤ sizeLine ∧ k ∉ xs.map (·.1) ∧ ∀ val, D.nx σ (upd H3 d (.ext (metF w d (xs ++ [(k, a, val)]))))
theorem ps_mput {o i value : Expr} {pos pos' : Pos} {td ty tv : TE} (hu : X.A.units + 9 < cLine) (ho : PE X o td) (hi : PE X i ty) (hv : PE X value tv) (hs : swapsWith value (some (.Subscript o i pos')) pos.line X.env = pure false) :
    PS X (.Assign [.Subscript o i pos'] value pos) (sMPut X.w X.K td ty tv) := by
  refine ⟨fun pins s σ H D I h => ?_⟩
  refine wpAny_Assign_Subscript (thn (hv.run pins s σ H _ I h) fun r s1 ⟨v, H1, I1, rv, q1⟩ => thn (ho.run pins s1 σ H1 _ I1 q1) fun u s2 ⟨x, H2, I2, rx, q2⟩ => thn (hi.run pins s2 σ H2 _ I2 q2) fun iv s3 ⟨y, H3, I3, ry, q3⟩ => ?_) hs
  obtain ⟨k, a, d, xs, rfl, rfl, e, hx, hk, hd, hz, hn, q⟩ := q3
  cases rx
  cases ry
  obtain ⟨m1, m2⟩ := met_heap I3 e hx
  refine wpAny_setItem_heap (knd := nestedKind X.prog X.w) (hsz := hz) (by show X.A.units + 1 + 8 < cLine; omega) (met_is (val := .none) I3 ⟨hk, hd⟩) m1 fun h' m' hs' => ?_
  have hnn : atKey xs k = none := by
    have h := atKey_some xs k
    rw [decide_eq_false hn] at h
    cases e' : atKey xs k with
    | none => rfl
    | some p => rw [e'] at h; cases h
  rw [storedH_new hnn] at m'
  have he : ∃ q, h'.get? d = some q := let ⟨q, _, _, hq, _⟩ := m'; ⟨q, hq⟩
  exact ⟨σ, _, d_write I3 (by rw [e]; exact True.intro) hs' he (met_new X.prog X.w m2 m'), q r⟩
/-- {k: v} -/
def tDispM (w : World) (K : PySem.W.Frag) (tk tv : TE) : TE := fun σ H Q => ∀ p, H p = none → tk σ (upd H p (.ext (metF w p []))) fun x H1 => tv σ H1 fun y H2 => H2 p = some (.ext (metF w p [])) ∧
  ∃ (k : NestedKey) (a : Addr), x = .ref a ∧ Dp K H2 (.ref a) k.data ∧ k.depth ≤ 8 ∧ ∀ val, Q (.ref p) (upd H2 p (.ext (metF w p [(k, a, val)])))
theorem pe_dispM {k v : Expr} {pos : Pos} {tk tv : TE} (hu : X.A.units + 9 < cLine) (hk : PE X k tk) (hv : PE X v tv) : PE X (.Dict [some k] [v] pos) (tDispM X.w X.K tk tv) := by
  refine ⟨fun pins s σ H Q I q => ?_⟩
  have hn := I.hok.fresh (Nat.le_refl s.heap.objs.size)
  have hb : (s.heap.objs.size == sysModules) = false := beq_eq_false_iff_ne.mpr (Ne.symm (Nat.ne_of_lt I.big))
  have I1 := I.laid (a := s.heap.objs.size) (o := .ext (metF X.w s.heap.objs.size [])) (h' := s.heap.push { cls := .type "dict", data := .dict #[] }) (t' := s.toks) (fun _ _ q => Heap.get?_push_of_some _ q) (Nat.le_refl _) (met_new X.prog X.w hb (Heap.DictOfH.new s.heap))
  rw [arm_eval_Dict, zip_pairTrees [some k] [v] X.env pos rfl rfl, dictDisplay_pairs _ (by intro h; cases h) (by rw [pairTrees_length [some k] [v] X.env pos rfl rfl]; exact (by decide : 1 < 17))]
  refine wpAny_bind (wpAny_standAt (wpAny_bind (wpAny_subDictH (knd := nestedKind X.prog X.w) (Q := fun d s' => wpAny (model X.prog X.w) X.A (pure (Value.ref d)) (EP X pins σ Q) X.xe s') (by show X.A.units + 8 < cLine; omega) (by rw [pairTrees_length [some k] [v] X.env pos rfl rfl]; exact (by decide : 1 ≤ 15)) ?_)))
  refine pairTrees_cons_walk (thn (hk.run pins _ σ _ _ I1 (q _ hn)) fun u s1 ⟨x, H1, I2, rx, q1⟩ => thn (hv.run pins s1 σ H1 _ I2 q1) fun w2 s2 ⟨y, H2, I3, ry, q2⟩ => pairTrees_nil_walk ?_)
  obtain ⟨e, k, a, rfl, hd, hz, qq⟩ := q2
  cases rx
  obtain ⟨m1, m2⟩ := met_heap I3 e (fun _ h => by cases h)
  refine ⟨[(k, a, w2)], ⟨rfl, rfl, met_is (val := .none) I3 ⟨hd, hz⟩, trivial⟩, m1, fun h' tk' m' hs' => ?_⟩
  have m2' : h'.DictOfH (nestedKind X.prog X.w) s.heap.objs.size [(k, a, w2)] := m'
  have he : ∃ q, h'.get? s.heap.objs.size = some q := let ⟨q, _, _, hq, _⟩ := m2'; ⟨q, hq⟩
  exact wpAny_pure ⟨.ref _, _, d_write I3 (by rw [e]; exact True.intro) hs' he (met_new X.prog X.w m2 m2'), rfl, qq w2⟩
end
section
variable {ι : Type} {G : Gx} {W : Wd} {k : Nat} {X : ι → Cx} {Γ Γ1 Γ2 : List Sl} {a b c e : Expr} {p pos pos' : Pos} {t : Tv} {y : Str} {key : NestedKey} {ks : List NestedKey}
theorem u9 {X : ι → Cx} (C : Ctx W k X) (j : ι) : (X j).A.units + 9 < cLine := by have h := (C.room j).un; omega
/-- {k: v} -/
theorem qf_metD (C : Ctx W k X) (hG : W.G = G) (gw : G.w = W.w) (ha : PV G X Γ a (.d key.data) Γ1) (hb : PV G X Γ1 b t Γ2) (hd : key.depth ≤ 8) (ht : ∃ ds, key.data = .tuple ds) : PF G X Γ (.Dict [some a] [b] pos) (.met [key]) Γ2 := by
  subst hG
  obtain ⟨ra, a1, a2⟩ := ha
  obtain ⟨rb, b1, b2⟩ := hb
  refine ⟨tDispM W.w W.G.K ra rb, fun j => by have z := pe_dispM (pos := pos) (u9 C j) (a1 j) (b1 j); rw [C.w j, C.K j] at z; exact z, fun F σ H Hb E Q q => fun n hn => ?_⟩
  have E1 := (E.lay (o := .ext (metF W.w n [])) hn).frame upd_same (E.hbn hn) (E.notN hn)
  refine a2 _ σ _ Hb E1 _ fun v H1 Hb1 E1' s1 r1 => b2 _ σ H1 Hb1 E1' _ fun w H2 Hb2 E2 s2 r2 => ?_
  obtain ⟨E3, g1, g2, g3⟩ := E2.unframe (E.fn hn)
  obtain ⟨ds, hds⟩ := ht
  have r1' : Dp W.G.K Hb1 v (.tuple ds) := hds ▸ r1
  obtain ⟨l, vs, rfl, _, _⟩ := dp_tup r1'
  have r1b : Dp W.G.K Hb2 (.ref l) key.data := dp_up s2 r1
  refine ⟨g1, key, l, rfl, dp_up E2.sub r1b, hd, fun val => ?_⟩
  obtain ⟨E4, g4, g5, g6⟩ := (E2.reframe (o' := .ext (metF W.w n [(key, l, val)])) (E.fn hn)).unframe (E.fn hn)
  exact q n _ _ Hb2 E4 (s1.trans s2) g4 ⟨[(key, l, val)], by rw [gw], rfl, fun x hx => by
    cases List.mem_singleton.mp hx
    exact ⟨r1b, hd⟩⟩ (E.fn hn) g5 g6
/-- k not in d, d owned -/
theorem qb_mnin (C : Ctx W k X) (hG : W.G = G) (gw : G.w = W.w) (s : Nat) (ha : PV G X Γ a (.d key.data) Γ1) (hd : key.depth ≤ 8) (ht : ∃ ds, key.data = .tuple ds) (h1 : Γ1[s]? = some (.ow (.met ks)) := by rfl) (hN : ∀ j, (X j).N[s]? = some y := by intro _; rfl)
    (hv : ∀ j, Vis (X j).env.scope y := by intro _; first | exact Or.inl rfl | exact Or.inr (Or.inl rfl) | exact Or.inr (Or.inr rfl)) (hdb : (y == ("__debug__" : Str)) = false := by decide) (hcd : (y == ("__classdict__" : Str)) = false := by decide) (hm : behindInMarks .NotIn (.Name y p) = false := by rfl) :
    PB G X Γ (.Compare a [.NotIn] [.Name y p] pos) (!decide (key ∈ ks)) Γ1 := by
  subst hG
  obtain ⟨ra, a1, a2⟩ := ha
  refine ⟨_, fun j => pt_cmpR (r := rMetNin W.w W.G.K) (by have z := op_metNin (u9 C j); rw [C.w j, C.K j] at z; exact z) (a1 j) (pe_var (hN j) (hv j) hdb hcd) hm, fun F σ H Hb E Q q => a2 F σ H Hb E _ fun v H1 Hb1 E1 s1 r1 => ?_⟩
  obtain ⟨l, ho, e1, _, _, e4, e5⟩ := E1.ow h1
  cases ho <;> first | exact (e5 : False).elim | skip
  obtain ⟨xs, rfl, rfl, hx⟩ := e5
  obtain ⟨ds, hds⟩ := ht
  have r1' : Dp W.G.K Hb1 v (.tuple ds) := hds ▸ r1
  obtain ⟨n, vs, rfl, _, _⟩ := dp_tup r1'
  refine ⟨_, e1, key, n, l, xs, rfl, rfl, by rw [← gw]; exact e4, fun x hq => ⟨dp_up E1.sub (hx x hq).1, (hx x hq).2⟩, dp_up E1.sub r1, hd, _, rfl, q H1 Hb1 E1 s1⟩
end
section
variable {G : Gx} {W : Wd} {k : Nat} {X : Cx} {Γ Γ1 Γ2 : List Sl} {y : Str} {b e : Expr} {p pos pos' : Pos} {t : Tv} {key : NestedKey} {ks : List NestedKey}
/-- d[k] = v -/
theorem qs_mput (C : Ctx W k (one X)) (hG : W.G = G) (gw : G.w = W.w) (s : Nat) (he : PV G (one X) Γ e t Γ1) (hb : PV G (one X) Γ1 b (.d key.data) Γ2) (hd : key.depth ≤ 8) (ht : ∃ ds, key.data = .tuple ds) (hn : key ∉ ks) (hz : ks.length < 100000) (h0 : ∃ kv0, Γ1[s]? = some (.ow (.met kv0)) := by exact ⟨_, rfl⟩) (h1 : Γ2[s]? = some (.ow (.met ks)) := by rfl) (hN : X.N[s]? = some y := by rfl)
    (hv : Vis X.env.scope y := by first | exact Or.inl rfl | exact Or.inr (Or.inl rfl) | exact Or.inr (Or.inr rfl)) (hdb : (y == ("__debug__" : Str)) = false := by decide) (hcd : (y == ("__classdict__" : Str)) = false := by decide)
    (hs : swapsWith e (some (.Subscript (.Name y p) b pos')) pos.line X.env = pure false := by rfl) : QS G X Γ (.Assign [.Subscript (.Name y p) b pos'] e pos) (.nx (Γ2.set s (.ow (.met (ks ++ [key]))))) := by
  subst hG
  obtain ⟨re, e1, e2⟩ := he
  obtain ⟨rb, b1, b2⟩ := hb
  refine ⟨_, by have z := ps_mput (pos := pos) (u9 C ()) (pe_var hN hv hdb hcd) (b1 ()) (e1 ()) hs; exact z, fun F σ H Hb E D w => e2 F σ H Hb E _ fun v H1 Hb1 E1 s1 r1 => ?_⟩
  obtain ⟨kv0, h0⟩ := h0
  obtain ⟨l, ho, f1, _⟩ := E1.ow h0
  refine ⟨_, f1, b2 F σ H1 Hb1 E1 _ fun u H2 Hb2 E2 s2 r2 => ?_⟩
  obtain ⟨l', ho', g1, _, _, g4, g5⟩ := E2.ow h1
  rw [f1] at g1
  cases g1
  cases ho' <;> first | exact (g5 : False).elim | skip
  obtain ⟨xs, rfl, rfl, hx⟩ := g5
  obtain ⟨ds, hds⟩ := ht
  have r2' : Dp W.G.K Hb2 u (.tuple ds) := hds ▸ r2
  obtain ⟨n, vs, rfl, _, _⟩ := dp_tup r2'
  have hw : X.w = W.w := C.w ()
  have hK : X.K = W.G.K := C.K ()
  refine ⟨key, n, l, xs, rfl, rfl, by rw [hw, ← gw]; exact g4, fun x hq => by rw [hK]; exact ⟨dp_up E2.sub (hx x hq).1, (hx x hq).2⟩, by rw [hK]; exact dp_up E2.sub r2, hd, by rw [List.length_map] at hz; exact small_sz (Nat.le_of_lt hz), hn, fun val => ?_⟩
  exact w σ _ Hb2 (E2.mut h1 f1 ⟨xs ++ [(key, n, val)], by rw [hw, ← gw], by rw [List.map_append]; rfl, fun x hq => by
    rcases List.mem_append.mp hq with h | h
    · exact hx x h
    · cases List.mem_singleton.mp h
      exact ⟨r2, hd⟩⟩) (s1.trans s2)
end
end Lk
set_option Elab.async false
set_option linter.all false
set_option maxRecDepth 100000
set_option maxHeartbeats 2000000
/-! H1: rules and plain facts for law_all. -/
namespace Lk
open PySem PySem.Spec PyProof.Rows L2
open PySem.W (AllAlike Sortable dataLe dataLt alike alikeAll)
/-! ### carts as data -/
theorem al_W (a b : List Int) : alike (eW a) (eW b) = true := by
  show alike (.tuple (a.map PyData.int)) (.tuple (b.map PyData.int)) = true
  rw [alike]
  exact PySem.W.alike_ints a b
theorem al_C (a b : LC) : alike (eC a) (eC b) = true := by
  have h := al_W a.2 b.2
  simp [alike, alikeAll, eC, h]
theorem allAlike_C (xs : List LC) : AllAlike (xs.map eC) := PySem.W.AllAlike.of al_C
theorem sortable_C (xs : List LC) : Sortable (xs.map eC) := PySem.W.Sortable.tuples fun b => ⟨_, _, rfl⟩
def leC (a b : LC) : Bool := dataLe false id (eC a) (eC b)
def sortC (xs : List LC) : List LC := xs.mergeSort leC
theorem sort_C (xs : List LC) : (xs.map eC).mergeSort (dataLe false id) = (sortC xs).map eC := sort_map (fun _ _ => rfl) xs
theorem depthAll_ints : ∀ l : List Int, PyData.depthAll (l.map PyData.int) = 0
  | [] => rfl
  | x :: l => by rw [List.map_cons, PyData.depthAll, depthAll_ints l]; rfl
theorem canLayAll_ints : ∀ l : List Int, PyData.canLayAll0 (l.map PyData.int) = true
  | [] => rfl
  | x :: l => by rw [List.map_cons, PyData.canLayAll0, canLayAll_ints l]; rfl
theorem sz_W (w : List Int) : (eW w).canLay0 = true ∧ (eW w).depth ≤ 1 := by
  have h1 := depthAll_ints w
  have h2 := canLayAll_ints w
  simp [eW, PyData.canLay0, PyData.depth, h1, h2]
theorem sz_C (c : LC) : (eC c).canLay0 = true ∧ (eC c).depth ≤ 2 := by
  obtain ⟨h1, h2⟩ := sz_W c.2
  simp only [eC, PyData.canLay0, PyData.canLayAll0, PyData.depth, PyData.depthAll, Bool.and_eq_true, h1]
  refine ⟨by simp, by omega⟩
theorem d8_C (xs : List LC) : ∀ d ∈ xs.map eC, d.depth ≤ 8 := fun d h => by
  obtain ⟨x, _, rfl⟩ := List.mem_map.mp h
  exact Nat.le_trans (sz_C x).2 (by decide)
theorem noway_C (s : List LC) : NoWay (s.map eC) := by
  intro w hw e
  cases s with
  | nil =>
    simp only [ways10, List.mem_cons, List.not_mem_nil, or_false] at hw
    rcases hw with rfl | rfl | rfl | rfl | rfl | rfl | rfl | rfl | rfl | rfl <;> cases e
  | cons c s =>
    cases w with
    | nil => cases e
    | cons i w => cases e
theorem sz_St (s : List LC) : (eSt s).canLay0 = true ∧ (eSt s).depth ≤ 3 := by
  have h : ∀ l : List LC, PyData.canLayAll0 (l.map eC) = true ∧ PyData.depthAll (l.map eC) ≤ 2 := fun l => by
    induction l with
    | nil => exact ⟨rfl, Nat.zero_le _⟩
    | cons c l ih =>
      obtain ⟨h1, h2⟩ := sz_C c
      rw [List.map_cons, PyData.canLayAll0, PyData.depthAll, h1, ih.1]
      exact ⟨rfl, by have := ih.2; omega⟩
  obtain ⟨h1, h2⟩ := h s
  simp only [eSt, PyData.canLay0, PyData.depth, h1]
  exact ⟨trivial, by omega⟩
theorem shaped_St (s : List LC) : SeqAt.shaped (eSt s) = true := shaped_sm ⟨(sz_St s).1, Nat.le_trans (sz_St s).2 (by decide)⟩
theorem eqv_St0 (s : List LC) : PyData.eqv (eSt s) (.tuple []) = s.isEmpty := by
  cases s with
  | nil => rfl
  | cons c s => rfl
/-! ### stands as keys -/
def keyW (w : List Int) : NestedKey := .tup (w.map NestedKey.num)
def keyC (c : LC) : NestedKey := .tup [.num c.1, keyW c.2]
def keyS (s : List LC) : NestedKey := .tup (s.map keyC)
theorem datas_map {α : Type} {f : α → NestedKey} {g : α → PyData} (h : ∀ a, (f a).data = g a) : ∀ l : List α, NestedKey.datas (l.map f) = l.map g
  | [] => rfl
  | a :: l => by rw [List.map_cons, NestedKey.datas, h, datas_map h l, List.map_cons]
theorem keyW_data (w : List Int) : (keyW w).data = eW w := by
  unfold keyW eW
  rw [NestedKey.data, datas_map (g := PyData.int) (fun _ => rfl)]
theorem keyC_data (c : LC) : (keyC c).data = eC c := by
  unfold keyC eC
  rw [NestedKey.data, NestedKey.datas, NestedKey.datas, NestedKey.datas, keyW_data, NestedKey.data]
theorem keyS_data (s : List LC) : (keyS s).data = eSt s := by
  unfold keyS eSt
  rw [NestedKey.data, datas_map keyC_data]
theorem depthAll_le {α : Type} {f : α → NestedKey} {n : Nat} (h : ∀ a, (f a).depth ≤ n) : ∀ l : List α, NestedKey.depthAll (l.map f) ≤ n
  | [] => Nat.zero_le _
  | a :: l => by
    have h1 := h a
    have h2 := depthAll_le h l
    rw [List.map_cons, NestedKey.depthAll]
    omega
theorem keyS_depth (s : List LC) : (keyS s).depth ≤ 8 := by
  have hw : ∀ w, (keyW w).depth ≤ 1 := fun w => by
    have h := depthAll_le (f := NestedKey.num) (n := 0) (fun _ => Nat.le_refl _) w
    unfold keyW
    rw [NestedKey.depth]
    omega
  have hc : ∀ c, (keyC c).depth ≤ 2 := fun c => by
    have h := hw c.2
    unfold keyC
    simp only [NestedKey.depth, NestedKey.depthAll]
    omega
  have h := depthAll_le hc s
  unfold keyS
  rw [NestedKey.depth]
  omega
theorem map_inj {α β : Type} {f : α → β} (h : ∀ a b, f a = f b → a = b) : ∀ l m : List α, l.map f = m.map f → l = m
  | [], [], _ => rfl
  | [], _ :: _, e => by cases e
  | _ :: _, [], e => by cases e
  | a :: l, b :: m, e => by
    rw [List.map_cons, List.map_cons, List.cons.injEq] at e
    rw [h _ _ e.1, map_inj h l m e.2]
theorem keyC_inj (a b : LC) (h : keyC a = keyC b) : a = b := by
  obtain ⟨a1, a2⟩ := a
  obtain ⟨b1, b2⟩ := b
  injection h with h
  injection h with h1 h
  injection h with h2 h
  injection h1 with h1
  injection h2 with h2
  have h3 := map_inj (fun _ _ e => by injection e) _ _ h2
  have h1' : a1 = b1 := h1
  have h3' : a2 = b2 := h3
  rw [h1', h3']
theorem keyS_inj (a b : List LC) (h : keyS a = keyS b) : a = b := by
  injection h with h
  exact map_inj keyC_inj _ _ h
theorem keyS_mem (s : List LC) (rows : List (List LC)) : decide (keyS s ∈ rows.map keyS) = decide (s ∈ rows) := by
  apply decide_eq_decide.mpr
  constructor
  · intro h
    obtain ⟨x, hx, e⟩ := List.mem_map.mp h
    rw [← keyS_inj _ _ e]
    exact hx
  · exact fun h => List.mem_map.mpr ⟨s, h, rfl⟩
end Lk
set_option Elab.async false
set_option linter.all false
set_option maxRecDepth 100000
set_option maxHeartbeats 2000000
/-! H2: law_all. -/
namespace Lk
open PySem PySem.Spec PyProof.Rows L2
section
variable {G : Gx} {W : Wd} {k : Nat} {X : Cx} {Γ Γ1 Γ2 : List Sl} {pos p1 p2 p3 p4 pt pt2 : Pos} {a b c d : Expr} {x y z u : Str} {s1 s2 s3 s4 : Sl} {kt k2 : _}
theorem qs_tup3 (C : Ctx W k (one X)) (hG : W.G = G) (i j l : Nat) (ha : PM G (one X) Γ [a, b, c] [s1, s2, s3] Γ1) (hi : X.N[i]? = some x := by rfl) (hj : X.N[j]? = some y := by rfl) (hl : X.N[l]? = some z := by rfl)
    (hx : Loc X.env.scope x := by first | exact Or.inl rfl | exact Or.inr rfl) (hy : Loc X.env.scope y := by first | exact Or.inl rfl | exact Or.inr rfl) (hz : Loc X.env.scope z := by first | exact Or.inl rfl | exact Or.inr rfl)
    (hfx : X.fn x = true ∨ X.env.scope.names.lookup x = some .local := by first | exact .inl rfl | exact .inr rfl) (hfy : X.fn y = true ∨ X.env.scope.names.lookup y = some .local := by first | exact .inl rfl | exact .inr rfl) (hfz : X.fn z = true ∨ X.env.scope.names.lookup z = some .local := by first | exact .inl rfl | exact .inr rfl)
    (hs1 : (assignEach [.Name x p1, .Name y p2, .Name z p3] X.env).map (·.2) = assign (.Name x p1) X.env :: (assignEach [.Name y p2, .Name z p3] X.env).map (·.2) := by rfl) (hs2 : (assignEach [.Name y p2, .Name z p3] X.env).map (·.2) = assign (.Name y p2) X.env :: (assignEach [.Name z p3] X.env).map (·.2) := by rfl)
    (hs3 : (assignEach [.Name z p3] X.env).map (·.2) = assign (.Name z p3) X.env :: (assignEach [] X.env).map (·.2) := by rfl)
    (hn : (assignEach [.Name x p1, .Name y p2, .Name z p3] X.env).length = 3 := by rfl) (hst : (assignEach [.Name x p1, .Name y p2, .Name z p3] X.env).findIdx? (·.1) = none := by rfl) (hs : swapsWithSole [.Tuple [.Name x p1, .Name y p2, .Name z p3] kt pt] (.Tuple [a, b, c] k2 pt2) pos.line X.env = pure false := by rfl) (hw : swappedStores [.Tuple [.Name x p1, .Name y p2, .Name z p3] kt pt] (.Tuple [a, b, c] k2 pt2) X.env = pure none := by rfl)
    (h1 : (assignEach [.Tuple [.Name x p1, .Name y p2, .Name z p3] kt pt] X.env).map (·.2) = [assign (.Tuple [.Name x p1, .Name y p2, .Name z p3] kt pt) X.env] := by rfl) : QS G X Γ (.Assign [.Tuple [.Name x p1, .Name y p2, .Name z p3] kt pt] (.Tuple [a, b, c] k2 pt2) pos) (.nx (((Γ1.set i s1).set j s2).set l s3)) :=
  qs_tupm C hG [i, j, l] ha (pgs_cons (pg_name (C.nd ()) hi hx hfx) (pgs_cons (pg_name (C.nd ()) hj hy hfy) (pgs_cons (pg_name (C.nd ()) hl hz hfz) pgs_nil hs3) hs2) hs1) rfl (Nat.le_of_ble_eq_true rfl) hn hst hs hw h1
theorem qs_tup4 (C : Ctx W k (one X)) (hG : W.G = G) (i j l m : Nat) (ha : PM G (one X) Γ [a, b, c, d] [s1, s2, s3, s4] Γ1) (hi : X.N[i]? = some x := by rfl) (hj : X.N[j]? = some y := by rfl) (hl : X.N[l]? = some z := by rfl) (hm : X.N[m]? = some u := by rfl)
    (hx : Loc X.env.scope x := by first | exact Or.inl rfl | exact Or.inr rfl) (hy : Loc X.env.scope y := by first | exact Or.inl rfl | exact Or.inr rfl) (hz : Loc X.env.scope z := by first | exact Or.inl rfl | exact Or.inr rfl) (hu : Loc X.env.scope u := by first | exact Or.inl rfl | exact Or.inr rfl)
    (hfx : X.fn x = true ∨ X.env.scope.names.lookup x = some .local := by first | exact .inl rfl | exact .inr rfl) (hfy : X.fn y = true ∨ X.env.scope.names.lookup y = some .local := by first | exact .inl rfl | exact .inr rfl) (hfz : X.fn z = true ∨ X.env.scope.names.lookup z = some .local := by first | exact .inl rfl | exact .inr rfl) (hfu : X.fn u = true ∨ X.env.scope.names.lookup u = some .local := by first | exact .inl rfl | exact .inr rfl)
    (hs1 : (assignEach [.Name x p1, .Name y p2, .Name z p3, .Name u p4] X.env).map (·.2) = assign (.Name x p1) X.env :: (assignEach [.Name y p2, .Name z p3, .Name u p4] X.env).map (·.2) := by rfl) (hs2 : (assignEach [.Name y p2, .Name z p3, .Name u p4] X.env).map (·.2) = assign (.Name y p2) X.env :: (assignEach [.Name z p3, .Name u p4] X.env).map (·.2) := by rfl)
    (hs3 : (assignEach [.Name z p3, .Name u p4] X.env).map (·.2) = assign (.Name z p3) X.env :: (assignEach [.Name u p4] X.env).map (·.2) := by rfl) (hs4 : (assignEach [.Name u p4] X.env).map (·.2) = assign (.Name u p4) X.env :: (assignEach [] X.env).map (·.2) := by rfl)
    (hn : (assignEach [.Name x p1, .Name y p2, .Name z p3, .Name u p4] X.env).length = 4 := by rfl) (hst : (assignEach [.Name x p1, .Name y p2, .Name z p3, .Name u p4] X.env).findIdx? (·.1) = none := by rfl) (hs : swapsWithSole [.Tuple [.Name x p1, .Name y p2, .Name z p3, .Name u p4] kt pt] (.Tuple [a, b, c, d] k2 pt2) pos.line X.env = pure false := by rfl) (hw : swappedStores [.Tuple [.Name x p1, .Name y p2, .Name z p3, .Name u p4] kt pt] (.Tuple [a, b, c, d] k2 pt2) X.env = pure none := by rfl)
    (h1 : (assignEach [.Tuple [.Name x p1, .Name y p2, .Name z p3, .Name u p4] kt pt] X.env).map (·.2) = [assign (.Tuple [.Name x p1, .Name y p2, .Name z p3, .Name u p4] kt pt) X.env] := by rfl) : QS G X Γ (.Assign [.Tuple [.Name x p1, .Name y p2, .Name z p3, .Name u p4] kt pt] (.Tuple [a, b, c, d] k2 pt2) pos) (.nx ((((Γ1.set i s1).set j s2).set l s3).set m s4)) :=
  qs_tupm C hG [i, j, l, m] ha (pgs_cons (pg_name (C.nd ()) hi hx hfx) (pgs_cons (pg_name (C.nd ()) hj hy hfy) (pgs_cons (pg_name (C.nd ()) hl hz hfz) (pgs_cons (pg_name (C.nd ()) hm hu hfu) pgs_nil hs4) hs3) hs2) hs1) rfl (Nat.le_of_ble_eq_true rfl) hn hst hs hw h1
end
abbrev Sd := List LC
def eOS : Option Sd → PyData
  | none => .none
  | some s => eSt s
def headC (w : List Int) : LC := (geti w 1, w)
def inStep (bm : BM) (s : Sd) (acc : List Sd) (w : List Int) : List Sd := if comesF bm s (headC w) = true then acc ++ [s ++ [headC w]] else acc
def cartAt (s : Sd) (i : Nat) : LC := s[i]?.getD (0, [])
def leftAt (s : Sd) (i : Nat) : Sd := s.take i ++ s.drop (i + 1)
def lateAt (s : Sd) (i : Nat) : LC := onL (cartAt s i)
def nextAt (bm : BM) (s : Sd) (i : Nat) : Sd := if (getB bm (lateAt s i).1).isSome = true then leftAt s i ++ [lateAt s i] else leftAt s i
def goStep (bm : BM) (s : Sd) (st : Nat × List Sd) (i : Nat) : Nat × List Sd := if comesF bm (leftAt s i) (lateAt s i) = true then (st.1 + 1, st.2 ++ [nextAt bm s i]) else st
def addStep (rows : List Sd) (one : Sd) : List Sd := if one ∈ rows then rows else rows ++ [one]
def foundF (bm : BM) (ways : List (List Int)) (s : Sd) : Nat × List Sd := (List.range s.length).foldl (goStep bm s) (0, ways.foldl (inStep bm s) [])
def stuckNext (s : Sd) (n : Nat) (stuck : Option Sd) : Option Sd := if (!s.isEmpty && (decide (n = 0) && stuck.isNone)) = true then some s else stuck
def rowAtD (rows : List Sd) (m : Nat) : Sd := rows[m]?.getD []
def turnA (bm : BM) (ways : List (List Int)) (m : Nat) (st : List Sd × Option Sd) : List Sd × Option Sd :=
  (((foundF bm ways (rowAtD st.1 m)).2.map sortC).foldl addStep st.1, stuckNext (rowAtD st.1 m) (foundF bm ways (rowAtD st.1 m)).1 st.2)
def allIt (bm : BM) (ways : List (List Int)) : Nat → List Sd × Option Sd
  | 0 => ([[]], none)
  | m + 1 => turnA bm ways m (allIt bm ways m)
structure LandOk (bm : BM) (ways : List (List Int)) : Prop where
  sm : ∀ p ∈ bm, bkSmall p.2 = true
  wl : ways.length ≤ 50
  hd : ∀ w ∈ ways, atI w 1 = some (geti w 1) ∧ lcOk (headC w) = true
  on : ∀ c : LC, c.2 ∈ ways → lcOk c = true → getB bm (onL c).1 ≠ none → lcOk (onL c) = true
structure AllOk (bm : BM) (ways : List (List Int)) (n : Nat) : Prop where
  land : LandOk bm ways
  go : ∀ m, m < n → m < (allIt bm ways m).1.length
  stop : (allIt bm ways n).1.length ≤ n
  sz : ∀ m, m ≤ n → (allIt bm ways m).1.length ≤ 5000
  st : ∀ m, m ≤ n → ∀ s ∈ (allIt bm ways m).1, s.length ≤ 300 ∧ ∀ c ∈ s, lcOk c = true ∧ c.2 ∈ ways
theorem inF_len (bm : BM) (s : Sd) : ∀ (ws : List (List Int)) (acc : List Sd), (ws.foldl (inStep bm s) acc).length ≤ acc.length + ws.length
  | [], acc => Nat.le_refl _
  | w :: ws, acc => by
    have h := inF_len bm s ws (inStep bm s acc w)
    have h2 : (inStep bm s acc w).length ≤ acc.length + 1 := by unfold inStep; split <;> simp
    rw [List.foldl_cons, List.length_cons]
    omega
end Lk
set_option Elab.async false
set_option linter.all false
set_option maxRecDepth 100000
set_option maxHeartbeats 2000000
/-! S1: sorted of a tuple. -/
namespace PySem.W
open PySem PySem.Calls PyProof.Rows
section
variable {prog : Program} {w : World} {A : Around} {E : Value → Shared → Prop} {s : Shared} {vs : List Value}
theorem lk_collect_tup {l : Addr} {Q : List Value → Shared → Prop} (hl : IsTup s.heap l vs.toArray)
    (h : Q vs { s with heap := (s.heap.push (seqObj "list" #[] 0)).update s.heap.objs.size (Obj.mapSeq (· ++ vs.toArray)) }) (hsz : vs.length ≤ sizeLine) :
    wpAny (model prog w) A (collect (.ref l)) Q E s := by
  obtain ⟨o, ho, hc, n, hd⟩ := id hl
  unfold collect
  refine wpAny_bind (wpAny_runValue (codeAny_builtin entry_proto_collect' ?_))
  show wpAny _ _ (do again (.builtin "list.__iadd__" ⟨[← newList [], .ref l], []⟩)) _ _ s
  refine wpAny_bind (wpAny_newList (wpAny_pure ⟨Code.quiet_builtin _ (by decide +kernel), codeAny_builtin entry_list_iadd' ?_⟩))
  show wpAny _ _ (Builtin.List.listExtendWith (.ref s.heap.objs.size) (.ref l) (.ref s.heap.objs.size)) _ _ { s with heap := s.heap.push (seqObj "list" #[] 0) }
  unfold Builtin.List.listExtendWith
  have ho' : (s.heap.push (seqObj "list" #[] 0)).get? l = some o := Heap.get?_push_of_some _ ho
  refine wpAny_bind (wpAny_typeOf (T := "tuple") ⟨o, ho', hc⟩ ?_)
  have ht : (Value.type "tuple" == Value.type "tuple") = true := by rfl
  rw [if_pos (by rw [ht]; simp)]
  refine wpAny_bind (listItems_at ho' hd ?_)
  refine wpAny_bind (listItems_at (xs := #[]) (n := 0) (Heap.get?_push_size _ rfl) rfl ?_)
  rw [if_neg (by simp)]
  refine wpAny_bind (listUpdate_at (xs := #[]) (n := 0) (Heap.get?_push_size _ rfl) rfl ?_ (Nat.zero_le _) (by show (#[] ++ vs.toArray).size ≤ sizeLine + 1; simp only [Array.size_append, List.size_toArray, List.length_nil]; omega))
  refine wpAny_pure ?_
  show wpAny (model prog w) A (do
      let o ← load s.heap.objs.size
      match o.data with
      | .seq xs _ => pure xs.toList
      | _ => unsupported "internal:collect") Q E { s with heap := (s.heap.push (seqObj "list" #[] 0)).update s.heap.objs.size (Obj.mapSeq (· ++ vs.toArray)) }
  refine wpAny_bind (wpAny_load (get?_update_seq (Heap.get?_push_size _ rfl) _) ?_)
  show wpAny _ _ (pure ((#[] : Array Value) ++ vs.toArray).toList) Q E _
  rw [show ((#[] : Array Value) ++ vs.toArray).toList = vs by simp]
  exact wpAny_pure h
theorem lk_sorted_of_sort {l : Addr} {kw : List (Str × Value)} {Q : Value → Shared → Prop} (hl : IsTup s.heap l vs.toArray) (hL : vs.length ≤ sizeLine) (ha1 : argsOk "sorted" ⟨[.ref l], kw⟩) (ha2 : ∀ x, argsOk "list.sort" ⟨[.ref x], kw⟩)
    (body : ∀ E' : Value → Shared → Prop, wpAny (model prog w) A.in1.in1 (Builtin.«list.sort» ⟨[.ref (s.heap.objs.size + 1)], kw⟩) (fun f s' => f = .done (.ret .none) ∧ Q (.ref (s.heap.objs.size + 1)) s') E' { s with heap := copyHeap s.heap vs }) :
    wpAny (model prog w) A (call (.builtin "sorted") [.ref l] kw) Q E s := by
  refine call_function_entry_kw kind_sorted plain_sorted entry_sorted ha1 ?_
  unfold Builtin.«sorted»
  refine wpAny_bind (m := checkCount "sorted" 1 1 _) (wpAny_pure ?_)
  refine wpAny_bind (lk_collect_tup hl ?_ hL)
  refine wpAny_bind (wpAny_newList ?_ hL)
  have hsz : ((s.heap.push (seqObj "list" #[] 0)).update s.heap.objs.size (Obj.mapSeq (· ++ vs.toArray))).objs.size = s.heap.objs.size + 1 := by
    rw [Heap.size_update, size_push']
  show wpAny _ _ _ _ _ { s with heap := copyHeap s.heap vs }
  rw [hsz]
  refine wpAny_bind (wpAny_holding (wpAny_call_entry_kw slot_list_sort ⟨_, copyHeap_at s.heap vs, rfl⟩ entry_list_sort ?body (ha2 _)))
  case body =>
    show wpAny (model prog w) A.in1.in1 (Builtin.«list.sort» ⟨[.ref (s.heap.objs.size + 1)], kw⟩) _ _ _
    refine wpAny_mono (body _) (fun f s' hf => ?_) fun _ _ e => e
    obtain ⟨rfl, hq⟩ := hf
    exact ⟨_, rfl, wpAny_pure ⟨_, rfl, hq⟩⟩
variable {β : Type} {bs : List β} {enc : β → PyData} {R : Value → β → Prop}
theorem lk_sorted_data {l : Addr} {Q : Value → Shared → Prop} (hl : IsTup s.heap l vs.toArray) (e : EachIs R vs bs) (er : EachIs (fun v b => ∃ as, Reads s.heap v (enc b) as) vs bs) (hal : AllAlike (bs.map enc)) (hk : Sortable (bs.map enc)) (hL : bs.length ≤ sizeLine)
    (hu : ∀ b, b ∈ bs → A.units + 2 + (enc b).depth < cLine) (h : ∀ out, out.length = bs.length → EachIs R out (bs.mergeSort (dataLe false enc)) → Q (.ref (s.heap.objs.size + 1)) { s with heap := sortedAll s.heap vs (List.toArray out) }) :
    wpAny (model prog w) A (call (.builtin "sorted") [.ref l]) Q E s := by
  have er' : EachIs (fun v b => ∃ as, Reads (sortingHeap (copyHeap s.heap vs) (s.heap.objs.size + 1) vs) v (enc b) as) vs bs := er.mono fun _ _ ⟨as, r⟩ => ⟨as, PyProof.Rows.Reads.keeps (fun _ _ => sorting_copy_old) r⟩
  have hL' : vs.length ≤ sizeLine := by rw [e.length]; exact hL
  exact lk_sorted_of_sort hl hL' (args_sorted1 _) (fun _ => args_list_sort _) fun _ => list_sort_vals (s := { s with heap := copyHeap s.heap vs }) (copyHeap_at s.heap vs) (SortsAt.data (s := { s with heap := sortingHeap (copyHeap s.heap vs) (s.heap.objs.size + 1) vs } ) (each_map (R := fun v d => ∃ as, Reads (sortingHeap (copyHeap s.heap vs) (s.heap.objs.size + 1) vs) v d as) enc er') hal hk (bound_map hu)) hL'
    ⟨rfl, h _ (by rw [sortVals_length false rfl]; exact e.length) (sortVals_data false e er' hal)⟩
end
end PySem.W
namespace Lk
open PySem PySem.Spec PyProof.Rows L2
open PySem.W (EachIs AllAlike Sortable dataLe dataLt alike alikeAll sorted_data)
def rSortT (K : PySem.W.Frag) : List V → Hp → VK → Prop := fun xs H Q => ∃ (Hb : Hp) (a : Addr) (vs : List V) (ds : List PyData), Same Hb H ∧ xs = [.ref a] ∧ SqT K H a vs ∧ DpAll K Hb vs ds ∧ AllAlike ds ∧ Sortable ds ∧ (∀ d ∈ ds, d.depth ≤ 8) ∧
  ∀ (ws : List V) (p : Addr), DpAll K Hb ws (ds.mergeSort (dataLe false id)) → H p = none → Q (.ref p) (upd H p (.lst ws))
theorem cr_sortedT {X : Cx} (hu : X.A.units + 65 < cLine) : CallR X (.builtin "sorted") (rSortT X.K) := by
  intro pins s σ H xs us Q I r h
  obtain ⟨Hb, a, vs, ds, hsm, rfl, hs, hd, hal, hso, hdp, q⟩ := h
  obtain ⟨its, rv, hl, hz⟩ := I.tuple hs
  obtain rfl := Vals.ref1 r
  have e := each_of_dp rv hd
  have hlen : ds.length ≤ sizeLine := by
    have h1 := dpAll_len hd
    omega
  refine PySem.W.lk_sorted_data (enc := id) hl e (each_reads I (e.mono fun u d ⟨v, h1, h2⟩ => ⟨v, h1, dp_up hsm h2⟩)) (by rw [List.map_id]; exact hal) (by rw [List.map_id]; exact hso) hlen (fun b hb => by have z := hdp b hb; show X.A.units + 2 + b.depth < cLine; omega) fun out ho eo => ?_
  obtain ⟨ws, h1, h2⟩ := dp_of_each eo
  obtain ⟨ep, he'⟩ := PyProof.Rows.sortedAll_at s.heap its out.toArray
  exact ⟨.ref _, upd H (s.heap.objs.size + 1) (.lst ws), I.laid (t' := s.toks) (fun _ _ => PyProof.Rows.sortedAll_old) (Nat.le_succ _) ⟨by rw [h1.length, ho]; exact hlen, out, ep, h1, he'⟩, rfl, q ws _ h2 (I.hok.fresh (Nat.le_succ _))⟩
section
variable {ι : Type} {G : Gx} {W : Wd} {k : Nat} {X : ι → Cx} {Γ Γ1 Γ2 : List Sl} {e : Expr} {p pos : Pos} {ds : List PyData}
/-- sorted(e), e a tuple -/
theorem qf_sortedT (C : Ctx W k X) (hG : W.G = G) (hm : W.mg "sorted" = none) (ha : PV G X Γ e (.d (.tuple ds)) Γ1) (hal : AllAlike ds) (hso : Sortable ds) (hd : ∀ d ∈ ds, d.depth ≤ 8) (hg : ∀ j, Gl (X j) "sorted" := by intro _; rfl) (hs : ∀ j, starEach [e] (X j).env = (false, eval e (X j).env) :: starEach [] (X j).env := by intro _; rfl) : PF G X Γ (.Call (.Name "sorted" p) [e] [] pos) (.lst (ds.mergeSort (dataLe false id))) Γ1 := by
  subst hG
  refine qf_callB C (r := rSortT W.G.K) (fun j => by have h := cr_sortedT (X := X j) (room65 C j); rw [C.K j] at h; exact h) hm PyProof.Rows.boot_sorted (ql_cons ha ql_nil hs) (fun F σ H Hb vs E hr Q q => ?_) hg (hpl := fun _ => rfl) (he := hs)
  obtain ⟨v, rfl, hv⟩ := rep1 hr
  obtain ⟨x, ws, rfl, h1, h2⟩ := dp_tup hv
  exact ⟨Hb, x, ws, ds, E.sub, rfl, seqT_up E.sub h1, h2, hal, hso, hd, fun zs l hz hl => q l _ hl hz⟩
end
end Lk
set_option Elab.async false
set_option linter.all false
set_option maxRecDepth 100000
set_option maxHeartbeats 4000000
/-! H3: law_all. -/
namespace Lk
open PySem PySem.Spec PyProof.Rows L2
section
variable {G : Gx} {W : Wd} {k : Nat} {X : Cx} {Γ Γ1 Γ2 : List Sl} {a b c : Expr} {pos px py pz pt pt2 : Pos} {kt k2 : _} {x y z : Str} {s1 s2 s3 : Sl}
theorem qs_par3 (C : Ctx W k (one X)) (i j l : Nat) (ha : PM G (one X) Γ [a, b, c] [s1, s2, s3] Γ1) (hij : i ≠ j := by decide) (hil : i ≠ l := by decide) (hjl : j ≠ l := by decide) (hi : X.N[i]? = some x := by rfl) (hj : X.N[j]? = some y := by rfl) (hl : X.N[l]? = some z := by rfl)
    (hx : X.env.scope.names.lookup x = some .local := by rfl) (hy : X.env.scope.names.lookup y = some .local := by rfl) (hz : X.env.scope.names.lookup z = some .local := by rfl)
    (hw : swappedStores [.Tuple [.Name x px, .Name y py, .Name z pz] kt pt] (.Tuple [a, b, c] k2 pt2) X.env = pure (some [x, y, z]) := by rfl) (hs : swapsWithSole [.Tuple [.Name x px, .Name y py, .Name z pz] kt pt] (.Tuple [a, b, c] k2 pt2) pos.line X.env = pure false := by rfl) :
    QS G X Γ (.Assign [.Tuple [.Name x px, .Name y py, .Name z pz] kt pt] (.Tuple [a, b, c] k2 pt2) pos) (.nx (((Γ1.set i s1).set j s2).set l s3)) := by
  obtain ⟨r, r1, r2⟩ := ha
  refine ⟨tPar3 i j l r, ps_par3 (C.calm ()) (C.nd ()) hi hj hl hij hil hjl hx hy hz (r1 ()) hw hs, fun F σ H Hb E D w => r2 F σ H Hb E _ fun vs H' Hb' E' s' it => ?_⟩
  have hl := itOk_len it
  match vs, hl with
  | [v, u, t], _ => exact ⟨v, u, t, rfl, w _ H' Hb' (itOk_set (js := [i, j, l]) E' it rfl) s'⟩
end
section
variable {W : Wd}
theorem cutE {ds : List PyData} {k : Nat} (h : k ≤ ds.length) : cutD ds none (some (k : Int)) = ds.take k := by
  have e1 : HT.sIx ds.length ds.length (some (k : Int)) = k := (HT.sIx_nat ds.length ds.length k).trans (Nat.min_eq_left h)
  unfold cutD
  rw [e1, HT.sIx_none]
  rfl
theorem goF_len (bm : BM) (s : Sd) (is : List Nat) : ∀ (st : Nat × List Sd), (is.foldl (goStep bm s) st).2.length ≤ st.2.length + is.length := by
  induction is with
  | nil => exact fun st => Nat.le_refl _
  | cons i is ih =>
    intro st
    have h := ih (goStep bm s st i)
    have h2 : (goStep bm s st i).2.length ≤ st.2.length + 1 := by unfold goStep; split <;> simp
    rw [List.foldl_cons, List.length_cons]
    omega
theorem goF_fst (bm : BM) (s : Sd) (is : List Nat) : ∀ (st : Nat × List Sd), (is.foldl (goStep bm s) st).1 ≤ st.1 + is.length := by
  induction is with
  | nil => exact fun st => Nat.le_refl _
  | cons i is ih =>
    intro st
    have h := ih (goStep bm s st i)
    have h2 : (goStep bm s st i).1 ≤ st.1 + 1 := by unfold goStep; split <;> simp
    rw [List.foldl_cons, List.length_cons]
    omega
theorem ok_all (T : Tx W) : DefOk W 3 "_law_all" ["_law_books", "_law_ways"] (fun ts t => ∃ (bm : BM) (ways : List (List Int)) (n : Nat), ts = [.dct (eBM bm), .d (.list (ways.map eW))] ∧ AllOk bm ways n ∧ t = .d (.tuple [.list ((allIt bm ways n).1.map eSt), eOS (allIt bm ways n).2])) := by
  have d1 := ok_comes T
  have d2 := ok_lawon T
  refine def_ok _ T.d__law_all sc__law_all (fun ts t h => by obtain ⟨_, _, _, rfl, _⟩ := h; rfl) (fun _ _ _ _ _ _ us hl => match us, hl with | [_, _], _ => rfl) (fun f cdv A outer s H E C ts t h => ?_)
  obtain ⟨bm, ways, n, rfl, ok, rfl⟩ := h
  have L := ok.land
  have hwl := L.wl
  let en : List Sd → Option Sd → Int → Sl → Sl → Sl → Sl → Sl → Sl → Sl → Sl → Sl → List Sl := fun rows stuck m s6 s7 s8 s9 s10 s11 s12 s13 s14 => [.fr (.dct (eBM bm)), .fr (.d (.list (ways.map eW))), .ow (.lst (rows.map eSt)), .ow (.met (rows.map keyS)), .fr (.d (eOS stuck)), .fr (.d (.int m)), s6, s7, s8, s9, s10, s11, s12, s13, s14, .no]
  let env : Nat → List Sl := fun m => en (allIt bm ways m).1 (allIt bm ways m).2 m .no .no .no .no .no .no .no .no .no
  refine qb_cons (qs_tup4 C rfl 2 3 4 5 (s1 := .ow (.lst [eSt []])) (s2 := .ow (.met [keyS []])) (s3 := .fr (.d .none)) (s4 := .fr (.d (.int 0))) (qm_ow (qf_lst (qd_cons (qv_tup (ds := []) qd_nil) qd_nil)) (qm_ow (qf_metD C rfl T.gw (key := keyS []) (qv_eq (qv_tup (ds := []) qd_nil) (by rw [keyS_data]; rfl)) (qv_bl) (keyS_depth _) ⟨[], keyS_data []⟩) (qm_fr qv_non (qm_fr qv_int qm_nil)))))
    (qb_cons (qs_while env n (fun F σ H Hb E => E)
      (fun m hm => qb_eq (qb_peek (w := .lst ((allIt bm ways m).1.map eSt)) 2 (qb_lt (qv_var 5) (qv_lenL (ds := (allIt bm ways m).1.map eSt) C rfl T.m_len (qv_var 2))) (hs := rfl)) (by
        rw [List.length_map]
        by_cases hlt : m < n
        · have := ok.go m hlt
          rw [decide_eq_true hlt]
          exact decide_eq_true (by omega)
        · have e : m = n := by omega
          subst e
          have := ok.stop
          rw [decide_eq_false hlt]
          exact decide_eq_false (by omega)))
      (fun m hm => ?body)) (qb_frz 2 rfl (qb_rt (qv_tup (ds := [.list ((allIt bm ways n).1.map eSt), eOS (allIt bm ways n).2]) (qd_cons (qv_var 2) (qd_cons (qv_var 4) qd_nil))) rfl)))
  case body =>
    have hgo := ok.go m hm
    have hst := ok.st m (by omega)
    have hszm := ok.sz m (by omega)
    have hnx : allIt bm ways (m + 1) = turnA bm ways m (allIt bm ways m) := rfl
    have hen : env m = en (allIt bm ways m).1 (allIt bm ways m).2 (m : Int) .no .no .no .no .no .no .no .no .no := rfl
    have hen2 : env (m + 1) = en (allIt bm ways (m + 1)).1 (allIt bm ways (m + 1)).2 ((m + 1 : Nat) : Int) .no .no .no .no .no .no .no .no .no := rfl
    rw [hen, hen2, hnx]
    clear hen hen2 hnx
    generalize hr : allIt bm ways m = r at *
    obtain ⟨rows, stuck⟩ := r
    have hget : rows[m]? = some (rowAtD rows m) := by unfold rowAtD; rw [List.getElem?_eq_getElem hgo]; rfl
    generalize hsd : rowAtD rows m = sd at *
    obtain ⟨hs1, hs2⟩ := hst sd (List.mem_of_getElem? hget)
    have hat : atI (rows.map eSt) (m : Int) = some (eSt sd) := atI_map (f := eSt) (by rw [atI_pos (by omega) (by simpa using hgo)]; exact hget)
    have hm1 : ((m : Int) + 1) = ((m + 1 : Nat) : Int) := by omega
    have hf1 := inF_len bm sd ways []
    have hf2 := goF_len bm sd (List.range sd.length) (0, ways.foldl (inStep bm sd) [])
    have hf3 := goF_fst bm sd (List.range sd.length) (0, ways.foldl (inStep bm sd) [])
    simp only [List.length_range, List.length_nil] at hf1 hf2 hf3
    let f := foundF bm ways sd
    let eF : List Sl := en rows stuck ((m + 1 : Nat) : Int) (.fr (.d (eSt sd))) (.ow (.lst (f.2.map eSt))) (.fr (.d (.int (f.1 : Nat)))) .no .no .no .no .no .no
    refine ⟨_, qb_cons (qs_par3 C 6 7 8 (s1 := .fr (.d (eSt sd))) (s2 := .ow (.lst [])) (s3 := .fr (.d (.int 0))) (qm_fr (qv_ixO (ds := rows.map eSt) C rfl 2 (qv_var 5) hat) (qm_ow (qf_lst qd_nil) (qm_fr qv_int qm_nil))))
      (qb_cons (qs_set (t := .d (.int ((m + 1 : Nat) : Int))) C 5 (qv_eq (qv_add (qv_var 5) qv_int) (by rw [hm1])))
      (qb_cons (qs_forM C rfl ways eW (fun acc : List Sd => en rows stuck ((m + 1 : Nat) : Int) (.fr (.d (eSt sd))) (.ow (.lst (acc.map eSt))) (.fr (.d (.int 0))) .no .no .no .no .no .no) (inStep bm sd) [] (fun i acc => acc.length ≤ i) (qi_list C rfl (qv_var 1)) (qg_name C 9) (Nat.le_refl _) (fun F σ H Hb E => E) ?ways)
      (qb_cons (qs_forM C rfl (List.range sd.length) (fun i : Nat => PyData.int (0 + (i : Int))) (fun st : Nat × List Sd => en rows stuck ((m + 1 : Nat) : Int) (.fr (.d (eSt sd))) (.ow (.lst (st.2.map eSt))) (.fr (.d (.int (st.1 : Nat)))) .no .no .no .no .no .no) (goStep bm sd) (0, ways.foldl (inStep bm sd) []) (fun i st => st.2.length ≤ 50 + i ∧ st.1 ≤ i) ?rng (qg_name C 11) ⟨by simpa using (by omega : (ways.foldl (inStep bm sd) []).length ≤ 50), Nat.le_refl _⟩ (fun F σ H Hb E => E) ?going)
      (qb_cons (qs_if (Γ1 := eF) (m := !sd.isEmpty && (decide (f.1 = 0) && stuck.isNone)) (o := .nx (en rows (stuckNext sd f.1 stuck) ((m + 1 : Nat) : Int) (.fr (.d (eSt sd))) (.ow (.lst (f.2.map eSt))) (.fr (.d (.int (f.1 : Nat)))) .no .no .no .no .no .no)) ?cond ?stuck ?nstuck)
      (qb_frz 7 rfl (qb_cons (qs_forM C rfl (f.2.map sortC) eSt (fun rs : List Sd => en rs (stuckNext sd f.1 stuck) ((m + 1 : Nat) : Int) (.fr (.d (eSt sd))) (.fr (.d (.list (f.2.map eSt)))) (.fr (.d (.int (f.1 : Nat)))) .no .no .no .no .no .no) addStep rows (fun i rs => rs.length ≤ rows.length + i) ?comp (qg_name C 14) (Nat.le_refl _) (fun F σ H Hb E => E) ?adds) qb_nil)))))), ?_⟩
    case rng => exact qi_rng1 (n := (sd.length : Nat)) C T.m_range (qv_eq (qv_lenT (ds := sd.map eC) C rfl T.m_len (qv_var 6)) (by rw [List.length_map])) (by omega) (by omega)
    case cond =>
      have hN : isN (.d (eOS stuck)) = stuck.isNone := by cases stuck <;> rfl
      exact qb_w (qw_and (qb_eq (qb_neD C rfl (qv_var 6) (qv_tup (ds := []) qd_nil) (shaped_St sd) rfl) (by rw [eqv_St0])) fun _ => qw_and (qb_eq (qb_eqD C rfl (qv_var 8) qv_int rfl rfl) (eqv_nat f.1 0)) fun _ => qw_and1 (qb_eq (qb_isN (qv_var 4)) hN))
    case stuck =>
      intro h
      have e : stuckNext sd f.1 stuck = some sd := if_pos h
      rw [e]
      exact qb_cons (qs_set C 4 (qv_var 6)) qb_nil
    case nstuck =>
      intro h
      have e : stuckNext sd f.1 stuck = stuck := if_neg (by rw [h]; decide)
      rw [e]
      exact qb_nil
    case ways =>
      intro i acc w hw hI
      have hwm := List.mem_of_getElem? hw
      have hi : i < 50 := by have := (List.getElem?_eq_some_iff.mp hw).1; omega
      obtain ⟨hh1, hh2⟩ := L.hd w hwm
      have hz : (acc.map eSt).length < 100000 := by rw [List.length_map]; omega
      have hz2 : (sd.map eC).length + ([eC (headC w)] : List PyData).length ≤ 100000 := by rw [List.length_map]; show sd.length + 1 ≤ 100000; omega
      have hI' : acc.length ≤ i := hI
      have hlen : (inStep bm sd acc w).length ≤ acc.length + 1 := by unfold inStep; split <;> simp
      have hcat : sd.map eC ++ [eC (headC w)] = (sd ++ [headC w]).map eC := by simp
      refine ⟨by show (inStep bm sd acc w).length ≤ i + 1; omega, ?_⟩
      cases hc : comesF bm sd (headC w) with
      | true =>
        have e : inStep bm sd acc w = acc ++ [sd ++ [headC w]] := by unfold inStep; rw [if_pos hc]
        rw [e]
        have e2 : acc.map eSt ++ [eSt (sd ++ [headC w])] = (acc ++ [sd ++ [headC w]]).map eSt := by simp
        exact ⟨_, qb_cons (qs_set C 10 (qv_tup (ds := [.int (geti w 1), eW w]) (qd_cons (qv_ixT (d := .int (geti w 1)) C rfl (qv_var 9) qv_int (atI_map (f := PyData.int) hh1)) (qd_cons (qv_var 9) qd_nil))))
          (qb_cons (qs_if (m := true) (o := .nx (en rows stuck ((m + 1 : Nat) : Int) (.fr (.d (eSt sd))) (.ow (.lst ((acc ++ [sd ++ [headC w]]).map eSt))) (.fr (.d (.int 0))) (.fr (.d (eW w))) (.fr (.d (eC (headC w)))) .no .no .no .no)) (qb_eq (qb_val (qv_call C rfl d1 (ql_cons (qv_var 0) (ql_cons (qv_var 6) (ql_cons (qv_var 10) ql_nil))) ⟨bm, sd, headC w, rfl, L.sm, fun q hq => (hs2 q hq).1, fun _ => hh2, by omega, rfl⟩)) hc)
            (fun _ => qb_cons (e2 ▸ qs_app (ds := acc.map eSt) (d := eSt (sd ++ [headC w])) C rfl 7 (qv_eq (qv_catT (ds := sd.map eC) (ds2 := [eC (headC w)]) C rfl (qv_var 6) (qv_tup (ds := [eC (headC w)]) (qd_cons (qv_var 10) qd_nil)) hz2 (hcat ▸ noway_C _)) (by rw [hcat]; rfl)) hz) qb_nil) (fun z => by cases z)) qb_nil), fun F σ H Hb E => (E.drop 9).drop 10⟩
      | false =>
        have e : inStep bm sd acc w = acc := by unfold inStep; rw [hc]; rfl
        rw [e]
        exact ⟨_, qb_cons (qs_set C 10 (qv_tup (ds := [.int (geti w 1), eW w]) (qd_cons (qv_ixT (d := .int (geti w 1)) C rfl (qv_var 9) qv_int (atI_map (f := PyData.int) hh1)) (qd_cons (qv_var 9) qd_nil))))
          (qb_cons (qs_if (m := false) (o := .nx (en rows stuck ((m + 1 : Nat) : Int) (.fr (.d (eSt sd))) (.ow (.lst (acc.map eSt))) (.fr (.d (.int 0))) (.fr (.d (eW w))) (.fr (.d (eC (headC w)))) .no .no .no .no)) (qb_eq (qb_val (qv_call C rfl d1 (ql_cons (qv_var 0) (ql_cons (qv_var 6) (ql_cons (qv_var 10) ql_nil))) ⟨bm, sd, headC w, rfl, L.sm, fun q hq => (hs2 q hq).1, fun _ => hh2, by omega, rfl⟩)) hc)
            (fun z => by cases z) (fun _ => qb_nil)) qb_nil), fun F σ H Hb E => (E.drop 9).drop 10⟩
    case going =>
      intro i st a ha hI
      obtain ⟨hI1, hI2⟩ : st.2.length ≤ 50 + i ∧ st.1 ≤ i := hI
      have hil := (List.getElem?_eq_some_iff.mp ha).1
      rw [List.length_range] at hil
      have hai : a = i := by
        rw [List.getElem?_range hil] at ha
        exact (Option.some.inj ha).symm
      subst hai
      have hgc : sd[a]? = some (cartAt sd a) := by unfold cartAt; rw [List.getElem?_eq_getElem hil]; rfl
      obtain ⟨hck, hcw⟩ := hs2 _ (List.mem_of_getElem? hgc)
      have h01 : (0 + (a : Int)) = (a : Int) := by omega
      have h02 : (0 + (a : Int)) + 1 = ((a + 1 : Nat) : Int) := by omega
      have hat2 : atI (sd.map eC) (0 + (a : Int)) = some (eC (cartAt sd a)) := atI_map (f := eC) (by rw [h01, atI_pos (by omega) (by simpa using hil)]; exact hgc)
      have hcut1 : cutD (sd.map eC) none (some (a : Int)) = (sd.take a).map eC := by rw [cutE (by rw [List.length_map]; omega), List.map_take]
      have hcut2 : cutD (sd.map eC) (some ((a + 1 : Nat) : Int)) none = (sd.drop (a + 1)).map eC := by rw [cutN (by rw [List.length_map]; omega), List.map_drop]
      have hcat1 : (sd.take a).map eC ++ (sd.drop (a + 1)).map eC = (leftAt sd a).map eC := by unfold leftAt; rw [List.map_append]
      have hz3 : ((sd.take a).map eC).length + ((sd.drop (a + 1)).map eC).length ≤ 100000 := by rw [List.length_map, List.length_map, List.length_take, List.length_drop]; omega
      have hll : (leftAt sd a).length ≤ 500 := by unfold leftAt; rw [List.length_append, List.length_take, List.length_drop]; omega
      have hleft : ∀ q ∈ leftAt sd a, lcOk q = true := fun q hq => by
        rcases List.mem_append.mp hq with h | h
        · exact (hs2 q (List.mem_of_mem_take h)).1
        · exact (hs2 q (List.mem_of_mem_drop h)).1
      have hlate : getB bm (lateAt sd a).1 ≠ none → lcOk (lateAt sd a) = true := L.on _ hcw hck
      have hlen : (goStep bm sd st a).2.length ≤ st.2.length + 1 ∧ (goStep bm sd st a).1 ≤ st.1 + 1 := by unfold goStep; split <;> simp
      refine ⟨⟨by omega, by omega⟩, ?_⟩
      have hz : (st.2.map eSt).length < 100000 := by rw [List.length_map]; omega
      cases hc : comesF bm (leftAt sd a) (lateAt sd a) with
      | true =>
        have e : goStep bm sd st a = (st.1 + 1, st.2 ++ [nextAt bm sd a]) := by unfold goStep; rw [if_pos hc]
        rw [e]
        have e2 : st.2.map eSt ++ [eSt (nextAt bm sd a)] = (st.2 ++ [nextAt bm sd a]).map eSt := by simp
        have h03 : ((st.1 : Nat) : Int) + 1 = ((st.1 + 1 : Nat) : Int) := by omega
        have hz4 : ((leftAt sd a).map eC).length + ([eC (lateAt sd a)] : List PyData).length ≤ 100000 := by rw [List.length_map]; show (leftAt sd a).length + 1 ≤ 100000; omega
        have hcat2 : (leftAt sd a).map eC ++ [eC (lateAt sd a)] = (leftAt sd a ++ [lateAt sd a]).map eC := by simp
        exact ⟨_, qb_cons (qs_set (t := .d (eC (lateAt sd a))) C 12 (qv_call C rfl d2 (ql_cons (qv_ixT (d := eC (cartAt sd a)) C rfl (qv_var 6) (qv_var 11) hat2) ql_nil) ⟨cartAt sd a, rfl, hck, rfl⟩))
          (qb_cons (qs_set (t := .d (eSt (leftAt sd a))) C 13 (qv_eq (qv_catT (ds := (sd.take a).map eC) (ds2 := (sd.drop (a + 1)).map eC) C rfl (qv_eq (qv_slT (lo := none) (hi := some (a : Int)) C rfl (qv_var 6) qp_none (qp_some (qv_eq (qv_var 11) (by rw [h01]))) (hcut1 ▸ noway_C _)) (by rw [hcut1])) (qv_eq (qv_slT (lo := some ((a + 1 : Nat) : Int)) (hi := none) C rfl (qv_var 6) (qp_some (qv_eq (qv_add (qv_var 11) qv_int) (by rw [h02]))) qp_none (hcut2 ▸ noway_C _)) (by rw [hcut2])) hz3 (hcat1 ▸ noway_C _)) (by rw [hcat1]; rfl)))
          (qb_cons (qs_if (m := true) (o := .nx (en rows stuck ((m + 1 : Nat) : Int) (.fr (.d (eSt sd))) (.ow (.lst ((st.2 ++ [nextAt bm sd a]).map eSt))) (.fr (.d (.int ((st.1 + 1 : Nat) : Int)))) .no .no (.fr (.d (.int (0 + (a : Int))))) (.fr (.d (eC (lateAt sd a)))) (.fr (.d (eSt (leftAt sd a)))) .no)) (qb_eq (qb_val (qv_call C rfl d1 (ql_cons (qv_var 0) (ql_cons (qv_var 13) (ql_cons (qv_var 12) ql_nil))) ⟨bm, leftAt sd a, lateAt sd a, rfl, L.sm, hleft, hlate, hll, rfl⟩)) hc)
            (fun _ => qb_cons (qs_set (t := .d (.int ((st.1 + 1 : Nat) : Int))) C 8 (qv_eq (qv_add (qv_var 8) qv_int) (by rw [h03]))) (qb_cons (e2 ▸ qs_app (ds := st.2.map eSt) (d := eSt (nextAt bm sd a)) C rfl 7 (qv_if (m := (getB bm (lateAt sd a).1).isSome) (t := .d (eSt (nextAt bm sd a))) (qb_eq (qb_din C (qv_ixT (d := .int (lateAt sd a).1) C rfl (qv_var 12) qv_int rfl) (qv_var 0)) (by rw [dget_eBM, Option.isSome_map]))
                (fun h => qv_eq (qv_catT (ds := (leftAt sd a).map eC) (ds2 := [eC (lateAt sd a)]) C rfl (qv_var 13) (qv_tup (ds := [eC (lateAt sd a)]) (qd_cons (qv_var 12) qd_nil)) hz4 (hcat2 ▸ noway_C _)) (by rw [hcat2]; unfold nextAt; rw [if_pos h]; rfl))
                (fun h => qv_eq (qv_var 13) (by unfold nextAt; rw [h]; rfl))) hz) qb_nil)) (fun z => by cases z)) qb_nil)), fun F σ H Hb E => ((E.drop 11).drop 12).drop 13⟩
      | false =>
        have e : goStep bm sd st a = st := by unfold goStep; rw [hc]; rfl
        rw [e]
        exact ⟨_, qb_cons (qs_set (t := .d (eC (lateAt sd a))) C 12 (qv_call C rfl d2 (ql_cons (qv_ixT (d := eC (cartAt sd a)) C rfl (qv_var 6) (qv_var 11) hat2) ql_nil) ⟨cartAt sd a, rfl, hck, rfl⟩))
          (qb_cons (qs_set (t := .d (eSt (leftAt sd a))) C 13 (qv_eq (qv_catT (ds := (sd.take a).map eC) (ds2 := (sd.drop (a + 1)).map eC) C rfl (qv_eq (qv_slT (lo := none) (hi := some (a : Int)) C rfl (qv_var 6) qp_none (qp_some (qv_eq (qv_var 11) (by rw [h01]))) (hcut1 ▸ noway_C _)) (by rw [hcut1])) (qv_eq (qv_slT (lo := some ((a + 1 : Nat) : Int)) (hi := none) C rfl (qv_var 6) (qp_some (qv_eq (qv_add (qv_var 11) qv_int) (by rw [h02]))) qp_none (hcut2 ▸ noway_C _)) (by rw [hcut2])) hz3 (hcat1 ▸ noway_C _)) (by rw [hcat1]; rfl)))
          (qb_cons (qs_if (m := false) (o := .nx (en rows stuck ((m + 1 : Nat) : Int) (.fr (.d (eSt sd))) (.ow (.lst (st.2.map eSt))) (.fr (.d (.int (st.1 : Nat)))) .no .no (.fr (.d (.int (0 + (a : Int))))) (.fr (.d (eC (lateAt sd a)))) (.fr (.d (eSt (leftAt sd a)))) .no)) (qb_eq (qb_val (qv_call C rfl d1 (ql_cons (qv_var 0) (ql_cons (qv_var 13) (ql_cons (qv_var 12) ql_nil))) ⟨bm, leftAt sd a, lateAt sd a, rfl, L.sm, hleft, hlate, hll, rfl⟩)) hc)
            (fun z => by cases z) (fun _ => qb_nil)) qb_nil)), fun F σ H Hb E => ((E.drop 11).drop 12).drop 13⟩
    case adds =>
      intro i rs one hone hI
      have hI' : rs.length ≤ rows.length + i := hI
      have hszm' : rows.length ≤ 5000 := hszm
      have hfl : f.2.length ≤ 350 := by show (foundF bm ways sd).2.length ≤ 350; unfold foundF; omega
      have hil := (List.getElem?_eq_some_iff.mp hone).1
      rw [List.length_map] at hil
      have hlen : (addStep rs one).length ≤ rs.length + 1 := by unfold addStep; split <;> simp
      refine ⟨by show (addStep rs one).length ≤ rows.length + (i + 1); omega, ?_⟩
      have hz : (rs.map eSt).length < 100000 := by rw [List.length_map]; omega
      have hzk : (rs.map keyS).length < 100000 := by rw [List.length_map]; omega
      by_cases hin : one ∈ rs
      · have e : addStep rs one = rs := if_pos hin
        rw [e]
        exact ⟨_, qb_cons (qs_if (m := false) (o := .nx (en rs (stuckNext sd f.1 stuck) ((m + 1 : Nat) : Int) (.fr (.d (eSt sd))) (.fr (.d (.list (f.2.map eSt)))) (.fr (.d (.int (f.1 : Nat)))) .no .no .no .no .no (.fr (.d (eSt one)))))
          (qb_eq (qb_mnin (key := keyS one) (ks := rs.map keyS) C rfl T.gw 3 (qv_eq (qv_var 14) (by rw [keyS_data])) (keyS_depth one) ⟨_, keyS_data one⟩) (by rw [keyS_mem, decide_eq_true hin]; rfl)) (fun z => by cases z) (fun _ => qb_nil)) qb_nil, fun F σ H Hb E => E.drop 14⟩
      · have e : addStep rs one = rs ++ [one] := if_neg hin
        rw [e]
        have e2 : rs.map eSt ++ [eSt one] = (rs ++ [one]).map eSt := by simp
        have e3 : rs.map keyS ++ [keyS one] = (rs ++ [one]).map keyS := by simp
        have hnk : keyS one ∉ rs.map keyS := fun h => hin (of_decide_eq_true ((keyS_mem one rs).symm.trans (decide_eq_true h)))
        exact ⟨_, qb_cons (qs_if (m := true) (o := .nx [.fr (.dct (eBM bm)), .fr (.d (.list (ways.map eW))), .ow (.lst (rs.map eSt ++ [eSt one])), .ow (.met (rs.map keyS ++ [keyS one])), .fr (.d (eOS (stuckNext sd f.1 stuck))), .fr (.d (.int ((m + 1 : Nat) : Int))), .fr (.d (eSt sd)), .fr (.d (.list (f.2.map eSt))), .fr (.d (.int (f.1 : Nat))), .no, .no, .no, .no, .no, .fr (.d (eSt one)), .no])
          (qb_eq (qb_mnin (key := keyS one) (ks := rs.map keyS) C rfl T.gw 3 (qv_eq (qv_var 14) (by rw [keyS_data])) (keyS_depth one) ⟨_, keyS_data one⟩) (by rw [keyS_mem, decide_eq_false hin]; rfl))
          (fun _ => qb_cons (qs_mput (key := keyS one) (ks := rs.map keyS) C rfl T.gw 3 qv_bl (qv_eq (qv_var 14) (by rw [keyS_data])) (keyS_depth one) ⟨_, keyS_data one⟩ hnk hzk) (qb_cons (qs_app (ds := rs.map eSt) (d := eSt one) C rfl 2 (qv_var 14) hz) qb_nil)) (fun z => by cases z)) qb_nil, fun F σ H Hb E => by rw [e2, e3] at E; exact E.drop 14⟩
    case comp =>
      have hfl : f.2.length ≤ 100000 := by show (foundF bm ways sd).2.length ≤ 100000; unfold foundF; omega
      exact qi_list C rfl (qv_eq (qv_new (qf_lcP C (lcA C rfl f.2 eSt (fun q => eSt (sortC q)) (en rows (stuckNext sd f.1 stuck) ((m + 1 : Nat) : Int) (.fr (.d (eSt sd))) (.fr (.d (.list (f.2.map eSt)))) (.fr (.d (.int (f.1 : Nat)))) .no .no .no .no .no .no)
          (fun q => [.fr (.dct (eBM bm)), .fr (.d (.list (ways.map eW))), .ow (.lst (rows.map eSt)), .ow (.met (rows.map keyS)), .fr (.d (eOS (stuckNext sd f.1 stuck))), .fr (.d (.int ((m + 1 : Nat) : Int))), .fr (.d (eSt sd)), .fr (.d (.list (f.2.map eSt))), .fr (.d (.int (f.1 : Nat))), .no, .no, .no, .no, .no, .no, .fr (.d (eSt q))])
          (qi_list C rfl (qv_var 7)) (qg_name C.blk 15) (fun q _ => qv_tupleL C.blk rfl T.m_tuple (qv_eq (qv_new (qf_sortedT (ds := q.map eC) C.blk rfl T.m_sorted (qv_var 15) (allAlike_C _) (sortable_C _) (d8_C _))) (by rw [sort_C]; rfl)) (noway_C _)) hfl) (own := [("_law_some", 15)]) (fun _ => bo_by rfl))) (by rw [List.map_map]; rfl))
    intro F σ H Hb E
    have e : turnA bm ways m (rows, stuck) = ((f.2.map sortC).foldl addStep rows, stuckNext sd f.1 stuck) := by unfold turnA; rw [hsd]
    rw [e]
    exact ((E.drop 6).drop 7).drop 8
end
end Lk
set_option Elab.async false
set_option linter.all false
set_option maxRecDepth 100000
set_option maxHeartbeats 2000000
/-! K1: defs that are called while no guard stands. -/
namespace Lk
open PySem PySem.Spec PyProof.Rows L2
structure FnOkG (P : Program) (w : World) (K : PySem.W.Frag) (mg : Str → Option Value) (base : Heap) (CX : CXT) (k : Nat) (f : Addr) (fd : FuncData) (ps : List Str) (sp : Sp) : Prop where
  len : ∀ vs H Q E, sp vs H Q E → vs.length = ps.length
  run : ∀ (A : Around) (outer : List Env) (s : Shared) (H : Hp) (args : Args) (us : List Value) (vs : List V) (Q : VK) (E : XK), Room k A → A.guards = some [] → Env0 P w K mg base A outer s H → BindsTo s fd args (ps.zip us) → Vals vs us → sp vs H Q E →
    codeAny (model P w) A (.call (.ref f) args) (CR CX outer P w H s Q E) s
theorem deeperG {A : Around} {env : Env} (h : A.guards = some []) : (A.deeper env).guards = some [] := h
theorem FnOkG.mono {P : Program} {w : World} {K : PySem.W.Frag} {mg : Str → Option Value} {base : Heap} {CX : CXT} {j k : Nat} {f : Addr} {fd : FuncData} {ps : List Str} {sp : Sp} (F : FnOkG P w K mg base CX j f fd ps sp) (h : j ≤ k) :
    FnOkG P w K mg base CX k f fd ps sp := ⟨F.len, fun A outer s H args us vs Q E hr => F.run A outer s H args us vs Q E (hr.mono h)⟩
theorem fn_ofG {CX : CXT} {P : Program} {w : World} {K : PySem.W.Frag} {mg : Str → Option Value} {base : Heap} {k : Nat} {f : Addr} {name qual : Str} {params : Arguments} {body : List Stmt} {scope : Scope} {dV kV doc pm cdv ct oc : Value} {an od : Option Addr}
    {osl : Array (Option Value)} {N ps : List Str} {sp : Sp} (lk : K.lookup f = some ⟨oc, od, .func (PySem.W.fnOf name qual params body scope dV kV doc pm an cdv ct), osl⟩) (hcd : PySem.W.codeIn K cdv qual = true) (S : FnScope N ps scope)
    (len : ∀ vs H Q E, sp vs H Q E → vs.length = ps.length)
    (hbody : ∀ (A : Around) (outer : List Env) (s : Shared) (H : Hp) (vs : List V) (Q : VK) (E : XK), Room k (A.deeper (envOfC qual scope s.heap.objs.size f cdv)) → A.guards = some [] → sp vs H Q E →
      ∃ t, PSs (cxOf CX P w K mg base N qual scope f cdv A outer s H E) body t ∧ t { nx := fun _ H' => Q .non H', rt := Q } (L2.start N vs) H) :
    FnOkG P w K mg base CX (k + 1) f (PySem.W.fnOf name qual params body scope dV kV doc pm an cdv ct) ps sp := by
  refine ⟨len, fun A outer s H args us vs Q E hr hgd e0 hb r hsp => ?_⟩
  have hl := len _ _ _ _ hsp
  have KX : K.In s.heap := e0.mod.kin.keeps fun b o e => (e0.bs b o e).1
  have lim : s.heap.NoLimit := e0.mod.nolimit.keeps fun b o e => (e0.bs b o e).1
  have hkind : ∀ y ∈ ps.zip us, scope.names.lookup y.1 = some .local ∨ (scope.names.lookup y.1 = some .cell ∧ ((cellsFrom (s.heap.objs.size + 1) scope.names []).lookup y.1).isSome = true) := fun ⟨n, v⟩ hy => by
    rcases S.par n (List.of_mem_zip hy).1 with q | q
    · exact .inl q
    · exact .inr ⟨q, PySem.W.cellsFrom_some _ _ _ (.inl q)⟩
  refine codeAny_call_function hr.depth (KX _ _ lk) rfl S.co S.gen rfl (PySem.W.codeRec_of KX hcd) (hb _ _ _ _ ?_)
  refine wpAny_newFunctionEnv_cells S.kind hkind fun env he s1 x => ?_
  subst he
  refine ⟨lim.keeps x.toInCall.keep, codeAny_func ?_⟩
  obtain ⟨t, ht, hq⟩ := hbody A outer s H vs Q E (hr.deeper _) hgd hsp
  have I : Inv (cxOf CX P w K mg base N qual scope f cdv A outer s H E) [] (L2.start N vs) H s1 := inv_start S hr.hd e0 hl r x
  refine wpAny_mono (ht.run [] s1 (L2.start N vs) H _ I hq) (fun fl s' hs => ?_) fun e s' hs => hs
  cases fl with
  | ret u =>
    obtain ⟨v, σ', H', J, rv, q⟩ := hs
    exact ⟨v, H', J.os, J.bare, J.base, J.hok, rv, q⟩
  | next =>
    obtain ⟨σ', H', J, q⟩ := hs
    exact ⟨V.non, H', J.os, J.bare, J.base, J.hok, rfl, q⟩
  | brk =>
    obtain ⟨_, _, _, q⟩ := hs
    exact False.elim q
  | cont =>
    obtain ⟨_, _, _, q⟩ := hs
    exact False.elim q
section
variable {X : Cx} {CX : CXT} {k : Nat} {f : Addr} {fd : FuncData} {ps : List Str} {sp : Sp} {x : Str} {p pos : Pos} {e : Expr} {es : List Expr} {t : TA}
theorem run_fnG {pins : List (Addr × Obj)} {σ : L2.St} {H : Hp} {s : Shared} {Q : VK} {us : List Value} {vs : List V} {ds : List Value} {dvs : List V} {E : XK} (F : FnOkG X.prog X.w X.K X.mg X.base CX k f fd ps sp) (hr : Room k X.A) (hgd : X.A.guards = some []) (hb : Binds X.K fd ps ds) (hd : Vals dvs ds) (hx : Passes CX X E)
    (I : Inv X pins σ H s) (r : Vals vs us) (h : sp (vs ++ dvs) H Q E) : wpAny (model X.prog X.w) X.A (call (.ref f) us) (EP X pins σ Q) X.xe s := by
  have r2 : Vals (vs ++ dvs) (us ++ ds) := r.append hd
  have hl : (us ++ ds).length = ps.length := by rw [← r2.length]; exact F.len _ _ _ _ h
  refine wpAny_call (codeAny_mono (F.run X.A X.stack s H ⟨us, []⟩ (us ++ ds) (vs ++ dvs) Q E hr hgd I.env0 (hb s us I.kIn hl) r2 h) fun r s' hq => ?_)
  cases r with
  | error e => exact hx pins σ H s e s' I hq
  | ok fl =>
    cases fl with
    | ret u => exact I.after hq
    | next => exact False.elim hq
    | brk => exact False.elim hq
    | cont => exact False.elim hq
theorem pe_callG {ds : List Value} {dvs : List V} {E : XK} (F : FnOkG X.prog X.w X.K X.mg X.base CX k f fd ps sp) (hr : Room k X.A) (hgd : X.A.guards = some []) (hg : Gl X x) (hm : X.mg x = some (.ref f)) (hk : PySem.W.keepIn X.K (.ref f) = true) (hb : Binds X.K fd ps ds) (hd : Vals dvs ds) (hx : Passes CX X E)
    (ha : PA X (e :: es) t) (hdb : (x == ("__debug__" : Str)) = false := by decide) (he : starEach (e :: es) X.env = (false, eval e X.env) :: starEach es X.env := by rfl) (hpl : (backTo pos (starEach es X.env)).any (·.1) = false := by rfl) :
    PE X (.Call (.Name x p) (e :: es) [] pos) (tCall sp dvs E t) := by
  refine ⟨fun pins s σ H Q I h => ?_⟩
  refine wpAny_Call_Name_kw (ld_glob I hg hm ?_ hdb)
  refine PySem.W.callWith_K (h₀ := X.base) I.ok.mod.kin hk (thn (ha.run pos pins s σ H _ I h) fun us s1 ⟨vs, H1, I1, r, q⟩ => ⟨I1.kIn, ?_⟩) he hpl
  exact run_fnG F hr hgd hb hd hx I1 r q
end
end Lk
set_option Elab.async false
set_option linter.all false
set_option maxRecDepth 100000
set_option maxHeartbeats 2000000
/-! K2: the rules for defs that are called while no guard stands. -/
namespace Lk
open PySem PySem.Spec PyProof.Rows L2
def DefOkPG (W : Wd) (k : Nat) (x : Str) (ps : List Str) (R : Int × Int → List Tv → Tv → Int × Int → Prop) : Prop := ∃ f fd, W.mg x = some (.ref f) ∧ PySem.W.keepIn W.G.K (.ref f) = true ∧ Binds W.G.K fd ps [] ∧ FnOkG W.P W.w W.G.K W.mg W.base CX0 k f fd ps (spP W.G R)
theorem defPG_ok {W : Wd} {x : Str} {st : Stmt} {N ps : List Str} {k : Nat} (R : Int × Int → List Tv → Tv → Int × Int → Prop) (T : DefT W x st) (S : FnScope N ps (defScope st)) (hlen : ∀ p ts t p', R p ts t p' → ts.length + 1 = ps.length)
    (hbind : ∀ (kV doc pm : Value) (an : Option Addr) (cdv ct : Value) (us : List Value), us.length = ps.length → bindArgs (PySem.W.fnOf x x (defArgs st) (defBody st) (defScope st) .none kV doc pm an cdv ct) ⟨us, []⟩ = pure (ps.zip us))
    (hbody : ∀ (f : Addr) (cdv : Value) (A : Around) (outer : List Env) (s : Shared) (H : Hp) (E : XK), A.guards = some [] → Ctx W k (one (cx W N x (defScope st) f cdv A outer s H E)) → ∀ a p ts t p', R p ts t p' → QB W.G (cx W N x (defScope st) f cdv A outer s H E) (startGP N a p ts) (defBody st) (.rto t 0 (.pot a p'.1 p'.2))) : DefOkPG W (k + 1) x ps R := by
  obtain ⟨f, fd, hm, F⟩ := T.ex
  have Fk := F.kp
  have Fb := F.bindsN hbind
  obtain ⟨oc, od, dV, kV, doc, pm, an, cdv, ct, osl, rfl, lk, hcd, _, _⟩ := F.ex
  refine ⟨f, _, hm, Fk, Fb, fn_ofG lk hcd S (fun vs H Q E h => ?_) (fun A outer s H vs Q E hr hgd h => ?_)⟩
  · obtain ⟨a, vs', Hb, ts, t, p, p', rfl, _, _, _, _, h1, h2, _⟩ := h
    rw [List.length_cons, Paired.length h1]
    exact hlen p ts t p' h2
  · obtain ⟨a, vs', Hb, ts, t, p, p', rfl, ha, hb, h0, h1, h2, h3, q⟩ := h
    have C : Ctx W k (one (cx W N x (defScope st) f cdv A outer s H E)) := ⟨fun _ => rfl, fun _ => rfl, fun _ => rfl, fun _ => rfl, fun _ => rfl, fun _ => rfl, fun _ => S.nd, fun _ => hr⟩
    obtain ⟨r, r1, r2⟩ := hbody f cdv A outer s H E hgd C a p ts t p' h3
    obtain ⟨F', E0, f1, f2⟩ := env_startP (N := N) h0 h1 h2 ha hb
    refine ⟨r, PSs.nox r1, r2 _ _ _ _ E0 _ fun v σ' Γ' H' Hb' E' g' s' r' => ?_⟩
    obtain ⟨b, ho, e1, e2, e3, e4, e5⟩ := E'.ow g'
    cases ho <;> first | exact (e5 : False).elim | skip
    obtain ⟨rfl, rfl⟩ := e5
    refine q H' Hb' v E'.tp e4 e3 (fun b o hb' e => ?_) s' E'.sub (fun b hb' hb2 hn => ?_) r'
    · cases z : Hb b with
      | none => exact (E'.frm b o (by rw [f2 b hb' z]; exact e)).1
      | some u =>
        have e3 := h1 b u z
        rw [e] at e3
        cases e3
        exact E'.sub b o (s' b o z)
    · cases e : H b with
      | none => exact absurd e hb2
      | some o => exact (E'.frm b o (by rw [f2 b hb' hn]; exact e)).2
section
variable {ι : Type} {W : Wd} {G : Gx} {k j : Nat} {X : ι → Cx} {Γ Γ1 : List Sl} {x y : Str} {ps : List Str} {R : Int × Int → List Tv → Tv → Int × Int → Prop} {b e : Expr} {es : List Expr} {p pp pos : Pos} {ts : List Tv} {t : Tv} {a : Addr} {w w' : Int × Int}
theorem qv_callPFG (C : Ctx W k X) (hgd : ∀ i, (X i).A.guards = some []) (hG : W.G = G) (d : DefOkPG W j x ps R) (he0 : PF G X Γ e (.lst [.int w.1, .int w.2]) Γ1) (hr : R w [] t w') (hj : j ≤ k := by decide)
    (hg : ∀ i, Gl (X i) x := by intro _; rfl) (hdb : (x == ("__debug__" : Str)) = false := by decide) (he : ∀ i, starEach [e] (X i).env = (false, eval e (X i).env) :: starEach [] (X i).env := by intro _; rfl) (hpl : ∀ i, (backTo pos (starEach [] (X i).env)).any (·.1) = false := by intro _; rfl) :
    PV G X Γ (.Call (.Name x p) [e] [] pos) t Γ1 := by
  subst hG
  obtain ⟨f, fd, hm, hk, hb, F⟩ := d
  obtain ⟨u, u1, u2⟩ := he0
  refine ⟨tCall (spP W.G R) [] E0 (tCons u tNil), fun i => ?_, fun F' σ H Hb E Q q => ?_⟩
  · have F2 : FnOkG (X i).prog (X i).w (X i).K (X i).mg (X i).base CX0 j f fd ps (spP W.G R) := by
      rw [C.prog i, C.w i, C.K i, C.mg i, C.base i]
      exact F
    exact pe_callG F2 ((C.room i).mono hj) (hgd i) (hg i) (by rw [C.mg i]; exact hm) (by rw [C.K i]; exact hk) (by rw [C.K i]; exact hb) .nil pass0 (pa_cons (u1 i) pa_nil (he i)) hdb (he i) (hpl i)
  · refine u2 F' σ H Hb E _ fun a ho H1 Hb1 E1 s1 g2 g5 g4 g3 gn => ?_
    cases ho <;> first | exact (g5 : False).elim | skip
    rename_i vs
    have hvs : vs = [.int w.1, .int w.2] := dpAll_ints (ns := [w.1, w.2]) g5
    subst hvs
    show spP W.G R [.ref a] H1 Q E0
    refine ⟨a, [], Hb1, [], t, w, w', rfl, g2, g3, E1.tp, E1.sub, .nil, hr, fun H' Hb' v a000 a0 a00 a1 a2 a3 a4 a5 => q v H' Hb' ?_ (s1.trans a2) a5⟩
    refine ⟨E1.len, a3, fun b o e => ?_, fun i sl hs => ?_, E1.ap, a000⟩
    · have nb : b ≠ a := fun z => by subst z; rw [g4] at e; cases e
      exact ⟨a1 _ _ nb (E1.frm b o e).1, a4 b nb (by rw [(E1.frm b o e).1]; intro z; cases z) (E1.frm b o e).2⟩
    · have z := E1.sl i sl hs
      cases sl with
      | no => exact z
      | fr t' =>
        obtain ⟨v', e1, e2⟩ := z
        exact ⟨v', e1, rep_up a2 e2⟩
      | ow o =>
        obtain ⟨b, ho, e1, e2, e3, e4, e5⟩ := z
        have nb : b ≠ a := fun z => by subst z; exact gn i o hs e1
        exact ⟨b, ho, e1, e2, a4 b nb (by rw [e4]; intro z; cases z) e3, a1 _ _ nb e4, owc_up a2 e5⟩
end
def DefOkG (W : Wd) (k : Nat) (x : Str) (ps : List Str) (R : List Tv → Tv → Prop) : Prop := ∃ f fd, W.mg x = some (.ref f) ∧ PySem.W.keepIn W.G.K (.ref f) = true ∧ Binds W.G.K fd ps [] ∧ FnOkG W.P W.w W.G.K W.mg W.base CX0 k f fd ps (spV W.G R)
theorem defG_ok {W : Wd} {x : Str} {st : Stmt} {N ps : List Str} {k : Nat} (R : List Tv → Tv → Prop) (T : DefT W x st) (S : FnScope N ps (defScope st)) (hlen : ∀ ts t, R ts t → ts.length = ps.length)
    (hbind : ∀ (kV doc pm : Value) (an : Option Addr) (cdv ct : Value) (us : List Value), us.length = ps.length → bindArgs (PySem.W.fnOf x x (defArgs st) (defBody st) (defScope st) .none kV doc pm an cdv ct) ⟨us, []⟩ = pure (ps.zip us))
    (hbody : ∀ (f : Addr) (cdv : Value) (A : Around) (outer : List Env) (s : Shared) (H : Hp) (E : XK), A.guards = some [] → Ctx W k (one (cx W N x (defScope st) f cdv A outer s H E)) → ∀ ts t, R ts t → QB W.G (cx W N x (defScope st) f cdv A outer s H E) (startG N ts) (defBody st) (.rt t)) : DefOkG W (k + 1) x ps R := by
  obtain ⟨f, fd, hm, F⟩ := T.ex
  have Fk := F.kp
  have Fb := F.bindsN hbind
  obtain ⟨oc, od, dV, kV, doc, pm, an, cdv, ct, osl, rfl, lk, hcd, _, _⟩ := F.ex
  refine ⟨f, _, hm, Fk, Fb, fn_ofG lk hcd S (fun vs H Q E h => ?_) (fun A outer s H vs Q E hr hgd h => ?_)⟩
  · obtain ⟨Hb, ts, t, _, _, h1, h2, _⟩ := h
    rw [Paired.length h1]
    exact hlen ts t h2
  · obtain ⟨Hb, ts, t, h0, h1, h2, h3, q⟩ := h
    have C : Ctx W k (one (cx W N x (defScope st) f cdv A outer s H E)) := ⟨fun _ => rfl, fun _ => rfl, fun _ => rfl, fun _ => rfl, fun _ => rfl, fun _ => rfl, fun _ => S.nd, fun _ => hr⟩
    obtain ⟨r, r1, r2⟩ := hbody f cdv A outer s H E hgd C ts t h3
    refine ⟨r, PSs.nox r1, r2 _ _ _ _ (env_start h0 h1 h2) _ fun v σ' Γ' H' Hb' E' s' r' => ?_⟩
    refine q H' Hb' v E'.tp (fun b o e => ?_) s' E'.sub (fun b hb hn => ?_) r'
    · by_cases z : Hb b = none
      · exact (E'.frm b o (by show (if Hb b = none then H b else none) = some o; rw [if_pos z]; exact e)).1
      · cases e2 : Hb b with
        | none => exact absurd e2 z
        | some u =>
          have e3 := h1 b u e2
          rw [e] at e3
          cases e3
          exact E'.sub b o (s' b o e2)
    · cases e : H b with
      | none => exact absurd e hb
      | some o => exact (E'.frm b o (by show (if Hb b = none then H b else none) = some o; rw [if_pos hn]; exact e)).2
end Lk
set_option Elab.async false
set_option linter.all false
set_option maxRecDepth 100000
set_option maxHeartbeats 2000000
/-! K3: rules for law_right. -/
namespace Lk
open PySem PySem.Spec PyProof.Rows L2
section
variable {G : Gx} {W : Wd} {k : Nat} {X : Cx} {Γ Γ1 Γ2 : List Sl} {pos p1 p2 p3 pt : Pos} {e : Expr} {x y z : Str} {kt : Nat} {a b : PyData} {kvs : List (Int × PyData)}
/-- lanes, ways, most = a tuple with a dict in it -/
theorem qs_unshp (C : Ctx W k (one X)) (hG : W.G = G) (i j l : Nat) (h : PV G (one X) Γ e (.shp a b kvs) Γ1) (hi : X.N[i]? = some x := by rfl) (hj : X.N[j]? = some y := by rfl) (hl : X.N[l]? = some z := by rfl)
    (hx : Loc X.env.scope x := by first | exact Or.inl rfl | exact Or.inr rfl) (hy : Loc X.env.scope y := by first | exact Or.inl rfl | exact Or.inr rfl) (hz : Loc X.env.scope z := by first | exact Or.inl rfl | exact Or.inr rfl)
    (hfx : X.fn x = true ∨ X.env.scope.names.lookup x = some .local := by first | exact .inl rfl | exact .inr rfl) (hfy : X.fn y = true ∨ X.env.scope.names.lookup y = some .local := by first | exact .inl rfl | exact .inr rfl) (hfz : X.fn z = true ∨ X.env.scope.names.lookup z = some .local := by first | exact .inl rfl | exact .inr rfl)
    (hs1 : (assignEach [.Name x p1, .Name y p2, .Name z p3] X.env).map (·.2) = assign (.Name x p1) X.env :: (assignEach [.Name y p2, .Name z p3] X.env).map (·.2) := by rfl) (hs2 : (assignEach [.Name y p2, .Name z p3] X.env).map (·.2) = assign (.Name y p2) X.env :: (assignEach [.Name z p3] X.env).map (·.2) := by rfl)
    (hs3 : (assignEach [.Name z p3] X.env).map (·.2) = assign (.Name z p3) X.env :: (assignEach [] X.env).map (·.2) := by rfl)
    (hn : (assignEach [.Name x p1, .Name y p2, .Name z p3] X.env).length = 3 := by rfl) (hst : (assignEach [.Name x p1, .Name y p2, .Name z p3] X.env).findIdx? (·.1) = none := by rfl) (hs : swapsWithSole [.Tuple [.Name x p1, .Name y p2, .Name z p3] kt pt] e pos.line X.env = pure false := by rfl) (hw : swappedStores [.Tuple [.Name x p1, .Name y p2, .Name z p3] kt pt] e X.env = pure none := by rfl)
    (h1 : (assignEach [.Tuple [.Name x p1, .Name y p2, .Name z p3] kt pt] X.env).map (·.2) = [assign (.Tuple [.Name x p1, .Name y p2, .Name z p3] kt pt) X.env] := by rfl) : QS G X Γ (.Assign [.Tuple [.Name x p1, .Name y p2, .Name z p3] kt pt] e pos) (.nx (((Γ1.set i (.fr (.d a))).set j (.fr (.d b))).set l (.fr (.dct kvs)))) := by
  subst hG
  obtain ⟨r, r1, r2⟩ := h
  refine ⟨tAsg r (gTup W.G.K 3 (gNames [i, j, l])), ?_, fun F σ H Hb E D w => r2 F σ H Hb E _ fun v H' Hb' E' s' r' => ?_⟩
  · have q := pg_tup (k := kt) (pos := pt) (C.calm ()) (pgs_cons (pg_name (C.nd ()) hi hx hfx) (pgs_cons (pg_name (C.nd ()) hj hy hfy) (pgs_cons (pg_name (C.nd ()) hl hz hfz) pgs_nil hs3) hs2) hs1) hn hst
    rw [show X.K = W.G.K from C.K ()] at q
    exact ps_asg (r1 ()) q hs hw h1
  · obtain ⟨p, v1, v2, d, ks, rfl, e1, e2, e3, e4, e5⟩ := r'
    refine ⟨p, [v1, v2, .ref d], rfl, .inl (.inl (E'.sub _ _ e1)), rfl, gNames_set rfl ?_⟩
    have it : ItOk W.G F H' Hb' Γ1 σ [v1, v2, .ref d] [.fr (.d a), .fr (.d b), .fr (.dct kvs)] := ⟨e2, e3, ⟨d, ks, rfl, e4, e5⟩, trivial⟩
    exact w _ H' Hb' (itOk_set (js := [i, j, l]) E' it rfl) s'
end
end Lk
set_option Elab.async false
set_option linter.all false
set_option maxRecDepth 100000
set_option maxHeartbeats 2000000
/-! K5: sorted(xs, key=f), f a def of the program. -/
namespace Lk
open PySem PySem.Spec PyProof.Rows L2
open PySem.W
/-! ### the loop over the keys, for any invariant of the state -/
section
variable {prog : Program} {w : World} {A : Around} {E : Value → Shared → Prop} {s : Shared} {a kS : Addr} {vs : List Value} {e1 : Nat} {P : PySem.Fin → Shared → Prop} {kz : List Int}
theorem each_reads_int (g : Heap) : ∀ {l : List Value} {kz : List Int}, EachIs (fun (v : Value) (k : Int) => ∃ t, v = .int k t) l kz → EachIs (fun v d => ∃ as, Reads g v d as) l (kz.map PyData.int)
  | _, _, .nil => .nil
  | _, _, .cons ⟨t, e⟩ h => .cons ⟨[], e ▸ .int _ t⟩ (each_reads_int g h)
theorem ksI_rest {f : Value} (J : Array Value → Shared → Prop) (hka : kS ≠ a) (hlen : kz.length = vs.length) (hZ : vs.length ≤ sizeLine) (hu : A.units < cLine)
    (jk : ∀ kA s, J kA s → ∃ e, s.heap.get? kS = some (seqObj "list" kA e)) (ja : ∀ kA s, J kA s → s.heap.get? a = some (seqObj "list" #[] e1)) (J0 : J #[] s)
    (turn : ∀ (i : Nat) (v : Value) (k : Int), vs[i]? = some v → kz[i]? = some k → ∀ kA s, J kA s → wpAny (model prog w) A (call f [v]) (fun u s' => J kA s' ∧ ∃ t, u = .int k t) (fun _ _ => False) s)
    (push : ∀ kA s v, J kA s → J (kA.push v) { s with heap := s.heap.update kS (Obj.mapSeq (·.push v)) })
    (h : ∀ kA s1 h' tk out c, J kA s1 → (∀ b o, b ≠ a → b ≠ kS → s1.heap.get? b = some o → h'.get? b = some o) → h'.get? a = some (seqObj "list" (List.toArray out) c) → KeyedOut false (kz.map PyData.int) vs out → P (.done (.ret .none)) { s1 with heap := h', toks := tk }) :
    wpAny (model prog w) A (ksk_rest a f false vs.toArray e1 (.ref kS)) P E s := by
  unfold ksk_rest
  refine wpAny_bind (wpAny_rule ?_)
  first
    | rw [List.forIn_toArray]
    | (rw [← Array.forIn_toList]; simp only [List.toList_toArray])
    | rw [← Array.forIn_toList]
  refine wpAny_bind (ksk_fold (fun i s' => ∃ kA, J kA s' ∧ EachIs (fun (v : Value) (k : Int) => ∃ t, v = .int k t) kA.toList (kz.take i)) vs 0 s
    ⟨#[], J0, by rw [List.take_zero]; exact EachIs.nil⟩ ?step ?done)
  case step =>
    rintro j x s' hx ⟨kA, hJ, hk⟩
    simp only [Nat.zero_add] at hk ⊢
    have hj : j < vs.length := (List.getElem?_eq_some_iff.mp hx).1
    obtain ⟨k, hkj⟩ : ∃ k, kz[j]? = some k := ⟨_, List.getElem?_eq_getElem (by omega)⟩
    have hz : kA.size ≤ vs.length := by
      have h1 := hk.length
      rw [Array.length_toList, List.length_take] at h1
      omega
    refine wpAny_bind (wpAny_attempt (wpAny_mono (turn j x k hx hkj kA s' hJ) (fun v s'' he => ?_) fun _ _ hF => hF.elim))
    obtain ⟨hJ2, hv⟩ := he
    try dsimp only
    obtain ⟨e, nk2⟩ := jk _ _ hJ2
    have ek : kz.take (j + 1) = kz.take j ++ [k] := by rw [List.take_add_one, hkj]; simp
    have ea : (kA.push v).toList = kA.toList ++ [v] := by simp
    refine wpAny_bind (listUpdate_at nk2 rfl ?_ (Nat.le_trans hz hZ) (Nat.le_trans (Nat.le_of_eq (Array.size_push ..)) (Nat.succ_le_succ (Nat.le_trans hz hZ))))
    refine wpAny_pure ⟨rfl, kA.push v, push _ _ _ hJ2, ?_⟩
    rw [ea, ek]
    exact each_snoc hv hk
  case done =>
    rintro s' ⟨kA, hJ, hk⟩
    have e3 : kz.take (0 + vs.length) = kz := List.take_of_length_le (by omega)
    rw [e3] at hk
    have hk' : ∀ (g : Heap), EachIs (fun v d => ∃ as, Reads g v d as) kA.toList (kz.map PyData.int) := by
      exact fun g => each_reads_int g hk
    have hsz : kA.size = vs.length := by
      have h1 := hk.length
      rw [Array.length_toList] at h1
      omega
    try dsimp only
    obtain ⟨e, nk'⟩ := jk _ _ hJ
    have na' := ja _ _ hJ
    refine wpAny_bind (listItems_at nk' rfl ?_)
    have kp : KeepsBut a (hideAll s'.heap [kS]) s'.heap := fun b o hb q => of_hideAll _ q
    refine keyH_end (κ := dataKind s'.heap (kz.map PyData.int)) (h₁ := hideAll s'.heap [kS]) (s := s') kp (hideAll_none _ (by simp)) nk' na' hka (SortsAt.data (s := s') (hk' _) (allAlike_I kz) (sortable_I kz) (fun d hd => ?_)) hsz hZ fun h3 tk3 c k3 n3 => h kA s' h3 tk3 _ c hJ (fun b o hb hb2 q => k3 b o hb (hideAll_get _ q (by simpa using hb2))) n3 ⟨s'.heap, kA.toList, allAlike_I kz, rfl, hk' _⟩
    obtain ⟨i, _, rfl⟩ := List.mem_map.mp hd
    simpa [PyData.depth] using hu
theorem ksI_tree {f : Value} (n : Nat) (ho : s.heap.get? a = some (seqObj "list" vs.toArray n)) (J : Addr → Nat → Array Value → Shared → Prop) (hlen : kz.length = vs.length) (hZ : vs.length ≤ sizeLine) (hu : A.units < cLine)
    (jk : ∀ kS e1 kA s, J kS e1 kA s → ∃ e, s.heap.get? kS = some (seqObj "list" kA e)) (ja : ∀ kS e1 kA s, J kS e1 kA s → s.heap.get? a = some (seqObj "list" #[] e1))
    (J0 : ∀ kS e1 tk h', kS ≠ a → s.heap.objs.size ≤ kS → (∀ b o, b ≠ a → s.heap.get? b = some o → h'.get? b = some o) → h'.get? a = some (seqObj "list" #[] e1) → h'.get? kS = some (seqObj "list" #[] 0) → J kS e1 #[] { s with heap := h', toks := tk })
    (turn : ∀ (kS : Addr) (e1 : Nat) (i : Nat) (v : Value) (k : Int), vs[i]? = some v → kz[i]? = some k → ∀ kA s, J kS e1 kA s → wpAny (model prog w) A (call f [v]) (fun u s' => J kS e1 kA s' ∧ ∃ t, u = .int k t) (fun _ _ => False) s)
    (push : ∀ kS e1 kA s v, J kS e1 kA s → J kS e1 (kA.push v) { s with heap := s.heap.update kS (Obj.mapSeq (·.push v)) })
    (h : ∀ kS e1 kA s1 h' tk out c, J kS e1 kA s1 → (∀ b o, b ≠ a → b ≠ kS → s1.heap.get? b = some o → h'.get? b = some o) → h'.get? a = some (seqObj "list" (List.toArray out) c) → KeyedOut false (kz.map PyData.int) vs out → P (.done (.ret .none)) { s1 with heap := h', toks := tk }) :
    wpAny (model prog w) A (ksk_tree a f false) P E s := by
  have ha : a < s.heap.objs.size := Heap.lt_size ho
  obtain ⟨e1, ho1⟩ : ∃ e1, (s.heap.update a (Obj.mapSeq fun _ => (#[] : Array Value))).get? a = some (seqObj "list" #[] e1) := ⟨_, get?_update_seq ho fun _ => #[]⟩
  have hkS : ((s.heap.update a (Obj.mapSeq fun _ => (#[] : Array Value))).push (seqObj "tuple" vs.toArray 0)).objs.size = s.heap.objs.size + 1 := by rw [size_push', Heap.size_update]
  unfold ksk_tree
  refine wpAny_bind (listItems_at ho rfl ?_)
  refine wpAny_bind (listUpdate_at ho rfl ?_ (by rw [List.size_toArray]; exact hZ) (Nat.zero_le _))
  refine wpAny_bind (seqEpoch_at ho1 rfl ?_)
  refine wpAny_bind (wpAny_newTuple ?_ (by show vs.length ≤ _; exact hZ))
  refine wpAny_bind (wpAny_newList ?_ (Nat.zero_le _))
  refine wpAny_holding ?_
  have hne : ((s.heap.update a (Obj.mapSeq fun _ => (#[] : Array Value))).push (seqObj "tuple" vs.toArray 0)).objs.size ≠ a := by rw [hkS]; exact Nat.ne_of_gt (Nat.lt_succ_of_lt ha)
  exact ksI_rest (J := J _ e1) (kz := kz) hne hlen hZ hu (jk _ _) (ja _ _)
    (J0 _ e1 _ _ hne (by rw [hkS]; exact Nat.le_succ _) (fun b o hb q => sortingHeap_old hb q) (Heap.get?_push_of_some _ (Heap.get?_push_of_some _ ho1)) (Heap.get?_push_size _ rfl)) (turn _ _) (push _ _) (h _ _)
end
end Lk
set_option Elab.async false
set_option linter.all false
set_option maxRecDepth 100000
set_option maxHeartbeats 2000000
/-! K6: sorted(e, key=f) of data, f a def of the program that gives ints. -/
namespace Lk
open PySem PySem.Spec PyProof.Rows L2
open PySem.W
def kD (kf : PyData → Int) : PyData → PyData := fun d => .int (kf d)
/-- what calls keep -/
structure Kept (H Hb H' Hb' : Hp) : Prop where
  tp : TOk Hb'
  up : Same H H'
  ub : Same Hb Hb'
  sub : Same Hb' H'
  no : ∀ b, H b ≠ none → Hb b = none → Hb' b = none
def rSortK (K : PySem.W.Frag) (f : Addr) (R : List Tv → Tv → Prop) : List V → List V → Hp → VK → Prop := fun xs zs H Q => ∃ (Hb : Hp) (l : Addr) (vs : List V) (ds : List PyData) (kf : PyData → Int),
  xs = [.ref l] ∧ zs = [.ref f] ∧ TOk Hb ∧ Same Hb H ∧ SqL K H l vs ∧ DpAll K Hb vs ds ∧ (∀ d ∈ ds, R [.d d] (.d (.int (kf d)))) ∧
  ∀ (ws : List V) (p : Addr) (H' Hb' : Hp), Kept H Hb H' Hb' → DpAll K Hb ws (ds.mergeSort (dataLe false (kD kf))) → H' p = none → Q (.ref p) (upd H' p (.lst ws))
theorem each_len {α β : Type} {R : α → β → Prop} {as : List α} {bs : List β} (h : EachIs R as bs) : as.length = bs.length := h.length
theorem cr_sortK {X : Cx} {W : Wd} {j : Nat} {f : Addr} {fd : FuncData} {ps : List Str} {R : List Tv → Tv → Prop} (hP : X.prog = W.P) (hw : X.w = W.w) (hK : X.K = W.G.K) (hmg : X.mg = W.mg) (hbase : X.base = W.base)
    (hb : Binds W.G.K fd ps []) (F : FnOk W.P W.w W.G.K W.mg W.base CX0 j f fd ps (spV W.G R)) (hr : Room (j + 2) X.A) : CallRK X (.builtin "sorted") [Str.ofString "key"] (rSortK X.K f R) := by
  intro pins s σ H xs zs us ws Q I r rz h
  obtain ⟨Hb, l, vs, ds, kf, rfl, rfl, htp, hsub, hs, hd, hR, q⟩ := h
  obtain rfl := Vals.ref1 r
  obtain ⟨w1, rfl, e1⟩ := vals1 rz
  obtain rfl : w1 = Value.ref f := e1
  obtain ⟨its, rv, hl, hz⟩ := I.list hs
  have e := each_of_dp rv hd
  have hlen : ds.length = its.length := by rw [← dpAll_len hd, rv.length]
  have hZ : its.length ≤ sizeLine := by rw [← rv.length]; exact hz
  have hu : X.A.in1.in1.units < cLine := by
    have := hr.un
    show X.A.units + 1 + 1 < cLine
    omega
  have szA : ∀ b o, s.heap.get? b = some o → b < s.heap.objs.size := fun b o e => Heap.lt_size e
  refine sorted_of_sort hl.isList hZ (ksk_s1 _ _) (fun _ => ksk_l1 _ _) fun E' => ?_
  show wpAny _ _ (Builtin.«list.sort» ⟨[.ref (s.heap.objs.size + 1)], [(Str.ofString "key", .ref f)]⟩) _ _ _
  rw [ksk_t1]
  -- the facts about the two new addresses
  have newA : ∀ b, s.heap.objs.size ≤ b → X.s_0.heap.objs.size ≤ b ∧ b ≠ X.env.locals ∧ b ∉ X.fs ∧ (∀ x c, X.env.cells.lookup x = some c → c ≠ b) ∧ (∀ p ∈ X.pn ++ pins, p.1 ≠ b) ∧ H b = none := fun b hb => by
    refine ⟨Nat.le_trans I.sz hb, fun z => ?_, I.nofs hb, fun x c hc z => ?_, fun p hp z => ?_, I.hok.fresh hb⟩
    · exact absurd (z ▸ hb) (Nat.not_le.mpr I.lt)
    · obtain ⟨v, o, ho, _⟩ := I.cell x c hc
      exact absurd (z ▸ hb) (Nat.not_le.mpr (szA _ _ ho))
    · exact absurd (z ▸ hb) (Nat.not_le.mpr (szA _ _ (I.pin p hp).1))
  refine ksI_tree (kz := ds.map kf) (s := { s with heap := copyHeap s.heap its }) 0 (copyHeap_at s.heap its)
    (fun kS e1 kA s' => s.heap.objs.size ≤ kS ∧ kS ≠ s.heap.objs.size + 1 ∧ ∃ H' Hb' e, Inv X (pins ++ [(kS, seqObj "list" kA e), (s.heap.objs.size + 1, seqObj "list" #[] e1)]) σ H' s' ∧ Kept H Hb H' Hb')
    (by rw [List.length_map]; exact hlen) hZ hu ?jk ?ja ?J0 ?turn ?push ?fin
  case jk =>
    rintro kS e1 kA s' ⟨_, _, H', Hb', e, I', _⟩
    exact ⟨e, (I'.pin (kS, seqObj "list" kA e) (by simp)).1⟩
  case ja =>
    rintro kS e1 kA s' ⟨_, _, H', Hb', e, I', _⟩
    exact (I'.pin (s.heap.objs.size + 1, seqObj "list" #[] e1) (by simp)).1
  case J0 =>
    intro kS e1 tk h' hka hk0 hkeep ha hkS
    have hk1 : s.heap.objs.size ≤ kS := by
      have : (copyHeap s.heap its).objs.size ≤ kS := hk0
      have h2 := Heap.lt_size (copyHeap_at s.heap its)
      exact Nat.le_trans (Nat.le_of_lt (Nat.lt_of_succ_lt h2)) this
    refine ⟨hk1, hka, H, Hb, 0, ?_, htp, Same.refl _, Same.refl _, hsub, fun b _ e => e⟩
    have I1 : Inv X pins σ H { s with heap := h', toks := tk } := I.kept fun b u e => hkeep b u (Nat.ne_of_lt (Nat.lt_succ_of_lt (szA _ _ e))) (copyHeap_old e)
    refine I1.pins_of fun p hp => ?_
    rcases List.mem_append.mp hp with hp | hp
    · exact I1.pin p (List.mem_append_right _ hp)
    · simp only [List.mem_cons, List.not_mem_nil, or_false] at hp
      rcases hp with rfl | rfl
      · obtain ⟨a1, a2, a3, a4, a5, a6⟩ := newA kS hk1
        exact ⟨hkS, a6, a2, a3, fun v z => by cases z⟩
      · obtain ⟨a1, a2, a3, a4, a5, a6⟩ := newA (s.heap.objs.size + 1) (Nat.le_succ _)
        exact ⟨ha, a6, a2, a3, fun v z => by cases z⟩
  case turn =>
    rintro kS e1 i v k hv hk kA s' ⟨hk1, hk2, H', Hb', e0, I', kp⟩
    rw [List.getElem?_map] at hk
    cases qd : ds[i]? with
    | none => rw [qd] at hk; simp at hk
    | some d =>
      rw [qd] at hk
      simp only [Option.map_some, Option.some.injEq] at hk
      subst hk
      obtain ⟨x, hx, hdx⟩ := e.zip (v, d) (List.mem_of_getElem? (i := i) (by rw [List.getElem?_zip_eq_some]; exact ⟨hv, qd⟩))
      have r2 : Vals ([x] ++ []) ([v] ++ []) := .cons hx .nil
      have hsp : spV W.G R [x] H' (fun v H'' => v = .int (kf d) ∧ ∃ Hb'', Kept H Hb H'' Hb'') E0 := by
        refine ⟨Hb', [.d d], .d (.int (kf d)), kp.tp, kp.sub, .cons (show Dp W.G.K Hb' x d by rw [← hK]; exact dp_up kp.ub hdx) .nil, hR d (List.mem_of_getElem? qd), fun H2 Hb2 u a0 a1 a2 a3 a4 a5 => ⟨dp_int a5, Hb2, a0, kp.up.trans a1, kp.ub.trans a2, a3, fun b hb hn => a4 b (fun z => ?_) (kp.no b hb hn)⟩⟩
        cases qq : H b with
        | none => exact hb qq
        | some o => rw [kp.up b o qq] at z; cases z
      have hl1 : ([v] ++ []).length = ps.length := by
        have := F.len _ _ _ _ hsp
        simpa using this
      have room : Room j X.A.in1.in1 := hr.in1.in1
      have F2 : FnOk X.prog X.w X.K X.mg X.base CX0 j f fd ps (spV W.G R) := by rw [hP, hw, hK, hmg, hbase]; exact F
      have hb2 : Binds X.K fd ps [] := by rw [hK]; exact hb
      refine wpAny_call (codeAny_mono (F2.run X.A.in1.in1 X.stack s' H' ⟨[v], []⟩ ([v] ++ []) ([x] ++ []) _ E0 room I'.env0.in1.in1 (hb2 s' [v] I'.kIn hl1) r2 hsp) fun r s'' hq => ?_)
      cases r with
      | error e => exact hq
      | ok fl =>
        cases fl with
        | ret u =>
          obtain ⟨x2, H2, I2, rr, rfl, Hb2, kp2⟩ := I'.after hq
          exact ⟨⟨hk1, hk2, H2, Hb2, e0, I2, kp2⟩, rr⟩
        | next => exact False.elim hq
        | brk => exact False.elim hq
        | cont => exact False.elim hq
  case push =>
    rintro kS e1 kA s' v ⟨hk1, hk2, H', Hb', e0, I', kp⟩
    obtain ⟨a1, a2, a3, a4, a5, a6⟩ := newA kS hk1
    obtain ⟨p1, p2, p3, p4, p5⟩ := I'.pin (kS, seqObj "list" kA e0) (by simp)
    have I1 : Inv X (pins ++ [(s.heap.objs.size + 1, seqObj "list" #[] e1)]) σ H' s' := I'.pins_of fun p hp => I'.pin p (List.mem_append_right _ (by
      rcases List.mem_append.mp hp with hp | hp
      · exact List.mem_append_left _ hp
      · exact List.mem_append_right _ (List.mem_cons_of_mem _ hp)))
    have sb := Heap.SameBut.update s'.heap kS (Obj.mapSeq (·.push v))
    obtain ⟨c2, hc2⟩ : ∃ c2, (s'.heap.update kS (Obj.mapSeq (·.push v))).get? kS = some (seqObj "list" (kA.push v) c2) := ⟨_, get?_update_seq p1 (·.push v)⟩
    have I2 : Inv X (pins ++ [(s.heap.objs.size + 1, seqObj "list" #[] e1)]) σ H' { s' with heap := s'.heap.update kS (Obj.mapSeq (·.push v)) } := I1.turned (it := kS) (t' := s'.toks) (fun b o hb e => (sb.2 b hb).trans e) p2 a2 (.inr a1) a4 fun p hp => by
      rcases List.mem_append.mp hp with hp | hp
      · exact a5 p (List.mem_append_left _ hp)
      · rcases List.mem_append.mp hp with hp | hp
        · exact a5 p (List.mem_append_right _ hp)
        · simp only [List.mem_cons, List.not_mem_nil, or_false] at hp
          subst hp
          exact fun z => hk2 z.symm
    refine ⟨hk1, hk2, H', Hb', c2, I2.pins_of fun p hp => ?_, kp⟩
    rcases List.mem_append.mp hp with hp | hp
    · exact I2.pin p (List.mem_append_right _ (List.mem_append_left _ hp))
    · rcases List.mem_cons.mp hp with rfl | hp
      · exact ⟨hc2, p2, a2, a3, fun v z => by cases z⟩
      · exact I2.pin p (List.mem_append_right _ (List.mem_append_right _ hp))
  case fin =>
    rintro kS e1 kA s1 h' tk out c ⟨hk1, hk2, H', Hb', e0, I', kp⟩ hkeep ha ko
    refine ⟨rfl, ?_⟩
    have ko2 : KeyedOut false (ds.map (kD kf)) its out := by rw [List.map_map] at ko; exact ko
    obtain ⟨ws, h1, h2⟩ := dp_of_each (keyedOut_each (kD kf) ko2 e)
    have hol : out.length = its.length := ko2.length (by rw [List.length_map]; exact hlen)
    obtain ⟨a1, a2, a3, a4, a5, a6⟩ := newA kS hk1
    obtain ⟨b1, b2, b3, b4, b5, b6⟩ := newA (s.heap.objs.size + 1) (Nat.le_succ _)
    obtain ⟨p1, p2, p3, p4, p5⟩ := I'.pin (kS, seqObj "list" kA e0) (by simp)
    obtain ⟨q1, q2, q3, q4, q5⟩ := I'.pin (s.heap.objs.size + 1, seqObj "list" #[] e1) (by simp)
    have I1 : Inv X pins σ H' s1 := I'.pins_of fun p hp => I'.pin p (List.mem_append_right _ (List.mem_append_left _ hp))
    have nA : ∀ b u, H' b = some u → b ≠ s.heap.objs.size + 1 := fun b u e z => by subst z; rw [q2] at e; cases e
    have nK : ∀ b u, H' b = some u → b ≠ kS := fun b u e z => by subst z; rw [p2] at e; cases e
    have nch : ∀ b, b ∉ [s.heap.objs.size + 1, kS] → b ≠ s.heap.objs.size + 1 ∧ b ≠ kS := fun b hb => by simpa using hb
    refine ⟨.ref (s.heap.objs.size + 1), upd H' (s.heap.objs.size + 1) (.lst ws), ?_, rfl, q ws _ H' Hb' kp h2 q2⟩
    refine I1.step (g' := s1.gens) (d' := s1.drawn) (t' := tk) (ch := [s.heap.objs.size + 1, kS]) (fun b hb => ?_) (fun b o _ _ hc e _ => hkeep b o (nch b hc).1 (nch b hc).2 e) (fun b o _ _ hc e _ => ⟨o.slots, hkeep b o (nch b hc).1 (nch b hc).2 e⟩)
      (fun b o hc e n => by rw [upd_ne (nch b hc).1]; exact n) (fun b o hc e => ⟨o, hkeep b o (nch b hc).1 (nch b hc).2 e⟩) (fun b xs e => by rw [upd_ne (nA b _ e)]; exact e) (fun b o u e => by rw [upd_ne (nA b _ e)]; exact e) (fun b ps e => ⟨#[], by rw [upd_ne (nA b _ e), e]; simp⟩) (fun m hm => ?_) (fun b u e => ?_) I1.bare
    · simp only [List.mem_cons, List.not_mem_nil, or_false] at hb
      rcases hb with rfl | rfl
      · exact ⟨.inr b1, b2, b4, b5⟩
      · exact ⟨.inr a1, a2, a4, a5⟩
    · obtain ⟨o, es, ep, ho, rr⟩ := hm
      exact ⟨o, es, ep, hkeep _ o b2.symm a2.symm ho, rr⟩
    · by_cases hb : b = s.heap.objs.size + 1
      · subst hb
        rw [upd_same] at e
        cases e
        exact ⟨by rw [h1.length, hol]; exact hZ, out, c, h1, ha⟩
      · rw [upd_ne hb] at e
        refine (I1.hok b u e).stay (fun c v hc q => ?_) (fun c q => by rw [upd_ne (nA c _ q)]; exact q) fun c xs q => by rw [upd_ne (nA c _ q)]; exact q
        rcases hc with rfl | hc
        · exact hkeep _ v hb (nK _ _ e) q
        · exact hkeep _ v (nA _ _ hc) (nK _ _ hc) q
section
variable {ι : Type} {G : Gx} {W : Wd} {k j : Nat} {X : ι → Cx} {Γ Γ1 Γ2 : List Sl} {e : Expr} {p p2 kp pos : Pos} {f : Str} {ps : List Str} {ds : List PyData} {R : List Tv → Tv → Prop}
/-- sorted(e, key=f) -/
theorem qf_sortedK (C : Ctx W k X) (hG : W.G = G) (hm : W.mg "sorted" = none) (d : DefOk W j f ps R) (ha : PV G X Γ e (.d (.list ds)) Γ1) (kf : PyData → Int) (hR : ∀ d ∈ ds, R [.d d] (.d (.int (kf d)))) (hj : j + 2 ≤ k := by decide) (hg : ∀ j, Gl (X j) "sorted" := by intro _; rfl) (hgf : ∀ j, Gl (X j) f := by intro _; rfl) (hdf : (f == ("__debug__" : Str)) = false := by decide)
    (hs : ∀ j, starEach [e] (X j).env = (false, eval e (X j).env) :: starEach [] (X j).env := by intro _; rfl)
    (he : ∀ j, backTo pos (starEach [e] (X j).env) = (false, eval e (X j).env) :: backTo pos (starEach [] (X j).env) := by intro _; rfl) (hpl : ∀ j, (backTo pos (starEach [e] (X j).env)).any (·.1) = false := by intro _; rfl)
    (hall : ∀ j, (backToKw pos (keywordEach [⟨some "key", .Name f p2, kp⟩] (X j).env)).all (·.1.isSome) = true := by intro _; rfl) (hnone : ∀ j, (backToKw pos (keywordEach [⟨some "key", .Name f p2, kp⟩] (X j).env)).any (·.1.isNone) = false := by intro _; rfl) (hks : ∀ j, (backToKw pos (keywordEach [⟨some "key", .Name f p2, kp⟩] (X j).env)).filterMap (·.1) = [Str.ofString "key"] := by intro _; rfl) :
    PF G X Γ (.Call (.Name "sorted" p) [e] [⟨some "key", .Name f p2, kp⟩] pos) (.lst (ds.mergeSort (dataLe false (kD kf)))) Γ1 := by
  subst hG
  obtain ⟨fa, fd, hmf, hkf, hb, F⟩ := d
  obtain ⟨u, u1, u2⟩ := ql_cons ha ql_nil hs
  refine ⟨tCKw (rSortK W.G.K fa R) u (tCons (tC (.ref fa)) tNil), fun i => ?_, fun F' σ H Hb E Q q => u2 F' σ H Hb E _ fun vs H1 Hb1 E1 s1 r1 => ?_⟩
  · have hc := cr_sortK (X := X i) (C.prog i) (C.w i) (C.K i) (C.mg i) (C.base i) hb F ((C.room i).mono hj)
    rw [C.K i] at hc
    exact pe_callBK hc (hg i) (by rw [C.mg i]; exact hm) PyProof.Rows.boot_sorted (u1 i) (pk_cons (pe_glob (hgf i) (by rw [C.mg i]; exact hmf) rfl hdf) pk_nil) (he := he i) (hpl := hpl i) (hall := hall i) (hnone := hnone i) (hks := hks i)
  · obtain ⟨v, rfl, hv⟩ := rep1 r1
    obtain ⟨x, ws, rfl, h1, h2⟩ := dp_lst hv
    show rSortK W.G.K fa R [.ref x] [.ref fa] H1 Q
    refine ⟨Hb1, x, ws, ds, kf, rfl, rfl, E1.tp, E1.sub, seqL_up E1.sub h1, h2, hR, fun zs l H2 Hb2 kp hz hl => ?_⟩
    have E2 := env_called E1 kp.tp kp.up kp.ub kp.sub kp.no
    exact q l (.lst zs) _ Hb2 (E2.lay hl) (s1.trans kp.ub) upd_same (dpAll_up kp.ub hz) (E2.fn hl) (E2.hbn hl) (E2.notN hl)
end
end Lk
set_option Elab.async false
set_option linter.all false
set_option maxRecDepth 100000
set_option maxHeartbeats 2000000
/-! K7: has_plug. -/
namespace Lk
open PySem PySem.Spec PyProof.Rows L2
open PySem.W (dataLe)
section
variable {W : Wd}
def thirdD : PyData → Int
  | .tuple [_, _, .int n] => n
  | _ => 0
def kfW : PyData → Int
  | .list ds => (ds.map thirdD).sum
  | _ => 0
theorem kfW_eL (l : List Rw) : kfW (eL l) = wgt l := by
  show ((l.map e3).map thirdD).sum = (l.map fun r => r.2.2).sum
  rw [List.map_map]
  rfl
theorem sort_mapK {α : Type} {enc : α → PyData} {k : PyData → PyData} {le : α → α → Bool} (h : ∀ a b, dataLe false k (enc a) (enc b) = le a b) (xs : List α) : (xs.map enc).mergeSort (dataLe false k) = (xs.mergeSort le).map enc :=
  (List.map_mergeSort fun a _ b _ => (h a b).symm).symm
def leWt (a b : List Rw) : Bool := dataLe false (kD kfW) (eL a) (eL b)
theorem sort_Wt (xs : List (List Rw)) : (xs.map eL).mergeSort (dataLe false (kD kfW)) = (xs.mergeSort leWt).map eL := sort_mapK (fun _ _ => rfl) xs
theorem any_perm {α : Type} {l m : List α} (h : l.Perm m) (f : α → Bool) : l.any f = m.any f := by
  rw [Bool.eq_iff_iff, List.any_eq_true, List.any_eq_true]
  exact ⟨fun ⟨x, a, b⟩ => ⟨x, h.mem_iff.mp a, b⟩, fun ⟨x, a, b⟩ => ⟨x, h.mem_iff.mpr a, b⟩⟩
theorem sbIt_small {b : Bk2} {prs : List Pr} {n : Nat} (h : SbOk b prs n) : ∀ m, m ≤ n → ∀ l ∈ (sbIt b prs m).1, l.length ≤ 100
  | 0, _, l, hl => by
    rw [sbIt] at hl
    rw [List.mem_singleton.mp hl]
    exact Nat.zero_le _
  | m + 1, hm, l, hl => by
    rw [sbIt] at hl
    rcases List.mem_append.mp hl with hl | hl
    · exact sbIt_small h m (by omega) l hl
    · obtain ⟨p, hp, rfl⟩ := List.mem_map.mp hl
      exact ((h.sz (m + 1) hm).2.2 p hp).1
theorem towF_small {c : Cy} {bs : List Bk2} {y u : Int} (hw : WOk c bs) (hy : y ∈ c.yards) (hu : u ∈ c.row y) : ∀ l ∈ towF (bookOf c bs y) (prT c y u), l.length ≤ 100 := fun l hl => by
  have h1 : l ∈ (loadsOf (bookOf c bs y) (prT c y u)).drop 1 := (List.mergeSort_perm _ _).mem_iff.mp hl
  exact sbIt_small (hw.sb y hy u hu) _ (Nat.le_refl _) l (List.mem_of_mem_drop h1)
theorem ok_has_plug (T : Tx W) : DefOk W 6 "has_plug" ["web", "side"] RPlug := by
  have d1 := ok_book_at T
  have d2 := ok_beside T
  have d3 := ok_towards T
  have d4 := ok_load_weight T
  have d5 := ok_is_shut T
  refine def_ok _ T.d_has_plug sc_has_plug (fun ts t h => by obtain ⟨_, _, _, rfl, _⟩ := h; rfl) (fun _ _ _ _ _ _ us hl => match us, hl with | [_, _], _ => rfl) (fun f cdv A outer s H E C ts t h => ?_)
  obtain ⟨c, bs, s, rfl, hw, hy, hu, rfl⟩ := h
  obtain ⟨y, u⟩ := s
  have hy' : y ∈ c.yards := hy
  have hu' : u ∈ c.row y := hu
  obtain ⟨b1, b2, b3⟩ := bookOf_at hy' hw.len
  have hbs := bookOf_small hw hy'
  have hr := Cy.row_len (v := y) hw.ok
  have htw := towF_small hw hy' hu'
  let near := (c.row y).filter fun p => !decide (p = u)
  have hnl : near.length ≤ 100000 := Nat.le_trans (List.length_filter_le _ _) (by omega)
  let tw := towF (bookOf c bs y) (prT c y u)
  let so := (tw.mergeSort leWt).reverse
  have hso : so.Perm tw := (List.reverse_perm _).trans (List.mergeSort_perm _ _)
  let sh : List Rw → Bool := fun l => near.any fun p => !standsF (bookOf c bs y) (plusC l u p)
  have hpl : plugF c bs (y, u) = so.any sh := (any_perm hso sh).symm
  let en : Sl → List Sl := fun l => [.fr (.web c.cd (bsD bs)), .fr (.d (eP (y, u))), .fr (.d (.int y)), .fr (.d (.int u)), .fr (.d (eK (bookOf c bs y))), .fr (.d (eIs near)), l, .no]
  refine qb_cons (qs_unp (d := eP (y, u)) (qv_var 1) (qg_tup (n := 2) C rfl (qgs_cons (qg_name C 2) (qgs_cons (qg_name C 3) qgs_nil))) ⟨rfl, trivial, trivial, rfl⟩)
    (qb_cons (qs_tup2 C rfl 4 5 (s1 := .fr (.d (eK (bookOf c bs y)))) (s2 := .fr (.d (eIs near))) (qm_fr (qv_call C rfl d1 (ql_cons (qv_var 0) (ql_cons (qv_var 2) ql_nil)) ⟨c, bs, y, c.yards.idxOf y, bookOf c bs y, rfl, hw.ok, b1, b2, b3, rfl⟩)
      (qm_fr (qv_eq (qv_new (qf_lcP C (lcM C rfl (c.row y) PyData.int (fun p => !decide (p = u)) PyData.int [.fr (.web c.cd (bsD bs)), .fr (.d (eP (y, u))), .fr (.d (.int y)), .fr (.d (.int u)), .no, .no, .no, .no] (fun p => [.fr (.web c.cd (bsD bs)), .fr (.d (eP (y, u))), .fr (.d (.int y)), .fr (.d (.int u)), .no, .no, .no, .fr (.d (.int p))])
        (qi_list C rfl (qv_call C rfl d2 (ql_cons (qv_country C rfl T.prop (qv_var 0)) (ql_cons (qv_var 2) ql_nil)) ⟨c, y, rfl, hw.isP y hy', rfl⟩)) (qg_name C.blk 7) (fun p _ => qt_one (qb_eq (qb_neD C.blk rfl (qv_var 7) (qv_var 3) rfl rfl) (by rw [eqv_int]))) (fun p _ _ => qv_var 7) (by omega)) (own := [("place", 7)]) (fun _ => bo_by rfl))) rfl) qm_nil)))
    (qb_may (qs_for C rfl so eL (fun _ : Unit => en .no) (fun _ l => if sh l = true then (.inr (.d (.bool true)) : Unit ⊕ Tv) else .inl ()) () (qi_list C rfl (qv_eq (qv_new (qf_rev C rfl (qv_new (qf_sortedK C rfl T.m_sorted d4 (ds := tw.map eL) (qv_call C rfl d3 (ql_cons (qv_var 0) (ql_cons (qv_var 2) (ql_cons (qv_var 3) ql_nil))) ⟨c, bs, y, u, rfl, hw, hy', hu', rfl⟩) kfW (fun d hd => ?kf))))) ?srt)) (qg_name C 6) (fun _ _ => trivial) (fun F σ H Hb E => E) (fun _ => True) trivial
      (fun _ l hl _ => ⟨fun _ _ => trivial, ?body⟩)) ?a ?b ?c ?d))
  case kf =>
    obtain ⟨l, hl, rfl⟩ := List.mem_map.mp hd
    exact ⟨l, rfl, by have := htw l hl; omega, by rw [kfW_eL]⟩
  case srt =>
    show Tv.d (.list ((tw.map eL).mergeSort (dataLe false (kD kfW))).reverse) = .d (.list (so.map eL))
    rw [sort_Wt, ← List.map_reverse]
  case body =>
    have hll := htw l (hso.mem_iff.mp hl)
    cases hc : sh l with
    | true =>
      exact ⟨_, qb_ret (qs_if (m := true) (qb_eq (qb_val (qv_eq (qv_any C rfl T.m_any (bs := near.map fun p => !standsF (bookOf c bs y) (plusC l u p)) (qv_eq (qv_new (qf_lcP C (lcA C rfl near PyData.int (fun p => .bool (!standsF (bookOf c bs y) (plusC l u p))) _ (fun p => [.fr (.web c.cd (bsD bs)), .fr (.d (eP (y, u))), .fr (.d (.int y)), .fr (.d (.int u)), .fr (.d (eK (bookOf c bs y))), .fr (.d (eIs near)), .fr (.d (eL l)), .fr (.d (.int p))])
        (qi_list C rfl (qv_var 5)) (qg_name C.blk 7) (fun p _ => qv_call C.blk rfl d5 (ql_cons (qv_var 4) (ql_cons (qv_var 3) (ql_cons (qv_var 6) (ql_cons (qv_var 7) ql_nil)))) ⟨bookOf c bs y, u, l, p, rfl, hbs, by omega, rfl⟩) hnl) (own := [("place", 7)]) (fun _ => bo_by rfl))) (by simp [frzO, Function.comp_def]))) (by simp [sh, List.any_map, Function.comp_def]))) hc) (fun _ => qb_rt qv_bl rfl) (fun z => by cases z)), rfl⟩
    | false =>
      exact ⟨_, qb_cons (qs_if (m := false) (o := .nx (en (.fr (.d (eL l))))) (qb_eq (qb_val (qv_eq (qv_any C rfl T.m_any (bs := near.map fun p => !standsF (bookOf c bs y) (plusC l u p)) (qv_eq (qv_new (qf_lcP C (lcA C rfl near PyData.int (fun p => .bool (!standsF (bookOf c bs y) (plusC l u p))) _ (fun p => [.fr (.web c.cd (bsD bs)), .fr (.d (eP (y, u))), .fr (.d (.int y)), .fr (.d (.int u)), .fr (.d (eK (bookOf c bs y))), .fr (.d (eIs near)), .fr (.d (eL l)), .fr (.d (.int p))])
        (qi_list C rfl (qv_var 5)) (qg_name C.blk 7) (fun p _ => qv_call C.blk rfl d5 (ql_cons (qv_var 4) (ql_cons (qv_var 3) (ql_cons (qv_var 6) (ql_cons (qv_var 7) ql_nil)))) ⟨bookOf c bs y, u, l, p, rfl, hbs, by omega, rfl⟩) hnl) (own := [("place", 7)]) (fun _ => bo_by rfl))) (by simp [frzO, Function.comp_def]))) (by simp [sh, List.any_map, Function.comp_def]))) hc) (fun z => by cases z) (fun _ => qb_nil)) qb_nil, _, rfl, fun F σ H Hb E => E.drop 6⟩
  case a =>
    intro Γ1 h
    rw [loopE_any] at h
    cases hv : so.any sh with
    | true => rw [hv] at h; cases h
    | false =>
      rw [hv] at h
      cases h
      exact qb_rt qv_bl (by rw [hpl, hv])
  case b =>
    intro t h
    rw [loopE_any] at h
    cases hv : so.any sh with
    | false => rw [hv] at h; cases h
    | true =>
      rw [hv] at h
      cases h
      rw [hpl, hv]
  case c =>
    intro t i u h
    rw [loopE_any] at h
    cases hv : so.any sh with
    | false => rw [hv] at h; cases h
    | true => rw [hv] at h; cases h
  case d =>
    intro u h
    rw [loopE_any] at h
    cases hv : so.any sh with
    | false => rw [hv] at h; cases h
    | true => rw [hv] at h; cases h
end
end Lk
set_option Elab.async false
set_option linter.all false
set_option maxRecDepth 100000
set_option maxHeartbeats 2000000
/-! N1: a sort that the kernel can run. -/
namespace Lk
open PySem
section
variable {α : Type} {le : α → α → Bool}
def insL (le : α → α → Bool) (a : α) : List α → List α
  | [] => [a]
  | b :: l => if le a b = true then a :: b :: l else b :: insL le a l
def isort (le : α → α → Bool) : List α → List α
  | [] => []
  | a :: l => insL le a (isort le l)
theorem insL_perm (a : α) : ∀ l : List α, (insL le a l).Perm (a :: l)
  | [] => List.Perm.refl _
  | b :: l => by
    unfold insL
    split
    · exact List.Perm.refl _
    · exact ((insL_perm a l).cons b).trans (List.Perm.swap a b l)
theorem isort_perm : ∀ l : List α, (isort le l).Perm l
  | [] => List.Perm.refl _
  | a :: l => (insL_perm a _).trans ((isort_perm l).cons a)
theorem insL_sorted (tr : ∀ a b c, le a b = true → le b c = true → le a c = true) (tot : ∀ a b, (le a b || le b a) = true) (a : α) : ∀ l : List α, l.Pairwise (fun x y => le x y = true) → (insL le a l).Pairwise (fun x y => le x y = true)
  | [], _ => List.pairwise_singleton _ _
  | b :: l, h => by
    obtain ⟨h1, h2⟩ := List.pairwise_cons.mp h
    unfold insL
    split
    · rename_i hab
      refine List.pairwise_cons.mpr ⟨fun c hc => ?_, h⟩
      rcases List.mem_cons.mp hc with rfl | hc
      · exact hab
      · exact tr _ _ _ hab (h1 c hc)
    · rename_i hab
      refine List.pairwise_cons.mpr ⟨fun c hc => ?_, insL_sorted tr tot a l h2⟩
      rcases List.mem_cons.mp ((insL_perm a l).mem_iff.mp hc) with rfl | hc
      · have := tot c b
        rw [Bool.eq_false_iff.mpr hab, Bool.false_or] at this
        exact this
      · exact h1 c hc
theorem isort_sorted (tr : ∀ a b c, le a b = true → le b c = true → le a c = true) (tot : ∀ a b, (le a b || le b a) = true) : ∀ l : List α, (isort le l).Pairwise (fun x y => le x y = true)
  | [] => List.Pairwise.nil
  | a :: l => insL_sorted tr tot a _ (isort_sorted tr tot l)
theorem sorted_uniq (anti : ∀ a b, le a b = true → le b a = true → a = b) : ∀ (l m : List α), l.Perm m → l.Pairwise (fun x y => le x y = true) → m.Pairwise (fun x y => le x y = true) → l = m
  | [], m, h, _, _ => (List.nil_perm.mp h).symm
  | a :: l, [], h, _, _ => absurd h.length_eq (by simp)
  | a :: l, b :: m, h, h1, h2 => by
    obtain ⟨a1, a2⟩ := List.pairwise_cons.mp h1
    obtain ⟨b1, b2⟩ := List.pairwise_cons.mp h2
    have e : a = b := by
      rcases List.mem_cons.mp (h.mem_iff.mp (List.mem_cons_self ..)) with e | hm
      · exact e
      · rcases List.mem_cons.mp (h.mem_iff.mpr (List.mem_cons_self ..)) with e | hm2
        · exact e.symm
        · exact anti _ _ (a1 b hm2) (b1 a hm)
    subst e
    rw [sorted_uniq anti l m (List.Perm.cons_inv h) a2 b2]
theorem ms_ins (tr : ∀ a b c, le a b = true → le b c = true → le a c = true) (tot : ∀ a b, (le a b || le b a) = true) (anti : ∀ a b, le a b = true → le b a = true → a = b) (l : List α) : l.mergeSort le = isort le l :=
  sorted_uniq anti _ _ ((List.mergeSort_perm l le).trans (isort_perm l).symm) (List.pairwise_mergeSort tr tot l) (isort_sorted tr tot l)
end
theorem sort3_ins (l : List Rw) : sort3 l = isort le3 l := ms_ins (fun a b c => by simp only [le3, decide_eq_true_eq]; omega) (fun a b => by simp only [le3, Bool.or_eq_true, decide_eq_true_eq]; omega) (fun a b h1 h2 => by
  obtain ⟨a1, a2, a3⟩ := a
  obtain ⟨b1, b2, b3⟩ := b
  simp only [le3, decide_eq_true_eq] at h1 h2
  have e1 : a1 = b1 := by omega
  have e2 : a2 = b2 := by omega
  have e3 : a3 = b3 := by omega
  rw [e1, e2, e3]) l
theorem sortP_ins (l : List Pr) : sortP l = isort leP l := ms_ins (fun a b c => by simp only [leP, decide_eq_true_eq]; omega) (fun a b => by simp only [leP, Bool.or_eq_true, decide_eq_true_eq]; omega) (fun a b h1 h2 => by
  obtain ⟨a1, a2⟩ := a
  obtain ⟨b1, b2⟩ := b
  simp only [leP, decide_eq_true_eq] at h1 h2
  have e1 : a1 = b1 := by omega
  have e2 : a2 = b2 := by omega
  rw [e1, e2]) l
theorem sortI_ins (l : List Int) : sortI l = isort (fun a b => decide (a ≤ b)) l := ms_ins (fun a b c => by simp only [decide_eq_true_eq]; omega) (fun a b => by simp only [Bool.or_eq_true, decide_eq_true_eq]; omega) (fun a b h1 h2 => by
  simp only [decide_eq_true_eq] at h1 h2
  omega) l
end Lk
set_option Elab.async false
set_option linter.all false
set_option maxRecDepth 100000
set_option maxHeartbeats 2000000
/-! N2: the lands. -/
namespace Lk
open PySem
theorem tiesOf_ins (L : List Pr) : tiesOf L = (tiRaw L).map (isort fun a b => decide (a ≤ b)) := by
  unfold tiesOf
  exact List.map_congr_left fun r _ => sortI_ins r
def landT : Nat → List (List Int)
  | 0 => [[1], [0, 2], [1, 3], [2]]
  | 1 => [[1], [0, 2], [1, 3], [2, 4], [3]]
  | _ => [[2], [2], [0, 1, 3], [2, 4], [3]]
theorem land_lanes : ∀ n < 4, isort leP (lanesS n) = lanesS n := by decide +kernel
theorem land_sort {n : Nat} (h : n < 4) : sortP (lanesS n) = lanesS n := (sortP_ins _).trans (land_lanes n h)
theorem land_ties0 : ∀ n < 4, (tiRaw (lanesS n)).map (isort fun a b => decide (a ≤ b)) = landT n := by decide +kernel
theorem land_ties {n : Nat} (h : n < 4) : tiesOf (lanesS n) = landT n := (tiesOf_ins _).trans (land_ties0 n h)
theorem land_ti : ∀ n < 4, tiOk (lanesS n) = true := by decide +kernel
theorem land_ah : ∀ n < 4, ∀ i < (lanesS n).length + 1, ahOk (landT n) (0 + (i : Int)) ((lanesS n).length + 1) = true := by decide +kernel
theorem land_ln {n : Nat} (h : n < 4) : lnOk (lanesS n) ((lanesS n).length + 1) = true := by
  unfold lnOk
  simp only [land_ties h]
  revert n
  decide +kernel
end Lk
set_option Elab.async false
set_option linter.all false
set_option maxRecDepth 100000
set_option maxHeartbeats 2000000
/-! N3: the lands as countries. -/
namespace Lk
open PySem
def landA (n : Nat) : List (List Int) := (List.range ((lanesS n).length + 1)).map fun i : Nat => (ahIt (landT n) (0 + (i : Int)) ((lanesS n).length + 1)).1.map fun o => o.getD 0
def land (n : Nat) : Cy := ⟨lanesS n, landT n, landA n⟩
theorem land_ok : ∀ n < 4, (land n).ok = true := by decide +kernel
def landY : Nat → List Int
  | 0 => [1, 2]
  | 1 => [1, 2, 3]
  | _ => [2, 3]
theorem land_yards : ∀ n < 4, (land n).yards = landY n := by decide +kernel
theorem land_isP : ∀ n < 4, ∀ y ∈ (land n).yards, (land n).isP y = true := by decide +kernel
end Lk
set_option Elab.async false
set_option linter.all false
set_option maxRecDepth 100000
set_option maxHeartbeats 2000000
/-! N4: facts of the lands. -/
namespace Lk
open PySem
theorem land_fac : ∀ n < 4, allFac (land n) = true := by decide +kernel
theorem land_ys : ∀ n < 4, (ysF (land n)).length ≤ 100 := by decide +kernel
theorem land_beh : ∀ n < 4, behOk (land n) = true := by decide +kernel
end Lk
set_option Elab.async false
set_option linter.all false
set_option maxRecDepth 100000
set_option maxHeartbeats 2000000
/-! N5: the carts of the lands. -/
namespace Lk
open PySem PySem.Spec PyProof.Rows L2
def cartsL (n : Nat) : List LC := (waysS n).flatMap fun w => ((landY n).filter fun y => decide (y ∈ w)).map fun y => (y, w)
def tell (c : LC) : Rw := (c.1, geti c.2 0, geti c.2 (-1))
theorem land_cart : ∀ n < 4, ∀ c ∈ cartsL n, cartOk (land n) (tell c) = true ∧ goOk (land n) (tell c) = true ∧ lcOk c = true ∧ c.2 ∈ waysS n := by decide +kernel
theorem land_way : ∀ n < 4, ∀ c ∈ cartsL n, wayF (land n) (tell c).2.1 (tell c).2.2 = c.2 ∧ pairF (land n) (tell c) = pairL c ∧ nextF (land n) (tell c) = (onL c).1 := by decide +kernel
theorem land_on : ∀ n < 4, ∀ c ∈ cartsL n, onL c ∈ cartsL n ∨ ((onL c).1 = (tell c).2.2 ∧ (onL c).1 ∉ landY n) := by decide +kernel
theorem land_head : ∀ n < 4, ∀ w ∈ waysS n, headC w ∈ cartsL n ∧ atI w 1 = some (geti w 1) ∧ w ∈ ways10 := by decide +kernel
end Lk
set_option Elab.async false
set_option linter.all false
set_option maxRecDepth 100000
set_option maxHeartbeats 2000000
/-! L0: what law_right computes, in plain terms. -/
namespace Lk
open PySem PySem.Spec PyProof.Rows L2
def mostOf (n : Nat) (y : Int) : Int := (((mostS n).find? fun q => decide (q.1 = y)).map (·.2)).getD 0
def minMost (n : Nat) : Int := if n < 1 then 3 else if n < 2 then 2 else 1
def candF (n : Nat) : List Int := (landY n).filter fun y => decide (mostOf n y = minMost n)
def postF (n : Nat) (p : Pot) : Int × Pot := pickF p (candF n)
def keptF (n : Nat) (p : Pot) : Bool × Pot := (decide ((drawF (postF n p).2 2).1 = 0), (drawF (postF n p).2 2).2)
def besF (n : Nat) (y : Int) : List Int := ((List.range ((lanesS n).length + 1)).filter fun i : Nat => decide ((0 + (i : Int), y) ∈ lanesS n) || decide ((y, 0 + (i : Int)) ∈ lanesS n)).map fun i : Nat => 0 + (i : Int)
def towardF (y post : Int) : Int := if y < post then y + 1 else y - 1
def keptBk (n : Nat) (post y : Int) : Bk2 := [(mostOf n y, [(none, some (towardF y post), mostOf n y - 1)])]
def putB (kvs : BM) (i : Int) (x : Bk2) : BM := if (kvs.any fun q => decide (q.1 = i)) = true then kvs.map (fun q => if q.1 = i then (q.1, x) else q) else kvs ++ [(i, x)]
theorem dput_eBM (kvs : BM) (i : Int) (x : Bk2) : dput (eBM kvs) i (eK x) = eBM (putB kvs i x) := by
  have ha : ((eBM kvs).any fun q => decide (q.1 = i)) = kvs.any fun q => decide (q.1 = i) := by
    unfold eBM
    rw [List.any_map]
    rfl
  unfold dput putB
  rw [ha]
  split
  · unfold eBM
    rw [List.map_map, List.map_map]
    refine List.map_congr_left fun p _ => ?_
    simp only [Function.comp]
    split <;> rfl
  · simp [eBM]
theorem putB_len (kvs : BM) (i : Int) (x : Bk2) : (putB kvs i x).length ≤ kvs.length + 1 := by
  unfold putB
  split <;> simp
def ownB (n : Nat) (p : Pot) (y : Int) : Bk2 × Pot := bookF p (besF n y) (mostOf n y)
/-- one turn of the loop over the yards -/
def bkTurn (n : Nat) (post : Int) (kept : Bool) (st : BM × Pot) (y : Int) : BM × Pot :=
  if (kept && !decide (y = post)) = true then (putB (putB st.1 y (ownB n st.2 y).1) y (keptBk n post y), (ownB n st.2 y).2) else (putB st.1 y (ownB n st.2 y).1, (ownB n st.2 y).2)
def booksF (n : Nat) (p : Pot) : BM × Pot := (landY n).foldl (bkTurn n (postF n p).1 (keptF n p).1) ([], (keptF n p).2)
def bsOf (bm : BM) (n : Nat) : List Bk2 := (landY n).map fun y => (getB bm y).getD []
def onceF (l : List Rw) : List Rw := sort3 (((zipI 0 l).filter fun p => !decide (p.2 ∈ l.take p.1)).map (·.2))
def sidesTo (n : Nat) (post : Int) : List Pr := ((landY n).filter fun y => !decide (y = post)).map fun y => (y, towardF y post)
def anyPlug (n : Nat) (bm : BM) (rows : List Sd) (post : Int) : Bool := (sidesTo n post).any fun q => lawPlug rows ((getB bm q.1).getD []) (waysS n) q.1 q.2
def dueF (n : Nat) (bm : BM) (rows : List Sd) : List Int := (landY n).filter fun post => !anyPlug n bm rows post
/-- a stand, told, for the package -/
structure TellOk (n : Nat) (bm : BM) (s : Sd) : Prop where
  lc : s.length ≤ 500 ∧ ∀ q ∈ s, lcOk q = true
  st : StOk (land n) (bsOf bm n) (toldF s)
  go : ∀ q ∈ toldF s, goOk (land n) q = true
/-- the mathematics -/
structure MathOk (n : Nat) (bm : BM) (N : Nat) : Prop where
  keys : ∀ y ∈ landY n, ∃ b, getB bm y = some b
  w : WOk (land n) (bsOf bm n)
  all : AllOk bm (waysS n) N
  p1 : (commonF (land n) (plugged (land n) (bsOf bm n))).isEmpty = (allIt bm (waysS n) N).2.isSome
  p2 : (facPairs (land n) (plugged (land n) (bsOf bm n))).isEmpty = (allIt bm (waysS n) N).2.isNone
  st : ∀ s, (allIt bm (waysS n) N).2 = some s → TellOk n bm s ∧ stuckF (land n) (bsOf bm n) (sort3 (toldF s)) = true ∧ refusedF (land n) (bsOf bm n) (sort3 (toldF s)) = onceF (toldF s)
  nst : (allIt bm (waysS n) N).2 = none → commonF (land n) (plugged (land n) (bsOf bm n)) = dueF n bm (allIt bm (waysS n) N).1 ∧
    ∃ s, atI (allIt bm (waysS n) N).1 (-1) = some s ∧ TellOk n bm s ∧ stuckF (land n) (bsOf bm n) (sort3 (toldF s)) = false
theorem land_keys : ∀ n < 4, (eM (mostS n)).map (·.1) = landY n := by decide +kernel
theorem land_sorted : ∀ n < 4, (landY n).Pairwise (· ≤ ·) := by decide +kernel
theorem land_most : ∀ n < 4, ∀ y ∈ landY n, dget (eM (mostS n)) y = some (.int (mostOf n y)) ∧ 1 ≤ mostOf n y ∧ mostOf n y < 100 := by
  intro n hn y hy
  have h : ((mostS n).find? fun q => decide (q.1 = y)) ≠ none ∧ 1 ≤ mostOf n y ∧ mostOf n y < 100 := by revert y; revert n; decide +kernel
  refine ⟨?_, h.2⟩
  unfold mostOf
  cases e : (mostS n).find? fun q => decide (q.1 = y) with
  | none => exact absurd e h.1
  | some q =>
    have g : ∀ l : List (Int × Int), dget (eM l) y = ((l.find? fun q => decide (q.1 = y)).map fun q => PyData.int q.2) := by
      intro l
      induction l with
      | nil => rfl
      | cons p l ih =>
        unfold dget eM at ih ⊢
        rw [List.map_cons, List.find?_cons, List.find?_cons]
        by_cases h : p.1 = y
        · simp [h]
        · simp only [h, decide_false]
          exact ih
    rw [g, e]
    rfl
theorem land_min : ∀ n < 4, minMost n ∈ (mostS n).map (·.2) ∧ ∀ j ∈ (mostS n).map (·.2), minMost n ≤ j := by decide +kernel
theorem land_cand : ∀ n < 4, candF n ≠ [] ∧ (candF n).length < 1000 := by decide +kernel
theorem land_bes : ∀ n < 4, ∀ y ∈ landY n, besF n y ≠ [] ∧ (besF n y).length < 100 ∧ ∀ x ∈ besF n y, othersOf (besF n y) x ≠ [] := by decide +kernel
theorem land_len : ∀ n < 4, (landY n).length ≤ 3 ∧ (lanesS n).length ≤ 4 ∧ (waysS n).length ≤ 6 ∧ (mostS n).length ≤ 3 := by decide +kernel
theorem land_onW : ∀ n < 4, ∀ y ∈ landY n, ∀ w ∈ waysS n, w ∈ ways10 ∧ (y ∈ w → onWay w y = true) := by decide +kernel
theorem land_isY : ∀ n < 4, ∀ y ∈ landY n, (land n).isY y = true := by decide +kernel
end Lk
set_option Elab.async false
set_option linter.all false
set_option maxRecDepth 100000
set_option maxHeartbeats 4000000
/-! L1: law_right, its end. -/
namespace Lk
open PySem PySem.Spec PyProof.Rows L2
section
variable {W : Wd}
theorem qs_nx {G : Gx} {X : Cx} {Γ Γ1 Γ2 : List Sl} {st : Stmt} (h : QS G X Γ st (.nx Γ1)) (e : Γ1 = Γ2) : QS G X Γ st (.nx Γ2) := e ▸ h
theorem foldF {α : Type} (c : α → Bool) : ∀ (xs acc : List α), xs.foldl (fun acc x => if c x = true then acc ++ [x] else acc) acc = acc ++ xs.filter c
  | [], acc => by simp
  | x :: xs, acc => by
    rw [List.foldl_cons, foldF c xs, List.filter_cons]
    split <;> simp
theorem shaped_P (l : List Pr) : SeqAt.shaped (.list (l.map eP)) = true := shaped_sm ⟨(sm_list fun x _ => sz_P x).1, Nat.le_trans (sm_list fun x _ => sz_P x).2 (by decide)⟩
theorem sidesTo_len {n : Nat} (hn : n < 4) (post : Int) : (sidesTo n post).length ≤ 3 := by
  unfold sidesTo
  rw [List.length_map]
  exact Nat.le_trans (List.length_filter_le _ _) (land_len n hn).1
/-- the slots of law_right -/
def enR (a : Addr) (p : Pot) (n : Nat) (s5 s6 s7 s8 s9 s10 s11 s12 s13 s14 s15 s16 s17 s18 : Sl) : List Sl :=
  [.ow (.pot a p.1 p.2), .fr (.d (.list ((lanesS n).map eP))), .fr (.d (.list ((waysS n).map eW))), .fr (.dct (eM (mostS n))), .fr (.d (eIs (landY n))), s5, s6, s7, s8, s9, s10, s11, s12, s13, s14, s15, s16, s17, s18, .no, .no, .no, .no]
theorem right_due (T : Tx W) {f : Addr} {cdv : Value} {A : Around} {outer : List Env} {s : Shared} {H : Hp} {E : XK} (C : Ctx W 9 (one (cx W n__law_right "_law_right" (defScope (top 107)) f cdv A outer s H E))) {a : Addr} {p : Pot} {n : Nat} (hn : n < 4) {bm : BM} {N : Nat} (M : MathOk n bm N) (hb : ∀ q ∈ bm, bkSmall q.2 = true) {s7 s9 : Sl}
    (hst : (allIt bm (waysS n) N).2 = none) :
    QB W.G (cx W n__law_right "_law_right" (defScope (top 107)) f cdv A outer s H E) (enR a p n (.fr (.dct (eBM bm))) .no .no .no .no (.fr (.web (land n).cd (bsD (bsOf bm n)))) (.fr (.d (.list ((allIt bm (waysS n) N).1.map eSt)))) .no (.fr (.d (eIs (dueF n bm (allIt bm (waysS n) N).1)))) .no .no .no .no .no)
      ((defBody (top 107)).drop 9) (.rto (.d (.bool true)) 0 (.pot a p.1 p.2)) := by
  have dp := ok_has_plug T
  have d1 := ok_isplugged T
  have d2 := ok_told T
  have d3 := ok_is_stand T
  have d4 := ok_is_stuck T
  have d5 := ok_is_post T dp
  obtain ⟨hdue, ls, hat, tl, hns⟩ := M.nst hst
  have hlo : landOk (land n) (bsOf bm n) := ⟨M.w, land_beh n hn⟩
  obtain ⟨hl1, hl2, hl3, hl4⟩ := land_len n hn
  generalize hrows : (allIt bm (waysS n) N).1 = rows at *
  have hrow : ∀ s ∈ rows, s.length ≤ 500 ∧ ∀ q ∈ s, lcOk q = true := fun s hs => by
    rw [← hrows] at hs
    have h := M.all.st N (Nat.le_refl _) s hs
    exact ⟨by omega, fun q hq => (h.2 q hq).1⟩
  let due := dueF n bm rows
  let en : Sl → Sl → Sl → Sl → List Sl := fun s6 s16 s17 s18 => enR a p n (.fr (.dct (eBM bm))) s6 .no .no .no (.fr (.web (land n).cd (bsD (bsOf bm n)))) (.fr (.d (.list (rows.map eSt)))) .no (.fr (.d (eIs due))) .no .no s16 s17 s18
  have hfold : (landY n).foldl (fun acc post => if (!anyPlug n bm rows post) = true then acc ++ [post] else acc) [] = due := by rw [foldF]; rfl
  have hdl : due.length ≤ 3 := Nat.le_trans (List.length_filter_le _ _) hl1
  have hL : QS W.G (cx W n__law_right "_law_right" (defScope (top 107)) f cdv A outer s H E) (en .no (.ow (.lst [])) .no .no) ((defBody (top 107)).getD 10 (.Pass ⟨0, 0, 0, 0⟩)) (.nx (en .no (.ow (.lst (due.map PyData.int))) .no .no)) := by
    rw [← hfold]
    refine qs_forM C rfl (landY n) PyData.int (fun acc : List Int => en .no (.ow (.lst (acc.map PyData.int))) .no .no) (fun acc post => if (!anyPlug n bm rows post) = true then acc ++ [post] else acc) [] (fun i acc => acc.length ≤ i) (qi_list C rfl (qv_var 4)) (qg_name C 6) (Nat.le_refl _) (fun F σ H Hb E => E) ?turn
    intro i acc post hp hI
    have hI' : acc.length ≤ i := hI
    have hi : i < 3 := by have := (List.getElem?_eq_some_iff.mp hp).1; omega
    have hpm := List.mem_of_getElem? hp
    have hz : (acc.map PyData.int).length < 100000 := by rw [List.length_map]; omega
    have hlen : List.length (if (!anyPlug n bm rows post) = true then acc ++ [post] else acc) ≤ i + 1 := by
      split
      · rw [List.length_append]; exact Nat.succ_le_succ hI'
      · omega
    refine ⟨hlen, ?_⟩
    let eS : List Sl := en (.fr (.d (.int post))) (.ow (.lst (acc.map PyData.int))) (.fr (.d (.list ((sidesTo n post).map eP)))) .no
    have hsl := sidesTo_len hn post
    have e0 : ((landY n).filter fun y => !decide (y = post)).map (fun y => eP (y, towardF y post)) = (sidesTo n post).map eP := by unfold sidesTo; rw [List.map_map]; rfl
    have mem : ∀ q ∈ sidesTo n post, q.1 ∈ landY n := fun q hq => by
      obtain ⟨y, hy, rfl⟩ := List.mem_map.mp hq
      exact (List.mem_filter.mp hy).1
    have e3 : (!anyPlug n bm rows post) = !(((sidesTo n post).map fun q => lawPlug rows ((getB bm q.1).getD []) (waysS n) q.1 q.2).any id) := by simp [anyPlug, List.any_map, Function.comp_def]
    cases hc : (!anyPlug n bm rows post) with
    | true =>
      rw [if_pos rfl]
      have e2 : acc.map PyData.int ++ [PyData.int post] = (acc ++ [post]).map PyData.int := by simp
      exact ⟨_, qb_cons (qs_nx (Γ2 := eS) (qs_setLc C 17 (lcM C rfl (landY n) PyData.int (fun y => !decide (y = post)) (fun y => eP (y, towardF y post)) (en (.fr (.d (.int post))) (.ow (.lst (acc.map PyData.int))) .no .no) (fun y => (en (.fr (.d (.int post))) (.ow (.lst (acc.map PyData.int))) .no .no).set 8 (.fr (.d (.int y))))
          (qi_list C rfl (qv_var 4)) (qg_name C.blk 8) (fun y _ => qt_one (qb_eq (qb_neD C.blk rfl (qv_var 8) (qv_var 6) rfl rfl) (by rw [eqv_int]))) (fun y _ _ => qv_tup (ds := [.int y, .int (towardF y post)]) (qd_cons (qv_var 8) (qd_cons (qv_if (t := .d (.int (towardF y post))) (qb_lt (qv_var 8) (qv_var 6)) (fun h => qv_eq (qv_add (qv_var 8) qv_int) (by unfold towardF; rw [if_pos (of_decide_eq_true h)])) (fun h => qv_eq (qv_sub (qv_var 8) qv_int) (by unfold towardF; rw [if_neg (of_decide_eq_false h)]))) qd_nil))) (by omega)) (own := [("_law_yard", 8)]) (bo_by rfl)) (by show (en _ _ _ _).set 17 (.fr (.d (.list (((landY n).filter fun y => !decide (y = post)).map fun y => eP (y, towardF y post))))) = _; rw [e0]; rfl))
        (qb_cons (qs_if (m := true) (o := .nx (en (.fr (.d (.int post))) (.ow (.lst ((acc ++ [post]).map PyData.int))) (.fr (.d (.list ((sidesTo n post).map eP)))) .no)) (qb_eq (qb_not (qb_val (qv_any C rfl T.m_any (bs := (sidesTo n post).map fun q => lawPlug rows ((getB bm q.1).getD []) (waysS n) q.1 q.2) (qv_eq (qv_new (qf_lcP C (lcA C rfl (sidesTo n post) eP (fun q => .bool (lawPlug rows ((getB bm q.1).getD []) (waysS n) q.1 q.2)) eS (fun q => (eS.set 8 (.fr (.d (.int q.1)))).set 22 (.fr (.d (.int q.2))))
            (qi_list C rfl (qv_var 17)) (qg_tup (n := 2) C.blk rfl (qgs_cons (qg_name C.blk 8) (qgs_cons (qg_name C.blk 22) qgs_nil)))
            (fun q hq => by
              obtain ⟨b, hb2⟩ := M.keys q.1 (mem q hq)
              exact qv_call C.blk rfl d1 (ql_cons (qv_var 11) (ql_cons (qv_var 5) (ql_cons (qv_var 8) (ql_cons (qv_var 22) (ql_cons (qv_var 2) ql_nil))))) ⟨rows, bm, b, q.1, q.2, waysS n, rfl, hb, hb2, hrow, fun w hw => land_onW n hn q.1 (mem q hq) w hw, by omega, by rw [hb2]; rfl⟩) (by omega)) (own := [("_law_yard", 8), ("_law_target", 22)]) (fun _ => bo_by rfl))) (by rw [List.map_map]; rfl))))) (by rw [← e3, hc]))
          (fun _ => qb_cons (e2 ▸ qs_app (ds := acc.map PyData.int) (d := .int post) C rfl 16 (qv_var 6) hz) qb_nil) (fun z => by cases z)) qb_nil), fun F σ H Hb E => (E.drop 6).drop 17⟩
    | false =>
      rw [if_neg (by decide)]
      exact ⟨_, qb_cons (qs_nx (Γ2 := eS) (qs_setLc C 17 (lcM C rfl (landY n) PyData.int (fun y => !decide (y = post)) (fun y => eP (y, towardF y post)) (en (.fr (.d (.int post))) (.ow (.lst (acc.map PyData.int))) .no .no) (fun y => (en (.fr (.d (.int post))) (.ow (.lst (acc.map PyData.int))) .no .no).set 8 (.fr (.d (.int y))))
          (qi_list C rfl (qv_var 4)) (qg_name C.blk 8) (fun y _ => qt_one (qb_eq (qb_neD C.blk rfl (qv_var 8) (qv_var 6) rfl rfl) (by rw [eqv_int]))) (fun y _ _ => qv_tup (ds := [.int y, .int (towardF y post)]) (qd_cons (qv_var 8) (qd_cons (qv_if (t := .d (.int (towardF y post))) (qb_lt (qv_var 8) (qv_var 6)) (fun h => qv_eq (qv_add (qv_var 8) qv_int) (by unfold towardF; rw [if_pos (of_decide_eq_true h)])) (fun h => qv_eq (qv_sub (qv_var 8) qv_int) (by unfold towardF; rw [if_neg (of_decide_eq_false h)]))) qd_nil))) (by omega)) (own := [("_law_yard", 8)]) (bo_by rfl)) (by show (en _ _ _ _).set 17 (.fr (.d (.list (((landY n).filter fun y => !decide (y = post)).map fun y => eP (y, towardF y post))))) = _; rw [e0]; rfl))
        (qb_cons (qs_if (m := false) (o := .nx (en (.fr (.d (.int post))) (.ow (.lst (acc.map PyData.int))) (.fr (.d (.list ((sidesTo n post).map eP)))) .no)) (qb_eq (qb_not (qb_val (qv_any C rfl T.m_any (bs := (sidesTo n post).map fun q => lawPlug rows ((getB bm q.1).getD []) (waysS n) q.1 q.2) (qv_eq (qv_new (qf_lcP C (lcA C rfl (sidesTo n post) eP (fun q => .bool (lawPlug rows ((getB bm q.1).getD []) (waysS n) q.1 q.2)) eS (fun q => (eS.set 8 (.fr (.d (.int q.1)))).set 22 (.fr (.d (.int q.2))))
            (qi_list C rfl (qv_var 17)) (qg_tup (n := 2) C.blk rfl (qgs_cons (qg_name C.blk 8) (qgs_cons (qg_name C.blk 22) qgs_nil)))
            (fun q hq => by
              obtain ⟨b, hb2⟩ := M.keys q.1 (mem q hq)
              exact qv_call C.blk rfl d1 (ql_cons (qv_var 11) (ql_cons (qv_var 5) (ql_cons (qv_var 8) (ql_cons (qv_var 22) (ql_cons (qv_var 2) ql_nil))))) ⟨rows, bm, b, q.1, q.2, waysS n, rfl, hb, hb2, hrow, fun w hw => land_onW n hn q.1 (mem q hq) w hw, by omega, by rw [hb2]; rfl⟩) (by omega)) (own := [("_law_yard", 8), ("_law_target", 22)]) (fun _ => bo_by rfl))) (by rw [List.map_map]; rfl))))) (by rw [← e3, hc]))
          (fun z => by cases z) (fun _ => qb_nil)) qb_nil), fun F σ H Hb E => (E.drop 6).drop 17⟩
  have hall : ((landY n).map fun y => PyData.eqv (.bool (decide (y ∈ commonF (land n) (plugged (land n) (bsOf bm n))))) (.bool (decide (y ∈ due)))).all id = true := by
    rw [hdue]
    simp [List.all_map, PyData.eqv, due]
  exact qb_cons (qs_own C 16 (qf_lst qd_nil)) (qb_cons hL (qb_frz 16 rfl
    (qb_cons (qs_set (t := .d (eL (toldF ls))) C 18 (qv_call C rfl d2 (ql_cons (qv_ixL (ds := rows.map eSt) (d := eSt ls) C rfl (qv_var 11) (qv_neg qv_int) (atI_map (f := eSt) hat)) ql_nil) ⟨ls, rfl, tl.lc.2, tl.lc.1, rfl⟩))
    (qb_guard (qb_eq (qb_w (qw_or (qb_not (qb_val (qv_call C rfl d3 (ql_cons (qv_var 10) (ql_cons (qv_var 18) ql_nil)) ⟨land n, bsOf bm n, toldF ls, rfl, M.w, tl.st, rfl⟩))) fun _ => qw_or1 (qb_isnotB (qv_call C rfl d4 (ql_cons (qv_var 10) (ql_cons (qv_var 18) ql_nil)) ⟨land n, bsOf bm n, toldF ls, rfl, M.w, tl.st, tl.go, rfl⟩) qv_bl))) (by rw [hns]; rfl))
    (qb_rto (qv_and (m := true) (n := true) (qv_eq (qv_eqD (x := eIs due) (y := eIs due) C rfl (qv_var 13) (qv_var 16) (shaped_ints _) (shaped_ints _)) (by rw [eqe_Is]; simp)) fun _ => qv_one (qv_eq (qv_all C rfl T.m_all (bs := (landY n).map fun y => PyData.eqv (.bool (decide (y ∈ commonF (land n) (plugged (land n) (bsOf bm n))))) (.bool (decide (y ∈ due)))) (qv_eq (qv_new (qf_lcP C (lcA C rfl (landY n) PyData.int (fun y => .bool (PyData.eqv (.bool (decide (y ∈ commonF (land n) (plugged (land n) (bsOf bm n))))) (.bool (decide (y ∈ due))))) (en .no (.fr (.d (eIs due))) .no (.fr (.d (eL (toldF ls))))) (fun y => (en .no (.fr (.d (eIs due))) .no (.fr (.d (eL (toldF ls))))).set 8 (.fr (.d (.int y))))
        (qi_list C rfl (qv_var 4)) (qg_name C.blk 8) (fun y hy => qv_eqD C.blk rfl (qv_call C.blk rfl d5 (ql_cons (qv_var 10) (ql_cons (qv_var 8) ql_nil)) ⟨land n, bsOf bm n, y, rfl, hlo, land_isY n hn y hy, rfl⟩) (qv_eq (qv_in C.blk rfl (qv_var 8) (qv_var 16) (x := .int y) (ds := due.map PyData.int) rfl (shaped_ints _)) (by rw [any_eqv eqe_int])) rfl rfl) (by omega)) (own := [("_law_yard", 8)]) (fun _ => bo_by rfl))) (by rw [List.map_map]; rfl))) (by rw [hall]))) rfl rfl)))))
end
end Lk
set_option Elab.async false
set_option linter.all false
set_option maxRecDepth 100000
set_option maxHeartbeats 4000000
/-! L2: law_right, its middle: the web, all stands, what the package tells. -/
namespace Lk
open PySem PySem.Spec PyProof.Rows L2
section
variable {W : Wd}
theorem land_ahS : ∀ n < 4, ∀ i < (lanesS n).length + 1, ∀ o ∈ (ahIt (landT n) (0 + (i : Int)) ((lanesS n).length + 1)).1, o.isSome = true := by decide +kernel
theorem land_ahD {n : Nat} (hn : n < 4) : ahList (tiesOf (sortP (lanesS n))) (fun _ => (lanesS n).length + 1) ((lanesS n).length + 1) = (land n).cd.ahead := by
  show PyData.list _ = PyData.list ((landA n).map eIs)
  unfold landA
  rw [List.map_map, land_sort hn, land_ties hn]
  congr 1
  refine List.map_congr_left fun i hi => ?_
  have h := land_ahS n hn i (List.mem_range.mp hi)
  show PyData.list _ = PyData.list _
  rw [List.map_map]
  congr 1
  refine List.map_congr_left fun o ho => ?_
  cases o with
  | none => exact absurd (h _ ho) (by decide)
  | some z => rfl
theorem fds_land {n : Nat} (hn : n < 4) : [(("own_lanes" : Str), Tv.d (.list ((sortP (lanesS n)).map eP))), ("own_ties", Tv.d (.list ((tiesOf (sortP (lanesS n))).map eIs))), ("own_ahead", Tv.d (ahList (tiesOf (sortP (lanesS n))) (fun _ => (lanesS n).length + 1) ((lanesS n).length + 1)))] =
    [(("own_lanes" : Str), Tv.d (land n).cd.lanes), ("own_ties", Tv.d (land n).cd.ties), ("own_ahead", Tv.d (land n).cd.ahead)] := by
  rw [land_ahD hn, land_sort hn, land_ties hn]
  rfl
theorem shaped_shB (b : Bool) : SeqAt.shaped (.str (shB [b, b, b])) = true := by cases b <;> decide +kernel
theorem once_len (l : List Rw) : (zipI 0 l).length = l.length := zipI_len l 0
theorem right_mid (T : Tx W) {f : Addr} {cdv : Value} {A : Around} {outer : List Env} {s : Shared} {H : Hp} {E : XK} (hgd : A.guards = some []) (C : Ctx W 9 (one (cx W n__law_right "_law_right" (defScope (top 107)) f cdv A outer s H E))) {a : Addr} {p : Pot} {n : Nat} (hn : n < 4) {bm : BM} {N : Nat} (M : MathOk n bm N) (hb : ∀ q ∈ bm, bkSmall q.2 = true) :
    QB W.G (cx W n__law_right "_law_right" (defScope (top 107)) f cdv A outer s H E) (enR a p n (.fr (.dct (eBM bm))) .no .no .no .no .no .no .no .no .no .no .no .no .no)
      ((defBody (top 107)).drop 4) (.rto (.d (.bool true)) 0 (.pot a p.1 p.2)) := by
  have dp := ok_has_plug T
  have d1 := ok_all T
  have d2 := ok_posts T dp
  have d3 := ok_can_be_stuck T dp
  have d4 := ok_facing T dp
  have d5 := ok_told T
  have d6 := ok_is_stuck T
  have d7 := ok_refused T
  have hlo : landOk (land n) (bsOf bm n) := ⟨M.w, land_beh n hn⟩
  obtain ⟨hl1, hl2, hl3, hl4⟩ := land_len n hn
  have hgx : ∀ i : Unit, (one (cx W n__law_right "_law_right" (defScope (top 107)) f cdv A outer s H E) i).A.guards = some [] := fun _ => hgd
  let en : Sl → Sl → Sl → Sl → Sl → Sl → List Sl := fun s10 s11 s12 s13 s14 s15 => enR a p n (.fr (.dct (eBM bm))) .no .no .no .no s10 s11 s12 s13 s14 s15 .no .no .no
  have hget : ∀ y ∈ landY n, dget (eBM bm) y = some (eK ((getB bm y).getD [])) := fun y hy => by
    obtain ⟨b, hb2⟩ := M.keys y hy
    rw [dget_eBM, hb2]
    rfl
  let st := (allIt bm (waysS n) N).2
  let rows := (allIt bm (waysS n) N).1
  let com := commonF (land n) (plugged (land n) (bsOf bm n))
  let fac := facPairs (land n) (plugged (land n) (bsOf bm n))
  have hN : isN (.d (eOS st)) = st.isNone := by cases st <;> rfl
  have b1 : com.isEmpty = st.isSome := M.p1
  have b2 : PyData.eqv (eIs com) (.list []) = st.isSome := by
    show PyData.eqv (.list (com.map PyData.int)) (.list []) = _
    rw [eqv_nil, List.isEmpty_map, b1]
  have hsf : SeqAt.shaped (.list (fac.map eQ)) = true := by
    refine shaped_sm ⟨(sm_list (n := 2) fun x _ => ?_).1, Nat.le_trans (sm_list (n := 2) fun x _ => ?_).2 (by decide)⟩
    all_goals
      have h1 := sz_P x.1
      have h2 := sz_P x.2
      simp only [eQ, PyData.canLay0, PyData.canLayAll0, PyData.depth, PyData.depthAll, Bool.and_eq_true, h1.1, h2.1]
      refine ⟨by simp, by omega⟩
  have b3 : (!PyData.eqv (.list (fac.map eQ)) (.list [])) = st.isSome := by
    rw [eqv_nil, List.isEmpty_map, show fac.isEmpty = st.isNone from M.p2]
    cases st <;> rfl
  have b4 : (!isN (.d (eOS st))) = st.isSome := by rw [hN]; cases st <;> rfl
  refine qb_cons (qs_set (t := .web (land n).cd (bsD (bsOf bm n))) C 10 (qv_make C rfl (ok_initW T) T.n_Web (ql_cons (qv_make (t := .ctry (land n).cd) C rfl (ok_initC T) T.n_Country (ql_cons (qv_var 1) ql_nil) ⟨lanesS n, (lanesS n).length + 1, fun _ => (lanesS n).length + 1, rfl, land_ln hn, by rw [land_sort hn]; exact land_ti n hn, fun i hi => by rw [land_sort hn, land_ties hn]; exact land_ah n hn i hi, rfl⟩ (fun Hb a dx fs h hf => rep_ctry h (fds_land hn ▸ hf)))
      (ql_cons (qv_eq (qv_new (qf_lcP C (lcA C rfl (landY n) PyData.int (fun y => eK ((getB bm y).getD [])) (en .no .no .no .no .no .no) (fun y => (en .no .no .no .no .no .no).set 8 (.fr (.d (.int y))))
        (qi_list C rfl (qv_var 4)) (qg_name C.blk 8) (fun y hy => qv_dget C.blk (qv_var 5) (qv_var 8) (hget y hy)) (by omega)) (own := [("_law_yard", 8)]) (fun _ => bo_by rfl))) (t1 := .d (.list ((bsOf bm n).map eK))) (by unfold bsOf; rw [List.map_map]; rfl)) ql_nil)) ⟨land n, bsOf bm n, rfl, M.w.w, rfl⟩ (fun Hb a dx fs h hf => rep_web h hf)))
    (qb_cons (qs_unp (d := .tuple [.list (rows.map eSt), eOS st]) (qv_call C rfl d1 (ql_cons (qv_var 5) (ql_cons (qv_var 2) ql_nil)) ⟨bm, waysS n, N, rfl, M.all, rfl⟩) (qg_tup (n := 2) C rfl (qgs_cons (qg_name C 11) (qgs_cons (qg_name C 12) qgs_nil))) ⟨rfl, trivial, trivial, rfl⟩)
    (qb_cons (qs_set (t := .d (eIs com)) C 13 (qv_call C rfl d2 (ql_cons (qv_var 10) ql_nil) ⟨land n, bsOf bm n, rfl, hlo, rfl⟩))
    (qb_guard (qb_eq (qb_neD (x := .str (shB [st.isSome, st.isSome, st.isSome])) (y := .str (shB [st.isSome, st.isSome, st.isSome])) C rfl
      (qv_repr C rfl hgx T.m_repr (bs := [st.isSome, st.isSome, st.isSome]) (qv_eq (qv_lst (ds := [.bool st.isSome, .bool st.isSome, .bool st.isSome]) (qd_cons (qv_eq (qv_call C rfl d3 (ql_cons (qv_var 10) ql_nil) ⟨land n, bsOf bm n, rfl, hlo, rfl⟩) (by rw [← b1])) (qd_cons (qv_eq (qv_eqD (x := eIs com) C rfl (qv_var 13) (qv_lst qd_nil) (shaped_ints _) rfl) (by rw [b2])) (qd_cons (qv_eq (qv_neD (x := .list (fac.map eQ)) C rfl (qv_call C rfl d4 (ql_cons (qv_var 10) ql_nil) ⟨land n, bsOf bm n, rfl, M.w, land_fac n hn, land_ys n hn, rfl⟩) (qv_lst qd_nil) hsf rfl) (by rw [b3])) qd_nil)))) rfl) (Nat.le_refl 3))
      (qv_repr C rfl hgx T.m_repr (bs := [st.isSome, st.isSome, st.isSome]) (qv_eq (qv_new (qf_rep (n := 3) (ds := [.bool st.isSome]) (qf_lst (qd_cons (qv_eq (qv_notN (qv_var 12)) (by rw [b4])) qd_nil)) qv_int (by decide) (by decide) (by show 1 * 3 ≤ 100000; decide))) rfl) (Nat.le_refl 3)) (shaped_shB _) (shaped_shB _)) (by simp [PyData.eqv]))
      ?rest)))
  cases hst : (allIt bm (waysS n) N).2 with
  | none =>
    have hs2 : st = none := hst
    rw [hs2]
    exact qb_cons (qs_if (m := false) (o := .nx (enR a p n (.fr (.dct (eBM bm))) .no .no .no .no (.fr (.web (land n).cd (bsD (bsOf bm n)))) (.fr (.d (.list (rows.map eSt)))) (.fr (.d .none)) (.fr (.d (eIs com))) .no .no .no .no .no)) (qb_eq (qb_notN (qv_var 12)) rfl) (fun z => by cases z) (fun _ => qb_nil))
      (by
        obtain ⟨hdue, _⟩ := M.nst hst
        have hcd : com = dueF n bm rows := hdue
        rw [hcd]
        exact qb_drop 12 (right_due T C hn M hb (s7 := .no) (s9 := .no) hst))
  | some sd =>
    have hs2 : st = some sd := hst
    rw [hs2]
    obtain ⟨tl, hsk, hrf⟩ := M.st sd hst
    let l := toldF sd
    have hll : l.length ≤ 42 := tl.st.few
    have hcut : ∀ k, k ≤ l.length → cutD (l.map e3) none (some (k : Int)) = (l.take k).map e3 := fun k hk => by rw [cutE (by rw [List.length_map]; exact hk), List.map_take]
    let eC : List Sl := en (.fr (.web (land n).cd (bsD (bsOf bm n)))) (.fr (.d (.list (rows.map eSt)))) (.fr (.d (eSt sd))) (.fr (.d (eIs com))) (.fr (.d (eL l))) .no
    have hon : (((zipI 0 l).filter fun p => !decide (p.2 ∈ l.take p.1)).map fun p => e3 p.2).mergeSort (PySem.W.dataLe false id) = (onceF l).map e3 := by
      have e : (((zipI 0 l).filter fun p => !decide (p.2 ∈ l.take p.1)).map fun p => e3 p.2) = (((zipI 0 l).filter fun p => !decide (p.2 ∈ l.take p.1)).map (·.2)).map e3 := by rw [List.map_map]; rfl
      rw [e, sort_3]
      rfl
    exact qb_retR (qs_if (m := true) (o := .rto (.d (.bool true)) 0 (.pot a p.1 p.2)) (qb_eq (qb_notN (qv_var 12)) rfl) (fun _ =>
      qb_cons (qs_set (t := .d (eL l)) C 14 (qv_call C rfl d5 (ql_cons (qv_var 12) ql_nil) ⟨sd, rfl, tl.lc.2, tl.lc.1, rfl⟩))
      (qb_cons (qs_set (t := .d (eL (onceF l))) C 15 (qv_eq (qv_new (qf_sorted C rfl T.m_sorted (ds := ((zipI 0 l).filter fun p => !decide (p.2 ∈ l.take p.1)).map fun p => e3 p.2) (qv_new (qf_lcP C (lcM C rfl (zipI 0 l) (fun p => PyData.tuple [.int (p.1 : Nat), e3 p.2]) (fun p => !decide (p.2 ∈ l.take p.1)) (fun p => e3 p.2) eC (fun p => (eC.set 20 (.fr (.d (.int (p.1 : Nat))))).set 21 (.fr (.d (e3 p.2))))
          (qi_enumM (xs := l) (f := e3) C rfl T.m_enumerate (qv_var 14)) (qg_tup (n := 2) C.blk rfl (qgs_cons (qg_name C.blk 20) (qgs_cons (qg_name C.blk 21) qgs_nil)))
          (fun p hp => qt_one (qb_eq (qb_nin (x := e3 p.2) (ds := (l.take p.1).map e3) C.blk rfl (qv_var 21) (qv_eq (qv_new (qf_slL (ds := l.map e3) (lo := none) (hi := some ((p.1 : Nat) : Int)) C.blk rfl (qv_var 14) qp_none (qp_some (qv_var 20)))) (by
              obtain ⟨_, hp1, _⟩ := zipI_mem l 0 p hp
              rw [hcut p.1 (by omega)]
              rfl)) rfl (shL _)) (by rw [any_eqv eqe_3]; congr 1; exact decide_eq_decide.mpr Iff.rfl))) (fun p _ _ => qv_var 21) (by rw [zipI_len]; omega)) (own := [("_law_at", 20), ("_law_one", 21)]) (fun _ => bo_by rfl))) (by
            have := allAlike_3 (((zipI 0 l).filter fun p => !decide (p.2 ∈ l.take p.1)).map (·.2))
            rw [List.map_map] at this
            exact this) (by
            have := sortable_3 (((zipI 0 l).filter fun p => !decide (p.2 ∈ l.take p.1)).map (·.2))
            rw [List.map_map] at this
            exact this) (by
            have := d8_3 (((zipI 0 l).filter fun p => !decide (p.2 ∈ l.take p.1)).map (·.2))
            rw [List.map_map] at this
            exact this))) (by rw [hon]; rfl)))
      (qb_rto (qv_and (m := true) (n := true) (qv_eq (qv_isB (m := true) (n := true) (qv_eq (qv_call C rfl d6 (ql_cons (qv_var 10) (ql_cons (qv_var 14) ql_nil)) ⟨land n, bsOf bm n, l, rfl, M.w, tl.st, tl.go, rfl⟩) (by rw [hsk])) qv_bl) rfl) fun _ => qv_one (qv_eq (qv_eqD (x := eL (onceF l)) (y := eL (onceF l)) C rfl (qv_callK2 C rfl d7 (qv_var 10) (qv_var 14) ⟨land n, bsOf bm n, l, rfl, M.w, tl.st, tl.go, by rw [hrf]⟩) (qv_var 15) (shL _) (shL _)) (by rw [eqe_L]; simp))) rfl rfl))) (fun z => by cases z))
end
end Lk
set_option Elab.async false
set_option linter.all false
set_option maxRecDepth 100000
set_option maxHeartbeats 4000000
/-! L3: law_right, its head: the land and the books drawn. -/
namespace Lk
open PySem PySem.Spec PyProof.Rows L2
section
variable {W : Wd}
theorem shapeF_lt (p : Pot) : (shapeF p).1 < 4 := by
  unfold shapeF
  split
  · show 0 < 4; omega
  · split
    · show 1 < 4; omega
    · split
      · show 2 < 4; omega
      · show 3 < 4; omega
theorem shape_good {p : Pot} (hg : good p) : good (shapeF p).2 := by
  have g1 := (draw_good (m := 3) hg (by omega)).1
  have g2 := (draw_good (m := 2) g1 (by omega)).1
  unfold shapeF
  split
  · exact g1
  · split
    · exact g1
    · split <;> exact g2
theorem book_good {p : Pot} {bes : List Int} {most : Int} (hg : good p) (hb : besOk bes) (hm : 1 ≤ most) : good (bookF p bes most).2 := by
  have gq : good (placesF p most).2 := by
    unfold placesF
    split
    · exact (draw_good (m := 2) hg (by omega)).1
    · exact hg
  have g1 := (draw_good (m := 3) gq (by omega)).1
  have g2 := bsIt_good (l := 1) (m := 2) g1 hb (by omega) (drawF (placesF p most).2 3).1.toNat
  have g3 := (draw_good (m := 2) g2 (by omega)).1
  unfold bookF
  simp only
  split
  · have g4 := (draw_good (m := most) g3 (by omega)).1
    have g5 := (draw_good (m := 2) g4 (by omega)).1
    exact bsIt_good g5 hb (by omega) _
  · exact g3
theorem any_P (x : Pr) (xs : List Pr) [Decidable (x ∈ xs)] : ((xs.map eP).any fun z => PyData.eqv z (eP x)) = decide (x ∈ xs) := (any_eqv eqe_P x xs).trans (decide_eq_decide.mpr Iff.rfl)
theorem besF_ok {n : Nat} (hn : n < 4) {y : Int} (hy : y ∈ landY n) : besOk (besF n y) := land_bes n hn y hy
theorem ok_right (T : Tx W) (hM : ∀ p, good p → ∃ N, MathOk (shapeF p).1 (booksF (shapeF p).1 (shapeF p).2).1 N) : DefOkPG W 10 "_law_right" ["_law_pot_here"] (fun p ts t p' => ts = [] ∧ good p ∧ t = .d (.bool true) ∧ p' = (booksF (shapeF p).1 (shapeF p).2).2) := by
  have d1 := ok_shape T
  have d2 := ok_pick T
  have d3 := ok_draw T
  have d4 := ok_book T
  refine defPG_ok _ T.d__law_right sc__law_right (fun p ts t p' h => by obtain ⟨rfl, _⟩ := h; rfl) (fun _ _ _ _ _ _ us hl => match us, hl with | [_], _ => rfl) (fun f cdv A outer s H E hgd C a p ts t p' h => ?_)
  obtain ⟨rfl, hg, rfl, rfl⟩ := h
  obtain ⟨N, M⟩ := hM p hg
  have hn := shapeF_lt p
  have gq := shape_good hg
  generalize hns : (shapeF p).1 = n at *
  generalize hqs : (shapeF p).2 = q at *
  have hb : ∀ x ∈ (booksF n q).1, bkSmall x.2 = true := M.all.land.sm
  have mid := right_mid T hgd C (a := a) (p := (booksF n q).2) hn M hb
  obtain ⟨hl1, hl2, hl3, hl4⟩ := land_len n hn
  obtain ⟨hc1, hc2⟩ := land_cand n hn
  obtain ⟨_, _, gp⟩ := pick_at gq hc1
  have gk : good (keptF n q).2 := (draw_good (m := 2) gp (by omega)).1
  have hmin := land_min n hn
  have hmv : (eM (mostS n)).map (·.2) = ((mostS n).map (·.2)).map PyData.int := by unfold eM; rw [List.map_map, List.map_map]; rfl
  have hml : (eM (mostS n)).length < 64 := by unfold eM; rw [List.length_map]; omega
  have hcl : ((landY n).filter fun y => decide (mostOf n y = minMost n)).length ≤ 100 := Nat.le_trans (List.length_filter_le _ _) (by omega)
  let en : Pot → Sl → Sl → Sl → Sl → Sl → List Sl := fun p s5 s6 s7 s8 s9 => enR a p n s5 s6 s7 s8 s9 .no .no .no .no .no .no .no .no .no
  let post := (postF n q).1
  let kept := (keptF n q).1
  have hs0 : QS W.G (cx W n__law_right "_law_right" (defScope (top 107)) f cdv A outer s H E) (startGP n__law_right a p []) ((defBody (top 107)).getD 0 (.Pass ⟨0, 0, 0, 0⟩)) (.nx ((((startGP n__law_right a p []).set 0 (.ow (.pot a q.1 q.2))).set 1 (.fr (.d (.list ((lanesS n).map eP)))) |>.set 2 (.fr (.d (.list ((waysS n).map eW)))) |>.set 3 (.fr (.dct (eM (mostS n))))))) :=
    qs_unshp C rfl 1 2 3 (qv_callP (w := p) (w' := q) (t := .shp (.list ((lanesS n).map eP)) (.list ((waysS n).map eW)) (eM (mostS n))) C rfl d1 0 ql_nil ⟨rfl, hg, by rw [hns], by rw [hqs]⟩)
  have hL : QS W.G (cx W n__law_right "_law_right" (defScope (top 107)) f cdv A outer s H E) (en (keptF n q).2 (.ow (.dct [])) (.fr (.d (.int post))) (.fr (.d (.bool kept))) .no .no) ((defBody (top 107)).getD 3 (.Pass ⟨0, 0, 0, 0⟩)) (.nx (en (booksF n q).2 (.ow (.dct (eBM (booksF n q).1))) (.fr (.d (.int post))) (.fr (.d (.bool kept))) .no .no)) := by
    refine qs_forM C rfl (landY n) PyData.int (fun st : BM × Pot => en st.2 (.ow (.dct (eBM st.1))) (.fr (.d (.int post))) (.fr (.d (.bool kept))) .no .no) (bkTurn n post kept) ([], (keptF n q).2) (fun i st => st.1.length ≤ 2 * i ∧ good st.2) (qi_list C rfl (qv_var 4)) (qg_name C 8) ⟨Nat.le_refl _, gk⟩ (fun F σ H Hb E => E) ?turn
    intro i st y hy hI
    obtain ⟨hI1, hI2⟩ : st.1.length ≤ 2 * i ∧ good st.2 := hI
    have hi : i < 3 := by have := (List.getElem?_eq_some_iff.mp hy).1; omega
    have hym := List.mem_of_getElem? hy
    obtain ⟨hm1, hm2, hm3⟩ := land_most n hn y hym
    have hbk := besF_ok hn hym
    have gb : good (ownB n st.2 y).2 := book_good hI2 hbk hm2
    have hp1 := putB_len st.1 y (ownB n st.2 y).1
    have hp2 := putB_len (putB st.1 y (ownB n st.2 y).1) y (keptBk n post y)
    have hz1 : (eBM st.1).length < 1000 := by unfold eBM; rw [List.length_map]; omega
    have hz2 : (eBM (putB st.1 y (ownB n st.2 y).1)).length < 1000 := by unfold eBM; rw [List.length_map]; omega
    have hkd : eK (keptBk n post y) = .list [.tuple [.int (mostOf n y), .list [.tuple [.none, .int (towardF y post), .int (mostOf n y - 1)]]]] := rfl
    have hbf : List.map (fun i : Nat => PyData.int (0 + (i : Int))) ((List.range ((lanesS n).length + 1)).filter fun i : Nat => decide ((0 + (i : Int), y) ∈ lanesS n) || decide ((y, 0 + (i : Int)) ∈ lanesS n)) = (besF n y).map PyData.int := by unfold besF; rw [List.map_map]; rfl
    let eS : List Sl := en st.2 (.ow (.dct (eBM st.1))) (.fr (.d (.int post))) (.fr (.d (.bool kept))) (.fr (.d (.int y))) (.fr (.d (eIs (besF n y))))
    let eT : List Sl := en (ownB n st.2 y).2 (.ow (.dct (eBM (putB st.1 y (ownB n st.2 y).1)))) (.fr (.d (.int post))) (.fr (.d (.bool kept))) (.fr (.d (.int y))) (.fr (.d (eIs (besF n y))))
    have hq : bkTurn n post kept st y = if (kept && !decide (y = post)) = true then (putB (putB st.1 y (ownB n st.2 y).1) y (keptBk n post y), (ownB n st.2 y).2) else (putB st.1 y (ownB n st.2 y).1, (ownB n st.2 y).2) := rfl
    cases hc : (kept && !decide (y = post)) with
    | true =>
      have e : bkTurn n post kept st y = (putB (putB st.1 y (ownB n st.2 y).1) y (keptBk n post y), (ownB n st.2 y).2) := by rw [hq, if_pos hc]
      rw [e]
      refine ⟨⟨by show (putB _ _ _).length ≤ 2 * (i + 1); omega, gb⟩, ?_⟩
      exact ⟨_, qb_cons (qs_nx (Γ2 := eS) (qs_setLc C 9 (lcM C rfl (List.range ((lanesS n).length + 1)) (fun i : Nat => PyData.int (0 + (i : Int))) (fun i => decide ((0 + (i : Int), y) ∈ lanesS n) || decide ((y, 0 + (i : Int)) ∈ lanesS n)) (fun i => .int (0 + (i : Int))) (eS.set 9 .no) (fun i => (eS.set 9 .no).set 19 (.fr (.d (.int (0 + (i : Int))))))
          (qi_rng1 (n := (((lanesS n).length + 1 : Nat) : Int)) C T.m_range (qv_eq (qv_add (qv_lenL (ds := (lanesS n).map eP) C rfl T.m_len (qv_var 1)) qv_int) (by rw [List.length_map]; rfl)) (by omega) (by omega)) (qg_name C.blk 19)
          (fun i _ => qt_one (qb_w (qw_or (qb_eq (qb_in (x := eP (0 + (i : Int), y)) (ds := (lanesS n).map eP) C.blk rfl (qv_tup (ds := [.int (0 + (i : Int)), .int y]) (qd_cons (qv_var 19) (qd_cons (qv_var 8) qd_nil))) (qv_var 1) rfl (shaped_P _)) (any_P (0 + (i : Int), y) _)) fun _ => qw_or1 (qb_eq (qb_in (x := eP (y, 0 + (i : Int))) (ds := (lanesS n).map eP) C.blk rfl (qv_tup (ds := [.int y, .int (0 + (i : Int))]) (qd_cons (qv_var 8) (qd_cons (qv_var 19) qd_nil))) (qv_var 1) rfl (shaped_P _)) (any_P (y, 0 + (i : Int)) _))))) (fun i _ _ => qv_var 19) (by rw [List.length_range]; omega)) (own := [("_law_place", 19)]) (bo_by rfl)) (by show (eS.set 9 .no).set 9 (.fr (.d (.list (List.map (fun i : Nat => PyData.int (0 + (i : Int))) ((List.range ((lanesS n).length + 1)).filter fun i : Nat => decide ((0 + (i : Int), y) ∈ lanesS n) || decide ((y, 0 + (i : Int)) ∈ lanesS n)))))) = _; rw [hbf]; rfl))
        (qb_cons (qs_nx (Γ2 := eT) (qs_dput C 5 (x := eK (ownB n st.2 y).1) (kvs := eBM st.1) (qv_callP (w := st.2) (w' := (ownB n st.2 y).2) (t := .d (eK (ownB n st.2 y).1)) C rfl d4 0 (ql_cons (qv_var 9) (ql_cons (qv_dget C (qv_var 3) (qv_var 8) hm1) ql_nil)) ⟨besF n y, mostOf n y, rfl, hbk, hm2, hm3, hI2, rfl, rfl⟩) (qv_var 8) hz1) (by rw [dput_eBM]; rfl))
        (qb_cons (qs_if (m := true) (o := .nx (en (ownB n st.2 y).2 (.ow (.dct (eBM (putB (putB st.1 y (ownB n st.2 y).1) y (keptBk n post y))))) (.fr (.d (.int post))) (.fr (.d (.bool kept))) (.fr (.d (.int y))) (.fr (.d (eIs (besF n y)))))) (qb_eq (qb_w (qw_and (qb_val (qv_var 7)) fun _ => qw_and1 (qb_eq (qb_neD C rfl (qv_var 8) (qv_var 6) rfl rfl) (by rw [eqv_int])))) hc)
          (fun _ => qb_cons (qs_nx (qs_dput C 5 (x := eK (keptBk n post y)) (kvs := eBM (putB st.1 y (ownB n st.2 y).1)) (qv_eq (qv_lst (qd_cons (qv_tup (ds := [.int (mostOf n y), .list [.tuple [.none, .int (towardF y post), .int (mostOf n y - 1)]]]) (qd_cons (qv_dget C (qv_var 3) (qv_var 8) hm1) (qd_cons (qv_lst (qd_cons (qv_tup (ds := [.none, .int (towardF y post), .int (mostOf n y - 1)]) (qd_cons qv_non (qd_cons (qv_if (t := .d (.int (towardF y post))) (qb_lt (qv_var 8) (qv_var 6)) (fun h => qv_eq (qv_add (qv_var 8) qv_int) (by unfold towardF; rw [if_pos (of_decide_eq_true h)])) (fun h => qv_eq (qv_sub (qv_var 8) qv_int) (by unfold towardF; rw [if_neg (of_decide_eq_false h)]))) (qd_cons (qv_sub (qv_dget C (qv_var 3) (qv_var 8) hm1) qv_int) qd_nil)))) qd_nil)) qd_nil))) qd_nil)) (by rw [hkd])) (qv_var 8) hz2) (by rw [dput_eBM]; rfl)) qb_nil) (fun z => by cases z)) qb_nil)), fun F σ H Hb E => (E.drop 8).drop 9⟩
    | false =>
      have e : bkTurn n post kept st y = (putB st.1 y (ownB n st.2 y).1, (ownB n st.2 y).2) := by rw [hq, hc]; rfl
      rw [e]
      refine ⟨⟨by show (putB _ _ _).length ≤ 2 * (i + 1); omega, gb⟩, ?_⟩
      exact ⟨_, qb_cons (qs_nx (Γ2 := eS) (qs_setLc C 9 (lcM C rfl (List.range ((lanesS n).length + 1)) (fun i : Nat => PyData.int (0 + (i : Int))) (fun i => decide ((0 + (i : Int), y) ∈ lanesS n) || decide ((y, 0 + (i : Int)) ∈ lanesS n)) (fun i => .int (0 + (i : Int))) (eS.set 9 .no) (fun i => (eS.set 9 .no).set 19 (.fr (.d (.int (0 + (i : Int))))))
          (qi_rng1 (n := (((lanesS n).length + 1 : Nat) : Int)) C T.m_range (qv_eq (qv_add (qv_lenL (ds := (lanesS n).map eP) C rfl T.m_len (qv_var 1)) qv_int) (by rw [List.length_map]; rfl)) (by omega) (by omega)) (qg_name C.blk 19)
          (fun i _ => qt_one (qb_w (qw_or (qb_eq (qb_in (x := eP (0 + (i : Int), y)) (ds := (lanesS n).map eP) C.blk rfl (qv_tup (ds := [.int (0 + (i : Int)), .int y]) (qd_cons (qv_var 19) (qd_cons (qv_var 8) qd_nil))) (qv_var 1) rfl (shaped_P _)) (any_P (0 + (i : Int), y) _)) fun _ => qw_or1 (qb_eq (qb_in (x := eP (y, 0 + (i : Int))) (ds := (lanesS n).map eP) C.blk rfl (qv_tup (ds := [.int y, .int (0 + (i : Int))]) (qd_cons (qv_var 8) (qd_cons (qv_var 19) qd_nil))) (qv_var 1) rfl (shaped_P _)) (any_P (y, 0 + (i : Int)) _))))) (fun i _ _ => qv_var 19) (by rw [List.length_range]; omega)) (own := [("_law_place", 19)]) (bo_by rfl)) (by show (eS.set 9 .no).set 9 (.fr (.d (.list (List.map (fun i : Nat => PyData.int (0 + (i : Int))) ((List.range ((lanesS n).length + 1)).filter fun i : Nat => decide ((0 + (i : Int), y) ∈ lanesS n) || decide ((y, 0 + (i : Int)) ∈ lanesS n)))))) = _; rw [hbf]; rfl))
        (qb_cons (qs_nx (Γ2 := eT) (qs_dput C 5 (x := eK (ownB n st.2 y).1) (kvs := eBM st.1) (qv_callP (w := st.2) (w' := (ownB n st.2 y).2) (t := .d (eK (ownB n st.2 y).1)) C rfl d4 0 (ql_cons (qv_var 9) (ql_cons (qv_dget C (qv_var 3) (qv_var 8) hm1) ql_nil)) ⟨besF n y, mostOf n y, rfl, hbk, hm2, hm3, hI2, rfl, rfl⟩) (qv_var 8) hz1) (by rw [dput_eBM]; rfl))
        (qb_cons (qs_if (m := false) (o := .nx eT) (qb_eq (qb_w (qw_and (qb_val (qv_var 7)) fun _ => qw_and1 (qb_eq (qb_neD C rfl (qv_var 8) (qv_var 6) rfl rfl) (by rw [eqv_int])))) hc)
          (fun z => by cases z) (fun _ => qb_nil)) qb_nil)), fun F σ H Hb E => (E.drop 8).drop 9⟩
  exact qb_cons hs0 (qb_cons (qs_nx (Γ2 := en q (.ow (.dct [])) .no .no .no .no) (qs_tup2 C rfl 4 5 (s1 := .fr (.d (eIs (landY n)))) (s2 := .ow (.dct [])) (qm_fr (qv_new (qf_sortedDI (ns := landY n) C T.m_sorted (qv_var 3) (by rw [land_keys n hn]) (land_sorted n hn) hml)) (qm_ow qf_dct0 qm_nil))) rfl)
    (qb_cons (qs_nx (Γ2 := en (keptF n q).2 (.ow (.dct [])) (.fr (.d (.int post))) (.fr (.d (.bool kept))) .no .no) (qs_tup2 C rfl 6 7 (s1 := .fr (.d (.int post))) (s2 := .fr (.d (.bool kept))) (qm_fr (qv_callP (w := q) (w' := (postF n q).2) (t := .d (.int post)) C rfl d2 0 (ql_cons (qv_eq (qv_new (qf_lcP C (lcM C rfl (landY n) PyData.int (fun y => decide (mostOf n y = minMost n)) PyData.int (en q (.ow (.dct [])) .no .no .no .no) (fun y => en q (.ow (.dct [])) .no .no (.fr (.d (.int y))) .no)
        (qi_list C rfl (qv_var 4)) (qg_name C.blk 8) (fun y hy => qt_one (qb_eq (qb_eqD C.blk rfl (qv_dget C.blk (qv_var 3) (qv_var 8) (land_most n hn y hy).1) (qv_minVals (ns := (mostS n).map (·.2)) (n := minMost n) C.blk T.m_min (qv_var 3) hmv hmin.1 hmin.2) rfl rfl) (eqv_int _ _))) (fun y _ _ => qv_var 8) (by omega)) (own := [("_law_yard", 8)]) (fun _ => bo_by rfl))) (t1 := .d (eIs (candF n))) rfl) ql_nil) ⟨candF n, rfl, hc1, hc2, gq, rfl, rfl⟩)
      (qm_fr (qv_eq (qv_eqD C rfl (qv_callP (w := (postF n q).2) (w' := (keptF n q).2) (t := .d (.int (drawF (postF n q).2 2).1)) C rfl d3 0 (ql_cons qv_int ql_nil) ⟨2, rfl, by omega, by omega, gp, rfl, rfl⟩) qv_int rfl rfl) (by rw [eqv_int]; rfl)) qm_nil))) rfl)
    (qb_cons hL (qb_frz 5 rfl (qb_drop 6 (qb_drop 7 mid))))))
end
end Lk
set_option Elab.async false
set_option linter.all false
set_option maxRecDepth 100000
set_option maxHeartbeats 2000000
/-! K4: law, called by the caller who holds no guard. -/
namespace Lk
open PySem PySem.Spec PyProof.Rows L2
/-! ### the base: the heap without the script -/
section
variable {P : Program} {w : World} {K : PySem.W.Frag} {mg mb : Str → Option Value} {k : Nat} {fa a : Addr} {fd : FuncData} {x : Str} {sp : Sp} {s1 : Shared} {vs : List Value} {ns : List Int} {H : Hp}
def scriptO (vs : List Value) : Obj := { cls := .type "list", data := .seq vs.toArray }
theorem stays_hid {b : Addr} {o : Obj} (ha : s1.heap.get? a = some (scriptO vs)) (one : ∀ b, b ≠ a → H b = none) (e : s1.heap.get? b = some o) (nd : ∀ es n, o.data ≠ .seq es n) : (hidT s1.heap H).get? b = some o := by
  refine hidT_get e (one b fun z => ?_)
  rw [z, ha] at e
  have e2 : scriptO vs = o := Option.some.inj e
  exact nd vs.toArray 0 (by rw [← e2]; rfl)
theorem ns_hid {b : Addr} {m : Str → Option Value} (ha : s1.heap.get? a = some (scriptO vs)) (one : ∀ b, b ≠ a → H b = none) (h : s1.heap.Ns b m) : (hidT s1.heap H).Ns b m := by
  obtain ⟨o, es, ep, e, d, r⟩ := h
  exact ⟨o, es, ep, stays_hid ha one e (fun _ _ z => by rw [d] at z; cases z), d, r⟩
/-- what stands at the call -/
structure AtCall (K : PySem.W.Frag) (mg mb : Str → Option Value) (a : Addr) (vs : List Value) (ns : List Int) (s1 : Shared) : Prop where
  kin : K.In s1.heap
  glo : s1.heap.Ns mainGlobals mg
  bns : s1.heap.Ns builtinsNs mb
  bnm : ∀ x : Str, x ≠ "__name__" → mb x = bootBuiltins x
  lim : s1.heap.NoLimit
  gen : s1.gens = #[]
  scr : s1.heap.get? a = some (scriptO vs)
  int : IntsAre vs ns
  len : ns.length ≤ sizeLine
def Done (s1 : Shared) (r : Result) (s' : Shared) : Prop := r = .ok (.ret (.bool true)) ∧ OldK s1.heap s'.heap ∧ s'.os = s1.os ∧ AllBare s'.gens
theorem call_over (c : AtCall K mg mb a vs ns s1) (one : ∀ b, b ≠ a → H b = none) (own : H a ≠ none → K.lookup a = none) (only : Only H) (ok : HOk P w H s1.heap) (hs : SqL K H a (ns.map V.int)) (room : Room k callerA)
    (F : ∀ base : Heap, K.In base → base.Ns mainGlobals mg → FnOkG P w K mg base CX0 k fa fd [x] sp) (bind : ∀ (s : Shared) (u : Value), BindsTo s fd ⟨[u], []⟩ [(x, u)]) (hsp : ∀ H : Hp, Only H → SqL K H a (ns.map V.int) → sp [.ref a] H (fun v _ => v = .bl true) E0) :
    codeAny (model P w) callerA (.call (.ref fa) ⟨[.ref a], []⟩) (Done s1) s1 := by
  have kin : K.In (hidT s1.heap H) := by
    intro b o e
    refine hidT_get (c.kin b o e) ?_
    by_cases z : b = a
    · cases q : H b with
      | none => rfl
      | some u =>
        rw [z] at q e
        rw [own (by rw [q]; exact Option.some_ne_none u)] at e
        cases e
    · exact one b z
  have glo := ns_hid c.scr one c.glo
  obtain ⟨ml, l1, l2⟩ := c.lim
  have md : Mod K mg (hidT s1.heap H) := ⟨kin, glo, ⟨mb, ns_hid c.scr one c.bns, c.bnm⟩, ⟨ml, ns_hid c.scr one l1, l2⟩⟩
  have env : Env0 P w K mg (hidT s1.heap H) callerA [] s1 H := { frames := rfl, mod := md, bs := fun b o e => of_hidT e, bsz := Nat.le_of_eq (hidT_size _ _), funs := trivial, frf := fun b hb => (nomatch hb), hok := ok, bare := .of_eq c.gen }
  have run := (F _ kin glo).run callerA [] s1 H ⟨[.ref a], []⟩ [.ref a] [.ref a] _ _ room rfl env (bind s1 (.ref a)) (.cons rfl .nil) (hsp H only hs)
  refine codeAny_mono run fun r s' h => ?_
  match r, h with
  | .error e, h => exact (h : False).elim
  | .ok .next, h => exact (h : False).elim
  | .ok .brk, h => exact (h : False).elim
  | .ok .cont, h => exact (h : False).elim
  | .ok (.ret u), h =>
    obtain ⟨v, H', os, bare, un, ok', rv, hv⟩ := h
    have hv' : v = .bl true := hv
    subst hv'
    have hu : u = Value.bool true := rv
    subst hu
    refine ⟨rfl, OldK.of_keep fun b o e => ?_, os, bare⟩
    rcases only b with z | ⟨o2, xs, z⟩
    · exact un.keep b o e z (fun m => nomatch m) (fun m => nomatch m)
    · have e1 := (ok b _ z).1
      rw [e] at e1
      cases e1
      exact (ok' b _ (un.frzs b _ _ z)).1
theorem call_scriptG (c : AtCall K mg mb a vs ns s1) (room : Room k callerA) (F : ∀ base : Heap, K.In base → base.Ns mainGlobals mg → FnOkG P w K mg base CX0 k fa fd [x] sp) (bind : ∀ (s : Shared) (u : Value), BindsTo s fd ⟨[u], []⟩ [(x, u)])
    (hsp : ∀ H : Hp, Only H → SqL K H a (ns.map V.int) → sp [.ref a] H (fun v _ => v = .bl true) E0) : codeAny (model P w) callerA (.call (.ref fa) ⟨[.ref a], []⟩) (Done s1) s1 := by
  have rv := vals_ints c.int
  have hl : (ns.map V.int).length ≤ sizeLine := by rw [List.length_map]; exact c.len
  by_cases hk : K.lookup a = none
  · -- the script is tracked: nobody changes it
    let H0 : Hp := fun b => if b = a then some (.frz (scriptO vs) (.lst (ns.map V.int))) else none
    have h1 : H0 a = some (.frz (scriptO vs) (.lst (ns.map V.int))) := if_pos rfl
    have h2 : ∀ b, b ≠ a → H0 b = none := fun b z => if_neg z
    refine call_over (H := H0) c h2 (fun _ => hk) (fun b => ?_) (fun b u e => ?_) (.inl (.inr ⟨_, h1⟩)) room F bind hsp
    · by_cases z : b = a
      · rw [z]; exact .inr ⟨_, _, h1⟩
      · exact .inl (h2 b z)
    · by_cases z : b = a
      · rw [z, h1] at e
        cases e
        rw [z]
        exact ⟨c.scr, hl, vs, 0, rv, c.scr⟩
      · rw [h2 b z] at e
        cases e
  · -- the script is one of the written objects
    obtain ⟨o, ho⟩ := Option.ne_none_iff_exists'.mp hk
    have eo : o = scriptO vs := by
      have e1 := c.kin a o ho
      rw [c.scr] at e1
      exact (Option.some.inj e1).symm
    subst eo
    have hz : vs.toArray.size ≤ sizeLine := by
      rw [List.size_toArray, ← rv.length]
      exact hl
    exact call_over (H := fun _ => none) c (fun _ _ => rfl) (fun z => absurd rfl z) (fun _ => .inl rfl) (fun b u e => nomatch e) (.inr ⟨_, vs.toArray, 0, ho, rfl, rfl, rfl, hz, by rw [List.toList_toArray]; exact rv⟩) room F bind hsp
end
/-- a law's end: F gives the written part, the function, the promise over every base -/
theorem walk_G {l : PySem.W.OpenLaw} {n k : Nat} {q : Program} {loose : List Str} {XP : (Str → Option Value) → Heap → Prop} {YP : World → Heap → Prop} {d : DefRec} {x : Str} (hn : l.most = some n) (hn2 : n ≤ sizeLine) (hdf : d.params.defaults = []) (room : Room k callerA)
    (F : ∀ (w : World) (mg : Str → Option Value) (fa : Addr) (h : Heap), YP w h → h.Ns mainGlobals mg → mg d.name = some (.ref fa) → ∃ (K : PySem.W.Frag) (fd : FuncData) (sp : Sp), K.In h ∧ (∀ (s : Shared) (u : Value), BindsTo s fd ⟨[u], []⟩ [(x, u)]) ∧
      (∀ (H : Hp) (a : Addr) (ns : List Int), Only H → SqL K H a (ns.map V.int) → sp [.ref a] H (fun v _ => v = .bl true) E0) ∧ ∀ base : Heap, K.In base → base.Ns mainGlobals mg → FnOkG l.prog w K mg base CX0 k fa fd [x] sp) :
    PySem.W.WalkO q loose XP YP l.row.toRowW d [] (fun f vs => PySem.call f vs) := by
  refine Att.attach_call hn hdf fun w s0 s1 mg mb fa o pm cd doc a vs ns g y ho hd hcd hmg hobj hints hlen hg => ?_
  obtain ⟨K, fd, sp, kx, bind, hsp, hF⟩ := F w mg fa s1.heap y g.T.g hmg
  exact call_scriptG ⟨kx, g.T.g, g.T.b, g.T.builtins, g.T.nolimit, hg, hobj, hints, Nat.le_trans hlen hn2⟩ room hF bind fun H => hsp H a ns
theorem fnG_ok {W : Wd} {x : Str} {st : Stmt} {N ps : List Str} {k : Nat} {f : Addr} {fd : FuncData} (R : List Tv → Tv → Prop) (F : FunD W.G.K x x (defArgs st) (defBody st) (defScope st) [] [] f fd) (S : FnScope N ps (defScope st)) (hlen : ∀ ts t, R ts t → ts.length = ps.length)
    (hbody : ∀ (f : Addr) (cdv : Value) (A : Around) (outer : List Env) (s : Shared) (H : Hp) (E : XK), A.guards = some [] → Ctx W k (one (cx W N x (defScope st) f cdv A outer s H E)) → ∀ ts t, R ts t → QB W.G (cx W N x (defScope st) f cdv A outer s H E) (startG N ts) (defBody st) (.rt t)) : FnOkG W.P W.w W.G.K W.mg W.base CX0 (k + 1) f fd ps (spV W.G R) := by
  obtain ⟨oc, od, dV, kV, doc, pm, an, cdv, ct, osl, rfl, lk, hcd, _, _⟩ := F.ex
  refine fn_ofG lk hcd S (fun vs H Q E h => ?_) (fun A outer s H vs Q E hr hgd h => ?_)
  · obtain ⟨Hb, ts, t, _, _, h1, h2, _⟩ := h
    rw [Paired.length h1]
    exact hlen ts t h2
  · obtain ⟨Hb, ts, t, h0, h1, h2, h3, q⟩ := h
    have C : Ctx W k (one (cx W N x (defScope st) f cdv A outer s H E)) := ⟨fun _ => rfl, fun _ => rfl, fun _ => rfl, fun _ => rfl, fun _ => rfl, fun _ => rfl, fun _ => S.nd, fun _ => hr⟩
    obtain ⟨r, r1, r2⟩ := hbody f cdv A outer s H E hgd C ts t h3
    refine ⟨r, PSs.nox r1, r2 _ _ _ _ (env_start h0 h1 h2) _ fun v σ' Γ' H' Hb' E' s' r' => ?_⟩
    refine q H' Hb' v E'.tp (fun b o e => ?_) s' E'.sub (fun b hb hn => ?_) r'
    · by_cases z : Hb b = none
      · exact (E'.frm b o (by show (if Hb b = none then H b else none) = some o; rw [if_pos z]; exact e)).1
      · cases e2 : Hb b with
        | none => exact absurd e2 z
        | some u =>
          have e3 := h1 b u e2
          rw [e] at e3
          cases e3
          exact E'.sub b o (s' b o e2)
    · cases e : H b with
      | none => exact absurd e hb
      | some o => exact (E'.frm b o (by show (if Hb b = none then H b else none) = some o; rw [if_pos hn]; exact e)).2
section
variable {W : Wd}
theorem ok_law (T : Tx W) (hM : ∀ p, good p → ∃ N, MathOk (shapeF p).1 (booksF (shapeF p).1 (shapeF p).2).1 N) {f : Addr} {fd : FuncData} (F : FunD W.G.K "law" "law" (defArgs (top 108)) (defBody (top 108)) (defScope (top 108)) [] [] f fd) : FnOkG W.P W.w W.G.K W.mg W.base CX0 11 f fd ["_law_script"] (spV W.G fun ts t => ∃ l : List Int, ts = [.d (eIs l)] ∧ t = .d (.bool true)) := by
  have d1 := ok_right T hM
  have d2 := ok_pot T
  refine fnG_ok _ F sc_law (fun ts t h => by obtain ⟨l, rfl, _⟩ := h; rfl) (fun f cdv A outer s H E hgd C ts t h => ?_)
  obtain ⟨l, rfl, rfl⟩ := h
  exact qb_rt (qv_callPFG (w := potF l) (w' := (booksF (shapeF (potF l)).1 (shapeF (potF l)).2).2) C (fun _ => hgd) rfl d1 (qf_callF C rfl d2 (ql_cons (qv_var 0) (ql_cons qv_int ql_nil)) ⟨l, rfl, rfl⟩) ⟨rfl, pot_good l, rfl, rfl⟩) rfl
/-- the promise at the script -/
theorem law_sp {G : Gx} {H : Hp} {a : Addr} {ns : List Int} (only : Only H) (hs : SqL G.K H a (ns.map V.int)) : spV G (fun ts t => ∃ l : List Int, ts = [.d (eIs l)] ∧ t = .d (.bool true)) [.ref a] H (fun v _ => v = .bl true) E0 := by
  refine ⟨H, [.d (eIs ns)], .d (.bool true), fun p o e => ?_, Same.refl _, .cons (.lst hs (dpAll_of_ints ns)) .nil, ⟨ns, rfl, rfl⟩, fun H' Hb' v _ _ _ _ _ r => dp_bl r⟩
  rcases only p with z | ⟨o2, xs, z⟩
  · rw [z] at e; cases e
  · rw [z] at e
    cases e
    trivial
end
end Lk
set_option Elab.async false
set_option linter.all false
set_option maxRecDepth 100000
set_option maxHeartbeats 4000000
/-! HeadE: what the head tells, for the layer. Printed by genHead.py. -/
namespace Lk
open PySem PySem.Spec PyProof.Rows L2
def hW (P : Program) (w : World) (K : PySem.W.Frag) (mg : Str → Option Value) (base : Heap) : Wd := ⟨P, w, ⟨K, He.ga K "Country", He.ga K "Web", w⟩, mg, base⟩
section
variable {P : Program} {w : World} {K : PySem.W.Frag} {h base : Heap} {mg : Str → Option Value}
theorem dT (c : He.SaysD hfa hfn K) (X : K.In h) (G : h.Ns mainGlobals mg) {x : Str} {i : Nat} (j k : Nat) (hj : hfa[j]? = some (.glo x)) (hk : hfn[k]? = some (mkD x i)) : DefT (hW P w K mg base) x (top i) := by
  obtain ⟨fd, F⟩ := c.def_ k hk
  exact ⟨_, fd, He.glo_ok X G (c.fact j hj), F⟩
theorem iT (c : He.SaysD hfa hfn K) {C q : Str} {st : Stmt} (j k : Nat) (hj : hfa[j]? = some (.mkr C)) (hk : hfn[k]? = some (mkI C q st)) : InitT (hW P w K mg base) (He.ga K C) q st := by
  obtain ⟨fd, F⟩ := c.def_ k hk
  exact ⟨_, fd, He.mkr_ok (c.fact j hj), F⟩
theorem isC_of (m : moreB K = true) {x : Str} (c : Cls K (He.ga K x)) (h1 : isB K x = true) : IsiC (hW P w K mg base).G (He.ga K x) := by
  obtain ⟨a1, a⟩ := He.ba m
  obtain ⟨a2, a⟩ := He.ba a
  obtain ⟨a3, a⟩ := He.ba a
  obtain ⟨a4, a⟩ := He.ba a
  obtain ⟨a5, a6⟩ := He.ba a
  obtain ⟨b1, b⟩ := He.ba h1
  obtain ⟨b2, b3⟩ := He.ba b
  exact { cl := c, ha := He.eqO_ok b1, hn := He.eqO_ok a4, ht := of_decide_eq_true a5, hm := of_decide_eq_true b2, kit := of_decide_eq_true b3 }
theorem mem_of_lookup {a : Addr} {o : Obj} : ∀ {l : List (Addr × Obj)}, l.lookup a = some o → ∃ b, (b, o) ∈ l
  | [], e => nomatch e
  | (b, u) :: l, e => by
    rw [List.lookup_cons] at e
    split at e
    · cases e; exact ⟨b, List.mem_cons_self ..⟩
    · obtain ⟨b2, hb⟩ := mem_of_lookup e
      exact ⟨b2, List.mem_cons_of_mem _ hb⟩
theorem ktup_of (m : ktB K = true) : KTup (hW P w K mg base).G := by
  intro a o e hc
  obtain ⟨b, hb⟩ := mem_of_lookup (l := K) e
  have h1 := List.all_eq_true.mp m _ hb
  have h2 : tupNo o = true := h1
  unfold tupNo at h2
  rw [hc] at h2
  have h3 : o.dict.isNone = true := h2
  exact Option.isNone_iff_eq_none.mp h3
theorem getter_of (m : hgB K = true) (g : gW K = gVal) (c : Cls K (He.ga K "Web")) (n : NoAttr K (He.ga K "Web") "own_country") : PropT (hW P w K mg base) := by
  obtain ⟨a1, a⟩ := He.ba m
  obtain ⟨a2, a⟩ := He.ba a
  obtain ⟨a3, a⟩ := He.ba a
  obtain ⟨a4, a⟩ := He.ba a
  obtain ⟨a5, a6⟩ := He.ba a
  have hrec : ∃ rest, PySem.W.recIn K (pAd K) "property" = some (.ref (gAd K) :: rest) := by
    unfold gAd
    unfold recB at a4
    split at a4
    · rename_i g0 r0 e
      exact ⟨r0, by rw [e]⟩
    · cases a4
  unfold gW at g
  cases q : K.lookup (gAd K) with
  | none =>
    rw [q] at a6
    cases a6
  | some o =>
    obtain ⟨oc, od, dt, osl⟩ := o
    rw [q] at a6 g
    cases dt with
    | func fd =>
      obtain ⟨n1, n2, n3, n4, n5, n6, n7, n8, n9, n10, n11, n12, n13, n14, n15⟩ := fd
      have g2 : (some (n1, n2, n3, n4, n5, n6, n7, n15) : He.FnW) = gVal := g
      unfold gVal at g2
      simp only [Option.some.injEq, Prod.mk.injEq] at g2
      obtain ⟨h1, h2, h3, h4, h5, h6, h7, h8⟩ := g2
      subst h1 h2 h3 h4 h5 h6 h7 h8
      obtain ⟨k1, k2⟩ := He.ba (show (PySem.W.codeIn K n13 "Web.country" && He.dflB K n8 []) = true from a6)
      have S : FnScope ["self"] ["self"] (defScope gSt) := ⟨rfl, rfl, rfl, by decide +kernel, rfl, by decide +kernel, by decide +kernel⟩
      have FD : FunD K "country" "Web.country" (defArgs gSt) (defBody gSt) (defScope gSt) [] [] (gAd K) (PySem.W.fnOf "country" "Web.country" (defArgs gSt) (defBody gSt) (defScope gSt) n8 n9 n10 n11 n12 n13 n14) := ⟨⟨oc, od, n8, n9, n10, n11, n12, n13, n14, osl, rfl, q, k1, He.dflB_ok k2, .inl rfl⟩, a5⟩
      exact ⟨pAd K, gAd K, _, ⟨He.eqO_ok a1, He.eqO_ok a2, of_decide_eq_true a3, hrec⟩, c, FD.bindsN fun _ _ _ _ _ _ us hl => match us, hl with | [_], _ => rfl, fn_getter q k1 S rfl rfl c n⟩
    | _ => cases a6
theorem tx_of (X : K.In h) (G : h.Ns mainGlobals mg) (e : hobs K = hval) : Tx (hW P w K mg base) := by
  have c : He.SaysD hfa hfn K := congrArg (fun z : HAl => z.1) e
  have m : moreB K = true := congrArg (fun z : HAl => z.2.1) e
  have g : gW K = gVal := congrArg (fun z : HAl => z.2.2) e
  obtain ⟨a1, a⟩ := He.ba m
  obtain ⟨a2, a⟩ := He.ba a
  obtain ⟨a3, a⟩ := He.ba a
  obtain ⟨a4, a⟩ := He.ba a
  obtain ⟨a5, a6⟩ := He.ba a
  have cC : Cls K (He.ga K "Country") := He.cls_ok (c.fact 105 rfl)
  have cW : Cls K (He.ga K "Web") := He.cls_ok (c.fact 106 rfl)
  have hcls : ClsT (hW P w K mg base).G := by
    refine ⟨cC, cW, fun f hf => ?_, fun f hf => ?_⟩
    · simp only [List.mem_cons, List.not_mem_nil, or_false] at hf
      rcases hf with rfl | rfl | rfl
      · exact He.noat_ok (c.fact 107 rfl)
      · exact He.noat_ok (c.fact 108 rfl)
      · exact He.noat_ok (c.fact 109 rfl)
    · simp only [List.mem_cons, List.not_mem_nil, or_false] at hf
      rcases hf with rfl | rfl
      · exact He.noat_ok (c.fact 110 rfl)
      · exact He.noat_ok (c.fact 111 rfl)
  exact {
    cls := hcls
    gw := rfl
    ktup := ktup_of a1
    n_Country := He.glo_ok X G (c.fact 78 rfl)
    n_Web := He.glo_ok X G (c.fact 79 rfl)
    isC := isC_of m cC a2
    isW := isC_of m cW a3
    initC := iT c 112 78 rfl rfl
    initW := iT c 113 79 rfl rfl
    prop := getter_of a6 g cW (He.noat_ok (c.fact 110 rfl))
    d_standing_by := (let ⟨fd, F⟩ := c.def_ 77 rfl; ⟨_, fd, He.glo_ok X G (c.fact 77 rfl), F⟩)
    d_law := dT c X G 0 0 rfl rfl
    d_is_integer := dT c X G 1 1 rfl rfl
    d_is_count := dT c X G 2 2 rfl rfl
    d_is_list := dT c X G 3 3 rfl rfl
    d_lane_in := dT c X G 4 4 rfl rfl
    d_ties_of := dT c X G 5 5 rfl rfl
    d_is_whole := dT c X G 6 6 rfl rfl
    d_ahead_of := dT c X G 7 7 rfl rfl
    d_lanes_in := dT c X G 8 8 rfl rfl
    d_beside := dT c X G 9 9 rfl rfl
    d_yards_in := dT c X G 10 10 rfl rfl
    d_is_place := dT c X G 11 11 rfl rfl
    d_is_yard := dT c X G 12 12 rfl rfl
    d_is_gate := dT c X G 13 13 rfl rfl
    d_want_country := dT c X G 14 14 rfl rfl
    d_want_yard := dT c X G 15 15 rfl rfl
    d_pairs_at := dT c X G 16 16 rfl rfl
    d_plus_cart := dT c X G 17 17 rfl rfl
    d_is_end_for := dT c X G 18 18 rfl rfl
    d_is_bound_for := dT c X G 19 19 rfl rfl
    d_alternative_in := dT c X G 20 20 rfl rfl
    d_keeps := dT c X G 21 21 rfl rfl
    d_stands_by_one := dT c X G 22 22 rfl rfl
    d_stands_by := dT c X G 23 23 rfl rfl
    d_book_in := dT c X G 24 24 rfl rfl
    d_want_book := dT c X G 25 25 rfl rfl
    d_way_between := dT c X G 26 26 rfl rfl
    d_step_towards := dT c X G 27 27 rfl rfl
    d_yards_behind := dT c X G 28 28 rfl rfl
    d_book_at := dT c X G 29 29 rfl rfl
    d_country_of := dT c X G 30 30 rfl rfl
    d_want_web := dT c X G 31 31 rfl rfl
    d_pairs_towards := dT c X G 32 32 rfl rfl
    d_towards := dT c X G 33 33 rfl rfl
    d_yard_sides := dT c X G 34 34 rfl rfl
    d_is_shut := dT c X G 35 35 rfl rfl
    d_has_plug := dT c X G 36 36 rfl rfl
    d_load_weight := dT c X G 37 37 rfl rfl
    d_sides_plugged := dT c X G 38 38 rfl rfl
    d_common_yards := dT c X G 39 39 rfl rfl
    d_posts_of := dT c X G 40 40 rfl rfl
    d_are_facing := dT c X G 41 41 rfl rfl
    d_facing_pairs := dT c X G 42 42 rfl rfl
    d_posts := dT c X G 43 43 rfl rfl
    d_is_post := dT c X G 44 44 rfl rfl
    d_can_be_stuck := dT c X G 45 45 rfl rfl
    d_facing := dT c X G 46 46 rfl rfl
    d_way_of_cart := dT c X G 47 47 rfl rfl
    d_cart_next := dT c X G 48 48 rfl rfl
    d_pair_on := dT c X G 49 49 rfl rfl
    d_cart_pair := dT c X G 50 50 rfl rfl
    d_load_of_carts := dT c X G 51 51 rfl rfl
    d_stand_in := dT c X G 52 52 rfl rfl
    d_want_stand := dT c X G 53 53 rfl rfl
    d_is_stand := dT c X G 54 54 rfl rfl
    d_on_of := dT c X G 55 55 rfl rfl
    d_come_to := dT c X G 56 56 rfl rfl
    d_stand_behind := dT c X G 57 57 rfl rfl
    d_kinds_of := dT c X G 58 58 rfl rfl
    d_refused_of := dT c X G 59 59 rfl rfl
    d_is_stuck_in := dT c X G 60 60 rfl rfl
    d_refused := dT c X G 61 61 rfl rfl
    d_is_stuck := dT c X G 62 62 rfl rfl
    d__law_pot := dT c X G 63 63 rfl rfl
    d__law_draw := dT c X G 64 64 rfl rfl
    d__law_pick := dT c X G 65 65 rfl rfl
    d__law_shape := dT c X G 66 66 rfl rfl
    d__law_bound := dT c X G 67 67 rfl rfl
    d__law_book := dT c X G 68 68 rfl rfl
    d__law_pair := dT c X G 69 69 rfl rfl
    d__law_lets := dT c X G 70 70 rfl rfl
    d__law_comes := dT c X G 71 71 rfl rfl
    d__law_on := dT c X G 72 72 rfl rfl
    d__law_all := dT c X G 73 73 rfl rfl
    d__law_is_plugged := dT c X G 74 74 rfl rfl
    d__law_told := dT c X G 75 75 rfl rfl
    d__law_right := dT c X G 76 76 rfl rfl
    m_len := He.free_ok X G (c.fact 80 rfl)
    m_isinstance := He.free_ok X G (c.fact 81 rfl)
    m_int := He.free_ok X G (c.fact 82 rfl)
    m_bool := He.free_ok X G (c.fact 83 rfl)
    m_list := He.free_ok X G (c.fact 84 rfl)
    m_tuple := He.free_ok X G (c.fact 85 rfl)
    m_all := He.free_ok X G (c.fact 86 rfl)
    m_any := He.free_ok X G (c.fact 87 rfl)
    m_min := He.free_ok X G (c.fact 88 rfl)
    m_max := He.free_ok X G (c.fact 89 rfl)
    m_range := He.free_ok X G (c.fact 90 rfl)
    m_sorted := He.free_ok X G (c.fact 91 rfl)
    m_set := He.free_ok X G (c.fact 92 rfl)
    m_enumerate := He.free_ok X G (c.fact 93 rfl)
    m_zip := He.free_ok X G (c.fact 94 rfl)
    m_sum := He.free_ok X G (c.fact 95 rfl)
    m_repr := He.free_ok X G (c.fact 96 rfl)
    m_abs := He.free_ok X G (c.fact 97 rfl)
    m_divmod := He.free_ok X G (c.fact 98 rfl)
    c_MOST_YARDS := He.int_ok X G (c.fact 99 rfl)
    c_MOST_LANES := He.int_ok X G (c.fact 100 rfl)
    c_MOST_PLACES := He.int_ok X G (c.fact 101 rfl)
    c_MOST_BOUNDS := He.int_ok X G (c.fact 102 rfl)
    c_MOST_ALTERNATIVES := He.int_ok X G (c.fact 103 rfl)
    c_MOST_CARTS := He.int_ok X G (c.fact 104 rfl) }
end
end Lk
set_option Elab.async false
set_option linter.all false
set_option maxRecDepth 100000
set_option maxHeartbeats 0
/-! Fin0: the law, from the mathematics. -/
namespace Lk
open PySem PySem.Spec PyProof.Rows L2
def AllMath : Prop := ∀ p, good p → ∃ N, MathOk (shapeF p).1 (booksF (shapeF p).1 (shapeF p).2).1 N
end Lk
open PySem PySem.W PySem.Calls PyProof.Rows
theorem Lk.holds_of (hM : Lk.AllMath) : PySem.Challenge.rw_lanekeepers_k01_whole_all_stands_of_smal.Holds := by
  w_on; o_law
  refine HandSHeadRun.head_any (r := OpenLaw.row PySem.Challenge.rw_lanekeepers_k01_whole_all_stands_of_smal) (q := view (OpenLaw.row PySem.Challenge.rw_lanekeepers_k01_whole_all_stands_of_smal).prog [108]) (H := Lk.hhk) (ob := Lk.hob) (M := 6000) (loose := Lk.hloose) (d := HandSHeadRun.topDef (OpenLaw.row PySem.Challenge.rw_lanekeepers_k01_whole_all_stands_of_smal).prog 108) (kwd := []) Lk.hob_eq
    (by kernel_rfl) (fun s => by kernel_rfl) Lk.hrun (by kernel_rfl) (by kernel_rfl) (by kernel_rfl) (by rfl) (by first | assumption | decide +kernel) (by decide +kernel) ⟨rfl, rfl, rfl, rfl, rfl, by decide +kernel⟩ ?hw ?hc
  case hw => w_witness2
  case hc =>
    refine Lk.walk_G (l := PySem.Challenge.rw_lanekeepers_k01_whole_all_stands_of_smal) (n := 63) (k := 11) (x := "_law_script") rfl (by decide) (by kernel_rfl) ⟨rfl, by decide, by decide⟩ ?F
    intro w mg fa h Y G hmg0
    obtain ⟨K, KX, c⟩ := Y
    have hmg : mg ("law" : PySem.Str) = some (.ref fa) := by
      have e : (HandSHeadRun.topDef (OpenLaw.row PySem.Challenge.rw_lanekeepers_k01_whole_all_stands_of_smal).prog 108).name = ("law" : PySem.Str) := by kernel_rfl
      rw [← e]
      exact hmg0
    let P := PySem.Challenge.rw_lanekeepers_k01_whole_all_stands_of_smal.prog
    have txs : ∀ base : Heap, Lk.Tx (Lk.hW P w K mg base) := fun base => Lk.tx_of KX G c
    obtain ⟨f, fd, e1, F⟩ := (txs h).d_law.ex
    have e2 : mg ("law" : PySem.Str) = some (.ref f) := e1
    rw [hmg] at e2
    cases e2
    have hb : ∀ (s : Shared) (u : Value), PySem.BindsTo s fd ⟨[u], []⟩ [("_law_script", u)] := fun s u => L2.FunD.bindsA (ps := ["_law_script"]) F (fun _ _ _ _ _ _ us hl => match us, hl with | [_], _ => rfl) s [u] rfl
    refine ⟨K, fd, Lk.spV (Lk.hW P w K mg h).G (fun ts t => ∃ l : List Int, ts = [.d (Lk.eIs l)] ∧ t = .d (.bool true)), KX, hb, fun H a ns only hs => Lk.law_sp only hs, fun base kin glo => ?_⟩
    exact Lk.ok_law (txs base) hM F
set_option Elab.async false
set_option linter.all false
set_option maxRecDepth 100000
set_option maxHeartbeats 2000000
/-! Q1: the order of carts; loads by sums; what stands. -/
namespace Lk
open PySem PySem.Spec PyProof.Rows L2
open PySem.W (dataLe dataLt)
/-! ### the order of carts -/
theorem lt_eW (a b : List Int) : dataLt (eW a) (eW b) = decide (a < b) := by
  show dataLt (.tuple (a.map PyData.int)) (.tuple (b.map PyData.int)) = _
  rw [PySem.W.dataLt_tuple]
  exact PySem.W.dataLt_ints a b
theorem eqv_eW (a b : List Int) : PyData.eqv (eW a) (eW b) = decide (a = b) := by
  show PyData.eqv (.tuple (a.map PyData.int)) (.tuple (b.map PyData.int)) = _
  rw [PyData.eqv, eqvAll_map eqe_int]
theorem leC_eq (a b : LC) : leC a b = decide (a.1 < b.1 ∨ (a.1 = b.1 ∧ a.2 ≤ b.2)) := by
  unfold leC
  rw [PySem.W.dataLe_eq]
  show (!dataLt (eC b) (eC a)) = _
  unfold eC
  rw [PySem.W.dataLt_pair (al_int _ _) (al_W _ _), eqv_int, eqv_eW, lt_eW, PySem.W.dataLt_int]
  rw [Bool.eq_iff_iff]
  by_cases h1 : b.1 = a.1
  · by_cases h2 : b.2 = a.2
    · simp [h1, h2]
    · simp only [h1, h2, decide_true, decide_false, if_true, Bool.false_eq_true, if_false, Bool.not_eq_true', decide_eq_false_iff_not, decide_eq_true_eq]
      rw [List.not_lt]
      simp
  · have h1' : ¬ a.1 = b.1 := fun z => h1 z.symm
    simp [h1, h1']
    omega
theorem leC_tr (a b c : LC) (h1 : leC a b = true) (h2 : leC b c = true) : leC a c = true := by
  rw [leC_eq, decide_eq_true_eq] at *
  rcases h1 with h1 | ⟨h1, h1'⟩ <;> rcases h2 with h2 | ⟨h2, h2'⟩
  · left; omega
  · left; omega
  · left; omega
  · right; exact ⟨by omega, List.le_trans h1' h2'⟩
theorem leC_tot (a b : LC) : (leC a b || leC b a) = true := by
  rw [leC_eq, leC_eq, Bool.or_eq_true, decide_eq_true_eq, decide_eq_true_eq]
  rcases Int.lt_trichotomy a.1 b.1 with h | h | h
  · exact .inl (.inl h)
  · rcases List.le_total a.2 b.2 with g | g
    · exact .inl (.inr ⟨h, g⟩)
    · exact .inr (.inr ⟨h.symm, g⟩)
  · exact .inr (.inl h)
theorem leC_anti (a b : LC) (h1 : leC a b = true) (h2 : leC b a = true) : a = b := by
  rw [leC_eq, decide_eq_true_eq] at *
  obtain ⟨a1, a2⟩ := a
  obtain ⟨b1, b2⟩ := b
  simp only at h1 h2
  have e1 : a1 = b1 := by omega
  subst e1
  have g1 : a2 ≤ b2 := by
    rcases h1 with h | h
    · omega
    · exact h.2
  have g2 : b2 ≤ a2 := by
    rcases h2 with h | h
    · omega
    · exact h.2
  rw [List.le_antisymm g1 g2]
theorem sortC_perm (s : Sd) : (sortC s).Perm s := List.mergeSort_perm s leC
theorem sortC_uniq {s t : Sd} (h : s.Perm t) : sortC s = sortC t :=
  sorted_uniq (le := leC) leC_anti _ _ ((sortC_perm s).trans (h.trans (sortC_perm t).symm)) (List.pairwise_mergeSort leC_tr leC_tot s) (List.pairwise_mergeSort leC_tr leC_tot t)
/-! ### sums -/
theorem sum_perm {l m : List Int} (h : l.Perm m) : l.sum = m.sum := by
  induction h with
  | nil => rfl
  | cons x _ ih => rw [List.sum_cons, List.sum_cons, ih]
  | swap x y l => simp only [List.sum_cons]; omega
  | trans _ _ a b => rw [a, b]
/-- the carts of a load, weighed by their pairs -/
def wS (f : Pr → Int) (l : List Rw) : Int := (l.map fun r => f (r.1, r.2.1) * r.2.2).sum
def wP (f : Pr → Int) (ps : List Pr) : Int := (ps.map f).sum
theorem wS_pc (f : Pr → Int) (o t : Int) : ∀ (l : List Rw) (s : List Rw × Int), wS f (l.foldl (pcTurn o t) s).1 + f (o, t) * (l.foldl (pcTurn o t) s).2 = wS f s.1 + f (o, t) * s.2 + wS f l
  | [], s => by simp [wS]
  | r :: l, s => by
    rw [List.foldl_cons, wS_pc f o t l]
    have e : wS f (r :: l) = f (r.1, r.2.1) * r.2.2 + wS f l := by simp [wS]
    rw [e]
    unfold pcTurn
    split
    · rename_i h
      simp only
      rw [h, Int.mul_add]
      omega
    · have e2 : wS f (s.1 ++ [r]) = wS f s.1 + f (r.1, r.2.1) * r.2.2 := by simp [wS]
      simp only
      rw [e2]
      omega
theorem wS_plus (f : Pr → Int) (l : List Rw) (o t : Int) : wS f (plusC l o t) = wS f l + f (o, t) := by
  unfold plusC sort3
  have h : wS f (((l.foldl (pcTurn o t) ([], 1)).1 ++ [(o, t, (l.foldl (pcTurn o t) ([], 1)).2)]).mergeSort le3) = wS f ((l.foldl (pcTurn o t) ([], 1)).1 ++ [(o, t, (l.foldl (pcTurn o t) ([], 1)).2)]) := sum_perm ((List.mergeSort_perm _ _).map _)
  rw [h]
  have e : wS f ((l.foldl (pcTurn o t) ([], 1)).1 ++ [(o, t, (l.foldl (pcTurn o t) ([], 1)).2)]) = wS f (l.foldl (pcTurn o t) ([], 1)).1 + f (o, t) * (l.foldl (pcTurn o t) ([], 1)).2 := by simp [wS]
  rw [e, wS_pc]
  simp [wS]
  omega
/-- the load l is made of the carts with pairs ps -/
def Rp (l : List Rw) (ps : List Pr) : Prop := ∀ f : Pr → Int, wS f l = wP f ps
theorem rp_nil : Rp [] [] := fun f => rfl
theorem rp_plus {l : List Rw} {ps : List Pr} (h : Rp l ps) (o t : Int) : Rp (plusC l o t) (ps ++ [(o, t)]) := fun f => by
  rw [wS_plus, h f]
  simp [wP]
theorem rp_perm {l : List Rw} {ps qs : List Pr} (h : Rp l ps) (p : ps.Perm qs) : Rp l qs := fun f => (h f).trans (sum_perm (p.map f))
theorem sum_ind (c : Pr → Bool) : ∀ ps : List Pr, wP (fun p => if c p = true then 1 else 0) ps = ((ps.filter c).length : Nat)
  | [] => rfl
  | p :: ps => by
    have ih := sum_ind c ps
    unfold wP at ih ⊢
    rw [List.map_cons, List.sum_cons, ih, List.filter_cons]
    split <;> simp
    omega
theorem kp_fold (b : Bd) : ∀ (l : List Rw) (m : Int), l.foldl (kpTurn b) m = m + wS (fun p => if (fits b.1 p.1 && fits b.2.1 p.2) = true then 1 else 0) l
  | [], m => by simp [wS]
  | r :: l, m => by
    rw [List.foldl_cons, kp_fold b l]
    have e : ∀ f, wS f (r :: l) = f (r.1, r.2.1) * r.2.2 + wS f l := fun f => by simp [wS]
    rw [e]
    unfold kpTurn
    by_cases h : (fits b.1 r.1 && fits b.2.1 r.2.1) = true
    · simp only [h, if_true]; omega
    · simp only [h, if_false]; simp
theorem keeps_rp {b : Bd} {l : List Rw} {ps : List Pr} (h : Rp l ps) : keepsF b l = !overF b ps := by
  unfold keepsF overF
  rw [kp_fold, h, sum_ind (fun p => fits b.1 p.1 && fits b.2.1 p.2)]
  rw [Bool.eq_iff_iff]
  simp
theorem wgt_rp {l : List Rw} {ps : List Pr} (h : Rp l ps) : wgt l = ps.length := by
  have h1 := h fun _ => 1
  have e1 : wS (fun _ => 1) l = wgt l := by simp [wS, wgt]
  have e2 : ∀ ps : List Pr, wP (fun _ => 1) ps = ps.length := by
    intro ps
    induction ps with
    | nil => rfl
    | cons p ps ih =>
      unfold wP at ih ⊢
      rw [List.map_cons, List.sum_cons, ih, List.length_cons]
      omega
  rw [← e1, h1, e2]
theorem stands_rp {b : Bk2} {l : List Rw} {ps : List Pr} (h : Rp l ps) : standsF b l = letsF b ps := by
  unfold standsF letsF
  congr 1
  funext a
  unfold standsOne lets1
  rw [wgt_rp h]
  congr 1
  rw [Bool.eq_iff_iff, List.all_eq_true, List.isEmpty_iff, List.filter_eq_nil_iff]
  constructor
  · intro g x hx z
    have := g x hx
    rw [keeps_rp h, z] at this
    cases this
  · intro g x hx
    rw [keeps_rp h]
    have := g x hx
    simpa using this
/-! ### what stands, by pairs -/
theorem over_mono {b : Bd} {ps qs : List Pr} (h : ps.Sublist qs) (o : overF b ps = true) : overF b qs = true := by
  unfold overF at *
  rw [decide_eq_true_eq] at *
  have := (h.filter fun p => fits b.1 p.1 && fits b.2.1 p.2).length_le
  omega
theorem lets1_mono {a : Al} {ps qs : List Pr} (h : ps.Sublist qs) (o : lets1 a qs = true) : lets1 a ps = true := by
  unfold lets1 at *
  rw [Bool.and_eq_true, decide_eq_true_eq, List.isEmpty_iff, List.filter_eq_nil_iff] at *
  refine ⟨by have := h.length_le; omega, fun x hx z => o.2 x hx (over_mono h z)⟩
theorem lets_mono {b : Bk2} {ps qs : List Pr} (h : ps.Sublist qs) (o : letsF b qs = true) : letsF b ps = true := by
  unfold letsF at *
  rw [List.any_eq_true] at *
  obtain ⟨a, h1, h2⟩ := o
  exact ⟨a, h1, lets1_mono h h2⟩
theorem lets_perm {b : Bk2} {ps qs : List Pr} (h : ps.Perm qs) : letsF b ps = letsF b qs := by
  unfold letsF
  congr 1
  funext a
  unfold lets1
  rw [h.length_eq]
  congr 1
  congr 1
  congr 1
  funext x
  unfold overF
  rw [((h.filter fun p => fits x.1 p.1 && fits x.2.1 p.2)).length_eq]
theorem lets_len {b : Bk2} {m : Int} (hb : ∀ a ∈ b, a.1 ≤ m) {ps : List Pr} (h : letsF b ps = true) : (ps.length : Int) ≤ m := by
  unfold letsF at h
  obtain ⟨a, h1, h2⟩ := List.any_eq_true.mp h
  unfold lets1 at h2
  rw [Bool.and_eq_true, decide_eq_true_eq] at h2
  have := hb a h1
  omega
end Lk
set_option Elab.async false
set_option linter.all false
set_option maxRecDepth 100000
set_option maxHeartbeats 2000000
/-! Q2: the drawn books are books. -/
namespace Lk
open PySem PySem.Spec PyProof.Rows L2
def Gd (n : Nat) (y : Int) (b : Bk2) : Prop := bookOk (land n) y b = true ∧ ∀ a ∈ b, a.1 ≤ mostOf n y
structure GoodBM (n : Nat) (bm : BM) : Prop where
  keys : bm.map (·.1) = landY n
  gd : ∀ q ∈ bm, Gd n q.1 q.2
theorem land_row : ∀ n < 4, ∀ y ∈ landY n, besF n y = (land n).row y ∧ (∀ x ∈ besF n y, 0 ≤ x) ∧ mostOf n y ≤ 3 ∧ (land n).isP y = true := by decide +kernel
theorem land_kept : ∀ n < 4, ∀ post ∈ candF n, ∀ y ∈ landY n, y ≠ post → bookOk (land n) y (keptBk n post y) = true := by decide +kernel
theorem land_nd : ∀ n < 4, (landY n).Nodup := by decide +kernel
theorem others_mem {bes : List Int} {x z : Int} (h : z ∈ othersOf bes x) : z ∈ bes ∧ z ≠ x := by
  obtain ⟨h1, h2⟩ := List.mem_filter.mp h
  exact ⟨h1, by simpa using h2⟩
theorem bound_ok {p : Pot} {bes : List Int} {least most : Int} (hg : good p) (hb : besOk bes) (hz : ∀ x ∈ bes, 0 ≤ x) (h0 : 0 ≤ least) (hm : least ≤ most) (h6 : most ≤ 6) : bOk bes (boundF p bes least most).1 = true ∧ least ≤ (boundF p bes least most).1.2.2 := by
  obtain ⟨_, m1, g1⟩ := pick_at hg hb.1
  obtain ⟨g2, k1, k2⟩ := draw_good (m := 3) g1 (by omega)
  obtain ⟨_, m2, g3⟩ := pick_at g2 (hb.2.2 _ m1)
  obtain ⟨g4, l1, l2⟩ := draw_good (m := most - least + 1) g3 (by omega)
  obtain ⟨m3, m4⟩ := others_mem m2
  have eo : ∀ x ∈ bes, eoOk bes (some x) = true := fun x hx => by
    unfold eoOk
    simp [hz x hx, hx]
  unfold boundF bOk
  generalize (pickF p bes).1 = a at *
  generalize (pickF (drawF (pickF p bes).2 3).2 (othersOf bes a)).1 = c at *
  generalize (drawF (pickF p bes).2 3).1 = k at *
  simp only [Bool.and_eq_true, decide_eq_true_eq]
  refine ⟨⟨⟨⟨?_, ?_⟩, ?_⟩, by omega, by omega⟩, by omega⟩
  · split
    · exact eo a m1
    · rfl
  · split
    · exact eo c m3
    · rfl
  · by_cases h1 : 0 < k <;> by_cases h2 : k < 2
    · rw [if_pos h1, if_pos h2]
      intro z
      exact m4 (Option.some.inj z).symm
    · rw [if_pos h1, if_neg h2]
      exact fun z => nomatch z
    · rw [if_neg h1, if_pos h2]
      exact fun z => nomatch z
    · omega
theorem bs_ok {bes : List Int} {l m : Int} {p : Pot} (hg : good p) (hb : besOk bes) (hz : ∀ x ∈ bes, 0 ≤ x) (h0 : 0 ≤ l) (hm : l ≤ m) (h6 : m ≤ 6) : ∀ n, (bsIt bes l m n p).1.length = n ∧ ∀ b ∈ (bsIt bes l m n p).1, bOk bes b = true ∧ l ≤ b.2.2
  | 0 => ⟨rfl, fun b h => nomatch h⟩
  | n + 1 => by
    obtain ⟨h1, h2⟩ := bs_ok hg hb hz h0 hm h6 n
    rw [bsIt]
    refine ⟨by rw [List.length_append, h1]; rfl, fun b h => ?_⟩
    rcases List.mem_append.mp h with h | h
    · exact h2 b h
    · rw [List.mem_singleton.mp h]
      exact bound_ok (bsIt_good hg hb hm n) hb hz h0 hm h6
theorem single_ok {a : Al} (h1 : 1 ≤ a.1) (h2 : ∀ b ∈ a.2, 1 ≤ b.2.2) (p : Pr) : standsOne a [(p.1, p.2, 1)] = true := by
  unfold standsOne
  rw [Bool.and_eq_true, List.all_eq_true]
  refine ⟨by simp [wgt]; omega, fun b hb => ?_⟩
  have := h2 b hb
  unfold keepsF
  rw [List.foldl_cons, List.foldl_nil]
  unfold kpTurn
  split <;> simp <;> omega
theorem own_gd {n : Nat} (hn : n < 4) {y : Int} (hy : y ∈ landY n) {p : Pot} (hg : good p) : Gd n y (ownB n p y).1 := by
  obtain ⟨r1, r2, r3, r4⟩ := land_row n hn y hy
  obtain ⟨_, m1, m2⟩ := land_most n hn y hy
  have hb := besF_ok hn hy
  have hok := land_ok n hn
  have hpl : 1 ≤ (placesF p (mostOf n y)).1 ∧ (placesF p (mostOf n y)).1 ≤ mostOf n y ∧ good (placesF p (mostOf n y)).2 := by
    unfold placesF
    split
    · obtain ⟨g, a, b⟩ := draw_good (m := 2) hg (by omega)
      exact ⟨by show 1 ≤ mostOf n y - _; omega, by show mostOf n y - _ ≤ _; omega, g⟩
    · exact ⟨m1, Int.le_refl _, hg⟩
  unfold ownB
  generalize hbe : besF n y = bes at *
  generalize hmo : mostOf n y = most at *
  obtain ⟨p1, p2, gq⟩ := hpl
  obtain ⟨g1, n1, n2⟩ := draw_good (m := 3) gq (by omega)
  obtain ⟨b1, b2⟩ := bs_ok (l := 1) (m := 2) g1 hb r2 (by omega) (by omega) (by omega) (drawF (placesF p most).2 3).1.toNat
  have g2 := bsIt_good (l := 1) (m := 2) g1 hb (by omega) (drawF (placesF p most).2 3).1.toNat
  obtain ⟨g3, z1, z2⟩ := draw_good (m := 2) g2 (by omega)
  have fin : ∀ more : List Al, more.length ≤ 1 → (∀ a ∈ more, aOk bes a = true ∧ a.1 ≤ most) → Gd n y (((placesF p most).1, (bsIt bes 1 2 (drawF (placesF p most).2 3).1.toNat (drawF (placesF p most).2 3).2).1) :: more) := by
    intro more hl hm
    refine ⟨?_, fun a ha => ?_⟩
    · unfold bookOk
      rw [← r1]
      simp only [Bool.and_eq_true, decide_eq_true_eq, List.all_eq_true, List.length_cons]
      refine ⟨⟨⟨⟨hok, r4⟩, by omega, by omega⟩, fun a ha => ?_⟩, fun q hq => ?_⟩
      · rcases List.mem_cons.mp ha with rfl | ha
        · unfold aOk
          simp only [Bool.and_eq_true, decide_eq_true_eq, List.all_eq_true, b1]
          exact ⟨⟨p1, by omega, by omega⟩, fun b hb' => (b2 b hb').1⟩
        · exact (hm a ha).1
      · unfold standsF
        rw [List.any_cons, single_ok p1 (fun b hb' => (b2 b hb').2) q]
        rfl
    · rcases List.mem_cons.mp ha with rfl | ha
      · exact hmo ▸ p2
      · exact hmo ▸ (hm a ha).2
  unfold bookF
  simp only
  split
  · obtain ⟨g4, d1, d2⟩ := draw_good (m := most) g3 (by omega)
    obtain ⟨g5, e1, e2⟩ := draw_good (m := 2) g4 (by omega)
    obtain ⟨c1, c2⟩ := bs_ok (l := 0) (m := 1) g5 hb r2 (by omega) (by omega) (by omega) (1 + (drawF (drawF (drawF (bsIt bes 1 2 (drawF (placesF p most).2 3).1.toNat (drawF (placesF p most).2 3).2).2 2).2 most).2 2).1).toNat
    refine fin [_] (Nat.le_refl _) fun a ha => ?_
    rw [List.mem_singleton.mp ha]
    refine ⟨?_, by show 1 + _ ≤ most; omega⟩
    unfold aOk
    simp only [Bool.and_eq_true, decide_eq_true_eq, List.all_eq_true, c1]
    exact ⟨⟨by omega, by omega, by omega⟩, fun b hb' => (c2 b hb').1⟩
  · exact fin [] (by simp) fun a ha => nomatch ha
theorem kept_gd {n : Nat} (hn : n < 4) {y post : Int} (hy : y ∈ landY n) (hp : post ∈ candF n) (hne : y ≠ post) : Gd n y (keptBk n post y) := by
  refine ⟨land_kept n hn post hp y hy hne, fun a ha => ?_⟩
  unfold keptBk at ha
  rw [List.mem_singleton.mp ha]
  exact Int.le_refl _
theorem putB_new {bm : BM} {y : Int} {b : Bk2} (h : y ∉ bm.map (·.1)) : putB bm y b = bm ++ [(y, b)] := by
  unfold putB
  rw [if_neg]
  intro z
  obtain ⟨q, hq, e⟩ := List.any_eq_true.mp z
  exact h (List.mem_map.mpr ⟨q, hq, of_decide_eq_true e⟩)
theorem putB_again {bm : BM} {y : Int} {b b2 : Bk2} (h : y ∉ bm.map (·.1)) : putB (bm ++ [(y, b)]) y b2 = bm ++ [(y, b2)] := by
  unfold putB
  rw [if_pos (by simp), List.map_append]
  congr 1
  · have e : (bm.map fun q => if q.1 = y then (q.1, b2) else q) = bm.map id := List.map_congr_left fun q hq => if_neg fun z => h (List.mem_map.mpr ⟨q, hq, z⟩)
    rw [e, List.map_id]
  · simp
theorem books_fold {n : Nat} (hn : n < 4) {post : Int} (hp : post ∈ candF n) (kept : Bool) : ∀ (ys : List Int) (st : BM × Pot), (∀ y ∈ ys, y ∈ landY n) → (st.1.map (·.1) ++ ys).Nodup → (∀ q ∈ st.1, Gd n q.1 q.2) → good st.2 →
    (ys.foldl (bkTurn n post kept) st).1.map (·.1) = st.1.map (·.1) ++ ys ∧ ∀ q ∈ (ys.foldl (bkTurn n post kept) st).1, Gd n q.1 q.2
  | [], st, _, _, h, _ => ⟨by simp, h⟩
  | y :: ys, st, hy, hnd, h, hg => by
    have hym := hy y (List.mem_cons_self ..)
    have hfr : y ∉ st.1.map (·.1) := fun z => by
      have := (List.nodup_append.mp hnd).2.2 y z y (List.mem_cons_self ..)
      exact this rfl
    obtain ⟨_, m1, _⟩ := land_most n hn y hym
    have key : ∃ b, bkTurn n post kept st y = (st.1 ++ [(y, b)], (ownB n st.2 y).2) ∧ Gd n y b := by
      unfold bkTurn
      split
      · rename_i hc
        rw [putB_new hfr, putB_again hfr]
        refine ⟨_, rfl, kept_gd hn hym hp ?_⟩
        rw [Bool.and_eq_true] at hc
        simpa using hc.2
      · rw [putB_new hfr]
        exact ⟨_, rfl, own_gd hn hym hg⟩
    obtain ⟨b, e, hb⟩ := key
    rw [List.foldl_cons, e]
    obtain ⟨h1, h2⟩ := books_fold hn hp kept ys (st.1 ++ [(y, b)], (ownB n st.2 y).2) (fun z hz => hy z (List.mem_cons_of_mem _ hz)) (by simpa using hnd) (fun q hq => by
      rcases List.mem_append.mp hq with hq | hq
      · exact h q hq
      · rw [List.mem_singleton.mp hq]; exact hb) (book_good hg (besF_ok hn hym) m1)
    exact ⟨by rw [h1]; simp, h2⟩
theorem books_good {n : Nat} (hn : n < 4) {q : Pot} (hg : good q) : GoodBM n (booksF n q).1 := by
  obtain ⟨hc1, _⟩ := land_cand n hn
  obtain ⟨_, hp, gp⟩ := pick_at hg hc1
  have gk : good (keptF n q).2 := (draw_good (m := 2) gp (by omega)).1
  obtain ⟨h1, h2⟩ := books_fold hn hp (keptF n q).1 (landY n) ([], (keptF n q).2) (fun y h => h) (by simpa using land_nd n hn) (fun q h => nomatch h) gk
  exact ⟨h1, h2⟩
end Lk
set_option Elab.async false
set_option linter.all false
set_option maxRecDepth 100000
set_option maxHeartbeats 2000000
/-! Q3: all stands: what the going through finds. -/
namespace Lk
open PySem PySem.Spec PyProof.Rows L2
/-! ### the lands -/
theorem land_cy : ∀ n < 4, ∀ c ∈ cartsL n, c.1 ∈ landY n ∧ (onL c).1 ≠ c.1 := by decide +kernel
theorem land_cnd : ∀ n < 4, (cartsL n).Nodup := by decide +kernel
theorem land_lcon : ∀ n < 4, ∀ w ∈ waysS n, ∀ y ∈ w, (onL (y, w)).1 ∈ landY n → lcOk (onL (y, w)) = true := by decide +kernel
/-! ### books by yards -/
def gB (bm : BM) (y : Int) : Bk2 := (getB bm y).getD []
section
variable {n : Nat} {bm : BM}
theorem getB_keys {bm : BM} {y : Int} : (y ∈ bm.map (·.1)) ↔ (getB bm y).isSome = true := by
  unfold getB
  rw [Option.isSome_map, List.find?_isSome, List.mem_map]
  simp
theorem getB_in (g : GoodBM n bm) {y : Int} (hy : y ∈ landY n) : getB bm y = some (gB bm y) := by
  have h : (getB bm y).isSome = true := getB_keys.mp (by rw [g.keys]; exact hy)
  unfold gB
  cases e : getB bm y with
  | none => rw [e] at h; cases h
  | some b => rfl
theorem getB_out (g : GoodBM n bm) {y : Int} (hy : y ∉ landY n) : getB bm y = none := by
  cases e : getB bm y with
  | none => rfl
  | some b =>
    have h := getB_keys.mpr (show (getB bm y).isSome = true by rw [e]; rfl)
    rw [g.keys] at h
    exact absurd h hy
theorem getB_pair {bm : BM} {y : Int} {b : Bk2} (h : getB bm y = some b) : (y, b) ∈ bm := by
  unfold getB at h
  cases e : bm.find? fun q => decide (q.1 = y) with
  | none => rw [e] at h; cases h
  | some p =>
    rw [e] at h
    cases h
    have h1 := List.mem_of_find?_eq_some e
    have h2 := List.find?_some e
    have h3 : p.1 = y := of_decide_eq_true h2
    rw [← h3]
    exact h1
theorem gB_gd (g : GoodBM n bm) {y : Int} (hy : y ∈ landY n) : Gd n y (gB bm y) := g.gd _ (getB_pair (getB_in g hy))
theorem gd_small {b : Bk2} {y : Int} (h : Gd n y b) : bkSmall b = true := by
  have h1 := h.1
  simp only [bookOk, Bool.and_eq_true, List.all_eq_true, decide_eq_true_eq] at h1
  exact aOk_small h1.1.2 h1.1.1.2.2
theorem lets_single (g : GoodBM n bm) {y : Int} (hy : y ∈ landY n) {p : Pr} (hp : p ∈ pairsOf ((land n).row y)) : letsF (gB bm y) [p] = true := by
  have h1 := (gB_gd g hy).1
  simp only [bookOk, Bool.and_eq_true, List.all_eq_true, decide_eq_true_eq] at h1
  have h2 := h1.2 p hp
  have r : Rp [(p.1, p.2, 1)] [p] := fun f => by simp [wS, wP]
  rw [← stands_rp r]
  exact h2
theorem pairsOn_perm {s t : Sd} (h : s.Perm t) (y : Int) : (pairsOn s y).Perm (pairsOn t y) := (h.filter _).map _
theorem comes_perm {s t : Sd} (h : s.Perm t) (c : LC) : comesF bm s c = comesF bm t c := by
  unfold comesF
  cases getB bm c.1 with
  | none => rfl
  | some b => exact lets_perm ((pairsOn_perm h c.1).append_right _)
/-- a valid stand -/
structure Vs (n : Nat) (bm : BM) (s : Sd) : Prop where
  ca : ∀ c ∈ s, c ∈ cartsL n
  le : ∀ y ∈ landY n, letsF (gB bm y) (pairsOn s y) = true
theorem Vs.perm {s t : Sd} (v : Vs n bm s) (h : s.Perm t) : Vs n bm t :=
  ⟨fun c hc => v.ca c (h.mem_iff.mpr hc), fun y hy => by rw [← lets_perm (pairsOn_perm h y)]; exact v.le y hy⟩
theorem Vs.sub {s t : Sd} (v : Vs n bm s) (h : t.Sublist s) : Vs n bm t :=
  ⟨fun c hc => v.ca c (h.subset hc), fun y hy => lets_mono ((h.filter _).map _) (v.le y hy)⟩
theorem pairsOn_add (s : Sd) (c : LC) (y : Int) : pairsOn (s ++ [c]) y = if c.1 = y then pairsOn s y ++ [pairL c] else pairsOn s y := by
  unfold pairsOn
  rw [List.filter_append, List.map_append]
  split
  · rename_i h; simp [h]
  · rename_i h; simp [h]
theorem Vs.add (g : GoodBM n bm) {s : Sd} (v : Vs n bm s) {c : LC} (hc : c ∈ cartsL n) (hn : n < 4) (h : comesF bm s c = true) : Vs n bm (s ++ [c]) := by
  refine ⟨fun d hd => ?_, fun y hy => ?_⟩
  · rcases List.mem_append.mp hd with hd | hd
    · exact v.ca d hd
    · rw [List.mem_singleton.mp hd]; exact hc
  · rw [pairsOn_add]
    split
    · rename_i e
      unfold comesF at h
      rw [e, getB_in g hy] at h
      exact h
    · exact v.le y hy
theorem vs_nil (g : GoodBM n bm) (hn : n < 4) : Vs n bm [] := by
  refine ⟨fun c h => (nomatch h), fun y hy => ?_⟩
  have hp : ∀ n < 4, ∀ y ∈ landY n, pairsOf ((land n).row y) ≠ [] := by decide +kernel
  obtain ⟨p, hp⟩ := List.exists_mem_of_ne_nil _ (hp n hn y hy)
  exact lets_mono (List.nil_sublist _) (lets_single g hy hp)
end
/-! ### what is found from a stand -/
def goB (bm : BM) (s : Sd) (i : Nat) : Bool := comesF bm (leftAt s i) (lateAt s i)
theorem inF_eq (bm : BM) (s : Sd) : ∀ (ws : List (List Int)) (acc : List Sd), ws.foldl (inStep bm s) acc = acc ++ (ws.filter fun w => comesF bm s (headC w)).map fun w => s ++ [headC w]
  | [], acc => by simp
  | w :: ws, acc => by
    rw [List.foldl_cons, inF_eq bm s ws, List.filter_cons]
    unfold inStep
    split <;> simp
theorem goF_eq (bm : BM) (s : Sd) : ∀ (is : List Nat) (st : Nat × List Sd), is.foldl (goStep bm s) st = (st.1 + (is.filter (goB bm s)).length, st.2 ++ (is.filter (goB bm s)).map (nextAt bm s))
  | [], st => by simp
  | i :: is, st => by
    rw [List.foldl_cons, goF_eq bm s is, List.filter_cons]
    unfold goStep
    by_cases h : goB bm s i = true
    · have h' : comesF bm (leftAt s i) (lateAt s i) = true := h
      rw [if_pos h', if_pos h]
      simp
      omega
    · have h' : ¬ comesF bm (leftAt s i) (lateAt s i) = true := h
      rw [if_neg h', if_neg h]
theorem found_fst (bm : BM) (ways : List (List Int)) (s : Sd) : (foundF bm ways s).1 = ((List.range s.length).filter (goB bm s)).length := by
  unfold foundF
  rw [goF_eq]
  simp
theorem found_snd (bm : BM) (ways : List (List Int)) (s : Sd) : (foundF bm ways s).2 = ((ways.filter fun w => comesF bm s (headC w)).map fun w => s ++ [headC w]) ++ ((List.range s.length).filter (goB bm s)).map (nextAt bm s) := by
  unfold foundF
  rw [goF_eq, inF_eq]
  simp
theorem cut_at {s : Sd} {i : Nat} (h : i < s.length) : s.Perm (cartAt s i :: leftAt s i) := by
  have e : s = s.take i ++ (s[i] :: s.drop (i + 1)) := by rw [← List.drop_eq_getElem_cons h, List.take_append_drop]
  have e2 : cartAt s i = s[i] := by unfold cartAt; rw [List.getElem?_eq_getElem h]; rfl
  rw [e2]
  unfold leftAt
  exact (List.Perm.of_eq e).trans List.perm_middle
section
variable {n : Nat} {bm : BM}
theorem left_sub (s : Sd) (i : Nat) : (leftAt s i).Sublist s := by
  unfold leftAt
  have h : (s.take i ++ s.drop (i + 1)).Sublist (s.take i ++ s.drop i) := (List.Sublist.refl _).append (List.drop_sublist_drop_left s (Nat.le_succ i))
  rw [List.take_append_drop] at h
  exact h
theorem late_cart (g : GoodBM n bm) (hn : n < 4) {s : Sd} (v : Vs n bm s) {i : Nat} (hi : i < s.length) (h : (getB bm (lateAt s i).1).isSome = true) : lateAt s i ∈ cartsL n := by
  have hc := v.ca _ ((cut_at hi).mem_iff.mpr (List.mem_cons_self ..))
  rcases land_on n hn _ hc with q | ⟨_, q⟩
  · exact q
  · have e : getB bm (lateAt s i).1 = none := getB_out g q
    rw [e] at h
    cases h
theorem found_vs (g : GoodBM n bm) (hn : n < 4) {s : Sd} (v : Vs n bm s) {t : Sd} (ht : t ∈ (foundF bm (waysS n) s).2) : Vs n bm t := by
  rw [found_snd] at ht
  rcases List.mem_append.mp ht with ht | ht
  · obtain ⟨w, hw, rfl⟩ := List.mem_map.mp ht
    obtain ⟨hw1, hw2⟩ := List.mem_filter.mp hw
    exact v.add g (land_head n hn w hw1).1 hn hw2
  · obtain ⟨i, hi, rfl⟩ := List.mem_map.mp ht
    obtain ⟨hi1, hi2⟩ := List.mem_filter.mp hi
    have hl := List.mem_range.mp hi1
    have vl := v.sub (left_sub s i)
    unfold nextAt
    split
    · rename_i h
      exact vl.add g (late_cart g hn v hl h) hn hi2
    · exact vl
end
/-! ### rows -/
theorem adds_mem : ∀ (ones rows : List Sd) (x : Sd), x ∈ ones.foldl addStep rows ↔ x ∈ rows ∨ x ∈ ones
  | [], rows, x => by simp
  | o :: ones, rows, x => by
    rw [List.foldl_cons, adds_mem ones]
    unfold addStep
    split
    · rename_i h
      constructor
      · rintro (h1 | h1)
        · exact .inl h1
        · exact .inr (List.mem_cons_of_mem _ h1)
      · rintro (h1 | h1)
        · exact .inl h1
        · rcases List.mem_cons.mp h1 with rfl | h1
          · exact .inl h
          · exact .inr h1
    · simp [or_assoc]
theorem adds_nd : ∀ (ones rows : List Sd), rows.Nodup → (ones.foldl addStep rows).Nodup
  | [], rows, h => h
  | o :: ones, rows, h => by
    rw [List.foldl_cons]
    refine adds_nd ones _ ?_
    unfold addStep
    split
    · exact h
    · rename_i hn
      rw [List.nodup_append]
      refine ⟨h, by simp, fun a ha b hb e => ?_⟩
      rw [List.mem_singleton.mp hb] at e
      subst e
      exact hn ha
theorem adds_pre : ∀ (ones rows : List Sd), ∃ more, ones.foldl addStep rows = rows ++ more
  | [], rows => ⟨[], by simp⟩
  | o :: ones, rows => by
    rw [List.foldl_cons]
    obtain ⟨m, e⟩ := adds_pre ones (addStep rows o)
    rw [e]
    unfold addStep
    split
    · exact ⟨m, rfl⟩
    · exact ⟨[o] ++ m, by simp⟩
section
variable {n : Nat} {bm : BM}
theorem row_step (bm : BM) (ways : List (List Int)) (m : Nat) : ∃ more, (allIt bm ways (m + 1)).1 = (allIt bm ways m).1 ++ more := by
  show ∃ more, (turnA bm ways m (allIt bm ways m)).1 = _
  exact adds_pre _ _
theorem row_pre (bm : BM) (ways : List (List Int)) {i m : Nat} (h : i ≤ m) : ∃ more, (allIt bm ways m).1 = (allIt bm ways i).1 ++ more := by
  induction m with
  | zero =>
    have e : i = 0 := by omega
    subst e
    exact ⟨[], by simp⟩
  | succ m ih =>
    by_cases e : i = m + 1
    · subst e; exact ⟨[], by simp⟩
    · obtain ⟨a, ha⟩ := ih (by omega)
      obtain ⟨b, hb⟩ := row_step bm ways m
      exact ⟨a ++ b, by rw [hb, ha, List.append_assoc]⟩
/-- the rows are valid, sorted, none twice -/
structure RowsOk (n : Nat) (bm : BM) (m : Nat) : Prop where
  v : ∀ s ∈ (allIt bm (waysS n) m).1, Vs n bm s ∧ sortC s = s
  nd : (allIt bm (waysS n) m).1.Nodup
theorem rowAtD_mem {rows : List Sd} {m : Nat} : rowAtD rows m ∈ rows ∨ rowAtD rows m = [] := by
  unfold rowAtD
  cases e : rows[m]? with
  | none => exact .inr rfl
  | some s => exact .inl (List.mem_of_getElem? e)
theorem rows_ok (g : GoodBM n bm) (hn : n < 4) : ∀ m, RowsOk n bm m
  | 0 => ⟨fun s hs => by
      have e : s = [] := by simpa [allIt] using hs
      subst e
      exact ⟨vs_nil g hn, by unfold sortC; simp⟩, by simp [allIt]⟩
  | m + 1 => by
    have ih := rows_ok g hn m
    have hv : Vs n bm (rowAtD (allIt bm (waysS n) m).1 m) := by
      rcases rowAtD_mem (rows := (allIt bm (waysS n) m).1) (m := m) with h | h
      · exact (ih.v _ h).1
      · rw [h]; exact vs_nil g hn
    refine ⟨fun s hs => ?_, ?_⟩
    · have hs' : s ∈ (turnA bm (waysS n) m (allIt bm (waysS n) m)).1 := hs
      unfold turnA at hs'
      rcases (adds_mem _ _ _).mp hs' with h | h
      · exact ih.v s h
      · obtain ⟨t, ht, rfl⟩ := List.mem_map.mp h
        exact ⟨(found_vs g hn hv ht).perm (sortC_perm t).symm, sortC_uniq (sortC_perm t)⟩
    · show (turnA bm (waysS n) m (allIt bm (waysS n) m)).1.Nodup
      exact adds_nd _ _ ih.nd
/-! ### how many there are -/
theorem len_split {α : Type} (p : α → Bool) : ∀ l : List α, l.length = (l.filter p).length + (l.filter fun x => !p x).length
  | [] => rfl
  | x :: l => by
    have ih := len_split p l
    rw [List.filter_cons, List.filter_cons, List.length_cons]
    cases p x <;> simp <;> omega
theorem len_by : ∀ (ys : List Int) (s : Sd) (m : Int → Nat), (∀ c ∈ s, c.1 ∈ ys) → (∀ y ∈ ys, (s.filter fun q => decide (q.1 = y)).length ≤ m y) → s.length ≤ (ys.map m).sum
  | [], s, m, h, _ => by
    cases s with
    | nil => simp
    | cons c s => exact nomatch (h c (List.mem_cons_self ..))
  | y :: ys, s, m, h, hm => by
    have h1 := hm y (List.mem_cons_self ..)
    have e := len_split (fun q : LC => decide (q.1 = y)) s
    have ih := len_by ys (s.filter fun q => !decide (q.1 = y)) m (fun c hc => by
      obtain ⟨a, b⟩ := List.mem_filter.mp hc
      rcases List.mem_cons.mp (h c a) with e | e
      · simp [e] at b
      · exact e) (fun z hz => Nat.le_trans (((List.filter_sublist (l := s) (p := fun q => !decide (q.1 = y))).filter _).length_le) (hm z (List.mem_cons_of_mem _ hz)))
    rw [List.map_cons, List.sum_cons]
    omega
def maxLen (n : Nat) : Nat := ((landY n).map fun y => (mostOf n y).toNat).sum
theorem vs_len (g : GoodBM n bm) (hn : n < 4) {s : Sd} (v : Vs n bm s) : s.length ≤ maxLen n := by
  refine len_by (landY n) s _ (fun c hc => (land_cy n hn c (v.ca c hc)).1) fun y hy => ?_
  have h := lets_len (gB_gd g hy).2 (v.le y hy)
  unfold pairsOn at h
  rw [List.length_map] at h
  omega
def vecs : Nat → Nat → List (List Nat)
  | 0, _ => [[]]
  | k + 1, l => (List.range (l + 1)).flatMap fun i => (vecs k (l - i)).map (i :: ·)
theorem vecs_mem : ∀ (v : List Nat) (l : Nat), v.sum ≤ l → v ∈ vecs v.length l
  | [], l, _ => by simp [vecs]
  | i :: v, l, h => by
    rw [List.sum_cons] at h
    rw [List.length_cons, vecs, List.mem_flatMap]
    exact ⟨i, List.mem_range.mpr (by omega), List.mem_map.mpr ⟨v, vecs_mem v (l - i) (by omega), rfl⟩⟩
theorem cnt_sum : ∀ (cs : List LC) (s : Sd), cs.Nodup → (cs.map fun c => s.count c).sum ≤ s.length
  | [], s, _ => by simp
  | c :: cs, s, h => by
    obtain ⟨h1, h2⟩ := List.nodup_cons.mp h
    have ih := cnt_sum cs (s.filter fun d => !decide (d = c)) h2
    have e := len_split (fun d : LC => decide (d = c)) s
    have e1 : s.count c = (s.filter fun d => decide (d = c)).length := by
      rw [List.count_eq_length_filter]
      congr 1
      exact List.filter_congr fun d _ => by rw [Bool.eq_iff_iff]; simp
    have e2 : (cs.map fun d => s.count d) = cs.map fun d => (s.filter fun d => !decide (d = c)).count d := List.map_congr_left fun d hd => by
      rw [List.count_filter]
      have : d ≠ c := fun z => h1 (z ▸ hd)
      simp [this]
    rw [List.map_cons, List.sum_cons, e1, e2]
    omega
theorem nodup_map_on {α β : Type} {f : α → β} : ∀ {l : List α}, l.Nodup → (∀ a ∈ l, ∀ b ∈ l, f a = f b → a = b) → (l.map f).Nodup
  | [], _, _ => List.nodup_nil
  | a :: l, h, hf => by
    obtain ⟨h1, h2⟩ := List.nodup_cons.mp h
    rw [List.map_cons, List.nodup_cons]
    refine ⟨fun z => ?_, nodup_map_on h2 fun x hx y hy => hf x (List.mem_cons_of_mem _ hx) y (List.mem_cons_of_mem _ hy)⟩
    obtain ⟨b, hb, e⟩ := List.mem_map.mp z
    have := hf b (List.mem_cons_of_mem _ hb) a (List.mem_cons_self ..) e
    exact h1 (this ▸ hb)
theorem land_vecs : ∀ n < 4, (vecs (cartsL n).length (maxLen n)).length ≤ 5000 ∧ maxLen n ≤ 42 := by decide +kernel
theorem rows_few (g : GoodBM n bm) (hn : n < 4) (m : Nat) : (allIt bm (waysS n) m).1.length ≤ 5000 := by
  have r := rows_ok g hn m
  have hnd : ((allIt bm (waysS n) m).1.map fun s => (cartsL n).map fun c => s.count c).Nodup := by
    refine nodup_map_on r.nd fun a ha b hb e => ?_
    have hc : ∀ c, a.count c = b.count c := fun c => by
      by_cases h : c ∈ cartsL n
      · have := List.map_inj_left.mp e c h
        exact this
      · rw [List.count_eq_zero.mpr fun z => h ((r.v a ha).1.ca c z), List.count_eq_zero.mpr fun z => h ((r.v b hb).1.ca c z)]
    have hp : a.Perm b := List.perm_iff_count.mpr hc
    rw [← (r.v a ha).2, ← (r.v b hb).2, sortC_uniq hp]
  have h := nodup_len hnd (m := vecs (cartsL n).length (maxLen n)) fun v hv => by
    obtain ⟨s, hs, rfl⟩ := List.mem_map.mp hv
    have h1 := cnt_sum (cartsL n) s (land_cnd n hn)
    have h2 := vs_len g hn (r.v s hs).1
    have h3 := vecs_mem ((cartsL n).map fun c => s.count c) (maxLen n) (Nat.le_trans h1 h2)
    rw [List.length_map] at h3
    exact h3
  rw [List.length_map] at h
  exact Nat.le_trans h (land_vecs n hn).1
theorem least {p : Nat → Prop} : ∀ k, p k → ∃ m, p m ∧ ∀ i, i < m → ¬ p i := fun k => by
  induction k using Nat.strongRecOn with
  | ind k ih =>
    intro hk
    by_cases h : ∃ i, i < k ∧ p i
    · obtain ⟨i, hi, hp⟩ := h
      exact ih i hi hp
    · exact ⟨k, hk, fun i hi hp => h ⟨i, hi, hp⟩⟩
theorem all_ok (g : GoodBM n bm) (hn : n < 4) : ∃ N, AllOk bm (waysS n) N := by
  obtain ⟨N, h1, h2⟩ := least (p := fun m => (allIt bm (waysS n) m).1.length ≤ m) 5000 (rows_few g hn 5000)
  refine ⟨N, ⟨fun p hp => gd_small (g.gd p hp), ?_, fun w hw => ?_, fun c hc hl hg => ?_⟩, fun m hm => by have := h2 m hm; omega, h1, fun m _ => rows_few g hn m, fun m _ s hs => ?_⟩
  · have := (land_len n hn).2.2.1; omega
  · obtain ⟨a, b, _⟩ := land_head n hn w hw
    exact ⟨b, (land_cart n hn _ a).2.2.1⟩
  · have hy : (onL c).1 ∈ landY n := by
      by_cases z : (onL c).1 ∈ landY n
      · exact z
      · exact absurd (getB_out g z) hg
    have hm : c.1 ∈ c.2 := by
      unfold lcOk onWay at hl
      simp only [Bool.and_eq_true, decide_eq_true_eq] at hl
      exact hl.2.1.1.1
    exact land_lcon n hn c.2 hc c.1 hm hy
  · have v := ((rows_ok g hn m).v s hs).1
    have h := vs_len g hn v
    have h3 := (land_vecs n hn).2
    exact ⟨by omega, fun c hc => ⟨(land_cart n hn c (v.ca c hc)).2.2.1, (land_cart n hn c (v.ca c hc)).2.2.2⟩⟩
end
end Lk
set_option Elab.async false
set_option linter.all false
set_option maxRecDepth 100000
set_option maxHeartbeats 2000000
/-! Q4: what can be come to; stuck stands. -/
namespace Lk
open PySem PySem.Spec PyProof.Rows L2
section
variable {n N : Nat} {bm : BM}
/-- a stand that comes, in whatever sequence -/
def ReachP (n : Nat) (bm : BM) (N : Nat) (s : Sd) : Prop := ∃ r ∈ (allIt bm (waysS n) N).1, r.Perm s
theorem ReachP.perm {s t : Sd} (r : ReachP n bm N s) (h : s.Perm t) : ReachP n bm N t := by
  obtain ⟨x, h1, h2⟩ := r
  exact ⟨x, h1, h2.trans h⟩
theorem ReachP.vs (g : GoodBM n bm) (hn : n < 4) {s : Sd} (r : ReachP n bm N s) : Vs n bm s := by
  obtain ⟨x, h1, h2⟩ := r
  exact ((rows_ok g hn N).v x h1).1.perm h2
theorem row_get {ways : List (List Int)} {i : Nat} (A : AllOk bm ways N) {s : Sd} (h : (allIt bm ways N).1[i]? = some s) : i < N ∧ rowAtD (allIt bm ways i).1 i = s := by
  have hi : i < (allIt bm ways N).1.length := (List.getElem?_eq_some_iff.mp h).1
  have hN : i < N := Nat.lt_of_lt_of_le hi A.stop
  obtain ⟨m, e⟩ := row_pre bm ways (Nat.le_of_lt hN)
  have hg := A.go i hN
  rw [e, List.getElem?_append_left hg] at h
  refine ⟨hN, ?_⟩
  unfold rowAtD
  rw [h]
  rfl
theorem closed {ways : List (List Int)} (A : AllOk bm ways N) {s t : Sd} (h : s ∈ (allIt bm ways N).1) (ht : t ∈ (foundF bm ways s).2) : sortC t ∈ (allIt bm ways N).1 := by
  obtain ⟨i, hi⟩ := List.getElem?_of_mem h
  obtain ⟨hN, e⟩ := row_get A hi
  obtain ⟨m, em⟩ := row_pre bm ways (show i + 1 ≤ N by omega)
  rw [em]
  refine List.mem_append_left _ ?_
  show sortC t ∈ (turnA bm ways i (allIt bm ways i)).1
  unfold turnA
  rw [e]
  exact (adds_mem _ _ _).mpr (.inr (List.mem_map.mpr ⟨t, ht, rfl⟩))
theorem reach_nil : ReachP n bm N [] := by
  obtain ⟨m, e⟩ := row_pre bm (waysS n) (Nat.zero_le N)
  exact ⟨[], by rw [e]; exact List.mem_append_left _ (List.mem_singleton.mpr rfl), List.Perm.refl _⟩
theorem reach_in (A : AllOk bm (waysS n) N) {s : Sd} (r : ReachP n bm N s) {w : List Int} (hw : w ∈ waysS n) (h : comesF bm s (headC w) = true) : ReachP n bm N (headC w :: s) := by
  obtain ⟨x, h1, h2⟩ := r
  have h3 : x ++ [headC w] ∈ (foundF bm (waysS n) x).2 := by
    rw [found_snd]
    exact List.mem_append_left _ (List.mem_map.mpr ⟨w, List.mem_filter.mpr ⟨hw, by rw [comes_perm h2]; exact h⟩, rfl⟩)
  exact ⟨_, closed A h1 h3, (sortC_perm _).trans ((h2.append_right _).trans (List.perm_append_singleton _ _))⟩
theorem cart_ix {x : Sd} {c : LC} (h : c ∈ x) : ∃ i, i < x.length ∧ cartAt x i = c := by
  obtain ⟨i, hi⟩ := List.getElem?_of_mem h
  exact ⟨i, (List.getElem?_eq_some_iff.mp hi).1, by unfold cartAt; rw [hi]; rfl⟩
theorem reach_go (g : GoodBM n bm) (A : AllOk bm (waysS n) N) {s : Sd} {c : LC} (r : ReachP n bm N (c :: s)) (hy : (onL c).1 ∈ landY n) (h : comesF bm s (onL c) = true) : ReachP n bm N (onL c :: s) := by
  obtain ⟨x, h1, h2⟩ := r
  obtain ⟨i, hi, e⟩ := cart_ix (h2.mem_iff.mpr (List.mem_cons_self ..))
  have hl : (leftAt x i).Perm s := by
    have h3 := (cut_at hi).symm.trans h2
    rw [e] at h3
    exact List.Perm.cons_inv h3
  have el : lateAt x i = onL c := by unfold lateAt; rw [e]
  have h3 : nextAt bm x i ∈ (foundF bm (waysS n) x).2 := by
    rw [found_snd]
    refine List.mem_append_right _ (List.mem_map.mpr ⟨i, List.mem_filter.mpr ⟨List.mem_range.mpr hi, ?_⟩, rfl⟩)
    unfold goB
    rw [el, comes_perm hl]
    exact h
  have e4 : nextAt bm x i = leftAt x i ++ [onL c] := by
    unfold nextAt
    rw [el, getB_in g hy]
    rfl
  rw [e4] at h3
  exact ⟨_, closed A h1 h3, (sortC_perm _).trans ((hl.append_right _).trans (List.perm_append_singleton _ _))⟩
/-! ### a cart is brought to its yard -/
def trail (c : LC) : List LC := ((c.2.takeWhile fun y => !decide (y = c.1)).drop 1 ++ [c.1]).map fun y => (y, c.2)
def chainB : LC → List LC → Bool
  | _, [] => true
  | a, b :: l => decide (b = onL a) && chainB b l
theorem land_trail1 : ∀ n < 4, ∀ c ∈ cartsL n, (trail c).head? = some (headC c.2) := by decide +kernel
theorem land_trail2 : ∀ n < 4, ∀ c ∈ cartsL n, chainB (headC c.2) (trail c).tail = true := by decide +kernel
theorem land_trail3 : ∀ n < 4, ∀ c ∈ cartsL n, (trail c).getLast? = some c := by decide +kernel
theorem land_trail4 : ∀ n < 4, ∀ c ∈ cartsL n, ∀ d ∈ trail c, d ∈ cartsL n ∧ d.2 = c.2 ∧ d.1 ≠ (onL c).1 := by decide +kernel
theorem land_trail (n : Nat) (hn : n < 4) (c : LC) (hc : c ∈ cartsL n) : (trail c).head? = some (headC c.2) ∧ chainB (headC c.2) (trail c).tail = true ∧ (trail c).getLast? = some c ∧ ∀ d ∈ trail c, d ∈ cartsL n ∧ d.2 = c.2 ∧ d.1 ≠ (onL c).1 := ⟨land_trail1 n hn c hc, land_trail2 n hn c hc, land_trail3 n hn c hc, land_trail4 n hn c hc⟩
theorem land_pair : ∀ n < 4, ∀ c ∈ cartsL n, pairL c ∈ pairsOf ((land n).row c.1) := by decide +kernel
theorem bring_chain (g : GoodBM n bm) (A : AllOk bm (waysS n) N) (hn : n < 4) {s : Sd} : ∀ (l : List LC) (a : LC), ReachP n bm N (a :: s) → chainB a l = true → (∀ d ∈ l, d ∈ cartsL n ∧ comesF bm s d = true) → ∀ z, (a :: l).getLast? = some z → ReachP n bm N (z :: s)
  | [], a, r, _, _, z, hz => by
    rw [List.getLast?_singleton] at hz
    cases hz
    exact r
  | b :: l, a, r, hc, hd, z, hz => by
    unfold chainB at hc
    rw [Bool.and_eq_true, decide_eq_true_eq] at hc
    obtain ⟨hb, hc⟩ := hc
    obtain ⟨h1, h2⟩ := hd b (List.mem_cons_self ..)
    subst hb
    rw [List.getLast?_cons_cons] at hz
    exact bring_chain g A hn l _ (reach_go g A r (land_cy n hn _ h1).1 h2) hc (fun d h => hd d (List.mem_cons_of_mem _ h)) z hz
theorem bring (g : GoodBM n bm) (A : AllOk bm (waysS n) N) (hn : n < 4) {s : Sd} (r : ReachP n bm N s) {c : LC} (hc : c ∈ cartsL n) (h : ∀ d ∈ trail c, comesF bm s d = true) : ReachP n bm N (c :: s) := by
  obtain ⟨t1, t2, t3, t4⟩ := land_trail n hn c hc
  cases e : trail c with
  | nil => rw [e] at t1; cases t1
  | cons a l =>
    rw [e] at t1 t2 t3 t4 h
    have ea : a = headC c.2 := Option.some.inj t1
    subst ea
    have hw : c.2 ∈ waysS n := (land_cart n hn c hc).2.2.2
    exact bring_chain g A hn l _ (reach_in A r hw (h _ (List.mem_cons_self ..))) t2 (fun d hd => ⟨(t4 d (List.mem_cons_of_mem _ hd)).1, h d (List.mem_cons_of_mem _ hd)⟩) c t3
theorem pairsOn_none {s : Sd} {y : Int} (h : ∀ q ∈ s, q.1 ≠ y) : pairsOn s y = [] := by
  unfold pairsOn
  rw [List.filter_eq_nil_iff.mpr fun q hq => by simpa using h q hq]
  rfl
theorem comes_free (g : GoodBM n bm) (hn : n < 4) {s : Sd} {d : LC} (hd : d ∈ cartsL n) (h : ∀ q ∈ s, q.1 ≠ d.1) : comesF bm s d = true := by
  have hy := (land_cy n hn d hd).1
  unfold comesF
  rw [getB_in g hy, pairsOn_none h]
  exact lets_single g hy (land_pair n hn d hd)
theorem pairsOn_app (s t : Sd) (y : Int) : pairsOn (s ++ t) y = pairsOn s y ++ pairsOn t y := by
  unfold pairsOn
  rw [List.filter_append, List.map_append]
/-- carts are brought to one yard -/
theorem bring_all (g : GoodBM n bm) (A : AllOk bm (waysS n) N) (hn : n < 4) {s : Sd} (r : ReachP n bm N s) {y : Int} (hy : y ∈ landY n) : ∀ cs : List LC, (∀ c ∈ cs, c ∈ cartsL n ∧ c.1 = y ∧ ∀ d ∈ trail c, d.1 ≠ y → ∀ q ∈ s, q.1 ≠ d.1) → letsF (gB bm y) (pairsOn (cs ++ s) y) = true → ReachP n bm N (cs ++ s)
  | [], _, _ => r
  | c :: cs, h, hl => by
    obtain ⟨h1, h2, h3⟩ := h c (List.mem_cons_self ..)
    have sub : (pairsOn (cs ++ s) y).Sublist (pairsOn (c :: cs ++ s) y) := ((List.sublist_cons_self c (cs ++ s)).filter _).map _
    have ih := bring_all g A hn r hy cs (fun d hd => h d (List.mem_cons_of_mem _ hd)) (lets_mono sub hl)
    refine bring g A hn ih h1 fun d hd => ?_
    obtain ⟨_, _, _, t4⟩ := land_trail n hn c h1
    obtain ⟨d1, d2, d3⟩ := t4 d hd
    by_cases e : d.1 = y
    · have ed : d = c := Prod.ext (e.trans h2.symm) d2
      rw [ed]
      unfold comesF
      rw [h2, getB_in g hy]
      have e2 : pairsOn (c :: (cs ++ s)) y = pairL c :: pairsOn (cs ++ s) y := by
        unfold pairsOn
        rw [List.filter_cons, if_pos (by simpa using h2)]
        rfl
      have hl2 : letsF (gB bm y) (pairL c :: pairsOn (cs ++ s) y) = true := e2 ▸ hl
      show letsF (gB bm y) (pairsOn (cs ++ s) y ++ [pairL c]) = true
      rw [lets_perm (List.perm_append_singleton _ _)]
      exact hl2
    · refine comes_free g hn d1 fun q hq => ?_
      rcases List.mem_append.mp hq with hq | hq
      · rw [(h q (List.mem_cons_of_mem _ hq)).2.1]
        exact fun z => e z.symm
      · exact h3 d hd e q hq
/-! ### stuck stands -/
def Stk (bm : BM) (s : Sd) : Prop := s ≠ [] ∧ ∀ c ∈ s, comesF bm s (onL c) = false
theorem Stk.perm {s t : Sd} (h : Stk bm s) (p : s.Perm t) : Stk bm t :=
  ⟨fun z => h.1 (List.Perm.eq_nil (z ▸ p)), fun c hc => by rw [← comes_perm p]; exact h.2 c (p.mem_iff.mpr hc)⟩
theorem comes_left (hn : n < 4) {s t : Sd} {c : LC} (hc : c ∈ cartsL n) (p : s.Perm (c :: t)) : comesF bm t (onL c) = comesF bm s (onL c) := by
  rw [comes_perm p]
  have hne := (land_cy n hn c hc).2
  have e : pairsOn (c :: t) (onL c).1 = pairsOn t (onL c).1 := by
    unfold pairsOn
    rw [List.filter_cons, if_neg (by simpa using fun z => hne z.symm)]
  unfold comesF
  rw [e]
theorem stk_iff (hn : n < 4) {s : Sd} (v : Vs n bm s) : Stk bm s ↔ s ≠ [] ∧ (foundF bm (waysS n) s).1 = 0 := by
  rw [found_fst, List.length_eq_zero_iff, List.filter_eq_nil_iff]
  unfold Stk
  refine and_congr_right fun _ => ?_
  constructor
  · intro h i hi
    have hl := List.mem_range.mp hi
    have hm := (cut_at hl).mem_iff.mpr (List.mem_cons_self ..)
    unfold goB lateAt
    rw [comes_left hn (v.ca _ hm) (cut_at hl), h _ hm]
    decide
  · intro h c hc
    obtain ⟨i, hi, e⟩ := cart_ix hc
    have h2 := h i (List.mem_range.mpr hi)
    unfold goB lateAt at h2
    have hm := (cut_at hi).mem_iff.mpr (List.mem_cons_self ..)
    rw [comes_left hn (v.ca _ hm) (cut_at hi), e] at h2
    simpa using h2
theorem stuck_next {s : Sd} {k : Nat} {o : Option Sd} : stuckNext s k o = if s ≠ [] ∧ k = 0 ∧ o = none then some s else o := by
  unfold stuckNext
  by_cases h1 : s = []
  · simp [h1]
  · by_cases h2 : k = 0 <;> cases o <;> simp [h1, h2]
theorem stuck_some (g : GoodBM n bm) (hn : n < 4) : ∀ m s, m ≤ N → AllOk bm (waysS n) N → (allIt bm (waysS n) m).2 = some s → s ∈ (allIt bm (waysS n) m).1 ∧ Stk bm s
  | 0, s, _, _, h => by cases h
  | m + 1, s, hm, A, h => by
    have h' : stuckNext (rowAtD (allIt bm (waysS n) m).1 m) (foundF bm (waysS n) (rowAtD (allIt bm (waysS n) m).1 m)).1 (allIt bm (waysS n) m).2 = some s := h
    obtain ⟨more, em⟩ := row_step bm (waysS n) m
    rw [em]
    rw [stuck_next] at h'
    split at h'
    · rename_i hc
      cases h'
      have hg := A.go m (by omega)
      have hmem : rowAtD (allIt bm (waysS n) m).1 m ∈ (allIt bm (waysS n) m).1 := by
        unfold rowAtD
        rw [List.getElem?_eq_getElem hg]
        exact List.getElem_mem hg
      refine ⟨List.mem_append_left _ hmem, (stk_iff hn ((rows_ok g hn m).v _ hmem).1).mpr ⟨hc.1, hc.2.1⟩⟩
    · obtain ⟨a, b⟩ := stuck_some g hn m s (by omega) A h'
      exact ⟨List.mem_append_left _ a, b⟩
theorem stuck_stays {m : Nat} (h : (allIt bm (waysS n) m).2 ≠ none) : ∀ k, (allIt bm (waysS n) (m + k)).2 ≠ none
  | 0 => h
  | k + 1 => by
    have ih := stuck_stays h k
    show stuckNext _ _ _ ≠ none
    rw [stuck_next]
    split
    · exact fun z => nomatch z
    · exact ih
theorem stuck_none (g : GoodBM n bm) (hn : n < 4) (A : AllOk bm (waysS n) N) (h : (allIt bm (waysS n) N).2 = none) {s : Sd} (hs : s ∈ (allIt bm (waysS n) N).1) : ¬ Stk bm s := by
  intro k
  obtain ⟨i, hi⟩ := List.getElem?_of_mem hs
  obtain ⟨hN, e⟩ := row_get A hi
  have v := ((rows_ok g hn N).v s hs).1
  obtain ⟨k1, k2⟩ := (stk_iff hn v).mp k
  have h1 : (allIt bm (waysS n) (i + 1)).2 ≠ none := by
    show stuckNext (rowAtD (allIt bm (waysS n) i).1 i) (foundF bm (waysS n) (rowAtD (allIt bm (waysS n) i).1 i)).1 (allIt bm (waysS n) i).2 ≠ none
    rw [e, stuck_next]
    split
    · exact fun z => nomatch z
    · rename_i hc
      exact fun z => hc ⟨k1, k2, z⟩
  have h2 := stuck_stays h1 (N - (i + 1))
  rw [show i + 1 + (N - (i + 1)) = N by omega] at h2
  exact h2 h
/-- some stand that comes is stuck exactly if one is told -/
theorem stuck_iff (g : GoodBM n bm) (hn : n < 4) (A : AllOk bm (waysS n) N) : (allIt bm (waysS n) N).2.isSome = true ↔ ∃ s, ReachP n bm N s ∧ Stk bm s := by
  constructor
  · intro h
    obtain ⟨s, e⟩ := Option.isSome_iff_exists.mp h
    obtain ⟨a, b⟩ := stuck_some g hn N s (Nat.le_refl _) A e
    exact ⟨s, ⟨s, a, List.Perm.refl _⟩, b⟩
  · rintro ⟨s, ⟨r, hr, p⟩, k⟩
    cases e : (allIt bm (waysS n) N).2 with
    | some x => rfl
    | none => exact absurd (k.perm p.symm) (stuck_none g hn A e hr)
end
end Lk
set_option Elab.async false
set_option linter.all false
set_option maxRecDepth 100000
set_option maxHeartbeats 2000000
/-! Q5: stands as the package sees them. -/
namespace Lk
open PySem PySem.Spec PyProof.Rows L2
theorem land_end : ∀ n < 4, ∀ c ∈ cartsL n, (tell c).2.2 ∉ landY n := by decide +kernel
theorem land_tell : ∀ n < 4, ∀ c ∈ cartsL n, ∀ d ∈ cartsL n, tell c = tell d → c = d := by decide +kernel
/-! ### lists by places -/
theorem zipI_get {α : Type} : ∀ (xs : List α) (a i : Nat), (zipI a xs)[i]? = (xs[i]?).map fun x => (a + i, x)
  | [], a, i => by simp [zipI]
  | x :: xs, a, 0 => by simp [zipI]
  | x :: xs, a, i + 1 => by
    rw [zipI, List.getElem?_cons_succ, List.getElem?_cons_succ, zipI_get xs (a + 1) i]
    congr 1
    funext z
    rw [show a + 1 + i = a + (i + 1) by omega]
theorem zip_in {α : Type} {xs : List α} {i : Nat} {x : α} (h : xs[i]? = some x) : (i, x) ∈ zipI 0 xs := by
  refine List.mem_of_getElem? (i := i) ?_
  rw [zipI_get, h]
  simp
theorem zip_at {α : Type} {xs : List α} {p : Nat × α} (h : p ∈ zipI 0 xs) : xs[p.1]? = some p.2 := by
  obtain ⟨i, hi⟩ := List.getElem?_of_mem h
  rw [zipI_get] at hi
  cases e : xs[i]? with
  | none => rw [e] at hi; cases hi
  | some x =>
    rw [e] at hi
    have e2 := Option.some.inj hi
    rw [← e2]
    show xs[0 + i]? = some x
    rw [Nat.zero_add]
    exact e
theorem zip_lt {α : Type} : ∀ (xs : List α) (a : Nat), (zipI a xs).Pairwise fun p q => p.1 < q.1
  | [], a => List.Pairwise.nil
  | x :: xs, a => by
    rw [zipI, List.pairwise_cons]
    refine ⟨fun p hp => ?_, zip_lt xs (a + 1)⟩
    have := (zipI_mem xs (a + 1) p hp).1
    simp only
    omega
theorem zip_snd2 {α : Type} : ∀ (xs : List α) (a : Nat), (zipI a xs).map (·.2) = xs
  | [], a => rfl
  | x :: xs, a => by rw [zipI, List.map_cons, zip_snd2 xs (a + 1)]
theorem le3_tr (a b c : Rw) : le3 a b = true → le3 b c = true → le3 a c = true := by simp only [le3, decide_eq_true_eq]; omega
theorem le3_tot (a b : Rw) : (le3 a b || le3 b a) = true := by simp only [le3, Bool.or_eq_true, decide_eq_true_eq]; omega
theorem le3_anti (a b : Rw) (h1 : le3 a b = true) (h2 : le3 b a = true) : a = b := by
  obtain ⟨a1, a2, a3⟩ := a
  obtain ⟨b1, b2, b3⟩ := b
  simp only [le3, decide_eq_true_eq] at h1 h2
  have e1 : a1 = b1 := by omega
  have e2 : a2 = b2 := by omega
  have e3 : a3 = b3 := by omega
  rw [e1, e2, e3]
theorem sort3_sorted (l : List Rw) : (sort3 l).Pairwise fun a b => le3 a b = true := List.pairwise_mergeSort le3_tr le3_tot l
theorem sort3_perm (l : List Rw) : (sort3 l).Perm l := List.mergeSort_perm l le3
theorem kinds_in {st : List Rw} : ∀ (i : Nat) {k : Rw}, st[i]? = some k → k ∈ kindsF st
  | 0, k, h => List.mem_map.mpr ⟨(0, k), List.mem_filter.mpr ⟨zip_in h, rfl⟩, rfl⟩
  | i + 1, k, h => by
    by_cases e : st[i]? = some k
    · exact kinds_in i e
    · refine List.mem_map.mpr ⟨(i + 1, k), List.mem_filter.mpr ⟨zip_in h, ?_⟩, rfl⟩
      show (decide (i + 1 = 0) || !decide (st[i + 1 - 1]? = some k)) = true
      rw [Nat.add_sub_cancel, decide_eq_false e]
      simp
theorem kinds_iff {st : List Rw} {k : Rw} : k ∈ kindsF st ↔ k ∈ st := by
  refine ⟨kinds_mem, fun h => ?_⟩
  obtain ⟨i, hi⟩ := List.getElem?_of_mem h
  exact kinds_in i hi
theorem kinds_sub (st : List Rw) : (kindsF st).Sublist st := by
  have h : (kindsF st).Sublist ((zipI 0 st).map (·.2)) := (List.filter_sublist).map _
  rw [zip_snd2] at h
  exact h
theorem kinds_nd {st : List Rw} (h : st.Pairwise fun a b => le3 a b = true) : (kindsF st).Nodup := by
  unfold kindsF List.Nodup
  rw [List.pairwise_map]
  refine List.Pairwise.imp_of_mem ?_ ((zip_lt st 0).filter _)
  intro p q hp hq hlt e
  obtain ⟨hp1, _⟩ := List.mem_filter.mp hp
  obtain ⟨hq1, hq2⟩ := List.mem_filter.mp hq
  have ep := zip_at hp1
  have eq := zip_at hq1
  have hq0 : q.1 ≠ 0 := by omega
  simp only [hq0, decide_false, Bool.false_or, Bool.not_eq_true', decide_eq_false_iff_not] at hq2
  have hlq := (List.getElem?_eq_some_iff.mp eq).1
  have hlp := (List.getElem?_eq_some_iff.mp ep).1
  have h1 := List.pairwise_iff_getElem.mp h
  have hm : q.1 - 1 < st.length := by omega
  refine hq2 ?_
  rw [List.getElem?_eq_getElem hm]
  have e1 : st[p.1] = p.2 := (List.getElem?_eq_some_iff.mp ep).2
  have e2 : st[q.1] = q.2 := (List.getElem?_eq_some_iff.mp eq).2
  have a2 : le3 st[q.1 - 1] q.2 = true := by
    have := h1 (q.1 - 1) q.1 hm hlq (by omega)
    rw [e2] at this
    exact this
  have a1 : le3 q.2 st[q.1 - 1] = true := by
    by_cases z : p.1 = q.1 - 1
    · have e3 : st[q.1 - 1] = q.2 := by
        have : st[p.1] = st[q.1 - 1] := by congr 1
        rw [← this, e1, e]
      rw [e3]
      have := le3_tot q.2 q.2
      simpa using this
    · have := h1 p.1 (q.1 - 1) hlp hm (by omega)
      rw [e1, e] at this
      exact this
  rw [le3_anti _ _ a2 a1]
def firstsF (l : List Rw) : List Rw := ((zipI 0 l).filter fun p => !decide (p.2 ∈ l.take p.1)).map (·.2)
theorem firsts_nd (l : List Rw) : (firstsF l).Nodup := by
  unfold firstsF List.Nodup
  rw [List.pairwise_map]
  refine List.Pairwise.imp_of_mem ?_ ((zip_lt l 0).filter _)
  intro p q hp hq hlt e
  obtain ⟨hp1, _⟩ := List.mem_filter.mp hp
  obtain ⟨hq1, hq2⟩ := List.mem_filter.mp hq
  have ep := zip_at hp1
  have h2 : q.2 ∉ l.take q.1 := by simpa using hq2
  refine h2 (List.mem_of_getElem? (i := p.1) ?_)
  rw [List.getElem?_take, if_pos hlt, ep, e]
theorem firsts_iff {l : List Rw} {x : Rw} : x ∈ firstsF l ↔ x ∈ l := by
  constructor
  · intro h
    obtain ⟨p, hp, rfl⟩ := List.mem_map.mp h
    exact List.mem_of_getElem? (zip_at (List.mem_filter.mp hp).1)
  · intro h
    obtain ⟨i, hi⟩ := List.getElem?_of_mem h
    obtain ⟨m, h1, h2⟩ := least (p := fun i => l[i]? = some x) i hi
    refine List.mem_map.mpr ⟨(m, x), List.mem_filter.mpr ⟨zip_in h1, ?_⟩, rfl⟩
    have : x ∉ l.take m := by
      intro z
      obtain ⟨j, hj⟩ := List.getElem?_of_mem z
      rw [List.getElem?_take] at hj
      split at hj
      · rename_i hl
        exact h2 j hl hj
      · cases hj
    simpa using this
theorem kinds_once (l : List Rw) : kindsF (sort3 l) = onceF l := by
  have hs := sort3_sorted l
  have hp : (kindsF (sort3 l)).Perm (firstsF l) := (List.perm_ext_iff_of_nodup (kinds_nd hs) (firsts_nd l)).mpr fun x => by
    rw [kinds_iff, firsts_iff]
    exact (sort3_perm l).mem_iff
  exact sorted_uniq (le := le3) le3_anti _ _ (hp.trans (sort3_perm (firstsF l)).symm) (List.Pairwise.sublist (kinds_sub _) hs) (sort3_sorted _)
/-! ### loads of carts -/
section
variable {n N : Nat} {bm : BM}
theorem bookOf_gB (hn : n < 4) {y : Int} (hy : y ∈ landY n) : bookOf (land n) (bsOf bm n) y = gB bm y := by
  unfold bookOf bsOf
  rw [land_yards n hn, List.getElem?_map]
  have h : (landY n)[(landY n).idxOf y]? = some y := by
    have h1 := List.idxOf_lt_length_of_mem hy
    rw [List.getElem?_eq_getElem h1]
    congr 1
    exact List.getElem_idxOf h1
  rw [h]
  rfl
theorem load_fold (c : Cy) (y : Int) : ∀ (ks : List Rw) (l : List Rw) (ps : List Pr), Rp l ps → Rp (ks.foldl (ldTurn c y) l) (ps ++ (ks.filter fun k => decide (k.1 = y)).map (pairF c))
  | [], l, ps, h => by simpa using h
  | k :: ks, l, ps, h => by
    rw [List.foldl_cons, List.filter_cons]
    by_cases e : k.1 = y
    · have ek : ldTurn c y l k = plusC l (pairF c k).1 (pairF c k).2 := if_pos e
      rw [ek, if_pos (by simpa using e)]
      have h2 := load_fold c y ks _ _ (rp_plus h (pairF c k).1 (pairF c k).2)
      rw [List.append_assoc] at h2
      exact h2
    · have ek : ldTurn c y l k = l := if_neg e
      rw [ek, if_neg (by simpa using e)]
      exact load_fold c y ks l ps h
theorem told_pairs (hn : n < 4) (y : Int) : ∀ t : Sd, (∀ c ∈ t, c ∈ cartsL n) → ((t.map tell).filter fun k => decide (k.1 = y)).map (pairF (land n)) = pairsOn t y
  | [], _ => rfl
  | c :: t, h => by
    have ih := told_pairs hn y t fun d hd => h d (List.mem_cons_of_mem _ hd)
    have e := (land_way n hn c (h c (List.mem_cons_self ..))).2.1
    unfold pairsOn at ih ⊢
    rw [List.map_cons, List.filter_cons, List.filter_cons]
    by_cases z : c.1 = y
    · have z2 : (tell c).1 = y := z
      rw [if_pos (by simpa using z2), if_pos (by simpa using z), List.map_cons, List.map_cons, ih, e]
    · have z2 : ¬ (tell c).1 = y := z
      rw [if_neg (by simpa using z2), if_neg (by simpa using z), ih]
theorem load_rp (hn : n < 4) {ks : List Rw} {t : Sd} (h : ∀ c ∈ t, c ∈ cartsL n) (p : ks.Perm (t.map tell)) (y : Int) : Rp (loadF (land n) ks y) (pairsOn t y) := by
  have h1 := load_fold (land n) y ks [] [] rp_nil
  rw [List.nil_append] at h1
  refine rp_perm h1 ?_
  rw [← told_pairs hn y t h]
  exact (p.filter _).map _
theorem tell_on (hn : n < 4) {c : LC} (hc : c ∈ cartsL n) : onF (land n) (tell c) = tell (onL c) := by
  have e := (land_way n hn c hc).2.2
  unfold onF
  rw [e]
  rfl
theorem beh_iff (g : GoodBM n bm) (hn : n < 4) {s : Sd} (v : Vs n bm s) {st : List Rw} (p : st.Perm (s.map tell)) {c : LC} (hc : c ∈ s) : (behF (land n) (bsOf bm n) st (tell c)).isNone = !comesF bm s (onL c) := by
  have hcc := v.ca c hc
  have e1 := (land_way n hn c hcc).2.2
  unfold behF
  rw [e1]
  rcases land_on n hn c hcc with q | ⟨q1, q2⟩
  · have hy := (land_cy n hn _ q).1
    have ne : ¬ (onL c).1 = (tell c).2.2 := fun z => land_end n hn c hcc (z ▸ hy)
    rw [if_neg ne, tell_on hn hcc]
    have ps := List.perm_cons_erase hc
    have pl : (st.erase (tell c)).Perm ((s.erase c).map tell) := by
      have h1 : st.Perm (tell c :: (s.erase c).map tell) := p.trans (ps.map tell)
      have h2 := h1.erase (tell c)
      rw [List.erase_cons_head] at h2
      exact h2
    have hv : ∀ d ∈ s.erase c, d ∈ cartsL n := fun d hd => v.ca d (List.mem_of_mem_erase hd)
    have r := rp_plus (load_rp hn hv pl (onL c).1) (pairL (onL c)).1 (pairL (onL c)).2
    have e2 := (land_way n hn _ q).2.1
    unfold comeF
    rw [e2, show (tell (onL c)).1 = (onL c).1 from rfl, bookOf_gB hn hy, stands_rp r]
    have e3 : comesF bm s (onL c) = letsF (gB bm (onL c).1) (pairsOn (s.erase c) (onL c).1 ++ [pairL (onL c)]) := by
      rw [← comes_left hn hcc ps]
      unfold comesF
      rw [getB_in g hy]
    rw [e3, show ((pairL (onL c)).1, (pairL (onL c)).2) = pairL (onL c) from rfl]
    cases letsF (gB bm (onL c).1) (pairsOn (s.erase c) (onL c).1 ++ [pairL (onL c)]) <;> rfl
  · rw [if_pos q1]
    unfold comesF
    rw [getB_out g q2]
    rfl
theorem stuckF_iff (g : GoodBM n bm) (hn : n < 4) {s : Sd} (v : Vs n bm s) : stuckF (land n) (bsOf bm n) (sort3 (toldF s)) = true ↔ Stk bm s := by
  have p : (sort3 (toldF s)).Perm (s.map tell) := sort3_perm _
  unfold stuckF refusedF
  rw [Bool.and_eq_true, decide_eq_true_eq, List.filter_eq_self]
  unfold Stk
  refine and_congr ?_ ?_
  · have : (sort3 (toldF s)).isEmpty = s.isEmpty := by
      rw [Bool.eq_iff_iff, List.isEmpty_iff_length_eq_zero, List.isEmpty_iff_length_eq_zero, p.length_eq, List.length_map]
    rw [this]
    cases s <;> simp
  · constructor
    · intro h c hc
      have h1 := h (tell c) (kinds_iff.mpr (p.mem_iff.mpr (List.mem_map.mpr ⟨c, hc, rfl⟩)))
      rw [beh_iff g hn v p hc] at h1
      simpa using h1
    · intro h k hk
      obtain ⟨c, hc, rfl⟩ := List.mem_map.mp (p.mem_iff.mp (kinds_iff.mp hk))
      rw [beh_iff g hn v p hc, h c hc]
      rfl
theorem refused_once (g : GoodBM n bm) (hn : n < 4) {s : Sd} (v : Vs n bm s) (k : Stk bm s) : refusedF (land n) (bsOf bm n) (sort3 (toldF s)) = onceF (toldF s) := by
  have h := (stuckF_iff g hn v).mpr k
  unfold stuckF at h
  rw [Bool.and_eq_true, decide_eq_true_eq] at h
  rw [h.2, kinds_once]
theorem getL_put (kvs : KL) (i y : Int) (x : List Rw) : getL (putL kvs i x) y = if y = i then some x else getL kvs y := by
  have gen : ∀ kvs : KL, getL (kvs.map fun q => if q.1 = i then (q.1, x) else q) y = if y = i then (getL kvs y).map fun _ => x else getL kvs y := by
    intro kvs
    induction kvs with
    | nil => split <;> rfl
    | cons q kvs ih =>
      unfold getL at ih ⊢
      rw [List.map_cons, List.find?_cons, List.find?_cons]
      by_cases h1 : q.1 = i
      · rw [if_pos h1]
        by_cases h2 : q.1 = y
        · have h3 : y = i := h2.symm.trans h1
          simp [h2, h3]
        · simp only [h2, decide_false]
          exact ih
      · rw [if_neg h1]
        by_cases h2 : q.1 = y
        · have h3 : ¬ y = i := fun z => h1 (h2.trans z)
          simp [h2, h3]
        · simp only [h2, decide_false]
          exact ih
  unfold putL
  split
  · rename_i h
    rw [gen]
    split
    · rename_i e
      obtain ⟨q, hq, e2⟩ := List.any_eq_true.mp h
      obtain ⟨l, hl⟩ := keys_get (kvs := kvs) (y := y) (List.mem_map.mpr ⟨q, hq, by rw [e]; exact of_decide_eq_true e2⟩)
      rw [hl]
      rfl
    · rfl
  · rename_i h
    unfold getL
    rw [List.find?_append]
    cases e : kvs.find? fun q => decide (q.1 = y) with
    | some q =>
      have h1 : ¬ y = i := fun z => h (List.any_eq_true.mpr ⟨q, List.mem_of_find?_eq_some e, by have := List.find?_some e; rw [z] at this; exact this⟩)
      simp [h1]
    | none =>
      by_cases h1 : y = i
      · simp [h1]
      · have h2 : ¬ i = y := fun z => h1 z.symm
        simp [h1, h2]
/-- what a dict of loads tells -/
structure KLok (kvs : KL) (f : Int → List Pr) (m : Nat) : Prop where
  no : ∀ y, getL kvs y = none → f y = []
  so : ∀ y l, getL kvs y = some l → Rp l (f y) ∧ f y ≠ []
  sm : ∀ p ∈ kvs, p.2.length ≤ m
theorem lds_fold (c : Cy) : ∀ (ks : List Rw) (kvs : KL) (f : Int → List Pr) (m : Nat), KLok kvs f m → KLok (ks.foldl (ldsTurn c) kvs) (fun y => f y ++ (ks.filter fun k => decide (k.1 = y)).map (pairF c)) (m + ks.length)
  | [], kvs, f, m, h => by simpa using h
  | k :: ks, kvs, f, m, h => by
    rw [List.foldl_cons]
    have h1 : KLok (ldsTurn c kvs k) (fun y => f y ++ if y = k.1 then [pairF c k] else []) (m + 1) := by
      unfold ldsTurn
      refine ⟨fun y e => ?_, fun y l e => ?_, ?_⟩
      · rw [getL_put] at e
        split at e
        · cases e
        · rename_i z
          simp only [z, if_false, List.append_nil]
          exact h.no y e
      · rw [getL_put] at e
        split at e
        · rename_i z
          subst z
          cases e
          simp only [if_true]
          refine ⟨?_, by simp⟩
          cases q : getL kvs k.1 with
          | none =>
            have r := rp_plus rp_nil (pairF c k).1 (pairF c k).2
            rw [h.no _ q]
            exact r
          | some l0 => exact rp_plus (h.so _ _ q).1 (pairF c k).1 (pairF c k).2
        · rename_i z
          simp only [z, if_false, List.append_nil]
          exact h.so y l e
      · refine putL_small (fun p hp => Nat.le_trans (h.sm p hp) (Nat.le_succ _)) ?_
        have a := plusC_len ((getL kvs k.1).getD []) (pairF c k).1 (pairF c k).2
        have b := getL_len (i := k.1) h.sm
        omega
    have h2 := lds_fold c ks _ _ _ h1
    refine ⟨fun y e => ?_, fun y l e => ?_, fun p hp => ?_⟩
    · have := h2.no y e
      rw [List.filter_cons]
      by_cases z : k.1 = y
      · simp [z] at this
      · have z2 : ¬ y = k.1 := fun w => z w.symm
        simpa [z, z2] using this
    · have := h2.so y l e
      rw [List.filter_cons]
      by_cases z : k.1 = y
      · have z2 : y = k.1 := z.symm
        simp only [z2, if_true, decide_true, List.map_cons] at this ⊢
        simpa using this
      · have z2 : ¬ y = k.1 := fun w => z w.symm
        simpa [z, z2] using this
    · have := h2.sm p hp
      rw [List.length_cons]
      omega
theorem tell_ok (g : GoodBM n bm) (hn : n < 4) {s : Sd} (v : Vs n bm s) : TellOk n bm s := by
  have hl := vs_len g hn v
  have h42 := (land_vecs n hn).2
  have hlen : (toldF s).length = s.length := by unfold toldF; rw [List.length_map]
  have hk := lds_fold (land n) (toldF s) [] (fun _ => []) 0 ⟨fun _ _ => rfl, fun _ _ e => (nomatch e), fun _ h => (nomatch h)⟩
  refine ⟨⟨by omega, fun q hq => (land_cart n hn q (v.ca q hq)).2.2.1⟩, ⟨by omega, fun k hk => ?_, fun y l e => ?_⟩, fun k hk => ?_⟩
  · obtain ⟨c, hc, rfl⟩ := List.mem_map.mp hk
    exact (land_cart n hn c (v.ca c hc)).1
  · obtain ⟨h1, h2⟩ := hk.so y l e
    have e1 : ((toldF s).filter fun k => decide (k.1 = y)).map (pairF (land n)) = pairsOn s y := told_pairs hn y s v.ca
    rw [List.nil_append, e1] at h1 h2
    have hy : y ∈ landY n := by
      obtain ⟨q, hq⟩ := List.exists_mem_of_ne_nil _ h2
      obtain ⟨c, hc, _⟩ := List.mem_map.mp hq
      obtain ⟨c1, c2⟩ := List.mem_filter.mp hc
      have c3 : c.1 = y := of_decide_eq_true c2
      rw [← c3]
      exact (land_cy n hn c (v.ca c c1)).1
    refine ⟨by rw [land_yards n hn]; exact hy, ?_, by rw [bookOf_gB hn hy, stands_rp h1]; exact v.le y hy⟩
    have hsm := getL_len (i := y) (n := 0 + (toldF s).length) hk.sm
    have e2 : getL (ldsF (land n) (toldF s)) y = some l := e
    unfold ldsF at e2
    rw [e2] at hsm
    have hsm2 : l.length ≤ 0 + (toldF s).length := hsm
    omega
  · obtain ⟨c, hc, rfl⟩ := List.mem_map.mp hk
    exact (land_cart n hn c (v.ca c hc)).2.1
end
end Lk
set_option Elab.async false
set_option linter.all false
set_option maxRecDepth 100000
set_option maxHeartbeats 2000000
/-! Q6: the loads of a yard; plugged sides. -/
namespace Lk
open PySem PySem.Spec PyProof.Rows L2
theorem land_prs : ∀ n < 4, ∀ y ∈ landY n, ∀ u ∈ (land n).row y, (prT (land n) y u).length ≤ 2 := by decide +kernel
section
variable {b : Bk2} {prs : List Pr}
theorem in_mem (p : LF) : ∀ (js : List Nat) (acc : List LF) (q : LF), q ∈ js.foldl (sbIn b prs p) acc ↔ q ∈ acc ∨ ∃ j ∈ js, standsF b (plusC p.1 (prAt prs (p.2 + j)).1 (prAt prs (p.2 + j)).2) = true ∧ q = (plusC p.1 (prAt prs (p.2 + j)).1 (prAt prs (p.2 + j)).2, p.2 + j)
  | [], acc, q => by simp
  | j :: js, acc, q => by
    rw [List.foldl_cons, in_mem p js]
    unfold sbIn
    split
    · rename_i h
      simp only [List.mem_append, List.mem_cons, List.not_mem_nil, or_false, exists_eq_or_imp]
      constructor
      · rintro ((h1 | h1) | h1)
        · exact .inl h1
        · exact .inr (.inl ⟨h, h1⟩)
        · exact .inr (.inr h1)
      · rintro (h1 | ⟨_, h1⟩ | h1)
        · exact .inl (.inl h1)
        · exact .inl (.inr h1)
        · exact .inr h1
    · rename_i h
      simp only [List.mem_cons, exists_eq_or_imp]
      constructor
      · rintro (h1 | h1)
        · exact .inl h1
        · exact .inr (.inr h1)
      · rintro (h1 | ⟨h2, _⟩ | h1)
        · exact .inl h1
        · exact absurd h2 h
        · exact .inr h1
theorem out_mem : ∀ (last acc : List LF) (q : LF), q ∈ last.foldl (sbOut b prs) acc ↔ q ∈ acc ∨ ∃ p ∈ last, ∃ j, j < prs.length - p.2 ∧ standsF b (plusC p.1 (prAt prs (p.2 + j)).1 (prAt prs (p.2 + j)).2) = true ∧ q = (plusC p.1 (prAt prs (p.2 + j)).1 (prAt prs (p.2 + j)).2, p.2 + j)
  | [], acc, q => by simp
  | p :: last, acc, q => by
    rw [List.foldl_cons, out_mem last]
    unfold sbOut
    rw [in_mem]
    simp only [List.mem_range, List.mem_cons, exists_eq_or_imp]
    rw [or_assoc]
theorem later_mem {last : List LF} {q : LF} : q ∈ sbLater b prs last ↔ ∃ p ∈ last, ∃ j, j < prs.length - p.2 ∧ standsF b (plusC p.1 (prAt prs (p.2 + j)).1 (prAt prs (p.2 + j)).2) = true ∧ q = (plusC p.1 (prAt prs (p.2 + j)).1 (prAt prs (p.2 + j)).2, p.2 + j) := by
  unfold sbLater
  rw [out_mem]
  simp
theorem prAt_mem {i : Nat} (h : i < prs.length) : prAt prs i ∈ prs := by
  unfold prAt
  rw [List.getElem?_eq_getElem h]
  exact List.getElem_mem h
theorem lev_sound : ∀ (m : Nat) (q : LF), q ∈ (sbIt b prs m).2 → ∃ ps : List Pr, Rp q.1 ps ∧ ps.length = m ∧ (∀ p ∈ ps, p ∈ prs) ∧ (1 ≤ m → letsF b ps = true) ∧ q.1.length ≤ m ∧ q.2 ≤ prs.length
  | 0, q, h => by
    have e : q = ([], 0) := List.mem_singleton.mp h
    subst e
    exact ⟨[], rp_nil, rfl, fun p hp => (nomatch hp), fun z => absurd z (by omega), Nat.le_refl _, Nat.zero_le _⟩
  | m + 1, q, h => by
    have h' : q ∈ sbLater b prs (sbIt b prs m).2 := h
    obtain ⟨p, hp, j, hj, hs, rfl⟩ := later_mem.mp h'
    obtain ⟨ps, h1, h2, h3, h4, h5, h6⟩ := lev_sound m p hp
    have hr := rp_plus h1 (prAt prs (p.2 + j)).1 (prAt prs (p.2 + j)).2
    have hl := plusC_len p.1 (prAt prs (p.2 + j)).1 (prAt prs (p.2 + j)).2
    refine ⟨_, hr, by rw [List.length_append, h2]; rfl, fun z hz => ?_, fun _ => by rw [← stands_rp hr]; exact hs, ?_, ?_⟩
    · rcases List.mem_append.mp hz with hz | hz
      · exact h3 z hz
      · rw [List.mem_singleton.mp hz]
        exact prAt_mem (by omega)
    · simp only; omega
    · simp only; omega
theorem lev_full : ∀ (m : Nat) (is : List Nat), is.length = m → is.Pairwise (· ≤ ·) → (∀ i ∈ is, i < prs.length) → letsF b (is.map (prAt prs)) = true → ∃ q ∈ (sbIt b prs m).2, Rp q.1 (is.map (prAt prs)) ∧ ∀ i, (∀ k ∈ is, k ≤ i) → q.2 ≤ i
  | 0, is, hl, _, _, _ => by
    have e : is = [] := List.length_eq_zero_iff.mp hl
    subst e
    exact ⟨([], 0), List.mem_singleton.mpr rfl, rp_nil, fun i _ => Nat.zero_le _⟩
  | m + 1, is, hl, hs, hi, hb => by
    rcases List.eq_nil_or_concat is with e | ⟨js, j, e⟩
    · subst e; cases hl
    · rw [List.concat_eq_append] at e
      subst e
      have hl' : js.length = m := by simpa using hl
      obtain ⟨s1, _, s3⟩ := List.pairwise_append.mp hs
      rw [List.map_append] at hb
      obtain ⟨q, h1, h2, h3⟩ := lev_full m js hl' s1 (fun i hi' => hi i (List.mem_append_left _ hi')) (lets_mono (List.sublist_append_left _ _) hb)
      have hq : q.2 ≤ j := h3 j fun k hk => s3 k hk j (List.mem_singleton.mpr rfl)
      have hj := hi j (List.mem_append_right _ (List.mem_singleton.mpr rfl))
      have ej : q.2 + (j - q.2) = j := by omega
      have hr := rp_plus h2 (prAt prs j).1 (prAt prs j).2
      refine ⟨(plusC q.1 (prAt prs j).1 (prAt prs j).2, j), ?_, by rw [List.map_append]; exact hr, fun i h => h j (List.mem_append_right _ (List.mem_singleton.mpr rfl))⟩
      show _ ∈ sbLater b prs (sbIt b prs m).2
      refine later_mem.mpr ⟨q, h1, j - q.2, by omega, ?_, ?_⟩
      · rw [ej, stands_rp hr]
        exact hb
      · rw [ej]
theorem lev_of {ps : List Pr} (hp : ∀ p ∈ ps, p ∈ prs) (h : letsF b ps = true) : ∃ q ∈ (sbIt b prs ps.length).2, Rp q.1 ps := by
  let is0 := ps.map fun p => prs.idxOf p
  let is := isort (fun a b : Nat => decide (a ≤ b)) is0
  have hperm : is.Perm is0 := isort_perm is0
  have hsrt : is.Pairwise (· ≤ ·) := (isort_sorted (le := fun a b : Nat => decide (a ≤ b)) (fun a b c => by simp; omega) (fun a b => by simp; omega) is0).imp fun h => of_decide_eq_true h
  have e0 : is0.map (prAt prs) = ps := by
    show (ps.map fun p => prs.idxOf p).map (prAt prs) = ps
    rw [List.map_map]
    have : ps.map (prAt prs ∘ fun p => prs.idxOf p) = ps.map id := List.map_congr_left fun p hpp => by
      have hl := List.idxOf_lt_length_of_mem (hp p hpp)
      show prAt prs (prs.idxOf p) = p
      unfold prAt
      rw [List.getElem?_eq_getElem hl]
      exact List.getElem_idxOf hl
    rw [this, List.map_id]
  have hpm : (is.map (prAt prs)).Perm ps := by
    have := hperm.map (prAt prs)
    rw [e0] at this
    exact this
  have hlen : is.length = ps.length := by rw [hperm.length_eq]; exact List.length_map ..
  obtain ⟨q, h1, h2, _⟩ := lev_full ps.length is hlen hsrt (fun i hi => by
    obtain ⟨p, hpp, rfl⟩ := List.mem_map.mp (hperm.mem_iff.mp hi)
    exact List.idxOf_lt_length_of_mem (hp p hpp)) (by rw [lets_perm hpm]; exact h)
  exact ⟨q, h1, rp_perm h2 hpm⟩
theorem lev_sz (hp : prs.length ≤ 2) : ∀ m, (sbIt b prs m).2.length ≤ 2 ^ m ∧ (sbIt b prs m).1.length ≤ 2 ^ (m + 1)
  | 0 => ⟨by simp [sbIt], by simp [sbIt]⟩
  | m + 1 => by
    obtain ⟨h1, h2⟩ := lev_sz hp m
    have gen : ∀ (last acc : List LF), (last.foldl (sbOut b prs) acc).length ≤ acc.length + 2 * last.length := by
      intro last
      induction last with
      | nil => intro acc; simp
      | cons p last ih =>
        intro acc
        have a := ih (sbOut b prs acc p)
        have c := sbOut_len b prs acc p
        rw [List.foldl_cons, List.length_cons]
        omega
    have h3 := gen (sbIt b prs m).2 []
    have h4 : (sbLater b prs (sbIt b prs m).2).length ≤ 2 * (sbIt b prs m).2.length := by
      unfold sbLater
      simpa using h3
    rw [sbIt]
    simp only [List.length_append, List.length_map]
    have e1 : 2 ^ (m + 1) = 2 * 2 ^ m := by rw [Nat.pow_succ]; omega
    have e2 : 2 ^ (m + 1 + 1) = 2 * 2 ^ (m + 1) := by rw [Nat.pow_succ]; omega
    omega
theorem lev_4 (hb : ∀ a ∈ b, a.1 ≤ 3) : (sbIt b prs 4).2 = [] := by
  rw [List.eq_nil_iff_forall_not_mem]
  intro q hq
  obtain ⟨ps, _, h2, _, h4, _⟩ := lev_sound 4 q hq
  have := lets_len hb (h4 (by omega))
  omega
theorem lev_end {k : Nat} (h : (sbIt b prs k).2 = []) : ∀ j, (sbIt b prs (k + j)).2 = []
  | 0 => h
  | j + 1 => by
    show sbLater b prs (sbIt b prs (k + j)).2 = []
    rw [lev_end h j]
    rfl
theorem sbn_ok (hb : ∀ a ∈ b, a.1 ≤ 3) : (sbIt b prs (sbn b prs)).2 = [] ∧ sbn b prs ≤ 4 ∧ ∀ m, m < sbn b prs → (sbIt b prs m).2 ≠ [] := by
  obtain ⟨k, h1, h2⟩ := least (p := fun m => (sbIt b prs m).2 = []) 4 (lev_4 hb)
  have hk : k ≤ 4 := by
    by_cases z : k ≤ 4
    · exact z
    · exact absurd (lev_4 hb) (h2 4 (by omega))
  have e : sbn b prs = k := by
    unfold sbn
    have : (List.range 20).find? (fun m => (sbIt b prs m).2.isEmpty) = some k := by
      rw [List.find?_range_eq_some]
      refine ⟨by rw [h1]; rfl, List.mem_range.mpr (by omega), fun j hj => ?_⟩
      have := h2 j hj
      cases q : (sbIt b prs j).2 with
      | nil => exact absurd q this
      | cons a l => rfl
    rw [this]
    rfl
  rw [e]
  exact ⟨h1, hk, h2⟩
theorem sb_ok (hs : bkSmall b = true) (hb : ∀ a ∈ b, a.1 ≤ 3) (hp : prs.length ≤ 2) : SbOk b prs (sbn b prs) := by
  obtain ⟨h1, h2, h3⟩ := sbn_ok (prs := prs) hb
  refine ⟨hs, by omega, fun m hm => ?_, by rw [h1]; rfl, fun m hm => ?_⟩
  · have := h3 m hm
    cases q : (sbIt b prs m).2 with
    | nil => exact absurd q this
    | cons a l => rfl
  · obtain ⟨a, c⟩ := lev_sz (b := b) hp m
    have e1 : 2 ^ m ≤ 2 ^ 4 := Nat.pow_le_pow_right (by omega) (by omega)
    have e2 : 2 ^ (m + 1) ≤ 2 ^ 5 := Nat.pow_le_pow_right (by omega) (by omega)
    refine ⟨by omega, by omega, fun p hpp => ?_⟩
    obtain ⟨ps, _, g2, _, _, g5, g6⟩ := lev_sound m p hpp
    exact ⟨by omega, by omega⟩
theorem loads_rest : ∀ k, ∃ rest, (sbIt b prs k).1 = [] :: rest ∧ ∀ l, l ∈ rest ↔ ∃ m, 1 ≤ m ∧ m ≤ k ∧ l ∈ (sbIt b prs m).2.map (·.1)
  | 0 => ⟨[], rfl, fun l => ⟨fun h => (nomatch h), fun ⟨m, h1, h2, _⟩ => by omega⟩⟩
  | k + 1 => by
    obtain ⟨rest, h1, h2⟩ := loads_rest k
    refine ⟨rest ++ (sbLater b prs (sbIt b prs k).2).map (·.1), by rw [sbIt, h1]; rfl, fun l => ?_⟩
    rw [List.mem_append, h2]
    constructor
    · rintro (⟨m, a, c, d⟩ | h)
      · exact ⟨m, a, by omega, d⟩
      · exact ⟨k + 1, by omega, Nat.le_refl _, h⟩
    · rintro ⟨m, a, c, d⟩
      by_cases z : m = k + 1
      · subst z; exact .inr d
      · exact .inl ⟨m, a, by omega, d⟩
theorem tow_mem {l : List Rw} : l ∈ towF b prs ↔ ∃ m, 1 ≤ m ∧ m ≤ sbn b prs ∧ l ∈ (sbIt b prs m).2.map (·.1) := by
  unfold towF sortL loadsOf
  rw [(List.mergeSort_perm _ _).mem_iff]
  obtain ⟨rest, h1, h2⟩ := loads_rest (b := b) (prs := prs) (sbn b prs)
  rw [h1]
  exact h2 l
end
section
variable {n N : Nat} {bm : BM}
theorem gd_3 (g : GoodBM n bm) (hn : n < 4) {y : Int} (hy : y ∈ landY n) : ∀ a ∈ gB bm y, a.1 ≤ 3 := fun a ha => by
  have h1 := (gB_gd g hy).2 a ha
  have h2 := (land_row n hn y hy).2.2.1
  omega
theorem w_ok (g : GoodBM n bm) (hn : n < 4) : WOk (land n) (bsOf bm n) := by
  have hy := land_yards n hn
  refine ⟨?_, fun y h1 u h2 => ?_, fun y h1 => land_isP n hn y h1⟩
  · unfold websOk
    rw [hy]
    simp only [Bool.and_eq_true, decide_eq_true_eq, List.all_eq_true]
    refine ⟨⟨land_ok n hn, by unfold bsOf; rw [List.length_map]⟩, fun p hp => ?_⟩
    have e : ∀ l : List Int, ∀ p ∈ l.zip (l.map fun y => (getB bm y).getD []), p.1 ∈ l ∧ p.2 = gB bm p.1 := by
      intro l
      induction l with
      | nil => intro p hp; exact nomatch hp
      | cons y l ih =>
        intro p hp
        rw [List.map_cons, List.zip_cons_cons] at hp
        rcases List.mem_cons.mp hp with rfl | hp
        · exact ⟨List.mem_cons_self .., rfl⟩
        · obtain ⟨a, c⟩ := ih p hp
          exact ⟨List.mem_cons_of_mem _ a, c⟩
    obtain ⟨e1, e2⟩ := e _ p hp
    rw [e2]
    exact (gB_gd g e1).1
  · rw [hy] at h1
    rw [bookOf_gB hn h1]
    exact sb_ok (gd_small (gB_gd g h1)) (gd_3 g hn h1) (land_prs n hn y h1 u h2)
/-- a side is plugged -/
def Plug (n : Nat) (bm : BM) (y t : Int) : Prop := ∃ ps : List Pr, ps ≠ [] ∧ (∀ p ∈ ps, p ∈ prT (land n) y t) ∧ letsF (gB bm y) ps = true ∧ ∃ z ∈ (land n).row y, z ≠ t ∧ letsF (gB bm y) (ps ++ [(t, z)]) = false
theorem plugF_iff (g : GoodBM n bm) (hn : n < 4) {y t : Int} (hy : y ∈ landY n) : plugF (land n) (bsOf bm n) (y, t) = true ↔ Plug n bm y t := by
  unfold plugF Plug
  simp only
  rw [bookOf_gB hn hy, List.any_eq_true]
  constructor
  · rintro ⟨l, hl, h⟩
    obtain ⟨m, m1, _, hm⟩ := tow_mem.mp hl
    obtain ⟨q, hq, rfl⟩ := List.mem_map.mp hm
    obtain ⟨ps, h1, h2, h3, h4, _⟩ := lev_sound m q hq
    obtain ⟨z, hz, hs⟩ := List.any_eq_true.mp h
    obtain ⟨z1, z2⟩ := List.mem_filter.mp hz
    refine ⟨ps, fun e => ?_, h3, h4 m1, z, z1, by simpa using z2, ?_⟩
    · rw [e] at h2
      have : 0 = m := h2
      omega
    · rw [stands_rp (rp_plus h1 t z)] at hs
      simpa using hs
  · rintro ⟨ps, h1, h2, h3, z, z1, z2, z3⟩
    obtain ⟨q, hq, hr⟩ := lev_of h2 h3
    obtain ⟨k1, k2, k3⟩ := sbn_ok (b := gB bm y) (prs := prT (land n) y t) (gd_3 g hn hy)
    have hlen : 1 ≤ ps.length := by
      cases ps with
      | nil => exact absurd rfl h1
      | cons a l => simp
    refine ⟨q.1, tow_mem.mpr ⟨ps.length, hlen, ?_, List.mem_map.mpr ⟨q, hq, rfl⟩⟩, List.any_eq_true.mpr ⟨z, List.mem_filter.mpr ⟨z1, by simpa using z2⟩, ?_⟩⟩
    · by_cases c : ps.length ≤ sbn (gB bm y) (prT (land n) y t)
      · exact c
      · have e := lev_end k1 (ps.length - sbn (gB bm y) (prT (land n) y t))
        rw [show sbn (gB bm y) (prT (land n) y t) + (ps.length - sbn (gB bm y) (prT (land n) y t)) = ps.length by omega] at e
        rw [e] at hq
        exact nomatch hq
    · rw [stands_rp (rp_plus hr t z), z3]
      rfl
end
end Lk
set_option Elab.async false
set_option linter.all false
set_option maxRecDepth 100000
set_option maxHeartbeats 2000000
set_option synthInstance.maxHeartbeats 2000000
set_option synthInstance.maxSize 4000
/-! Q7: a stuck stand comes exactly if two plugged sides face each other. -/
namespace Lk
open PySem PySem.Spec PyProof.Rows L2
theorem land_side : ∀ n < 4, ∀ c ∈ cartsL n, (onL c).1 ∈ landY n → (c.1, (onL c).1) ∈ ysF (land n) ∧ onL c ∈ cartsL n ∧ (pairL (onL c)).1 = c.1 ∧ (pairL (onL c)).2 ∈ (land n).row (onL c).1 ∧ (pairL (onL c)).2 ≠ c.1 := by decide +kernel
theorem land_prT : ∀ n < 4, ∀ c ∈ cartsL n, pairL c ∈ prT (land n) c.1 (onL c).1 := by decide +kernel
theorem land_sideY : ∀ n < 4, ∀ a ∈ ysF (land n), a.1 ∈ landY n ∧ a.2 ∈ landY n ∧ (a.2, a.1) ∈ ysF (land n) ∧ a.1 ≠ a.2 := by decide +kernel
theorem land_two : ∀ n < 4, ∀ a ∈ ysF (land n), ∀ p ∈ prT (land n) a.1 a.2, ∀ z ∈ (land n).row a.2, z ≠ a.1 → ∃ c ∈ cartsL n, c.1 = a.1 ∧ pairL c = p ∧ (onL c).1 = a.2 ∧ pairL (onL c) = (a.1, z) := by decide +kernel
section
variable {n N : Nat} {bm : BM}
/-- a cart stands at y and goes to z -/
def Goes (s : Sd) (y z : Int) : Prop := ∃ c ∈ s, c.1 = y ∧ (onL c).1 = z
theorem goes_yard (g : GoodBM n bm) {s : Sd} (k : Stk bm s) {c : LC} (hc : c ∈ s) : (onL c).1 ∈ landY n := by
  by_cases z : (onL c).1 ∈ landY n
  · exact z
  · have h := k.2 c hc
    unfold comesF at h
    rw [getB_out g z] at h
    cases h
theorem goes_side (g : GoodBM n bm) (hn : n < 4) {s : Sd} (v : Vs n bm s) (k : Stk bm s) {y z : Int} (h : Goes s y z) : (y, z) ∈ ysF (land n) := by
  obtain ⟨c, hc, rfl, rfl⟩ := h
  exact (land_side n hn c (v.ca c hc) (goes_yard g k hc)).1
theorem goes_refused (g : GoodBM n bm) {s : Sd} (k : Stk bm s) {c : LC} (hc : c ∈ s) : letsF (gB bm (onL c).1) (pairsOn s (onL c).1 ++ [pairL (onL c)]) = false := by
  have h := k.2 c hc
  unfold comesF at h
  rw [getB_in g (goes_yard g k hc)] at h
  exact h
theorem pairsOn_cart {s : Sd} {y : Int} {p : Pr} (h : p ∈ pairsOn s y) : ∃ c ∈ s, c.1 = y ∧ pairL c = p := by
  obtain ⟨c, hc, rfl⟩ := List.mem_map.mp h
  obtain ⟨h1, h2⟩ := List.mem_filter.mp hc
  exact ⟨c, h1, of_decide_eq_true h2, rfl⟩
theorem goes_on (g : GoodBM n bm) (hn : n < 4) {s : Sd} (v : Vs n bm s) (k : Stk bm s) {y z : Int} (h : Goes s y z) : ∃ z', Goes s z z' := by
  obtain ⟨c, hc, rfl, rfl⟩ := h
  have hy := goes_yard g k hc
  obtain ⟨_, h2, _⟩ := land_side n hn c (v.ca c hc) hy
  have hr := goes_refused g k hc
  cases e : pairsOn s (onL c).1 with
  | nil =>
    rw [e] at hr
    have := lets_single g hy (land_pair n hn _ h2)
    rw [List.nil_append, this] at hr
    cases hr
  | cons p ps =>
    obtain ⟨d, hd, e1, _⟩ := pairsOn_cart (s := s) (y := (onL c).1) (p := p) (by rw [e]; exact List.mem_cons_self ..)
    exact ⟨(onL d).1, d, hd, e1, rfl⟩
theorem goes_plug (g : GoodBM n bm) (hn : n < 4) {s : Sd} (v : Vs n bm s) (k : Stk bm s) {y z : Int} (h : Goes s y z) (all : ∀ z', Goes s z z' → z' = y) : Plug n bm z y := by
  obtain ⟨z1, c1, d1, d2, d3⟩ := goes_on g hn v k h
  obtain ⟨c, hc, rfl, rfl⟩ := h
  have hy := goes_yard g k hc
  obtain ⟨_, h2, h3, h4, h5⟩ := land_side n hn c (v.ca c hc) hy
  refine ⟨pairsOn s (onL c).1, fun e => ?_, fun p hp => ?_, v.le _ hy, (pairL (onL c)).2, h4, h5, ?_⟩
  · have : pairL c1 ∈ pairsOn s (onL c).1 := List.mem_map.mpr ⟨c1, List.mem_filter.mpr ⟨d1, decide_eq_true d2⟩, rfl⟩
    rw [e] at this
    exact nomatch this
  · obtain ⟨d, hd, e1, e2⟩ := pairsOn_cart hp
    have e3 := all (onL d).1 ⟨d, hd, e1, rfl⟩
    have h6 := land_prT n hn d (v.ca d hd)
    rw [e1, e2, e3] at h6
    exact h6
  · have hr := goes_refused g k hc
    rw [← h3]
    exact hr
/-- two plugged sides face each other -/
def Faces (n : Nat) (bm : BM) : Prop := ∃ a ∈ ysF (land n), ∃ b ∈ ysF (land n), Plug n bm a.1 a.2 ∧ Plug n bm b.1 b.2 ∧ facF (land n) a b = true
theorem ys0 : ysF (land 0) = [(1, 2), (2, 1)] := by decide +kernel
theorem ys1 : ysF (land 1) = [(1, 2), (2, 1), (2, 3), (3, 2)] := by decide +kernel
theorem ys2 : ysF (land 2) = [(2, 3), (3, 2)] := by decide +kernel
theorem ys3 : ysF (land 3) = [(2, 3), (3, 2)] := by decide +kernel
/-- a land of two yards -/
theorem fwd_two (g : GoodBM n bm) (hn : n < 4) {s : Sd} (v : Vs n bm s) (k : Stk bm s) {a b : Int} (hab : a ≠ b) (hs : ysF (land n) = [(a, b), (b, a)]) (hf : facF (land n) (a, b) (b, a) = true) : Faces n bm := by
  have side : ∀ y z, Goes s y z → (y = a ∧ z = b) ∨ (y = b ∧ z = a) := fun y z h => by
    have h1 := goes_side g hn v k h
    rw [hs] at h1
    simpa using h1
  have ab : Goes s a b → Goes s b a := fun h => by
    obtain ⟨z, hz⟩ := goes_on g hn v k h
    rcases side b z hz with ⟨e, _⟩ | ⟨_, e⟩
    · exact absurd e.symm hab
    · rw [← e]; exact hz
  have ba : Goes s b a → Goes s a b := fun h => by
    obtain ⟨z, hz⟩ := goes_on g hn v k h
    rcases side a z hz with ⟨_, e⟩ | ⟨e, _⟩
    · rw [← e]; exact hz
    · exact absurd e hab
  have start : Goes s a b ∧ Goes s b a := by
    obtain ⟨c, hc⟩ := List.exists_mem_of_ne_nil _ k.1
    have h : Goes s c.1 (onL c).1 := ⟨c, hc, rfl, rfl⟩
    rcases side _ _ h with ⟨e1, e2⟩ | ⟨e1, e2⟩
    · rw [e1, e2] at h
      exact ⟨h, ab h⟩
    · rw [e1, e2] at h
      exact ⟨ba h, h⟩
  have p1 : Plug n bm b a := goes_plug g hn v k start.1 fun z hz => by
    rcases side b z hz with ⟨e, _⟩ | ⟨_, e⟩
    · exact absurd e.symm hab
    · exact e
  have p2 : Plug n bm a b := goes_plug g hn v k start.2 fun z hz => by
    rcases side a z hz with ⟨_, e⟩ | ⟨e, _⟩
    · exact e
    · exact absurd e hab
  exact ⟨(a, b), by rw [hs]; simp, (b, a), by rw [hs]; simp, p2, p1, hf⟩
theorem fwd_three (g : GoodBM 1 bm) {s : Sd} (v : Vs 1 bm s) (k : Stk bm s) : Faces 1 bm := by
  have hn : 1 < 4 := by omega
  have side : ∀ y z, Goes s y z → (y = 1 ∧ z = 2) ∨ (y = 2 ∧ z = 1) ∨ (y = 2 ∧ z = 3) ∨ (y = 3 ∧ z = 2) := fun y z h => by
    have h1 := goes_side g hn v k h
    rw [ys1] at h1
    simpa using h1
  have q21 : Goes s 2 1 → Goes s 1 2 := fun h => by
    obtain ⟨z, hz⟩ := goes_on g hn v k h
    rcases side 1 z hz with ⟨_, rfl⟩ | ⟨e, _⟩ | ⟨e, _⟩ | ⟨e, _⟩
    · exact hz
    all_goals omega
  have q23 : Goes s 2 3 → Goes s 3 2 := fun h => by
    obtain ⟨z, hz⟩ := goes_on g hn v k h
    rcases side 3 z hz with ⟨e, _⟩ | ⟨e, _⟩ | ⟨e, _⟩ | ⟨_, rfl⟩
    · omega
    · omega
    · omega
    · exact hz
  have mid : ∀ y, Goes s y 2 → Goes s 2 1 ∨ Goes s 2 3 := fun y h => by
    obtain ⟨z, hz⟩ := goes_on g hn v k h
    rcases side 2 z hz with ⟨e, _⟩ | ⟨_, rfl⟩ | ⟨_, rfl⟩ | ⟨e, _⟩
    · omega
    · exact .inl hz
    · exact .inr hz
    · omega
  have start : Goes s 2 1 ∨ Goes s 2 3 := by
    obtain ⟨c, hc⟩ := List.exists_mem_of_ne_nil _ k.1
    have h : Goes s c.1 (onL c).1 := ⟨c, hc, rfl, rfl⟩
    rcases side _ _ h with ⟨e1, e2⟩ | ⟨e1, e2⟩ | ⟨e1, e2⟩ | ⟨e1, e2⟩
    · rw [e1, e2] at h
      exact mid 1 h
    · rw [e1, e2] at h
      exact .inl h
    · rw [e1, e2] at h
      exact .inr h
    · rw [e1, e2] at h
      exact mid 3 h
  have p12 : Goes s 2 1 → Plug 1 bm 1 2 := fun h => goes_plug g hn v k h fun z hz => by
    rcases side 1 z hz with ⟨_, e⟩ | ⟨e, _⟩ | ⟨e, _⟩ | ⟨e, _⟩
    · exact e
    all_goals omega
  have p32 : Goes s 2 3 → Plug 1 bm 3 2 := fun h => goes_plug g hn v k h fun z hz => by
    rcases side 3 z hz with ⟨e, _⟩ | ⟨e, _⟩ | ⟨e, _⟩ | ⟨_, e⟩
    · omega
    · omega
    · omega
    · exact e
  by_cases h1 : Goes s 2 1
  · by_cases h3 : Goes s 2 3
    · exact ⟨(1, 2), by rw [ys1]; simp, (3, 2), by rw [ys1]; simp, p12 h1, p32 h3, by decide +kernel⟩
    · refine ⟨(1, 2), by rw [ys1]; simp, (2, 1), by rw [ys1]; simp, p12 h1, goes_plug g hn v k (q21 h1) fun z hz => ?_, by decide +kernel⟩
      rcases side 2 z hz with ⟨e, _⟩ | ⟨_, e⟩ | ⟨_, e⟩ | ⟨e, _⟩
      · omega
      · exact e
      · exact absurd (e ▸ hz) h3
      · omega
  · have h3 : Goes s 2 3 := start.resolve_left h1
    refine ⟨(2, 3), by rw [ys1]; simp, (3, 2), by rw [ys1]; simp, goes_plug g hn v k (q23 h3) fun z hz => ?_, p32 h3, by decide +kernel⟩
    rcases side 2 z hz with ⟨e, _⟩ | ⟨_, e⟩ | ⟨_, e⟩ | ⟨e, _⟩
    · omega
    · exact absurd (e ▸ hz) h1
    · exact e
    · omega
theorem fwd (g : GoodBM n bm) (hn : n < 4) {s : Sd} (v : Vs n bm s) (k : Stk bm s) : Faces n bm := by
  match n, hn, g, v with
  | 0, hn, g, v => exact fwd_two g hn v k (by decide) ys0 (by decide +kernel)
  | 1, hn, g, v => exact fwd_three g v k
  | 2, hn, g, v => exact fwd_two g hn v k (by decide) ys2 (by decide +kernel)
  | 3, hn, g, v => exact fwd_two g hn v k (by decide) ys3 (by decide +kernel)
/-! ### the other way: a plan -/
theorem carts_for {Q : LC → Prop} : ∀ ps : List Pr, (∀ p ∈ ps, ∃ c, Q c ∧ pairL c = p) → ∃ cs : List LC, cs.map pairL = ps ∧ ∀ c ∈ cs, Q c
  | [], _ => ⟨[], rfl, fun c h => (nomatch h)⟩
  | p :: ps, h => by
    obtain ⟨c, h1, h2⟩ := h p (List.mem_cons_self ..)
    obtain ⟨cs, h3, h4⟩ := carts_for ps fun q hq => h q (List.mem_cons_of_mem _ hq)
    refine ⟨c :: cs, by rw [List.map_cons, h2, h3], fun d hd => ?_⟩
    rcases List.mem_cons.mp hd with rfl | hd
    · exact h1
    · exact h4 d hd
theorem pairsOn_all {cs : List LC} {y : Int} (h : ∀ c ∈ cs, c.1 = y) : pairsOn cs y = cs.map pairL := by
  unfold pairsOn
  rw [List.filter_eq_self.mpr fun c hc => by simpa using h c hc]
theorem adj (g : GoodBM n bm) (A : AllOk bm (waysS n) N) (hn : n < 4) {a : Pr} (ha : a ∈ ysF (land n)) (h1 : Plug n bm a.1 a.2) (h2 : Plug n bm a.2 a.1) : ∃ s, ReachP n bm N s ∧ Stk bm s := by
  obtain ⟨hy1, hy2, hb, hne⟩ := land_sideY n hn a ha
  obtain ⟨psA, a1, a2, a3, zA, a4, a5, a6⟩ := h1
  obtain ⟨psB, b1, b2, b3, zB, b4, b5, b6⟩ := h2
  obtain ⟨csA, cA, dA⟩ := carts_for (Q := fun c => c ∈ cartsL n ∧ c.1 = a.1 ∧ (onL c).1 = a.2 ∧ pairL (onL c) = (a.1, zB)) psA fun p hp => by
    obtain ⟨c, c1, c2, c3, c4, c5⟩ := land_two n hn a ha p (a2 p hp) zB b4 b5
    exact ⟨c, ⟨c1, c2, c4, c5⟩, c3⟩
  obtain ⟨csB, cB, dB⟩ := carts_for (Q := fun c => c ∈ cartsL n ∧ c.1 = a.2 ∧ (onL c).1 = a.1 ∧ pairL (onL c) = (a.2, zA)) psB fun p hp => by
    obtain ⟨c, c1, c2, c3, c4, c5⟩ := land_two n hn (a.2, a.1) hb p (b2 p hp) zA a4 a5
    exact ⟨c, ⟨c1, c2, c4, c5⟩, c3⟩
  have eAA : pairsOn csA a.1 = psA := by rw [pairsOn_all fun c hc => (dA c hc).2.1, cA]
  have eAB : pairsOn csA a.2 = [] := pairsOn_none fun c hc => by rw [(dA c hc).2.1]; exact hne
  have eBB : pairsOn csB a.2 = psB := by rw [pairsOn_all fun c hc => (dB c hc).2.1, cB]
  have eBA : pairsOn csB a.1 = [] := pairsOn_none fun c hc => by rw [(dB c hc).2.1]; exact fun z => hne z.symm
  have r1 : ReachP n bm N (csB ++ []) := bring_all g A hn reach_nil hy2 csB (fun c hc => ⟨(dB c hc).1, (dB c hc).2.1, fun d _ _ q hq => (nomatch hq)⟩) (by rw [List.append_nil, eBB]; exact b3)
  rw [List.append_nil] at r1
  have r2 : ReachP n bm N (csA ++ csB) := bring_all g A hn r1 hy1 csA (fun c hc => ⟨(dA c hc).1, (dA c hc).2.1, fun d hd _ q hq => by
    have := (land_trail4 n hn c (dA c hc).1 d hd).2.2
    rw [(dB q hq).2.1, ← (dA c hc).2.2.1]
    exact fun z => this z.symm⟩) (by rw [pairsOn_app, eAA, eBA, List.append_nil]; exact a3)
  refine ⟨csA ++ csB, r2, fun e => ?_, fun c hc => ?_⟩
  · have e1 := List.append_eq_nil_iff.mp e
    rw [e1.1] at cA
    exact a1 cA.symm
  · rcases List.mem_append.mp hc with hc | hc
    · obtain ⟨_, _, c3, c4⟩ := dA c hc
      unfold comesF
      rw [c3, getB_in g hy2, c4, pairsOn_app, eAB, eBB, List.nil_append]
      exact b6
    · obtain ⟨_, _, c3, c4⟩ := dB c hc
      unfold comesF
      rw [c3, getB_in g hy1, c4, pairsOn_app, eAA, eBA, List.append_nil]
      exact a6
theorem max_of {P : Nat → Prop} (h0 : P 0) {k : Nat} (hk : ¬ P k) : ∃ m, P m ∧ ¬ P (m + 1) := by
  obtain ⟨m, h1, h2⟩ := least (p := fun m => ¬ P m) k hk
  cases m with
  | zero => exact absurd h0 h1
  | succ m => exact ⟨m, Classical.byContradiction fun z => h2 m (Nat.lt_succ_self m) z, h1⟩
def wE : List Int := [0, 1, 2, 3, 4]
def wW : List Int := [4, 3, 2, 1, 0]
theorem far_facts : ((1, wE) ∈ cartsL 1 ∧ (2, wE) ∈ cartsL 1 ∧ (2, wW) ∈ cartsL 1 ∧ (3, wW) ∈ cartsL 1) ∧ (pairL (1, wE) = (0, 2) ∧ pairL (2, wE) = (1, 3) ∧ pairL (2, wW) = (3, 1) ∧ pairL (3, wW) = (4, 2)) ∧
    (onL (1, wE) = (2, wE) ∧ onL (2, wE) = (3, wE) ∧ onL (2, wW) = (1, wW) ∧ onL (3, wW) = (2, wW)) ∧ (pairL (3, wE) = (2, 4) ∧ pairL (1, wW) = (2, 0)) := by decide +kernel
theorem far_tr : (∀ d ∈ trail (1, wE), d.1 = 1) ∧ (∀ d ∈ trail (3, wW), d.1 = 3) := by decide +kernel
theorem far_z : (∀ z ∈ (land 1).row 1, z ≠ 2 → z = 0) ∧ (∀ z ∈ (land 1).row 3, z ≠ 2 → z = 4) ∧ (∀ p ∈ prT (land 1) 1 2, p = (0, 2)) ∧ (∀ p ∈ prT (land 1) 3 2, p = (4, 2)) ∧ (1 : Int) ∈ landY 1 ∧ (2 : Int) ∈ landY 1 ∧ (3 : Int) ∈ landY 1 := by decide +kernel
theorem far (g : GoodBM 1 bm) (A : AllOk bm (waysS 1) N) (h1 : Plug 1 bm 1 2) (h3 : Plug 1 bm 3 2) : ∃ s, ReachP 1 bm N s ∧ Stk bm s := by
  have hn : 1 < 4 := by omega
  obtain ⟨⟨m1, m2, m3, m4⟩, ⟨p1, p2, p3, p4⟩, ⟨o1, o2, o3, o4⟩, q1, q2⟩ := far_facts
  obtain ⟨f1, f2, f3, f4, y1, y2, y3⟩ := far_z
  obtain ⟨t1, t2⟩ := far_tr
  obtain ⟨psA, a1, a2, a3, zA, a4, a5, a6⟩ := h1
  obtain ⟨psB, b1, b2, b3, zB, b4, b5, b6⟩ := h3
  rw [f1 zA a4 a5] at a6
  rw [f2 zB b4 b5] at b6
  obtain ⟨csA, cA, dA⟩ := carts_for (Q := fun c => c = (1, wE)) psA fun p hp => ⟨_, rfl, by rw [p1, f3 p (a2 p hp)]⟩
  obtain ⟨csB, cB, dB⟩ := carts_for (Q := fun c => c = (3, wW)) psB fun p hp => ⟨_, rfl, by rw [p4, f4 p (b2 p hp)]⟩
  have n4 : ∀ l : List Pr, 4 ≤ l.length → ¬ letsF (gB bm 2) l = true := fun l hl h => by
    have := lets_len (gd_3 g hn y2) h
    omega
  obtain ⟨w, w1, w2⟩ := max_of (P := fun w => letsF (gB bm 2) (List.replicate w (3, 1)) = true) ((vs_nil g hn).le 2 y2) (k := 4) (n4 _ (by simp))
  obtain ⟨e, e1, e2⟩ := max_of (P := fun e => letsF (gB bm 2) (List.replicate e (1, 3) ++ List.replicate w (3, 1)) = true) (by simpa using w1) (k := 4) (n4 _ (by simp))
  let W2 : Sd := List.replicate w (2, wW)
  let E2 : Sd := List.replicate e (2, wE)
  have hW : ∀ c ∈ W2, c = (2, wW) := fun c hc => List.eq_of_mem_replicate hc
  have hE : ∀ c ∈ E2, c = (2, wE) := fun c hc => List.eq_of_mem_replicate hc
  have kW : pairsOn W2 2 = List.replicate w (3, 1) := by
    rw [pairsOn_all fun c hc => by rw [hW c hc]]
    show (List.replicate w (2, wW)).map pairL = _
    rw [List.map_replicate, p3]
  have kE : pairsOn E2 2 = List.replicate e (1, 3) := by
    rw [pairsOn_all fun c hc => by rw [hE c hc]]
    show (List.replicate e (2, wE)).map pairL = _
    rw [List.map_replicate, p2]
  have mid2 : ∀ q ∈ E2 ++ W2, q.1 = 2 := fun q hq => by
    rcases List.mem_append.mp hq with h | h
    · rw [hE q h]
    · rw [hW q h]
  have r1 : ReachP 1 bm N (W2 ++ []) := bring_all g A hn reach_nil y2 W2 (fun c hc => ⟨by rw [hW c hc]; exact m3, by rw [hW c hc], fun d _ _ q hq => (nomatch hq)⟩) (by rw [List.append_nil, kW]; exact w1)
  rw [List.append_nil] at r1
  have r2 : ReachP 1 bm N (E2 ++ W2) := bring_all g A hn r1 y2 E2 (fun c hc => ⟨by rw [hE c hc]; exact m2, by rw [hE c hc], fun d _ hd q hq => by rw [hW q hq]; exact fun z => hd z.symm⟩) (by rw [pairsOn_app, kE, kW]; exact e1)
  have nA : ∀ y, y ≠ 1 → pairsOn csA y = [] := fun y hy => pairsOn_none fun c hc => by rw [dA c hc]; exact fun z => hy z.symm
  have nB : ∀ y, y ≠ 3 → pairsOn csB y = [] := fun y hy => pairsOn_none fun c hc => by rw [dB c hc]; exact fun z => hy z.symm
  have nM : ∀ y, y ≠ 2 → pairsOn (E2 ++ W2) y = [] := fun y hy => pairsOn_none fun c hc => by rw [mid2 c hc]; exact fun z => hy z.symm
  have kA : pairsOn csA 1 = psA := by rw [pairsOn_all fun c hc => by rw [dA c hc], cA]
  have kB : pairsOn csB 3 = psB := by rw [pairsOn_all fun c hc => by rw [dB c hc], cB]
  have r3 : ReachP 1 bm N (csB ++ (E2 ++ W2)) := bring_all g A hn r2 y3 csB (fun c hc => ⟨by rw [dB c hc]; exact m4, by rw [dB c hc], fun d hd ne q hq => by
    rw [dB c hc] at hd
    exact absurd (t2 d hd) ne⟩) (by rw [pairsOn_app, kB, nM 3 (by decide), List.append_nil]; exact b3)
  have r4 : ReachP 1 bm N (csA ++ (csB ++ (E2 ++ W2))) := bring_all g A hn r3 y1 csA (fun c hc => ⟨by rw [dA c hc]; exact m1, by rw [dA c hc], fun d hd ne q hq => by
    rw [dA c hc] at hd
    exact absurd (t1 d hd) ne⟩) (by rw [pairsOn_app, pairsOn_app, kA, nB 1 (by decide), nM 1 (by decide), List.append_nil, List.append_nil]; exact a3)
  have s1 : pairsOn (csA ++ (csB ++ (E2 ++ W2))) 1 = psA := by rw [pairsOn_app, pairsOn_app, kA, nB 1 (by decide), nM 1 (by decide), List.append_nil, List.append_nil]
  have s3 : pairsOn (csA ++ (csB ++ (E2 ++ W2))) 3 = psB := by rw [pairsOn_app, pairsOn_app, kB, nA 3 (by decide), nM 3 (by decide), List.append_nil, List.nil_append]
  have s2 : pairsOn (csA ++ (csB ++ (E2 ++ W2))) 2 = List.replicate e (1, 3) ++ List.replicate w (3, 1) := by rw [pairsOn_app, pairsOn_app, pairsOn_app, kE, kW, nA 2 (by decide), nB 2 (by decide), List.nil_append, List.nil_append]
  refine ⟨_, r4, fun z => ?_, fun c hc => ?_⟩
  · have z1 := (List.append_eq_nil_iff.mp z).1
    rw [z1] at cA
    exact a1 cA.symm
  · rcases List.mem_append.mp hc with hc | hc
    · rw [dA c hc, o1]
      unfold comesF
      rw [getB_in g y2]
      show letsF (gB bm 2) (pairsOn _ 2 ++ [pairL (2, wE)]) = false
      rw [s2, p2]
      have hp : ((List.replicate e ((1 : Int), (3 : Int)) ++ List.replicate w (3, 1)) ++ [(1, 3)]).Perm (List.replicate (e + 1) (1, 3) ++ List.replicate w (3, 1)) := by
        rw [List.replicate_succ]
        exact List.perm_append_singleton _ _
      rw [lets_perm hp]
      simpa using e2
    · rcases List.mem_append.mp hc with hc | hc
      · rw [dB c hc, o4]
        unfold comesF
        rw [getB_in g y2]
        show letsF (gB bm 2) (pairsOn _ 2 ++ [pairL (2, wW)]) = false
        rw [s2, p3]
        cases q : letsF (gB bm 2) ((List.replicate e (1, 3) ++ List.replicate w (3, 1)) ++ [(3, 1)]) with
        | false => rfl
        | true =>
          refine absurd (lets_mono ?_ q) w2
          rw [List.replicate_succ', List.append_assoc]
          exact List.sublist_append_right _ _
      · rcases List.mem_append.mp hc with hc | hc
        · rw [hE c hc, o2]
          unfold comesF
          rw [getB_in g y3]
          show letsF (gB bm 3) (pairsOn _ 3 ++ [pairL (3, wE)]) = false
          rw [s3, q1]
          exact b6
        · rw [hW c hc, o3]
          unfold comesF
          rw [getB_in g y1]
          show letsF (gB bm 1) (pairsOn _ 1 ++ [pairL (1, wW)]) = false
          rw [s1, q2]
          exact a6
theorem fac_cases : ∀ n < 4, ∀ a ∈ ysF (land n), ∀ b ∈ ysF (land n), facF (land n) a b = true → b = (a.2, a.1) ∨ (n = 1 ∧ ((a = (1, 2) ∧ b = (3, 2)) ∨ (a = (3, 2) ∧ b = (1, 2)))) := by decide +kernel
theorem bwd (g : GoodBM n bm) (A : AllOk bm (waysS n) N) (hn : n < 4) (h : Faces n bm) : ∃ s, ReachP n bm N s ∧ Stk bm s := by
  obtain ⟨a, ha, b, hb, pa, pb, hf⟩ := h
  rcases fac_cases n hn a ha b hb hf with rfl | ⟨rfl, ⟨rfl, rfl⟩ | ⟨rfl, rfl⟩⟩
  · exact adj g A hn ha pa pb
  · exact far g A pa pb
  · exact far g A pb pa
theorem stuck_faces (g : GoodBM n bm) (A : AllOk bm (waysS n) N) (hn : n < 4) : (allIt bm (waysS n) N).2.isSome = true ↔ Faces n bm := by
  rw [stuck_iff g hn A]
  constructor
  · rintro ⟨s, r, k⟩
    exact fwd g hn (r.vs g hn) k
  · exact bwd g A hn
end
end Lk
set_option Elab.async false
set_option linter.all false
set_option maxRecDepth 100000
set_option maxHeartbeats 2000000
set_option synthInstance.maxHeartbeats 2000000
set_option synthInstance.maxSize 4000
/-! Q8: the mathematics, whole. -/
namespace Lk
open PySem PySem.Spec PyProof.Rows L2
/-! ### posts and facing sides, for each set of plugged sides -/
def subl {α : Type} : List α → List (List α)
  | [] => [[]]
  | x :: l => subl l ++ (subl l).map (x :: ·)
theorem subl_mem {α : Type} (f : α → Bool) : ∀ l : List α, l.filter f ∈ subl l
  | [] => by simp [subl]
  | x :: l => by
    have ih := subl_mem f l
    rw [List.filter_cons, subl, List.mem_append]
    split
    · exact .inr (List.mem_map.mpr ⟨_, ih, rfl⟩)
    · exact .inl ih
def behI (c : Cy) (y t : Int) : List Int := (ybIt c y t (ybn c y t)).1.filter fun p => decide ((c.row p).length > 1)
def comI (c : Cy) (P : List Pr) : List Int := c.yards.filter fun y => P.all fun s => decide (y ∈ behI c s.1 s.2)
theorem com_eq (c : Cy) (P : List Pr) : commonF c P = comI c P := by
  unfold commonF comI
  refine List.filter_congr fun y _ => ?_
  rw [List.all_map]
  congr 1
  funext s
  show decide (y ∈ behind c s.1 s.2) = decide (y ∈ behI c s.1 s.2)
  unfold behind ybOf behI sortI
  exact decide_eq_decide.mpr (List.mergeSort_perm _ _).mem_iff
theorem land_com : ∀ n < 4, ∀ P ∈ subl (ysF (land n)), (comI (land n) P).isEmpty = P.any (fun a => P.any fun b => facF (land n) a b) := by decide +kernel
theorem land_fp : ∀ n < 4, ∀ P ∈ subl (ysF (land n)), (facPairs (land n) P).isEmpty = !P.any (fun a => P.any fun b => facF (land n) a b) := by decide +kernel
theorem land_due : ∀ n < 4, ∀ P ∈ subl (ysF (land n)), comI (land n) P = (landY n).filter fun post => !(sidesTo n post).any fun q => decide (q ∈ P) := by decide +kernel
theorem land_to : ∀ n < 4, ∀ post ∈ landY n, ∀ q ∈ sidesTo n post, q ∈ ysF (land n) := by decide +kernel
theorem land_oth : ∀ n < 4, ∀ a ∈ ysF (land n), (∀ o ∈ othF (waysS n) a.1 a.2, o.1 = a.2 ∧ o.2 ∈ (land n).row a.1 ∧ o.2 ≠ a.2) ∧ ∀ z ∈ (land n).row a.1, z ≠ a.2 → (a.2, z) ∈ othF (waysS n) a.1 a.2 := by decide +kernel
theorem land_one : ∀ n < 4, ∀ a ∈ ysF (land n), ∀ p ∈ prT (land n) a.1 a.2, ∃ c ∈ cartsL n, c.1 = a.1 ∧ pairL c = p := by decide +kernel
theorem land_prm : ∀ n < 4, ∀ a ∈ ysF (land n), ∀ c ∈ cartsL n, c.1 = a.1 → (pairL c).2 = a.2 → pairL c ∈ prT (land n) a.1 a.2 := by decide +kernel
theorem land_prt : ∀ n < 4, ∀ a ∈ ysF (land n), ∀ p ∈ prT (land n) a.1 a.2, p.2 = a.2 := by decide +kernel
section
variable {n N : Nat} {bm : BM}
theorem plugged_mem (g : GoodBM n bm) (hn : n < 4) {a : Pr} : a ∈ plugged (land n) (bsOf bm n) ↔ a ∈ ysF (land n) ∧ Plug n bm a.1 a.2 := by
  unfold plugged
  rw [List.mem_filter]
  refine and_congr_right fun h => ?_
  exact plugF_iff g hn (land_sideY n hn a h).1
theorem faces_any (g : GoodBM n bm) (hn : n < 4) : ((plugged (land n) (bsOf bm n)).any fun a => (plugged (land n) (bsOf bm n)).any fun b => facF (land n) a b) = true ↔ Faces n bm := by
  rw [List.any_eq_true]
  constructor
  · rintro ⟨a, ha, h⟩
    obtain ⟨b, hb, hf⟩ := List.any_eq_true.mp h
    obtain ⟨a1, a2⟩ := (plugged_mem g hn).mp ha
    obtain ⟨b1, b2⟩ := (plugged_mem g hn).mp hb
    exact ⟨a, a1, b, b1, a2, b2, hf⟩
  · rintro ⟨a, a1, b, b1, a2, b2, hf⟩
    exact ⟨a, (plugged_mem g hn).mpr ⟨a1, a2⟩, List.any_eq_true.mpr ⟨b, (plugged_mem g hn).mpr ⟨b1, b2⟩, hf⟩⟩
theorem lawPlug_iff (g : GoodBM n bm) (A : AllOk bm (waysS n) N) (hn : n < 4) {a : Pr} (ha : a ∈ ysF (land n)) : lawPlug (allIt bm (waysS n) N).1 (gB bm a.1) (waysS n) a.1 a.2 = true ↔ Plug n bm a.1 a.2 := by
  obtain ⟨hy, _, _, _⟩ := land_sideY n hn a ha
  obtain ⟨o1, o2⟩ := land_oth n hn a ha
  unfold lawPlug plugRow
  rw [List.any_eq_true]
  simp only [Bool.and_eq_true, Bool.not_eq_true']
  constructor
  · rintro ⟨s, hs, ⟨h1, h2⟩, h3⟩
    have v := ((rows_ok g hn N).v s hs).1
    rw [List.all_eq_false] at h3
    obtain ⟨o, ho, h4⟩ := h3
    obtain ⟨e1, e2, e3⟩ := o1 o ho
    rw [List.isEmpty_iff, List.filter_eq_nil_iff] at h2
    refine ⟨pairsOn s a.1, fun e => (by rw [e] at h1; exact nomatch h1), fun p hp => ?_, v.le _ hy, o.2, e2, e3, ?_⟩
    · obtain ⟨c, hc, c1, rfl⟩ := pairsOn_cart hp
      have := h2 _ hp
      exact land_prm n hn a ha c (v.ca c hc) c1 (by simpa using this)
    · rw [← e1]
      simpa using h4
  · rintro ⟨ps, h1, h2, h3, z, z1, z2, z3⟩
    obtain ⟨cs, c1, c2⟩ := carts_for (Q := fun c => c ∈ cartsL n ∧ c.1 = a.1) ps fun p hp => by
      obtain ⟨c, d1, d2, d3⟩ := land_one n hn a ha p (h2 p hp)
      exact ⟨c, ⟨d1, d2⟩, d3⟩
    have e : pairsOn cs a.1 = ps := by rw [pairsOn_all fun c hc => (c2 c hc).2, c1]
    have r := bring_all g A hn reach_nil hy cs (fun c hc => ⟨(c2 c hc).1, (c2 c hc).2, fun d _ _ q hq => (nomatch hq)⟩) (by rw [List.append_nil, e]; exact h3)
    rw [List.append_nil] at r
    obtain ⟨s, hs, p⟩ := r
    have hp := pairsOn_perm p a.1
    rw [e] at hp
    refine ⟨s, hs, ⟨?_, ?_⟩, ?_⟩
    · cases q : pairsOn s a.1 with
      | nil => rw [q] at hp; exact absurd (List.Perm.nil_eq hp).symm h1
      | cons x l => rfl
    · rw [List.isEmpty_iff, List.filter_eq_nil_iff]
      intro x hx
      have := land_prt n hn a ha x (h2 x (hp.mem_iff.mp hx))
      simp [this]
    · rw [List.all_eq_false]
      refine ⟨(a.2, z), o2 z z1 z2, ?_⟩
      rw [lets_perm (hp.append_right _), z3]
      decide
theorem plug_same (g : GoodBM n bm) (A : AllOk bm (waysS n) N) (hn : n < 4) {a : Pr} (ha : a ∈ ysF (land n)) : lawPlug (allIt bm (waysS n) N).1 ((getB bm a.1).getD []) (waysS n) a.1 a.2 = decide (a ∈ plugged (land n) (bsOf bm n)) := by
  rw [Bool.eq_iff_iff, decide_eq_true_eq, plugged_mem g hn]
  constructor
  · intro h
    exact ⟨ha, (lawPlug_iff g A hn ha).mp h⟩
  · intro h
    exact (lawPlug_iff g A hn ha).mpr h.2
theorem any_congr {α : Type} {f h : α → Bool} : ∀ {l : List α}, (∀ x ∈ l, f x = h x) → l.any f = l.any h
  | [], _ => rfl
  | x :: l, e => by rw [List.any_cons, List.any_cons, e x (List.mem_cons_self ..), any_congr fun y hy => e y (List.mem_cons_of_mem _ hy)]
theorem due_eq (g : GoodBM n bm) (A : AllOk bm (waysS n) N) (hn : n < 4) : commonF (land n) (plugged (land n) (bsOf bm n)) = dueF n bm (allIt bm (waysS n) N).1 := by
  have hsl : plugged (land n) (bsOf bm n) ∈ subl (ysF (land n)) := subl_mem _ _
  rw [com_eq, land_due n hn _ hsl]
  unfold dueF
  refine List.filter_congr fun post hp => ?_
  unfold anyPlug
  congr 1
  exact any_congr fun q hq => (plug_same g A hn (land_to n hn post hp q hq)).symm
theorem last_at {rows : List Sd} (h : rows ≠ []) : ∃ s ∈ rows, atI rows (-1) = some s := by
  have hl : 0 < rows.length := List.length_pos_iff.mpr h
  refine ⟨rows[rows.length - 1]'(by omega), List.getElem_mem _, ?_⟩
  have e : ixN rows.length (-1) = some (rows.length - 1) := by
    unfold ixN
    rw [if_neg (by omega), if_pos (by omega)]
    congr 1
    omega
  unfold atI
  rw [e]
  exact List.getElem?_eq_getElem _
theorem math_ok (g : GoodBM n bm) (hn : n < 4) : ∃ N, MathOk n bm N := by
  obtain ⟨N, A⟩ := all_ok g hn
  have hsf := stuck_faces g A hn
  have hfa := faces_any g hn
  have hio : ((plugged (land n) (bsOf bm n)).any fun a => (plugged (land n) (bsOf bm n)).any fun b => facF (land n) a b) = (allIt bm (waysS n) N).2.isSome := by
    rw [Bool.eq_iff_iff, hfa, hsf]
  have hp := subl_mem (plugF (land n) (bsOf bm n)) (ysF (land n))
  refine ⟨N, fun y hy => ⟨_, getB_in g hy⟩, w_ok g hn, A, ?_, ?_, fun s hs => ?_, fun hno => ?_⟩
  · rw [com_eq, ← hio]
    exact land_com n hn _ hp
  · have h1 := land_fp n hn _ hp
    have h2 : (facPairs (land n) (plugged (land n) (bsOf bm n))).isEmpty = !(allIt bm (waysS n) N).2.isSome := by
      rw [← hio]
      exact h1
    rw [h2]
    cases (allIt bm (waysS n) N).2 <;> rfl
  · obtain ⟨a, k⟩ := stuck_some g hn N s (Nat.le_refl _) A hs
    have v := ((rows_ok g hn N).v s a).1
    exact ⟨tell_ok g hn v, (stuckF_iff g hn v).mpr k, refused_once g hn v k⟩
  · refine ⟨due_eq g A hn, ?_⟩
    have hne : (allIt bm (waysS n) N).1 ≠ [] := by
      obtain ⟨r, hr, _⟩ := reach_nil (n := n) (N := N) (bm := bm)
      exact fun e => by rw [e] at hr; exact nomatch hr
    obtain ⟨s, hs, e⟩ := last_at hne
    have v := ((rows_ok g hn N).v s hs).1
    refine ⟨s, e, tell_ok g hn v, ?_⟩
    cases q : stuckF (land n) (bsOf bm n) (sort3 (toldF s)) with
    | false => rfl
    | true => exact absurd ((stuckF_iff g hn v).mp q) (stuck_none g hn A hno hs)
end
theorem all_math (p : Pot) (hg : good p) : ∃ N, MathOk (shapeF p).1 (booksF (shapeF p).1 (shapeF p).2).1 N := math_ok (books_good (shapeF_lt p) (shape_good hg)) (shapeF_lt p)
end Lk
set_option maxRecDepth 100000 in
set_option maxHeartbeats 8000000 in
theorem PySem.Challenge.cw_lanekeepers_k01_whole_all_stands_of_smal_holds : PySem.Challenge.rw_lanekeepers_k01_whole_all_stands_of_smal.Holds := by
  exact Lk.holds_of Lk.all_math
