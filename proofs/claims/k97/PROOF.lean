import PyProof.Rows.All
import Wide.All
import OpenK.AllK
import Wide.FinOn
import HandS.ForMost
import HandS.Defaults
import HandS.HeadHook4
import PySem.Challenge.RW_quiltward_k97_whole_halving
import KE.KDictKeyed
import KE.KDictSum
import KE.SortKeyHeap
import HandS.Deep
import HandS.Conv
import PyProof.Rows.SeqRoads
import HandS.DictComp
import PyProof.DictCompW
import HandS.Lambda
import HandS.IsInst
import HandS.SortInts
import HandS.Flow
import HandS.TupLe
import KE.KStateDown
import HandS.Head0
import HandS.Head1
import HandS.Head2
import HandS.HeadWalk
set_option Elab.async false
set_option linter.all false
set_option maxRecDepth 100000
/-! The text by places. -/
namespace K97
open PySem L2
def top (i : Nat) : Stmt := PySem.Challenge.pw_quiltward_k97_whole_halving.main.body.getD i (.Pass ⟨0, 0, 0, 0⟩)
abbrev sFileOf : Stmt := top 1
abbrev sLinesOf : Stmt := top 2
abbrev sOldsOf : Stmt := top 3
abbrev sVerticesOf : Stmt := top 4
abbrev sVertexNeeds : Stmt := top 5
abbrev sBacks : Stmt := top 6
abbrev sNeeds : Stmt := top 7
abbrev sAllNeeds : Stmt := top 9
abbrev sNewIds : Stmt := top 11
abbrev sNeededNew : Stmt := top 12
abbrev sPicksBetween : Stmt := top 13
abbrev sPartsBetween : Stmt := top 14
abbrev sCausesBetween : Stmt := top 15
abbrev sIsBad : Stmt := top 16
abbrev sMarks : Stmt := top 17
abbrev sPlan : Stmt := top 19
abbrev sPlanFor : Stmt := top 20
abbrev sDepth : Stmt := top 21
abbrev sPlanRight : Stmt := top 22
abbrev sLState : Stmt := top 24
abbrev sLDraw : Stmt := top 25
abbrev sLPick : Stmt := top 26
abbrev sLSome : Stmt := top 27
abbrev sLPath : Stmt := top 28
abbrev sLChange : Stmt := top 29
abbrev sLPatchwork : Stmt := top 30
abbrev sLNeeds : Stmt := top 31
abbrev sLDict : Stmt := top 33
abbrev sLAllBelow : Stmt := top 34
abbrev sLBetween : Stmt := top 35
abbrev sLBad : Stmt := top 38
abbrev sLaw : Stmt := top 39
abbrev sPInit : Stmt := inClass (top 18) 0
abbrev sPSides : Stmt := inClass (top 18) 1
abbrev sPSplits : Stmt := inClass (top 18) 2
abbrev sPBest : Stmt := inClass (top 18) 3
/-- a def of the text as it stands behind the top -/
abbrev DefAt (K : PySem.W.Frag) (x qual : Str) (st : Stmt) (f : Addr) (fd : FuncData) : Prop := FunD K x qual (defArgs st) (defBody st) (defScope st) [] [] f fd
def dFileOf : He.DefD := ⟨("file_of", none), "file_of", "file_of", defArgs sFileOf, defBody sFileOf, defScope sFileOf, [], []⟩
def dLinesOf : He.DefD := ⟨("lines_of", none), "lines_of", "lines_of", defArgs sLinesOf, defBody sLinesOf, defScope sLinesOf, [], []⟩
def dOldsOf : He.DefD := ⟨("olds_of", none), "olds_of", "olds_of", defArgs sOldsOf, defBody sOldsOf, defScope sOldsOf, [], []⟩
def dVerticesOf : He.DefD := ⟨("vertices_of", none), "vertices_of", "vertices_of", defArgs sVerticesOf, defBody sVerticesOf, defScope sVerticesOf, [], []⟩
def dVertexNeeds : He.DefD := ⟨("vertex_needs", none), "vertex_needs", "vertex_needs", defArgs sVertexNeeds, defBody sVertexNeeds, defScope sVertexNeeds, [], []⟩
def dBacks : He.DefD := ⟨("backs", none), "backs", "backs", defArgs sBacks, defBody sBacks, defScope sBacks, [], []⟩
def dNeeds : He.DefD := ⟨("needs", none), "needs", "needs", defArgs sNeeds, defBody sNeeds, defScope sNeeds, [], []⟩
def dAllNeeds : He.DefD := ⟨("all_needs", none), "all_needs", "all_needs", defArgs sAllNeeds, defBody sAllNeeds, defScope sAllNeeds, [], []⟩
def dNewIds : He.DefD := ⟨("new_ids", none), "new_ids", "new_ids", defArgs sNewIds, defBody sNewIds, defScope sNewIds, [], []⟩
def dNeededNew : He.DefD := ⟨("needed_new", none), "needed_new", "needed_new", defArgs sNeededNew, defBody sNeededNew, defScope sNeededNew, [], []⟩
def dPicksBetween : He.DefD := ⟨("picks_between", none), "picks_between", "picks_between", defArgs sPicksBetween, defBody sPicksBetween, defScope sPicksBetween, [], []⟩
def dPartsBetween : He.DefD := ⟨("parts_between", none), "parts_between", "parts_between", defArgs sPartsBetween, defBody sPartsBetween, defScope sPartsBetween, [], []⟩
def dCausesBetween : He.DefD := ⟨("causes_between", none), "causes_between", "causes_between", defArgs sCausesBetween, defBody sCausesBetween, defScope sCausesBetween, [], []⟩
def dIsBad : He.DefD := ⟨("is_bad", none), "is_bad", "is_bad", defArgs sIsBad, defBody sIsBad, defScope sIsBad, [], []⟩
def dMarks : He.DefD := ⟨("marks", none), "marks", "marks", defArgs sMarks, defBody sMarks, defScope sMarks, [], []⟩
def dPlan : He.DefD := ⟨("plan", none), "plan", "plan", defArgs sPlan, defBody sPlan, defScope sPlan, [], []⟩
def dPlanFor : He.DefD := ⟨("plan_for", none), "plan_for", "plan_for", defArgs sPlanFor, defBody sPlanFor, defScope sPlanFor, [], []⟩
def dDepth : He.DefD := ⟨("depth", none), "depth", "depth", defArgs sDepth, defBody sDepth, defScope sDepth, [], []⟩
def dPlanRight : He.DefD := ⟨("plan_right", none), "plan_right", "plan_right", defArgs sPlanRight, defBody sPlanRight, defScope sPlanRight, [], []⟩
def dLState : He.DefD := ⟨("_law_state", none), "_law_state", "_law_state", defArgs sLState, defBody sLState, defScope sLState, [], []⟩
def dLDraw : He.DefD := ⟨("_law_draw", none), "_law_draw", "_law_draw", defArgs sLDraw, defBody sLDraw, defScope sLDraw, [], []⟩
def dLPick : He.DefD := ⟨("_law_pick", none), "_law_pick", "_law_pick", defArgs sLPick, defBody sLPick, defScope sLPick, [], []⟩
def dLSome : He.DefD := ⟨("_law_some", none), "_law_some", "_law_some", defArgs sLSome, defBody sLSome, defScope sLSome, [], []⟩
def dLPath : He.DefD := ⟨("_law_path", none), "_law_path", "_law_path", defArgs sLPath, defBody sLPath, defScope sLPath, [], []⟩
def dLChange : He.DefD := ⟨("_law_change", none), "_law_change", "_law_change", defArgs sLChange, defBody sLChange, defScope sLChange, [], []⟩
def dLPatchwork : He.DefD := ⟨("_law_patchwork", none), "_law_patchwork", "_law_patchwork", defArgs sLPatchwork, defBody sLPatchwork, defScope sLPatchwork, [], []⟩
def dLNeeds : He.DefD := ⟨("_law_needs", none), "_law_needs", "_law_needs", defArgs sLNeeds, defBody sLNeeds, defScope sLNeeds, [], []⟩
def dLDict : He.DefD := ⟨("_law_dict", none), "_law_dict", "_law_dict", defArgs sLDict, defBody sLDict, defScope sLDict, [], []⟩
def dLAllBelow : He.DefD := ⟨("_law_all_below", none), "_law_all_below", "_law_all_below", defArgs sLAllBelow, defBody sLAllBelow, defScope sLAllBelow, [], []⟩
def dLBetween : He.DefD := ⟨("_law_between", none), "_law_between", "_law_between", defArgs sLBetween, defBody sLBetween, defScope sLBetween, [], []⟩
def dLBad : He.DefD := ⟨("_law_bad", none), "_law_bad", "_law_bad", defArgs sLBad, defBody sLBad, defScope sLBad, [], []⟩
def dLaw : He.DefD := ⟨("law", none), "law", "law", defArgs sLaw, defBody sLaw, defScope sLaw, [], []⟩
def dPInit : He.DefD := ⟨("Planner", some "__init__"), "__init__", "Planner.__init__", defArgs sPInit, defBody sPInit, defScope sPInit, [], []⟩
def dPSides : He.DefD := ⟨("Planner", some "sides"), "sides", "Planner.sides", defArgs sPSides, defBody sPSides, defScope sPSides, [], []⟩
def dPSplits : He.DefD := ⟨("Planner", some "splits"), "splits", "Planner.splits", defArgs sPSplits, defBody sPSplits, defScope sPSplits, [], []⟩
def dPBest : He.DefD := ⟨("Planner", some "best"), "best", "Planner.best", defArgs sPBest, defBody sPBest, defScope sPBest, [], []⟩
def fnsA : List He.DefD := [dFileOf, dLinesOf, dOldsOf, dVerticesOf, dVertexNeeds, dBacks, dNeeds, dAllNeeds, dNewIds, dNeededNew, dPicksBetween, dPartsBetween, dCausesBetween, dIsBad, dMarks, dPlan, dPlanFor, dDepth]
def fnsB : List He.DefD := [dPlanRight, dLState, dLDraw, dLPick, dLSome, dLPath, dLChange, dLPatchwork, dLNeeds, dLDict, dLAllBelow, dLBetween, dLBad, dLaw, dPInit, dPSides, dPSplits, dPBest]
def fns : List He.DefD := fnsA ++ fnsB
def faA : List He.Fa := [.glo "file_of", .glo "lines_of", .glo "olds_of", .glo "vertices_of", .glo "vertex_needs", .glo "backs", .glo "needs", .glo "all_needs", .glo "new_ids", .glo "needed_new", .glo "picks_between", .glo "parts_between", .glo "causes_between", .glo "is_bad", .glo "marks", .glo "plan", .glo "plan_for", .glo "depth", .glo "plan_right", .glo "_law_state", .glo "_law_draw", .glo "_law_pick", .glo "_law_some", .glo "_law_path", .glo "_law_change", .glo "_law_patchwork", .glo "_law_needs", .glo "_law_dict", .glo "_law_all_below", .glo "_law_between", .glo "_law_bad", .glo "law"]
def faB : List He.Fa := [.free "len", .free "sorted", .free "list", .free "tuple", .free "range", .free "max", .free "int", .free "abs", .free "isinstance", .glo "Planner", .cls "Planner", .noat "Planner" "rows", .noat "Planner" "known", .meth "Planner" "sides", .meth "Planner" "splits", .meth "Planner" "best", .mkr "Planner"]
def fas : List He.Fa := faA ++ faB
def looseA : List PySem.Str := ["file_of", "lines_of", "olds_of", "vertices_of", "vertex_needs", "backs", "needs", "all_needs", "new_ids", "needed_new", "picks_between", "parts_between", "causes_between", "is_bad", "marks", "plan", "plan_for", "depth", "plan_right", "_law_state"]
def looseB : List PySem.Str := ["_law_draw", "_law_pick", "_law_some", "_law_path", "_law_change", "_law_patchwork", "_law_needs", "_law_dict", "_law_all_below", "_law_between", "_law_bad", "_law_other_order", "_law_parts", "_law_causes", "Planner"]
def loose : List PySem.Str := looseA ++ looseB
end K97
set_option Elab.async false
set_option linter.all false
set_option maxRecDepth 100000
set_option maxHeartbeats 4000000
/-! Nested data told by the tracked tuples; dicts whose keys are such. -/
namespace K97
open PySem PySem.Spec PyProof.Rows L2

/-! ### nested data -/
mutual
/-- v is the nested datum, by tracked tuples -/
def TD (H : Hp) : NestedKey → V → Prop
  | .none, v => v = .non
  | .num i, v => v = .int i
  | .text x, v => v = .str x
  | .tup ks, v => ∃ a vs, v = .ref a ∧ H a = some (.tup vs) ∧ TDs H ks vs
def TDs (H : Hp) : List NestedKey → List V → Prop
  | [], vs => vs = []
  | k :: ks, vs => ∃ v r, vs = v :: r ∧ TD H k v ∧ TDs H ks r
end
/-- the tuples of H stand in H' -/
def Tk (H H' : Hp) : Prop := ∀ b xs, H b = some (.tup xs) → H' b = some (.tup xs)
theorem Tk.refl (H : Hp) : Tk H H := fun _ _ h => h
theorem Tk.trans {H H1 H2 : Hp} (a : Tk H H1) (b : Tk H1 H2) : Tk H H2 := fun c xs h => b c xs (a c xs h)
theorem Tk.of_same {H H' : Hp} (s : Same H H') : Tk H H' := fun b xs h => s b _ h
theorem Tk.new {H : Hp} {p : Addr} {o : HO} (n : H p = none) : Tk H (upd H p o) := fun b xs h => by
  rw [upd_ne (ne_of_none h n)]; exact h
theorem Tk.put {H : Hp} {p : Addr} {o u : HO} (e : H p = some u) (d : ∀ xs, u ≠ .tup xs) : Tk H (upd H p o) := fun b xs h => by
  rw [upd_ne (ne_of h e fun z => d xs z.symm)]; exact h
mutual
theorem TD.tk {H H' : Hp} (s : Tk H H') : ∀ (k : NestedKey) (v : V), TD H k v → TD H' k v
  | .none, v, h => h
  | .num i, v, h => h
  | .text x, v, h => h
  | .tup ks, v, h => by
    obtain ⟨a, vs, e, ha, hs⟩ := h
    exact ⟨a, vs, e, s _ _ ha, TDs.tk s ks vs hs⟩
theorem TDs.tk {H H' : Hp} (s : Tk H H') : ∀ (ks : List NestedKey) (vs : List V), TDs H ks vs → TDs H' ks vs
  | [], vs, h => h
  | k :: ks, vs, h => by
    obtain ⟨v, r, e, h1, h2⟩ := h
    exact ⟨v, r, e, TD.tk s k v h1, TDs.tk s ks r h2⟩
end
mutual
theorem TD.is {P : Program} {w : World} {H : Hp} {h : Heap} (ok : HOk P w H h) : ∀ (k : NestedKey) (v : V) (u : Value), TD H k v → RelV v u → NestedIs h k u
  | .none, v, u, e, r => by
    have e : v = .non := e
    subst e
    obtain rfl : u = Value.none := r
    exact .none
  | .num i, v, u, e, r => by
    have e : v = .int i := e
    subst e
    obtain ⟨t, rfl⟩ := r
    exact .int i t
  | .text x, v, u, e, r => by
    have e : v = .str x := e
    subst e
    obtain ⟨t, rfl⟩ := r
    exact .text x t
  | .tup ks, v, u, e, r => by
    obtain ⟨a, vs, rfl, ha, hs⟩ := e
    obtain rfl : u = Value.ref a := r
    obtain ⟨z, its, rv, o, ho, hc, n, hd⟩ := (show ObjOk P w H h a (.tup vs) from ok a _ ha)
    exact .tup ho hc hd (by simpa using TDs.is ok ks vs its hs rv)
theorem TDs.is {P : Program} {w : World} {H : Hp} {h : Heap} (ok : HOk P w H h) : ∀ (ks : List NestedKey) (vs : List V) (us : List Value), TDs H ks vs → Vals vs us → NestedAll h ks us
  | [], vs, us, e, r => by
    have e : vs = [] := e
    subst e
    cases r
    exact .nil
  | k :: ks, vs, us, e, r => by
    obtain ⟨v, q, rfl, h1, h2⟩ := e
    cases r with
    | cons r1 r2 => exact .cons (TD.is ok k v _ h1 r1) (TDs.is ok ks q _ h2 r2)
end
mutual
theorem TD.reads {P : Program} {w : World} {H : Hp} {h : Heap} (ok : HOk P w H h) : ∀ (k : NestedKey) (v : V) (u : Value), TD H k v → RelV v u → Reads h u k.data []
  | .none, v, u, e, r => by
    have e : v = .non := e
    subst e
    obtain rfl : u = Value.none := r
    exact .none
  | .num i, v, u, e, r => by
    have e : v = .int i := e
    subst e
    obtain ⟨t, rfl⟩ := r
    exact .int i t
  | .text x, v, u, e, r => by
    have e : v = .str x := e
    subst e
    obtain ⟨t, rfl⟩ := r
    exact .str x t
  | .tup ks, v, u, e, r => by
    obtain ⟨a, vs, rfl, ha, hs⟩ := e
    obtain rfl : u = Value.ref a := r
    obtain ⟨z, its, rv, o, ho, hc, n, hd⟩ := (show ObjOk P w H h a (.tup vs) from ok a _ ha)
    exact .tuple ho hc hd (by simpa using TDs.reads ok ks vs its hs rv)
theorem TDs.reads {P : Program} {w : World} {H : Hp} {h : Heap} (ok : HOk P w H h) : ∀ (ks : List NestedKey) (vs : List V) (us : List Value), TDs H ks vs → Vals vs us → ReadsAll h us (NestedKey.datas ks) []
  | [], vs, us, e, r => by
    have e : vs = [] := e
    subst e
    cases r
    exact .nil
  | k :: ks, vs, us, e, r => by
    obtain ⟨v, q, rfl, h1, h2⟩ := e
    cases r with
    | cons r1 r2 => exact ReadsAll.cons (as := []) (bs := []) (TD.reads ok k v _ h1 r1) (TDs.reads ok ks q _ h2 r2)
end
mutual
theorem TD.dp {K : PySem.W.Frag} {H : Hp} : ∀ (k : NestedKey) (v : V), TD H k v → Dp K H v k.data
  | .none, v, e => by
    have e : v = .non := e
    subst e
    exact .non
  | .num i, v, e => by
    have e : v = .int i := e
    subst e
    exact .int i
  | .text x, v, e => by
    have e : v = .str x := e
    subst e
    exact .str x
  | .tup ks, v, e => by
    obtain ⟨a, vs, rfl, ha, hs⟩ := e
    exact .tup (SqT.of ha) (TDs.dp ks vs hs)
theorem TDs.dp {K : PySem.W.Frag} {H : Hp} : ∀ (ks : List NestedKey) (vs : List V), TDs H ks vs → DpAll K H vs (NestedKey.datas ks)
  | [], vs, e => by
    have e : vs = [] := e
    subst e
    exact .nil
  | k :: ks, vs, e => by
    obtain ⟨v, q, rfl, h1, h2⟩ := e
    exact .cons (TD.dp k v h1) (TDs.dp ks q h2)
end
mutual
theorem eqv_data : ∀ a b : NestedKey, PyData.eqv a.data b.data = NestedKey.beq a b
  | .none, b => by cases b <;> simp [NestedKey.data, NestedKey.beq, PyData.eqv]
  | .num i, b => by
    cases b <;> simp [NestedKey.data, NestedKey.beq, PyData.eqv, Bool.beq_eq_decide_eq]
  | .text x, b => by
    cases b <;> simp [NestedKey.data, NestedKey.beq, PyData.eqv, Bool.beq_eq_decide_eq]
  | .tup ks, b => by
    cases b with
    | tup ls =>
      simp only [NestedKey.data, NestedKey.beq, PyData.eqv]
      exact eqv_datas ks ls
    | _ => simp [NestedKey.data, NestedKey.beq, PyData.eqv]
theorem eqv_datas : ∀ as bs : List NestedKey, PyData.eqvAll (NestedKey.datas as) (NestedKey.datas bs) = NestedKey.beqAll as bs
  | [], [] => by simp [NestedKey.datas, NestedKey.beqAll, PyData.eqvAll]
  | [], _ :: _ => by simp [NestedKey.datas, NestedKey.beqAll, PyData.eqvAll]
  | _ :: _, [] => by simp [NestedKey.datas, NestedKey.beqAll, PyData.eqvAll]
  | a :: as, b :: bs => by
    simp only [NestedKey.datas, NestedKey.beqAll, PyData.eqvAll]
    rw [eqv_data a b, eqv_datas as bs]
end
theorem eqv_dec (a b : NestedKey) : PyData.eqv a.data b.data = decide (a = b) := by rw [eqv_data, ← NestedKey.decide_eq]
theorem datas_map : ∀ ks : List NestedKey, NestedKey.datas ks = ks.map NestedKey.data
  | [] => rfl
  | k :: ks => by rw [NestedKey.datas, datas_map ks]; rfl
mutual
theorem depth_data : ∀ a : NestedKey, a.data.depth = a.depth
  | .none => by simp [NestedKey.data, PyData.depth, NestedKey.depth]
  | .num i => by simp [NestedKey.data, PyData.depth, NestedKey.depth]
  | .text x => by simp [NestedKey.data, PyData.depth, NestedKey.depth]
  | .tup ks => by
    have := depth_datas ks
    simp only [NestedKey.data, PyData.depth, NestedKey.depth]
    omega
theorem depth_datas : ∀ as : List NestedKey, PyData.depthAll (NestedKey.datas as) = NestedKey.depthAll as
  | [] => by simp [NestedKey.datas, PyData.depthAll, NestedKey.depthAll]
  | a :: as => by
    have h1 := depth_data a
    have h2 := depth_datas as
    simp only [NestedKey.datas, PyData.depthAll, NestedKey.depthAll]
    omega
end
theorem shaped_data {a : NestedKey} (l : a.data.canLay0 = true) (h : a.depth ≤ 64) : SeqAt.shaped a.data = true := by
  show (a.data.canLay0 && decide (a.data.depth ≤ 64)) = true
  rw [Bool.and_eq_true]
  exact ⟨l, decide_eq_true (by rw [depth_data]; exact h)⟩

/-! ### rows of data -/
/-- each value is the datum's code -/
def EV {α : Type} (H : Hp) (enc : α → NestedKey) : List V → List α → Prop := Paired fun v x => TD H (enc x) v
section
variable {α : Type} {H H' : Hp} {enc : α → NestedKey} {vs us : List V} {xs ys : List α}
theorem EV.tk (s : Tk H H') (h : EV H enc vs xs) : EV H' enc vs xs := Paired.mapP h fun v x q => TD.tk s _ _ q
theorem EV.length (h : EV H enc vs xs) : vs.length = xs.length := Paired.length h
theorem EV.app : ∀ {vs us : List V} {xs ys : List α}, EV H enc vs xs → EV H enc us ys → EV H enc (vs ++ us) (xs ++ ys)
  | _, _, _, _, .nil, q => q
  | _, _, _, _, .cons r t, q => .cons r (EV.app t q)
theorem EV.snoc {v : V} {x : α} (h : EV H enc vs xs) (q : TD H (enc x) v) : EV H enc (vs ++ [v]) (xs ++ [x]) := Paired.snoc h q
theorem EV.get {i : Nat} {v : V} : ∀ {vs : List V} {xs : List α} {i : Nat}, EV H enc vs xs → vs[i]? = some v → ∃ x, xs[i]? = some x ∧ TD H (enc x) v
  | _, _, _, .nil, e => by simp at e
  | _, _, 0, .cons r t, e => by
    simp at e
    subst e
    exact ⟨_, rfl, r⟩
  | _, _, i + 1, .cons r t, e => by
    obtain ⟨x, h1, h2⟩ := EV.get (i := i) t (by simpa using e)
    exact ⟨x, by simpa using h1, h2⟩
theorem EV.getx {x : α} : ∀ {vs : List V} {xs : List α} {i : Nat}, EV H enc vs xs → xs[i]? = some x → ∃ v, vs[i]? = some v ∧ TD H (enc x) v
  | _, _, _, .nil, e => by simp at e
  | _, _, 0, .cons r t, e => by
    simp at e
    subst e
    exact ⟨_, rfl, r⟩
  | _, _, i + 1, .cons r t, e => by
    obtain ⟨x, h1, h2⟩ := EV.getx (i := i) t (by simpa using e)
    exact ⟨x, by simpa using h1, h2⟩
theorem EV.dp {K : PySem.W.Frag} : ∀ {vs : List V} {xs : List α}, EV H enc vs xs → DpAll K H vs (xs.map fun x => (enc x).data)
  | _, _, .nil => .nil
  | _, _, .cons r t => .cons (TD.dp _ _ r) (EV.dp t)
theorem EV.tds : ∀ {vs : List V} {xs : List α}, EV H enc vs xs → TDs H (xs.map enc) vs
  | _, _, .nil => rfl
  | _, _, .cons r t => ⟨_, _, rfl, r, EV.tds t⟩
theorem EV.of_tds : ∀ {vs : List V} {xs : List α}, TDs H (xs.map enc) vs → EV H enc vs xs
  | vs, [], h => by
    have h : vs = [] := h
    subst h
    exact .nil
  | vs, x :: xs, h => by
    obtain ⟨v, r, rfl, h1, h2⟩ := h
    exact .cons h1 (EV.of_tds h2)
theorem EV.take : ∀ (n : Nat) {vs : List V} {xs : List α}, EV H enc vs xs → EV H enc (vs.take n) (xs.take n)
  | 0, _, _, _ => .nil
  | _ + 1, _, _, .nil => .nil
  | n + 1, _, _, .cons r t => .cons r (EV.take n t)
theorem EV.drop : ∀ (n : Nat) {vs : List V} {xs : List α}, EV H enc vs xs → EV H enc (vs.drop n) (xs.drop n)
  | 0, _, _, h => h
  | _ + 1, _, _, .nil => .nil
  | n + 1, _, _, .cons r t => EV.drop n t
end
/-- x in xs, x not in xs, by the data (codes that tell data apart) -/
theorem any_dec {α : Type} [DecidableEq α] {enc : α → NestedKey} (inj : ∀ a b, enc a = enc b → a = b) (x : α) : ∀ xs : List α, ((xs.map fun y => (enc y).data).any fun z => PyData.eqv z (enc x).data) = decide (x ∈ xs)
  | [] => by simp
  | y :: ys => by
    rw [List.map_cons, List.any_cons, any_dec inj x ys, eqv_dec]
    by_cases h : y = x
    · subst h
      simp
    · have h1 : ¬ enc y = enc x := fun e => h (inj _ _ e)
      have h2 : ¬ x = y := fun e => h e.symm
      simp [h1, h2]
/-- codes that tell data apart, of a small depth -/
structure Code {α : Type} (enc : α → NestedKey) : Prop where
  inj : ∀ a b, enc a = enc b → a = b
  dep : ∀ x : α, (enc x).depth ≤ 8
  lay : ∀ x : α, (enc x).data.canLay0 = true
section
variable {X : Cx} {α : Type} [DecidableEq α] {enc : α → NestedKey}
/-- x in l, the list's items data of one code -/
def rInE (K : PySem.W.Frag) (enc : α → NestedKey) (neg : Bool) : R2 := fun y z H Q => ∃ (l : Addr) (vs : List V) (xs : List α) (x : α), z = .ref l ∧ SqL K H l vs ∧ EV H enc vs xs ∧ TD H (enc x) y ∧ Q (.bl (if neg then !decide (x ∈ xs) else decide (x ∈ xs))) H
theorem depthAll_le {n : Nat} (hd : ∀ x : α, (enc x).depth ≤ n) : ∀ xs : List α, PyData.depthAll (xs.map fun x => (enc x).data) ≤ n
  | [] => by simp [PyData.depthAll]
  | x :: xs => by
    have h1 := hd x
    have h2 := depthAll_le hd xs
    have h3 := depth_data (enc x)
    simp only [List.map_cons, PyData.depthAll]
    omega
theorem layAll (hl : ∀ x : α, (enc x).data.canLay0 = true) : ∀ xs : List α, PyData.canLayAll0 (xs.map fun x => (enc x).data) = true
  | [] => by simp [PyData.canLayAll0]
  | x :: xs => by simp [PyData.canLayAll0, hl x, layAll hl xs]
theorem shaped_list (C : Code enc) (xs : List α) : SeqAt.shaped (.list (xs.map fun x => (enc x).data)) = true := by
  have h1 := depthAll_le C.dep xs
  have h2 : PyData.depth (.list (xs.map fun x => (enc x).data)) ≤ 64 := by
    simp only [PyData.depth]
    omega
  show (PyData.canLay0 (.list (xs.map fun x => (enc x).data)) && decide (PyData.depth (.list (xs.map fun x => (enc x).data)) ≤ 64)) = true
  rw [Bool.and_eq_true]
  exact ⟨by simp only [PyData.canLay0]; exact layAll C.lay xs, decide_eq_true h2⟩
theorem op_inE (hu : X.A.units + 65 < cLine) (C : Code enc) : OpR X (compareOp .In) (rInE X.K enc false) := by
  intro pins s σ H y z v u Q I ry rz h
  obtain ⟨l, vs, xs, x, rfl, hl, he, hx, q⟩ := h
  refine op_inD hu pins s σ H y (.ref l) v u Q I ry rz ⟨_, _, TD.dp _ _ hx, .lst hl he.dp, shaped_data (C.lay x) (Nat.le_trans (C.dep x) (by decide)), shaped_list C xs, ?_⟩
  rw [any_dec C.inj]
  exact q
theorem op_notInE (hu : X.A.units + 65 < cLine) (C : Code enc) : OpR X (compareOp .NotIn) (rInE X.K enc true) := by
  intro pins s σ H y z v u Q I ry rz h
  obtain ⟨l, vs, xs, x, rfl, hl, he, hx, q⟩ := h
  refine op_notInD hu pins s σ H y (.ref l) v u Q I ry rz ⟨_, _, TD.dp _ _ hx, .lst hl he.dp, shaped_data (C.lay x) (Nat.le_trans (C.dep x) (by decide)), shaped_list C xs, ?_⟩
  rw [any_dec C.inj]
  exact q
/-- x == y, x != y -/
def rEqE (enc : α → NestedKey) (neg : Bool) : R2 := fun y z H Q => ∃ (a b : α), TD H (enc a) y ∧ TD H (enc b) z ∧ Q (.bl (if neg then !decide (a = b) else decide (a = b))) H
theorem dec_enc (inj : ∀ a b, enc a = enc b → a = b) (a b : α) : PyData.eqv (enc a).data (enc b).data = decide (a = b) := by
  rw [eqv_dec]
  by_cases h : a = b
  · subst h; simp
  · rw [decide_eq_false h, decide_eq_false fun e => h (inj _ _ e)]
theorem op_neE (hu : X.A.units + 64 < cLine) (C : Code enc) : OpR X (compareOp .NotEq) (rEqE enc true) := by
  intro pins s σ H y z v u Q I ry rz h
  obtain ⟨a, b, ha, hb, q⟩ := h
  refine op_neD hu pins s σ H y z v u Q I ry rz ⟨_, _, TD.dp _ _ ha, TD.dp _ _ hb, shaped_data (C.lay a) (Nat.le_trans (C.dep a) (by decide)), shaped_data (C.lay b) (Nat.le_trans (C.dep b) (by decide)), ?_⟩
  rw [dec_enc C.inj]
  exact q
end
end K97
set_option Elab.async false
set_option linter.all false
set_option maxRecDepth 100000
set_option maxHeartbeats 4000000
/-! Dicts whose keys are nested tuples, as tracked objects. -/
namespace K97
open PySem PySem.Spec PyProof.Rows L2

abbrev Ent : Type := NestedKey × Addr × Value
def entN (w : World) (x : Ent) : DictEntry := ⟨x.1.hash w, .ref x.2.1, x.2.2⟩
/-- the dict's own object: its entries, in order -/
def ndO (w : World) (d : Addr) (xs : List Ent) : HO := .ext fun h => ∃ o es ep, h.get? d = some o ∧ o.ExactDict ∧ o.data = .dict es ep ∧ es.toList = xs.map (entN w)
theorem ndO_ne {w : World} {d : Addr} {xs : List Ent} (ys : List V) : ndO w d xs ≠ .tup ys := fun z => by
  unfold ndO at z
  cases z
section
variable {κ : Type} [DecidableEq κ]
/-- the entries xs stand for the pairs kvs -/
structure NDat (H : Hp) (enc : κ → NestedKey) (kvs : List (κ × V)) (xs : List Ent) : Prop where
  rel : Paired (fun (p : κ × V) (q : Ent) => q.1 = enc p.1 ∧ TD H (enc p.1) (.ref q.2.1) ∧ RelV p.2 q.2.2) kvs xs
  nd : (xs.map (·.1)).Nodup
  dep : ∀ x ∈ xs, x.1.depth ≤ 8
  sz : kvs.length ≤ sizeLine
/-- at d stands a dict with the pairs kvs: to be read, to be written -/
def NDr (w : World) (H : Hp) (enc : κ → NestedKey) (d : Addr) (kvs : List (κ × V)) : Prop := (d == sysModules) = false ∧ ∃ xs, Rd H d (ndO w d xs) ∧ NDat H enc kvs xs
def ND (w : World) (H : Hp) (enc : κ → NestedKey) (d : Addr) (kvs : List (κ × V)) : Prop := (d == sysModules) = false ∧ ∃ xs, H d = some (ndO w d xs) ∧ NDat H enc kvs xs
/-- all but d is as it was -/
def But (d : Addr) (H H' : Hp) : Prop := ∀ b, b ≠ d → H' b = H b
theorem But.of {d : Addr} {H : Hp} {o : HO} : But d H (upd H d o) := fun b h => upd_ne h
variable {w : World} {H H' : Hp} {enc : κ → NestedKey} {d : Addr} {kvs : List (κ × V)} {xs : List Ent}
theorem ND.r (h : ND w H enc d kvs) : NDr w H enc d kvs := let ⟨a, xs, b, c⟩ := h; ⟨a, xs, .inl b, c⟩
theorem ND.there (h : ND w H enc d kvs) : ∃ xs, H d = some (ndO w d xs) := let ⟨_, xs, b, _⟩ := h; ⟨xs, b⟩
theorem ND.some_ (h : ND w H enc d kvs) : H d ≠ none := fun z => by
  obtain ⟨_, e⟩ := h.there
  rw [z] at e
  cases e
theorem NDat.tk (s : Tk H H') (x : NDat H enc kvs xs) : NDat H' enc kvs xs := ⟨Paired.mapP x.rel fun _ _ z => ⟨z.1, TD.tk s _ _ z.2.1, z.2.2⟩, x.nd, x.dep, x.sz⟩
theorem ND.tk (s : Tk H H') (e : H' d = H d) (h : ND w H enc d kvs) : ND w H' enc d kvs := let ⟨a, xs, b, c⟩ := h; ⟨a, xs, e.trans b, c.tk s⟩
theorem ND.same (s : Same H H') (h : ND w H enc d kvs) : ND w H' enc d kvs := let ⟨a, xs, b, c⟩ := h; ⟨a, xs, s _ _ b, c.tk (Tk.of_same s)⟩
theorem ND.sz (h : ND w H enc d kvs) : kvs.length ≤ sizeLine := let ⟨_, _, _, c⟩ := h; c.sz
theorem NDat.val (C : Code enc) (x : NDat H enc kvs xs) (k : κ) : RelO (valV kvs k) ((atKey xs (enc k)).map (·.2)) := by
  have r := x.rel
  clear x
  induction r with
  | nil => exact True.intro
  | @cons p q ps qs h t ih =>
    obtain ⟨h1, _, h2⟩ := h
    by_cases e : p.1 = k
    · have e' : q.1 = enc k := by rw [h1, e]
      have b : atKey (q :: qs) (enc k) = some q.2 := by simp [atKey, List.find?_cons, e']
      rw [valV_pos e, b]
      exact h2
    · have e' : ¬ q.1 = enc k := fun z => e (C.inj _ _ (h1.symm.trans z))
      have b : atKey (q :: qs) (enc k) = atKey qs (enc k) := by simp [atKey, List.find?_cons, e']
      rw [valV_neg e, b]
      exact ih
theorem NDat.isSome (C : Code enc) (x : NDat H enc kvs xs) (k : κ) : (valV kvs k).isSome = (atKey xs (enc k)).isSome := by
  have q := (x.val C k).isSome_eq
  rw [Option.isSome_map] at q
  exact q
theorem rel_repl {P : κ × V → Ent → Prop} (C : Code enc) (k : κ) {y : V} {u : Value} : ∀ {kvs : List (κ × V)} {xs : List Ent},
    Paired (fun (p : κ × V) (q : Ent) => q.1 = enc p.1 ∧ TD H (enc p.1) (.ref q.2.1) ∧ RelV p.2 q.2.2) kvs xs → RelV y u →
    Paired (fun (p : κ × V) (q : Ent) => q.1 = enc p.1 ∧ TD H (enc p.1) (.ref q.2.1) ∧ RelV p.2 q.2.2) (kvs.map fun kv => if kv.1 = k then (kv.1, y) else kv) (xs.map (putAt (enc k) u))
  | _, _, .nil, _ => .nil
  | _, _, .cons (a := p) (b := q) h t, ry => by
    rw [List.map_cons, List.map_cons]
    refine .cons ?_ (rel_repl (P := P) C k t ry)
    obtain ⟨h1, h2, h3⟩ := h
    unfold putAt
    by_cases e : p.1 = k
    · rw [if_pos e, if_pos (show q.1 = enc k by rw [h1, e])]
      exact ⟨h1, h2, ry⟩
    · rw [if_neg e, if_neg (fun z => e (C.inj _ _ (h1.symm.trans z)))]
      exact ⟨h1, h2, h3⟩
theorem nodup_storedH {xs : List Ent} {k : NestedKey} {b : Addr} {u : Value} (n : (xs.map (·.1)).Nodup) : ((storedH xs k b u).map (·.1)).Nodup := by
  unfold storedH
  split
  · rw [keys_map_putAt]
    exact n
  · rename_i hn
    rw [List.map_append]
    refine List.nodup_append.mpr ⟨n, by simp, fun a ha c hc => ?_⟩
    have e : c = k := by simpa using hc
    rw [e]
    intro q
    rw [q] at ha
    obtain ⟨x, hx, ex⟩ := List.mem_map.mp ha
    apply hn
    unfold atKey
    rw [Option.isSome_map]
    rw [List.find?_isSome]
    exact ⟨x, hx, by simp [ex]⟩
theorem NDat.put (C : Code enc) (x : NDat H enc kvs xs) (k : κ) {b : Addr} {y : V} {u : Value} (hb : TD H (enc k) (.ref b)) (ry : RelV y u) (hz : kvs.length < sizeLine) : NDat H enc (putK kvs k y) (storedH xs (enc k) b u) := by
  have e : (kvs.any fun kv => decide (kv.1 = k)) = (atKey xs (enc k)).isSome := by rw [valV_any]; exact x.isSome C k
  refine ⟨?_, nodup_storedH x.nd, fun z hz' => ?_, by have := length_putK kvs k y; omega⟩
  · unfold putK storedH
    rw [e]
    by_cases q : (atKey xs (enc k)).isSome = true
    · rw [if_pos q, if_pos q]
      exact rel_repl (P := fun _ _ => True) C k x.rel ry
    · rw [if_neg q, if_neg q]
      exact Paired.snoc x.rel ⟨rfl, hb, ry⟩
  · unfold storedH at hz'
    split at hz'
    · obtain ⟨q, hq, eq⟩ := List.mem_map.mp hz'
      have h1 := x.dep q hq
      rw [← eq]
      unfold putAt
      split
      · exact h1
      · exact h1
    · rcases List.mem_append.mp hz' with q | q
      · exact x.dep _ q
      · have eq : z = (enc k, b, u) := by simpa using q
        rw [eq]
        exact C.dep k
end

section
variable {κ : Type} [DecidableEq κ] {X : Cx} {pins : List (Addr × Obj)} {σ : L2.St} {H : Hp} {s : Shared} {enc : κ → NestedKey} {d : Addr} {kvs : List (κ × V)} {k : κ} {y v : V} {u r : Value} {A : Around} {E : Value → Shared → Prop}
/-- codes that are tuples -/
structure TCode (enc : κ → NestedKey) : Prop extends Code enc where
  tup : ∀ x : κ, ∃ ks, enc x = .tup ks
theorem TCode.ref (C : TCode enc) {H : Hp} (h : TD H (enc k) y) : ∃ b, y = .ref b := by
  obtain ⟨ks, e⟩ := C.tup k
  rw [e] at h
  obtain ⟨a, vs, rfl, _⟩ := h
  exact ⟨a, rfl⟩
theorem nd_heap {P : Program} {w : World} {h : Heap} {xs : List Ent} (ok : HOk P w H h) (e : Rd H d (ndO w d xs)) (x : NDat H enc kvs xs) : h.DictOfH (nestedKind P w) d xs := by
  obtain ⟨⟨o, es, ep, h1, h2, h3, h4⟩, _, _⟩ := e.ok ok
  refine ⟨o, es, ep, h1, h2, h3, h4, fun z hz => ?_, x.nd⟩
  have all : ∀ {l : List (κ × V)} {m : List Ent}, Paired (fun (p : κ × V) (q : Ent) => q.1 = enc p.1 ∧ TD H (enc p.1) (.ref q.2.1) ∧ RelV p.2 q.2.2) l m → ∀ z ∈ m, NestedIs h z.1 (.ref z.2.1) := by
    intro l m q
    induction q with
    | nil =>
      intro z hz
      exact nomatch hz
    | @cons p q ps qs hq t ih =>
      intro z hz
      rcases List.mem_cons.mp hz with e | hz
      · subst e
        rw [hq.1]
        exact TD.is ok _ _ _ hq.2.1 rfl
      · exact ih z hz
  exact ⟨all x.rel z hz, x.dep z hz⟩
theorem nd_key (C : TCode enc) {P : Program} {w : World} {h : Heap} (ok : HOk P w H h) (hk : TD H (enc k) y) (ry : RelV y u) : ∃ b, y = .ref b ∧ u = .ref b ∧ (nestedKind P w).is h (enc k) b := by
  obtain ⟨b, rfl⟩ := C.ref hk
  obtain rfl : u = Value.ref b := ry
  exact ⟨b, rfl, rfl, TD.is ok _ _ _ hk rfl, C.dep k⟩
theorem nd_room (hu : A.units + 64 < cLine) : (nestedKind X.prog X.w).room A.in1 := by
  show A.units + 1 + 8 < cLine
  omega
theorem n_in {Q : Value → Shared → Prop} (C : TCode enc) (hu : A.units + 64 < cLine) (I : Inv X pins σ H s) (g : NDr X.w H enc d kvs) (hk : TD H (enc k) y) (ry : RelV y u) (h : ∀ s', Inv X pins σ H s' → Q (.bool (valV kvs k).isSome) s') :
    wpAny (model X.prog X.w) A (compareOp .In u (.ref d)) Q E s := by
  obtain ⟨hd, xs, e, x⟩ := g
  obtain ⟨b, rfl, rfl, kb⟩ := nd_key C I.hok hk ry
  refine wpAny_in_heap (nd_room hu) kb hd (nd_heap I.hok e x) ?_
  rw [← x.isSome C.toCode k]
  exact h _ (I.tok _)
theorem n_notIn {Q : Value → Shared → Prop} (C : TCode enc) (hu : A.units + 64 < cLine) (I : Inv X pins σ H s) (g : NDr X.w H enc d kvs) (hk : TD H (enc k) y) (ry : RelV y u) (h : ∀ s', Inv X pins σ H s' → Q (.bool (!(valV kvs k).isSome)) s') :
    wpAny (model X.prog X.w) A (compareOp .NotIn u (.ref d)) Q E s := by
  obtain ⟨hd, xs, e, x⟩ := g
  obtain ⟨b, rfl, rfl, kb⟩ := nd_key C I.hok hk ry
  refine wpAny_notIn_heap (nd_room hu) kb hd (nd_heap I.hok e x) ?_
  rw [← x.isSome C.toCode k]
  exact h _ (I.tok _)
theorem n_get {Q : Value → Shared → Prop} (C : TCode enc) (hu : A.units + 64 < cLine) (I : Inv X pins σ H s) (g : NDr X.w H enc d kvs) (hk : TD H (enc k) y) (ry : RelV y u) (hv : valV kvs k = some v) (h : ∀ w' s', Inv X pins σ H s' → RelV v w' → Q w' s') :
    wpAny (model X.prog X.w) A (getItem (.ref d) u) Q E s := by
  obtain ⟨hd, xs, e, x⟩ := g
  obtain ⟨b, rfl, rfl, kb⟩ := nd_key C I.hok hk ry
  obtain ⟨w', hw, rw'⟩ := RelO.some_of (v := v) (o := (atKey xs (enc k)).map (·.2)) (by rw [← hv]; exact x.val C.toCode k)
  obtain ⟨p, hp, hp2⟩ := Option.map_eq_some_iff.mp hw
  refine wpAny_getItem_heap (nd_room hu) kb (nd_heap I.hok e x) hp ?_
  rw [hp2]
  exact h w' _ (I.tok _) rw'
/-- behind a store -/
theorem nd_stored (C : TCode enc) {xs : List Ent} {h' : Heap} {t' : Nat} {b : Addr} (I : Inv X pins σ H s) (hd : (d == sysModules) = false) (e : H d = some (ndO X.w d xs)) (x : NDat H enc kvs xs) (hz : kvs.length < sizeLine) (hk : TD H (enc k) (.ref b)) (rv : RelV v r)
    (dd : h'.DictOfH (nestedKind X.prog X.w) d (storedH xs (enc k) b r)) (hs : Heap.SameBut d s.heap h') :
    ∃ H', Inv X pins σ H' { s with heap := h', toks := t' } ∧ But d H H' ∧ ND X.w H' enc d (putK kvs k v) := by
  obtain ⟨q, es, ep, hq, h2, h3, h4, _, h5⟩ := dd
  have tk : Tk H (upd H d (ndO X.w d (storedH xs (enc k) b r))) := Tk.put e fun ys => ndO_ne ys
  refine ⟨upd H d (ndO X.w d (storedH xs (enc k) b r)), d_write I (by rw [e]; exact True.intro) hs ⟨q, hq⟩ ⟨⟨q, es, ep, hq, h2, h3, h4⟩, ⟨q, hq⟩, fun h1 h2' ⟨o, es, ep, a1, a2, a3, a4⟩ st => ⟨o, es, ep, st _ a1, a2, a3, a4⟩⟩, But.of, hd, _, upd_same, (x.put C.toCode k hk rv hz).tk tk⟩
theorem n_put {Q : Unit → Shared → Prop} (C : TCode enc) (hu : A.units + 64 < cLine) (I : Inv X pins σ H s) (g : ND X.w H enc d kvs) (hz : kvs.length < sizeLine) (hk : TD H (enc k) y) (ry : RelV y u) (rv : RelV v r)
    (h : ∀ H' s', Inv X pins σ H' s' → But d H H' → ND X.w H' enc d (putK kvs k v) → Q () s') : wpAny (model X.prog X.w) A (setItem (.ref d) u r) Q E s := by
  obtain ⟨hd, xs, e, x⟩ := g
  obtain ⟨b, rfl, rfl, kb⟩ := nd_key C I.hok hk ry
  have hzx : xs.length ≤ sizeLine := by rw [← Paired.length x.rel]; exact x.sz
  refine wpAny_setItem_heap (hsz := hzx) (nd_room hu) kb (nd_heap I.hok (.inl e) x) fun h' dd hs => ?_
  obtain ⟨H', I', b', n'⟩ := nd_stored (t' := s.toks + (nestedKind X.prog X.w).draws (enc k)) C I hd e x hz hk rv dd hs
  exact h H' _ I' b' n'
theorem n_dictSet {Q : Unit → Shared → Prop} (C : TCode enc) (hu : A.units + 64 < cLine) (I : Inv X pins σ H s) (g : ND X.w H enc d kvs) (hz : kvs.length < sizeLine) (hk : TD H (enc k) y) (ry : RelV y u) (rv : RelV v r)
    (h : ∀ H' s', Inv X pins σ H' s' → But d H H' → ND X.w H' enc d (putK kvs k v) → Q () s') : wpAny (model X.prog X.w) A (dictSet d u r) Q E s := by
  obtain ⟨hd, xs, e, x⟩ := g
  obtain ⟨b, rfl, rfl, kb⟩ := nd_key C I.hok hk ry
  have hzx : xs.length ≤ sizeLine := by rw [← Paired.length x.rel]; exact x.sz
  refine wpAny_dictSet_heap (hsz := hzx) (show A.units + 8 < cLine by omega) kb (nd_heap I.hok (.inl e) x) fun h' dd hs => ?_
  obtain ⟨H', I', b', n'⟩ := nd_stored (t' := s.toks + (nestedKind X.prog X.w).draws (enc k)) C I hd e x hz hk rv dd hs
  exact h H' _ I' b' n'
theorem nd_raw {w : World} {P : Program} {h : Heap} (ok : HOk P w H h) (g : NDr w H enc d kvs) : ∃ es ep, h.DictRaw d es ep ∧ es.size = kvs.length := by
  obtain ⟨hd, xs, e, x⟩ := g
  obtain ⟨⟨o, es, ep, h1, h2, h3, h4⟩, _, _⟩ := e.ok ok
  refine ⟨es, ep, ⟨o, h1, h2, h3⟩, ?_⟩
  rw [← Array.length_toList, h4, List.length_map, Paired.length x.rel]
/-- a new empty dict -/
theorem nd_new (I : Inv X pins σ H s) : ∃ H', Inv X pins σ H' { s with heap := s.heap.push { cls := .type "dict", data := .dict #[] } } ∧ H s.heap.objs.size = none ∧ But s.heap.objs.size H H' ∧ ND X.w H' enc s.heap.objs.size [] :=
  ⟨upd H s.heap.objs.size (ndO X.w s.heap.objs.size []), I.laid (a := s.heap.objs.size) (t' := s.toks) (fun _ _ q => Heap.get?_push_of_some _ q) (Nat.le_refl _)
    ⟨⟨_, #[], 0, Heap.get?_push_size _ rfl, ⟨rfl, rfl, rfl⟩, rfl, rfl⟩, ⟨_, Heap.get?_push_size _ rfl⟩, fun h1 h2' ⟨o, es, ep, a1, a2, a3, a4⟩ st => ⟨o, es, ep, st _ a1, a2, a3, a4⟩⟩, I.hok.fresh (Nat.le_refl _), But.of,
    beq_eq_false_iff_ne.mpr (Ne.symm (Nat.ne_of_lt I.big)), [], upd_same, ⟨Paired.nil, List.nodup_nil, (fun _ h => nomatch h), Nat.zero_le _⟩⟩
end

/-! ### readings -/
section
variable {κ : Type} [DecidableEq κ] {X : Cx} {enc : κ → NestedKey} {o i e value : Expr} {pos pos' tpos : Pos} {td ty tv : TE}
/-- {} -/
def tNNew (w : World) (enc : κ → NestedKey) : TE := fun _ H Q => ∀ p H', H p = none → But p H H' → ND w H' enc p [] → Q (.ref p) H'
theorem pe_nnew : PE X (.Dict [] [] pos) (tNNew X.w enc) := by
  refine ⟨fun pins s σ H Q I h => wpAny_Dict_empty ?_⟩
  obtain ⟨H', I', n, b, g⟩ := nd_new (enc := enc) I
  exact ⟨.ref _, H', I', rfl, h _ _ n b g⟩
/-- y in d -/
def rNIn (w : World) (enc : κ → NestedKey) (neg : Bool) : R2 := fun y z H Q => ∃ (d : Addr) (kvs : List (κ × V)) (k : κ), z = .ref d ∧ NDr w H enc d kvs ∧ TD H (enc k) y ∧ Q (.bl (if neg then !(valV kvs k).isSome else (valV kvs k).isSome)) H
theorem op_nin (C : TCode enc) (hu : X.A.units + 64 < cLine) : OpR X (compareOp .In) (rNIn X.w enc false) := by
  intro pins s σ H y z v u Q I ry rz h
  obtain ⟨d, kvs, k, rfl, g, hk, q⟩ := h
  obtain rfl : u = Value.ref d := rz
  exact n_in C hu I g hk ry fun s' I' => ⟨.bl _, H, I', rfl, q⟩
theorem op_nnotin (C : TCode enc) (hu : X.A.units + 64 < cLine) : OpR X (compareOp .NotIn) (rNIn X.w enc true) := by
  intro pins s σ H y z v u Q I ry rz h
  obtain ⟨d, kvs, k, rfl, g, hk, q⟩ := h
  obtain rfl : u = Value.ref d := rz
  exact n_notIn C hu I g hk ry fun s' I' => ⟨.bl _, H, I', rfl, q⟩
/-- d[y] -/
def tNGet (w : World) (enc : κ → NestedKey) (td ty : TE) : TE := fun σ H Q => td σ H fun x H1 => ty σ H1 fun y H2 => ∃ (d : Addr) (kvs : List (κ × V)) (k : κ) (v : V), x = .ref d ∧ NDr w H2 enc d kvs ∧ TD H2 (enc k) y ∧ valV kvs k = some v ∧ Q v H2
theorem pe_nget (C : TCode enc) (hu : X.A.units + 64 < cLine) (ho : PE X o td) (hi : PE X i ty) (hs : NoSl i) : PE X (.Subscript o i pos) (tNGet X.w enc td ty) := by
  refine ⟨fun pins s σ H Q I h => ?_⟩
  refine subD_of PySem.F.slot_dict_getitem.lookup hs (thn (ho.run pins s σ H _ I h) fun u s1 ⟨x, H1, I1, rx, q1⟩ => thn (hi.run pins s1 σ H1 _ I1 q1) fun iv s2 ⟨y, H2, I2, ry, d, kvs, k, v, ex, g, hk, hv, q2⟩ => ?_)
  subst ex
  obtain rfl : u = Value.ref d := rx
  obtain ⟨es, ep, raw, _⟩ := nd_raw I2.hok g
  exact ⟨raw.typeIs, n_get C hu I2 g hk ry hv fun w' s3 I3 rw' => ⟨v, H2, I3, rw', q2⟩⟩
/-- d[y] = v -/
def sNPut (w : World) (enc : κ → NestedKey) (td ty tv : TE) : TS := fun D σ H => tv σ H fun v H1 => td σ H1 fun x H2 => ty σ H2 fun y H3 => ∃ (d : Addr) (kvs : List (κ × V)) (k : κ), x = .ref d ∧ ND w H3 enc d kvs ∧ kvs.length < sizeLine ∧ TD H3 (enc k) y ∧
  ∀ H4, But d H3 H4 → ND w H4 enc d (putK kvs k v) → D.nx σ H4
theorem ps_nput (C : TCode enc) (hu : X.A.units + 64 < cLine) (ho : PE X o td) (hi : PE X i ty) (hv : PE X value tv) (hs : swapsWith value (some (.Subscript o i pos')) pos.line X.env = pure false) :
    PS X (.Assign [.Subscript o i pos'] value pos) (sNPut X.w enc td ty tv) := by
  refine ⟨fun pins s σ H D I h => ?_⟩
  refine wpAny_Assign_Subscript (thn (hv.run pins s σ H _ I h) fun r s1 ⟨v, H1, I1, rv, q1⟩ => thn (ho.run pins s1 σ H1 _ I1 q1) fun u s2 ⟨x, H2, I2, rx, q2⟩ => thn (hi.run pins s2 σ H2 _ I2 q2) fun iv s3 ⟨y, H3, I3, ry, d, kvs, k, ex, g, hz, hk, q3⟩ => ?_) hs
  subst ex
  obtain rfl : u = Value.ref d := rx
  exact n_put C hu I3 g hz hk ry rv fun H4 s4 I4 b4 g4 => ⟨σ, H4, I4, q3 H4 b4 g4⟩
/-- len(d) -/
theorem call_nlen : CallR X (.builtin "len") (fun xs H Q => ∃ (d : Addr) (kvs : List (κ × V)), xs = [.ref d] ∧ NDr X.w H enc d kvs ∧ Q (.int kvs.length) H) := by
  intro pins s σ H xs us Q I r h
  obtain ⟨d, kvs, rfl, g, q⟩ := h
  obtain rfl := Vals.ref1 r
  obtain ⟨es, ep, raw, hs⟩ := nd_raw I.hok g
  have hz : kvs.length ≤ sizeLine := by
    obtain ⟨_, xs, _, x⟩ := g
    exact x.sz
  refine PyProof.Rows.call_len_slot (n := kvs.length) raw.typeIs F.slot_dict_len (fun Q' hq => call_len_raw g.1 raw (by rw [hs]; exact hq)) (by omega) (by rw [sizeLine_eq] at hz; omega) ?_
  exact ⟨.int kvs.length, H, I.tok _, ⟨_, rfl⟩, q⟩
end
end K97
set_option Elab.async false
set_option linter.all false
set_option maxRecDepth 100000
set_option maxHeartbeats 4000000
/-! Walks over such dicts, comprehensions that fill a dict, sorted. -/
namespace K97
open PySem PySem.Spec PyProof.Rows L2

/-! ### the keys of a locked dict -/
def ItN (w : World) (d : Addr) (o : Obj) (xs : List Ent) : It where
  go := fun i H => H d = some (.frz o (ndO w d xs)) ∧ i < xs.length
  yld := fun i H x H' => H' = H ∧ ∃ e, xs[i]? = some e ∧ x = .ref e.2.1
  stop := fun i H => H d = some (.frz o (ndO w d xs)) ∧ xs.length ≤ i
section
variable {X : Cx} {pins : List (Addr × Obj)} {σ : L2.St} {H : Hp} {s : Shared} {d : Addr} {o : Obj} {xs : List Ent}
theorem frzN (I : Inv X pins σ H s) (h : H d = some (.frz o (ndO X.w d xs))) : s.heap.get? d = some o ∧ o.ExactDict ∧ ∃ (es : Array DictEntry) (ep : Nat), o.data = .dict es ep ∧ es.toList = xs.map (entN X.w) ∧ es.size = xs.length := by
  obtain ⟨h1, ⟨ob, es, ep, h2, h3, h4, h5⟩, _, _⟩ := I.hok d _ h
  rw [h1] at h2
  cases h2
  exact ⟨h1, h3, es, ep, h4, h5, by rw [← Array.length_toList, h5, List.length_map]⟩
end
theorem turn_N {P : Program} {w : World} {K : PySem.W.Frag} {tg : Expr} {d : Addr} {o : Obj} {es : Array DictEntry} {ep : Nat} {xs : List Ent} (it : Addr) (hdt : o.data = .dict es ep) :
    Turn P w K tg (ItN w d o xs) [it] it (fun i h => h.IsKeyIter it d i xs.length ep) := by
  refine ⟨by simp, fun i h st b hb => ?_, fun i h h' st kp => st.at fun u e => kp it (by simp) u e, ?_, ?_, fun A i s Q E st h => ?_⟩
  · have eb : b = it := by simpa using hb
    rw [eb]
    obtain ⟨u, e1, _, e3⟩ := st
    refine ⟨u, e1, fun v z => ?_⟩
    rw [e3] at z
    cases z
  · intro X hP hw hK hc i pins s σ H E I hf st hg
    subst hP hw hK
    obtain ⟨hd, hi⟩ := hg
    have fit := hf it (by simp)
    obtain ⟨g1, g2, es2, ep2, g3, g4, g5⟩ := frzN I hd
    rw [hdt] at g3
    cases g3
    have hen : es[i]? = some (entN X.w xs[i]) := by
      rw [← Array.getElem?_toList, g4, List.getElem?_map, List.getElem?_eq_getElem hi]
      rfl
    refine next_key_item st g1 hdt g5 hen fun h' st2 sb => ?_
    have I2 : Inv X pins σ H { s with heap := h' } := I.turned (t' := s.toks) (fun b u hb e => (sb.2 b hb).trans e) fit.1 fit.2.1 fit.2.2.2.1 fit.2.2.2.2.1 fit.2.2.2.2.2
    obtain ⟨u, e1, e2, e3⟩ := id st2
    exact ⟨_, rfl, go_of (s := { s with heap := h' }) e1 e2 e3 (by decide) ⟨.ref xs[i].2.1, H, I2, rfl, ⟨rfl, xs[i], List.getElem?_eq_getElem hi, rfl⟩, st2, fun b hb => (hf b hb).1⟩⟩
  · intro X hP hw hK hc i pins s σ H E I hf st hg
    subst hP hw hK
    obtain ⟨hd, hi⟩ := hg
    have fit := hf it (by simp)
    obtain ⟨g1, g2, es2, ep2, g3, g4, g5⟩ := frzN I hd
    rw [hdt] at g3
    cases g3
    exact next_key_end (I.ok.hd hc) st g1 hdt g5 hi fun h' eb => ⟨rfl, I.turned (t' := s.toks) (fun b u hb e => eb b u hb e) fit.1 fit.2.1 fit.2.2.2.1 fit.2.2.2.2.1 fit.2.2.2.2.2⟩
  · exact wpAny_pyIter_keyiter st h
/-- for k in d (d locked) -/
def iN (w : World) (td : TE) : TI := fun σ H R => td σ H fun x H1 => ∃ d o xs, x = .ref d ∧ (d == sysModules) = false ∧ H1 d = some (.frz o (ndO w d xs)) ∧ R (ItN w d o xs) H1
theorem pi_n {X : Cx} {tg e : Expr} {td : TE} (he : PE X e td) : PI X tg e (iN X.w td) := by
  refine ⟨fun pins s σ H R I h => ?_⟩
  refine thn (he.run pins s σ H _ I h) fun u s1 ⟨x, H1, I1, rx, d, o, xs, ex, hs, hd, q⟩ => ?_
  subst ex
  obtain rfl : u = Value.ref d := rx
  obtain ⟨g1, g2, es, ep, g3, g4, g5⟩ := frzN I1 hd
  refine iter_keys hs g1 g2 g3 (pi_one (tk := s1.toks) I1 _ (turn_N _ g3) ⟨_, Heap.get?_push_size _ rfl, rfl, ?_⟩ q)
  rw [g5]
  rfl

/-! ### turns, by what holds between them -/
theorem turns {J : It} {n : Nat} {Body : V → Hp → (Hp → Prop) → Prop} {Done : Hp → Prop} {Hs : Hp} (Pv : Nat → Hp → Prop) (Itm : Nat → V → Prop) (h0 : Pv 0 Hs)
    (hgo : ∀ i H, i < n → Pv i H → J.go i H) (hst : ∀ H, Pv n H → J.stop n H) (hy : ∀ i H x H', i < n → Pv i H → J.yld i H x H' → H' = H ∧ Itm i x)
    (hs : ∀ i x H, i < n → Itm i x → Pv i H → Body x H (Pv (i + 1))) (hd : ∀ H, Pv n H → Done H) :
    ∃ W : Nat → Nat → Hp → Prop, (∃ m, W 0 m Hs) ∧ ∀ i m H, W i m H → (J.stop i H ∧ Done H) ∨ (J.go i H ∧ ∃ Nx : Hp → Prop, (∀ H', Nx H' → ∃ m', m' < m ∧ W (i + 1) m' H') ∧ ∀ x H', J.yld i H x H' → Body x H' Nx) := by
  refine ⟨fun i m H => i + m = n ∧ Pv i H, ⟨n, by simp, h0⟩, ?_⟩
  rintro i m H ⟨e, p⟩
  cases m with
  | zero =>
    have e : i = n := by simpa using e
    subst e
    exact .inl ⟨hst H p, hd H p⟩
  | succ m =>
    have hi : i < n := by omega
    refine .inr ⟨hgo i H hi p, Pv (i + 1), fun H' p' => ⟨m, Nat.lt_succ_self m, by omega, p'⟩, fun x H' y => ?_⟩
    obtain ⟨e1, e2⟩ := hy i H x H' hi p y
    rw [e1]
    exact hs i x H hi e2 p
/-- over a locked dict -/
theorem turns_n {w : World} {d : Addr} {o : Obj} {xs : List Ent} {Body : V → Hp → (Hp → Prop) → Prop} {Done : Hp → Prop} {Hs : Hp} (Pv : Nat → Hp → Prop) (h0 : Pv 0 Hs) (hl : ∀ i H, Pv i H → H d = some (.frz o (ndO w d xs)))
    (hs : ∀ i e H, xs[i]? = some e → Pv i H → Body (.ref e.2.1) H (Pv (i + 1))) (hd : ∀ H, Pv xs.length H → Done H) :
    ∃ W : Nat → Nat → Hp → Prop, (∃ m, W 0 m Hs) ∧ ∀ i m H, W i m H → ((ItN w d o xs).stop i H ∧ Done H) ∨ ((ItN w d o xs).go i H ∧ ∃ Nx : Hp → Prop, (∀ H', Nx H' → ∃ m', m' < m ∧ W (i + 1) m' H') ∧ ∀ x H', (ItN w d o xs).yld i H x H' → Body x H' Nx) :=
  turns (n := xs.length) Pv (fun i x => ∃ e, xs[i]? = some e ∧ x = .ref e.2.1) h0 (fun i H hi p => ⟨hl i H p, hi⟩) (fun H p => ⟨hl _ H p, Nat.le_refl _⟩) (fun i H x H' hi p y => y)
    (fun i x H hi ⟨e, e1, e2⟩ p => by rw [e2]; exact hs i e H e1 p) hd
/-- over a list, a tuple, a range -/
theorem turns_l {K : PySem.W.Frag} {a : Addr} {vs : List V} {Body : V → Hp → (Hp → Prop) → Prop} {Done : Hp → Prop} {Hs : Hp} (Pv : Nat → Hp → Prop) (h0 : Pv 0 Hs) (hl : ∀ i H, Pv i H → SqL K H a vs)
    (hs : ∀ i v H, vs[i]? = some v → Pv i H → Body v H (Pv (i + 1))) (hd : ∀ H, Pv vs.length H → Done H) :
    ∃ W : Nat → Nat → Hp → Prop, (∃ m, W 0 m Hs) ∧ ∀ i m H, W i m H → ((Itl K a).stop i H ∧ Done H) ∨ ((Itl K a).go i H ∧ ∃ Nx : Hp → Prop, (∀ H', Nx H' → ∃ m', m' < m ∧ W (i + 1) m' H') ∧ ∀ x H', (Itl K a).yld i H x H' → Body x H' Nx) :=
  turns (n := vs.length) Pv (fun i x => vs[i]? = some x) h0 (fun i H hi p => ⟨vs, vs[i], hl i H p, List.getElem?_eq_getElem hi⟩) (fun H p => ⟨vs, hl _ H p, Nat.le_refl _⟩)
    (fun i H x H' hi p y => ⟨y.1, y.2 vs (hl i H p)⟩) (fun i x H hi e p => hs i x H e p) hd
theorem turns_t {K : PySem.W.Frag} {a : Addr} {vs : List V} {Body : V → Hp → (Hp → Prop) → Prop} {Done : Hp → Prop} {Hs : Hp} (Pv : Nat → Hp → Prop) (h0 : Pv 0 Hs) (hl : ∀ i H, Pv i H → SqT K H a vs)
    (hs : ∀ i v H, vs[i]? = some v → Pv i H → Body v H (Pv (i + 1))) (hd : ∀ H, Pv vs.length H → Done H) :
    ∃ W : Nat → Nat → Hp → Prop, (∃ m, W 0 m Hs) ∧ ∀ i m H, W i m H → ((Itt K a).stop i H ∧ Done H) ∨ ((Itt K a).go i H ∧ ∃ Nx : Hp → Prop, (∀ H', Nx H' → ∃ m', m' < m ∧ W (i + 1) m' H') ∧ ∀ x H', (Itt K a).yld i H x H' → Body x H' Nx) :=
  turns (n := vs.length) Pv (fun i x => vs[i]? = some x) h0 (fun i H hi p => ⟨vs, vs[i], hl i H p, List.getElem?_eq_getElem hi⟩) (fun H p => ⟨vs, hl _ H p, Nat.le_refl _⟩)
    (fun i H x H' hi p y => ⟨y.1, y.2 vs (hl i H p)⟩) (fun i x H hi e p => hs i x H e p) hd
theorem turns_r {lo : Int} {n : Nat} {Body : V → Hp → (Hp → Prop) → Prop} {Done : Hp → Prop} {Hs : Hp} (Pv : Nat → Hp → Prop) (h0 : Pv 0 Hs) (hs : ∀ i H, i < n → Pv i H → Body (.int (lo + (i : Nat))) H (Pv (i + 1))) (hd : ∀ H, Pv n H → Done H) :
    ∃ W : Nat → Nat → Hp → Prop, (∃ m, W 0 m Hs) ∧ ∀ i m H, W i m H → ((Itr lo n).stop i H ∧ Done H) ∨ ((Itr lo n).go i H ∧ ∃ Nx : Hp → Prop, (∀ H', Nx H' → ∃ m', m' < m ∧ W (i + 1) m' H') ∧ ∀ x H', (Itr lo n).yld i H x H' → Body x H' Nx) :=
  turns (n := n) Pv (fun i x => x = .int (lo + (i : Nat))) h0 (fun i H hi p => hi) (fun H p => Nat.le_refl _) (fun i H x H' hi p y => y) (fun i x H hi e p => by rw [e]; exact hs i H hi p) hd
end K97
set_option Elab.async false
set_option linter.all false
set_option maxRecDepth 100000
set_option maxHeartbeats 4000000
/-! A dict comprehension whose store is told by a kind of dict. -/
namespace K97
open PySem PySem.Spec PyProof.Rows L2

/-- a kind of dict that is filled: how a new one is told, what a store asks and leaves -/
structure Fills (X : Cx) (New : Hp → Addr → Hp → Prop) (Put : Hp → Addr → V → V → (Hp → Prop) → Prop) : Prop where
  new : ∀ (pins : List (Addr × Obj)) (σ : L2.St) (H : Hp) (s : Shared), Inv X pins σ H s →
    ∃ H', Inv X pins σ H' { s with heap := s.heap.push { cls := .type "dict", data := .dict #[] } } ∧ But s.heap.objs.size H H' ∧ New H s.heap.objs.size H'
  put : ∀ (Y : Cx) (pins : List (Addr × Obj)) (σ : L2.St) (H : Hp) (s : Shared) (E : Value → Shared → Prop) (D : Addr) (y z : V) (u r : Value) (Nx : Hp → Prop), Y.prog = X.prog → Y.w = X.w → Y.A = X.A → Inv Y pins σ H s → RelV y u → RelV z r → Put H D y z Nx →
    wpAny (model Y.prog Y.w) Y.A (dictSet D u r) (fun _ s' => ∃ H', Inv Y pins σ H' s' ∧ Nx H') E s
def tDg (New : Hp → Addr → Hp → Prop) (Put : Hp → Addr → V → V → (Hp → Prop) → Prop) (wi : TI) (g : TG) (tt : TT) (tk tv : TE) (vs : List Nat) : TE := fun σ H Q => wi σ H fun J H1 => ∀ D H', H1 D = none → But D H1 H' → New H1 D H' →
  ∃ W : Nat → Nat → Hp → Prop, (∃ m, W 0 m H') ∧ ∀ i m H, W i m H → (J.stop i H ∧ Q (.ref D) H) ∨ (J.go i H ∧ ∃ Nx : Hp → Prop, (∀ H', Nx H' → ∃ m', m' < m ∧ W (i + 1) m' H') ∧ ∀ x H', J.yld i H x H' →
    g x (wipe σ vs) H' fun σ2 H2 => wipe σ2 vs = wipe σ vs ∧ tt σ2 H2 fun b H3 => if b = true then tk σ2 H3 fun y H4 => tv σ2 H4 fun z H5 => Put H5 D y z Nx else Nx H3)
section
variable {X : Cx} {New : Hp → Addr → Hp → Prop} {Put : Hp → Addr → V → V → (Hp → Prop) → Prop}
theorem dg_core {pins : List (Addr × Obj)} {s : Shared} {σ : L2.St} {H : Hp} {Q : VK} {kx vx tg iter : Expr} {ifs : List Expr} {scope : Scope} {own : List (Str × Nat)} {pos pos' : Pos} {wi : TI} {g : TG} {tt : TT} {tk tv : TE} {use : Option (Value → Sem Unit)} {Qf : Value → Shared → Prop} (F : Fills X New Put) (hc : X.calm = true) (hN : X.N.Nodup) (I : Inv X pins σ H s) (hi : PI X tg iter wi) (ok : BlkOk X.N X.env.scope scope own)
    (hg : ∀ (s : Shared) (H : Hp) (C : Addr) (cl : List (Str × Addr)) (fp : List Addr), PG (X.blk s H scope (compEnvC scope cl C X.env) fp) tg g)
    (ht : ∀ (s : Shared) (H : Hp) (C : Addr) (cl : List (Str × Addr)) (fp : List Addr), PTs (X.blk s H scope (compEnvC scope cl C X.env) fp) ifs tt)
    (hk : ∀ (s : Shared) (H : Hp) (C : Addr) (cl : List (Str × Addr)) (fp : List Addr), PE (X.blk s H scope (compEnvC scope cl C X.env) fp) kx tk)
    (hv : ∀ (s : Shared) (H : Hp) (C : Addr) (cl : List (Str × Addr)) (fp : List Addr), PE (X.blk s H scope (compEnvC scope cl C X.env) fp) vx tv)
    (hs : ∀ x, foldedSetIterable iter X.env x = pure x) (h : tDg New Put wi g tt tk tv (own.map (·.2)) σ H Q)
    (hRR : ∀ D C s' m H', Inv X pins σ H' s' → Q (.ref D) H' → s'.heap.Ns C m → FpOk X pins H' C → compPost (model X.prog X.w) X.A X.xe use Qf (.ref D) C (.ok .next) s') :
    wpAny (model X.prog X.w) X.A (comprehension (.DictComp kx vx [⟨tg, iter, ifs, 0⟩] scope pos) scope X.env pos' newDict false (eval iter X.env) use) Qf X.xe s := by
  have caught : ∀ y ∈ scope.names, y.2 = .free → ∃ c, X.env.cells.lookup y.1 = some c := fun y hy e => (ok.free y hy e).elim (fun k => I.ok.has _ (.inl k)) fun k => I.ok.has _ (.inr k)
  refine wpAny_comprehension_free (use := use) rfl hs (closure_ok caught) ok.kind (fun y hy e => by rw [ok.uniq y hy, e]) (thn (hi.run pins s σ H _ I h) fun _ s1 h1 => thn h1 fun itv s2 h2 => ?_)
  obtain ⟨it, fp, tn, J, H2, e, I2, T, st2, f2, q⟩ := h2
  subst e
  refine wpAny_newObj_type (newEnv_comp ?_)
  -- the new dict
  obtain ⟨H3, I3, but, isNew⟩ := F.new pins σ H2 s2 I2
  have free : H2 s2.heap.objs.size = none := I2.hok.fresh (Nat.le_refl _)
  obtain ⟨W, ⟨m0, w0⟩, turn⟩ := q s2.heap.objs.size H3 free but isNew
  generalize eD : s2.heap.objs.size = D at *
  generalize es3 : ({ s2 with heap := s2.heap.push { cls := .type "dict", data := .dict #[] } } : Shared) = s3 at *
  have eh : s3.heap = s2.heap.push { cls := .type "dict", data := .dict #[] } := by rw [← es3]
  have low : ∀ b ∈ fp, b < D := fun b hb => by
    obtain ⟨o, e, _⟩ := T.obj _ _ st2 b hb
    rw [← eD]
    exact Heap.lt_size e
  have f3 : ∀ b ∈ fp, FpOk X pins H3 b ∧ b < s3.heap.objs.size := fun b hb => by
    refine ⟨⟨(but b (Nat.ne_of_lt (low b hb))).trans (f2 b hb).1, (f2 b hb).2⟩, ?_⟩
    rw [eh, Heap.size_push, eD]
    exact Nat.lt_succ_of_lt (low b hb)
  have I4 := block_start I3 ok hN f3
  generalize ecl : cellsFrom (s3.heap.objs.size + 1) scope.names (cloFrom X.env.cells scope.names []) = cl at I4
  have pg := hg s3 H3 s3.heap.objs.size cl fp
  have pt := ht s3 H3 s3.heap.objs.size cl fp
  have pk := hk s3 H3 s3.heap.objs.size cl fp
  have pv := hv s3 H3 s3.heap.objs.size cl fp
  suffices main : codeAny (model X.prog X.w) X.A (.compStart (.DictComp kx vx [⟨tg, iter, ifs, 0⟩] scope pos) 0 (.ref it) (.ref D) (compEnvC scope cl s3.heap.objs.size X.env)) (compPost (model X.prog X.w) X.A X.xe use Qf (.ref D) s3.heap.objs.size)
      { s3 with heap := pushCells (s3.heap.push { cls := .type "dict", data := .dict #[] }) scope.names } by
    subst ecl es3
    exact main
  generalize ece : compEnvC scope cl s3.heap.objs.size X.env = ce at I4 pg pt pk pv ⊢
  have cL : ce.locals = s3.heap.objs.size := by rw [← ece]; rfl
  generalize es4 : ({ s3 with heap := pushCells (s3.heap.push { cls := .type "dict", data := .dict #[] }) scope.names } : Shared) = s4 at I4 ⊢
  have st4 : tn 0 s4.heap := T.keep _ _ _ st2 fun b _ o e => by
    rw [← es4]
    refine pushCells_keeps _ _ _ _ (Heap.get?_push_of_some _ ?_)
    rw [eh]
    exact Heap.get?_push_of_some _ e
  have stays : ∀ {σ' : L2.St} {H' : Hp} {s' : Shared}, Inv (X.blk s3 H3 scope ce fp) [] σ' H' s' → (∀ b ∈ fp, H' b = none) → ∀ b ∈ fp, FpOk (X.blk s3 H3 scope ce fp) [] H' b := fun {σ' H' s'} I' hn b hb =>
    ⟨hn b hb, (I'.ok.exf b hb).1, I'.ok.exfs b hb, .inl hb, fun x c e => (I'.ok.exf b hb).2 x c e, fun p hp => absurd (show p ∈ ([] : List (Addr × Obj)) ++ [] from hp) (by simp)⟩
  have loop : codeAny (model X.prog X.w) X.A (.compLoop (.DictComp kx vx [⟨tg, iter, ifs, 0⟩] scope pos) 0 (.ref it) (.ref D) ce) (compPost (model X.prog X.w) X.A X.xe use Qf (.ref D) s3.heap.objs.size) s4 := by
    refine compLoop_anyD (fun n s' => ∃ i H', Inv (X.blk s3 H3 scope ce fp) [] (wipe σ (own.map (·.2))) H' s' ∧ tn i s'.heap ∧ (∀ b ∈ fp, H' b = none) ∧ W i n H') ?_ m0 ⟨0, H3, I4, st4, fun b hb => (f3 b hb).1.1, w0⟩
    rintro n s5 ⟨i, H5, I5, st5, n5, w5⟩
    rcases turn i n H5 w5 with ⟨stop, qq⟩ | ⟨go, Nx, hNx, step⟩
    · refine thnF (T.done (X.blk s3 H3 scope ce fp) rfl rfl rfl hc i [] s5 _ H5 (fun _ _ => False) I5 (stays I5 n5) st5 stop) fun r s6 ⟨hr, I6⟩ => ?_
      subst hr
      have I7 : Inv X pins σ H5 s6 := I3.call' (ch := fp) I6.os I6.base I6.hok I6.bare fun b hb => ⟨(f3 b hb).1.2.2.2.1, (f3 b hb).1.2.1, (f3 b hb).1.2.2.2.2.1, (f3 b hb).1.2.2.2.2.2⟩
      have nC : H5 s3.heap.objs.size = none := by
        rw [← cL]
        exact I6.free
      obtain ⟨m, hn, _⟩ := I6.loc
      have hn : s6.heap.Ns ce.locals m := hn
      rw [cL] at hn
      exact hRR D s3.heap.objs.size s6 m H5 I7 qq hn (I3.fpOk (Nat.le_refl _) nC)
    · refine thnF (T.item (X.blk s3 H3 scope ce fp) rfl rfl rfl hc i [] s5 _ H5 (fun _ _ => False) I5 (stays I5 n5) st5 go) fun r s6 ⟨u, hr, h6⟩ => ?_
      subst hr
      refine thnF h6 fun _ s7 ⟨x, H7, I7, r7, y7, st7, n7⟩ => ?_
      refine thnF (pg.run _ s7 _ H7 x u _ (I7.pinned (stays I7 n7) (T.obj _ _ st7)) r7 (step x H7 y7)) fun _ s8 ⟨σ8, H8, I8, hw8, q8⟩ => ?_
      refine thnF (pt.run _ s8 σ8 H8 _ I8 q8) fun b s9 ⟨H9, I9, q9⟩ => ?_
      have fin : ∀ {s' : Shared} {H' : Hp}, Inv (X.blk s3 H3 scope ce fp) ([] ++ pinsAt fp s7.heap) σ8 H' s' → Nx H' → ∃ m, m < n ∧ ∃ i H', Inv (X.blk s3 H3 scope ce fp) [] (wipe σ (own.map (·.2))) H' s' ∧ tn i s'.heap ∧ (∀ b ∈ fp, H' b = none) ∧ W i m H' := fun {s' H'} I' nx => by
        obtain ⟨m', hm, w'⟩ := hNx H' nx
        have held : ∀ b ∈ fp, ∀ o, s7.heap.get? b = some o → s'.heap.get? b = some o ∧ H' b = none := fun b hb o e => by
          obtain ⟨z1, z2, _⟩ := I'.pin (b, o) (List.mem_append_right _ (List.mem_append_right _ (mem_pinsAt hb e)))
          exact ⟨z1, z2⟩
        refine ⟨m', hm, i + 1, H', (I'.unpinned (pins := [])).weak (by rw [← hw8, wipe_length]) (fun j v e => ?_), T.keep _ _ _ st7 fun b hb o e => (held b hb o e).1, fun b hb => ?_, w'⟩
        · rw [← hw8] at e
          exact (wipe_some e).1
        · obtain ⟨o, e, _⟩ := T.obj _ _ st7 b hb
          exact (held b hb o e).2
      cases b with
      | false =>
        simp only [Bool.false_eq_true, if_false] at q9 ⊢
        exact fin I9 q9
      | true =>
        simp only [if_true] at q9 ⊢
        refine thnF (pk.run _ s9 σ8 H9 _ I9 q9) fun z s10 ⟨yk, H10, I10, r10, q10⟩ => ?_
        refine thnF (pv.run _ s10 σ8 H10 _ I10 q10) fun z2 s11 ⟨yv, H11, I11, r11, hp⟩ => ?_
        refine thnF (F.put (X.blk s3 H3 scope ce fp) _ σ8 H11 s11 (fun _ _ => False) D yk yv z z2 Nx rfl rfl rfl I11 r10 r11 hp) fun _ s12 ⟨H12, I12, nx⟩ => ?_
        exact fin I12 nx
  exact codeAny_compStart_dict loop (T.self X.A 0 _ _ _ st4 loop)
/-- as a value -/
theorem pe_dg {kx vx tg iter : Expr} {ifs : List Expr} {scope : Scope} {own : List (Str × Nat)} {pos : Pos} {wi : TI} {g : TG} {tt : TT} {tk tv : TE} (F : Fills X New Put) (hc : X.calm = true) (hN : X.N.Nodup) (hi : PI X tg iter wi) (ok : BlkOk X.N X.env.scope scope own)
    (hg : ∀ (s : Shared) (H : Hp) (C : Addr) (cl : List (Str × Addr)) (fp : List Addr), PG (X.blk s H scope (compEnvC scope cl C X.env) fp) tg g)
    (ht : ∀ (s : Shared) (H : Hp) (C : Addr) (cl : List (Str × Addr)) (fp : List Addr), PTs (X.blk s H scope (compEnvC scope cl C X.env) fp) ifs tt)
    (hk : ∀ (s : Shared) (H : Hp) (C : Addr) (cl : List (Str × Addr)) (fp : List Addr), PE (X.blk s H scope (compEnvC scope cl C X.env) fp) kx tk)
    (hv : ∀ (s : Shared) (H : Hp) (C : Addr) (cl : List (Str × Addr)) (fp : List Addr), PE (X.blk s H scope (compEnvC scope cl C X.env) fp) vx tv)
    (hs : ∀ x, foldedSetIterable iter X.env x = pure x := by intro _; rfl) : PE X (.DictComp kx vx [⟨tg, iter, ifs, 0⟩] scope pos) (tDg New Put wi g tt tk tv (own.map (·.2))) := by
  refine ⟨fun pins s σ H Q I h => ?_⟩
  rw [arm_eval_DictComp]
  refine dg_core F hc hN I hi ok hg ht hk hv hs h fun D C s' m H' I' q hn f => ⟨m, hn, fun h'' sb => ?_⟩
  obtain ⟨f0, f1, f2, f3, f4, f5⟩ := f
  exact ⟨.ref D, H', I'.turned (t' := s'.toks) (fun b o hb e => (sb.2 b hb).trans e) f0 f1 f3 f4 f5, rfl, q⟩
/-- name = {..} on one line, the name a local -/
theorem ps_setDg {i : Nat} {y : Str} {py : Pos} {kx vx tg iter : Expr} {ifs : List Expr} {scope : Scope} {own : List (Str × Nat)} {pos spos : Pos} {wi : TI} {g : TG} {tt : TT} {tk tv : TE} (F : Fills X New Put) (hc : X.calm = true) (hN : X.N.Nodup) (hy : X.N[i]? = some y) (hyl : X.env.scope.names.lookup y = some .local)
    (hsw : swapsWith (.DictComp kx vx [⟨tg, iter, ifs, 0⟩] scope pos) (some (.Name y py)) spos.line X.env = pure true) (hi : PI X tg iter wi) (ok : BlkOk X.N X.env.scope scope own)
    (hg : ∀ (s : Shared) (H : Hp) (C : Addr) (cl : List (Str × Addr)) (fp : List Addr), PG (X.blk s H scope (compEnvC scope cl C X.env) fp) tg g)
    (ht : ∀ (s : Shared) (H : Hp) (C : Addr) (cl : List (Str × Addr)) (fp : List Addr), PTs (X.blk s H scope (compEnvC scope cl C X.env) fp) ifs tt)
    (hk : ∀ (s : Shared) (H : Hp) (C : Addr) (cl : List (Str × Addr)) (fp : List Addr), PE (X.blk s H scope (compEnvC scope cl C X.env) fp) kx tk)
    (hv : ∀ (s : Shared) (H : Hp) (C : Addr) (cl : List (Str × Addr)) (fp : List Addr), PE (X.blk s H scope (compEnvC scope cl C X.env) fp) vx tv)
    (hs : ∀ x, foldedSetIterable iter X.env x = pure x := by intro _; rfl) : PS X (.Assign [.Name y py] (.DictComp kx vx [⟨tg, iter, ifs, 0⟩] scope pos) spos) (tAsg (tDg New Put wi g tt tk tv (own.map (·.2))) (gName i)) := by
  refine ⟨fun pins s σ H D I h => ?_⟩
  rw [exec_Assign_Name_used _ _ _ _ hsw]
  refine wpAny_bind (wpAny_standAt (wpAny_bind ?_))
  show wpAny _ X.A (do let _ ← comprehension (.DictComp kx vx [⟨tg, iter, ifs, 0⟩] scope pos) scope X.env (firstIterPos [⟨tg, iter, ifs, 0⟩] pos) newDict false (eval iter X.env) (some (assign (.Name y py) X.env))) _ _ s
  have h : tDg New Put wi g tt tk tv (own.map (·.2)) σ H (fun x H1 => gName i x σ H1 D.nx) := h
  refine wpAny_bind (thn (dg_core (Qf := fun _ s' => SP X pins D .next s') F hc hN I hi ok hg ht hk hv hs h fun L C s' m H' I' q hn f => ?_) fun _ s' hq => wpAny_pure (wpAny_pure hq))
  show wpAny _ _ (assign (.Name y py) X.env (.ref L)) _ _ _
  refine wpAny_assign_Name (store_ok2 (v := V.ref L) I' hN hy (.inl hyl) rfl (fun s2 I2 ⟨a, sb, ha⟩ => ?_) (.inr hyl))
  obtain ⟨f0, f1, f2, f3, f4, f5⟩ := f
  have haC : C ≠ a := by
    rcases ha with z | z
    · rw [z]; exact f1
    · exact fun e => f4 y a z e.symm
  refine ⟨m, hn.sameBut sb haC, fun h3 sb3 => ?_⟩
  exact ⟨_, H', I2.turned (t' := s2.toks) (fun b o hb e => (sb3.2 b hb).trans e) f0 f1 f3 f4 f5, q⟩
theorem sw_trueD {kx vx : Expr} {gs : List Comprehension} {scope : Scope} {pos py : Pos} {y : Str} {l : Nat} {env : Env} (hk : env.scope.kind = .function) (hy : env.scope.names.lookup y = some .local) (hl : (py.line == pos.line) = true)
    (ha : (scope.names.any fun (n, k) => n == y && (k == .local || k == .cell)) = false) : swapsWith (.DictComp kx vx gs scope pos) (some (.Name y py)) l env = pure true := by
  have ky : env.kindOf y = some .local := hy
  have hb : env.blockKind = .function := by unfold Env.blockKind; rw [hk]; rfl
  unfold swapsWith
  simp only [hb, ky, ha, Expr.pos, hl]
  rfl
end
end K97
set_option Elab.async false
set_option linter.all false
set_option maxRecDepth 100000
set_option maxHeartbeats 4000000
/-! sorted of data: of a list, of a dict's keys; dicts with truth values as keys. -/
namespace K97
open PySem PySem.Spec PyProof.Rows L2

/-! ### comprehensions that fill a dict -/
section
variable {κ : Type} [DecidableEq κ] {X : Cx} {enc : κ → NestedKey}
def nNew (w : World) (enc : κ → NestedKey) : Hp → Addr → Hp → Prop := fun _ D H' => ND w H' enc D []
def nPut (w : World) (enc : κ → NestedKey) : Hp → Addr → V → V → (Hp → Prop) → Prop := fun H D y z Nx => ∃ (kvs : List (κ × V)) (k : κ), ND w H enc D kvs ∧ kvs.length < sizeLine ∧ TD H (enc k) y ∧ ∀ H', But D H H' → ND w H' enc D (putK kvs k z) → Nx H'
theorem fills_n (C : TCode enc) (hu : X.A.units + 64 < cLine) : Fills X (nNew X.w enc) (nPut X.w enc) where
  new := fun pins σ H s I => by
    obtain ⟨H', I', _, b, g⟩ := nd_new (enc := enc) I
    exact ⟨H', I', b, g⟩
  put := fun Y pins σ H s E D y z u r Nx e1 e2 e3 I ry rz ⟨kvs, k, g, hz, hk, q⟩ => by
    rw [← e2] at g
    refine n_dictSet C (by rw [e3]; exact hu) I g hz hk ry rz fun H' s' I' b' g' => ⟨H', I', q H' b' ?_⟩
    rw [e2] at g'
    exact g'
end

/-! ### a dict with truth values as keys -/
def leafB (b : Bool) : Leaf := .num (if b = true then 1 else 0)
def bdO (P : Program) (w : World) (d : Addr) (vs : List (Leaf × Value)) : HO := .ext fun h => h.DictOf (leafKind P w) d vs
def BD (P : Program) (w : World) (H : Hp) (d : Addr) (ks : List Bool) : Prop := (d == sysModules) = false ∧ ∃ vs, H d = some (bdO P w d vs) ∧ vs.map (·.1) = ks.map leafB ∧ ks.length ≤ sizeLine
theorem leafB_inj : ∀ {a b : Bool}, leafB a = leafB b → a = b := by
  intro a b
  cases a <;> cases b <;> simp [leafB]
theorem keys_stored_b {ks : List Bool} {vs : List (Leaf × Value)} (e : vs.map (·.1) = ks.map leafB) (b : Bool) (u : Value) : (stored vs (leafB b) u).map (·.1) = (if b ∈ ks then ks else ks ++ [b]).map leafB := by
  have hm : (vs.any fun kv => decide (kv.1 = leafB b)) = decide (b ∈ ks) := by
    have h1 : (vs.any fun kv => decide (kv.1 = leafB b)) = (vs.map (·.1)).any fun k => decide (k = leafB b) := by rw [List.any_map]; rfl
    rw [h1, e, List.any_map]
    by_cases h : b ∈ ks
    · rw [decide_eq_true h, List.any_eq_true]
      exact ⟨b, h, by simp⟩
    · rw [decide_eq_false h, List.any_eq_false]
      intro c hc q
      have q2 : leafB c = leafB b := by simpa using q
      exact h (leafB_inj q2 ▸ hc)
  unfold stored
  rw [hm]
  by_cases h : b ∈ ks
  · rw [if_pos (decide_eq_true h), if_pos h, ← e, List.map_map]
    refine List.map_congr_left fun p _ => ?_
    show (if p.1 = leafB b then (p.1, u) else p).1 = p.1
    split <;> rfl
  · rw [if_neg (by simp [h]), if_neg h, List.map_append, e, List.map_append]
    rfl
section
variable {X : Cx}
def bNew (P : Program) (w : World) : Hp → Addr → Hp → Prop := fun _ D H' => BD P w H' D []
def bPut (P : Program) (w : World) : Hp → Addr → V → V → (Hp → Prop) → Prop := fun H D y _ Nx => ∃ (ks : List Bool) (b : Bool), BD P w H D ks ∧ ks.length < sizeLine ∧ y = .bl b ∧ ∀ H', But D H H' → BD P w H' D (if b ∈ ks then ks else ks ++ [b]) → Nx H'
theorem bd_ok {P : Program} {w : World} {H : Hp} {h : Heap} {d : Addr} {vs : List (Leaf × Value)} (m : h.DictOf (leafKind P w) d vs) : ObjOk P w H h d (bdO P w d vs) := by
  obtain ⟨o, es, ep, e, r⟩ := id m
  exact ⟨m, ⟨o, e⟩, fun h1 h2 ⟨o, es, ep, e, r⟩ st => ⟨o, es, ep, st _ e, r⟩⟩
theorem fills_b : Fills X (bNew X.prog X.w) (bPut X.prog X.w) where
  new := fun pins σ H s I => ⟨upd H s.heap.objs.size (bdO X.prog X.w s.heap.objs.size []), I.laid (t' := s.toks) (fun _ _ q => Heap.get?_push_of_some _ q) (Nat.le_refl _) (bd_ok (Heap.DictOf.new s.heap)), But.of,
    beq_eq_false_iff_ne.mpr (Ne.symm (Nat.ne_of_lt I.big)), [], upd_same, rfl, Nat.zero_le _⟩
  put := fun Y pins σ H s E D y z u r Nx e1 e2 e3 I ry rz ⟨ks, b, ⟨hd, vs, e, hk, hl⟩, hz, ey, q⟩ => by
    subst ey
    obtain rfl : u = Value.bool b := ry
    rw [← e1, ← e2] at e
    have m : s.heap.DictOf (leafKind Y.prog Y.w) D vs := (I.hok D _ e).1
    have hlen : vs.length = ks.length := by
      have := congrArg List.length hk
      simpa using this
    refine wpAny_dictSet_pairs (hsz := by omega) (k := leafB b) (by cases b <;> rfl) m fun h' m' sb => ⟨upd H D (bdO Y.prog Y.w D (stored vs (leafB b) r)), ?_, ?_⟩
    · refine d_write I (by rw [e]; exact True.intro) sb ?_ (bd_ok m')
      obtain ⟨o, es, ep, e, _⟩ := m'
      exact ⟨o, e⟩
    · refine q _ But.of ⟨hd, _, by rw [← e1, ← e2]; exact upd_same, keys_stored_b hk b r, ?_⟩
      split
      · exact hl
      · rw [List.length_append, List.length_singleton]
        omega
theorem call_blen : CallR X (.builtin "len") (fun xs H Q => ∃ (d : Addr) (ks : List Bool), xs = [.ref d] ∧ BD X.prog X.w H d ks ∧ Q (.int ks.length) H) := by
  intro pins s σ H xs us Q I r h
  obtain ⟨d, ks, rfl, ⟨hd, vs, e, hk, hl⟩, q⟩ := h
  obtain rfl := Vals.ref1 r
  have m : s.heap.DictOf (leafKind X.prog X.w) d vs := (I.hok d _ e).1
  have hlen : vs.length = ks.length := by
    have := congrArg List.length hk
    simpa using this
  refine call_len_dict hd m (by rw [sizeLine_eq] at hl; omega) ?_
  rw [hlen]
  exact ⟨.int ks.length, H, I.tok _, ⟨_, rfl⟩, q⟩
end

/-! ### sorted -/
/-- codes whose data can be put in order -/
structure SCode {α : Type} (enc : α → NestedKey) : Prop extends TCode enc where
  al : ∀ x y, PySem.W.alike (enc x).data (enc y).data = true
  ne : ∀ x, ∃ k ks, enc x = .tup (k :: ks)
section
variable {α : Type} {enc : α → NestedKey} {H : Hp}
theorem each_zip {R : Value → V × α → Prop} (hR : ∀ u v x, RelV v u → TD H (enc x) v → R u (v, x)) : ∀ {vs : List V} {us : List Value} {xs : List α}, EV H enc vs xs → Vals vs us → PySem.W.EachIs R us (vs.zip xs)
  | _, _, _, .nil, .nil => .nil
  | _, _, _, .cons r t, .cons r2 t2 => .cons (hR _ _ _ r2 r) (each_zip hR t t2)
theorem zip_snd : ∀ {vs : List V} {xs : List α}, EV H enc vs xs → (vs.zip xs).map (·.2) = xs
  | _, _, .nil => rfl
  | _, _, .cons r t => by
    rw [List.zip_cons_cons, List.map_cons, zip_snd t]
theorem zip_td : ∀ {vs : List V} {xs : List α}, EV H enc vs xs → ∀ p ∈ vs.zip xs, TD H (enc p.2) p.1
  | _, _, .nil, p, h => by simp at h
  | _, _, .cons r t, p, h => by
    rw [List.zip_cons_cons] at h
    rcases List.mem_cons.mp h with e | h
    · rw [e]
      exact r
    · exact zip_td t p h
theorem ev_of_mem : ∀ {ps : List (V × α)}, (∀ p ∈ ps, TD H (enc p.2) p.1) → EV H enc (ps.map (·.1)) (ps.map (·.2))
  | [], _ => .nil
  | p :: ps, h => .cons (h p List.mem_cons_self) (ev_of_mem fun q hq => h q (List.mem_cons_of_mem _ hq))
theorem vals_of_each : ∀ {us : List Value} {ps : List (V × α)}, PySem.W.EachIs (fun u p => RelV p.1 u) us ps → Vals (ps.map (·.1)) us
  | _, _, .nil => .nil
  | _, _, .cons r t => .cons r (vals_of_each t)
/-- what the sorted list is, given the order on pairs -/
theorem sort_out {le : V × α → V × α → Bool} {vs : List V} {xs : List α} {us out : List Value} (e : EV H enc vs xs) (h : PySem.W.EachIs (fun u p => RelV p.1 u) out ((vs.zip xs).mergeSort le)) :
    ∃ vs' xs', xs'.Perm xs ∧ EV H enc vs' xs' ∧ Vals vs' out := by
  have pm : ((vs.zip xs).mergeSort le).Perm (vs.zip xs) := List.mergeSort_perm _ _
  refine ⟨_, ((vs.zip xs).mergeSort le).map (·.2), ?_, ev_of_mem fun p hp => zip_td e p (pm.mem_iff.mp hp), vals_of_each h⟩
  have := pm.map (·.2)
  rw [zip_snd e] at this
  exact this
theorem mem_zip_enc {C : α → PyData} {vs : List V} {xs : List α} {d : PyData} (h : d ∈ (vs.zip xs).map fun p => C p.2) : ∃ x, d = C x := by
  obtain ⟨p, _, e⟩ := List.mem_map.mp h
  exact ⟨p.2, e.symm⟩
theorem al_zip (S : SCode enc) (vs : List V) (xs : List α) : PySem.W.AllAlike ((vs.zip xs).map fun p => (enc p.2).data) := fun d hd d' hd' => by
  obtain ⟨x, rfl⟩ := mem_zip_enc (C := fun x => (enc x).data) hd
  obtain ⟨y, rfl⟩ := mem_zip_enc (C := fun x => (enc x).data) hd'
  exact S.al x y
theorem so_zip (S : SCode enc) (vs : List V) (xs : List α) : PySem.W.Sortable ((vs.zip xs).map fun p => (enc p.2).data) := .inl fun d hd => by
  obtain ⟨x, rfl⟩ := mem_zip_enc (C := fun x => (enc x).data) hd
  obtain ⟨k, ks, e⟩ := S.ne x
  show ∃ y r, (enc x).data = .tuple (y :: r)
  rw [e]
  exact ⟨_, _, by rw [NestedKey.data, NestedKey.datas]⟩
end
section
variable {α : Type} {enc : α → NestedKey} {X : Cx}
def rSortE (K : PySem.W.Frag) (enc : α → NestedKey) : List V → Hp → VK → Prop := fun args H Q => ∃ (a : Addr) (vs : List V) (xs : List α), args = [.ref a] ∧ SqL K H a vs ∧ EV H enc vs xs ∧
  ∀ (p : Addr) (vs' : List V) (xs' : List α), xs'.Perm xs → EV H enc vs' xs' → H p = none → Q (.ref p) (upd H p (.lst vs'))
theorem call_sortE (S : SCode enc) (hu : X.A.units + 64 < cLine) : CallR X (.builtin "sorted") (rSortE X.K enc) := by
  intro pins s σ H args us Q I r h
  obtain ⟨a, vs, xs, rfl, hl, he, q⟩ := h
  obtain rfl := Vals.ref1 r
  obtain ⟨its, rv, pl, hz⟩ := I.list hl
  have hlen : (vs.zip xs).length = its.length := by
    rw [List.length_zip, ← he.length, ← rv.length]
    omega
  refine PySem.W.sorted_data (R := fun u p => RelV p.1 u) (enc := fun p : V × α => (enc p.2).data) (bs := vs.zip xs) pl.isList (each_zip (fun u v x rr _ => rr) he rv)
    (each_zip (fun u v x rr tt => ⟨[], TD.reads I.hok _ _ _ tt rr⟩) he rv) (al_zip S vs xs) (so_zip S vs xs) (by rw [hlen, ← rv.length]; exact hz) (fun p _ => ?_) fun out ol oe => ?_
  · have h1 := S.dep p.2
    rw [depth_data]
    omega
  · obtain ⟨vs', xs', pm, ev', rv'⟩ := sort_out (us := its) he oe
    obtain ⟨ep, he'⟩ := PyProof.Rows.sortedAll_at s.heap its out.toArray
    have hlen' : vs'.length ≤ sizeLine := by
      rw [ev'.length, pm.length_eq, ← he.length]
      exact hz
    exact ⟨.ref _, upd H (s.heap.objs.size + 1) (.lst vs'), I.laid (t' := s.toks) (fun _ _ => PyProof.Rows.sortedAll_old) (Nat.le_succ _) ⟨hlen', out, ep, rv', he'⟩, rfl, q _ _ _ pm ev' (I.hok.fresh (Nat.le_succ _))⟩
end
/-! sorted(d) -/
section
variable {κ : Type} [DecidableEq κ] {enc : κ → NestedKey} {X : Cx} {pins : List (Addr × Obj)} {σ : L2.St} {H : Hp} {s : Shared} {d : Addr} {kvs : List (κ × V)}
/-- the keys of the dict, as values -/
theorem nd_keys {xs : List Ent} (x : NDat H enc kvs xs) : EV H enc (xs.map fun e => V.ref e.2.1) (kvs.map (·.1)) := by
  have r := x.rel
  clear x
  induction r with
  | nil => exact .nil
  | cons h t ih => exact .cons h.2.1 ih
theorem collect_n {A : Around} {R : List Value → Shared → Prop} {E : Value → Shared → Prop} (hh : A.handled = none) (I : Inv X pins σ H s) (g : NDr X.w H enc d kvs)
    (h : ∀ (h' : Heap) (tk : Nat) (xs : List Ent), NDat H enc kvs xs → (∀ b o, s.heap.get? b = some o → h'.get? b = some o) → R (xs.map fun e => Value.ref e.2.1) { s with heap := h', toks := tk }) :
    wpAny (model X.prog X.w) A (collect (.ref d)) R E s := by
  obtain ⟨hd, xs, e, x⟩ := g
  obtain ⟨⟨o, es, ep, h1, h2, h3, h4⟩, _, _⟩ := e.ok I.hok
  have hsz : es.size = xs.length := by rw [← Array.length_toList, h4, List.length_map]
  have hl : kvs.length = xs.length := Paired.length x.rel
  refine PySem.W.kdu_collect (kdl_raw hd h2 h3) hh h1 (by rw [hsz, ← hl]; exact x.sz) fun h' tk acc kp it => ?_
  have ea : acc.toList = xs.map fun e => Value.ref e.2.1 := by
    have hal : acc.toList.length = xs.length := by rw [Array.length_toList, it.1, hsz]
    apply List.ext_getElem?
    intro j
    rw [List.getElem?_map]
    by_cases hj : j < xs.length
    · have hj2 : j < acc.toList.length := by omega
      obtain ⟨en, hen, hv⟩ := it.2 j acc.toList[j] (by rw [← Array.getElem?_toList]; exact List.getElem?_eq_getElem hj2)
      rw [← Array.getElem?_toList, h4, List.getElem?_map, List.getElem?_eq_getElem hj] at hen
      rw [List.getElem?_eq_getElem hj2, List.getElem?_eq_getElem hj, hv, ← Option.some.inj hen]
      rfl
    · rw [List.getElem?_eq_none (by omega), List.getElem?_eq_none (by omega)]
      rfl
  rw [ea]
  exact h h' tk xs x kp
theorem vals_refsE : ∀ xs : List Ent, Vals (xs.map fun e => V.ref e.2.1) (xs.map fun e => Value.ref e.2.1)
  | [] => .nil
  | _ :: r => .cons rfl (vals_refsE r)
def rSortD (w : World) (enc : κ → NestedKey) : List V → Hp → VK → Prop := fun args H Q => ∃ (d : Addr) (kvs : List (κ × V)), args = [.ref d] ∧ NDr w H enc d kvs ∧
  ∀ (p : Addr) (vs' : List V) (xs' : List κ), xs'.Perm (kvs.map (·.1)) → EV H enc vs' xs' → H p = none → Q (.ref p) (upd H p (.lst vs'))
theorem call_sortD (S : SCode enc) (hc : X.calm = true) (hu : X.A.units + 64 < cLine) : CallR X (.builtin "sorted") (rSortD X.w enc) := by
  intro pins s σ H args us Q I r h
  obtain ⟨d, kvs, rfl, g, q⟩ := h
  obtain rfl := Vals.ref1 r
  have hz : kvs.length ≤ sizeLine := by
    obtain ⟨_, _, _, x⟩ := g
    exact x.sz
  refine Calls.call_function_entry PyProof.Rows.kind_sorted PyProof.Rows.plain_sorted PyProof.Rows.entry_sorted (PyProof.Rows.args_sorted1 _) ?_
  unfold Builtin.«sorted»
  refine wpAny_bind (m := checkCount "sorted" 1 1 _) (wpAny_pure ?_)
  refine wpAny_bind (collect_n (A := X.A.in1) (I.ok.hd hc) I g fun h' tk xs x kp => ?_)
  have hl : xs.length = kvs.length := (Paired.length x.rel).symm
  have he := nd_keys x
  have rv := vals_refsE xs
  have I1 : Inv X pins σ H { s with heap := h', toks := tk } := I.kept kp
  refine wpAny_bind (wpAny_newList ?_ (by rw [List.length_map, hl]; exact hz))
  have hoL : (h'.push (seqObj "list" (xs.map fun e => Value.ref e.2.1).toArray 0)).get? h'.objs.size = some (seqObj "list" (xs.map fun e => Value.ref e.2.1).toArray 0) := Heap.get?_push_size _ rfl
  have I2 : Inv X pins σ H { s with heap := h'.push (seqObj "list" (xs.map fun e => Value.ref e.2.1).toArray 0), toks := tk } := I1.kept fun b o e => Heap.get?_push_of_some _ e
  show wpAny _ _ _ _ _ { s with heap := h'.push (seqObj "list" (xs.map fun e => Value.ref e.2.1).toArray 0), toks := tk }
  refine wpAny_bind (wpAny_holding (PySem.W.list_sort_data (s := { s with heap := h'.push (seqObj "list" (xs.map fun e => Value.ref e.2.1).toArray 0), toks := tk }) (R := fun u p => RelV p.1 u) (enc := fun p : V × κ => (enc p.2).data)
    (bs := (xs.map fun e => V.ref e.2.1).zip (kvs.map (·.1))) hoL (each_zip (fun u v x rr _ => rr) he rv) (each_zip (fun u v x rr tt => ⟨[], TD.reads I2.hok _ _ _ tt rr, fun z => nomatch z⟩) he rv) (al_zip S _ _) (so_zip S _ _) ?_ (fun p _ => ?_) fun out ol oe => ?_))
  · rw [List.length_zip, List.length_map, List.length_map, hl]
    omega
  · have h1 := S.dep p.2
    rw [depth_data]
    show X.A.units + 1 + 1 + _ < _
    omega
  · obtain ⟨vs', xs', pm, ev', rv'⟩ := sort_out (us := xs.map fun e => Value.ref e.2.1) he oe
    obtain ⟨e', he'⟩ := PyProof.Rows.sortedHeap_at (vs := xs.map fun e => Value.ref e.2.1) (out := out.toArray) hoL
    have hlen' : vs'.length ≤ sizeLine := by
      rw [ev'.length, pm.length_eq, List.length_map]
      exact hz
    refine wpAny_pure ⟨_, rfl, .ref h'.objs.size, upd H h'.objs.size (.lst vs'), I1.laid (t' := tk) (fun b u e => ?_) (Nat.le_refl _) ⟨hlen', out, e', rv', he'⟩, rfl, q _ _ _ pm ev' (I1.hok.fresh (Nat.le_refl _))⟩
    have hb : b < h'.objs.size := Heap.lt_size e
    rw [PyProof.Rows.sortedHeap_old (Nat.ne_of_lt hb) (by rw [size_push']; exact Nat.lt_succ_of_lt hb)]
    exact Heap.get?_push_of_some _ e
end
end K97
set_option Elab.async false
set_option linter.all false
set_option maxRecDepth 100000
set_option maxHeartbeats 4000000
/-! sorted(d, key=lambda part: (len(part), part)) of a dict keyed by tuples. -/
namespace K97
open PySem PySem.Spec PyProof.Rows L2

abbrev lamBody (p1 p2 p3 p4 p5 : Pos) : Expr := .Tuple [.Call (.Name "len" p1) [.Name "part" p2] [] p3, .Name "part" p4] 0 p5
/-- the lambda's call: a pair of the tuple's length and itself -/
theorem lam_key {prog : Program} {w : World} {A : Around} {s : Shared} {mg mb : Str → Option Value} {f c' t : Addr} {pm ctv : Value} {q : Str} {params : Arguments} {scope : Scope} {p1 p2 p3 p4 p5 : Pos} {items : Array Value} {d : PyData}
    (hd : A.depth < recursionLimit) (hg : s.heap.Ns mainGlobals mg) (hl : mg "len" = none) (hb : s.heap.Ns builtinsNs mb) (hlb : mb "len" = some (Value.builtin "len")) (lim : s.heap.NoLimit)
    (hf : s.heap.get? f = some (PySem.W.kla_obj "<lambda>" q params (lamBody p1 p2 p3 p4 p5) scope [] pm c' ctv)) (hcode : s.heap.CodeRec (Value.ref c') q)
    (sk : scope.kind = .function) (sco : scope.isCoroutine = false) (sge : scope.isGenerator = false) (scell : ∀ x ∈ scope.names, x.2 ≠ .cell) (sp : scope.names.lookup ("part" : Str) = some NameKind.local) (sl : scope.names.lookup ("len" : Str) = some NameKind.globalImplicit)
    (hbind : bindArgs (PySem.W.kla_fn "<lambda>" q params (lamBody p1 p2 p3 p4 p5) scope [] pm (Value.ref c') ctv) ⟨[Value.ref t], []⟩ = pure [(("part" : Str), Value.ref t)])
    (ht : IsTup s.heap t items) (hz : items.size ≤ sizeLine) (hr : Reads s.heap (Value.ref t) d []) :
    wpAny (model prog w) A (call (Value.ref f) [Value.ref t]) (PySem.W.KeyPure (PyData.tuple [PyData.int items.size, d]) s) (fun _ _ => False) s := by
  have rc : codeAny (model prog w) A (.call (Value.ref f) ⟨[Value.ref t], []⟩) (fun r s' => ∃ u, r = .ok (.ret u) ∧ PySem.W.KeyPure (PyData.tuple [PyData.int items.size, d]) s u s') s := by
    refine PySem.W.kla_callFunE hd hf rfl sco sge rfl hcode ?_
    rw [hbind]
    refine wpAny_pure (wpAny_newFunctionEnv scell (fun y hy => ?_) (fun h1 hns hsb => ⟨lim.fresh _ hsb, ?_⟩) sk)
    · have e : y = (("part" : Str), Value.ref t) := by simpa using hy
      rw [e]
      exact sp
    · have kp : ∀ b o, s.heap.get? b = some o → h1.get? b = some o := fun b o e => hsb.extBut b o (Nat.ne_of_lt (Heap.lt_size e)) (Heap.get?_push_of_some _ e)
      have hns2 : h1.Ns s.heap.objs.size (fun x => ([("part", Value.ref t)] : List (Str × Value)).reverse.lookup x) := hns
      have lp : (fun x : Str => ([("part", Value.ref t)] : List (Str × Value)).reverse.lookup x) "part" = some (Value.ref t) := rfl
      refine PySem.W.kla_codeExpr (wpAny_mono (Q := fun v s' => PySem.W.KeyPure (PyData.tuple [PyData.int items.size, d]) s v s') (E := fun _ _ => False) ?_ (fun v s' h => ⟨v, rfl, h⟩) fun _ _ z => z.elim)
      refine wpAny_Tuple_spliced ?_
      refine Calls.spliced_cons ?_
      refine wpAny_Call_Name_kw (Calls.Name_function_global sk sl (Calls.loadGlobal_builtin (hg.keeps kp) hl (hb.keeps kp) hlb ?_))
      refine PyProof.Rows.callWith_builtin1 (Calls.spliced_cons (wpAny_Name (wpAny_loadName_local (m := fun x : Str => ([("part", Value.ref t)] : List (Str × Value)).reverse.lookup x) sk sp hns2 lp (Calls.spliced_nil ?_)) (by decide))) rfl rfl
      have ht1 : IsTup h1 t items := by
        obtain ⟨o, e, r⟩ := ht
        exact ⟨o, kp _ _ e, r⟩
      refine len_tuple ht1 (by have := sizeLine_eq; omega) ?_
      refine Calls.spliced_cons (wpAny_Name (wpAny_loadName_local (m := fun x : Str => ([("part", Value.ref t)] : List (Str × Value)).reverse.lookup x) sk sp hns2 lp (Calls.spliced_nil ⟨(by show 2 ≤ sizeLine; decide), ?_⟩)) (by decide))
      refine ⟨_, _, rfl, fun b o e => Heap.get?_push_of_some _ (kp b o e), ?_⟩
      refine .tuple (Heap.get?_push_size _ rfl) rfl rfl ?_
      exact ReadsAll.cons (as := []) (bs := []) (.int _ _) (ReadsAll.cons (as := []) (bs := []) (PyProof.Rows.Reads.keeps (fun b o e => Heap.get?_push_of_some _ (kp b o e)) hr) .nil)
  refine wpAny_call (codeAny_mono rc fun r s' hq => ?_)
  obtain ⟨u, rfl, hk⟩ := hq
  exact hk

/-! ### the call -/
section
variable {κ : Type} [DecidableEq κ] {X : Cx} {enc : κ → NestedKey}
def klen : NestedKey → Nat
  | .tup ks => ks.length
  | _ => 0
/-- codes whose data are alike, and can be told apart from nothing else -/
structure LCode (enc : κ → NestedKey) : Prop extends TCode enc where
  al : ∀ x y, PySem.W.alike (enc x).data (enc y).data = true
def lamD (enc : κ → NestedKey) (p : V × κ) : PyData := .tuple [.int (klen (enc p.2)), (enc p.2).data]
theorem tds_len {H : Hp} : ∀ {ks : List NestedKey} {vs : List V}, TDs H ks vs → vs.length = ks.length
  | [], vs, h => by
    have h : vs = [] := h
    rw [h]
    rfl
  | k :: ks, vs, h => by
    obtain ⟨v, r, rfl, _, h2⟩ := h
    rw [List.length_cons, tds_len h2, List.length_cons]
def sortLEnd (w : World) (enc : κ → NestedKey) (T : List (Addr × Str)) (Q : VK) (x : V) (H1 : Hp) : Prop := LamX.Tabs T H1 ∧ ∃ (d : Addr) (kvs : List (κ × V)), x = .ref d ∧ ND w H1 enc d kvs ∧
  ∀ (H2 : Hp) (p : Addr) (vs' : List V) (xs' : List κ), LamX.ExtN H1 H2 → LamX.Tabs T H2 → xs'.Perm (kvs.map (·.1)) → EV H2 enc vs' xs' → H2 p = none → Q (.ref p) (upd H2 p (.lst vs'))
def tSortL (w : World) (enc : κ → NestedKey) (T : List (Addr × Str)) (te : TE) : TE := fun σ H Q => te σ H fun x H1 => sortLEnd w enc T Q x H1
def oneOf (R : V → Hp → Prop) : List V → Hp → Prop
  | [x], H => R x H
  | _, _ => False
theorem oneOf_of {R : V → Hp → Prop} : ∀ {vs : List V} {H : Hp}, oneOf R vs H → ∃ x, vs = [x] ∧ R x H
  | [x], H, h => ⟨x, rfl, h⟩
  | [], _, h => h.elim
  | _ :: _ :: _, _, h => h.elim
theorem ndO_tbl {w : World} {d : Addr} {xs : List Ent} (ps : Array Value) : ndO w d xs ≠ .tbl ps := fun z => by
  unfold ndO at z
  cases z
theorem nd_ext {w : World} {H H' : Hp} {d : Addr} {kvs : List (κ × V)} (e : LamX.ExtN H H') (g : ND w H enc d kvs) : ND w H' enc d kvs := by
  obtain ⟨hd, xs, h, x⟩ := g
  exact ⟨hd, xs, e _ _ h ndO_tbl, x.tk fun b ys hb => e _ _ hb fun ps z => by cases z⟩
theorem pe_sortLam {T : List (Addr × Str)} {c P : Addr} {e : Expr} {te : TE} {params : Arguments} {scope : Scope} {p pos lpos kpos p1 p2 p3 p4 p5 : Pos} (S : LCode enc) (hc : X.calm = true) (hu : X.A.units + 64 < cLine) (hdep : X.A.depth + 5 < recursionLimit)
    (hgs : Gl X "sorted") (hms : X.mg "sorted" = none) (hml : X.mg "len" = none)
    (TB : LamX.TabB X.base X.mg c P) (hcode : X.env.code = .ref c) (hmT : (P, X.env.qual ++ "<lambda>") ∈ T) (huT : ∀ p ∈ T, p.1 = P → p.2 = X.env.qual ++ "<lambda>") (hdef : defaultsOf params X.env = ([], []))
    (sfree : ∀ y ∈ scope.names, y.2 ≠ .free) (sclo : ∀ cells : List (Str × Addr), cloFrom cells scope.names [] = [])
    (sk : scope.kind = .function) (sco : scope.isCoroutine = false) (sge : scope.isGenerator = false) (scell : ∀ x ∈ scope.names, x.2 ≠ .cell) (sp : scope.names.lookup ("part" : Str) = some NameKind.local) (sl : scope.names.lookup ("len" : Str) = some NameKind.globalImplicit)
    (hbind : ∀ (q : Str) (t c' : Addr) (pm ctv : Value), bindArgs (PySem.W.kla_fn "<lambda>" q params (lamBody p1 p2 p3 p4 p5) scope [] pm (Value.ref c') ctv) ⟨[Value.ref t], []⟩ = pure [(("part" : Str), Value.ref t)])
    (he : PE X e te) (hs : starEach (e :: []) X.env = (false, eval e X.env) :: starEach [] X.env := by rfl) :
    PE X (.Call (.Name "sorted" p) [e] [⟨some "key", .Lambda params (lamBody p1 p2 p3 p4 p5) scope lpos, kpos⟩] pos) (tSortL X.w enc T te) := by
  refine ⟨fun pins s σ H Q I h => ?_⟩
  refine wpAny_Call_Name_kw (ld_blt I hgs hms boot_sorted ?_)
  refine PyProof.Rows.callWith_kw (thn ((pa_cons he pa_nil hs).run pos pins s σ H (oneOf (sortLEnd X.w enc T Q)) I h) fun us s1 ⟨vs, H1, I1, r1, q1⟩ => ?_) (by rw [hs]; rfl) (by rw [hs]; rfl) rfl rfl
  obtain ⟨x, ev, hT, d, kvs, ex, g, q⟩ := oneOf_of q1
  subst ev ex
  obtain rfl := Vals.ref1 r1
  show wpAny _ _ (evalAll [do let v ← eval (.Lambda params (lamBody p1 p2 p3 p4 p5) scope lpos) X.env; standAt pos; pure v]) _ _ s1
  refine wpAny_evalAll_cons (wpAny_bind (LamX.lam_make2 I1 TB hcode hmT huT hT hdef (fun y hy e => absurd e (sfree y hy)) fun f c' pm ctv H2 s2 I2 eN T2 hf hfn hfr hco => wpAny_bind (wpAny_standAt (wpAny_pure (wpAny_evalAll_nil ?_)))))
  show wpAny _ _ (call (.builtin "sorted") [.ref d] [(Str.ofString "key", .ref f)]) _ _ s2
  rw [sclo] at hf
  have g2 := nd_ext eN g
  have hz : kvs.length ≤ sizeLine := g2.sz
  refine PyProof.Rows.call_function_entry_kw PyProof.Rows.kind_sorted PyProof.Rows.plain_sorted PyProof.Rows.entry_sorted (PyProof.Rows.ksk_s1 _ _) ?_
  unfold Builtin.«sorted»
  refine wpAny_bind (m := checkCount "sorted" 1 1 _) (wpAny_pure ?_)
  refine wpAny_bind (collect_n (A := X.A.in1) (I2.ok.hd hc) I2 g2.r fun h' tk xs x kp => ?_)
  have hl : xs.length = kvs.length := (Paired.length x.rel).symm
  have he := nd_keys x
  have rv := vals_refsE xs
  have I3 : Inv X pins σ H2 { s2 with heap := h', toks := tk } := I2.kept kp
  refine wpAny_bind (wpAny_newList ?_ (by rw [List.length_map, hl]; exact hz))
  have hoL : (h'.push (seqObj "list" (xs.map fun e => Value.ref e.2.1).toArray 0)).get? h'.objs.size = some (seqObj "list" (xs.map fun e => Value.ref e.2.1).toArray 0) := Heap.get?_push_size _ rfl
  show wpAny _ _ _ _ _ { s2 with heap := h'.push (seqObj "list" (xs.map fun e => Value.ref e.2.1).toArray 0), toks := tk }
  refine wpAny_bind (wpAny_holding (PySem.W.list_sort_key_data (s := { s2 with heap := h'.push (seqObj "list" (xs.map fun e => Value.ref e.2.1).toArray 0), toks := tk }) (b := false) (R := fun u p => RelV p.1 u ∧ TD H2 (enc p.2) p.1) (lamD enc)
    (bs := (xs.map fun e => V.ref e.2.1).zip (kvs.map (·.1))) hoL (each_zip (fun u v x rr tt => ⟨rr, tt⟩) he rv) ?al ?so ?sz (fun p _ => ?dp) (PyProof.Rows.ksk_l1 _ _) (PyProof.Rows.ksk_t1 _ _) ?turn fun out c1 h4 tk4 kb oD ol oe => ?_))
  case al =>
    intro d1 hd1 d2 hd2
    obtain ⟨a1, _, rfl⟩ := List.mem_map.mp hd1
    obtain ⟨a2, _, rfl⟩ := List.mem_map.mp hd2
    simp [lamD, PySem.W.alike, PySem.W.alikeAll, S.al]
  case so =>
    refine .inl fun d1 hd1 => ?_
    obtain ⟨a1, _, rfl⟩ := List.mem_map.mp hd1
    exact ⟨_, _, rfl⟩
  case sz =>
    rw [List.length_zip, List.length_map, List.length_map, hl]
    omega
  case dp =>
    have h1 := S.dep p.2
    have h2 : (lamD enc p).depth ≤ 9 := by
      simp only [lamD, PyData.depth, PyData.depthAll, depth_data]
      omega
    show X.A.units + 1 + 1 + _ < _
    omega
  case turn =>
    intro v p hR hp h5 tk5 kb
    obtain ⟨rr, tt⟩ := hR
    have up : ∀ b o, s2.heap.get? b = some o → h5.get? b = some o := fun b o e => by
      have e1 := kp b o e
      exact kb b o (Nat.ne_of_lt (Heap.lt_size e1)) (Heap.get?_push_of_some _ e1)
    have I5 : Inv X pins σ H2 { s2 with heap := h5, toks := tk5 } := I2.kept up
    obtain ⟨ks, ek⟩ := S.tup p.2
    have tt2 := tt
    rw [ek] at tt2
    obtain ⟨t, vs, ev, ht, hts⟩ := tt2
    have ru := rr
    rw [ev] at ru
    obtain rfl : v = Value.ref t := ru
    obtain ⟨z, its, rvs, itp⟩ := (show ObjOk X.prog X.w H2 h5 t (.tup vs) from I5.hok t _ ht)
    obtain ⟨oc, fs, tq, e1, e2, e3⟩ := (I5.hok c' _ hco).1
    obtain ⟨mb, hb1, hb2⟩ := I5.mod.blt
    have key := lam_key (prog := X.prog) (w := X.w) (A := X.A.in1.in1) (s := { s2 with heap := h5, toks := tk5 }) (mg := X.mg) (mb := mb) (f := f) (c' := c') (t := t) (pm := pm) (ctv := ctv) (q := X.env.qual ++ "<lambda>") (params := params) (scope := scope) (items := its.toArray) (d := (enc p.2).data)
      (by show X.A.depth < _; omega) (I5.mod.glob.keeps I5.bk) hml (hb1.keeps I5.bk) ((hb2 "len" (by decide)).trans boot_len) I5.nolimit (up _ _ hf) ⟨c', oc, fs, tq, rfl, e1, e2, e3⟩ sk sco sge scell sp sl (hbind _ _ _ _ _) itp
      (by rw [List.size_toArray, ← rvs.length]; exact z) (TD.reads I5.hok _ _ _ tt rr)
    have en : (its.toArray.size : Int) = (klen (enc p.2) : Int) := by
      rw [ek, List.size_toArray, ← rvs.length, tds_len hts]
      rfl
    rw [en] at key
    exact key
  obtain ⟨vs', xs', pm', ev', rv'⟩ := sort_out (us := xs.map fun e => Value.ref e.2.1) he (oe.mono fun u p hp => hp.1)
  have hlen' : vs'.length ≤ sizeLine := by
    rw [ev'.length, pm'.length_eq, List.length_map]
    exact hz
  refine wpAny_pure ⟨_, rfl, .ref h'.objs.size, upd H2 h'.objs.size (.lst vs'), I3.laid (t' := tk4) (fun b u e => ?_) (Nat.le_refl _) ⟨hlen', out, c1, rv', oD⟩, rfl, q _ _ _ _ eN T2 pm' ev' (I3.hok.fresh (Nat.le_refl _))⟩
  exact kb b u (Nat.ne_of_lt (Heap.lt_size e)) (Heap.get?_push_of_some _ e)
end
end K97
set_option Elab.async false
set_option linter.all false
set_option maxRecDepth 100000
set_option maxHeartbeats 4000000
/-! Ids, vertices, changes, patches: what they are, how the heap bears them. -/
namespace K97
open PySem PySem.Spec PyProof.Rows L2

structure Id where
  au : _root_.Fin 3
  no : Int
  deriving DecidableEq
structure Vx where
  id : Id
  pl : Int
  ix : Int
  deriving DecidableEq
structure Lab where
  lvl : Int
  ms : List Int
def auS : _root_.Fin 3 → Str
  | 0 => "ann"
  | 1 => "bo"
  | 2 => "cy"
def labK (L : Lab) : NestedKey := .tup [.text "label", .num L.lvl, .tup (L.ms.map .num)]
def idK (L : Lab) (i : Id) : NestedKey := .tup [labK L, .text (auS i.au), .num i.no]
def vxK (L : Lab) (v : Vx) : NestedKey := .tup [idK L v.id, .num v.pl, .num v.ix]
def idsK (L : Lab) (xs : List Id) : NestedKey := .tup (xs.map (idK L))

theorem auS_inj : ∀ a b : _root_.Fin 3, auS a = auS b → a = b := by decide
theorem auS_ok : ∀ a : _root_.Fin 3, PyData.strOk (auS a) = true := by decide +kernel
theorem label_ok : PyData.strOk "label" = true := by decide +kernel
theorem nums_lay : ∀ xs : List Int, PyData.canLayAll0 (NestedKey.datas (xs.map .num)) = true
  | [] => by simp [NestedKey.datas, PyData.canLayAll0]
  | x :: xs => by simp [NestedKey.datas, NestedKey.data, PyData.canLayAll0, PyData.canLay0, nums_lay xs]
theorem nums_depth : ∀ xs : List Int, NestedKey.depthAll (xs.map .num) = 0
  | [] => by simp [NestedKey.depthAll]
  | x :: xs => by simp [NestedKey.depthAll, NestedKey.depth, nums_depth xs]
theorem nums_al : ∀ xs : List Int, PySem.W.alikeAll (NestedKey.datas (xs.map .num)) (NestedKey.datas (xs.map .num)) = true
  | [] => by simp [NestedKey.datas, PySem.W.alikeAll]
  | x :: xs => by simp [NestedKey.datas, NestedKey.data, PySem.W.alikeAll, PySem.W.alike, nums_al xs]
theorem id_depth (L : Lab) (i : Id) : (idK L i).depth ≤ 3 := by simp [idK, labK, NestedKey.depth, NestedKey.depthAll, nums_depth]
theorem id_lay (L : Lab) (i : Id) : (idK L i).data.canLay0 = true := by
  simp [idK, labK, NestedKey.data, NestedKey.datas, PyData.canLay0, PyData.canLayAll0, nums_lay, auS_ok, label_ok]
theorem id_al (L : Lab) (i j : Id) : PySem.W.alike (idK L i).data (idK L j).data = true := by
  simp [idK, labK, NestedKey.data, NestedKey.datas, PySem.W.alike, PySem.W.alikeAll, nums_al]
theorem id_inj (L : Lab) : ∀ i j, idK L i = idK L j → i = j := by
  rintro ⟨a, n⟩ ⟨b, m⟩ h
  simp only [idK, NestedKey.tup.injEq, List.cons.injEq, NestedKey.text.injEq, NestedKey.num.injEq, and_true] at h
  obtain ⟨_, h1, h2⟩ := h
  rw [auS_inj _ _ h1, h2]
theorem idC (L : Lab) : SCode (idK L) where
  inj := id_inj L
  dep := fun i => Nat.le_trans (id_depth L i) (by decide)
  lay := id_lay L
  tup := fun i => ⟨_, rfl⟩
  al := id_al L
  ne := fun i => ⟨_, _, rfl⟩
theorem vxC (L : Lab) : SCode (vxK L) where
  inj := by
    rintro ⟨a, n, k⟩ ⟨b, m, l⟩ h
    simp only [vxK, NestedKey.tup.injEq, List.cons.injEq, NestedKey.num.injEq, and_true] at h
    obtain ⟨h0, h1, h2⟩ := h
    rw [id_inj L _ _ h0, h1, h2]
  dep := fun v => by
    have := id_depth L v.id
    simp only [vxK, NestedKey.depth, NestedKey.depthAll]
    omega
  lay := fun v => by simp [vxK, NestedKey.data, NestedKey.datas, PyData.canLay0, PyData.canLayAll0, id_lay]
  tup := fun i => ⟨_, rfl⟩
  al := fun i j => by simp [vxK, NestedKey.data, NestedKey.datas, PySem.W.alike, PySem.W.alikeAll, id_al]
  ne := fun i => ⟨_, _, rfl⟩
theorem ids_inj (L : Lab) : ∀ xs ys : List Id, xs.map (idK L) = ys.map (idK L) → xs = ys
  | [], [], _ => rfl
  | [], _ :: _, h => by simp at h
  | _ :: _, [], h => by simp at h
  | x :: xs, y :: ys, h => by
    rw [List.map_cons, List.map_cons] at h
    injection h with h1 h2
    rw [id_inj L _ _ h1, ids_inj L xs ys h2]
theorem ids_depth (L : Lab) : ∀ xs : List Id, NestedKey.depthAll (xs.map (idK L)) ≤ 3
  | [] => by simp [NestedKey.depthAll]
  | x :: xs => by
    have h1 := id_depth L x
    have h2 := ids_depth L xs
    simp only [List.map_cons, NestedKey.depthAll]
    omega
theorem ids_lay (L : Lab) : ∀ xs : List Id, PyData.canLayAll0 (NestedKey.datas (xs.map (idK L))) = true
  | [] => by simp [NestedKey.datas, PyData.canLayAll0]
  | x :: xs => by simp [NestedKey.datas, PyData.canLayAll0, id_lay, ids_lay L xs]
theorem ids_al (L : Lab) : ∀ xs ys : List Id, PySem.W.alikeAll (NestedKey.datas (xs.map (idK L))) (NestedKey.datas (ys.map (idK L))) = true
  | [], [] => by simp [NestedKey.datas, PySem.W.alikeAll]
  | [], _ :: _ => by simp [NestedKey.datas, PySem.W.alikeAll]
  | _ :: _, [] => by simp [NestedKey.datas, PySem.W.alikeAll]
  | x :: xs, y :: ys => by simp [NestedKey.datas, PySem.W.alikeAll, id_al, ids_al L xs ys]
theorem idsC (L : Lab) : LCode (idsK L) where
  inj := fun xs ys h => by
    simp only [idsK, NestedKey.tup.injEq] at h
    exact ids_inj L xs ys h
  dep := fun xs => by
    have := ids_depth L xs
    simp only [idsK, NestedKey.depth]
    omega
  lay := fun xs => by simp [idsK, NestedKey.data, PyData.canLay0, ids_lay]
  tup := fun xs => ⟨_, rfl⟩
  al := fun xs ys => by simp [idsK, NestedKey.data, PySem.W.alike, ids_al]

/-! ### lists of data -/
/-- at l stands a list of these data -/
def LE {α : Type} (H : Hp) (enc : α → NestedKey) (l : Addr) (xs : List α) : Prop := ∃ vs, H l = some (.lst vs) ∧ EV H enc vs xs
theorem LE.same {α : Type} {H H' : Hp} {enc : α → NestedKey} {l : Addr} {xs : List α} (s : Same H H') (h : LE H enc l xs) : LE H' enc l xs := let ⟨vs, a, b⟩ := h; ⟨vs, s _ _ a, b.tk (Tk.of_same s)⟩
/-- lists of lists of data -/
def LLE {α : Type} (H : Hp) (enc : α → NestedKey) (l : Addr) (xss : List (List α)) : Prop := ∃ vs, H l = some (.lst vs) ∧ Paired (fun v xs => ∃ a, v = .ref a ∧ LE H enc a xs) vs xss
theorem LLE.same {α : Type} {H H' : Hp} {enc : α → NestedKey} {l : Addr} {xss : List (List α)} (s : Same H H') (h : LLE H enc l xss) : LLE H' enc l xss :=
  let ⟨vs, a, b⟩ := h; ⟨vs, s _ _ a, Paired.mapP b fun _ _ ⟨c, e, q⟩ => ⟨c, e, q.same s⟩⟩
theorem pget {α β : Type} {F : α → β → Prop} : ∀ {l₁ : List α} {l₂ : List β} {i : Nat} {a : α}, Paired F l₁ l₂ → l₁[i]? = some a → ∃ b, l₂[i]? = some b ∧ F a b
  | _, _, _, _, .nil, e => by simp at e
  | _, _, 0, _, .cons r t, e => by
    simp at e
    subst e
    exact ⟨_, rfl, r⟩
  | _, _, i + 1, _, .cons r t, e => by
    obtain ⟨x, h1, h2⟩ := pget (i := i) t (by simpa using e)
    exact ⟨x, by simpa using h1, h2⟩
theorem pgetr {α β : Type} {F : α → β → Prop} : ∀ {l₁ : List α} {l₂ : List β} {i : Nat} {b : β}, Paired F l₁ l₂ → l₂[i]? = some b → ∃ a, l₁[i]? = some a ∧ F a b
  | _, _, _, _, .nil, e => by simp at e
  | _, _, 0, _, .cons r t, e => by
    simp at e
    subst e
    exact ⟨_, rfl, r⟩
  | _, _, i + 1, _, .cons r t, e => by
    obtain ⟨x, h1, h2⟩ := pgetr (i := i) t (by simpa using e)
    exact ⟨x, by simpa using h1, h2⟩
theorem papp {α β : Type} {F : α → β → Prop} : ∀ {l₁ m₁ : List α} {l₂ m₂ : List β}, Paired F l₁ l₂ → Paired F m₁ m₂ → Paired F (l₁ ++ m₁) (l₂ ++ m₂)
  | _, _, _, _, .nil, q => q
  | _, _, _, _, .cons r t, q => .cons r (papp t q)

/-! ### changes, patches -/
inductive Ch where
  | add
  | back (i : Id)
  | move (f : Vx) (olds : List Vx)
  | drop (f : Vx) (olds : List Vx)
  | cut (f : Vx) (vs : List Vx)
  | order (f a b : Vx)
  | lines (f : Vx) (ups downs : List Vx) (n : Nat)
/-- the names in it; the lines in it -/
def Ch.olds : Ch → List Vx
  | .move _ xs => xs
  | .drop _ xs => xs
  | _ => []
def Ch.lns : Ch → List Vx
  | .cut _ xs => xs
  | .order _ a b => [a, b]
  | .lines _ u d _ => u ++ d
  | _ => []
def Ch.file : Ch → Option Vx
  | .add => none
  | .back _ => none
  | .move f _ => some f
  | .drop f _ => some f
  | .cut f _ => some f
  | .order f _ _ => some f
  | .lines f _ _ _ => some f
def Ch.vx (c : Ch) : List Vx := match c.file with
  | none => []
  | some f => f :: (c.olds ++ c.lns)
/-- the ids that it takes back -/
def Ch.bk : Ch → List Id
  | .back i => [i]
  | _ => []
def Ch.small (c : Ch) : Prop := c.vx.length ≤ 500 ∧ match c with
  | .lines _ _ _ n => n ≤ 500
  | _ => True
def ChAt (L : Lab) (H : Hp) (v : V) : Ch → Prop
  | .add => ∃ a p, v = .ref a ∧ H a = some (.tup [.str "add", p])
  | .back i => ∃ a u, v = .ref a ∧ H a = some (.tup [.str "back", u]) ∧ TD H (idK L i) u
  | .move f xs => ∃ a fv pa ps l, v = .ref a ∧ H a = some (.tup [.str "move", fv, .ref pa, .ref l]) ∧ H pa = some (.tup ps) ∧ TD H (vxK L f) fv ∧ LE H (vxK L) l xs
  | .drop f xs => ∃ a fv l, v = .ref a ∧ H a = some (.tup [.str "drop", fv, .ref l]) ∧ TD H (vxK L f) fv ∧ LE H (vxK L) l xs
  | .cut f xs => ∃ a fv l, v = .ref a ∧ H a = some (.tup [.str "cut", fv, .ref l]) ∧ TD H (vxK L f) fv ∧ LE H (vxK L) l xs
  | .order f x y => ∃ a fv xv yv, v = .ref a ∧ H a = some (.tup [.str "order", fv, xv, yv]) ∧ TD H (vxK L f) fv ∧ TD H (vxK L x) xv ∧ TD H (vxK L y) yv
  | .lines f u d n => ∃ a fv lu ld lt ts, v = .ref a ∧ H a = some (.tup [.str "lines", fv, .ref lu, .ref ld, .ref lt]) ∧ TD H (vxK L f) fv ∧ LE H (vxK L) lu u ∧ LE H (vxK L) ld d ∧ H lt = some (.lst ts) ∧ ts.length = n
theorem ChAt.same {L : Lab} {H H' : Hp} (s : Same H H') {v : V} : ∀ {c : Ch}, ChAt L H v c → ChAt L H' v c
  | .add, ⟨a, p, e, h⟩ => ⟨a, p, e, s _ _ h⟩
  | .back i, ⟨a, u, e, h, q⟩ => ⟨a, u, e, s _ _ h, TD.tk (Tk.of_same s) _ _ q⟩
  | .move f xs, ⟨a, fv, pa, ps, l, e, h, h2, q, r⟩ => ⟨a, fv, pa, ps, l, e, s _ _ h, s _ _ h2, TD.tk (Tk.of_same s) _ _ q, r.same s⟩
  | .drop f xs, ⟨a, fv, l, e, h, q, r⟩ => ⟨a, fv, l, e, s _ _ h, TD.tk (Tk.of_same s) _ _ q, r.same s⟩
  | .cut f xs, ⟨a, fv, l, e, h, q, r⟩ => ⟨a, fv, l, e, s _ _ h, TD.tk (Tk.of_same s) _ _ q, r.same s⟩
  | .order f x y, ⟨a, fv, xv, yv, e, h, q, r, t⟩ => ⟨a, fv, xv, yv, e, s _ _ h, TD.tk (Tk.of_same s) _ _ q, TD.tk (Tk.of_same s) _ _ r, TD.tk (Tk.of_same s) _ _ t⟩
  | .lines f u d n, ⟨a, fv, lu, ld, lt, ts, e, h, q, r, t, y, z⟩ => ⟨a, fv, lu, ld, lt, ts, e, s _ _ h, TD.tk (Tk.of_same s) _ _ q, r.same s, t.same s, s _ _ y, z⟩
structure Pa where
  id : Id
  chs : List Ch
/-- the ids that it needs: as the program says, as the law says -/
def Pa.vn (p : Pa) : List Id := (p.chs.flatMap fun c => c.vx.map (·.id)).filter fun i => decide (i ≠ p.id)
def Pa.bk (p : Pa) : List Id := p.chs.flatMap Ch.bk
def Pa.needs (p : Pa) : List Id := p.vn ++ p.bk
structure Pa.ok (p : Pa) : Prop where
  few : p.chs.length ≤ 12
  small : ∀ c ∈ p.chs, c.small
def PaAt (L : Lab) (H : Hp) (v : V) (p : Pa) : Prop := ∃ a iv l nt vs, v = .ref a ∧ H a = some (.tup [.str "patch", iv, .ref l, nt]) ∧ TD H (idK L p.id) iv ∧ H l = some (.lst vs) ∧ Paired (ChAt L H) vs p.chs
theorem PaAt.same {L : Lab} {H H' : Hp} (s : Same H H') {v : V} {p : Pa} (h : PaAt L H v p) : PaAt L H' v p :=
  let ⟨a, iv, l, nt, vs, e, h1, h2, h3, h4⟩ := h; ⟨a, iv, l, nt, vs, e, s _ _ h1, TD.tk (Tk.of_same s) _ _ h2, s _ _ h3, Paired.mapP h4 fun _ _ q => q.same s⟩
/-- the module's names that are still the built-ins -/
structure Bt (mg : Str → Option Value) : Prop where
  len : mg "len" = none
  sorted : mg "sorted" = none
  list : mg "list" = none
  tuple : mg "tuple" = none
  range : mg "range" = none
  max : mg "max" = none
  int : mg "int" = none
  abs : mg "abs" = none
  isi : mg "isinstance" = none
end K97
set_option Elab.async false
set_option linter.all false
set_option maxRecDepth 100000
set_option maxHeartbeats 4000000
/-! What every def's proof uses. -/
namespace K97
open PySem PySem.Spec PyProof.Rows L2
theorem iF {c : Bool} {A B : Prop} (h : c = false) (hb : B) : if c = true then A else B := by
  rw [h, if_neg Bool.false_ne_true]
  exact hb
theorem iT {c : Bool} {A B : Prop} (h : c = true) (ha : A) : if c = true then A else B := by
  rw [if_pos h]
  exact ha
theorem iB {c : Bool} {A B : Prop} (ha : c = true → A) (hb : c = false → B) : if c = true then A else B := by
  cases c with
  | true => exact iT rfl (ha rfl)
  | false => exact iF rfl (hb rfl)
theorem same_new {H : Hp} {p : Addr} {o : HO} (n : H p = Option.none) : Same H (upd H p o) := fun b u h => by
  rw [upd_ne (ne_of_none h n)]
  exact h
theorem same_but {H H' : Hp} {p : Addr} (n : H p = Option.none) (b : But p H H') : Same H H' := fun a u h => by
  rw [b a (ne_of_none h n)]
  exact h
/-- a def where it stands behind the top -/
def At (K : PySem.W.Frag) (mg : Str → Option Value) (x : Str) (st : Stmt) : Prop := ∃ f fd, DefAt K x x st f fd ∧ mg x = some (.ref f)
/-- a def that keeps its promise, ready to be called -/
def Df (P : Program) (w : World) (K : PySem.W.Frag) (mg : Str → Option Value) (base : Heap) (k : Nat) (x : Str) (ps : List Str) (sp : Sp) : Prop :=
  ∃ f fd, FnOk P w K mg base CX0 k f fd ps sp ∧ Binds K fd ps [] ∧ PySem.W.keepIn K (.ref f) = true ∧ mg x = some (.ref f)
theorem At.df {P : Program} {w : World} {K : PySem.W.Frag} {mg : Str → Option Value} {base : Heap} {x : Str} {st : Stmt} {ps : List Str} {k : Nat} {sp : Sp} (A : At K mg x st)
    (hb : ∀ (kV doc pm : Value) (an : Option Addr) (cdv ct : Value) (us : List Value), us.length = ps.length → bindArgs (PySem.W.fnOf x x (defArgs st) (defBody st) (defScope st) .none kV doc pm an cdv ct) ⟨us, []⟩ = pure (ps.zip us))
    (ok : ∀ (f : Addr) (fd : FuncData), DefAt K x x st f fd → FnOk P w K mg base CX0 k f fd ps sp) : Df P w K mg base k x ps sp := by
  obtain ⟨f, fd, F, m⟩ := A
  exact ⟨f, fd, ok f fd F, FunD.bindsN F hb, F.kp, m⟩
theorem Df.mono {P : Program} {w : World} {K : PySem.W.Frag} {mg : Str → Option Value} {base : Heap} {x : Str} {ps : List Str} {j k : Nat} {sp : Sp} (D : Df P w K mg base j x ps sp) (h : j ≤ k) : Df P w K mg base k x ps sp := by
  obtain ⟨f, fd, a, b, c, d⟩ := D
  exact ⟨f, fd, a.mono h, b, c, d⟩
theorem pe_df {X : Cx} {x : Str} {ps : List Str} {k : Nat} {sp : Sp} {e : Expr} {es : List Expr} {t : TA} {p pos : Pos} (D : Df X.prog X.w X.K X.mg X.base k x ps sp) (hr : Room k X.A) (hg : Gl X x) (ha : PA X (e :: es) t)
    (hdb : (x == ("__debug__" : Str)) = false := by decide) (he : starEach (e :: es) X.env = (false, eval e X.env) :: starEach es X.env := by rfl) (hpl : (backTo pos (starEach es X.env)).any (·.1) = false := by rfl) :
    PE X (.Call (.Name x p) (e :: es) [] pos) (tCall sp [] E0 t) := by
  obtain ⟨f, fd, a, b, c, d⟩ := D
  exact pe_call a hr hg d c b .nil pass0 ha hdb he hpl

/-! ### heaps kept but for one object -/
def Kp (d : Addr) (H H' : Hp) : Prop := ∀ b o, b ≠ d → H b = some o → H' b = some o
theorem Kp.refl {d : Addr} {H : Hp} : Kp d H H := fun _ _ _ h => h
theorem Kp.trans {d : Addr} {H H1 H2 : Hp} (a : Kp d H H1) (b : Kp d H1 H2) : Kp d H H2 := fun c o n h => b c o n (a c o n h)
theorem Kp.of {d : Addr} {H H' : Hp} (s : Same H H') : Kp d H H' := fun b o _ h => s b o h
theorem Kp.but {d : Addr} {H H' : Hp} (b : But d H H') : Kp d H H' := fun a o n h => by
  rw [b a n]
  exact h
theorem Kp.upd {d : Addr} {H : Hp} {o : HO} : Kp d H (upd H d o) := Kp.but But.of
/-- what stood ahead of d -/
theorem Kp.same {d : Addr} {H0 H H' : Hp} (k : Kp d H H') (s : Same H0 H) (n : H0 d = Option.none) : Same H0 H' := fun b o h => k b o (ne_of_none h n) (s b o h)
theorem Kp.tk {d : Addr} {H H' : Hp} (k : Kp d H H') {u : HO} (h : H d = some u) (n : ∀ xs, u ≠ .tup xs) : Tk H H' := fun b xs e => k b _ (ne_of e h fun z => n xs z.symm) e
theorem Kp.tkn {κ : Type} [DecidableEq κ] {w : World} {enc : κ → NestedKey} {kvs : List (κ × V)} {d : Addr} {H H' : Hp} (k : Kp d H H') (g : ND w H enc d kvs) : Tk H H' := by
  obtain ⟨xs, e⟩ := g.there
  exact k.tk e fun ys => ndO_ne ys
theorem Kp.lst {d : Addr} {H H' : Hp} (k : Kp d H H') {xs : List V} (h : H d = some (.lst xs)) : Tk H H' := k.tk h fun _ z => nomatch z
theorem LE.kp {α : Type} {d l : Addr} {H H' : Hp} {enc : α → NestedKey} {xs : List α} (k : Kp d H H') (t : Tk H H') (n : l ≠ d) (h : LE H enc l xs) : LE H' enc l xs := let ⟨vs, a, b⟩ := h; ⟨vs, k _ _ n a, b.tk t⟩
/-! ### readings that come again -/
section
variable {K : PySem.W.Frag} {σ : L2.St} {H : Hp} {Q : VK}
/-- x[j], x a tuple in slot i -/
theorem q_tup {a : Addr} {vs : List V} {i j : Nat} {v : V} (h0 : σ[i]? = some (some (.ref a))) (ha : H a = some (.tup vs)) (hj : vs[j]? = some v) (q : Q v H) : tOp (rIxT K) (tVar i) (tC (.int (j : Nat))) σ H Q :=
  ⟨_, h0, _, _, _, _, rfl, rfl, SqT.of ha, atI_nat hj, q⟩
theorem td_tup {ks : List NestedKey} {v : V} (h : TD H (.tup ks) v) : ∃ a vs, v = .ref a ∧ H a = some (.tup vs) ∧ TDs H ks vs := h
/-- a vertex, an id, opened -/
theorem td_vx {L : Lab} {x : Vx} {v : V} (h : TD H (vxK L x) v) : ∃ a u, v = .ref a ∧ H a = some (.tup [u, .int x.pl, .int x.ix]) ∧ TD H (idK L x.id) u := by
  obtain ⟨a, vs, rfl, ha, u, r, rfl, hu, p, r, rfl, hp, q, r, rfl, hq, rfl⟩ := h
  have hp : p = .int x.pl := hp
  have hq : q = .int x.ix := hq
  subst hp hq
  exact ⟨a, u, rfl, ha, hu⟩
theorem td_id {L : Lab} {i : Id} {v : V} (h : TD H (idK L i) v) : ∃ a u, v = .ref a ∧ H a = some (.tup [u, .str (auS i.au), .int i.no]) ∧ TD H (labK L) u := by
  obtain ⟨a, vs, rfl, ha, u, r, rfl, hu, p, r, rfl, hp, q, r, rfl, hq, rfl⟩ := h
  have hp : p = .str (auS i.au) := hp
  have hq : q = .int i.no := hq
  subst hp hq
  exact ⟨a, u, rfl, ha, hu⟩
end
/-! ### tables of pairs -/
section
variable {κ : Type} [DecidableEq κ] {kvs : List (κ × V)} {k : κ} {v : V}
theorem valV_isSome (kvs : List (κ × V)) (k : κ) : (valV kvs k).isSome = decide (k ∈ kvs.map (·.1)) := by
  rw [← valV_any]
  by_cases h : k ∈ kvs.map (·.1)
  · rw [decide_eq_true h, List.any_eq_true]
    obtain ⟨p, hp, e⟩ := List.mem_map.mp h
    exact ⟨p, hp, decide_eq_true e⟩
  · rw [decide_eq_false h, List.any_eq_false]
    intro p hp q
    exact h (List.mem_map.mpr ⟨p, hp, of_decide_eq_true q⟩)
theorem keys_putK (kvs : List (κ × V)) (k : κ) (v : V) : (putK kvs k v).map (·.1) = if k ∈ kvs.map (·.1) then kvs.map (·.1) else kvs.map (·.1) ++ [k] := by
  unfold putK
  rw [valV_any, valV_isSome]
  by_cases h : k ∈ kvs.map (·.1)
  · rw [if_pos (decide_eq_true h), if_pos h, List.map_map]
    refine List.map_congr_left fun p _ => ?_
    show (if p.1 = k then (p.1, v) else p).1 = p.1
    split <;> rfl
  · rw [if_neg (by simp [h]), if_neg h, List.map_append]
    rfl
theorem mem_putK {j : κ} : j ∈ (putK kvs k v).map (·.1) ↔ j ∈ kvs.map (·.1) ∨ j = k := by
  rw [keys_putK]
  split
  · rename_i h
    constructor
    · exact .inl
    · rintro (q | q)
      · exact q
      · rw [q]
        exact h
  · rw [List.mem_append, List.mem_singleton]
theorem nodup_putK (n : (kvs.map (·.1)).Nodup) : ((putK kvs k v).map (·.1)).Nodup := by
  rw [keys_putK]
  split
  · exact n
  · rename_i h
    refine List.nodup_append.mpr ⟨n, by simp, fun a ha c hc e => ?_⟩
    have : c = k := by simpa using hc
    rw [this] at e
    rw [e] at ha
    exact h ha
theorem ND.nodup {w : World} {H : Hp} {enc : κ → NestedKey} {d : Addr} (C : Code enc) (g : ND w H enc d kvs) : (kvs.map (·.1)).Nodup := by
  obtain ⟨_, xs, hx, x⟩ := g
  clear hx
  have r := x.rel
  have n := x.nd
  have e : xs.map (·.1) = (kvs.map (·.1)).map enc := by
    clear n x
    induction r with
    | nil => rfl
    | cons h t ih => rw [List.map_cons, List.map_cons, List.map_cons, h.1, ih]
  rw [e] at n
  exact List.Pairwise.of_map enc (fun a b hne e => hne (congrArg enc e)) n
end
end K97
set_option Elab.async false
set_option linter.all false
set_option maxRecDepth 100000
set_option maxHeartbeats 4000000
/-! file_of, lines_of, olds_of, vertices_of. -/
namespace K97
open PySem PySem.Spec PyProof.Rows L2
section
variable {P : Program} {w : World} {K : PySem.W.Frag} {mg : Str → Option Value} {base : Heap}
/-- the first part of a change, by kinds -/
def fileV (L : Lab) (H : Hp) (c : Ch) (u : V) : Prop := match c.file with
  | none => u = .non
  | some f => TD H (vxK L f) u
def spFileOf (L : Lab) : Sp := fun vs H Q _ => ∃ (v : V) (c : Ch), vs = [v] ∧ ChAt L H v c ∧ ∀ u H', Same H H' → fileV L H' c u → Q u H'
theorem scFileOf : FnScope ["change"] ["change"] (defScope sFileOf) := ⟨rfl, rfl, rfl, by decide +kernel, rfl, by decide +kernel, by decide +kernel⟩
theorem ok_file_of {L : Lab} {f : Addr} {fd : FuncData} (F : DefAt K "file_of" "file_of" sFileOf f fd) : FnOk P w K mg base CX0 1 f fd ["change"] (spFileOf L) := by
  refine FunD.ok F scFileOf (fun vs H Q E h => ?_) (fun cdv A outer s H vs Q E hr h => ?_)
  · obtain ⟨v, c, rfl, _⟩ := h
    rfl
  · obtain ⟨v, c, rfl, hc, k⟩ := h
    refine ⟨_, PSs.nox (pss_one (ps_ret (pe_ifExp (pt_cmpR op_in_seq (pe_ix ix_tup (pv 0) pe_int (fun _ _ => rfl)) (pe_tup (pa_cons pe_str (pa_cons pe_str pa_nil))) rfl) pe_non (pe_ix ix_tup (pv 0) pe_int (fun _ _ => rfl))))), ?_⟩
    cases c with
    | add =>
      obtain ⟨a, p, rfl, ha⟩ := hc
      refine ⟨_, rfl, _, _, _, _, rfl, rfl, SqT.of ha, atI_nat (j := 0) rfl, (by show 2 ≤ sizeLine; decide), fun t ht => ?_⟩
      refine ⟨_, _, rfl, .inr (SqT.of upd_same), rfl, rfl, _, rfl, iT (by decide +kernel) ?_⟩
      exact k _ _ (same_new ht) rfl
    | back i =>
      obtain ⟨a, u, rfl, ha, hu⟩ := hc
      refine ⟨_, rfl, _, _, _, _, rfl, rfl, SqT.of ha, atI_nat (j := 0) rfl, (by show 2 ≤ sizeLine; decide), fun t ht => ?_⟩
      refine ⟨_, _, rfl, .inr (SqT.of upd_same), rfl, rfl, _, rfl, iT (by decide +kernel) ?_⟩
      exact k _ _ (same_new ht) rfl
    | move f xs =>
      obtain ⟨a, fv, pa, ps, l, rfl, ha, h2, hf, hl⟩ := hc
      refine ⟨_, rfl, _, _, _, _, rfl, rfl, SqT.of ha, atI_nat (j := 0) rfl, (by show 2 ≤ sizeLine; decide), fun t ht => ?_⟩
      refine ⟨_, _, rfl, .inr (SqT.of upd_same), rfl, rfl, _, rfl, iF (by decide +kernel) ?_⟩
      refine ⟨_, rfl, _, _, _, _, rfl, rfl, SqT.of (same_new ht _ _ ha), atI_nat (j := 1) rfl, ?_⟩
      exact k _ _ (same_new ht) (TD.tk (Tk.of_same (same_new ht)) _ _ hf)
    | drop f xs =>
      obtain ⟨a, fv, l, rfl, ha, hf, hl⟩ := hc
      refine ⟨_, rfl, _, _, _, _, rfl, rfl, SqT.of ha, atI_nat (j := 0) rfl, (by show 2 ≤ sizeLine; decide), fun t ht => ?_⟩
      refine ⟨_, _, rfl, .inr (SqT.of upd_same), rfl, rfl, _, rfl, iF (by decide +kernel) ?_⟩
      refine ⟨_, rfl, _, _, _, _, rfl, rfl, SqT.of (same_new ht _ _ ha), atI_nat (j := 1) rfl, ?_⟩
      exact k _ _ (same_new ht) (TD.tk (Tk.of_same (same_new ht)) _ _ hf)
    | cut f xs =>
      obtain ⟨a, fv, l, rfl, ha, hf, hl⟩ := hc
      refine ⟨_, rfl, _, _, _, _, rfl, rfl, SqT.of ha, atI_nat (j := 0) rfl, (by show 2 ≤ sizeLine; decide), fun t ht => ?_⟩
      refine ⟨_, _, rfl, .inr (SqT.of upd_same), rfl, rfl, _, rfl, iF (by decide +kernel) ?_⟩
      refine ⟨_, rfl, _, _, _, _, rfl, rfl, SqT.of (same_new ht _ _ ha), atI_nat (j := 1) rfl, ?_⟩
      exact k _ _ (same_new ht) (TD.tk (Tk.of_same (same_new ht)) _ _ hf)
    | order f x y =>
      obtain ⟨a, fv, xv, yv, rfl, ha, hf, hx, hy⟩ := hc
      refine ⟨_, rfl, _, _, _, _, rfl, rfl, SqT.of ha, atI_nat (j := 0) rfl, (by show 2 ≤ sizeLine; decide), fun t ht => ?_⟩
      refine ⟨_, _, rfl, .inr (SqT.of upd_same), rfl, rfl, _, rfl, iF (by decide +kernel) ?_⟩
      refine ⟨_, rfl, _, _, _, _, rfl, rfl, SqT.of (same_new ht _ _ ha), atI_nat (j := 1) rfl, ?_⟩
      exact k _ _ (same_new ht) (TD.tk (Tk.of_same (same_new ht)) _ _ hf)
    | lines f u d n =>
      obtain ⟨a, fv, lu, ld, lt, ts, rfl, ha, hf, hu, hd, ht', hn⟩ := hc
      refine ⟨_, rfl, _, _, _, _, rfl, rfl, SqT.of ha, atI_nat (j := 0) rfl, (by show 2 ≤ sizeLine; decide), fun t ht => ?_⟩
      refine ⟨_, _, rfl, .inr (SqT.of upd_same), rfl, rfl, _, rfl, iF (by decide +kernel) ?_⟩
      refine ⟨_, rfl, _, _, _, _, rfl, rfl, SqT.of (same_new ht _ _ ha), atI_nat (j := 1) rfl, ?_⟩
      exact k _ _ (same_new ht) (TD.tk (Tk.of_same (same_new ht)) _ _ hf)
/-- change[0] == 'x' -/
theorem q_kd {σ : L2.St} {H : Hp} {Q : Bool → Hp → Prop} {a : Addr} {kd x : Str} {rest : List V} (h0 : σ[0]? = some (some (.ref a))) (ha : H a = some (.tup (.str kd :: rest))) (q : Q (decide (V.str kd = V.str x)) H) :
    tTest (tOp rEq (tOp (rIxT K) (tVar 0) (tC (.int 0))) (tC (.str x))) σ H Q := ⟨_, h0, _, _, _, _, rfl, rfl, SqT.of ha, atI_nat (j := 0) rfl, rfl, _, rfl, q⟩
def spLinesOf (L : Lab) : Sp := fun vs H Q _ => ∃ (v : V) (c : Ch), vs = [v] ∧ ChAt L H v c ∧ c.small ∧ ∀ r H', Same H H' → LE H' (vxK L) r c.lns → Q (.ref r) H'
theorem scLinesOf : FnScope ["change"] ["change"] (defScope sLinesOf) := ⟨rfl, rfl, rfl, by decide +kernel, rfl, by decide +kernel, by decide +kernel⟩
theorem ok_lines_of {L : Lab} {f : Addr} {fd : FuncData} (B : Bt mg) (F : DefAt K "lines_of" "lines_of" sLinesOf f fd) : FnOk P w K mg base CX0 1 f fd ["change"] (spLinesOf L) := by
  refine FunD.ok F scLinesOf (fun vs H Q E h => ?_) (fun cdv A outer s H vs Q E hr h => ?_)
  · obtain ⟨v, c, rfl, _⟩ := h
    rfl
  · obtain ⟨v, c, rfl, hc, hs, k⟩ := h
    refine ⟨_, PSs.nox (pss_cons (ps_if (pt_cmpR op_eq (pe_ix ix_tup (pv 0) pe_int (fun _ _ => rfl)) pe_str (nomark _))
        (pss_one (ps_ret (pe_op op_cat (pe_ix ix_tup (pv 0) pe_int (fun _ _ => rfl)) (pe_ix ix_tup (pv 0) pe_int (fun _ _ => rfl))))) pss_nil)
      (pss_cons (ps_if (pt_cmpR op_eq (pe_ix ix_tup (pv 0) pe_int (fun _ _ => rfl)) pe_str (nomark _))
        (pss_one (ps_ret (pe_callTy call_list_of (by rfl) B.list (by decide +kernel) (pa_cons (pe_ix ix_tup (pv 0) pe_int (fun _ _ => rfl)) pa_nil)))) pss_nil)
      (pss_one (ps_ret (pe_ifExp (pt_cmpR op_eq (pe_ix ix_tup (pv 0) pe_int (fun _ _ => rfl)) pe_str (nomark _))
        (pe_lst (pa_cons (pe_ix ix_tup (pv 0) pe_int (fun _ _ => rfl)) (pa_cons (pe_ix ix_tup (pv 0) pe_int (fun _ _ => rfl)) pa_nil))) (pe_lst pa_nil)))))), ?_⟩
    cases c with
    | add =>
      obtain ⟨a, p, rfl, ha⟩ := hc
      refine q_kd rfl ha (iF (by decide +kernel) ?_)
      refine q_kd rfl ha (iF (by decide +kernel) ?_)
      refine q_kd rfl ha (iF (by decide +kernel) ?_)
      refine ⟨Nat.zero_le _, fun p hp => ?_⟩
      exact k _ _ (same_new hp) ⟨_, upd_same, .nil⟩
    | back i =>
      obtain ⟨a, u, rfl, ha, hu⟩ := hc
      refine q_kd rfl ha (iF (by decide +kernel) ?_)
      refine q_kd rfl ha (iF (by decide +kernel) ?_)
      refine q_kd rfl ha (iF (by decide +kernel) ?_)
      refine ⟨Nat.zero_le _, fun p hp => ?_⟩
      exact k _ _ (same_new hp) ⟨_, upd_same, .nil⟩
    | move f xs =>
      obtain ⟨a, fv, pa, ps, l, rfl, ha, h2, hf, hl⟩ := hc
      refine q_kd rfl ha (iF (by decide +kernel) ?_)
      refine q_kd rfl ha (iF (by decide +kernel) ?_)
      refine q_kd rfl ha (iF (by decide +kernel) ?_)
      refine ⟨Nat.zero_le _, fun p hp => ?_⟩
      exact k _ _ (same_new hp) ⟨_, upd_same, .nil⟩
    | drop f xs =>
      obtain ⟨a, fv, l, rfl, ha, hf, hl⟩ := hc
      refine q_kd rfl ha (iF (by decide +kernel) ?_)
      refine q_kd rfl ha (iF (by decide +kernel) ?_)
      refine q_kd rfl ha (iF (by decide +kernel) ?_)
      refine ⟨Nat.zero_le _, fun p hp => ?_⟩
      exact k _ _ (same_new hp) ⟨_, upd_same, .nil⟩
    | cut f xs =>
      obtain ⟨a, fv, l, rfl, ha, hf, hl⟩ := hc
      refine q_kd rfl ha (iF (by decide +kernel) ?_)
      refine q_kd rfl ha (iT (by decide +kernel) ?_)
      obtain ⟨vs, h1, e1⟩ := hl
      refine ⟨_, rfl, _, _, _, _, rfl, rfl, SqT.of ha, atI_nat (j := 2) rfl, _, _, rfl, .inl (SqL.of h1), fun p hp => ?_⟩
      exact k _ _ (same_new hp) ⟨_, upd_same, e1.tk (Tk.new hp)⟩
    | order f x y =>
      obtain ⟨a, fv, xv, yv, rfl, ha, hf, hx, hy⟩ := hc
      refine q_kd rfl ha (iF (by decide +kernel) ?_)
      refine q_kd rfl ha (iF (by decide +kernel) ?_)
      refine q_kd rfl ha (iT (by decide +kernel) ?_)
      refine ⟨_, rfl, _, _, _, _, rfl, rfl, SqT.of ha, atI_nat (j := 2) rfl, _, rfl, _, _, _, _, rfl, rfl, SqT.of ha, atI_nat (j := 3) rfl, (by show 2 ≤ sizeLine; decide), fun p hp => ?_⟩
      exact k _ _ (same_new hp) ⟨_, upd_same, .cons (TD.tk (Tk.new hp) _ _ hx) (.cons (TD.tk (Tk.new hp) _ _ hy) .nil)⟩
    | lines f u d n =>
      obtain ⟨a, fv, lu, ld, lt, ts, rfl, ha, hf, hu, hd, htt, hn⟩ := hc
      refine q_kd rfl ha (iT (by decide +kernel) ?_)
      obtain ⟨us, h1, e1⟩ := hu
      obtain ⟨ds, h2, e2⟩ := hd
      refine ⟨_, rfl, _, _, _, _, rfl, rfl, SqT.of ha, atI_nat (j := 2) rfl, _, rfl, _, _, _, _, rfl, rfl, SqT.of ha, atI_nat (j := 3) rfl, _, _, _, _, rfl, rfl, h1, h2, ?_, fun p hp => ?_⟩
      · rw [e1.length, e2.length]
        have q := hs.1
        simp only [Ch.vx, Ch.file, Ch.olds, Ch.lns, List.length_cons, List.length_append, List.length_nil] at q
        have := sizeLine_eq
        omega
      · exact k _ _ (same_new hp) ⟨_, upd_same, (EV.app e1 e2).tk (Tk.new hp)⟩
def spOldsOf (L : Lab) : Sp := fun vs H Q _ => ∃ (v : V) (c : Ch), vs = [v] ∧ ChAt L H v c ∧ ∀ r H', Same H H' → LE H' (vxK L) r c.olds → Q (.ref r) H'
theorem scOldsOf : FnScope ["change"] ["change"] (defScope sOldsOf) := ⟨rfl, rfl, rfl, by decide +kernel, rfl, by decide +kernel, by decide +kernel⟩
theorem ok_olds_of {L : Lab} {f : Addr} {fd : FuncData} (B : Bt mg) (F : DefAt K "olds_of" "olds_of" sOldsOf f fd) : FnOk P w K mg base CX0 1 f fd ["change"] (spOldsOf L) := by
  refine FunD.ok F scOldsOf (fun vs H Q E h => ?_) (fun cdv A outer s H vs Q E hr h => ?_)
  · obtain ⟨v, c, rfl, _⟩ := h
    rfl
  · obtain ⟨v, c, rfl, hc, k⟩ := h
    refine ⟨_, PSs.nox (pss_one (ps_ret (pe_ifExp (pt_cmpR op_in_seq (pe_ix ix_tup (pv 0) pe_int (fun _ _ => rfl)) (pe_tup (pa_cons pe_str (pa_cons pe_str pa_nil))) rfl)
      (pe_callTy call_list_of (by rfl) B.list (by decide +kernel) (pa_cons (pe_ix ix_tup (pv 0) (pe_un un_neg pe_int) (fun _ _ => rfl)) pa_nil)) (pe_lst pa_nil)))), ?_⟩
    cases c with
    | add =>
      obtain ⟨a, p, rfl, ha⟩ := hc
      refine ⟨_, rfl, _, _, _, _, rfl, rfl, SqT.of ha, atI_nat (j := 0) rfl, (by show 2 ≤ sizeLine; decide), fun t ht => ?_⟩
      refine ⟨_, _, rfl, .inr (SqT.of upd_same), rfl, rfl, _, rfl, iF (by decide +kernel) ?_⟩
      refine ⟨Nat.zero_le _, fun p hp => ?_⟩
      exact k _ _ ((same_new ht).trans (same_new hp)) ⟨_, upd_same, .nil⟩
    | back i =>
      obtain ⟨a, u, rfl, ha, hu⟩ := hc
      refine ⟨_, rfl, _, _, _, _, rfl, rfl, SqT.of ha, atI_nat (j := 0) rfl, (by show 2 ≤ sizeLine; decide), fun t ht => ?_⟩
      refine ⟨_, _, rfl, .inr (SqT.of upd_same), rfl, rfl, _, rfl, iF (by decide +kernel) ?_⟩
      refine ⟨Nat.zero_le _, fun p hp => ?_⟩
      exact k _ _ ((same_new ht).trans (same_new hp)) ⟨_, upd_same, .nil⟩
    | move f xs =>
      obtain ⟨a, fv, pa, ps, l, rfl, ha, h2, hf, hl⟩ := hc
      refine ⟨_, rfl, _, _, _, _, rfl, rfl, SqT.of ha, atI_nat (j := 0) rfl, (by show 2 ≤ sizeLine; decide), fun t ht => ?_⟩
      refine ⟨_, _, rfl, .inr (SqT.of upd_same), rfl, rfl, _, rfl, iT (by decide +kernel) ?_⟩
      obtain ⟨vs, h1, e1⟩ := hl
      refine ⟨_, rfl, _, rfl, _, _, _, _, rfl, rfl, SqT.of (same_new ht _ _ ha), rfl, _, _, rfl, .inl (SqL.of (same_new ht _ _ h1)), fun p hp => ?_⟩
      exact k _ _ ((same_new ht).trans (same_new hp)) ⟨_, upd_same, (e1.tk (Tk.new ht)).tk (Tk.new hp)⟩
    | drop f xs =>
      obtain ⟨a, fv, l, rfl, ha, hf, hl⟩ := hc
      refine ⟨_, rfl, _, _, _, _, rfl, rfl, SqT.of ha, atI_nat (j := 0) rfl, (by show 2 ≤ sizeLine; decide), fun t ht => ?_⟩
      refine ⟨_, _, rfl, .inr (SqT.of upd_same), rfl, rfl, _, rfl, iT (by decide +kernel) ?_⟩
      obtain ⟨vs, h1, e1⟩ := hl
      refine ⟨_, rfl, _, rfl, _, _, _, _, rfl, rfl, SqT.of (same_new ht _ _ ha), rfl, _, _, rfl, .inl (SqL.of (same_new ht _ _ h1)), fun p hp => ?_⟩
      exact k _ _ ((same_new ht).trans (same_new hp)) ⟨_, upd_same, (e1.tk (Tk.new ht)).tk (Tk.new hp)⟩
    | cut f xs =>
      obtain ⟨a, fv, l, rfl, ha, hf, hl⟩ := hc
      refine ⟨_, rfl, _, _, _, _, rfl, rfl, SqT.of ha, atI_nat (j := 0) rfl, (by show 2 ≤ sizeLine; decide), fun t ht => ?_⟩
      refine ⟨_, _, rfl, .inr (SqT.of upd_same), rfl, rfl, _, rfl, iF (by decide +kernel) ?_⟩
      refine ⟨Nat.zero_le _, fun p hp => ?_⟩
      exact k _ _ ((same_new ht).trans (same_new hp)) ⟨_, upd_same, .nil⟩
    | order f x y =>
      obtain ⟨a, fv, xv, yv, rfl, ha, hf, hx, hy⟩ := hc
      refine ⟨_, rfl, _, _, _, _, rfl, rfl, SqT.of ha, atI_nat (j := 0) rfl, (by show 2 ≤ sizeLine; decide), fun t ht => ?_⟩
      refine ⟨_, _, rfl, .inr (SqT.of upd_same), rfl, rfl, _, rfl, iF (by decide +kernel) ?_⟩
      refine ⟨Nat.zero_le _, fun p hp => ?_⟩
      exact k _ _ ((same_new ht).trans (same_new hp)) ⟨_, upd_same, .nil⟩
    | lines f u d n =>
      obtain ⟨a, fv, lu, ld, lt, ts, rfl, ha, hf, hu, hd, htt, hn⟩ := hc
      refine ⟨_, rfl, _, _, _, _, rfl, rfl, SqT.of ha, atI_nat (j := 0) rfl, (by show 2 ≤ sizeLine; decide), fun t ht => ?_⟩
      refine ⟨_, _, rfl, .inr (SqT.of upd_same), rfl, rfl, _, rfl, iF (by decide +kernel) ?_⟩
      refine ⟨Nat.zero_le _, fun p hp => ?_⟩
      exact k _ _ ((same_new ht).trans (same_new hp)) ⟨_, upd_same, .nil⟩
def spVerticesOf (L : Lab) : Sp := fun vs H Q _ => ∃ (v : V) (c : Ch), vs = [v] ∧ ChAt L H v c ∧ c.small ∧ ∀ r H', Same H H' → LE H' (vxK L) r c.vx → Q (.ref r) H'
theorem scVerticesOf : FnScope ["change", "file"] ["change"] (defScope sVerticesOf) := ⟨rfl, rfl, rfl, by decide +kernel, rfl, by decide +kernel, by decide +kernel⟩
theorem ok_vertices_of {L : Lab} {f : Addr} {fd : FuncData} (F : DefAt K "vertices_of" "vertices_of" sVerticesOf f fd)
    (G1 : Df P w K mg base 1 "file_of" ["change"] (spFileOf L)) (G2 : Df P w K mg base 1 "olds_of" ["change"] (spOldsOf L)) (G3 : Df P w K mg base 1 "lines_of" ["change"] (spLinesOf L)) :
    FnOk P w K mg base CX0 2 f fd ["change"] (spVerticesOf L) := by
  refine FunD.ok F scVerticesOf (fun vs H Q E h => ?_) (fun cdv A outer s H vs Q E hr h => ?_)
  · obtain ⟨v, c, rfl, _⟩ := h
    rfl
  · obtain ⟨v, c, rfl, hc, hs, k⟩ := h
    refine ⟨_, PSs.nox (pss_cons (ps_set (i := 1) scVerticesOf.nd rfl (Or.inl rfl) (pe_df G1 hr (by rfl) (pa_cons (pv 0) pa_nil)))
      (pss_one (ps_ret (pe_ifExp (pt_cmp (pc_isN (pv 1))) (pe_lst pa_nil)
        (pe_op op_cat (pe_op op_cat (pe_lst (pa_cons (pv 1) pa_nil)) (pe_df G2 hr (by rfl) (pa_cons (pv 0) pa_nil))) (pe_df G3 hr (by rfl) (pa_cons (pv 0) pa_nil))))))), ?_⟩
    refine ⟨_, rfl, v, c, rfl, hc, fun u H1 s1 hu => ?_⟩
    refine ⟨_, rfl, _, rfl, ?_⟩
    unfold fileV at hu
    unfold Ch.vx at k
    cases e : c.file with
    | none =>
      rw [e] at hu
      have hu : u = V.non := hu
      simp only [e] at k
      refine iT (by rw [hu]; rfl) ⟨Nat.zero_le _, fun p hp => k _ _ (s1.trans (same_new hp)) ⟨_, upd_same, .nil⟩⟩
    | some fv =>
      rw [e] at hu
      have hu : TD H1 (vxK L fv) u := hu
      simp only [e] at k
      have nn : decide (u = V.non) = false := by
        obtain ⟨ks, ek⟩ := (vxC L).tup fv
        have hu2 := hu
        rw [ek] at hu2
        obtain ⟨a, _, rfl, _⟩ := hu2
        rfl
      refine iF nn ⟨_, rfl, (by show 1 ≤ sizeLine; decide), fun p hp => ?_⟩
      have s2 : Same H (upd H1 p (.lst [u])) := s1.trans (same_new hp)
      refine ⟨_, rfl, v, c, rfl, hc.same s2, fun r H3 s3 hr3 => ?_⟩
      obtain ⟨os, h3, e3⟩ := hr3
      have sz := hs.1
      unfold Ch.vx at sz
      simp only [e, List.length_cons, List.length_append] at sz
      have sl := sizeLine_eq
      refine ⟨_, _, _, _, rfl, rfl, s3 _ _ upd_same, h3, (by rw [e3.length]; simp only [List.length_singleton]; omega), fun p2 hp2 => ?_⟩
      have s4 := s3.trans (same_new (o := .lst ([u] ++ os)) hp2)
      refine ⟨_, rfl, v, c, rfl, hc.same (s2.trans s4), hs, fun r5 H5 s5 hr5 => ?_⟩
      obtain ⟨ls, h5, e5⟩ := hr5
      refine ⟨_, _, _, _, rfl, rfl, s5 _ _ upd_same, h5, (by rw [List.length_append, e3.length, e5.length]; simp only [List.length_singleton]; omega), fun p6 hp6 => ?_⟩
      have s6 := s5.trans (same_new (o := .lst ([u] ++ os ++ ls)) hp6)
      refine k _ _ (s2.trans (s4.trans s6)) ⟨_, upd_same, ?_⟩
      have eA : EV (upd H5 p6 (.lst ([u] ++ os ++ ls))) (vxK L) (([u] ++ os) ++ ls) (([fv] ++ c.olds) ++ c.lns) :=
        EV.app (EV.app (.cons (TD.tk (Tk.of_same ((same_new hp).trans (s4.trans s6))) _ _ hu) .nil) (e3.tk (Tk.of_same ((same_new hp2).trans s6)))) (e5.tk (Tk.new hp6))
      simpa using eA
theorem df_file_of {L : Lab} (A : At K mg "file_of" sFileOf) : Df P w K mg base 1 "file_of" ["change"] (spFileOf L) := A.df (fun _ _ _ _ _ _ us hl => match us, hl with | [_], _ => rfl) fun f fd F => ok_file_of F
theorem df_lines_of {L : Lab} (B : Bt mg) (A : At K mg "lines_of" sLinesOf) : Df P w K mg base 1 "lines_of" ["change"] (spLinesOf L) := A.df (fun _ _ _ _ _ _ us hl => match us, hl with | [_], _ => rfl) fun f fd F => ok_lines_of B F
theorem df_olds_of {L : Lab} (B : Bt mg) (A : At K mg "olds_of" sOldsOf) : Df P w K mg base 1 "olds_of" ["change"] (spOldsOf L) := A.df (fun _ _ _ _ _ _ us hl => match us, hl with | [_], _ => rfl) fun f fd F => ok_olds_of B F
theorem df_vertices_of {L : Lab} (B : Bt mg) (A : At K mg "vertices_of" sVerticesOf) (A1 : At K mg "file_of" sFileOf) (A2 : At K mg "olds_of" sOldsOf) (A3 : At K mg "lines_of" sLinesOf) : Df P w K mg base 2 "vertices_of" ["change"] (spVerticesOf L) :=
  A.df (fun _ _ _ _ _ _ us hl => match us, hl with | [_], _ => rfl) fun f fd F => ok_vertices_of F (df_file_of A1) (df_olds_of B A2) (df_lines_of B A3)
end
end K97
set_option Elab.async false
set_option linter.all false
set_option maxRecDepth 100000
set_option maxHeartbeats 4000000
/-! vertex_needs, backs, needs. -/
namespace K97
open PySem PySem.Spec PyProof.Rows L2
/-- the ids of the vertices of changes, but one -/
def vxIds (own : Id) (cs : List Ch) : List Id := (cs.flatMap fun c => c.vx.map (·.id)).filter fun i => decide (i ≠ own)
theorem mem_vxIds {own j : Id} {cs : List Ch} : j ∈ vxIds own cs ↔ j ≠ own ∧ ∃ c ∈ cs, ∃ x ∈ c.vx, x.id = j := by
  unfold vxIds
  rw [List.mem_filter, List.mem_flatMap]
  constructor
  · rintro ⟨⟨c, hc, h⟩, n⟩
    obtain ⟨x, hx, e⟩ := List.mem_map.mp h
    exact ⟨of_decide_eq_true n, c, hc, x, hx, e⟩
  · rintro ⟨n, c, hc, x, hx, e⟩
    exact ⟨⟨c, hc, List.mem_map.mpr ⟨x, hx, e⟩⟩, decide_eq_true n⟩
theorem take_succ_get {α : Type} {l : List α} {i : Nat} {x : α} (h : l[i]? = some x) : l.take (i + 1) = l.take i ++ [x] := by
  rw [List.take_succ, h]
  rfl
theorem mem_take_succ {α : Type} {l : List α} {i : Nat} {x y : α} (h : l[i]? = some x) : y ∈ l.take (i + 1) ↔ y ∈ l.take i ∨ y = x := by
  rw [take_succ_get h, List.mem_append, List.mem_singleton]
section
variable {P : Program} {w : World} {K : PySem.W.Frag} {mg : Str → Option Value} {base : Heap}
theorem none_of {H H' : Hp} {p : Addr} (s : Same H H') (n : H' p = Option.none) : H p = Option.none := by
  cases q : H p with
  | none => rfl
  | some o =>
    rw [s _ _ q] at n
    cases n
def spIds (L : Lab) (n : Nat) (f : Pa → List Id) : Sp := fun vs H Q _ => ∃ (v : V) (p : Pa), vs = [v] ∧ PaAt L H v p ∧ p.ok ∧ ∀ r H' xs, Same H H' → H r = none → LE H' (idK L) r xs → xs.Nodup → xs.length ≤ n → (∀ i, i ∈ xs ↔ i ∈ f p) → Q (.ref r) H'
theorem scVertexNeeds : FnScope ["patch", "found", "change", "vertex"] ["patch"] (defScope sVertexNeeds) := ⟨rfl, rfl, rfl, by decide +kernel, rfl, by decide +kernel, by decide +kernel⟩
theorem ok_vertex_needs {L : Lab} {f : Addr} {fd : FuncData} (B : Bt mg) (F : DefAt K "vertex_needs" "vertex_needs" sVertexNeeds f fd) (G : Df P w K mg base 2 "vertices_of" ["change"] (spVerticesOf L)) : FnOk P w K mg base CX0 3 f fd ["patch"] (spIds L 6000 Pa.vn) := by
  refine FunD.ok F scVertexNeeds (fun vs H Q E h => ?_) (fun cdv A outer s H vs Q E hr h => ?_)
  · obtain ⟨v, c, rfl, _⟩ := h
    rfl
  · obtain ⟨v, p, rfl, hp, hok, k⟩ := h
    have hu := hr.units
    refine ⟨_, PSs.nox (pss_cons (ps_set (i := 1) scVertexNeeds.nd rfl (Or.inl rfl) (pe_nnew (enc := idK L)))
      (pss_cons (ps_for PassesOwn.never rfl (pi_list (pe_ix ix_tup (pv 0) pe_int (fun _ _ => rfl))) (pg_name (i := 2) scVertexNeeds.nd rfl (Or.inl rfl))
        (pss_one (ps_for PassesOwn.never rfl (pi_list (pe_df G hr (by rfl) (pa_cons (pv 2) pa_nil))) (pg_name (i := 3) scVertexNeeds.nd rfl (Or.inl rfl))
          (pss_one (ps_if (pt_cmpR (op_neE hu (idC L).toCode) (pe_ix ix_tup (pv 3) pe_int (fun _ _ => rfl)) (pe_ix ix_tup (pv 0) pe_int (fun _ _ => rfl)) (nomark _))
            (pss_one (ps_nput (idC L).toTCode hu (pv 1) (pe_ix ix_tup (pv 3) pe_int (fun _ _ => rfl)) pe_bl rfl)) pss_nil)))))
      (pss_one (ps_ret (pe_callB (call_sortD (idC L) rfl hu) (by rfl) B.sorted boot_sorted (pa_cons (pv 1) pa_nil)))))), ?_⟩
    obtain ⟨a, iv, l, nt, cvs, rfl, ha, hi, hl, hcs⟩ := hp
    refine fun d H1 nd b1 g1 => ?_
    have s1 : Same H H1 := same_but nd b1
    refine ⟨_, rfl, _, _, _, _, rfl, rfl, SqT.of (s1 _ _ ha), atI_nat (j := 2) rfl, l, rfl, ⟨_, SqL.of (s1 _ _ hl)⟩, for_list (K := K) (a := l) (xs := cvs)
      (fun i σ H' => ∃ kvs c3 c4, σ = [some (.ref a), some (.ref d), c3, c4] ∧ Kp d H1 H' ∧ ND w H' (idK L) d kvs ∧ (∀ j, j ∈ kvs.map (·.1) ↔ j ∈ vxIds p.id (p.chs.take i)) ∧ kvs.length ≤ 500 * i)
      ⟨[], none, none, rfl, Kp.refl, g1, (by simp [vxIds]), Nat.le_refl _⟩ (fun i σ H' _ ⟨_, _, _, _, kp, _⟩ => SqL.of (kp.same s1 nd _ _ hl)) ?_ ?_⟩
    · rintro i y σ H' hi1 ⟨kvs, c3, c4, rfl, kp, g, hm, hz⟩
      obtain ⟨c, hc, hcat⟩ := pget hcs hi1
      have S1 : Same H H' := kp.same s1 nd
      have hsm := hok.small c (List.mem_of_getElem? hc)
      have hi12 : i < 12 := Nat.lt_of_lt_of_le (List.getElem?_eq_some_iff.mp hc).1 hok.few
      refine ⟨_, rfl, y, c, rfl, hcat.same S1, hsm, fun r H2 s2 hr2 => ?_⟩
      obtain ⟨vvs, hl2, hev⟩ := hr2
      have g2 := g.same s2
      refine ⟨r, rfl, ⟨_, SqL.of hl2⟩, for_list (K := K) (a := r) (xs := vvs)
        (fun j σ H'' => ∃ kvs c4, σ = [some (.ref a), some (.ref d), some y, c4] ∧ Kp d H2 H'' ∧ ND w H'' (idK L) d kvs ∧ (∀ q, q ∈ kvs.map (·.1) ↔ q ∈ vxIds p.id (p.chs.take i) ∨ (q ≠ p.id ∧ ∃ x ∈ c.vx.take j, x.id = q)) ∧ kvs.length ≤ 500 * i + j)
        ⟨kvs, _, rfl, Kp.refl, g2, (by simpa using hm), by omega⟩ ?_ ?_ ?_⟩
      · rintro j σ H'' _ ⟨_, _, _, kp2, gg, _⟩
        refine SqL.of (kp2 _ _ (fun e => ?_) hl2)
        obtain ⟨_, q⟩ := g2.there
        rw [← e, hl2] at q
        cases q
      · rintro j y2 σ H'' hj ⟨kvs2, c4', rfl, kp2, gg, hm2, hz2⟩
        obtain ⟨x, hx, htd⟩ := hev.get (i := 0) hj
        have S2 : Same H H'' := (kp.trans ((Kp.of s2).trans kp2)).same s1 nd
        obtain ⟨a2, u2, rfl, ha2, hu2⟩ := td_vx (TD.tk (kp2.tkn g2) _ _ htd)
        refine ⟨_, rfl, _, _, _, _, rfl, rfl, SqT.of ha2, atI_nat (j := 0) rfl, _, rfl, _, _, _, _, rfl, rfl, SqT.of (S2 _ _ ha), atI_nat (j := 1) rfl, x.id, p.id, hu2, TD.tk (Tk.of_same S2) _ _ hi, _, rfl, iB (fun hne => ?_) (fun heq => ?_)⟩
        · have ne : x.id ≠ p.id := by simpa using hne
          refine ⟨_, rfl, _, rfl, _, _, _, _, rfl, rfl, SqT.of ha2, atI_nat (j := 0) rfl, d, kvs2, x.id, rfl, gg, ?_, hu2, fun H4 b4 g4 => ?_⟩
          · have hj2 : j < c.vx.length := (List.getElem?_eq_some_iff.mp hx).1
            have := hsm.1
            have := sizeLine_eq
            omega
          · refine ⟨_, _, rfl, kp2.trans (Kp.but b4), g4, fun q => ?_, ?_⟩
            · rw [mem_putK, hm2]
              constructor
              · rintro ((h | ⟨n, z, hz', e⟩) | rfl)
                · exact .inl h
                · exact .inr ⟨n, z, (mem_take_succ hx).mpr (.inl hz'), e⟩
                · exact .inr ⟨ne, x, (mem_take_succ hx).mpr (.inr rfl), rfl⟩
              · rintro (h | ⟨n, z, hz', e⟩)
                · exact .inl (.inl h)
                · rcases (mem_take_succ hx).mp hz' with h | rfl
                  · exact .inl (.inr ⟨n, z, h, e⟩)
                  · exact .inr e.symm
            · have := length_putK kvs2 x.id (V.bl true)
              omega
        · have eq : x.id = p.id := by simpa using heq
          refine ⟨_, _, rfl, kp2, gg, fun q => ?_, by omega⟩
          rw [hm2]
          constructor
          · rintro (h | ⟨n, z, hz', e⟩)
            · exact .inl h
            · exact .inr ⟨n, z, (mem_take_succ hx).mpr (.inl hz'), e⟩
          · rintro (h | ⟨n, z, hz', e⟩)
            · exact .inl h
            · rcases (mem_take_succ hx).mp hz' with h | rfl
              · exact .inr ⟨n, z, h, e⟩
              · exact absurd (e.symm.trans eq) n
      · rintro σ H'' ⟨kvs2, c4', rfl, kp2, gg, hm2, hz2⟩
        refine ⟨kvs2, _, _, rfl, kp.trans ((Kp.of s2).trans kp2), gg, fun q => ?_, ?_⟩
        · rw [hm2, mem_vxIds, mem_vxIds, hev.length, List.take_length]
          constructor
          · rintro (⟨n, e, he, r⟩ | ⟨n, r⟩)
            · exact ⟨n, e, (mem_take_succ hc).mpr (.inl he), r⟩
            · exact ⟨n, c, (mem_take_succ hc).mpr (.inr rfl), r⟩
          · rintro ⟨n, e, he, r⟩
            rcases (mem_take_succ hc).mp he with h | rfl
            · exact .inl ⟨n, e, h, r⟩
            · exact .inr ⟨n, r⟩
        · have := hsm.1
          have := hev.length
          omega
    · rintro σ H' ⟨kvs, c3, c4, rfl, kp, g, hm, hz⟩
      refine ⟨_, rfl, d, kvs, rfl, g.r, fun p2 vs' xs' pm ev' np => ?_⟩
      have hn := g.nodup (idC L).toCode
      refine k _ _ xs' ((kp.same s1 nd).trans (same_new np)) (none_of (kp.same s1 nd) np) ⟨_, upd_same, ev'.tk (Tk.new np)⟩ (pm.nodup_iff.mpr hn) ?_ fun j => ?_
      · rw [pm.length_eq, List.length_map]
        have := Paired.length hcs
        have := hok.few
        omega
      · rw [pm.mem_iff, hm, Paired.length hcs, List.take_length]
        rfl
/-- the kind of a change -/
def _root_.K97.Ch.kd : Ch → Str
  | .add => "add"
  | .back _ => "back"
  | .move _ _ => "move"
  | .drop _ _ => "drop"
  | .cut _ _ => "cut"
  | .order _ _ _ => "order"
  | .lines _ _ _ _ => "lines"
theorem ch_hd {L : Lab} {H : Hp} {v : V} {c : Ch} (h : ChAt L H v c) : ∃ a rest, v = .ref a ∧ H a = some (.tup (.str c.kd :: rest)) := by
  cases c with
  | add => exact let ⟨a, p, e, h⟩ := h; ⟨a, _, e, h⟩
  | back i => exact let ⟨a, p, e, h, _⟩ := h; ⟨a, _, e, h⟩
  | move f xs => exact let ⟨a, fv, pa, ps, l, e, h, _⟩ := h; ⟨a, _, e, h⟩
  | drop f xs => exact let ⟨a, fv, l, e, h, _⟩ := h; ⟨a, _, e, h⟩
  | cut f xs => exact let ⟨a, fv, l, e, h, _⟩ := h; ⟨a, _, e, h⟩
  | order f x y => exact let ⟨a, fv, xv, yv, e, h, _⟩ := h; ⟨a, _, e, h⟩
  | lines f u d n => exact let ⟨a, fv, lu, ld, lt, ts, e, h, _⟩ := h; ⟨a, _, e, h⟩
theorem ne_back : ∀ c : Ch, c.kd = "back" → ∃ i, c = .back i
  | .back i, _ => ⟨i, rfl⟩
  | .add, h => absurd h (by decide +kernel)
  | .move _ _, h => absurd h (by show ¬ ("move" : Str) = "back"; decide +kernel)
  | .drop _ _, h => absurd h (by show ¬ ("drop" : Str) = "back"; decide +kernel)
  | .cut _ _, h => absurd h (by show ¬ ("cut" : Str) = "back"; decide +kernel)
  | .order _ _ _, h => absurd h (by show ¬ ("order" : Str) = "back"; decide +kernel)
  | .lines _ _ _ _, h => absurd h (by show ¬ ("lines" : Str) = "back"; decide +kernel)
theorem dec_str (a b : Str) : decide (V.str a = V.str b) = decide (a = b) := by
  by_cases h : a = b
  · subst h; simp
  · rw [decide_eq_false h, decide_eq_false fun e => h (by injection e)]
/-- x[0] == 's', x a change in slot i -/
theorem q_kdi {σ : L2.St} {H : Hp} {Q : Bool → Hp → Prop} {a : Addr} {kd x : Str} {rest : List V} {i : Nat} (h0 : σ[i]? = some (some (.ref a))) (ha : H a = some (.tup (.str kd :: rest))) (q : Q (decide (kd = x)) H) :
    tTest (tOp rEq (tOp (rIxT K) (tVar i) (tC (.int 0))) (tC (.str x))) σ H Q := ⟨_, h0, _, _, _, _, rfl, rfl, SqT.of ha, atI_nat (j := 0) rfl, rfl, _, rfl, by rw [dec_str]; exact q⟩
theorem mem_flat_succ {α β : Type} {f : α → List β} {l : List α} {i : Nat} {x : α} {y : β} (h : l[i]? = some x) : y ∈ (l.take (i + 1)).flatMap f ↔ y ∈ (l.take i).flatMap f ∨ y ∈ f x := by
  rw [take_succ_get h, List.flatMap_append, List.mem_append]
  simp
theorem ixK {X : Cx} (K : PySem.W.Frag) (h : X.K = K) : IxR X (rIxT K) := h ▸ ix_tup
theorem scBacks : FnScope ["patch", "change"] ["patch"] (defScope sBacks) := ⟨rfl, rfl, rfl, by decide +kernel, rfl, by decide +kernel, by decide +kernel⟩
theorem ok_backs {L : Lab} {f : Addr} {fd : FuncData} (B : Bt mg) (F : DefAt K "backs" "backs" sBacks f fd) : FnOk P w K mg base CX0 1 f fd ["patch"] (spIds L 12 Pa.bk) := by
  refine FunD.ok F scBacks (fun vs H Q E h => ?_) (fun cdv A outer s H vs Q E hr h => ?_)
  · obtain ⟨v, c, rfl, _⟩ := h
    rfl
  · obtain ⟨v, p, rfl, hp, hok, k⟩ := h
    have hu := hr.units
    refine ⟨_, PSs.nox (pss_one (ps_ret (pe_callB (call_sortD (idC L) rfl hu) (by rfl) B.sorted boot_sorted (pa_cons (pe_dg (own := [("change", 1)]) (g := gName 1) (fills_n (idC L).toTCode hu) rfl scBacks.nd (pi_list (pe_ix ix_tup (pv 0) pe_int (fun _ _ => rfl)))
      (blkOk_by (own := [("change", 1)]) (N := ["patch", "change"]) (sc := defScope sBacks) (by decide +kernel)) (fun _ _ _ _ _ => pg_name (i := 1) scBacks.nd rfl (Or.inl rfl))
      (fun _ _ _ _ _ => pts_one (pt_cmpR op_eq (pe_ix (ixK K rfl) (pv 1) pe_int (fun _ _ => rfl)) pe_str (nomark _))) (fun _ _ _ _ _ => pe_ix (ixK K rfl) (pv 1) pe_int (fun _ _ => rfl)) (fun _ _ _ _ _ => pe_bl)) pa_nil)))), ?_⟩
    obtain ⟨a, iv, l, nt, cvs, rfl, ha, hi, hl, hcs⟩ := hp
    refine ⟨_, rfl, _, _, _, _, rfl, rfl, SqT.of ha, atI_nat (j := 2) rfl, l, rfl, ⟨_, SqL.of hl⟩, fun D H1 nd b1 g1 => ?_⟩
    have s1 : Same H H1 := same_but nd b1
    refine turns_l (K := K) (a := l) (vs := cvs) (fun i H' => ∃ kvs, Kp D H1 H' ∧ ND w H' (idK L) D kvs ∧ (∀ j, j ∈ kvs.map (·.1) ↔ j ∈ (p.chs.take i).flatMap Ch.bk) ∧ kvs.length ≤ i)
      ⟨[], Kp.refl, g1, (by simp), Nat.le_refl _⟩ (fun i H' ⟨_, kp, _⟩ => SqL.of (kp.same s1 nd _ _ hl)) ?_ ?_
    · rintro i y H' hi1 ⟨kvs, kp, g, hm, hz⟩
      obtain ⟨c, hc, hcat⟩ := pget hcs hi1
      have hcat := hcat.same (kp.same s1 nd)
      obtain ⟨a2, rest, rfl, ha2⟩ := ch_hd hcat
      have hi12 : i < 12 := Nat.lt_of_lt_of_le (List.getElem?_eq_some_iff.mp hc).1 hok.few
      refine ⟨rfl, q_kdi (i := 1) rfl ha2 (iB (fun hb => ?_) (fun hb => ?_))⟩
      · obtain ⟨i2, rfl⟩ := ne_back c (of_decide_eq_true hb)
        obtain ⟨a3, u, e3, h3, hu3⟩ := hcat
        cases e3
        refine ⟨_, rfl, _, _, _, _, rfl, rfl, SqT.of h3, atI_nat (j := 1) rfl, kvs, i2, g, ?_, hu3, fun H4 b4 g4 => ⟨_, kp.trans (Kp.but b4), g4, fun q => ?_, ?_⟩⟩
        · have := sizeLine_eq
          omega
        · rw [mem_putK, hm, mem_flat_succ hc]
          simp [Ch.bk]
        · have := length_putK kvs i2 (V.bl true)
          omega
      · have nb : ∀ q, q ∉ c.bk := fun q hq => by
          cases c with
          | back i2 => exact absurd rfl (of_decide_eq_false hb)
          | _ => simp [Ch.bk] at hq
        refine ⟨kvs, kp, g, fun q => ?_, by omega⟩
        rw [hm, mem_flat_succ hc]
        simp [nb q]
    · rintro H' ⟨kvs, kp, g, hm, hz⟩
      refine ⟨D, kvs, rfl, g.r, fun p2 vs' xs' pm ev' np => ?_⟩
      have hn := g.nodup (idC L).toCode
      refine k _ _ xs' ((kp.same s1 nd).trans (same_new np)) (none_of (kp.same s1 nd) np) ⟨_, upd_same, ev'.tk (Tk.new np)⟩ (pm.nodup_iff.mpr hn) ?_ fun j => ?_
      · rw [pm.length_eq, List.length_map]
        have := Paired.length hcs
        have := hok.few
        omega
      · rw [pm.mem_iff, hm, Paired.length hcs, List.take_length]
        rfl
theorem scNeeds : FnScope ["patch", "name"] ["patch"] (defScope sNeeds) := ⟨rfl, rfl, rfl, by decide +kernel, rfl, by decide +kernel, by decide +kernel⟩
theorem ok_needs {L : Lab} {f : Addr} {fd : FuncData} (B : Bt mg) (F : DefAt K "needs" "needs" sNeeds f fd) (G1 : Df P w K mg base 3 "vertex_needs" ["patch"] (spIds L 6000 Pa.vn)) (G2 : Df P w K mg base 1 "backs" ["patch"] (spIds L 12 Pa.bk)) :
    FnOk P w K mg base CX0 4 f fd ["patch"] (spIds L 6012 Pa.needs) := by
  refine FunD.ok F scNeeds (fun vs H Q E h => ?_) (fun cdv A outer s H vs Q E hr h => ?_)
  · obtain ⟨v, c, rfl, _⟩ := h
    rfl
  · obtain ⟨v, p, rfl, hp, hok, k⟩ := h
    have hu := hr.units
    refine ⟨_, PSs.nox (pss_one (ps_ret (pe_callB (call_sortD (idC L) rfl hu) (by rfl) B.sorted boot_sorted (pa_cons (pe_dg (own := [("name", 1)]) (g := gName 1) (fills_n (idC L).toTCode hu) rfl scNeeds.nd
      (pi_list (pe_op op_cat (pe_df G1 hr (by rfl) (pa_cons (pv 0) pa_nil)) (pe_df G2 (hr.mono (by decide)) (by rfl) (pa_cons (pv 0) pa_nil))))
      (blkOk_by (own := [("name", 1)]) (N := ["patch", "name"]) (sc := defScope sNeeds) (by decide +kernel)) (fun _ _ _ _ _ => pg_name (i := 1) scNeeds.nd rfl (Or.inl rfl))
      (fun _ _ _ _ _ => pts_nil) (fun _ _ _ _ _ => pv 1) (fun _ _ _ _ _ => pe_bl)) pa_nil)))), ?_⟩
    refine ⟨_, rfl, v, p, rfl, hp, hok, fun r1 H1 xs1 s1 o1 l1 n1 z1 m1 => ?_⟩
    refine ⟨_, rfl, v, p, rfl, hp.same s1, hok, fun r2 H2 xs2 s2 o2 l2 n2 z2 m2 => ?_⟩
    obtain ⟨v1, h1, e1⟩ := l1.same s2
    obtain ⟨v2, h2, e2⟩ := l2
    have sl := sizeLine_eq
    refine ⟨_, _, _, _, rfl, rfl, h1, h2, by rw [e1.length, e2.length]; omega, fun p3 n3 => ?_⟩
    have e3 := (e1.app e2).tk (Tk.new (o := .lst (v1 ++ v2)) n3)
    have s3 : Same H (upd H2 p3 (.lst (v1 ++ v2))) := (s1.trans s2).trans (same_new n3)
    refine ⟨p3, rfl, ⟨_, SqL.of upd_same⟩, fun D H4 nd b4 g4 => ?_⟩
    have s4 := same_but nd b4
    refine turns_l (K := K) (a := p3) (vs := v1 ++ v2) (fun i H' => ∃ kvs, Kp D H4 H' ∧ ND w H' (idK L) D kvs ∧ (∀ j, j ∈ kvs.map (·.1) ↔ j ∈ (xs1 ++ xs2).take i) ∧ kvs.length ≤ i)
      ⟨[], Kp.refl, g4, (by simp), Nat.le_refl _⟩ (fun i H' ⟨_, kp, _⟩ => SqL.of (kp.same s4 nd _ _ upd_same)) ?_ ?_
    · rintro i y H' hi1 ⟨kvs, kp, g, hm, hz⟩
      obtain ⟨x, hx, hxt⟩ := e3.get (i := 0) hi1
      have hlt : i < (xs1 ++ xs2).length := (List.getElem?_eq_some_iff.mp hx).1
      rw [List.length_append] at hlt
      refine ⟨rfl, ?_⟩
      refine ⟨_, rfl, kvs, x, g, by omega, TD.tk (Tk.of_same (kp.same s4 nd)) _ _ hxt, fun H5 b5 g5 => ⟨_, kp.trans (Kp.but b5), g5, fun q => ?_, ?_⟩⟩
      · rw [mem_putK, hm, mem_take_succ hx]
      · have := length_putK kvs x (V.bl true)
        omega
    · rintro H' ⟨kvs, kp, g, hm, hz⟩
      have hlen := (e1.app e2).length
      refine ⟨D, kvs, rfl, g.r, fun p5 vs' xs' pm ev' np => ?_⟩
      have hn := g.nodup (idC L).toCode
      have hmem : ∀ j, j ∈ xs' ↔ j ∈ p.needs := fun j => by
        rw [pm.mem_iff, hm, hlen, List.take_length, List.mem_append, m1, m2]
        unfold Pa.needs
        rw [List.mem_append]
      have S1 : Same H H' := kp.same (s3.trans s4) (by
        cases q : H D with
        | none => rfl
        | some o =>
          rw [s3 _ _ q] at nd
          cases nd)
      refine k _ _ xs' (S1.trans (same_new np)) (none_of S1 np) ⟨_, upd_same, ev'.tk (Tk.new np)⟩ (pm.nodup_iff.mpr hn) ?_ hmem
      rw [pm.length_eq, List.length_map]
      rw [hlen, List.length_append] at hz
      omega
end
end K97
set_option Elab.async false
set_option linter.all false
set_option maxRecDepth 100000
set_option maxHeartbeats 4000000
/-! The world of patches: a dict of them. -/
namespace K97
open PySem PySem.Spec PyProof.Rows L2
/-- a needs b -/
def Nee (ps : List Pa) (a b : Id) : Prop := ∃ p ∈ ps, p.id = a ∧ b ∈ p.needs
inductive Rch (ps : List Pa) : Id → Id → Prop
  | one {a b : Id} : Nee ps a b → Rch ps a b
  | step {a b c : Id} : Rch ps a b → Nee ps b c → Rch ps a c
structure Wok (ps : List Pa) : Prop where
  ok : ∀ p ∈ ps, p.ok
  few : ps.length ≤ 9
  there : ∀ p ∈ ps, ∀ i ∈ p.needs, i ∈ ps.map (·.id)
def WAt (w : World) (L : Lab) (H : Hp) (pd : Addr) (ps : List Pa) : Prop := ∃ kvs, ND w H (idK L) pd kvs ∧ Paired (fun (kv : Id × V) (p : Pa) => kv.1 = p.id ∧ PaAt L H kv.2 p) kvs ps
theorem paired_keys {H : Hp} {L : Lab} : ∀ {kvs : List (Id × V)} {ps : List Pa}, Paired (fun (kv : Id × V) (p : Pa) => kv.1 = p.id ∧ PaAt L H kv.2 p) kvs ps → kvs.map (·.1) = ps.map (·.id)
  | _, _, .nil => rfl
  | _, _, .cons r t => by rw [List.map_cons, List.map_cons, paired_keys t, r.1]
section
variable {w : World} {L : Lab} {H H' : Hp} {pd : Addr} {ps : List Pa}
theorem WAt.same (s : Same H H') (h : WAt w L H pd ps) : WAt w L H' pd ps := let ⟨kvs, a, b⟩ := h; ⟨kvs, a.same s, Paired.mapP b fun _ _ q => ⟨q.1, q.2.same s⟩⟩
theorem WAt.nodup (h : WAt w L H pd ps) : (ps.map (·.id)).Nodup := by
  obtain ⟨kvs, g, q⟩ := h
  rw [← paired_keys q]
  exact g.nodup (idC L).toCode
theorem valV_of_mem {κ : Type} [DecidableEq κ] {k : κ} {v : V} : ∀ {kvs : List (κ × V)}, (kvs.map (·.1)).Nodup → (k, v) ∈ kvs → valV kvs k = some v
  | [], _, h => nomatch h
  | (k', v') :: t, n, h => by
    rw [List.map_cons, List.nodup_cons] at n
    by_cases e : k' = k
    · subst e
      rcases List.mem_cons.mp h with h | h
      · cases h
        simp [valV]
      · exact absurd (List.mem_map.mpr ⟨_, h, rfl⟩) n.1
    · rcases List.mem_cons.mp h with h | h
      · cases h
        exact absurd rfl e
      · have := valV_of_mem n.2 h
        simp only [valV, List.find?_cons] at this ⊢
        simpa [e] using this
theorem WAt.get {i : Id} (h : WAt w L H pd ps) (hi : i ∈ ps.map (·.id)) : ∃ kvs v p, ND w H (idK L) pd kvs ∧ valV kvs i = some v ∧ PaAt L H v p ∧ p ∈ ps ∧ p.id = i := by
  obtain ⟨kvs, g, q⟩ := h
  obtain ⟨p, hp, rfl⟩ := List.mem_map.mp hi
  obtain ⟨j, hj⟩ := List.getElem?_of_mem hp
  obtain ⟨⟨k, v⟩, h1, h2, h3⟩ := pgetr q hj
  refine ⟨kvs, v, p, g, ?_, h3, hp, rfl⟩
  rw [← h2]
  exact valV_of_mem (g.nodup (idC L).toCode) (List.mem_of_getElem? h1)
theorem nee_there (W : Wok ps) {a b : Id} (h : Nee ps a b) : b ∈ ps.map (·.id) := let ⟨p, hp, _, hb⟩ := h; W.there p hp b hb
theorem rch_there (W : Wok ps) {a b : Id} (h : Rch ps a b) : b ∈ ps.map (·.id) := by
  cases h with
  | one h => exact nee_there W h
  | step _ h => exact nee_there W h
end
theorem nodup_le {α : Type} [DecidableEq α] : ∀ {xs ys : List α}, xs.Nodup → (∀ x ∈ xs, x ∈ ys) → xs.length ≤ ys.length
  | [], _, _, _ => Nat.zero_le _
  | x :: xs, ys, n, h => by
    rw [List.nodup_cons] at n
    have hx : x ∈ ys := h x List.mem_cons_self
    have := nodup_le (xs := xs) (ys := ys.erase x) n.2 fun y hy => (List.mem_erase_of_ne (fun e : y = x => n.1 (e ▸ hy))).mpr (h y (List.mem_cons_of_mem _ hy))
    rw [List.length_erase_of_mem hx] at this
    have := List.length_pos_of_mem hx
    rw [List.length_cons]
    omega
end K97
set_option Elab.async false
set_option linter.all false
set_option maxRecDepth 100000
set_option maxHeartbeats 4000000
/-! List comprehensions, by what holds of the list made so far. -/
namespace K97
open PySem PySem.Spec PyProof.Rows L2
/-- what is kept when an object but D changes -/
def Mono (D : Addr) (Rel : Hp → List V → Nat → Prop) : Prop := ∀ H H' acc i, Kp D H H' → Tk H H' → Rel H acc i → Rel H' acc i
theorem Mono.same {D : Addr} {Rel : Hp → List V → Nat → Prop} (m : Mono D Rel) {H H' : Hp} {acc : List V} {i : Nat} (s : Same H H') (h : Rel H acc i) : Rel H' acc i := m H H' acc i (Kp.of s) (Tk.of_same s) h
section
variable {g : TG} {tt : TT} {te : TE} {vs : List Nat} {σ : L2.St} {H0 : Hp} {D : Addr} {Qd : Hp → Prop}
/-- one turn -/
def TurnOf (g : TG) (tt : TT) (te : TE) (vs : List Nat) (σ : L2.St) (D : Addr) (H0 : Hp) (Rel : Hp → List V → Nat → Prop) (Itm : Nat → V → Prop) (n : Nat) : Prop :=
  ∀ i x H acc (C : V → Hp → Prop) (N : Hp → Prop), i < n → Itm i x → Same H0 H → H D = some (.lst acc) → acc.length ≤ i → Rel H acc i →
    (∀ y H4, Same H H4 → Rel H4 (acc ++ [y]) (i + 1) → C y H4) → (∀ H3, Same H H3 → Rel H3 acc (i + 1) → N H3) →
    g x (wipe σ vs) H fun σ2 H2 => wipe σ2 vs = wipe σ vs ∧ tt σ2 H2 fun b H3 => if b = true then te σ2 H3 C else N H3
theorem lc_acc {J : It} {n : Nat} (nD : H0 D = Option.none) (Rel : Hp → List V → Nat → Prop) (Itm : Nat → V → Prop) (mono : Mono D Rel) (r0 : Rel (upd H0 D (.lst [])) [] 0) (hz : n ≤ sizeLine)
    (hgo : ∀ i H, i < n → Same H0 H → J.go i H) (hst : ∀ H, Same H0 H → J.stop n H) (hy : ∀ i H x H', i < n → Same H0 H → J.yld i H x H' → H' = H ∧ Itm i x)
    (hs : TurnOf g tt te vs σ D H0 Rel Itm n) (hd : ∀ H acc, Same H0 H → H D = some (.lst acc) → acc.length ≤ n → Rel H acc n → Qd H) :
    ∃ W : Nat → Nat → Hp → Prop, (∃ m, W 0 m (upd H0 D (.lst []))) ∧ ∀ i m H, W i m H →
      (J.stop i H ∧ Qd H) ∨ (J.go i H ∧ ∃ Nx : Hp → Prop, (∀ H', Nx H' → ∃ m', m' < m ∧ W (i + 1) m' H') ∧ ∀ x H', J.yld i H x H' → g x (wipe σ vs) H' fun σ2 H2 => wipe σ2 vs = wipe σ vs ∧ tt σ2 H2 fun b H3 =>
        if b = true then te σ2 H3 fun y H4 => ∃ acc, H4 D = some (.lst acc) ∧ acc.length < sizeLine ∧ Nx (upd H4 D (.lst (acc ++ [y]))) else Nx H3) := by
  refine turns (Body := fun x H' Nx => g x (wipe σ vs) H' fun σ2 H2 => wipe σ2 vs = wipe σ vs ∧ tt σ2 H2 fun b H3 =>
        if b = true then te σ2 H3 fun y H4 => ∃ acc, H4 D = some (.lst acc) ∧ acc.length < sizeLine ∧ Nx (upd H4 D (.lst (acc ++ [y]))) else Nx H3) (n := n) (fun i H => Same H0 H ∧ ∃ acc, H D = some (.lst acc) ∧ acc.length ≤ i ∧ Rel H acc i) Itm
    ⟨same_new nD, [], upd_same, Nat.le_refl _, r0⟩ (fun i H hi p => hgo i H hi p.1) (fun H p => hst H p.1) (fun i H x H' hi p => hy i H x H' hi p.1) ?_ (fun H ⟨a, acc, b, c, d⟩ => hd H acc a b c d)
  rintro i x H hi im ⟨s0, acc, hD, hl, r⟩
  refine hs i x H acc _ _ hi im s0 hD hl r (fun y H4 s4 r4 => ?_) (fun H3 s3 r3 => ?_)
  · have e4 := s4 _ _ hD
    refine ⟨acc, e4, by omega, fun b o q => ?_, _, upd_same, by rw [List.length_append]; exact Nat.succ_le_succ hl, mono _ _ _ _ Kp.upd (Tk.put e4 fun _ z => nomatch z) r4⟩
    rw [upd_ne (ne_of_none q nD)]
    exact s4 _ _ (s0 _ _ q)
  · exact ⟨s0.trans s3, acc, s3 _ _ hD, Nat.le_succ_of_le hl, r3⟩
/-- over a list -/
theorem lc_accL {K : PySem.W.Frag} {a : Addr} {xs : List V} (nD : H0 D = Option.none) (Rel : Hp → List V → Nat → Prop) (mono : Mono D Rel) (r0 : Rel (upd H0 D (.lst [])) [] 0) (hz : xs.length ≤ sizeLine)
    (hl : ∀ H, Same H0 H → SqL K H a xs) (hs : TurnOf g tt te vs σ D H0 Rel (fun i x => xs[i]? = some x) xs.length) (hd : ∀ H acc, Same H0 H → H D = some (.lst acc) → acc.length ≤ xs.length → Rel H acc xs.length → Qd H) :
    ∃ W : Nat → Nat → Hp → Prop, (∃ m, W 0 m (upd H0 D (.lst []))) ∧ ∀ i m H, W i m H →
      ((Itl K a).stop i H ∧ Qd H) ∨ ((Itl K a).go i H ∧ ∃ Nx : Hp → Prop, (∀ H', Nx H' → ∃ m', m' < m ∧ W (i + 1) m' H') ∧ ∀ x H', (Itl K a).yld i H x H' → g x (wipe σ vs) H' fun σ2 H2 => wipe σ2 vs = wipe σ vs ∧ tt σ2 H2 fun b H3 =>
        if b = true then te σ2 H3 fun y H4 => ∃ acc, H4 D = some (.lst acc) ∧ acc.length < sizeLine ∧ Nx (upd H4 D (.lst (acc ++ [y]))) else Nx H3) :=
  lc_acc nD Rel _ mono r0 hz (fun i H hi p => ⟨xs, xs[i], hl H p, List.getElem?_eq_getElem hi⟩) (fun H p => ⟨xs, hl H p, Nat.le_refl _⟩) (fun i H x H' hi p y => ⟨y.1, y.2 xs (hl H p)⟩) hs hd
/-- over a tuple -/
theorem lc_accT {K : PySem.W.Frag} {a : Addr} {xs : List V} (nD : H0 D = Option.none) (Rel : Hp → List V → Nat → Prop) (mono : Mono D Rel) (r0 : Rel (upd H0 D (.lst [])) [] 0) (hz : xs.length ≤ sizeLine)
    (hl : ∀ H, Same H0 H → SqT K H a xs) (hs : TurnOf g tt te vs σ D H0 Rel (fun i x => xs[i]? = some x) xs.length) (hd : ∀ H acc, Same H0 H → H D = some (.lst acc) → acc.length ≤ xs.length → Rel H acc xs.length → Qd H) :
    ∃ W : Nat → Nat → Hp → Prop, (∃ m, W 0 m (upd H0 D (.lst []))) ∧ ∀ i m H, W i m H →
      ((Itt K a).stop i H ∧ Qd H) ∨ ((Itt K a).go i H ∧ ∃ Nx : Hp → Prop, (∀ H', Nx H' → ∃ m', m' < m ∧ W (i + 1) m' H') ∧ ∀ x H', (Itt K a).yld i H x H' → g x (wipe σ vs) H' fun σ2 H2 => wipe σ2 vs = wipe σ vs ∧ tt σ2 H2 fun b H3 =>
        if b = true then te σ2 H3 fun y H4 => ∃ acc, H4 D = some (.lst acc) ∧ acc.length < sizeLine ∧ Nx (upd H4 D (.lst (acc ++ [y]))) else Nx H3) :=
  lc_acc nD Rel _ mono r0 hz (fun i H hi p => ⟨xs, xs[i], hl H p, List.getElem?_eq_getElem hi⟩) (fun H p => ⟨xs, hl H p, Nat.le_refl _⟩) (fun i H x H' hi p y => ⟨y.1, y.2 xs (hl H p)⟩) hs hd
/-- over a range -/
theorem lc_accR {lo : Int} {n : Nat} (nD : H0 D = Option.none) (Rel : Hp → List V → Nat → Prop) (mono : Mono D Rel) (r0 : Rel (upd H0 D (.lst [])) [] 0) (hz : n ≤ sizeLine)
    (hs : TurnOf g tt te vs σ D H0 Rel (fun i x => x = .int (lo + (i : Nat))) n) (hd : ∀ H acc, Same H0 H → H D = some (.lst acc) → acc.length ≤ n → Rel H acc n → Qd H) :
    ∃ W : Nat → Nat → Hp → Prop, (∃ m, W 0 m (upd H0 D (.lst []))) ∧ ∀ i m H, W i m H →
      ((Itr lo n).stop i H ∧ Qd H) ∨ ((Itr lo n).go i H ∧ ∃ Nx : Hp → Prop, (∀ H', Nx H' → ∃ m', m' < m ∧ W (i + 1) m' H') ∧ ∀ x H', (Itr lo n).yld i H x H' → g x (wipe σ vs) H' fun σ2 H2 => wipe σ2 vs = wipe σ vs ∧ tt σ2 H2 fun b H3 =>
        if b = true then te σ2 H3 fun y H4 => ∃ acc, H4 D = some (.lst acc) ∧ acc.length < sizeLine ∧ Nx (upd H4 D (.lst (acc ++ [y]))) else Nx H3) :=
  lc_acc nD Rel _ mono r0 hz (fun i H hi p => hi) (fun H p => Nat.le_refl _) (fun i H x H' hi p y => ⟨y.1, y.2⟩) hs hd
/-- over the keys of a locked dict -/
theorem lc_accN {w : World} {d : Addr} {o : Obj} {xs : List Ent} (nD : H0 D = Option.none) (Rel : Hp → List V → Nat → Prop) (mono : Mono D Rel) (r0 : Rel (upd H0 D (.lst [])) [] 0) (hz : xs.length ≤ sizeLine)
    (hl : H0 d = some (.frz o (ndO w d xs))) (hs : TurnOf g tt te vs σ D H0 Rel (fun i x => ∃ e, xs[i]? = some e ∧ x = .ref e.2.1) xs.length) (hd : ∀ H acc, Same H0 H → H D = some (.lst acc) → acc.length ≤ xs.length → Rel H acc xs.length → Qd H) :
    ∃ W : Nat → Nat → Hp → Prop, (∃ m, W 0 m (upd H0 D (.lst []))) ∧ ∀ i m H, W i m H →
      ((ItN w d o xs).stop i H ∧ Qd H) ∨ ((ItN w d o xs).go i H ∧ ∃ Nx : Hp → Prop, (∀ H', Nx H' → ∃ m', m' < m ∧ W (i + 1) m' H') ∧ ∀ x H', (ItN w d o xs).yld i H x H' → g x (wipe σ vs) H' fun σ2 H2 => wipe σ2 vs = wipe σ vs ∧ tt σ2 H2 fun b H3 =>
        if b = true then te σ2 H3 fun y H4 => ∃ acc, H4 D = some (.lst acc) ∧ acc.length < sizeLine ∧ Nx (upd H4 D (.lst (acc ++ [y]))) else Nx H3) :=
  lc_acc nD Rel _ mono r0 hz (fun i H hi p => ⟨p _ _ hl, hi⟩) (fun H p => ⟨p _ _ hl, Nat.le_refl _⟩) (fun i H x H' hi p y => y) hs hd
end
/-! ### kinds of Rel -/
/-- data -/
def RelE {α : Type} (enc : α → NestedKey) (f : Nat → List α) : Hp → List V → Nat → Prop := fun H acc i => EV H enc acc (f i)
theorem RelE.mono {α : Type} {enc : α → NestedKey} {f : Nat → List α} {D : Addr} : Mono D (RelE enc f) := fun _ _ _ _ _ t h => EV.tk t h
/-- ints, flat values -/
def RelV' (f : Nat → List V) : Hp → List V → Nat → Prop := fun _ acc i => acc = f i
theorem RelV'.mono {f : Nat → List V} {D : Addr} : Mono D (RelV' f) := fun _ _ _ _ _ _ h => h
/-- lists of data -/
def RelL {α : Type} (D : Addr) (enc : α → NestedKey) (f : Nat → List (List α) → Prop) : Hp → List V → Nat → Prop := fun H acc i => ∃ xss, f i xss ∧ Paired (fun v xs => ∃ a, v = .ref a ∧ a ≠ D ∧ LE H enc a xs) acc xss
theorem RelL.mono {α : Type} {enc : α → NestedKey} {f : Nat → List (List α) → Prop} {D : Addr} : Mono D (RelL D enc f) := fun _ _ _ _ k t ⟨xss, h, q⟩ => ⟨xss, h, Paired.mapP q fun _ _ ⟨a, e, n, l⟩ => ⟨a, e, n, l.kp k t n⟩⟩
theorem RelL.snoc {α : Type} {enc : α → NestedKey} {f : Nat → List (List α) → Prop} {D a : Addr} {H : Hp} {acc : List V} {i : Nat} {xs : List α} (h : RelL D enc f H acc i) (n : a ≠ D) (l : LE H enc a xs) (hf : ∀ xss, f i xss → f (i + 1) (xss ++ [xs])) : RelL D enc f H (acc ++ [.ref a]) (i + 1) :=
  let ⟨xss, h, q⟩ := h; ⟨xss ++ [xs], hf xss h, q.snoc ⟨a, rfl, n, l⟩⟩
theorem RelL.lle {α : Type} {enc : α → NestedKey} {f : Nat → List (List α) → Prop} {D : Addr} {H : Hp} {acc : List V} {i : Nat} (h : RelL D enc f H acc i) (e : H D = some (.lst acc)) : ∃ xss, f i xss ∧ LLE H enc D xss :=
  let ⟨xss, h, q⟩ := h; ⟨xss, h, acc, e, Paired.mapP q fun _ _ ⟨a, e, _, l⟩ => ⟨a, e, l⟩⟩
/-- a filter's steps -/
theorem filt_yes {α : Type} {p : α → Bool} {xs : List α} {i : Nat} {x : α} (h : xs[i]? = some x) (hp : p x = true) : (xs.take (i + 1)).filter p = (xs.take i).filter p ++ [x] := by
  rw [take_succ_get h, List.filter_append]
  simp [hp]
theorem filt_no {α : Type} {p : α → Bool} {xs : List α} {i : Nat} {x : α} (h : xs[i]? = some x) (hp : p x = false) : (xs.take (i + 1)).filter p = (xs.take i).filter p := by
  rw [take_succ_get h, List.filter_append]
  simp [hp]
theorem map_step {α β : Type} {f : α → β} {xs : List α} {i : Nat} {x : α} (h : xs[i]? = some x) : (xs.take (i + 1)).map f = (xs.take i).map f ++ [f x] := by
  rw [take_succ_get h, List.map_append]
  rfl
theorem RelE.yes {α : Type} {enc : α → NestedKey} {p : α → Bool} {xs : List α} {H H' : Hp} {acc : List V} {i : Nat} {x : α} {v : V} (r : RelE enc (fun i => (xs.take i).filter p) H acc i) (s : Same H H') (h : xs[i]? = some x) (hp : p x = true) (t : TD H' (enc x) v) :
    RelE enc (fun i => (xs.take i).filter p) H' (acc ++ [v]) (i + 1) := by
  have r : EV H enc acc ((xs.take i).filter p) := r
  show EV H' enc (acc ++ [v]) ((xs.take (i + 1)).filter p)
  rw [filt_yes h hp]
  exact (r.tk (Tk.of_same s)).snoc t
theorem RelE.no {α : Type} {enc : α → NestedKey} {p : α → Bool} {xs : List α} {H H' : Hp} {acc : List V} {i : Nat} {x : α} (r : RelE enc (fun i => (xs.take i).filter p) H acc i) (s : Same H H') (h : xs[i]? = some x) (hp : p x = false) :
    RelE enc (fun i => (xs.take i).filter p) H' acc (i + 1) := by
  have r : EV H enc acc ((xs.take i).filter p) := r
  show EV H' enc acc ((xs.take (i + 1)).filter p)
  rw [filt_no h hp]
  exact r.tk (Tk.of_same s)
theorem RelE.zero {α : Type} {enc : α → NestedKey} {p : α → Bool} {xs : List α} {H : Hp} : RelE enc (fun i => (xs.take i).filter p) H [] 0 := by
  show EV H enc [] ((xs.take 0).filter p)
  rw [List.take_zero]
  exact .nil
theorem RelE.all {α : Type} {enc : α → NestedKey} {p : α → Bool} {xs : List α} {H : Hp} {acc : List V} {n : Nat} (r : RelE enc (fun i => (xs.take i).filter p) H acc n) (h : n = xs.length) : EV H enc acc (xs.filter p) := by
  subst h
  have r : EV H enc acc ((xs.take xs.length).filter p) := r
  rwa [List.take_length] at r
/-- values that need no heap, filtered -/
def RelF {α : Type} (xs : List α) (p : α → Bool) (f : α → V) : Hp → List V → Nat → Prop := fun _ acc i => acc = ((xs.take i).filter p).map f
section
variable {α : Type} {xs : List α} {p : α → Bool} {f : α → V} {H H' : Hp} {acc : List V} {i n : Nat} {x : α} {v : V} {D : Addr}
theorem RelF.mono : Mono D (RelF xs p f) := fun _ _ _ _ _ _ h => h
theorem RelF.zero : RelF xs p f H [] 0 := by simp [RelF]
theorem RelF.yes (r : RelF xs p f H acc i) (h : xs[i]? = some x) (hp : p x = true) (e : v = f x) : RelF xs p f H' (acc ++ [v]) (i + 1) := by
  have r : acc = ((xs.take i).filter p).map f := r
  show acc ++ [v] = ((xs.take (i + 1)).filter p).map f
  rw [filt_yes h hp, List.map_append, r, e]
  rfl
theorem RelF.no (r : RelF xs p f H acc i) (h : xs[i]? = some x) (hp : p x = false) : RelF xs p f H' acc (i + 1) := by
  show acc = ((xs.take (i + 1)).filter p).map f
  rw [filt_no h hp]
  exact r
theorem RelF.all (r : RelF xs p f H acc n) (h : n = xs.length) : acc = (xs.filter p).map f := by
  subst h
  have r : acc = ((xs.take xs.length).filter p).map f := r
  rwa [List.take_length] at r
end
/-- a lock, put on and taken off -/
theorem same_unlock {H H' : Hp} {d : Addr} {u o : HO} (hd : H d = some u) (s : Same (upd H d o) H') : Same H (upd H' d u) := fun b v h => by
  by_cases e : b = d
  · subst e
    rw [hd] at h
    rw [upd_same, h]
  · rw [upd_ne e]
    exact s b v (by rw [upd_ne e]; exact h)
end K97
set_option Elab.async false
set_option linter.all false
set_option maxRecDepth 100000
set_option maxHeartbeats 4000000
/-! Dict comprehensions over lists, by what holds of the dict made so far. -/
namespace K97
open PySem PySem.Spec PyProof.Rows L2
section
variable {κ : Type} [DecidableEq κ] {enc : κ → NestedKey} {w : World} {g : TG} {tt : TT} {tk tv : TE} {vs : List Nat} {σ : L2.St} {H0 : Hp} {D : Addr} {Qd : Hp → Prop}
def MonoD (D : Addr) (Rel : Hp → List (κ × V) → Nat → Prop) : Prop := ∀ H H' kvs i, Kp D H H' → Tk H H' → Rel H kvs i → Rel H' kvs i
theorem MonoD.same {Rel : Hp → List (κ × V) → Nat → Prop} (m : MonoD D Rel) {H H' : Hp} {kvs : List (κ × V)} {i : Nat} (s : Same H H') (h : Rel H kvs i) : Rel H' kvs i := m H H' kvs i (Kp.of s) (Tk.of_same s) h
/-- one turn -/
def TurnD (enc : κ → NestedKey) (w : World) (g : TG) (tt : TT) (tk tv : TE) (vs : List Nat) (σ : L2.St) (D : Addr) (H0 : Hp) (Rel : Hp → List (κ × V) → Nat → Prop) (xs : List V) : Prop :=
  ∀ i x H kvs (C : V → V → Hp → Prop) (N : Hp → Prop), xs[i]? = some x → Same H0 H → ND w H enc D kvs → kvs.length ≤ i → Rel H kvs i →
    (∀ y z H4 k, Same H H4 → TD H4 (enc k) y → Rel H4 (putK kvs k z) (i + 1) → C y z H4) → (∀ H3, Same H H3 → Rel H3 kvs (i + 1) → N H3) →
    g x (wipe σ vs) H fun σ2 H2 => wipe σ2 vs = wipe σ vs ∧ tt σ2 H2 fun b H3 => if b = true then tk σ2 H3 fun y H4 => tv σ2 H4 fun z H5 => C y z H5 else N H3
theorem dg_accL {K : PySem.W.Frag} {a : Addr} {xs : List V} {H1 : Hp} (nD : H0 D = Option.none) (but : But D H0 H1) (isN : nNew w enc H0 D H1) (Rel : Hp → List (κ × V) → Nat → Prop) (mono : MonoD D Rel) (r0 : Rel H1 [] 0) (hz : xs.length ≤ sizeLine)
    (hl : ∀ H, Same H0 H → SqL K H a xs) (hs : TurnD enc w g tt tk tv vs σ D H0 Rel xs) (hd : ∀ H kvs, Same H0 H → ND w H enc D kvs → kvs.length ≤ xs.length → Rel H kvs xs.length → Qd H) :
    ∃ W : Nat → Nat → Hp → Prop, (∃ m, W 0 m H1) ∧ ∀ i m H, W i m H →
      ((Itl K a).stop i H ∧ Qd H) ∨ ((Itl K a).go i H ∧ ∃ Nx : Hp → Prop, (∀ H', Nx H' → ∃ m', m' < m ∧ W (i + 1) m' H') ∧ ∀ x H', (Itl K a).yld i H x H' → g x (wipe σ vs) H' fun σ2 H2 => wipe σ2 vs = wipe σ vs ∧ tt σ2 H2 fun b H3 =>
        if b = true then tk σ2 H3 fun y H4 => tv σ2 H4 fun z H5 => nPut w enc H5 D y z Nx else Nx H3) := by
  have g1 : ND w H1 enc D [] := isN
  refine turns_l (K := K) (a := a) (vs := xs) (Body := fun x H' Nx => g x (wipe σ vs) H' fun σ2 H2 => wipe σ2 vs = wipe σ vs ∧ tt σ2 H2 fun b H3 =>
        if b = true then tk σ2 H3 fun y H4 => tv σ2 H4 fun z H5 => nPut w enc H5 D y z Nx else Nx H3) (fun i H => Same H0 H ∧ ∃ kvs, ND w H enc D kvs ∧ kvs.length ≤ i ∧ Rel H kvs i)
    ⟨same_but nD but, [], g1, Nat.le_refl _, r0⟩ (fun i H p => hl H p.1) ?_ (fun H ⟨a, kvs, b, c, d⟩ => hd H kvs a b c d)
  rintro i x H hi ⟨s0, kvs, gD, hk, r⟩
  have hlt : i < xs.length := (List.getElem?_eq_some_iff.mp hi).1
  refine hs i x H kvs _ _ hi s0 gD hk r (fun y z H4 k s4 t4 r4 => ?_) (fun H3 s3 r3 => ?_)
  · have g4 := gD.same s4
    refine ⟨kvs, k, g4, by omega, t4, fun H5 b5 g5 => ⟨(Kp.but b5).same (s0.trans s4) nD, _, g5, ?_, mono _ _ _ _ (Kp.but b5) ((Kp.but b5).tkn g4) r4⟩⟩
    have := length_putK kvs k z
    omega
  · exact ⟨s0.trans s3, kvs, gD.same s3, Nat.le_succ_of_le hk, r3⟩
end
/-- the keys so far -/
def RelKeys {α : Type} (ks : List α) : Hp → List (α × V) → Nat → Prop := fun _ kvs i => ∀ k, k ∈ kvs.map (·.1) ↔ k ∈ ks.take i
theorem RelKeys.mono {α : Type} {ks : List α} {D : Addr} : MonoD D (RelKeys ks) := fun _ _ _ _ _ _ h => h
/-- {x: True for x in xs}, a comprehension of a list's data -/
theorem dg_dedup {α : Type} [DecidableEq α] {enc : α → NestedKey} {w : World} {K : PySem.W.Frag} {a D : Addr} {H0 H1 : Hp} {xs : List V} {ks : List α} {j : Nat} {σ : L2.St} {Qd : Hp → Prop} (nD : H0 D = Option.none) (but : But D H0 H1) (isN : nNew w enc H0 D H1) (hz : xs.length ≤ sizeLine)
    (hj : j < σ.length) (hl : SqL K H0 a xs) (hl' : ∀ H, Same H0 H → SqL K H a xs) (ev : EV H0 enc xs ks) (hd : ∀ H kvs, Same H0 H → ND w H enc D kvs → kvs.length ≤ ks.length → (∀ k, k ∈ kvs.map (·.1) ↔ k ∈ ks) → Qd H) :
    ∃ W : Nat → Nat → Hp → Prop, (∃ m, W 0 m H1) ∧ ∀ i m H, W i m H →
      ((Itl K a).stop i H ∧ Qd H) ∨ ((Itl K a).go i H ∧ ∃ Nx : Hp → Prop, (∀ H', Nx H' → ∃ m', m' < m ∧ W (i + 1) m' H') ∧ ∀ x H', (Itl K a).yld i H x H' → gName j x (wipe σ [j]) H' fun σ2 H2 => wipe σ2 [j] = wipe σ [j] ∧ tYes σ2 H2 fun b H3 =>
        if b = true then tVar j σ2 H3 fun y H4 => tC (.bl true) σ2 H4 fun z H5 => nPut w enc H5 D y z Nx else Nx H3) := by
  have el := ev.length
  refine dg_accL nD but isN (RelKeys ks) RelKeys.mono (by simp [RelKeys]) hz hl' ?_ fun H kvs s g hk r => hd H kvs s g (by rw [← el]; exact hk) fun k => by
    rw [r k, el, List.take_length]
  intro i x H kvs C N hi s gD hk r hC hN
  obtain ⟨k, hk2, ht⟩ := ev.get (i := 0) hi
  refine ⟨?_, x, ?_, hC x _ H k (Same.refl _) (TD.tk (Tk.of_same s) _ _ ht) fun q => ?_⟩
  · show ((σ.set j none).set j (some x)).set j none = σ.set j none
    rw [List.set_set, List.set_set]
  · show ((σ.set j none).set j (some x))[j]? = some (some x)
    rw [List.getElem?_set_self (by rw [List.length_set]; exact hj)]
  · rw [mem_putK, r q, mem_take_succ hk2]
end K97
set_option Elab.async false
set_option linter.all false
set_option maxRecDepth 100000
set_option maxHeartbeats 4000000
/-! all_needs. -/
namespace K97
open PySem PySem.Spec PyProof.Rows L2
section
variable {P : Program} {w : World} {K : PySem.W.Frag} {mg : Str → Option Value} {base : Heap}
def spAll (L : Lab) : Sp := fun vs H Q _ => ∃ (pd : Addr) (v : V) (ps : List Pa) (n : Id), vs = [.ref pd, v] ∧ WAt w L H pd ps ∧ Wok ps ∧ TD H (idK L n) v ∧ n ∈ ps.map (·.id) ∧
  ∀ r H' xs, Same H H' → H r = none → LE H' (idK L) r xs → xs.Nodup → xs.length ≤ 9 → (∀ i, i ∈ xs ↔ Rch ps n i) → Q (.ref r) H'
theorem scAllNeeds : FnScope ["patches", "name", "found", "todo", "other"] ["patches", "name"] (defScope sAllNeeds) := ⟨rfl, rfl, rfl, by decide +kernel, rfl, by decide +kernel, by decide +kernel⟩
/-- what is found, what is to do -/
structure AllIn (ps : List Pa) (n : Id) (F T : List Id) : Prop where
  nd : F.Nodup
  tt : ∀ i ∈ T, i = n ∨ Rch ps n i
  ff : ∀ i ∈ F, Rch ps n i
structure AllDo (ps : List Pa) (n : Id) (F T : List Id) : Prop extends AllIn ps n F T where
  cl : ∀ a, a = n ∨ a ∈ F → a ∉ T → ∀ b, Nee ps a b → b ∈ F
/-- within the walk over the needs of m -/
structure AllAt (ps : List Pa) (n m : Id) (F T D : List Id) : Prop extends AllIn ps n F T where
  cl : ∀ a, a = n ∨ a ∈ F → a ∉ T → a ≠ m → ∀ b, Nee ps a b → b ∈ F
  now : ∀ b ∈ D, b ∈ F
theorem AllIn.len {ps : List Pa} {n : Id} {F T : List Id} (W : Wok ps) (h : AllIn ps n F T) : F.length ≤ 9 := by
  have := nodup_le h.nd (ys := ps.map (·.id)) fun x hx => rch_there W (h.ff x hx)
  rw [List.length_map] at this
  exact Nat.le_trans this W.few
theorem nodup_id {ps : List Pa} (n : (ps.map (·.id)).Nodup) {p q : Pa} (hp : p ∈ ps) (hq : q ∈ ps) (e : p.id = q.id) : p = q := by
  induction ps with
  | nil => cases hp
  | cons a t ih =>
    rw [List.map_cons, List.nodup_cons] at n
    rcases List.mem_cons.mp hp with h1 | h1
    · rcases List.mem_cons.mp hq with h2 | h2
      · rw [h1, h2]
      · exact absurd (List.mem_map.mpr ⟨q, h2, e.symm.trans (congrArg Pa.id h1)⟩) n.1
    · rcases List.mem_cons.mp hq with h2 | h2
      · exact absurd (List.mem_map.mpr ⟨p, h1, e.trans (congrArg Pa.id h2)⟩) n.1
      · exact ih n.2 h1 h2
theorem ne_same {H H' : Hp} {d a : Addr} {o : HO} (n : H d = Option.none) (s : H a = some o) : a ≠ d := ne_of_none s n
theorem ok_all_needs {L : Lab} {f : Addr} {fd : FuncData} (B : Bt mg) (F : DefAt K "all_needs" "all_needs" sAllNeeds f fd) (G : Df P w K mg base 4 "needs" ["patch"] (spIds L 6012 Pa.needs)) : FnOk P w K mg base CX0 5 f fd ["patches", "name"] (spAll (w := w) L) := by
  refine FunD.ok F scAllNeeds (fun vs H Q E h => ?_) (fun cdv A outer s H vs Q E hr h => ?_)
  · obtain ⟨pd, v, ps, n, rfl, _⟩ := h
    rfl
  · obtain ⟨pd, v, ps, n, rfl, hw, W, hn, hin, k⟩ := h
    have hu := hr.units
    refine ⟨_, PSs.nox (pss_cons (ps_set (i := 2) scAllNeeds.nd rfl (Or.inl rfl) (pe_nnew (enc := idK L)))
      (pss_cons (ps_set (i := 3) scAllNeeds.nd rfl (Or.inl rfl) (pe_lst (pa_cons (pv 1) pa_nil)))
      (pss_cons (ps_while PassesOwn.never (pt_cmpR op_gt (pe_callB call_len (by rfl) B.len boot_len (pa_cons (pv 3) pa_nil)) pe_int (nomark _))
        (pss_one (ps_for PassesOwn.never rfl (pi_list (pe_df G hr (by rfl) (pa_cons (pe_nget (idC L).toTCode hu (pv 0)
            (pe_bm0 PySem.F.plainAttrs_list PySem.F.slot_list_pop PySem.F.type_list_pop mt_pop (pv 3)) (fun _ _ => rfl)) pa_nil))) (pg_name (i := 4) scAllNeeds.nd rfl (Or.inl rfl))
          (pss_one (ps_if (pt_cmpR (op_nnotin (idC L).toTCode hu) (pv 4) (pv 2) rfl)
            (pss_cons (ps_nput (idC L).toTCode hu (pv 2) (pv 4) pe_bl rfl)
              (pss_one (ps_expr (pe_bm PySem.F.plainAttrs_list PySem.F.slot_list_append PySem.F.type_list_append mt_append (pv 3) (pa_cons (pv 4) pa_nil)))))
            pss_nil)))))
      (pss_one (ps_ret (pe_callB (call_sortD (idC L) rfl hu) (by rfl) B.sorted boot_sorted (pa_cons (pv 2) pa_nil))))))), ?_⟩
    have sl := sizeLine_eq
    refine fun d H1 nd b1 g1 => ?_
    have s1 : Same H H1 := same_but nd b1
    refine ⟨_, rfl, by show 1 ≤ sizeLine; omega, fun t nt1 => ?_⟩
    have nt : H t = none := by
      cases q : H t with
      | none => rfl
      | some o =>
        rw [s1 _ _ q] at nt1
        cases nt1
    have dt : d ≠ t := by
      obtain ⟨_, q⟩ := g1.there
      exact ne_of_none q nt1
    refine ⟨fun m σ H' => ∃ kvs vs T c4, σ = [some (.ref pd), some v, some (.ref d), some (.ref t), c4] ∧ Same H H' ∧ ND w H' (idK L) d kvs ∧ H' t = some (.lst vs) ∧ EV H' (idK L) vs T ∧ AllDo ps n (kvs.map (·.1)) T ∧ 2 * (9 - kvs.length) + T.length ≤ m ∧ m ≤ 19,
      ⟨19, [], [v], [n], none, rfl, s1.trans (same_new nt1), g1.tk (Tk.new nt1) (upd_ne dt), upd_same, .cons (TD.tk ((Tk.of_same s1).trans (Tk.new nt1)) _ _ hn) .nil, ⟨⟨by simp, fun i hi => .inl (by simpa using hi), fun i hi => by simp at hi⟩, fun a h1 h2 => absurd (by simpa using h1) (by simpa using h2)⟩, by simp, Nat.le_refl _⟩, ?_⟩
    rintro m σ H' ⟨kvs, vs, T, c4, rfl, S, g, ht, ev, dn, hm, hm9⟩
    refine ⟨_, rfl, _, _, rfl, .inl ⟨_, SqL.of ht, rfl⟩, _, _, rfl, rfl, _, rfl, iB (fun hb => ?_) (fun hb => ?_)⟩
    · have hlen : 0 < vs.length := by have := of_decide_eq_true hb; omega
      have hTl := ev.length
      obtain ⟨y, hy⟩ : ∃ y, vs[vs.length - 1]? = some y := ⟨_, List.getElem?_eq_getElem (by omega)⟩
      obtain ⟨a, ha, hay⟩ := ev.get (i := 0) hy
      have hT : T = T.dropLast ++ [a] := by
        have e := List.take_append_drop (T.length - 1) T
        rw [← List.dropLast_eq_take] at e
        rw [hTl] at ha
        have : T.drop (T.length - 1) = [a] := by
          rw [List.drop_eq_getElem_cons (by omega)]
          rw [List.getElem?_eq_getElem (by omega)] at ha
          injection ha with ha
          rw [ha, List.drop_eq_nil_of_le (by omega)]
        rw [this] at e
        exact e.symm
      have haT : a ∈ T := List.mem_of_getElem? ha
      have hin2 : a ∈ ps.map (·.id) := by
        rcases dn.tt a haT with rfl | r
        · exact hin
        · exact rch_there W r
      have ev2 : EV H' (idK L) vs.dropLast T.dropLast := by
        rw [List.dropLast_eq_take, List.dropLast_eq_take, ← hTl]
        exact ev.take _
      have tk2 : Tk H' (upd H' t (.lst vs.dropLast)) := Tk.put ht fun _ z => nomatch z
      have S2 : Same H (upd H' t (.lst vs.dropLast)) := fun b o q => by
        rw [upd_ne (ne_of_none q nt)]
        exact S _ _ q
      obtain ⟨pk, pv', p, gp, hv, hpa, hp, rfl⟩ := (hw.same S2).get hin2
      refine ⟨fun σ' H'' => ∃ kvs vs T c4, σ' = [some (.ref pd), some v, some (.ref d), some (.ref t), c4] ∧ Same H H'' ∧ ND w H'' (idK L) d kvs ∧ H'' t = some (.lst vs) ∧ EV H'' (idK L) vs T ∧ AllDo ps n (kvs.map (·.1)) T ∧ 2 * (9 - kvs.length) + T.length ≤ m - 1 ∧ m - 1 ≤ 19,
        fun σ' H'' q => ⟨m - 1, by omega, q⟩, ?_⟩
      refine ⟨_, rfl, _, rfl, .inl ⟨rfl, _, .inl (.inl ht)⟩, _, _, _, rfl, rfl, ht, hy, pd, pk, p.id, pv', rfl, gp.r, TD.tk tk2 _ _ hay, hv, ?_⟩
      refine ⟨_, p, rfl, hpa, W.ok p hp, fun r H3 xs s3 nr hr3 nx zx mx => ?_⟩
      obtain ⟨rv, hrl, evr⟩ := hr3
      have hrt : r ≠ t := fun e => by
        subst e
        rw [upd_same] at nr
        cases nr
      have g2 : ND w (upd H' t (.lst vs.dropLast)) (idK L) d kvs := g.tk tk2 (upd_ne dt)
      have hrd : r ≠ d := fun e => by
        subst e
        exact g2.some_ nr
      refine ⟨r, rfl, ⟨_, SqL.of hrl⟩, for_list (K := K) (a := r) (xs := rv)
        (fun j σ H'' => ∃ kvs vs T c4, σ = [some (.ref pd), some v, some (.ref d), some (.ref t), c4] ∧ Same H H'' ∧ ND w H'' (idK L) d kvs ∧ H'' t = some (.lst vs) ∧ EV H'' (idK L) vs T ∧ H'' r = some (.lst rv) ∧ EV H'' (idK L) rv xs ∧ AllAt ps n p.id (kvs.map (·.1)) T (xs.take j) ∧ 2 * (9 - kvs.length) + T.length ≤ m - 1)
        ⟨kvs, _, _, _, rfl, S2.trans s3, g2.same s3, s3 _ _ upd_same, (ev2.tk tk2).tk (Tk.of_same s3), hrl, evr, ?_, ?_⟩ (fun j σ H'' _ ⟨_, _, _, _, _, _, _, _, _, q, _⟩ => SqL.of q) ?_ ?_⟩
      · refine ⟨⟨dn.nd, fun i hi => dn.tt i (List.dropLast_subset _ hi), dn.ff⟩, fun b hb1 hb2 hb3 c hc => dn.cl b hb1 (fun q => ?_) c hc, by simp⟩
        rw [hT, List.mem_append] at q
        rcases q with q | q
        · exact hb2 q
        · exact hb3 (by simpa using q)
      · rw [List.length_dropLast]
        omega
      · rintro j y2 σ H'' hj ⟨kvs2, vs2, T2, c4', rfl, S4, g4, ht4, ev4, hr4, evr4, dn4, hm4⟩
        obtain ⟨x, hx, hxt⟩ := evr4.get (i := 0) hj
        have nxm : Nee ps p.id x := ⟨p, hp, rfl, (mx x).mp (List.mem_of_getElem? hx)⟩
        have l9 : kvs2.length ≤ 9 := by
          have := dn4.toAllIn.len W
          rwa [List.length_map] at this
        refine ⟨_, rfl, _, rfl, d, kvs2, x, rfl, g4.r, hxt, _, rfl, ?_⟩
        rw [valV_isSome]
        refine iB (fun hne => ?_) (fun heq => ?_)
        · have ne : x ∉ kvs2.map (·.1) := by simpa using hne
          refine ⟨_, rfl, _, rfl, d, kvs2, x, rfl, g4, by omega, hxt, fun H5 b5 g5 => ?_⟩
          have k5 : Kp d H'' H5 := Kp.but b5
          have t5 : Tk H'' H5 := k5.tkn g4
          have ht5 : H5 t = some (.lst vs2) := k5 _ _ dt.symm ht4
          have tk6 : Tk H5 (upd H5 t (.lst (vs2 ++ [y2]))) := Tk.put ht5 fun _ z => nomatch z
          have dn5 : AllAt ps n p.id ((putK kvs2 x (V.bl true)).map (·.1)) (T2 ++ [x]) (xs.take (j + 1)) := by
            have rx : Rch ps n x := by
              have : p.id = n ∨ Rch ps n p.id := dn.tt _ haT
              rcases this with e | e
              · exact .one (e ▸ nxm)
              · exact .step e nxm
            refine ⟨⟨nodup_putK dn4.nd, fun i hi => ?_, fun i hi => ?_⟩, fun b hb1 hb2 hb3 c hc => ?_, fun b hb => ?_⟩
            · rcases List.mem_append.mp hi with h | h
              · exact dn4.tt i h
              · rw [List.mem_singleton] at h
                rw [h]
                exact .inr rx
            · rcases mem_putK.mp hi with h | rfl
              · exact dn4.ff i h
              · exact rx
            · refine mem_putK.mpr (.inl (dn4.cl b ?_ (fun q => hb2 (List.mem_append.mpr (.inl q))) hb3 c hc))
              rcases hb1 with e | e
              · exact .inl e
              · rcases mem_putK.mp e with e | rfl
                · exact .inr e
                · exact absurd (List.mem_append.mpr (.inr (by simp))) hb2
            · rcases (mem_take_succ hx).mp hb with h | rfl
              · exact mem_putK.mpr (.inl (dn4.now b h))
              · exact mem_putK.mpr (.inr rfl)
          have lT : T2.length ≤ 19 := by omega
          have lv := ev4.length
          refine ⟨_, rfl, .inl ⟨rfl, _, .inl (.inl ht5)⟩, _, rfl, t, vs2, y2, rfl, rfl, ht5, by omega, ?_⟩
          refine ⟨_, _, T2 ++ [x], _, rfl, fun b o q => ?_, g5.tk tk6 (upd_ne dt), upd_same, ((ev4.tk t5).tk tk6).snoc (TD.tk tk6 _ _ (TD.tk t5 _ _ hxt)), ?_, (evr4.tk t5).tk tk6, ?_, ?_⟩
          · rw [upd_ne (ne_of_none q nt)]
            exact k5.same S4 nd _ _ q
          · rw [upd_ne hrt]
            exact k5 _ _ hrd hr4
          · exact dn5
          · have : (putK kvs2 x (V.bl true)).length = kvs2.length + 1 := by
              have := congrArg List.length (keys_putK kvs2 x (V.bl true))
              rw [if_neg ne, List.length_append, List.length_map, List.length_map] at this
              exact this
            have l10 : (putK kvs2 x (V.bl true)).length ≤ 9 := by
              have := dn5.toAllIn.len W
              rwa [List.length_map] at this
            rw [this, List.length_append]
            rw [this] at l10
            simp only [List.length_singleton]
            omega
        · have eq : x ∈ kvs2.map (·.1) := by simpa using heq
          refine ⟨kvs2, vs2, T2, _, rfl, S4, g4, ht4, ev4, hr4, evr4, ⟨dn4.toAllIn, dn4.cl, fun b hb => ?_⟩, hm4⟩
          rcases (mem_take_succ hx).mp hb with h | rfl
          · exact dn4.now b h
          · exact eq
      · rintro σ H'' ⟨kvs2, vs2, T2, c4', rfl, S4, g4, ht4, ev4, hr4, evr4, dn4, hm4⟩
        refine ⟨kvs2, vs2, T2, _, rfl, S4, g4, ht4, ev4, ⟨dn4.toAllIn, fun b hb1 hb2 c hc => ?_⟩, hm4, by omega⟩
        by_cases e : b = p.id
        · subst e
          refine dn4.now c ?_
          rw [evr.length, List.take_length, mx]
          obtain ⟨p', hp', e', hc'⟩ := hc
          have := nodup_id hw.nodup hp' hp e'
          rwa [this] at hc'
        · exact dn4.cl b hb1 hb2 e c hc
    · have hl0 : T = [] := by
        have := of_decide_eq_false hb
        have := ev.length
        exact List.length_eq_zero_iff.mp (by omega)
      subst hl0
      have hF : ∀ i, i ∈ kvs.map (·.1) ↔ Rch ps n i := fun i => by
        refine ⟨dn.ff i, fun r => ?_⟩
        induction r with
        | one h => exact dn.cl _ (.inl rfl) (by simp) _ h
        | step _ h ih => exact dn.cl _ (.inr ih) (by simp) _ h
      refine ⟨_, rfl, d, kvs, rfl, g.r, fun p2 vs' xs' pm ev' np => ?_⟩
      refine k _ _ xs' (S.trans (same_new np)) (none_of S np) ⟨_, upd_same, ev'.tk (Tk.new np)⟩ (pm.nodup_iff.mpr dn.nd) ?_ fun j => ?_
      · rw [pm.length_eq]
        exact dn.toAllIn.len W
      · rw [pm.mem_iff, hF]
end
end K97
set_option Elab.async false
set_option linter.all false
set_option maxRecDepth 100000
set_option maxHeartbeats 4000000
/-! new_ids, needed_new, picks_between. -/
namespace K97
open PySem PySem.Spec PyProof.Rows L2
section
variable {X : Cx} {κ : Type} [DecidableEq κ] {enc : κ → NestedKey}
theorem op_ninW {w : World} (h : X.w = w) (C : TCode enc) (hu : X.A.units + 64 < cLine) : OpR X (compareOp .In) (rNIn w enc false) := h ▸ op_nin C hu
theorem op_nnotinW {w : World} (h : X.w = w) (C : TCode enc) (hu : X.A.units + 64 < cLine) : OpR X (compareOp .NotIn) (rNIn w enc true) := h ▸ op_nnotin C hu
theorem op_inEK {K : PySem.W.Frag} (h : X.K = K) (hu : X.A.units + 65 < cLine) (C : Code enc) : OpR X (compareOp .In) (rInE K enc false) := h ▸ op_inE hu C
theorem op_notInEK {K : PySem.W.Frag} (h : X.K = K) (hu : X.A.units + 65 < cLine) (C : Code enc) : OpR X (compareOp .NotIn) (rInE K enc true) := h ▸ op_notInE hu C
end
/-- the keys of a locked dict of patches, walked -/
theorem nd_item {κ : Type} [DecidableEq κ] {H : Hp} {enc : κ → NestedKey} {kvs : List (κ × V)} {xs : List Ent} (x : NDat H enc kvs xs) {i : Nat} {e : Ent} (h : xs[i]? = some e) : ∃ k, (kvs.map (·.1))[i]? = some k ∧ TD H (enc k) (.ref e.2.1) :=
  EV.get (i := 0) (nd_keys x) (by rw [List.getElem?_map, h]; rfl)
section
variable {P : Program} {w : World} {K : PySem.W.Frag} {mg : Str → Option Value} {base : Heap}
def ids (ps : List Pa) : List Id := ps.map (·.id)
def fresh (gs ps : List Pa) : List Id := (ids ps).filter fun i => decide (i ∉ ids gs)
theorem mem_fresh {gs ps : List Pa} {i : Id} : i ∈ fresh gs ps ↔ i ∈ ids ps ∧ i ∉ ids gs := by
  unfold fresh
  rw [List.mem_filter, decide_eq_true_eq]
/-- the two dicts -/
structure TwoAt (w : World) (L : Lab) (H : Hp) (gd bd : Addr) (gs ps : List Pa) : Prop where
  g : WAt w L H gd gs
  b : WAt w L H bd ps
  ne : gd ≠ bd
  ok : Wok ps
theorem TwoAt.same {L : Lab} {H H' : Hp} {gd bd : Addr} {gs ps : List Pa} (s : Same H H') (h : TwoAt w L H gd bd gs ps) : TwoAt w L H' gd bd gs ps := ⟨h.g.same s, h.b.same s, h.ne, h.ok⟩
theorem TwoAt.fnd {L : Lab} {H : Hp} {gd bd : Addr} {gs ps : List Pa} (h : TwoAt w L H gd bd gs ps) : (fresh gs ps).Nodup := List.Pairwise.filter _ h.b.nodup
theorem TwoAt.few {L : Lab} {H : Hp} {gd bd : Addr} {gs ps : List Pa} (h : TwoAt w L H gd bd gs ps) : (fresh gs ps).length ≤ 9 := by
  have a := List.length_filter_le (fun i => decide (i ∉ ids gs)) (ids ps)
  have b := h.ok.few
  unfold fresh
  unfold ids at a ⊢
  rw [List.length_map] at a
  omega
def spNew (L : Lab) : Sp := fun vs H Q _ => ∃ (gd bd : Addr) (gs ps : List Pa), vs = [.ref gd, .ref bd] ∧ TwoAt w L H gd bd gs ps ∧ ∀ r H' xs, Same H H' → H r = none → LE H' (idK L) r xs → xs.Perm (fresh gs ps) → Q (.ref r) H'
theorem scNewIds : FnScope ["good", "bad", "name"] ["good", "bad"] (defScope sNewIds) := ⟨rfl, rfl, rfl, by decide +kernel, rfl, by decide +kernel, by decide +kernel⟩
theorem ok_new_ids {L : Lab} {f : Addr} {fd : FuncData} (B : Bt mg) (F : DefAt K "new_ids" "new_ids" sNewIds f fd) : FnOk P w K mg base CX0 1 f fd ["good", "bad"] (spNew (w := w) L) := by
  refine FunD.ok F scNewIds (fun vs H Q E h => ?_) (fun cdv A outer s H vs Q E hr h => ?_)
  · obtain ⟨gd, bd, gs, ps, rfl, _⟩ := h
    rfl
  · obtain ⟨gd, bd, gs, ps, rfl, T, k⟩ := h
    have hu := hr.units
    refine ⟨_, PSs.nox (pss_one (ps_ret (pe_callB (call_sortE (idC L) hu) (by rfl) B.sorted boot_sorted (pa_cons (pe_lock (pe_lc (own := [("name", 2)]) (g := gName 2) rfl scNewIds.nd (pi_n (pv 1))
      (blkOk_by (own := [("name", 2)]) (N := ["good", "bad", "name"]) (sc := defScope sNewIds) (by decide +kernel)) (fun _ _ _ _ _ => pg_name (i := 2) scNewIds.nd rfl (Or.inl rfl))
      (fun _ _ _ _ _ => pts_one (pt_cmpR (op_nnotinW (w := w) rfl (idC L).toTCode hu) (pv 2) (pv 0) rfl)) (fun _ _ _ _ _ => pv 2))) pa_nil)))), ?_⟩
    obtain ⟨kb, ⟨hb0, xb, hbx, hbn⟩, hbp⟩ := T.b
    obtain ⟨kg, gg, hgp⟩ := T.g
    have gkeys := paired_keys hgp
    have bkeys := paired_keys hbp
    have sl := sizeLine_eq
    refine ⟨bd, _, hbx, trivial, fun od => ?_⟩
    have ne := T.ne
    have tkL : Tk H (upd H bd (.frz od (ndO w bd xb))) := Tk.put hbx fun ys => ndO_ne ys
    have hbn2 := hbn.tk tkL
    have gg2 : ND w (upd H bd (.frz od (ndO w bd xb))) (idK L) gd kg := gg.tk tkL (upd_ne ne)
    have few : xb.length ≤ 9 := by
      have := (nd_keys hbn).length
      rw [List.length_map, bkeys, List.length_map] at this
      have := T.ok.few
      omega
    refine ⟨_, rfl, bd, od, xb, rfl, hb0, upd_same, fun D nD => lc_accN nD (RelE (idK L) fun i => ((kb.map (·.1)).take i).filter fun i => decide (i ∉ ids gs)) RelE.mono RelE.zero (by omega) upd_same ?_ ?_⟩
    · rintro i x H1 acc C N hi ⟨e, he, rfl⟩ s1 hD hl r hC hN
      obtain ⟨q, hq, hqt⟩ := nd_item hbn2 he
      have hqt1 := TD.tk (Tk.of_same s1) _ _ hqt
      refine ⟨rfl, _, rfl, _, rfl, gd, kg, q, rfl, (gg2.same s1).r, hqt1, _, rfl, ?_⟩
      rw [valV_isSome, gkeys]
      refine iB (fun hb => ?_) (fun hb => ?_)
      · exact ⟨_, rfl, hC _ _ (Same.refl _) (r.yes (Same.refl _) hq (by simpa [ids] using hb) hqt1)⟩
      · exact hN _ (Same.refl _) (r.no (Same.refl _) hq (by simpa [ids] using hb))
    · intro H1 acc s1 hD hl r
      refine ⟨s1 _ _ upd_same, ?_⟩
      have S1 : Same H (upd H1 bd (ndO w bd xb)) := same_unlock hbx s1
      have e1 : xb.length = (kb.map (·.1)).length := by
        have := (nd_keys hbn).length
        rwa [List.length_map] at this
      have r := r.all e1
      rw [bkeys] at r
      have nl : H D = none := by
        by_cases e : D = bd
        · subst e
          rw [upd_same] at nD
          cases nD
        · rwa [upd_ne e] at nD
      have hDb : D ≠ bd := fun e => by
        rw [e, hbx] at nl
        cases nl
      have tkU : Tk H1 (upd H1 bd (ndO w bd xb)) := Tk.put (s1 _ _ upd_same) fun _ z => nomatch z
      refine ⟨D, acc, _, rfl, SqL.of (by rw [upd_ne hDb]; exact hD), r.tk tkU, fun p vs' xs' pm ev' np => ?_⟩
      refine k _ _ xs' (S1.trans (same_new np)) (none_of S1 np) ⟨_, upd_same, ev'.tk (Tk.new np)⟩ ?_
      exact pm
/-- what new id n brings along -/
def PickOf (gs ps : List Pa) (n : Id) (xs : List Id) : Prop := xs.length ≤ 10 ∧ ∀ i, i ∈ xs ↔ i = n ∨ (Rch ps n i ∧ i ∉ ids gs)
def spPick (L : Lab) : Sp := fun vs H Q _ => ∃ (gd bd : Addr) (v : V) (gs ps : List Pa) (n : Id), vs = [.ref gd, .ref bd, v] ∧ TwoAt w L H gd bd gs ps ∧ TD H (idK L n) v ∧ n ∈ ids ps ∧ ∀ r H' xs, Same H H' → H r = none → LE H' (idK L) r xs → PickOf gs ps n xs → Q (.ref r) H'
theorem scNeededNew : FnScope ["good", "bad", "name", "other"] ["good", "bad", "name"] (defScope sNeededNew) := ⟨rfl, rfl, rfl, by decide +kernel, rfl, by decide +kernel, by decide +kernel⟩
theorem ok_needed_new {L : Lab} {f : Addr} {fd : FuncData} (B : Bt mg) (F : DefAt K "needed_new" "needed_new" sNeededNew f fd) (G : Df P w K mg base 5 "all_needs" ["patches", "name"] (spAll (w := w) L)) : FnOk P w K mg base CX0 6 f fd ["good", "bad", "name"] (spPick (w := w) L) := by
  refine FunD.ok F scNeededNew (fun vs H Q E h => ?_) (fun cdv A outer s H vs Q E hr h => ?_)
  · obtain ⟨gd, bd, v, gs, ps, n, rfl, _⟩ := h
    rfl
  · obtain ⟨gd, bd, v, gs, ps, n, rfl, T, hn, hin, k⟩ := h
    have hu := hr.units
    refine ⟨_, PSs.nox (pss_one (ps_ret (pe_callB (call_sortE (idC L) hu) (by rfl) B.sorted boot_sorted (pa_cons (pe_op op_cat (pe_lst (pa_cons (pv 2) pa_nil))
      (pe_lc (own := [("other", 3)]) (g := gName 3) rfl scNeededNew.nd (pi_list (pe_df G hr (by rfl) (pa_cons (pv 1) (pa_cons (pv 2) pa_nil))))
      (blkOk_by (own := [("other", 3)]) (N := ["good", "bad", "name", "other"]) (sc := defScope sNeededNew) (by decide +kernel)) (fun _ _ _ _ _ => pg_name (i := 3) scNeededNew.nd rfl (Or.inl rfl))
      (fun _ _ _ _ _ => pts_one (pt_cmpR (op_nnotinW (w := w) rfl (idC L).toTCode hu) (pv 3) (pv 0) rfl)) (fun _ _ _ _ _ => pv 3))) pa_nil)))), ?_⟩
    have sl := sizeLine_eq
    refine ⟨_, rfl, by show 1 ≤ sizeLine; omega, fun t nt => ?_⟩
    have s0 := same_new (o := .lst [v]) nt
    have T0 := T.same s0
    refine ⟨_, rfl, _, rfl, bd, v, ps, n, rfl, T0.b, T0.ok, TD.tk (Tk.of_same s0) _ _ hn, hin, fun r H1 xs s1 nr hr1 nx zx mx => ?_⟩
    obtain ⟨vx, hvx, ev⟩ := hr1
    have T1 := T0.same s1
    obtain ⟨kg, gg, hgp⟩ := T1.g
    have gkeys := paired_keys hgp
    have el := ev.length
    refine ⟨r, rfl, ⟨_, SqL.of hvx⟩, fun D nD => lc_accL (xs := vx) nD (RelE (idK L) fun i => (xs.take i).filter fun i => decide (i ∉ ids gs)) RelE.mono RelE.zero (by omega) (fun H' s' => SqL.of (s' _ _ hvx)) ?_ ?_⟩
    · rintro i x H2 acc C N hi he s2 hD hl r2 hC hN
      obtain ⟨q, hq, hqt⟩ := ev.get (i := 0) he
      have hqt1 := TD.tk (Tk.of_same s2) _ _ hqt
      refine ⟨rfl, _, rfl, _, rfl, gd, kg, q, rfl, (gg.same s2).r, hqt1, _, rfl, ?_⟩
      rw [valV_isSome, gkeys]
      refine iB (fun hb => ?_) (fun hb => ?_)
      · exact ⟨_, rfl, hC _ _ (Same.refl _) (r2.yes (Same.refl _) hq (by simpa [ids] using hb) hqt1)⟩
      · exact hN _ (Same.refl _) (r2.no (Same.refl _) hq (by simpa [ids] using hb))
    · intro H2 acc s2 hD hl r2
      have r2 := r2.all el
      have l2 := r2.length
      have z2 := List.length_filter_le (fun i => decide (i ∉ ids gs)) xs
      have S2 := s1.trans s2
      have ht : H2 t = some (.lst [v]) := S2 _ _ upd_same
      have hvt : TD H2 (idK L n) v := TD.tk (Tk.of_same (s0.trans S2)) _ _ hn
      refine ⟨t, D, [v], acc, rfl, rfl, ht, hD, by show 1 + acc.length ≤ sizeLine; omega, fun p np => ?_⟩
      have e3 : EV H2 (idK L) ([v] ++ acc) (n :: xs.filter fun i => decide (i ∉ ids gs)) := .cons hvt r2
      refine ⟨p, _, _, rfl, SqL.of upd_same, e3.tk (Tk.new np), fun p3 vs' xs' pm ev' np3 => ?_⟩
      have S3 := (s0.trans S2).trans (same_new (o := .lst ([v] ++ acc)) np)
      refine k _ _ xs' (S3.trans (same_new np3)) (none_of S3 np3) ⟨_, upd_same, ev'.tk (Tk.new np3)⟩ ⟨?_, fun i => ?_⟩
      · rw [pm.length_eq, List.length_cons]
        omega
      · rw [pm.mem_iff, List.mem_cons, List.mem_filter, mx, decide_eq_true_eq]
def spPicks (L : Lab) : Sp := fun vs H Q _ => ∃ (gd bd : Addr) (gs ps : List Pa), vs = [.ref gd, .ref bd] ∧ TwoAt w L H gd bd gs ps ∧ ∀ r H' ns xss, Same H H' → H r = none → LLE H' (idK L) r xss → ns.Perm (fresh gs ps) → Paired (PickOf gs ps) ns xss → Q (.ref r) H'
theorem scPicksBetween : FnScope ["good", "bad", "name"] ["good", "bad"] (defScope sPicksBetween) := ⟨rfl, rfl, rfl, by decide +kernel, rfl, by decide +kernel, by decide +kernel⟩
theorem ok_picks_between {L : Lab} {f : Addr} {fd : FuncData} (B : Bt mg) (F : DefAt K "picks_between" "picks_between" sPicksBetween f fd) (G1 : Df P w K mg base 1 "new_ids" ["good", "bad"] (spNew (w := w) L)) (G2 : Df P w K mg base 6 "needed_new" ["good", "bad", "name"] (spPick (w := w) L)) :
    FnOk P w K mg base CX0 7 f fd ["good", "bad"] (spPicks (w := w) L) := by
  refine FunD.ok F scPicksBetween (fun vs H Q E h => ?_) (fun cdv A outer s H vs Q E hr h => ?_)
  · obtain ⟨gd, bd, gs, ps, rfl, _⟩ := h
    rfl
  · obtain ⟨gd, bd, gs, ps, rfl, T, k⟩ := h
    refine ⟨_, PSs.nox (pss_one (ps_ret (pe_lc (own := [("name", 2)]) (g := gName 2) (tt := tYes) rfl scPicksBetween.nd (pi_list (pe_df G1 (hr.mono (by decide)) (by rfl) (pa_cons (pv 0) (pa_cons (pv 1) pa_nil))))
      (blkOk_by (own := [("name", 2)]) (N := ["good", "bad", "name"]) (sc := defScope sPicksBetween) (by decide +kernel)) (fun _ _ _ _ _ => pg_name (i := 2) scPicksBetween.nd rfl (Or.inl rfl))
      (fun _ _ _ _ _ => pts_nil) (fun _ _ _ _ _ => pe_df G2 hr (by rfl) (pa_cons (pv 0) (pa_cons (pv 1) (pa_cons (pv 2) pa_nil))))))), ?_⟩
    have sl := sizeLine_eq
    refine ⟨_, rfl, _, rfl, gd, bd, gs, ps, rfl, T, fun r H1 ns s1 nr hr1 pm => ?_⟩
    obtain ⟨vx, hvx, ev⟩ := hr1
    have el := ev.length
    have few : ns.length ≤ 9 := by
      rw [pm.length_eq]
      exact T.few
    refine ⟨r, rfl, ⟨_, SqL.of hvx⟩, fun D nD => lc_accL (xs := vx) nD (RelL D (idK L) fun i xss => Paired (PickOf gs ps) (ns.take i) xss) RelL.mono ⟨[], .nil, .nil⟩ (by omega) (fun H' s' => SqL.of (s' _ _ hvx)) ?_ ?_⟩
    · rintro i x H2 acc C N hi he s2 hD hl r2 hC hN
      obtain ⟨q, hq, hqt⟩ := ev.get (i := 0) he
      have S2 := s1.trans s2
      have hf : q ∈ fresh gs ps := pm.mem_iff.mp (List.mem_of_getElem? hq)
      refine ⟨rfl, ?_⟩
      refine ⟨_, rfl, _, rfl, _, rfl, gd, bd, x, gs, ps, q, rfl, T.same S2, TD.tk (Tk.of_same s2) _ _ hqt, (mem_fresh.mp hf).1, fun r3 H3 xs s3 nr3 hr3 hp => ?_⟩
      refine hC _ _ s3 ((RelL.mono.same s3 r2).snoc (fun e => ?_) hr3 fun xss h => ?_)
      · rw [e, hD] at nr3
        cases nr3
      · rw [take_succ_get hq]
        exact h.snoc hp
    · intro H2 acc s2 hD hl r2
      obtain ⟨xss, h1, h2⟩ := r2.lle hD
      rw [el, List.take_length] at h1
      exact k D H2 ns xss (s1.trans s2) (none_of s1 nD) h2 pm h1
end
end K97
set_option Elab.async false
set_option linter.all false
set_option maxRecDepth 100000
set_option maxHeartbeats 400000
/-! parts_between. -/
namespace K97
open PySem PySem.Spec PyProof.Rows L2
/-- the rule for a def whose code object is known -/
theorem funD_okC {P : Program} {w : World} {K : PySem.W.Frag} {mg : Str → Option Value} {base : Heap} {x qual : Str} {params : Arguments} {body : List Stmt} {scope : Scope} {dvs : List V} {kws : List (Str × V)} {f : Addr} {fd : FuncData} {CX : CXT} {N ps : List Str} {k : Nat} {sp : Sp} {c : Addr}
    (F : FunD K x qual params body scope dvs kws f fd) (hc : fd.code = .ref c) (S : FnScope N ps scope) (len : ∀ vs H Q E, sp vs H Q E → vs.length = ps.length)
    (hbody : ∀ (A : Around) (outer : List Env) (s : Shared) (H : Hp) (vs : List V) (Q : VK) (E : XK), Room k (A.deeper (envOfC qual scope s.heap.objs.size f (.ref c))) → sp vs H Q E →
      ∃ t, PSs (cxOf CX P w K mg base N qual scope f (.ref c) A outer s H E) body t ∧ t { nx := fun _ H' => Q .non H', rt := Q } (start N vs) H) : FnOk P w K mg base CX (k + 1) f fd ps sp := by
  obtain ⟨oc, od, dV, kV, doc, pm, an, cdv, ct, osl, rfl, lk, hcd, _, _⟩ := F.ex
  have e : cdv = .ref c := hc
  subst e
  exact fn_of lk hcd S len fun A outer s H vs Q E hr hsp => hbody A outer s H vs Q E hr hsp
theorem call_listK {X : Cx} (K : PySem.W.Frag) (h : X.K = K) : CallR X (.type "list") (fun xs H Q => ∃ p ys, xs = [.ref p] ∧ (SqL K H p ys ∨ SqT K H p ys) ∧ ∀ l, H l = none → Q (.ref l) (upd H l (.lst ys))) := h ▸ call_list_of
theorem call_tupleK {X : Cx} (K : PySem.W.Frag) (h : X.K = K) : CallR X (.type "tuple") (fun xs H Q => ∃ p ys, xs = [.ref p] ∧ ((SqL K H p ys ∧ ∀ l, H l = none → Q (.ref l) (upd H l (.tup ys))) ∨ (SqT K H p ys ∧ Q (.ref p) H))) := h ▸ call_tuple_of
def qLam : Str := ("parts_between" : Str) ++ ".<locals>." ++ "<lambda>"
/-- all that new id n brings along -/
def Pk (gs ps : List Pa) (n i : Id) : Prop := i = n ∨ (Rch ps n i ∧ i ∉ ids gs)
structure TestsOf (gs ps : List Pa) (tss : List (List Id)) : Prop where
  few : tss.length ≤ 512
  nd : ∀ t ∈ tss, t.Nodup
  sub : ∀ t ∈ tss, ∀ j ∈ t, j ∈ ids ps
  every : ∀ S : List Id, (∀ i ∈ S, i ∈ fresh gs ps) → ∃ t ∈ tss, ∀ j, j ∈ t ↔ ∃ i ∈ S, Pk gs ps i j
theorem qlam_eq : (("parts_between" : Str) ++ ".<locals>.") ++ "<lambda>" = qLam := rfl
theorem pe_sortLam1 {κ : Type} [DecidableEq κ] {X : Cx} {enc : κ → NestedKey} {c Pt : Addr} {q0 qL : Str} {e : Expr} {te : TE} {params : Arguments} {scope : Scope} {p pos lpos kpos p1 p2 p3 p4 p5 : Pos} (S : LCode enc) (hc : X.calm = true) (hu : X.A.units + 64 < cLine) (hdep : X.A.depth + 5 < recursionLimit)
    (hgs : Gl X "sorted") (hms : X.mg "sorted" = none) (hml : X.mg "len" = none)
    (TB : LamX.TabB X.base X.mg c Pt) (hcode : X.env.code = .ref c) (hq : X.env.qual = q0) (hL : q0 ++ "<lambda>" = qL) (hdef : defaultsOf params X.env = ([], []))
    (sfree : ∀ y ∈ scope.names, y.2 ≠ .free) (sclo : ∀ cells : List (Str × Addr), cloFrom cells scope.names [] = [])
    (sk : scope.kind = .function) (sco : scope.isCoroutine = false) (sge : scope.isGenerator = false) (scell : ∀ x ∈ scope.names, x.2 ≠ .cell) (sp : scope.names.lookup ("part" : Str) = some NameKind.local) (sl : scope.names.lookup ("len" : Str) = some NameKind.globalImplicit)
    (hbind : ∀ (q : Str) (t c' : Addr) (pm ctv : Value), bindArgs (PySem.W.kla_fn "<lambda>" q params (lamBody p1 p2 p3 p4 p5) scope [] pm (Value.ref c') ctv) ⟨[Value.ref t], []⟩ = pure [(("part" : Str), Value.ref t)])
    (he : PE X e te) (hs : starEach (e :: []) X.env = (false, eval e X.env) :: starEach [] X.env := by rfl) :
    PE X (.Call (.Name "sorted" p) [e] [⟨some "key", .Lambda params (lamBody p1 p2 p3 p4 p5) scope lpos, kpos⟩] pos) (tSortL X.w enc [(Pt, qL)] te) := by
  subst hq hL
  exact pe_sortLam S hc hu hdep hgs hms hml TB hcode (List.mem_singleton.mpr rfl) (fun p hp _ => by rw [List.mem_singleton] at hp; rw [hp]) hdef sfree sclo sk sco sge scell sp sl hbind he hs
theorem tabs_same {T : List (Addr × Str)} {H H' : Hp} (s : Same H H') (h : LamX.Tabs T H) : LamX.Tabs T H' := fun p hp => by
  obtain ⟨q, a, b, c⟩ := h p hp
  exact ⟨q, s _ _ a, b, fun pos cv e => let ⟨c1, e1, e2⟩ := c pos cv e; ⟨c1, e1, s _ _ e2⟩⟩
theorem extN_same {H H' : Hp} (s : Same H H') : LamX.ExtN H H' := LamX.ExtN.of s
/-- the parts found from the first k new ids -/
structure Fnd (gs ps : List Pa) (ms : List Id) (k : Nat) (tss : List (List Id)) : Prop where
  few : tss.length ≤ 2 ^ k
  nd : ∀ t ∈ tss, t.Nodup
  sub : ∀ t ∈ tss, ∀ j ∈ t, j ∈ ids ps
  every : ∀ S : List Id, (∀ i ∈ S, i ∈ ms) → ∃ t ∈ tss, ∀ j, j ∈ t ↔ ∃ i ∈ S, Pk gs ps i j
def StepOf (pk t y : List Id) : Prop := y.Nodup ∧ ∀ j, j ∈ y ↔ j ∈ t ∨ j ∈ pk
theorem Fnd.start {gs ps : List Pa} {ns : List Id} : Fnd gs ps (ns.take 0) 0 [[]] where
  few := by simp
  nd := by simp
  sub := by simp
  every := fun S h => ⟨[], by simp, fun j => by
    constructor
    · intro q
      cases q
    · rintro ⟨i, hi, _⟩
      have := h i hi
      simp at this⟩
theorem pk_there {gs ps : List Pa} (W : Wok ps) {n j : Id} (hn : n ∈ ids ps) (h : Pk gs ps n j) : j ∈ ids ps := by
  rcases h with rfl | ⟨r, _⟩
  · exact hn
  · exact rch_there W r
theorem Fnd.short {gs ps : List Pa} {ms : List Id} {k : Nat} {tss : List (List Id)} (h : Fnd gs ps ms k tss) (W : Wok ps) {t : List Id} (ht : t ∈ tss) : t.length ≤ 9 := by
  have := nodup_le (h.nd t ht) (ys := ids ps) (h.sub t ht)
  unfold ids at this
  rw [List.length_map] at this
  exact Nat.le_trans this W.few
theorem pget_mem {α β : Type} {F : α → β → Prop} : ∀ {l₁ : List α} {l₂ : List β} {b : β}, Paired F l₁ l₂ → b ∈ l₂ → ∃ a ∈ l₁, F a b
  | _, _, _, .nil, h => nomatch h
  | _, _, _, .cons r t, h => by
    rcases List.mem_cons.mp h with rfl | h
    · exact ⟨_, List.mem_cons_self, r⟩
    · obtain ⟨a, h1, h2⟩ := pget_mem t h
      exact ⟨a, List.mem_cons_of_mem _ h1, h2⟩
theorem pget_meml {α β : Type} {F : α → β → Prop} : ∀ {l₁ : List α} {l₂ : List β} {a : α}, Paired F l₁ l₂ → a ∈ l₁ → ∃ b ∈ l₂, F a b
  | _, _, _, .nil, h => nomatch h
  | _, _, _, .cons r t, h => by
    rcases List.mem_cons.mp h with rfl | h
    · exact ⟨_, List.mem_cons_self, r⟩
    · obtain ⟨a, h1, h2⟩ := pget_meml t h
      exact ⟨a, List.mem_cons_of_mem _ h1, h2⟩
theorem Fnd.next {gs ps : List Pa} {ns : List Id} {k : Nat} {tss yss : List (List Id)} {n : Id} {pk : List Id} (h : Fnd gs ps (ns.take k) k tss) (W : Wok ps) (hn : ns[k]? = some n) (hp : PickOf gs ps n pk) (fn : (fresh gs ps).Nodup) (pm : ns.Perm (fresh gs ps)) (hs : Paired (StepOf pk) tss yss) : Fnd gs ps (ns.take (k + 1)) (k + 1) (tss ++ yss) where
  few := by
    have := Paired.length hs
    have := h.few
    rw [List.length_append, Nat.pow_succ]
    omega
  nd := fun t ht => by
    rcases List.mem_append.mp ht with ht | ht
    · exact h.nd t ht
    · obtain ⟨a, _, b⟩ := pget_mem hs ht
      exact b.1
  sub := fun t ht j hj => by
    rcases List.mem_append.mp ht with ht | ht
    · exact h.sub t ht j hj
    · obtain ⟨a, ha, b⟩ := pget_mem hs ht
      rcases (b.2 j).mp hj with q | q
      · exact h.sub a ha j q
      · exact pk_there W (mem_fresh.mp (pm.mem_iff.mp (List.mem_of_getElem? hn))).1 ((hp.2 j).mp q)
  every := fun S hS => by
    by_cases c : n ∈ S
    · obtain ⟨t, ht, e⟩ := h.every (S.filter fun i => decide (i ∈ ns.take k)) fun i hi => by
        rw [List.mem_filter] at hi
        exact of_decide_eq_true hi.2
      obtain ⟨y, hy, s⟩ := pget_meml hs ht
      refine ⟨y, List.mem_append.mpr (.inr hy), fun j => ?_⟩
      rw [s.2, e, hp.2]
      constructor
      · rintro (⟨i, hi, q⟩ | q)
        · exact ⟨i, (List.mem_filter.mp hi).1, q⟩
        · exact ⟨n, c, q⟩
      · rintro ⟨i, hi, q⟩
        rcases (mem_take_succ hn).mp (hS i hi) with z | rfl
        · exact .inl ⟨i, List.mem_filter.mpr ⟨hi, decide_eq_true z⟩, q⟩
        · exact .inr q
    · obtain ⟨t, ht, e⟩ := h.every S fun i hi => by
        rcases (mem_take_succ hn).mp (hS i hi) with z | rfl
        · exact z
        · exact absurd hi c
      exact ⟨t, List.mem_append.mpr (.inl ht), e⟩
section
variable {P : Program} {w : World} {K : PySem.W.Frag} {mg : Str → Option Value} {base : Heap}
def spParts (L : Lab) (Pt : Addr) : Sp := fun vs H Q _ => ∃ (gd bd : Addr) (gs ps : List Pa), vs = [.ref gd, .ref bd] ∧ TwoAt w L H gd bd gs ps ∧ LamX.Tabs [(Pt, qLam)] H ∧
  ∀ r H' tss, LamX.ExtN H H' → LamX.Tabs [(Pt, qLam)] H' → LLE H' (idK L) r tss → TestsOf gs ps tss → Q (.ref r) H'
theorem scPartsBetween : FnScope ["good", "bad", "picks", "found", "k", "more", "part", "name"] ["good", "bad"] (defScope sPartsBetween) := ⟨rfl, rfl, rfl, by decide +kernel, rfl, by decide +kernel, by decide +kernel⟩
theorem ok_parts_between {L : Lab} {f c Pt : Addr} {fd : FuncData} (B : Bt mg) (F : DefAt K "parts_between" "parts_between" sPartsBetween f fd) (hcode : fd.code = .ref c) (TB : LamX.TabB base mg c Pt) (G1 : Df P w K mg base 7 "picks_between" ["good", "bad"] (spPicks (w := w) L)) :
    FnOk P w K mg base CX0 8 f fd ["good", "bad"] (spParts (w := w) L Pt) := by
  refine funD_okC F hcode scPartsBetween (fun vs H Q E h => ?_) (fun A outer s H vs Q E hr h => ?_)
  · obtain ⟨gd, bd, gs, ps, rfl, _⟩ := h
    rfl
  · obtain ⟨gd, bd, gs, ps, rfl, T, TT, k⟩ := h
    have hu := hr.units
    have nd := scPartsBetween.nd
    have hdep : (A.deeper (envOfC "parts_between" (defScope sPartsBetween) s.heap.objs.size f (.ref c))).depth + 5 < recursionLimit := by
      have := hr.dp
      omega
    refine ⟨_, PSs.nox (pss_cons (ps_set (i := 2) nd rfl (Or.inl rfl) (pe_df G1 hr (by rfl) (pa_cons (pv 0) (pa_cons (pv 1) pa_nil))))
      (pss_cons (ps_set (i := 3) nd rfl (Or.inl rfl) (pe_lst (pa_cons (pe_lst pa_nil) pa_nil)))
      (pss_cons (ps_for PassesOwn.never rfl (pi_range1 (by rfl) B.range (pa_cons (pe_callB call_len (by rfl) B.len boot_len (pa_cons (pv 2) pa_nil)) pa_nil)) (pg_name (i := 4) nd rfl (Or.inl rfl))
        (pss_cons (ps_set (i := 5) nd rfl (Or.inl rfl) (pe_lst pa_nil))
        (pss_cons (ps_for PassesOwn.never rfl (pi_list (pv 3)) (pg_name (i := 6) nd rfl (Or.inl rfl))
          (pss_one (ps_expr (pe_bm PySem.F.plainAttrs_list PySem.F.slot_list_append PySem.F.type_list_append mt_append (pv 5) (pa_cons
            (pe_callB (call_sortD (idC L) rfl hu) (by rfl) B.sorted boot_sorted (pa_cons (pe_dg (own := [("name", 7)]) (g := gName 7) (tt := tYes) (tk := tVar 7) (tv := tC (.bl true)) (fills_n (idC L).toTCode hu) rfl nd
              (pi_list (pe_op op_cat (pv 6) (pe_ix ix_list (pv 2) (pv 4) (fun _ _ => rfl))))
              (blkOk_by (own := [("name", 7)]) (N := ["good", "bad", "picks", "found", "k", "more", "part", "name"]) (sc := defScope sPartsBetween) (by decide +kernel)) (fun _ _ _ _ _ => pg_name (i := 7) nd rfl (Or.inl rfl))
              (fun _ _ _ _ _ => pts_nil) (fun _ _ _ _ _ => pv 7) (fun _ _ _ _ _ => pe_bl)) pa_nil)) pa_nil)))))
        (pss_one (ps_set (i := 3) nd rfl (Or.inl rfl) (pe_op op_cat (pv 3) (pv 5)))))))
      (pss_one (ps_ret (pe_lc (own := [("part", 6)]) (g := gName 6) (tt := tYes) rfl nd
        (pi_list (pe_sortLam1 (q0 := ("parts_between" : Str) ++ ".<locals>.") (qL := qLam) (idsC L) rfl hu hdep (by rfl) B.sorted B.len TB rfl rfl qlam_eq rfl (by decide +kernel) (by intro _; rfl) rfl rfl rfl (by decide +kernel) (by decide +kernel) (by decide +kernel) (by intro _ _ _ _ _; rfl)
          (pe_dg (own := [("part", 6)]) (g := gName 6) (tt := tYes) (tv := tC (.bl true)) (fills_n (idsC L).toTCode hu) rfl nd (pi_list (pv 3))
            (blkOk_by (own := [("part", 6)]) (N := ["good", "bad", "picks", "found", "k", "more", "part", "name"]) (sc := defScope sPartsBetween) (by decide +kernel)) (fun _ _ _ _ _ => pg_name (i := 6) nd rfl (Or.inl rfl))
            (fun _ _ _ _ _ => pts_nil) (fun _ _ _ _ _ => pe_callTy (call_tupleK K rfl) (by rfl) B.tuple boot_tuple (pa_cons (pv 6) pa_nil)) (fun _ _ _ _ _ => pe_bl))))
        (blkOk_by (own := [("part", 6)]) (N := ["good", "bad", "picks", "found", "k", "more", "part", "name"]) (sc := defScope sPartsBetween) (by decide +kernel)) (fun _ _ _ _ _ => pg_name (i := 6) nd rfl (Or.inl rfl))
        (fun _ _ _ _ _ => pts_nil) (fun _ _ _ _ _ => pe_callTy (call_listK K rfl) (by rfl) B.list boot_list (pa_cons (pv 6) pa_nil)))))))), ?_⟩
    have sl := sizeLine_eq
    refine ⟨_, rfl, _, rfl, gd, bd, gs, ps, rfl, T, fun r H1 ns xss s1 nr hpl pm pk => ?_⟩
    obtain ⟨rv, hrv, hrp⟩ := hpl
    have nlen : ns.length ≤ 9 := by
      rw [pm.length_eq]
      exact T.few
    have xlen : ns.length = xss.length := Paired.length pk
    have rlen : rv.length = xss.length := Paired.length hrp
    refine ⟨Nat.zero_le _, fun e0 ne0 => ⟨by show 1 ≤ sizeLine; omega, fun fo0 nfo0 => ?_⟩⟩
    have sA : Same H1 (upd H1 e0 (.lst [])) := same_new ne0
    have sB := sA.trans (same_new (o := .lst [.ref e0]) nfo0)
    refine ⟨_, rfl, _, _, rfl, .inl ⟨_, SqL.of (sB _ _ hrv), rfl⟩, _, rfl, by omega, by omega, for_range (lo := 0)
      (fun k σ H' => ∃ fo tss c4 c5 c6 c7, σ = [some (.ref gd), some (.ref bd), some (.ref r), some (.ref fo), c4, c5, c6, c7] ∧ Same H1 H' ∧ LLE H' (idK L) fo tss ∧ Fnd gs ps (ns.take k) k tss)
      ⟨fo0, [[]], none, none, none, none, rfl, sB, ⟨_, upd_same, .cons ⟨e0, rfl, [], by rw [upd_ne (ne_of_none upd_same nfo0)]; exact upd_same, .nil⟩ .nil⟩, Fnd.start⟩ ?_ ?_⟩
    · rintro i σ H2 hi ⟨fo, tss, c4, c5, c6, c7, rfl, s2, ⟨fv, hfv, hfp⟩, fnd⟩
      have hi1 : i < rv.length := by omega
      obtain ⟨pk1, hpk1, ⟨pa, hpa, hpe⟩⟩ := pget hrp (List.getElem?_eq_getElem hi1)
      obtain ⟨n1, hn1, hpick⟩ := pgetr pk hpk1
      have tl : tss.length ≤ 512 := by
        have := fnd.few
        have : 2 ^ i ≤ 2 ^ 9 := Nat.pow_le_pow_right (by omega) (by omega)
        omega
      have fl : fv.length = tss.length := Paired.length hfp
      refine ⟨Nat.zero_le _, fun m nm => ?_⟩
      have s3 : Same H2 (upd H2 m (.lst [])) := same_new nm
      refine ⟨_, rfl, fo, rfl, ⟨_, SqL.of (s3 _ _ hfv)⟩, for_list (K := K) (a := fo) (xs := fv)
        (fun j σ H' => ∃ acc yss c6 c7, σ = [some (.ref gd), some (.ref bd), some (.ref r), some (.ref fo), some (.int (0 + (i : Nat))), some (.ref m), c6, c7] ∧ Same H2 H' ∧ H' m = some (.lst acc) ∧ Paired (fun v xs => ∃ a, v = .ref a ∧ a ≠ m ∧ LE H' (idK L) a xs) acc yss ∧ Paired (StepOf pk1) (tss.take j) yss)
        ⟨[], [], _, _, rfl, s3, upd_same, .nil, .nil⟩ (fun j σ H' _ ⟨_, _, _, _, _, q, _⟩ => SqL.of (q _ _ hfv)) ?_ ?_⟩
      · rintro j v σ H' hj ⟨acc, yss, c6', c7', rfl, s4, hm, hacc, hst⟩
        obtain ⟨t, ht, a, rfl, hat⟩ := pget hfp hj
        have S4 := s2.trans s4
        obtain ⟨tv, htv, tev⟩ := hat.same s4
        obtain ⟨pv1, hpv1, pev⟩ := hpe.same S4
        have jl : j < fv.length := (List.getElem?_eq_some_iff.mp hj).1
        have tlen := tev.length
        have plen := pev.length
        have t9 : t.length ≤ 9 := fnd.short T.ok (List.mem_of_getElem? ht)
        have p10 := hpick.1
        have al : acc.length ≤ 512 := by
          have h1 := Paired.length hacc
          have h2 := Paired.length hst
          rw [List.length_take] at h2
          omega
        refine ⟨_, rfl, .inl ⟨rfl, _, .inl (.inl hm)⟩, ?_⟩
        refine ⟨_, rfl, _, rfl, _, rfl, _, _, _, _, rfl, rfl, SqL.of (S4 _ _ hrv), by rw [Int.zero_add]; exact atI_nat (List.getElem?_eq_getElem hi1), a, pa, tv, pv1, rfl, by rw [hpa], htv, hpv1, by omega, fun p np => ?_⟩
        have s5 : Same H' (upd H' p (.lst (tv ++ pv1))) := same_new np
        refine ⟨p, rfl, ⟨_, SqL.of upd_same⟩, fun D H6 nD but isN => dg_dedup (xs := tv ++ pv1) (ks := t ++ pk1) nD but isN (by rw [List.length_append]; omega) (by show 7 < 8; omega) (SqL.of upd_same) (fun H'' q => SqL.of (q _ _ upd_same)) ((tev.app pev).tk (Tk.new np)) fun H7 kvs s7 g7 k7 m7 => ?_⟩
        refine ⟨D, kvs, rfl, g7.r, fun p2 vs' xs' pm' ev' np2 => ?_⟩
        have s8 : Same H' (upd H7 p2 (.lst vs')) := (s5.trans s7).trans (same_new np2)
        have hm8 := s8 _ _ hm
        have hne : p2 ≠ m := fun e => by
          rw [e] at np2
          have := (s5.trans s7) _ _ hm
          rw [this] at np2
          cases np2
        refine ⟨m, acc, _, rfl, rfl, hm8, by omega, acc ++ [.ref p2], yss ++ [xs'], _, _, rfl, fun b o q => ?_, upd_same, ?_, ?_⟩
        · rw [upd_ne (ne_of_none q nm)]
          exact s8 _ _ (s4 _ _ q)
        · refine Paired.snoc (Paired.mapP hacc fun u us ⟨a1, e1, e2, e3⟩ => ⟨a1, e1, e2, (e3.same s8).kp Kp.upd (Tk.put hm8 fun _ z => nomatch z) e2⟩) ⟨p2, rfl, hne, ?_⟩
          have l8 : LE (upd H7 p2 (.lst vs')) (idK L) p2 xs' := ⟨_, upd_same, ev'.tk (Tk.new np2)⟩
          exact l8.kp Kp.upd (Tk.put hm8 fun _ z => nomatch z) hne
        · rw [take_succ_get ht]
          refine hst.snoc ⟨pm'.nodup_iff.mpr (g7.nodup (idC L).toCode), fun q => ?_⟩
          rw [pm'.mem_iff, m7, List.mem_append]
      · rintro σ H' ⟨acc, yss, c6', c7', rfl, s4, hm, hacc, hst⟩
        rw [fl, List.take_length] at hst
        have h1 := Paired.length hacc
        have h2 := Paired.length hst
        refine ⟨_, rfl, _, rfl, fo, m, fv, acc, rfl, rfl, s4 _ _ hfv, hm, by omega, fun p np => ?_⟩
        have s5 : Same H' (upd H' p (.lst (fv ++ acc))) := same_new np
        refine ⟨p, tss ++ yss, _, _, _, _, rfl, (s2.trans s4).trans s5, ⟨_, upd_same, ?_⟩, fnd.next T.ok hn1 hpick (T.fnd) pm hst⟩
        exact papp (Paired.mapP hfp fun _ _ ⟨a1, e1, e2⟩ => ⟨a1, e1, e2.same (s4.trans s5)⟩) (Paired.mapP hacc fun _ _ ⟨a1, e1, _, e2⟩ => ⟨a1, e1, e2.same s5⟩)
    · rintro σ H2 ⟨fo, tss, c4, c5, c6, c7, rfl, s2, ⟨fv, hfv, hfp⟩, fnd⟩
      have S2 := s1.trans s2
      have e9 : ((rv.length : Nat) : Int).toNat = ns.length := by omega
      rw [e9] at fnd
      rw [List.take_length] at fnd
      have tl : tss.length ≤ 512 := by
        have := fnd.few
        have : 2 ^ ns.length ≤ 2 ^ 9 := Nat.pow_le_pow_right (by omega) nlen
        omega
      have fl : fv.length = tss.length := Paired.length hfp
      have TT2 := tabs_same S2 TT
      refine ⟨_, rfl, fo, rfl, ⟨_, SqL.of hfv⟩, fun D H3 nD but isN => dg_accL (xs := fv) nD but isN (RelKeys tss) RelKeys.mono (by simp [RelKeys]) (by omega) (fun H' q => SqL.of (q _ _ hfv)) ?_ ?_⟩
      · intro j v H4 kvs C N hj s4 g4 hk4 r4 hC hN
        obtain ⟨t, ht, a, rfl, hat⟩ := pget hfp hj
        obtain ⟨tv, htv, tev⟩ := hat.same s4
        refine ⟨rfl, ?_⟩
        refine ⟨_, rfl, a, tv, rfl, .inl ⟨SqL.of htv, fun l nl => ?_⟩⟩
        refine hC _ _ _ t (same_new nl) ⟨l, tv, rfl, upd_same, (tev.tk (Tk.new nl)).tds⟩ fun q => ?_
        rw [mem_putK, r4 q, mem_take_succ ht]
      · intro H4 kvs s4 g4 hk4 r4
        have S4 := S2.trans s4
        refine ⟨tabs_same s4 TT2, D, kvs, rfl, g4, fun H5 p vs' xs' eN T5 pm' ev5 np => ?_⟩
        have keys : ∀ q, q ∈ kvs.map (·.1) ↔ q ∈ tss := fun q => by
          rw [r4 q, fl, List.take_length]
        have s6 : Same H5 (upd H5 p (.lst vs')) := same_new np
        have vl := ev5.length
        have xl : xs'.length ≤ 512 := by
          rw [pm'.length_eq, List.length_map]
          omega
        refine ⟨p, rfl, ⟨_, SqL.of upd_same⟩, fun D2 nD2 => lc_accL (xs := vs') nD2 (RelL D2 (idK L) fun i yss => yss = xs'.take i) RelL.mono ⟨[], rfl, .nil⟩ (by omega) (fun H' q => SqL.of (q _ _ upd_same)) ?_ ?_⟩
        · intro j v H7 acc C N hj hv s7 hD2 hl2 r7 hC hN
          obtain ⟨t, ht, htd⟩ := ev5.get (i := 0) hv
          obtain ⟨a, tv, rfl, hta, htt⟩ := TD.tk (Tk.of_same (s6.trans s7)) _ _ htd
          refine ⟨rfl, ?_⟩
          refine ⟨_, rfl, a, tv, rfl, .inr (SqT.of hta), fun l nl => ?_⟩
          have hne : l ≠ D2 := fun e => by
            rw [e, hD2] at nl
            cases nl
          refine hC _ _ (same_new nl) ((RelL.mono.same (same_new nl) r7).snoc hne ⟨tv, upd_same, (EV.of_tds htt).tk (Tk.new nl)⟩ fun yss e => ?_)
          rw [e, take_succ_get ht]
        · intro H7 acc s7 hD2 hl2 r7
          obtain ⟨yss, e, hy⟩ := r7.lle hD2
          rw [vl, List.take_length] at e
          subst e
          have mem : ∀ t, t ∈ yss ↔ t ∈ tss := fun t => by rw [pm'.mem_iff, keys]
          refine k D2 H7 yss (((extN_same S4).trans eN).trans (extN_same (s6.trans s7))) (tabs_same (s6.trans s7) T5) hy ⟨xl, fun t ht => fnd.nd t ((mem t).mp ht), fun t ht => fnd.sub t ((mem t).mp ht), fun S hS => ?_⟩
          obtain ⟨t, ht, q⟩ := fnd.every S fun i hi => pm.mem_iff.mpr (hS i hi)
          exact ⟨t, (mem t).mpr ht, q⟩
end
end K97
set_option Elab.async false
set_option linter.all false
set_option maxRecDepth 100000
set_option maxHeartbeats 4000000
/-! causes_between. -/
namespace K97
open PySem PySem.Spec PyProof.Rows L2
theorem cut_from (xs : List V) (k : Nat) (h : k ≤ xs.length) : cutV xs (some (k : Int)) none = xs.drop k := by
  have e : HT.sIx xs.length 0 (some (k : Int)) = k := by
    rw [HT.sIx_nat]
    omega
  have e2 : HT.sIx xs.length xs.length none = xs.length := by simp [HT.sIx]
  unfold cutV
  rw [e, e2]
  exact List.take_of_length_le (by simp)
theorem cut_to (xs : List V) (k : Nat) (h : k ≤ xs.length) : cutV xs none (some (k : Int)) = xs.take k := by
  have e : HT.sIx xs.length xs.length (some (k : Int)) = k := by
    rw [HT.sIx_nat]
    omega
  have e2 : HT.sIx xs.length 0 none = 0 := by simp [HT.sIx]
  unfold cutV
  rw [e, e2]
  simp
/-- two new ids, neither below the other -/
structure PairOk (gs ps : List Pa) (ns : List Id) (q : Nat × Nat) (c : List Id) : Prop where
  lt : q.1 < q.2
  ex : ∃ a b, ns[q.1]? = some a ∧ ns[q.2]? = some b ∧ c = [a, b] ∧ ¬ Pk gs ps b a ∧ ¬ Pk gs ps a b
def CausesOf (gs ps : List Pa) (ns : List Id) (css : List (List Id)) : Prop := ∃ prs pcs, css = ns.map (fun n => [n]) ++ pcs ∧ prs.Nodup ∧ Paired (PairOk gs ps ns) prs pcs
/-- the list of causes under way -/
def FoundAt (L : Lab) (gs ps : List Pa) (ns : List Id) (Fo : Addr) (H3 H' : Hp) (lim : Nat × Nat → Prop) (n : Nat) : Prop := ∃ acc prs pcs, Same H3 H' ∧ H' Fo = some (.lst acc) ∧
  Paired (fun v xs => ∃ a, v = .ref a ∧ a ≠ Fo ∧ LE H' (idK L) a xs) acc (ns.map (fun n => [n]) ++ pcs) ∧ prs.Nodup ∧ Paired (PairOk gs ps ns) prs pcs ∧ (∀ q ∈ prs, lim q) ∧ pcs.length ≤ n
section
variable {L : Lab} {gs ps : List Pa} {ns : List Id} {Fo : Addr} {H3 H' H'' : Hp} {lim lim' : Nat × Nat → Prop} {n m : Nat}
theorem FoundAt.same (h : FoundAt L gs ps ns Fo H3 H' lim n) : Same H3 H' := let ⟨_, _, _, s, _⟩ := h; s
theorem FoundAt.next (h : FoundAt L gs ps ns Fo H3 H' lim n) (s : Same H' H'') : FoundAt L gs ps ns Fo H3 H'' lim n :=
  let ⟨acc, prs, pcs, a, b, c, d⟩ := h; ⟨acc, prs, pcs, a.trans s, s _ _ b, Paired.mapP c fun _ _ ⟨x, e, q, r⟩ => ⟨x, e, q, r.same s⟩, d⟩
theorem FoundAt.weak (h : FoundAt L gs ps ns Fo H3 H' lim n) (hl : ∀ q, lim q → lim' q) (hn : n ≤ m) : FoundAt L gs ps ns Fo H3 H' lim' m :=
  let ⟨acc, prs, pcs, a, b, c, d, e, f, g⟩ := h; ⟨acc, prs, pcs, a, b, c, d, e, fun q hq => hl q (f q hq), Nat.le_trans g hn⟩
theorem FoundAt.there (h : FoundAt L gs ps ns Fo H3 H' lim n) : ∃ acc, H' Fo = some (.lst acc) ∧ acc.length ≤ ns.length + n := by
  obtain ⟨acc, prs, pcs, a, b, c, d, e, f, g⟩ := h
  have := Paired.length c
  rw [List.length_append, List.length_map] at this
  exact ⟨acc, b, by omega⟩
theorem FoundAt.add {acc : List V} {l : Addr} {xs : List Id} (h : FoundAt L gs ps ns Fo H3 H' lim n) (nFo : H3 Fo = none) (hF : H' Fo = some (.lst acc)) (hne : l ≠ Fo) (hl : LE H' (idK L) l xs) (q : Nat × Nat) (hq : PairOk gs ps ns q xs) (new : ¬ lim q) (hlim : ∀ q, lim q → lim' q) (hq' : lim' q) :
    FoundAt L gs ps ns Fo H3 (upd H' Fo (.lst (acc ++ [.ref l]))) lim' (n + 1) := by
  obtain ⟨acc', prs, pcs, a, b, c, d, e, f, g⟩ := h
  rw [hF] at b
  cases b
  have tk : Tk H' (upd H' Fo (.lst (acc ++ [.ref l]))) := Tk.put hF fun _ z => nomatch z
  refine ⟨_, prs ++ [q], pcs ++ [xs], fun b o z => ?_, upd_same, ?_, ?_, e.snoc hq, fun r hr => ?_, by rw [List.length_append]; exact Nat.succ_le_succ g⟩
  · rw [upd_ne (ne_of_none z nFo)]
    exact a _ _ z
  · rw [← List.append_assoc]
    exact (Paired.mapP c fun _ _ ⟨x, e, q, r⟩ => ⟨x, e, q, r.kp Kp.upd tk q⟩).snoc ⟨l, rfl, hne, hl.kp Kp.upd tk hne⟩
  · refine List.nodup_append.mpr ⟨d, by simp, fun x hx y hy e => ?_⟩
    rw [List.mem_singleton] at hy
    rw [← hy, ← e] at new
    exact new (f x hx)
  · rcases List.mem_append.mp hr with hr | hr
    · exact hlim r (f r hr)
    · rw [List.mem_singleton] at hr
      rw [hr]
      exact hq'
end
section
variable {P : Program} {w : World} {K : PySem.W.Frag} {mg : Str → Option Value} {base : Heap}
def spCauses (L : Lab) : Sp := fun vs H Q _ => ∃ (gd bd : Addr) (m : Int) (gs ps : List Pa), vs = [.ref gd, .ref bd, .int m] ∧ TwoAt w L H gd bd gs ps ∧
  ∀ r H' ns css, Same H H' → H r = none → LLE H' (idK L) r css → ns.Perm (fresh gs ps) → (m < 2 → css = ns.map fun n => [n]) → CausesOf gs ps ns css → Q (.ref r) H'
theorem scCausesBetween : FnScope ["good", "bad", "most", "names", "below", "found", "at", "other", "name"] ["good", "bad", "most"] (defScope sCausesBetween) := ⟨rfl, rfl, rfl, by decide +kernel, rfl, by decide +kernel, by decide +kernel⟩
def BelowAt (L : Lab) (gs ps : List Pa) (D : Addr) (ms : List Id) (H : Hp) (kvs : List (Id × V)) : Prop := ∀ n ∈ ms, ∃ a xs, valV kvs n = some (.ref a) ∧ a ≠ D ∧ LE H (idK L) a xs ∧ PickOf gs ps n xs
theorem ok_causes_between {L : Lab} {f : Addr} {fd : FuncData} (B : Bt mg) (F : DefAt K "causes_between" "causes_between" sCausesBetween f fd) (G1 : Df P w K mg base 1 "new_ids" ["good", "bad"] (spNew (w := w) L)) (G2 : Df P w K mg base 6 "needed_new" ["good", "bad", "name"] (spPick (w := w) L)) :
    FnOk P w K mg base CX0 7 f fd ["good", "bad", "most"] (spCauses (w := w) L) := by
  refine FunD.ok F scCausesBetween (fun vs H Q E h => ?_) (fun cdv A outer s H vs Q E hr h => ?_)
  · obtain ⟨gd, bd, m, gs, ps, rfl, _⟩ := h
    rfl
  · obtain ⟨gd, bd, m, gs, ps, rfl, T, k⟩ := h
    have hu := hr.units
    have hu2 : (A.deeper (envOfC "causes_between" (defScope sCausesBetween) s.heap.objs.size f cdv)).units + 65 < cLine := by
      have := hr.un
      omega
    have nd := scCausesBetween.nd
    have sl := sizeLine_eq
    refine ⟨_, PSs.nox (pss_cons (ps_set (i := 3) nd rfl (Or.inl rfl) (pe_df G1 (hr.mono (by decide)) (by rfl) (pa_cons (pv 0) (pa_cons (pv 1) pa_nil))))
      (pss_cons (ps_setDg (i := 4) (own := [("name", 8)]) (g := gName 8) (tt := tYes) (tk := tVar 8) (fills_n (idC L).toTCode hu) rfl nd rfl rfl (sw_trueD rfl rfl rfl (by decide +kernel)) (pi_list (pv 3))
          (blkOk_by (own := [("name", 8)]) (N := ["good", "bad", "most", "names", "below", "found", "at", "other", "name"]) (sc := defScope sCausesBetween) (by decide +kernel)) (fun _ _ _ _ _ => pg_name (i := 8) nd rfl (Or.inl rfl))
          (fun _ _ _ _ _ => pts_nil) (fun _ _ _ _ _ => pv 8) (fun _ _ _ _ _ => pe_df G2 hr (by rfl) (pa_cons (pv 0) (pa_cons (pv 1) (pa_cons (pv 8) pa_nil)))))
      (pss_cons (ps_setLc (i := 5) (own := [("name", 8)]) (g := gName 8) (tt := tYes) (te := tLst (tCons (tVar 8) tNil)) rfl nd rfl rfl (sw_true rfl rfl rfl (by decide +kernel)) (pi_list (pv 3))
          (blkOk_by (own := [("name", 8)]) (N := ["good", "bad", "most", "names", "below", "found", "at", "other", "name"]) (sc := defScope sCausesBetween) (by decide +kernel)) (fun _ _ _ _ _ => pg_name (i := 8) nd rfl (Or.inl rfl))
          (fun _ _ _ _ _ => pts_nil) (fun _ _ _ _ _ => pe_lst (pa_cons (pv 8) pa_nil)))
      (pss_cons (ps_if (pt_cmpR op_lt (pv 2) pe_int (nomark _)) (pss_one (ps_ret (pv 5))) pss_nil)
      (pss_cons (ps_for PassesOwn.never rfl (pi_range1 (by rfl) B.range (pa_cons (pe_callB call_len (by rfl) B.len boot_len (pa_cons (pv 3) pa_nil)) pa_nil)) (pg_name (i := 6) nd rfl (Or.inl rfl))
        (pss_one (ps_for PassesOwn.never rfl (pi_list (pe_slice sl_list (pv 3) (po_some (pe_op op_add (pv 6) pe_int)) po_none)) (pg_name (i := 7) nd rfl (Or.inl rfl))
          (pss_one (ps_if (PW.pt (pw_and (pt_cmpR (op_notInE hu2 (idC L).toCode) (pe_ix ix_list (pv 3) (pv 6) (fun _ _ => rfl)) (pe_nget (idC L).toTCode hu (pv 4) (pv 7) (fun _ _ => rfl)) rfl)
              (pw_and1 (pt_cmpR (op_notInE hu2 (idC L).toCode) (pv 7) (pe_nget (idC L).toTCode hu (pv 4) (pe_ix ix_list (pv 3) (pv 6) (fun _ _ => rfl)) (fun _ _ => rfl)) rfl))))
            (pss_one (ps_expr (pe_bm PySem.F.plainAttrs_list PySem.F.slot_list_append PySem.F.type_list_append mt_append (pv 5) (pa_cons (pe_lst (pa_cons (pe_ix ix_list (pv 3) (pv 6) (fun _ _ => rfl)) (pa_cons (pv 7) pa_nil))) pa_nil)))) pss_nil)))))
      (pss_one (ps_ret (pv 5)))))))), ?_⟩
    refine ⟨_, rfl, _, rfl, gd, bd, gs, ps, rfl, T, fun r H1 ns s1 nr hl1 pm => ?_⟩
    obtain ⟨nv, hnv, nev⟩ := hl1
    have nl := nev.length
    have few : ns.length ≤ 9 := by
      rw [pm.length_eq]
      exact T.few
    have nnd : ns.Nodup := pm.nodup_iff.mpr T.fnd
    refine ⟨_, rfl, r, rfl, ⟨_, SqL.of hnv⟩, fun D H2 nD but isN => dg_accL (xs := nv) nD but isN (fun H kvs i => BelowAt L gs ps D (ns.take i) H kvs) ?_ (fun n hn => by simp at hn) (by omega) (fun H' q => SqL.of (q _ _ hnv)) ?_ ?_⟩
    · intro Ha Hb kvs i kp tk h n hn
      obtain ⟨a, xs, h1, h2, h3, h4⟩ := h n hn
      exact ⟨a, xs, h1, h2, h3.kp kp tk h2, h4⟩
    · intro j v H4 kvs C N hj s4 g4 hk4 r4 hC hN
      obtain ⟨n, hn, hnt⟩ := nev.get (i := 0) hj
      have hf : n ∈ fresh gs ps := pm.mem_iff.mp (List.mem_of_getElem? hn)
      refine ⟨rfl, ?_⟩
      refine ⟨_, rfl, _, rfl, _, rfl, _, rfl, gd, bd, v, gs, ps, n, rfl, T.same (s1.trans s4), TD.tk (Tk.of_same s4) _ _ hnt, (mem_fresh.mp hf).1, fun r5 H5 xs s5 nr5 hl5 hp5 => ?_⟩
      refine hC _ _ _ n s5 (TD.tk (Tk.of_same (s4.trans s5)) _ _ hnt) fun q hq => ?_
      by_cases e : q = n
      · subst e
        refine ⟨r5, xs, by rw [valV_put, if_pos rfl], fun e => ?_, hl5, hp5⟩
        rw [e] at nr5
        exact g4.some_ nr5
      · rcases (mem_take_succ hn).mp hq with z | z
        · obtain ⟨a, ys, h1, h2, h3, h4⟩ := r4 q z
          exact ⟨a, ys, by rw [valV_put, if_neg e]; exact h1, h2, h3.same s5, h4⟩
        · exact absurd z e
    · intro H3 kvs s3 g3 hk3 r3
      rw [nl, List.take_length] at r3
      have hnv3 := s3 _ _ hnv
      have nev3 := nev.tk (Tk.of_same s3)
      refine ⟨_, rfl, _, rfl, ⟨_, SqL.of hnv3⟩, fun Fo nFo => lc_accL (xs := nv) nFo (RelL Fo (idK L) fun i css => css = (ns.take i).map fun n => [n]) RelL.mono ⟨[], rfl, .nil⟩ (by omega) (fun H' q => SqL.of (q _ _ hnv3)) ?_ ?_⟩
      · intro j v H4 acc C N hj hv s4 hD hl r4 hC hN
        obtain ⟨n, hn, hnt⟩ := nev3.get (i := 0) hv
        refine ⟨rfl, ?_⟩
        refine ⟨_, rfl, by show 1 ≤ sizeLine; omega, fun l nl => ?_⟩
        have hne : l ≠ Fo := fun e => by
          rw [e, hD] at nl
          cases nl
        refine hC _ _ (same_new nl) ((RelL.mono.same (same_new nl) r4).snoc hne ⟨[v], upd_same, .cons (TD.tk ((Tk.of_same s4).trans (Tk.new nl)) _ _ hnt) .nil⟩ fun css e => ?_)
        rw [e, map_step hn]
      · intro H4 acc s4 hD hl r4
        have S4 : Same H H4 := (s1.trans s3).trans s4
        have noFo : H Fo = none := none_of (s1.trans s3) nFo
        have noFo3 : H3 Fo = none := nFo
        refine ⟨_, rfl, _, _, rfl, rfl, _, rfl, iB (fun hb => ?_) (fun hb => ?_)⟩
        · obtain ⟨css, e, hc⟩ := r4.lle hD
          rw [nl, List.take_length] at e
          exact ⟨_, rfl, k Fo H4 ns css S4 noFo hc pm (fun _ => e) ⟨[], [], by rw [e, List.append_nil], .nil, .nil⟩⟩
        · have hm : ¬ m < 2 := of_decide_eq_false hb
          obtain ⟨css0, ecs, hcss⟩ := r4
          rw [nl, List.take_length] at ecs
          have hnv4 : H4 r = some (.lst nv) := s4 _ _ hnv3
          refine ⟨_, rfl, _, _, rfl, .inl ⟨_, SqL.of hnv4, rfl⟩, _, rfl, by omega, by omega, for_range (lo := 0)
            (fun i σ H' => ∃ c6 c7 c8, σ = [some (.ref gd), some (.ref bd), some (.int m), some (.ref r), some (.ref D), some (.ref Fo), c6, c7, c8] ∧ FoundAt L gs ps ns Fo H3 H' (fun q => q.1 < i) (9 * i))
            ⟨_, _, _, rfl, acc, [], [], s4, hD, by rw [List.append_nil, ← ecs]; exact hcss, .nil, .nil, (fun q h => nomatch h), Nat.zero_le _⟩ ?_ ?_⟩
          · rintro i σ H5 hi ⟨c6, c7, c8, rfl, fa⟩
            have S5 := fa.same
            have hi1 : i < nv.length := by omega
            have hnv5 : H5 r = some (.lst nv) := S5 _ _ hnv3
            obtain ⟨n1, hn1, hnt1⟩ := nev3.get (i := 0) (List.getElem?_eq_getElem hi1)
            refine ⟨_, rfl, _, rfl, _, _, rfl, rfl, _, rfl, _, _, rfl, SqL.of hnv5, fun p np => ?_⟩
            have ecut : cutV nv (some (0 + ((i : Nat) : Int) + 1)) none = nv.drop (i + 1) := by
              rw [← cut_from nv (i + 1) (by omega)]
              congr 2
              omega
            have hp : upd H5 p (.lst (cutV nv (some (0 + ((i : Nat) : Int) + 1)) none)) p = some (.lst (nv.drop (i + 1))) := by rw [upd_same, ecut]
            generalize eH6 : upd H5 p (.lst (cutV nv (some (0 + ((i : Nat) : Int) + 1)) none)) = H6 at hp
            have hpFo : p ≠ Fo := fun e => by
              obtain ⟨acc5, h5, _⟩ := fa.there
              rw [e, h5] at np
              cases np
            have s56 : Same H5 H6 := by
              rw [← eH6]
              exact same_new np
            refine ⟨p, rfl, ⟨_, SqL.of hp⟩, for_list (K := K) (a := p) (xs := nv.drop (i + 1))
              (fun j σ H' => ∃ c7 c8, σ = [some (.ref gd), some (.ref bd), some (.int m), some (.ref r), some (.ref D), some (.ref Fo), some (.int (0 + (i : Nat))), c7, c8] ∧ H' p = some (.lst (nv.drop (i + 1))) ∧ FoundAt L gs ps ns Fo H3 H' (fun q => q.1 < i ∨ (q.1 = i ∧ q.2 < i + 1 + j)) (9 * i + j))
              ⟨_, _, rfl, hp, (fa.next s56).weak (fun q h => .inl h) (Nat.le_refl _)⟩ (fun j σ H' _ ⟨_, _, _, q, _⟩ => SqL.of q) ?_ ?_⟩
            · rintro j v σ H7 hj ⟨c7', c8', rfl, hp7, fb⟩
              have S7 := fb.same
              rw [List.getElem?_drop] at hj
              obtain ⟨n2, hn2, hnt2⟩ := nev3.get (i := 0) hj
              have hl2 : i + 1 + j < nv.length := (List.getElem?_eq_some_iff.mp hj).1
              have tk7 := Tk.of_same S7
              obtain ⟨a2, xs2, hv2, ha2, hl2', hpk2⟩ := r3 n2 (List.mem_of_getElem? hn2)
              obtain ⟨a1, xs1, hv1, ha1, hl1', hpk1⟩ := r3 n1 (List.mem_of_getElem? hn1)
              obtain ⟨w2, hw2, we2⟩ := hl2'.same S7
              obtain ⟨w1, hw1, we1⟩ := hl1'.same S7
              have hr7 : SqL K H7 r nv := SqL.of (S7 _ _ hnv3)
              have at1 : atI nv (0 + ((i : Nat) : Int)) = some nv[i] := by
                rw [Int.zero_add]
                exact atI_nat (List.getElem?_eq_getElem hi1)
              have td1 := TD.tk tk7 _ _ hnt1
              have td2 := TD.tk tk7 _ _ hnt2
              have nnx : ∀ {σ2 : L2.St}, σ2 = [some (.ref gd), some (.ref bd), some (.int m), some (.ref r), some (.ref D), some (.ref Fo), some (.int (0 + (i : Nat))), some v, c8'] →
                  ∃ c7 c8, σ2 = [some (.ref gd), some (.ref bd), some (.int m), some (.ref r), some (.ref D), some (.ref Fo), some (.int (0 + (i : Nat))), c7, c8] ∧ H7 p = some (.lst (nv.drop (i + 1))) ∧ FoundAt L gs ps ns Fo H3 H7 (fun q => q.1 < i ∨ (q.1 = i ∧ q.2 < i + 1 + (j + 1))) (9 * i + (j + 1)) :=
                fun e => ⟨_, _, e, hp7, fb.weak (fun q h => h.imp id fun h => ⟨h.1, by omega⟩) (by omega)⟩
              refine ⟨_, rfl, _, rfl, _, _, _, _, rfl, rfl, hr7, at1, _, rfl, _, rfl, D, kvs, n2, _, rfl, (g3.same S7).r, td2, hv2, a2, w2, xs2, n1, rfl, SqL.of hw2, we2, td1, _, rfl, iB (fun hb1 => ?_) (fun hb1 => ?_)⟩
              · refine ⟨_, rfl, _, rfl, _, rfl, _, rfl, _, _, _, _, rfl, rfl, hr7, at1, D, kvs, n1, _, rfl, (g3.same S7).r, td1, hv1, a1, w1, xs1, n2, rfl, SqL.of hw1, we1, td2, _, rfl, iB (fun hb2 => ?_) (fun hb2 => nnx rfl)⟩
                have c1 : n1 ∉ xs2 := by simpa using hb1
                have c2 : n2 ∉ xs1 := by simpa using hb2
                rw [hpk2.2] at c1
                rw [hpk1.2] at c2
                obtain ⟨acc7, hacc7⟩ := fb.there
                refine ⟨_, rfl, .inl ⟨rfl, _, .inl (.inl hacc7.1)⟩, _, rfl, _, rfl, _, _, _, _, rfl, rfl, hr7, at1, _, rfl, by show 2 ≤ sizeLine; omega, fun l nl7 => ?_⟩
                have hl7 : LE (upd H7 l (.lst [nv[i], v])) (idK L) l [n1, n2] := ⟨_, upd_same, .cons (TD.tk (Tk.new nl7) _ _ td1) (.cons (TD.tk (Tk.new nl7) _ _ td2) .nil)⟩
                have hFo : upd H7 l (.lst [nv[i], v]) Fo = some (.lst acc7) := same_new nl7 _ _ hacc7.1
                have hne : l ≠ Fo := fun e => by
                  rw [e, hacc7.1] at nl7
                  cases nl7
                have hal : acc7.length ≤ 9 + (9 * i + j) := by
                  have := hacc7.2
                  omega
                refine ⟨Fo, acc7, _, rfl, rfl, hFo, by omega, _, _, rfl, ?_, (fb.next (same_new nl7)).add noFo3 hFo hne hl7 (i, i + 1 + j) ⟨by show i < i + 1 + j; omega, n1, n2, hn1, hn2, rfl, c1, c2⟩ (fun h => ?_) (fun q h => h.imp id fun h => ⟨h.1, by omega⟩) (.inr ⟨rfl, by show i + 1 + j < _; omega⟩)⟩
                · rw [upd_ne hpFo]
                  exact same_new nl7 _ _ hp7
                · rcases h with h | ⟨_, h⟩
                  · exact absurd h (by show ¬ i < i; omega)
                  · exact absurd h (by show ¬ i + 1 + j < i + 1 + j; omega)
              · exact iF rfl (nnx rfl)
            · rintro σ H7 ⟨c7', c8', rfl, hp7, fb⟩
              refine ⟨_, _, _, rfl, fb.weak (fun q h => ?_) ?_⟩
              · rcases h with h | ⟨h, _⟩ <;> omega
              · rw [List.length_drop]
                omega
          · rintro σ H5 ⟨c6, c7, c8, rfl, fa⟩
            obtain ⟨acc, prs, pcs, s5, hacc, hp, np, hpp, _, _⟩ := fa
            exact ⟨_, rfl, k Fo H5 ns _ ((s1.trans s3).trans s5) noFo ⟨_, hacc, Paired.mapP hp fun _ _ ⟨a, e, _, q⟩ => ⟨a, e, q⟩⟩ pm (fun z => absurd z hm) ⟨prs, pcs, rfl, np, hpp⟩⟩
end
end K97
set_option Elab.async false
set_option linter.all false
set_option maxRecDepth 100000
set_option maxHeartbeats 4000000
/-! is_bad, marks. -/
namespace K97
open PySem PySem.Spec PyProof.Rows L2
/-- is every id of the cause in the part -/
def bad (ts cs : List Id) : Bool := cs.all fun c => decide (c ∈ ts)
theorem filt_len (ts cs : List Id) : decide ((cs.filter fun c => decide (c ∉ ts)).length = 0) = bad ts cs := by
  unfold bad
  rw [Bool.eq_iff_iff, decide_eq_true_eq, List.length_eq_zero_iff, List.filter_eq_nil_iff, List.all_eq_true]
  constructor
  · intro h c hc
    have := h c hc
    simpa using this
  · intro h c hc
    have := h c hc
    simpa using this
theorem dec_int (a b : Int) : decide (V.int a = V.int b) = decide (a = b) := by
  by_cases h : a = b
  · subst h; simp
  · rw [decide_eq_false h, decide_eq_false fun e => h (by injection e)]
/-- ints -/
def iv (k : Nat) : V := .int (k : Nat)
def LI (H : Hp) (a : Addr) (ks : List Nat) : Prop := H a = some (.lst (ks.map iv))
def marksOf (ts : List Id) (css : List (List Id)) : List Nat := (List.range css.length).filter fun k => bad ts (css.getD k [])
section
variable {P : Program} {w : World} {K : PySem.W.Frag} {mg : Str → Option Value} {base : Heap}
def spIsBad (L : Lab) : Sp := fun vs H Q _ => ∃ (pa ca : Addr) (ts cs : List Id), vs = [.ref pa, .ref ca] ∧ LE H (idK L) pa ts ∧ LE H (idK L) ca cs ∧ cs.length ≤ 1000 ∧ ∀ H', Same H H' → Q (.bl (bad ts cs)) H'
theorem scIsBad : FnScope ["part", "cause", "name"] ["part", "cause"] (defScope sIsBad) := ⟨rfl, rfl, rfl, by decide +kernel, rfl, by decide +kernel, by decide +kernel⟩
theorem ok_is_bad {L : Lab} {f : Addr} {fd : FuncData} (B : Bt mg) (F : DefAt K "is_bad" "is_bad" sIsBad f fd) : FnOk P w K mg base CX0 1 f fd ["part", "cause"] (spIsBad L) := by
  refine FunD.ok F scIsBad (fun vs H Q E h => ?_) (fun cdv A outer s H vs Q E hr h => ?_)
  · obtain ⟨pa, ca, ts, cs, rfl, _⟩ := h
    rfl
  · obtain ⟨pa, ca, ts, cs, rfl, ⟨tv, htv, tev⟩, ⟨cv, hcv, cev⟩, hz, k⟩ := h
    have hu := hr.units
    have hu2 : (A.deeper (envOfC "is_bad" (defScope sIsBad) s.heap.objs.size f cdv)).units + 65 < cLine := by
      have := hr.un
      omega
    have nd := scIsBad.nd
    have sl := sizeLine_eq
    refine ⟨_, PSs.nox (pss_one (ps_ret (pe_cmpR op_eq (pe_callB call_len (by rfl) B.len boot_len (pa_cons (pe_lc (own := [("name", 2)]) (g := gName 2) rfl nd (pi_list (pv 1))
      (blkOk_by (own := [("name", 2)]) (N := ["part", "cause", "name"]) (sc := defScope sIsBad) (by decide +kernel)) (fun _ _ _ _ _ => pg_name (i := 2) nd rfl (Or.inl rfl))
      (fun _ _ _ _ _ => pts_one (pt_cmpR (op_notInEK (K := K) rfl hu2 (idC L).toCode) (pv 2) (pv 0) rfl)) (fun _ _ _ _ _ => pv 2)) pa_nil)) pe_int (nomark _)))), ?_⟩
    have cl := cev.length
    refine ⟨_, rfl, ca, rfl, ⟨_, SqL.of hcv⟩, fun D nD => lc_accL (xs := cv) nD (RelE (idK L) fun i => (cs.take i).filter fun c => decide (c ∉ ts)) RelE.mono RelE.zero (by omega) (fun H' s' => SqL.of (s' _ _ hcv)) ?_ ?_⟩
    · rintro i x H2 acc C N hi he s2 hD hl r2 hC hN
      obtain ⟨q, hq, hqt⟩ := cev.get (i := 0) he
      have hqt1 := TD.tk (Tk.of_same s2) _ _ hqt
      refine ⟨rfl, _, rfl, _, rfl, pa, tv, ts, q, rfl, SqL.of (s2 _ _ htv), tev.tk (Tk.of_same s2), hqt1, _, rfl, iB (fun hb => ?_) (fun hb => ?_)⟩
      · exact ⟨_, rfl, hC _ _ (Same.refl _) (r2.yes (Same.refl _) hq (by simpa using hb) hqt1)⟩
      · exact hN _ (Same.refl _) (r2.no (Same.refl _) hq (by simpa using hb))
    · intro H2 acc s2 hD hl r2
      have r2 := r2.all cl
      have e := filt_len ts cs
      have l2 := r2.length
      refine ⟨_, _, rfl, .inl ⟨_, SqL.of hD, rfl⟩, rfl, ?_⟩
      rw [dec_int]
      have e2 : decide ((acc.length : Int) = 0) = bad ts cs := by
        rw [← e, ← l2]
        by_cases h : acc.length = 0
        · rw [decide_eq_true h, decide_eq_true (by omega)]
        · rw [decide_eq_false h, decide_eq_false (by omega)]
      rw [e2]
      exact k H2 s2
def spMarks (L : Lab) : Sp := fun vs H Q _ => ∃ (ca ta : Addr) (z : Int) (i : Nat) (css tss : List (List Id)) (ts : List Id), vs = [.ref ca, .ref ta, .int z] ∧ z = (i : Nat) ∧ LLE H (idK L) ca css ∧ LLE H (idK L) ta tss ∧ tss[i]? = some ts ∧ css.length ≤ 1000 ∧ (∀ c ∈ css, c.length ≤ 1000) ∧
  ∀ r H', Same H H' → H r = none → LI H' r (marksOf ts css) → Q (.ref r) H'
theorem scMarks : FnScope ["causes", "tests", "index", "k"] ["causes", "tests", "index"] (defScope sMarks) := ⟨rfl, rfl, rfl, by decide +kernel, rfl, by decide +kernel, by decide +kernel⟩
theorem ixKL {X : Cx} (K : PySem.W.Frag) (h : X.K = K) : IxR X (rIxL K) := h ▸ ix_list
theorem range_take {n i : Nat} (h : i < n) : (List.range n)[i]? = some i := by
  rw [List.getElem?_range h]
theorem ok_marks {L : Lab} {f : Addr} {fd : FuncData} (B : Bt mg) (F : DefAt K "marks" "marks" sMarks f fd) (G : Df P w K mg base 1 "is_bad" ["part", "cause"] (spIsBad L)) : FnOk P w K mg base CX0 2 f fd ["causes", "tests", "index"] (spMarks L) := by
  refine FunD.ok F scMarks (fun vs H Q E h => ?_) (fun cdv A outer s H vs Q E hr h => ?_)
  · obtain ⟨ca, ta, z, i, css, tss, ts, rfl, _⟩ := h
    rfl
  · obtain ⟨ca, ta, z, ix, css, tss, ts, rfl, rfl, ⟨cv, hcv, chp⟩, ⟨tv, htv, thp⟩, hts, hz, hz2, k⟩ := h
    have nd := scMarks.nd
    have sl := sizeLine_eq
    have cl : cv.length = css.length := Paired.length chp
    refine ⟨_, PSs.nox (pss_one (ps_ret (pe_lc (own := [("k", 3)]) (g := gName 3) rfl nd (pi_range1 (by rfl) B.range (pa_cons (pe_callB call_len (by rfl) B.len boot_len (pa_cons (pv 0) pa_nil)) pa_nil))
      (blkOk_by (own := [("k", 3)]) (N := ["causes", "tests", "index", "k"]) (sc := defScope sMarks) (by decide +kernel)) (fun _ _ _ _ _ => pg_name (i := 3) nd rfl (Or.inl rfl))
      (fun _ _ _ _ _ => pts_one (pt_val (pe_df G hr (by rfl) (pa_cons (pe_ix (ixKL K rfl) (pv 1) (pv 2) (fun _ _ => rfl)) (pa_cons (pe_ix (ixKL K rfl) (pv 0) (pv 3) (fun _ _ => rfl)) pa_nil))))) (fun _ _ _ _ _ => pv 3)))), ?_⟩
    refine ⟨_, rfl, _, _, rfl, .inl ⟨_, SqL.of hcv, rfl⟩, _, rfl, by omega, by omega, fun D nD => lc_accR nD (RelF (List.range css.length) (fun k => bad ts (css.getD k [])) iv) RelF.mono RelF.zero (by omega) ?_ ?_⟩
    · rintro i x H2 acc C N hi he s2 hD hl r2 hC hN
      have he : x = .int (0 + (i : Nat)) := he
      rw [Int.zero_add] at he
      subst he
      have hic : i < css.length := by omega
      obtain ⟨ta1, eta1, a, eqa, hta⟩ : ∃ v, tv[ix]? = some v ∧ ∃ a, v = .ref a ∧ LE H (idK L) a ts := by
        obtain ⟨v, h1, h2⟩ := pgetr thp hts
        exact ⟨v, h1, h2⟩
      obtain ⟨cv1, ec1, a2, eqa2, hca⟩ := pgetr chp (List.getElem?_eq_getElem hic)
      subst eqa eqa2
      have hg : css.getD i [] = css[i] := by simp [List.getD, hic]
      refine ⟨rfl, _, rfl, _, rfl, _, _, _, _, rfl, rfl, SqL.of (s2 _ _ htv), atI_nat eta1, _, rfl, _, rfl, _, _, _, _, rfl, rfl, SqL.of (s2 _ _ hcv), atI_nat ec1, ?_⟩
      refine ⟨a, a2, ts, css[i], rfl, hta.same s2, hca.same s2, hz2 _ (List.getElem_mem hic), fun H3 s3 => ?_⟩
      refine ⟨_, rfl, iB (fun hb => ?_) (fun hb => ?_)⟩
      · exact ⟨_, rfl, hC _ _ s3 (r2.yes (range_take hic) (by rw [hg]; exact hb) rfl)⟩
      · exact hN _ s3 (r2.no (range_take hic) (by rw [hg]; exact hb))
    · intro H2 acc s2 hD hl r2
      have e := r2.all (by rw [List.length_range, ← cl]; rfl)
      subst e
      exact k D H2 s2 nD hD
end
end K97
set_option Elab.async false
set_option linter.all false
set_option maxRecDepth 100000
set_option maxHeartbeats 4000000
/-! The class Planner: __init__, sides, splits. -/
namespace K97
open PySem PySem.Spec PyProof.Rows L2
theorem op_inK {X : Cx} (K : PySem.W.Frag) (h : X.K = K) : OpR X (compareOp .In) (rIn K false) := h ▸ op_in_seq
theorem op_notInK {X : Cx} (K : PySem.W.Frag) (h : X.K = K) : OpR X (compareOp .NotIn) (rIn K true) := h ▸ op_notIn_seq
theorem inV_iv (k : Nat) : ∀ row : List Nat, inV (iv k) (row.map iv) = decide (k ∈ row)
  | [] => by simp [inV]
  | a :: t => by
    have ih := inV_iv k t
    unfold inV at ih ⊢
    rw [List.map_cons, List.any_cons, ih]
    have e : eqV (iv a) (iv k) = decide (k = a) := by
      show ((a : Int) == (k : Int)) = _
      rw [Bool.eq_iff_iff]
      simp
      omega
    rw [e]
    simp
theorem flat_iv (row : List Nat) : (row.map iv).all flatV = true := by
  rw [List.all_map, List.all_eq_true]
  intro k _
  rfl
def LT (H : Hp) (a : Addr) (ks : List Nat) : Prop := H a = some (.tup (ks.map iv))
def RowsAt (H : Hp) (ra : Addr) (R : List (List Nat)) : Prop := ∃ rv, H ra = some (.lst rv) ∧ Paired (fun v ks => ∃ a, v = V.ref a ∧ LI H a ks) rv R
theorem RowsAt.same {H H' : Hp} {ra : Addr} {R : List (List Nat)} (s : Same H H') (h : RowsAt H ra R) : RowsAt H' ra R := let ⟨rv, a, b⟩ := h; ⟨rv, s _ _ a, Paired.mapP b fun _ _ ⟨x, e, q⟩ => ⟨x, e, s _ _ q⟩⟩
structure PlAt (H : Hp) (C x dx ra ka : Addr) (R : List (List Nat)) (kvs : List (List Key × V)) : Prop where
  ins : H x = some (.ins C dx [("rows", .ref ra), ("known", .ref ka)])
  rows : RowsAt H ra R
  known : H ka = some (.dT kvs)
theorem PlAt.same {H H' : Hp} {C x dx ra ka : Addr} {R : List (List Nat)} {kvs : List (List Key × V)} (s : Same H H') (h : PlAt H C x dx ra ka R kvs) : PlAt H' C x dx ra ka R kvs := ⟨s _ _ h.ins, h.rows.same s, s _ _ h.known⟩
/-- the class's facts -/
structure Pl (K : PySem.W.Frag) (mg : Str → Option Value) (C : Addr) : Prop where
  cl : Cls K C
  nR : NoAttr K C "rows"
  nK : NoAttr K C "known"
  mg : mg "Planner" = some (.ref C)
def Mt (P : Program) (w : World) (K : PySem.W.Frag) (mg : Str → Option Value) (base : Heap) (k : Nat) (C : Addr) (m : Str) (ps : List Str) (sp : Sp) : Prop := ∃ f fd, FnOk P w K mg base CX0 k f fd ps sp ∧ Binds K fd ps [] ∧ Meth K C m f
theorem Mt.mono {P : Program} {w : World} {K : PySem.W.Frag} {mg : Str → Option Value} {base : Heap} {C : Addr} {m : Str} {ps : List Str} {j k : Nat} {sp : Sp} (D : Mt P w K mg base j C m ps sp) (h : j ≤ k) : Mt P w K mg base k C m ps sp := by
  obtain ⟨f, fd, a, b, c⟩ := D
  exact ⟨f, fd, a.mono h, b, c⟩
theorem pe_mt {X : Cx} {C : Addr} {m : Str} {ps : List Str} {k : Nat} {sp : Sp} {o e : Expr} {es : List Expr} {ta : TE} {t : TA} {apos pos : Pos} {pl : Sem Bool} (c : Cls X.K C) (D : Mt X.prog X.w X.K X.mg X.base k C m ps sp) (hr : Room k X.A) (ho : PE X o ta) (ha : PA X (e :: es) t)
    (hst : starEach (e :: es) X.env = (false, eval e X.env) :: starEach es X.env := by rfl) (hpl : (backTo pos (starEach es X.env)).any (·.1) = false := by rfl)
    (ht : eval (.Call (.Attribute o m apos) (e :: es) [] pos) X.env = (do
      let ov ← eval o X.env
      standAt apos.atName
      let (f, first) ← holding [ov] (getMethod ov m pl)
      callWith pos f first (backTo pos (starEach (e :: es) X.env)) (backToKw pos (keywordEach [] X.env))) := by rfl) :
    PE X (.Call (.Attribute o m apos) (e :: es) [] pos) (tMeth C m sp [] E0 ta t) := by
  obtain ⟨f, fd, a, b, d⟩ := D
  exact pe_meth ho c d a hr b .nil pass0 ha hst hpl ht
section
variable {P : Program} {w : World} {K : PySem.W.Frag} {mg : Str → Option Value} {base : Heap}
def sideOf (g row : List Nat) : List Nat := g.filter fun k => decide (k ∈ row)
def restOf (g row : List Nat) : List Nat := g.filter fun k => !decide (k ∈ row)
def spSides (C : Addr) : Sp := fun vs H Q _ => ∃ (x dx ra ka ga : Addr) (R : List (List Nat)) (kvs : List (List Key × V)) (g row : List Nat) (z : Int) (i : Nat), vs = [.ref x, .ref ga, .int z] ∧ z = (i : Nat) ∧ PlAt H C x dx ra ka R kvs ∧ LT H ga g ∧ R[i]? = some row ∧ g.length ≤ 1000 ∧
  ∀ r b c H', Same H H' → H' r = some (.tup [.ref b, .ref c]) → LT H' b (sideOf g row) → LT H' c (restOf g row) → Q (.ref r) H'
theorem scSides : FnScope ["self", "group", "index", "row", "k"] ["self", "group", "index"] (defScope sPSides) := ⟨rfl, rfl, rfl, by decide +kernel, rfl, by decide +kernel, by decide +kernel⟩
theorem ok_sides {C : Addr} {f : Addr} {fd : FuncData} (B : Bt mg) (T : Pl K mg C) (F : DefAt K "sides" "Planner.sides" sPSides f fd) : FnOk P w K mg base CX0 1 f fd ["self", "group", "index"] (spSides C) := by
  refine FunD.ok F scSides (fun vs H Q E h => ?_) (fun cdv A outer s H vs Q E hr h => ?_)
  · obtain ⟨x, dx, ra, ka, ga, R, kvs, g, row, z, i, rfl, _⟩ := h
    rfl
  · obtain ⟨x, dx, ra, ka, ga, R, kvs, g, row, z, i, rfl, rfl, pl, hg, hrow, hz, k⟩ := h
    have nd := scSides.nd
    have sl := sizeLine_eq
    have blk := fun (own : List (Str × Nat)) => own
    refine ⟨_, PSs.nox (pss_cons (ps_set (i := 3) nd rfl (Or.inr rfl) (pe_ix ix_list (pe_fld (pv 0) rfl) (pv 2) (fun _ _ => rfl)))
      (pss_one (ps_ret (pe_tup (pa_cons (pe_callTy (call_tupleK K rfl) (by rfl) B.tuple boot_tuple (pa_cons (pe_lc (own := [("k", 4)]) (g := gName 4) rfl nd (pi_tup (pv 1))
          (blkOk_by (own := [("k", 4)]) (N := ["self", "group", "index", "row", "k"]) (sc := defScope sPSides) (by decide +kernel)) (fun _ _ _ _ _ => pg_name (i := 4) nd rfl (Or.inl rfl))
          (fun _ _ _ _ _ => pts_one (pt_cmpR (op_inK K rfl) (pv 4) (pv 3) rfl)) (fun _ _ _ _ _ => pv 4)) pa_nil))
        (pa_cons (pe_callTy (call_tupleK K rfl) (by rfl) B.tuple boot_tuple (pa_cons (pe_lc (own := [("k", 4)]) (g := gName 4) rfl nd (pi_tup (pv 1))
          (blkOk_by (own := [("k", 4)]) (N := ["self", "group", "index", "row", "k"]) (sc := defScope sPSides) (by decide +kernel)) (fun _ _ _ _ _ => pg_name (i := 4) nd rfl (Or.inl rfl))
          (fun _ _ _ _ _ => pts_one (pt_cmpR (op_notInK K rfl) (pv 4) (pv 3) rfl)) (fun _ _ _ _ _ => pv 4)) pa_nil)) pa_nil)))))), ?_⟩
    obtain ⟨rv, hrv, hrp⟩ := pl.rows
    obtain ⟨v, hv, a, rfl, hra⟩ := pgetr hrp hrow
    refine ⟨_, rfl, x, C, dx, _, _, rfl, pl.ins, T.cl, T.nR, rfl, _, rfl, _, _, _, _, rfl, rfl, SqL.of hrv, atI_nat hv, ?_⟩
    refine ⟨_, rfl, ga, rfl, ⟨_, SqT.of hg⟩, fun D nD => lc_accT (xs := g.map iv) nD (RelF g (fun k => decide (k ∈ row)) iv) RelF.mono RelF.zero (by rw [List.length_map]; omega) (fun H' s' => SqT.of (s' _ _ hg)) ?_ ?_⟩
    · rintro i x H2 acc C N hi he s2 hD hl r2 hC hN
      obtain ⟨q, hq, rfl⟩ : ∃ q, g[i]? = some q ∧ x = iv q := by
        have he : (g.map iv)[i]? = some x := he
        rw [List.getElem?_map] at he
        cases e : g[i]? with
        | none => rw [e] at he; cases he
        | some q =>
          rw [e] at he
          cases he
          exact ⟨q, rfl, rfl⟩
      refine ⟨rfl, _, rfl, _, rfl, _, _, rfl, .inl (SqL.of (s2 _ _ hra)), rfl, flat_iv row, _, rfl, ?_⟩
      rw [inV_iv]
      exact iB (fun hb => ⟨_, rfl, hC _ _ (Same.refl _) (r2.yes hq (by simpa using hb) rfl)⟩) fun hb => hN _ (Same.refl _) (r2.no hq (by simpa using hb))
    · intro H2 acc s2 hD hl r2
      have e1 := r2.all (by rw [List.length_map])
      refine ⟨D, _, rfl, .inl ⟨SqL.of hD, fun b nb => ?_⟩⟩
      have s3 : Same H2 (upd H2 b (.tup acc)) := same_new nb
      have S3 := s2.trans s3
      refine ⟨_, rfl, ga, rfl, ⟨_, SqT.of (S3 _ _ hg)⟩, fun D2 nD2 => lc_accT (xs := g.map iv) nD2 (RelF g (fun k => !decide (k ∈ row)) iv) RelF.mono RelF.zero (by rw [List.length_map]; omega) (fun H' s' => SqT.of (s' _ _ (S3 _ _ hg))) ?_ ?_⟩
      · rintro i x H4 acc2 C N hi he s4 hD hl r2 hC hN
        obtain ⟨q, hq, rfl⟩ : ∃ q, g[i]? = some q ∧ x = iv q := by
          have he : (g.map iv)[i]? = some x := he
          rw [List.getElem?_map] at he
          cases e : g[i]? with
          | none => rw [e] at he; cases he
          | some q =>
            rw [e] at he
            cases he
            exact ⟨q, rfl, rfl⟩
        refine ⟨rfl, _, rfl, _, rfl, _, _, rfl, .inl (SqL.of (s4 _ _ (S3 _ _ hra))), rfl, flat_iv row, _, rfl, ?_⟩
        rw [inV_iv]
        exact iB (fun hb => ⟨_, rfl, hC _ _ (Same.refl _) (r2.yes hq (by simpa using hb) rfl)⟩) fun hb => hN _ (Same.refl _) (r2.no hq (by simpa using hb))
      · intro H4 acc2 s4 hD2 hl2 r4
        have e2 := r4.all (by rw [List.length_map])
        refine ⟨D2, _, rfl, .inl ⟨SqL.of hD2, fun c nc => ⟨by show 2 ≤ sizeLine; omega, fun r nr => ?_⟩⟩⟩
        have s5 := same_new (o := .tup acc2) nc
        have s6 := same_new (o := .tup [.ref b, .ref c]) nr
        subst e1 e2
        refine k r b c _ (((S3.trans s4).trans s5).trans s6) upd_same ((s4.trans (s5.trans s6)) _ _ upd_same) (s6 _ _ upd_same)
/-- lists of ints, made in a comprehension -/
def RelI (D : Addr) (f : Nat → List (List Nat)) : Hp → List V → Nat → Prop := fun H acc i => Paired (fun v ks => ∃ a, v = V.ref a ∧ a ≠ D ∧ LI H a ks) acc (f i)
theorem RelI.mono {D : Addr} {f : Nat → List (List Nat)} : Mono D (RelI D f) := fun _ _ _ _ k _ h => Paired.mapP h fun _ _ ⟨a, e, n, q⟩ => ⟨a, e, n, k _ _ n q⟩
def rowsOf (tss css : List (List Id)) : List (List Nat) := tss.map fun ts => marksOf ts css
def spInit (L : Lab) (C : Addr) : Sp := fun vs H Q _ => ∃ (x dx ca ta : Addr) (css tss : List (List Id)), vs = [.ref x, .ref ca, .ref ta] ∧ H x = some (.ins C dx []) ∧ LLE H (idK L) ca css ∧ LLE H (idK L) ta tss ∧ css.length ≤ 1000 ∧ (∀ c ∈ css, c.length ≤ 1000) ∧ tss.length ≤ 1000 ∧
  ∀ H' ra ka, Kp x H H' → H ka = none → PlAt H' C x dx ra ka (rowsOf tss css) [] → Q .non H'
theorem scPInit : FnScope ["self", "causes", "tests", "index"] ["self", "causes", "tests"] (defScope sPInit) := ⟨rfl, rfl, rfl, by decide +kernel, rfl, by decide +kernel, by decide +kernel⟩
theorem ok_pinit {L : Lab} {C : Addr} {f : Addr} {fd : FuncData} (B : Bt mg) (T : Pl K mg C) (F : DefAt K "__init__" "Planner.__init__" sPInit f fd) (G : Df P w K mg base 2 "marks" ["causes", "tests", "index"] (spMarks L)) : FnOk P w K mg base CX0 3 f fd ["self", "causes", "tests"] (spInit L C) := by
  refine FunD.ok F scPInit (fun vs H Q E h => ?_) (fun cdv A outer s H vs Q E hr h => ?_)
  · obtain ⟨x, dx, ca, ta, css, tss, rfl, _⟩ := h
    rfl
  · obtain ⟨x, dx, ca, ta, css, tss, rfl, hx, hc, ht, hz1, hz2, hz3, k⟩ := h
    have nd := scPInit.nd
    have sl := sizeLine_eq
    refine ⟨_, PSs.nox (pss_cons (ps_fld (pv 0) (pe_lc (own := [("index", 3)]) (g := gName 3) (tt := tYes) rfl nd (pi_range1 (by rfl) B.range (pa_cons (pe_callB call_len (by rfl) B.len boot_len (pa_cons (pv 2) pa_nil)) pa_nil))
        (blkOk_by (own := [("index", 3)]) (N := ["self", "causes", "tests", "index"]) (sc := defScope sPInit) (by decide +kernel)) (fun _ _ _ _ _ => pg_name (i := 3) nd rfl (Or.inl rfl))
        (fun _ _ _ _ _ => pts_nil) (fun _ _ _ _ _ => pe_df G hr (by rfl) (pa_cons (pv 1) (pa_cons (pv 2) (pa_cons (pv 3) pa_nil))))) rfl)
      (pss_one (ps_fld (pv 0) pe_dnewT rfl))), ?_⟩
    obtain ⟨tv, htv, htp⟩ := id ht
    have tl : tv.length = tss.length := Paired.length htp
    refine ⟨_, rfl, _, _, rfl, .inl ⟨_, SqL.of htv, rfl⟩, _, rfl, by omega, by omega, fun D nD => lc_accR nD (RelI D fun i => (tss.take i).map fun ts => marksOf ts css) RelI.mono .nil (by omega) ?_ ?_⟩
    · rintro i y H2 acc C N hi he s2 hD hl r2 hC hN
      have he : y = .int (0 + (i : Nat)) := he
      subst he
      have hi2 : i < tss.length := by omega
      refine ⟨rfl, ?_⟩
      refine ⟨_, rfl, _, rfl, _, rfl, ca, ta, _, i, css, tss, tss[i], rfl, Int.zero_add _, hc.same s2, ht.same s2, List.getElem?_eq_getElem hi2, hz1, hz2, fun r H3 s3 nr hr3 => ?_⟩
      refine hC _ _ s3 ?_
      show Paired _ (acc ++ [.ref r]) ((tss.take (i + 1)).map fun ts => marksOf ts css)
      rw [map_step (List.getElem?_eq_getElem hi2)]
      refine Paired.snoc (RelI.mono.same s3 r2) ⟨r, rfl, fun e => ?_, hr3⟩
      rw [e, hD] at nr
      cases nr
    · intro H2 acc s2 hD hl r2
      have hx2 := s2 _ _ hx
      have r2 : Paired _ acc ((tss.take _).map fun ts => marksOf ts css) := r2
      have e : ((tv.length : Nat) : Int).toNat = tss.length := by omega
      rw [e, List.take_length] at r2
      refine ⟨_, rfl, x, C, dx, [], rfl, hx2, T.cl, T.nR, by decide, ?_⟩
      have hDx : D ≠ x := fun e => by
        rw [e, hx2] at hD
        cases hD
      refine fun ka nk => ⟨_, rfl, x, C, dx, _, rfl, by rw [upd_ne (ne_of_none upd_same nk)]; exact upd_same, T.cl, T.nK, by show 1 < 1000; decide, ?_⟩
      have hkx : ka ≠ x := fun e => by
        rw [e, upd_same] at nk
        cases nk
      have hkD : D ≠ ka := fun e => by
        rw [← e, upd_ne hDx, hD] at nk
        cases nk
      have kp : Kp x H2 (upd (upd (upd H2 x (.ins C dx (putF "rows" (.ref D) []))) ka (.dT [])) x (.ins C dx (putF "known" (.ref ka) (putF "rows" (.ref D) [])))) := fun b o nb q => by
        have hbk : b ≠ ka := fun e => by
          rw [← e, upd_ne nb, q] at nk
          cases nk
        rw [upd_ne nb, upd_ne hbk, upd_ne nb]
        exact q
      refine k _ D ka ((Kp.of s2).trans kp) (none_of s2 (by rwa [upd_ne hkx] at nk)) ⟨upd_same, ⟨acc, kp _ _ hDx hD, Paired.mapP r2 fun v ks ⟨a, e, n, q⟩ => ⟨a, e, kp _ _ (fun e2 => ?_) q⟩⟩, ?_⟩
      · have q : H2 a = some (.lst (ks.map iv)) := q
        rw [e2, hx2] at q
        cases q
      · rw [upd_ne hkx, upd_same]
theorem lk_none {m : Str} {a b : V} (h1 : (m == ("rows" : Str)) = false) (h2 : (m == ("known" : Str)) = false) : List.lookup m [(("rows" : Str), a), ("known", b)] = none := by
  simp [List.lookup, h1, h2]
def SplitAt (H : Hp) (v : V) (t : Nat × List Nat × List Nat) : Prop := ∃ r b c, v = V.ref r ∧ H r = some (.tup [iv t.1, .ref b, .ref c]) ∧ LT H b t.2.1 ∧ LT H c t.2.2
theorem SplitAt.tk {H H' : Hp} (s : Tk H H') {v : V} {t : Nat × List Nat × List Nat} (h : SplitAt H v t) : SplitAt H' v t := let ⟨r, b, c, e, h1, h2, h3⟩ := h; ⟨r, b, c, e, s _ _ h1, s _ _ h2, s _ _ h3⟩
def splitsB (R : List (List Nat)) (g : List Nat) (i : Nat) : Bool := decide (0 < (sideOf g (R.getD i [])).length) && decide (0 < (restOf g (R.getD i [])).length)
def splitOf (R : List (List Nat)) (g : List Nat) (i : Nat) : Nat × List Nat × List Nat := (i, sideOf g (R.getD i []), restOf g (R.getD i []))
def splitsOf (R : List (List Nat)) (g : List Nat) : List (Nat × List Nat × List Nat) := ((List.range R.length).filter (splitsB R g)).map (splitOf R g)
def spSplits (C : Addr) : Sp := fun vs H Q _ => ∃ (x dx ra ka ga : Addr) (R : List (List Nat)) (kvs : List (List Key × V)) (g : List Nat), vs = [.ref x, .ref ga] ∧ PlAt H C x dx ra ka R kvs ∧ LT H ga g ∧ g.length ≤ 1000 ∧ R.length ≤ 1000 ∧
  ∀ r sv H', Same H H' → H r = none → H' r = some (.lst sv) → Paired (SplitAt H') sv (splitsOf R g) → Q (.ref r) H'
theorem scSplits : FnScope ["self", "group", "found", "index", "bad", "good"] ["self", "group"] (defScope sPSplits) := ⟨rfl, rfl, rfl, by decide +kernel, rfl, by decide +kernel, by decide +kernel⟩
theorem ok_splits {C : Addr} {f : Addr} {fd : FuncData} (B : Bt mg) (T : Pl K mg C) (F : DefAt K "splits" "Planner.splits" sPSplits f fd) (G : Mt P w K mg base 1 C "sides" ["self", "group", "index"] (spSides C)) : FnOk P w K mg base CX0 2 f fd ["self", "group"] (spSplits C) := by
  refine FunD.ok F scSplits (fun vs H Q E h => ?_) (fun cdv A outer s H vs Q E hr h => ?_)
  · obtain ⟨x, dx, ra, ka, ga, R, kvs, g, rfl, _⟩ := h
    rfl
  · obtain ⟨x, dx, ra, ka, ga, R, kvs, g, rfl, pl, hg, hz, hzR, k⟩ := h
    have nd := scSplits.nd
    have sl := sizeLine_eq
    refine ⟨_, PSs.nox (pss_cons (ps_set (i := 2) nd rfl (Or.inl rfl) (pe_lst pa_nil))
      (pss_cons (ps_for PassesOwn.never rfl (pi_range1 (by rfl) B.range (pa_cons (pe_callB call_len (by rfl) B.len boot_len (pa_cons (pe_fld (pv 0) rfl) pa_nil)) pa_nil)) (pg_name (i := 3) nd rfl (Or.inl rfl))
        (pss_cons (ps_asg (pe_mt T.cl G hr (pv 0) (pa_cons (pv 1) (pa_cons (pv 3) pa_nil))) (pg_tup (by rfl) (pgs_cons (pg_name (i := 4) nd rfl (Or.inl rfl)) (pgs_cons (pg_name (i := 5) nd rfl (Or.inl rfl)) pgs_nil))))
        (pss_one (ps_if (PW.pt (pw_and (pt_cmpR op_gt (pe_callB call_len (by rfl) B.len boot_len (pa_cons (pv 4) pa_nil)) pe_int (nomark _)) (pw_and1 (pt_cmpR op_gt (pe_callB call_len (by rfl) B.len boot_len (pa_cons (pv 5) pa_nil)) pe_int (nomark _)))))
          (pss_one (ps_expr (pe_bm PySem.F.plainAttrs_list PySem.F.slot_list_append PySem.F.type_list_append mt_append (pv 2) (pa_cons (pe_tup (pa_cons (pv 3) (pa_cons (pv 4) (pa_cons (pv 5) pa_nil)))) pa_nil)))) pss_nil))))
      (pss_one (ps_ret (pv 2))))), ?_⟩
    refine ⟨Nat.zero_le _, fun fo nfo => ?_⟩
    have s1 : Same H (upd H fo (.lst [])) := same_new nfo
    obtain ⟨rv, hrv, hrp⟩ := pl.rows
    have rl : rv.length = R.length := Paired.length hrp
    refine ⟨_, rfl, x, C, dx, _, _, rfl, s1 _ _ pl.ins, T.cl, T.nR, rfl, _, _, rfl, .inl ⟨_, SqL.of (s1 _ _ hrv), rfl⟩, _, rfl, by omega, by omega, for_range (lo := 0)
      (fun i σ H' => ∃ acc c3 c4 c5, σ = [some (.ref x), some (.ref ga), some (.ref fo), c3, c4, c5] ∧ Same H H' ∧ H' fo = some (.lst acc) ∧ acc.length ≤ i ∧ Paired (SplitAt H') acc (((((List.range R.length).take i).filter (splitsB R g))).map (splitOf R g)))
      ⟨[], none, none, none, rfl, s1, upd_same, Nat.le_refl _, .nil⟩ ?_ ?_⟩
    · rintro i σ H2 hi ⟨acc, c3, c4, c5, rfl, s2, hf, hl, hp⟩
      have hiR : i < R.length := by omega
      have pl2 := pl.same s2
      have hrow : R[i]? = some (R.getD i []) := by simp [List.getD, hiR]
      refine ⟨_, rfl, x, dx, _, rfl, pl2.ins, lk_none (by decide +kernel) (by decide +kernel), _, rfl, _, rfl, x, dx, ra, ka, ga, R, kvs, g, _, _, i, rfl, Int.zero_add _, pl2, s2 _ _ hg, hrow, hz, fun r b c H3 s3 hr3 hb hc => ?_⟩
      refine ⟨r, _, rfl, SqT.of hr3, rfl, _, _, rfl, _, _, rfl, rfl, ?_⟩
      have hf3 := s3 _ _ hf
      have hp3 : Paired (SplitAt H3) acc _ := Paired.mapP hp fun _ _ q => q.tk (Tk.of_same s3)
      have lb : ((sideOf g (R.getD i [])).map iv).length = (sideOf g (R.getD i [])).length := List.length_map _
      have lc : ((restOf g (R.getD i [])).map iv).length = (restOf g (R.getD i [])).length := List.length_map _
      have noo : splitsB R g i = false → Paired (SplitAt H3) acc ((((List.range R.length).take (i + 1)).filter (splitsB R g)).map (splitOf R g)) := fun e => by
        rw [filt_no (range_take hiR) e]
        exact hp3
      refine ⟨_, rfl, _, _, rfl, .inr ⟨_, SqT.of hb, rfl⟩, _, _, rfl, rfl, _, rfl, iB (fun h1 => ?_) (fun h1 => ?_)⟩
      · refine ⟨_, rfl, _, _, rfl, .inr ⟨_, SqT.of hc, rfl⟩, _, _, rfl, rfl, _, rfl, iB (fun h2 => ?_) (fun h2 => ?_)⟩
        · have e : splitsB R g i = true := by
            have h1 := of_decide_eq_true h1
            have h2 := of_decide_eq_true h2
            unfold splitsB
            rw [Bool.and_eq_true, decide_eq_true_eq, decide_eq_true_eq]
            omega
          refine ⟨_, rfl, .inl ⟨rfl, _, .inl (.inl hf3)⟩, _, rfl, _, rfl, _, rfl, by show 3 ≤ sizeLine; omega, fun t nt => ?_⟩
          have s4 := same_new (o := .tup [.int (0 + (i : Nat)), .ref b, .ref c]) nt
          have hf4 := s4 _ _ hf3
          refine ⟨fo, acc, _, rfl, rfl, hf4, by omega, _, _, _, _, rfl, fun b o q => ?_, upd_same, ?_, ?_⟩
          · rw [upd_ne (ne_of_none q nfo)]
            exact (s3.trans s4) _ _ (s2 _ _ q)
          · rw [List.length_append]
            exact Nat.succ_le_succ hl
          · rw [filt_yes (range_take hiR) e, List.map_append]
            have tk : Tk H3 (upd (upd H3 t (.tup [.int (0 + (i : Nat)), .ref b, .ref c])) fo (.lst (acc ++ [.ref t]))) := (Tk.of_same s4).trans (Tk.put hf4 fun _ z => nomatch z)
            refine papp (Paired.mapP hp3 fun _ _ q => q.tk tk) (.cons ⟨t, b, c, rfl, ?_, tk _ _ hb, tk _ _ hc⟩ .nil)
            rw [upd_ne (ne_of hf4 upd_same fun z => nomatch z).symm, upd_same]
            show some (HO.tup [.int (0 + (i : Nat)), _, _]) = some (HO.tup [.int (i : Nat), _, _])
            rw [Int.zero_add]
        · refine ⟨acc, _, _, _, rfl, s2.trans s3, hf3, by omega, noo ?_⟩
          have h2 := of_decide_eq_false h2
          unfold splitsB
          rw [Bool.and_eq_false_iff, decide_eq_false_iff_not, decide_eq_false_iff_not]
          omega
      · refine iF rfl ⟨acc, _, _, _, rfl, s2.trans s3, hf3, by omega, noo ?_⟩
        have h1 := of_decide_eq_false h1
        unfold splitsB
        rw [Bool.and_eq_false_iff, decide_eq_false_iff_not, decide_eq_false_iff_not]
        omega
    · rintro σ H2 ⟨acc, c3, c4, c5, rfl, s2, hf, hl, hp⟩
      have e : ((rv.length : Nat) : Int).toNat = (List.range R.length).length := by
        rw [List.length_range]
        omega
      rw [e, List.take_length] at hp
      exact ⟨_, rfl, k fo acc H2 s2 nfo hf hp⟩
end
end K97
set_option Elab.async false
set_option linter.all false
set_option maxRecDepth 100000
set_option maxHeartbeats 4000000
/-! The planner's choice, as a plain function. -/
namespace K97
open PySem PySem.Spec PyProof.Rows L2
def pickB (f : List Nat → Nat × Option Nat) (acc : Nat × Option Nat) (t : Nat × List Nat × List Nat) : Nat × Option Nat :=
  if acc.2 = none ∨ 1 + max (f t.2.1).1 (f t.2.2).1 < acc.1 then (1 + max (f t.2.1).1 (f t.2.2).1, some t.1) else acc
def bestF (R : List (List Nat)) : Nat → List Nat → Nat × Option Nat
  | 0, _ => (0, none)
  | n + 1, g => if g.length ≤ 1 then (0, none) else (splitsOf R g).foldl (pickB (bestF R n)) (0, none)
def best (R : List (List Nat)) (g : List Nat) : Nat × Option Nat := bestF R g.length g
theorem side_rest (g row : List Nat) : (sideOf g row).length + (restOf g row).length = g.length := by
  induction g with
  | nil => rfl
  | cons a t ih =>
    by_cases h : a ∈ row
    · have e1 : sideOf (a :: t) row = a :: sideOf t row := by simp [sideOf, h]
      have e2 : restOf (a :: t) row = restOf t row := by simp [restOf, h]
      rw [e1, e2, List.length_cons, List.length_cons]
      omega
    · have e1 : sideOf (a :: t) row = sideOf t row := by simp [sideOf, h]
      have e2 : restOf (a :: t) row = a :: restOf t row := by simp [restOf, h]
      rw [e1, e2, List.length_cons, List.length_cons]
      omega
theorem mem_splits {R : List (List Nat)} {g : List Nat} {t : Nat × List Nat × List Nat} (h : t ∈ splitsOf R g) : t = splitOf R g t.1 ∧ t.1 < R.length ∧ 0 < t.2.1.length ∧ 0 < t.2.2.length ∧ t.2.1.length < g.length ∧ t.2.2.length < g.length := by
  obtain ⟨i, hi, rfl⟩ := List.mem_map.mp h
  obtain ⟨h1, h2⟩ := List.mem_filter.mp hi
  unfold splitsB at h2
  rw [Bool.and_eq_true, decide_eq_true_eq, decide_eq_true_eq] at h2
  have := side_rest g (R.getD i [])
  refine ⟨rfl, List.mem_range.mp h1, h2.1, h2.2, ?_, ?_⟩
  · show (sideOf g (R.getD i [])).length < _
    omega
  · show (restOf g (R.getD i [])).length < _
    omega
theorem foldl_congr {α β : Type} {f f' : β → α → β} : ∀ {l : List α} {b : β}, (∀ a ∈ l, ∀ b, f b a = f' b a) → l.foldl f b = l.foldl f' b
  | [], _, _ => rfl
  | a :: l, b, h => by
    rw [List.foldl_cons, List.foldl_cons, h a List.mem_cons_self b]
    exact foldl_congr fun c hc d => h c (List.mem_cons_of_mem _ hc) d
theorem bestF_eq {R : List (List Nat)} : ∀ (n m : Nat) (g : List Nat), g.length ≤ n → g.length ≤ m → bestF R n g = bestF R m g
  | 0, 0, _, _, _ => rfl
  | 0, m + 1, g, h, _ => by
    unfold bestF
    rw [if_pos (by omega)]
  | n + 1, 0, g, _, h => by
    unfold bestF
    rw [if_pos (by omega)]
  | n + 1, m + 1, g, h1, h2 => by
    unfold bestF
    split
    · rfl
    · refine foldl_congr fun t ht acc => ?_
      obtain ⟨_, _, _, _, q1, q2⟩ := mem_splits ht
      unfold pickB
      rw [bestF_eq n m t.2.1 (by omega) (by omega), bestF_eq n m t.2.2 (by omega) (by omega)]
theorem best_eq (R : List (List Nat)) (g : List Nat) : best R g = if g.length ≤ 1 then (0, none) else (splitsOf R g).foldl (pickB (best R)) (0, none) := by
  unfold best
  cases h : g.length with
  | zero =>
    unfold bestF
    rw [if_pos (by omega)]
  | succ n =>
    rw [bestF, h]
    split
    · rfl
    · refine foldl_congr fun t ht acc => ?_
      obtain ⟨_, _, _, _, q1, q2⟩ := mem_splits ht
      unfold pickB
      rw [bestF_eq n _ t.2.1 (by omega) (Nat.le_refl _), bestF_eq n _ t.2.2 (by omega) (Nat.le_refl _)]
theorem side_sub (g row : List Nat) : (sideOf g row).Sublist g := List.filter_sublist
theorem rest_sub (g row : List Nat) : (restOf g row).Sublist g := List.filter_sublist
/-- all sublists -/
def subsOf {α : Type} : List α → List (List α)
  | [] => [[]]
  | a :: t => subsOf t ++ (subsOf t).map (a :: ·)
theorem subs_len {α : Type} : ∀ l : List α, (subsOf l).length = 2 ^ l.length
  | [] => rfl
  | a :: t => by
    rw [subsOf, List.length_append, List.length_map, subs_len t, List.length_cons, Nat.pow_succ]
    omega
theorem mem_subs {α : Type} {g l : List α} (h : g.Sublist l) : g ∈ subsOf l := by
  induction h with
  | slnil => simp [subsOf]
  | cons a _ ih => exact List.mem_append.mpr (.inl ih)
  | cons_cons a _ ih => exact List.mem_append.mpr (.inr (List.mem_map.mpr ⟨_, ih, rfl⟩))
def keyOf (g : List Nat) : List Key := g.map fun k : Nat => (Sum.inl (k : Int) : Key)
theorem key_map (g : List Nat) : g.map iv = (keyOf g).map kV := by
  unfold keyOf
  rw [List.map_map]
  rfl
theorem key_inj : ∀ g g' : List Nat, keyOf g = keyOf g' → g = g'
  | [], [], _ => rfl
  | [], _ :: _, h => by simp [keyOf] at h
  | _ :: _, [], h => by simp [keyOf] at h
  | a :: t, b :: u, h => by
    unfold keyOf at h
    rw [List.map_cons, List.map_cons] at h
    injection h with h1 h2
    injection h1 with h1
    rw [show a = b by omega, key_inj t u h2]
def optV : Option Nat → V
  | none => .non
  | some i => iv i
def BestAt (H : Hp) (r : Addr) (q : Nat × Option Nat) : Prop := H r = some (.tup [iv q.1, optV q.2])
structure KnOk (H : Hp) (R : List (List Nat)) (n0 : Nat) (kvs : List (List Key × V)) : Prop where
  nd : (kvs.map (·.1)).Nodup
  sub : ∀ key ∈ kvs.map (·.1), ∃ g : List Nat, key = keyOf g ∧ g.Sublist (List.range n0)
  val : ∀ (g : List Nat) v, valV kvs (keyOf g) = some v → ∃ r, v = .ref r ∧ BestAt H r (best R g)
theorem KnOk.len {H : Hp} {R : List (List Nat)} {n0 : Nat} {kvs : List (List Key × V)} (h : KnOk H R n0 kvs) (hn : n0 ≤ 9) : kvs.length ≤ 512 := by
  have := nodup_le h.nd (ys := (subsOf (List.range n0)).map keyOf) fun key hk => by
    obtain ⟨g, rfl, s⟩ := h.sub key hk
    exact List.mem_map.mpr ⟨g, mem_subs s, rfl⟩
  rw [List.length_map, List.length_map, subs_len, List.length_range] at this
  have : 2 ^ n0 ≤ 2 ^ 9 := Nat.pow_le_pow_right (by omega) hn
  omega
theorem KnOk.tk {H H' : Hp} {R : List (List Nat)} {n0 : Nat} {kvs : List (List Key × V)} (h : KnOk H R n0 kvs) (t : Tk H H') : KnOk H' R n0 kvs := ⟨h.nd, h.sub, fun g v e => let ⟨r, e1, e2⟩ := h.val g v e; ⟨r, e1, t _ _ e2⟩⟩
theorem KnOk.put {H : Hp} {R : List (List Nat)} {n0 : Nat} {kvs : List (List Key × V)} (h : KnOk H R n0 kvs) {g : List Nat} {r : Addr} (hs : g.Sublist (List.range n0)) (hb : BestAt H r (best R g)) : KnOk H R n0 (putK kvs (keyOf g) (.ref r)) := by
  refine ⟨nodup_putK h.nd, fun key hk => ?_, fun g' v e => ?_⟩
  · rcases mem_putK.mp hk with q | q
    · exact h.sub key q
    · exact ⟨g, q, hs⟩
  · rw [valV_put] at e
    by_cases c : keyOf g' = keyOf g
    · rw [if_pos c] at e
      cases e
      rw [key_inj _ _ c]
      exact ⟨r, rfl, hb⟩
    · rw [if_neg c] at e
      exact h.val g' v e
theorem KnOk.nil {H : Hp} {R : List (List Nat)} {n0 : Nat} : KnOk H R n0 [] := ⟨List.nodup_nil, fun k h => (List.not_mem_nil h).elim, fun g v e => by cases (show none = some v from e)⟩
end K97
set_option Elab.async false
set_option linter.all false
set_option maxRecDepth 100000
set_option maxHeartbeats 4000000
/-! Planner.best. -/
namespace K97
open PySem PySem.Spec PyProof.Rows L2
section
variable {P : Program} {w : World} {K : PySem.W.Frag} {mg : Str → Option Value} {base : Heap}
def spBest (C : Addr) (N : Nat) : Sp := fun vs H Q _ => ∃ (x dx ra ka ga : Addr) (R : List (List Nat)) (kvs : List (List Key × V)) (g : List Nat) (n0 : Nat), vs = [.ref x, .ref ga] ∧ PlAt H C x dx ra ka R kvs ∧ KnOk H R n0 kvs ∧ n0 ≤ 9 ∧ LT H ga g ∧ g.Sublist (List.range n0) ∧ g.length < N ∧ R.length ≤ 1000 ∧
  ∀ r H' kvs', Kp ka H H' → Tk H H' → PlAt H' C x dx ra ka R kvs' → KnOk H' R n0 kvs' → BestAt H' r (best R g) → Q (.ref r) H'
theorem scBest : FnScope ["self", "group", "found", "index", "bad", "good", "count"] ["self", "group"] (defScope sPBest) := ⟨rfl, rfl, rfl, by decide +kernel, rfl, by decide +kernel, by decide +kernel⟩
theorem max_nat (a b : Nat) : (1 : Int) + (if (b : Int) > (a : Int) then (b : Int) else (a : Int)) = ((1 + max a b : Nat) : Int) := by
  split <;> omega
theorem ok_best_step {C : Addr} {N : Nat} {f : Addr} {fd : FuncData} (B : Bt mg) (T : Pl K mg C) (F : DefAt K "best" "Planner.best" sPBest f fd) (G1 : Mt P w K mg base 2 C "splits" ["self", "group"] (spSplits C)) (G2 : Mt P w K mg base (3 + N) C "best" ["self", "group"] (spBest C N)) : FnOk P w K mg base CX0 (3 + N + 1) f fd ["self", "group"] (spBest C (N + 1)) := by
  refine FunD.ok F scBest (fun vs H Q E h => ?_) (fun cdv A outer s H vs Q E hr h => ?_)
  · obtain ⟨x, dx, ra, ka, ga, R, kvs, g, n0, rfl, _⟩ := h
    rfl
  · obtain ⟨x, dx, ra, ka, ga, R, kvs, g, n0, rfl, pl, kn, hn0, hg, hs, hz, hzR, k⟩ := h
    have nd := scBest.nd
    have sl := sizeLine_eq
    have hu1 : (A.deeper (envOfC "Planner.best" (defScope sPBest) s.heap.objs.size f cdv)).units + 1 < cLine := by
      have := hr.un
      omega
    refine ⟨_, PSs.nox (pss_cons (ps_if (pt_cmp (pc_dnotin hu1 (pv 1) (pe_fld (pv 0) rfl)))
      (pss_cons (ps_set (i := 2) nd rfl (Or.inl rfl) (pe_tup (pa_cons pe_int (pa_cons pe_non pa_nil))))
      (pss_cons (ps_if (pt_cmpR op_gt (pe_callB call_len (by rfl) B.len boot_len (pa_cons (pv 1) pa_nil)) pe_int (nomark _))
        (pss_one (ps_for PassesOwn.never rfl (pi_list (pe_mt T.cl G1 (hr.mono (by omega)) (pv 0) (pa_cons (pv 1) pa_nil))) (pg_tup (by rfl) (pgs_cons (pg_name (i := 3) nd rfl (Or.inl rfl)) (pgs_cons (pg_name (i := 4) nd rfl (Or.inl rfl)) (pgs_cons (pg_name (i := 5) nd rfl (Or.inl rfl)) pgs_nil))))
          (pss_cons (ps_set (i := 6) nd rfl (Or.inl rfl) (pe_op op_add pe_int (pe_callB (call_max2 rfl) (by rfl) B.max (by decide +kernel) (pa_cons (pe_ix ix_tup (pe_mt T.cl G2 hr (pv 0) (pa_cons (pv 4) pa_nil)) pe_int (fun _ _ => rfl)) (pa_cons (pe_ix ix_tup (pe_mt T.cl G2 hr (pv 0) (pa_cons (pv 5) pa_nil)) pe_int (fun _ _ => rfl)) pa_nil)))))
          (pss_one (ps_if (PW.pt (pw_or (pt_cmpR op_isN (pe_ix ix_tup (pv 2) pe_int (fun _ _ => rfl)) pe_non (nomark _)) (pw_or1 (pt_cmpR op_lt (pv 6) (pe_ix ix_tup (pv 2) pe_int (fun _ _ => rfl)) (nomark _)))))
            (pss_one (ps_set (i := 2) nd rfl (Or.inl rfl) (pe_tup (pa_cons (pv 6) (pa_cons (pv 3) pa_nil))))) pss_nil))))) pss_nil)
      (pss_one (ps_dput hu1 (pe_fld (pv 0) rfl) (pv 1) (pv 2) rfl)))) pss_nil)
      (pss_one (ps_ret (pe_dget hu1 (pe_fld (pv 0) rfl) (pv 1) (fun _ _ => rfl))))), ?_⟩
    have hg' : H ga = some (.tup ((keyOf g).map kV)) := by rw [← key_map]; exact hg
    refine ⟨_, rfl, _, rfl, x, C, dx, _, _, rfl, pl.ins, T.cl, T.nK, rfl, ka, _, rfl, DGet.t pl.known hg', _, rfl, iB (fun h1 => ?_) (fun h1 => ?_)⟩
    · refine ⟨by show 2 ≤ sizeLine; omega, fun f0 nf0 => ?_⟩
      have s1 : Same H (upd H f0 (.tup [.int 0, .non])) := same_new nf0
      have b0 : BestAt (upd H f0 (.tup [.int 0, .non])) f0 (0, none) := upd_same
      generalize upd H f0 (.tup [.int 0, .non]) = H1 at s1 b0
      -- what is to hold behind the choice
      have done : ∀ (fr : Addr) (c3 c4 c5 c6 : Option V) (H' : Hp) (kvs' : List (List Key × V)), Kp ka H H' → Tk H H' → PlAt H' C x dx ra ka R kvs' → KnOk H' R n0 kvs' → BestAt H' fr (best R g) →
          sDPut (tFld K (tVar 0) "known") (tVar 1) (tVar 2) { nx := tRet (tDGet (tFld K (tVar 0) "known") (tVar 1)) { nx := fun _ H' => Q .non H', rt := Q }, rt := Q } [some (.ref x), some (.ref ga), some (.ref fr), c3, c4, c5, c6] H' := by
        intro fr c3 c4 c5 c6 H' kvs' kp tk pl' kn' hb
        have hg'' : H' ga = some (.tup ((keyOf g).map kV)) := tk _ _ hg'
        have hl' := kn'.len hn0
        have tkU : Tk H' (upd H' ka (.dT (putK kvs' (keyOf g) (.ref fr)))) := Tk.put pl'.known fun _ z => nomatch z
        have nxk : x ≠ ka := ne_of pl'.ins pl'.known fun z => nomatch z
        have kp2 : Kp ka H' (upd H' ka (.dT (putK kvs' (keyOf g) (.ref fr)))) := Kp.upd
        have pl2 : PlAt (upd H' ka (.dT (putK kvs' (keyOf g) (.ref fr)))) C x dx ra ka R (putK kvs' (keyOf g) (.ref fr)) := by
          obtain ⟨rv, hrv, hrp⟩ := pl'.rows
          refine ⟨kp2 _ _ nxk pl'.ins, ⟨rv, kp2 _ _ (ne_of hrv pl'.known fun z => nomatch z) hrv, Paired.mapP hrp fun v ks ⟨a, e, q⟩ => ⟨a, e, kp2 _ _ (ne_of q pl'.known fun z => nomatch z) q⟩⟩, upd_same⟩
        refine ⟨_, rfl, _, rfl, x, C, dx, _, _, rfl, pl'.ins, T.cl, T.nK, rfl, _, rfl, ka, _, rfl, DPut.t pl'.known hg'' (by omega), ?_⟩
        refine ⟨_, rfl, x, C, dx, _, _, rfl, pl2.ins, T.cl, T.nK, rfl, _, rfl, ka, _, rfl, ?_, k fr _ _ (kp.trans kp2) (tk.trans tkU) pl2 ((kn'.tk tkU).put hs (tkU _ _ hb)) (tkU _ _ hb)⟩
        have := DGet.t (H := upd H' ka (.dT (putK kvs' (keyOf g) (.ref fr)))) (k := keyOf g) pl2.known (tkU _ _ hg'')
        rw [valV_put, if_pos rfl] at this
        exact this
      have pl1 := pl.same s1
      have kn1 := kn.tk (Tk.of_same s1)
      refine ⟨_, rfl, _, _, rfl, .inr ⟨_, SqT.of (s1 _ _ hg), rfl⟩, _, _, rfl, rfl, _, rfl, ?_⟩
      have lg : (g.map iv).length = g.length := List.length_map _
      refine iB (fun h2 => ?_) (fun h2 => ?_)
      · have h2 := of_decide_eq_true h2
        have g2 : ¬ g.length ≤ 1 := by omega
        have g9 : g.length ≤ 9 := by
          have := hs.length_le
          rw [List.length_range] at this
          omega
        refine ⟨_, rfl, x, dx, _, rfl, pl1.ins, lk_none (by decide +kernel) (by decide +kernel), _, rfl, x, dx, ra, ka, ga, R, kvs, g, rfl, pl1, s1 _ _ hg, by omega, hzR, fun so sv H2 s2 nso hso hsp => ?_⟩
        have S2 := s1.trans s2
        refine ⟨so, rfl, ⟨_, SqL.of hso⟩, for_list (K := K) (a := so) (xs := sv)
          (fun j σ H' => ∃ fr c3 c4 c5 c6 kvs', σ = [some (.ref x), some (.ref ga), some (.ref fr), c3, c4, c5, c6] ∧ Kp ka H2 H' ∧ Tk H2 H' ∧ PlAt H' C x dx ra ka R kvs' ∧ KnOk H' R n0 kvs' ∧ BestAt H' fr (((splitsOf R g).take j).foldl (pickB (best R)) (0, none)))
          ⟨f0, none, none, none, none, kvs, rfl, Kp.refl, Tk.refl _, pl1.same s2, kn1.tk (Tk.of_same s2), s2 _ _ b0⟩ (fun j σ H' _ ⟨_, _, _, _, _, kvs', _, kp, _, pl', _⟩ => SqL.of (kp _ _ (ne_of hso ((pl1.same s2).known) fun z => nomatch z) hso)) ?_ ?_⟩
        · rintro j v σ H3 hj ⟨fr, c3, c4, c5, c6, kvs3, rfl, kp3, tk3, pl3, kn3, b3⟩
          obtain ⟨t, ht, hst⟩ := pget hsp hj
          have hmt := List.mem_of_getElem? ht
          obtain ⟨et, hti, htb, htc, htb2, htc2⟩ := mem_splits hmt
          obtain ⟨r, ba, ca, rfl, hr3, hba, hca⟩ := hst.tk tk3
          have sb : t.2.1.Sublist (List.range n0) := by
            rw [et]
            exact (side_sub _ _).trans hs
          have sc : t.2.2.Sublist (List.range n0) := by
            rw [et]
            exact (rest_sub _ _).trans hs
          refine ⟨r, _, rfl, SqT.of hr3, rfl, _, _, rfl, _, _, rfl, _, _, rfl, rfl, ?_⟩
          refine ⟨_, rfl, x, dx, _, rfl, pl3.ins, lk_none (by decide +kernel) (by decide +kernel), _, rfl, x, dx, ra, ka, ba, R, kvs3, t.2.1, n0, rfl, pl3, kn3, hn0, hba, sb, by omega, hzR, fun r4 H4 kvs4 kp4 tk4 pl4 kn4 b4 => ?_⟩
          refine ⟨_, _, _, _, rfl, rfl, SqT.of b4, atI_nat (j := 0) rfl, ?_⟩
          refine ⟨_, rfl, x, dx, _, rfl, pl4.ins, lk_none (by decide +kernel) (by decide +kernel), _, rfl, x, dx, ra, ka, ca, R, kvs4, t.2.2, n0, rfl, pl4, kn4, hn0, tk4 _ _ hca, sc, by omega, hzR, fun r5 H5 kvs5 kp5 tk5 pl5 kn5 b5 => ?_⟩
          refine ⟨_, _, _, _, rfl, rfl, SqT.of b5, atI_nat (j := 0) rfl, ?_⟩
          refine ⟨_, _, rfl, _, _, rfl, rfl, ?_⟩
          have S5 : Tk H3 H5 := tk4.trans tk5
          have b3' := S5 _ _ b3
          have est : ((splitsOf R g).take (j + 1)).foldl (pickB (best R)) (0, none) = pickB (best R) (((splitsOf R g).take j).foldl (pickB (best R)) (0, none)) t := by
            rw [take_succ_get ht, List.foldl_append]
            rfl
          generalize ((splitsOf R g).take j).foldl (pickB (best R)) (0, none) = q at b3 b3' est
          have emax := max_nat (best R t.2.1).1 (best R t.2.2).1
          have yes : (q.2 = none ∨ 1 + max (best R t.2.1).1 (best R t.2.2).1 < q.1) → ∀ fr2, H5 fr2 = none → ∃ fr c3 c4 c5 c6 kvs', ([some (.ref x), some (.ref ga), some (.ref fr2), some (iv t.1), some (.ref ba), some (.ref ca), some (.int ((1 : Int) + (if (((best R t.2.2).1 : Nat) : Int) > (((best R t.2.1).1 : Nat) : Int) then (((best R t.2.2).1 : Nat) : Int) else (((best R t.2.1).1 : Nat) : Int))))] : L2.St) = [some (.ref x), some (.ref ga), some (.ref fr), c3, c4, c5, c6] ∧ Kp ka H2 (upd H5 fr2 (.tup [.int ((1 : Int) + (if (((best R t.2.2).1 : Nat) : Int) > (((best R t.2.1).1 : Nat) : Int) then (((best R t.2.2).1 : Nat) : Int) else (((best R t.2.1).1 : Nat) : Int))), iv t.1])) ∧ Tk H2 (upd H5 fr2 (.tup [.int ((1 : Int) + (if (((best R t.2.2).1 : Nat) : Int) > (((best R t.2.1).1 : Nat) : Int) then (((best R t.2.2).1 : Nat) : Int) else (((best R t.2.1).1 : Nat) : Int))), iv t.1])) ∧
              PlAt (upd H5 fr2 (.tup [.int ((1 : Int) + (if (((best R t.2.2).1 : Nat) : Int) > (((best R t.2.1).1 : Nat) : Int) then (((best R t.2.2).1 : Nat) : Int) else (((best R t.2.1).1 : Nat) : Int))), iv t.1])) C x dx ra ka R kvs' ∧ KnOk (upd H5 fr2 (.tup [.int ((1 : Int) + (if (((best R t.2.2).1 : Nat) : Int) > (((best R t.2.1).1 : Nat) : Int) then (((best R t.2.2).1 : Nat) : Int) else (((best R t.2.1).1 : Nat) : Int))), iv t.1])) R n0 kvs' ∧ BestAt (upd H5 fr2 (.tup [.int ((1 : Int) + (if (((best R t.2.2).1 : Nat) : Int) > (((best R t.2.1).1 : Nat) : Int) then (((best R t.2.2).1 : Nat) : Int) else (((best R t.2.1).1 : Nat) : Int))), iv t.1])) fr (((splitsOf R g).take (j + 1)).foldl (pickB (best R)) (0, none)) := fun hq fr2 nf => by
            have s6 := same_new (o := .tup [.int ((1 : Int) + (if (((best R t.2.2).1 : Nat) : Int) > (((best R t.2.1).1 : Nat) : Int) then (((best R t.2.2).1 : Nat) : Int) else (((best R t.2.1).1 : Nat) : Int))), iv t.1]) nf
            refine ⟨fr2, _, _, _, _, kvs5, rfl, ((kp3.trans kp4).trans kp5).trans (Kp.of s6), (tk3.trans S5).trans (Tk.of_same s6), pl5.same s6, kn5.tk (Tk.of_same s6), ?_⟩
            rw [est]
            unfold pickB
            rw [if_pos hq, emax]
            exact upd_same
          refine ⟨_, rfl, _, _, _, _, rfl, rfl, SqT.of b3', atI_nat (j := 1) rfl, rfl, _, rfl, iB (fun h1 => ?_) (fun h1 => ?_)⟩
          · have hq : q.2 = none := by
              have := of_decide_eq_true h1
              cases e : q.2 with
              | none => rfl
              | some i =>
                rw [e] at this
                cases this
            exact iT rfl ⟨_, rfl, _, rfl, by show 2 ≤ sizeLine; omega, fun fr2 nf => yes (.inl hq) fr2 nf⟩
          · refine ⟨_, rfl, _, rfl, _, _, _, _, rfl, rfl, SqT.of b3', atI_nat (j := 0) rfl, _, _, rfl, rfl, _, rfl, iB (fun h2 => ?_) (fun h2 => ?_)⟩
            · have h2 : ((1 : Int) + (if (((best R t.2.2).1 : Nat) : Int) > (((best R t.2.1).1 : Nat) : Int) then (((best R t.2.2).1 : Nat) : Int) else (((best R t.2.1).1 : Nat) : Int))) < ((q.1 : Nat) : Int) := of_decide_eq_true h2
              rw [emax] at h2
              exact ⟨_, rfl, _, rfl, by show 2 ≤ sizeLine; omega, fun fr2 nf => yes (.inr (by omega)) fr2 nf⟩
            · have h2 : ¬ ((1 : Int) + (if (((best R t.2.2).1 : Nat) : Int) > (((best R t.2.1).1 : Nat) : Int) then (((best R t.2.2).1 : Nat) : Int) else (((best R t.2.1).1 : Nat) : Int))) < ((q.1 : Nat) : Int) := of_decide_eq_false h2
              rw [emax] at h2
              have hq : ¬ (q.2 = none ∨ 1 + max (best R t.2.1).1 (best R t.2.2).1 < q.1) := by
                rintro (z | z)
                · rw [z] at h1
                  cases h1
                · omega
              refine ⟨fr, _, _, _, _, kvs5, rfl, (kp3.trans kp4).trans kp5, tk3.trans S5, pl5, kn5, ?_⟩
              rw [est]
              unfold pickB
              rw [if_neg hq]
              exact b3'
        · rintro σ H3 ⟨fr, c3, c4, c5, c6, kvs3, rfl, kp3, tk3, pl3, kn3, b3⟩
          rw [Paired.length hsp, List.take_length] at b3
          exact done fr c3 c4 c5 c6 H3 kvs3 ((Kp.of S2).trans kp3) ((Tk.of_same S2).trans tk3) pl3 kn3 (by rw [best_eq, if_neg g2]; exact b3)
      · have h2 := of_decide_eq_false h2
        exact done f0 none none none none H1 kvs (Kp.of s1) (Tk.of_same s1) pl1 kn1 (by rw [best_eq, if_pos (by omega)]; exact b0)
    · have e : ∃ v, valV kvs (keyOf g) = some v := by
        cases c : valV kvs (keyOf g) with
        | none =>
          rw [c] at h1
          cases h1
        | some v => exact ⟨v, rfl⟩
      obtain ⟨v, e⟩ := e
      obtain ⟨r, rfl, hb⟩ := kn.val g v e
      refine ⟨_, rfl, x, C, dx, _, _, rfl, pl.ins, T.cl, T.nK, rfl, _, rfl, ka, _, rfl, ?_, k r H kvs Kp.refl (Tk.refl _) pl kn hb⟩
      have := DGet.t (H := H) (k := keyOf g) pl.known hg'
      rwa [e] at this
end
end K97
set_option Elab.async false
set_option linter.all false
set_option maxRecDepth 100000
set_option maxHeartbeats 4000000
/-! best by groups' sizes; plan_for, depth, plan. -/
namespace K97
open PySem PySem.Spec PyProof.Rows L2
inductive Tr where
  | leaf (g : List Nat)
  | node (i : Nat) (a b : Tr)
def planF (R : List (List Nat)) : Nat → List Nat → Tr
  | 0, g => .leaf g
  | n + 1, g => match (best R g).2 with
    | none => .leaf g
    | some i => .node i (planF R n (sideOf g (R.getD i []))) (planF R n (restOf g (R.getD i [])))
def dep : Tr → Nat
  | .leaf _ => 0
  | .node _ a b => 1 + max (dep a) (dep b)
def hgt : Tr → Nat
  | .leaf _ => 0
  | .node _ a b => 1 + max (hgt a) (hgt b)
def TrAt (cv : List V) (H : Hp) (v : V) : Tr → Prop
  | .leaf g => ∃ t l, v = .ref t ∧ H t = some (.tup [.str "found", .ref l]) ∧ H l = some (.lst (g.map fun k => cv.getD k .non))
  | .node i a b => ∃ t va vb, v = .ref t ∧ H t = some (.tup [.str "test", iv i, va, vb]) ∧ TrAt cv H va a ∧ TrAt cv H vb b
theorem TrAt.kp {cv : List V} {H H' : Hp} {ka : Addr} {o : HO} (k : Kp ka H H') (t : Tk H H') (hk : H ka = some o) (no : ∀ xs, o ≠ .lst xs) : ∀ {tr : Tr} {v : V}, TrAt cv H v tr → TrAt cv H' v tr
  | .leaf g, v, ⟨a, l, e, h1, h2⟩ => ⟨a, l, e, t _ _ h1, k _ _ (ne_of h2 hk fun z => no _ z.symm) h2⟩
  | .node i a b, v, ⟨x, va, vb, e, h1, h2, h3⟩ => ⟨x, va, vb, e, t _ _ h1, TrAt.kp k t hk no h2, TrAt.kp k t hk no h3⟩
theorem TrAt.same {cv : List V} {H H' : Hp} (s : Same H H') : ∀ {tr : Tr} {v : V}, TrAt cv H v tr → TrAt cv H' v tr
  | .leaf g, v, ⟨a, l, e, h1, h2⟩ => ⟨a, l, e, s _ _ h1, s _ _ h2⟩
  | .node i a b, v, ⟨x, va, vb, e, h1, h2, h3⟩ => ⟨x, va, vb, e, s _ _ h1, TrAt.same s h2, TrAt.same s h3⟩
/-- what best names is a split -/
theorem fold_some {R : List (List Nat)} {f : List Nat → Nat × Option Nat} : ∀ {l : List (Nat × List Nat × List Nat)} {acc : Nat × Option Nat} {i : Nat}, (l.foldl (pickB f) acc).2 = some i → acc.2 = some i ∨ ∃ t ∈ l, t.1 = i
  | [], acc, i, h => .inl h
  | t :: l, acc, i, h => by
    rw [List.foldl_cons] at h
    rcases fold_some (R := R) h with q | ⟨u, hu, e⟩
    · unfold pickB at q
      split at q
      · injection q with q
        exact .inr ⟨t, List.mem_cons_self, q⟩
      · exact .inl q
    · exact .inr ⟨u, List.mem_cons_of_mem _ hu, e⟩
theorem best_some {R : List (List Nat)} {g : List Nat} {i : Nat} (h : (best R g).2 = some i) : i < R.length ∧ (sideOf g (R.getD i [])).length < g.length ∧ (restOf g (R.getD i [])).length < g.length ∧ 0 < (sideOf g (R.getD i [])).length ∧ 0 < (restOf g (R.getD i [])).length := by
  rw [best_eq] at h
  split at h
  · cases h
  · rcases fold_some (R := R) h with q | ⟨t, ht, rfl⟩
    · cases q
    · obtain ⟨e, a, b, c, d, f⟩ := mem_splits ht
      rw [e] at b c d f
      exact ⟨a, d, f, b, c⟩
theorem rg_iv (m : Nat) : rgV 0 (m : Int) = (List.range m).map iv := by
  unfold rgV
  have e : ((m : Int) - 0).toNat = m := by omega
  rw [e]
  refine List.map_congr_left fun i _ => ?_
  rw [Int.zero_add]
  rfl
section
variable {P : Program} {w : World} {K : PySem.W.Frag} {mg : Str → Option Value} {base : Heap}
theorem mt_best {C : Addr} {f : Addr} {fd : FuncData} (B : Bt mg) (T : Pl K mg C) (F : DefAt K "best" "Planner.best" sPBest f fd) (hb : Binds K fd ["self", "group"] []) (hm : Meth K C "best" f) (G1 : Mt P w K mg base 2 C "splits" ["self", "group"] (spSplits C)) : ∀ N, Mt P w K mg base (3 + N) C "best" ["self", "group"] (spBest C N)
  | 0 => ⟨f, fd, ⟨fun vs H Q E h => by
      obtain ⟨x, dx, ra, ka, ga, R, kvs, g, n0, rfl, _⟩ := h
      rfl, fun A outer s H args us vs Q E hr e hbi hv h => by
      obtain ⟨x, dx, ra, ka, ga, R, kvs, g, n0, _, _, _, _, _, _, hz, _⟩ := h
      exact absurd hz (Nat.not_lt_zero _)⟩, hb, hm⟩
  | N + 1 => ⟨f, fd, ok_best_step B T F G1 (mt_best B T F hb hm G1 N), hb, hm⟩
def spPlanFor (C : Addr) (N : Nat) : Sp := fun vs H Q _ => ∃ (x dx ra ka ca ga : Addr) (R : List (List Nat)) (kvs : List (List Key × V)) (g : List Nat) (n0 : Nat) (cv : List V), vs = [.ref x, .ref ca, .ref ga] ∧ PlAt H C x dx ra ka R kvs ∧ KnOk H R n0 kvs ∧ n0 ≤ 9 ∧ H ca = some (.lst cv) ∧ n0 ≤ cv.length ∧ LT H ga g ∧ g.Sublist (List.range n0) ∧ g.length < N ∧ R.length ≤ 1000 ∧
  ∀ v H' kvs', Kp ka H H' → Tk H H' → PlAt H' C x dx ra ka R kvs' → KnOk H' R n0 kvs' → TrAt cv H' v (planF R N g) → Q v H'
theorem scPlanFor : FnScope ["planner", "causes", "group", "index", "bad", "good", "k"] ["planner", "causes", "group"] (defScope sPlanFor) := ⟨rfl, rfl, rfl, by decide +kernel, rfl, by decide +kernel, by decide +kernel⟩
theorem ok_plan_for_step {C : Addr} {N : Nat} {f : Addr} {fd : FuncData} (B : Bt mg) (T : Pl K mg C) (F : DefAt K "plan_for" "plan_for" sPlanFor f fd) (G1 : Mt P w K mg base (4 + N) C "best" ["self", "group"] (spBest C (N + 1))) (G2 : Mt P w K mg base 1 C "sides" ["self", "group", "index"] (spSides C)) (G3 : Df P w K mg base (4 + N) "plan_for" ["planner", "causes", "group"] (spPlanFor C N)) :
    FnOk P w K mg base CX0 (4 + N + 1) f fd ["planner", "causes", "group"] (spPlanFor C (N + 1)) := by
  refine FunD.ok F scPlanFor (fun vs H Q E h => ?_) (fun cdv A outer s H vs Q E hr h => ?_)
  · obtain ⟨x, dx, ra, ka, ca, ga, R, kvs, g, n0, cv, rfl, _⟩ := h
    rfl
  · obtain ⟨x, dx, ra, ka, ca, ga, R, kvs, g, n0, cv, rfl, pl, kn, hn0, hca, hnc, hg, hs, hz, hzR, k⟩ := h
    have nd := scPlanFor.nd
    have sl := sizeLine_eq
    refine ⟨_, PSs.nox (pss_cons (ps_set (i := 3) nd rfl (Or.inl rfl) (pe_ix ix_tup (pe_mt T.cl G1 hr (pv 0) (pa_cons (pv 2) pa_nil)) pe_int (fun _ _ => rfl)))
      (pss_cons (ps_if (pt_cmpR op_isN (pv 3) pe_non (nomark _)) (pss_one (ps_ret (pe_tup (pa_cons pe_str (pa_cons (pe_lc (own := [("k", 6)]) (g := gName 6) (tt := tYes) rfl nd (pi_tup (pv 2))
          (blkOk_by (own := [("k", 6)]) (N := ["planner", "causes", "group", "index", "bad", "good", "k"]) (sc := defScope sPlanFor) (by decide +kernel)) (fun _ _ _ _ _ => pg_name (i := 6) nd rfl (Or.inl rfl))
          (fun _ _ _ _ _ => pts_nil) (fun _ _ _ _ _ => pe_ix (ixKL K rfl) (pv 1) (pv 6) (fun _ _ => rfl))) pa_nil))))) pss_nil)
      (pss_cons (ps_asg (pe_mt T.cl G2 (hr.mono (by omega)) (pv 0) (pa_cons (pv 2) (pa_cons (pv 3) pa_nil))) (pg_tup (by rfl) (pgs_cons (pg_name (i := 4) nd rfl (Or.inl rfl)) (pgs_cons (pg_name (i := 5) nd rfl (Or.inl rfl)) pgs_nil))))
      (pss_one (ps_ret (pe_tup (pa_cons pe_str (pa_cons (pv 3) (pa_cons (pe_df G3 hr (by rfl) (pa_cons (pv 0) (pa_cons (pv 1) (pa_cons (pv 4) pa_nil)))) (pa_cons (pe_df G3 hr (by rfl) (pa_cons (pv 0) (pa_cons (pv 1) (pa_cons (pv 5) pa_nil)))) pa_nil)))))))))), ?_⟩
    refine ⟨_, rfl, x, dx, _, rfl, pl.ins, lk_none (by decide +kernel) (by decide +kernel), _, rfl, x, dx, ra, ka, ga, R, kvs, g, n0, rfl, pl, kn, hn0, hg, hs, hz, hzR, fun r H1 kvs1 kp1 tk1 pl1 kn1 b1 => ?_⟩
    refine ⟨_, _, _, _, rfl, rfl, SqT.of b1, atI_nat (j := 1) rfl, ?_⟩
    have hg1 : LT H1 ga g := tk1 _ _ hg
    have hca1 : H1 ca = some (.lst cv) := kp1 _ _ (ne_of hca pl.known fun z => nomatch z) hca
    have g9 : g.length ≤ 9 := by
      have := hs.length_le
      rw [List.length_range] at this
      omega
    refine ⟨_, rfl, rfl, _, rfl, ?_⟩
    cases eb : (best R g).2 with
    | none =>
      refine iT (decide_eq_true rfl) ?_
      refine ⟨_, rfl, ga, rfl, ⟨_, SqT.of hg1⟩, fun D nD => lc_accT (xs := g.map iv) nD (RelF g (fun _ => true) (fun k => cv.getD k .non)) RelF.mono RelF.zero (by rw [List.length_map]; omega) (fun H' s' => SqT.of (s' _ _ hg1)) ?_ ?_⟩
      · rintro i y H2 acc C2 N2 hi he s2 hD hl r2 hC hN
        obtain ⟨q, hq, rfl⟩ : ∃ q, g[i]? = some q ∧ y = iv q := by
          have he : (g.map iv)[i]? = some y := he
          rw [List.getElem?_map] at he
          cases e : g[i]? with
          | none => rw [e] at he; cases he
          | some q =>
            rw [e] at he
            cases he
            exact ⟨q, rfl, rfl⟩
        have hqn : q < cv.length := by
          have := hs.subset (List.mem_of_getElem? hq)
          rw [List.mem_range] at this
          omega
        refine ⟨rfl, ?_⟩
        refine ⟨_, rfl, _, rfl, _, _, _, _, rfl, rfl, SqL.of (s2 _ _ hca1), atI_nat (List.getElem?_eq_getElem hqn), hC _ _ (Same.refl _) (r2.yes hq rfl ?_)⟩
        simp [List.getD, hqn]
      · intro H2 acc s2 hD hl r2
        have e1 := r2.all (by rw [List.length_map])
        rw [List.filter_eq_self.mpr fun _ _ => rfl] at e1
        refine ⟨by show 2 ≤ sizeLine; omega, fun t nt => ?_⟩
        have s3 := same_new (o := .tup [.str "found", .ref D]) nt
        have S3 := s2.trans s3
        refine k _ _ kvs1 (kp1.trans (Kp.of S3)) (tk1.trans (Tk.of_same S3)) (pl1.same S3) (kn1.tk (Tk.of_same S3)) ?_
        unfold planF
        rw [eb]
        refine ⟨t, D, rfl, upd_same, s3 _ _ ?_⟩
        rw [hD, e1]
    | some i =>
      refine iF (decide_eq_false fun z => nomatch z) ?_
      obtain ⟨hi, hl1, hl2, hp1, hp2⟩ := best_some eb
      have hrow : R[i]? = some (R.getD i []) := by simp [List.getD, hi]
      refine ⟨_, rfl, x, dx, _, rfl, pl1.ins, lk_none (by decide +kernel) (by decide +kernel), _, rfl, _, rfl, x, dx, ra, ka, ga, R, kvs1, g, _, _, i, rfl, rfl, pl1, hg1, hrow, by omega, fun r b c H2 s2 hr2 hb hc => ?_⟩
      refine ⟨r, _, rfl, SqT.of hr2, rfl, _, _, rfl, _, _, rfl, rfl, ?_⟩
      have hca2 := s2 _ _ hca1
      refine ⟨_, rfl, _, rfl, _, rfl, _, rfl, x, dx, ra, ka, ca, b, R, kvs1, _, n0, cv, rfl, pl1.same s2, kn1.tk (Tk.of_same s2), hn0, hca2, hnc, hb, (side_sub _ _).trans hs, by omega, hzR, fun v3 H3 kvs3 kp3 tk3 pl3 kn3 t3 => ?_⟩
      have hca3 : H3 ca = some (.lst cv) := kp3 _ _ (ne_of hca2 (pl1.same s2).known fun z => nomatch z) hca2
      refine ⟨_, rfl, _, rfl, _, rfl, x, dx, ra, ka, ca, c, R, kvs3, _, n0, cv, rfl, pl3, kn3, hn0, hca3, hnc, tk3 _ _ hc, (rest_sub _ _).trans hs, by omega, hzR, fun v4 H4 kvs4 kp4 tk4 pl4 kn4 t4 => ?_⟩
      refine ⟨by show 4 ≤ sizeLine; omega, fun t nt => ?_⟩
      have s5 := same_new (o := .tup [.str "test", iv i, v3, v4]) nt
      refine k _ _ kvs4 ((((kp1.trans (Kp.of s2)).trans kp3).trans kp4).trans (Kp.of s5)) ((((tk1.trans (Tk.of_same s2)).trans tk3).trans tk4).trans (Tk.of_same s5)) (pl4.same s5) (kn4.tk (Tk.of_same s5)) ?_
      unfold planF
      rw [eb]
      exact ⟨t, v3, v4, rfl, upd_same, (t3.kp kp4 tk4 pl3.known fun _ z => nomatch z).same s5, t4.same s5⟩
theorem df_plan_for {C : Addr} {f : Addr} {fd : FuncData} (B : Bt mg) (T : Pl K mg C) (F : DefAt K "plan_for" "plan_for" sPlanFor f fd) (hb : Binds K fd ["planner", "causes", "group"] []) (hk : PySem.W.keepIn K (.ref f) = true) (hm : mg "plan_for" = some (.ref f)) (G1 : ∀ N, Mt P w K mg base (3 + N) C "best" ["self", "group"] (spBest C N)) (G2 : Mt P w K mg base 1 C "sides" ["self", "group", "index"] (spSides C)) :
    ∀ N, Df P w K mg base (4 + N) "plan_for" ["planner", "causes", "group"] (spPlanFor C N)
  | 0 => ⟨f, fd, ⟨fun vs H Q E h => by
      obtain ⟨x, dx, ra, ka, ca, ga, R, kvs, g, n0, cv, rfl, _⟩ := h
      rfl, fun A outer s H args us vs Q E hr e hbi hv h => by
      obtain ⟨x, dx, ra, ka, ca, ga, R, kvs, g, n0, cv, _, _, _, _, _, _, _, _, hz, _⟩ := h
      exact absurd hz (Nat.not_lt_zero _)⟩, hb, hk, hm⟩
  | N + 1 => ⟨f, fd, ok_plan_for_step B T F ((G1 (N + 1)).mono (by omega)) G2 (df_plan_for B T F hb hk hm G1 G2 N), hb, hk, hm⟩
def spDepth (N : Nat) : Sp := fun vs H Q _ => ∃ (v : V) (cv : List V) (tr : Tr), vs = [v] ∧ TrAt cv H v tr ∧ hgt tr < N ∧ Q (iv (dep tr)) H
theorem scDepth : FnScope ["tree"] ["tree"] (defScope sDepth) := ⟨rfl, rfl, rfl, by decide +kernel, rfl, by decide +kernel, by decide +kernel⟩
theorem ok_depth_step {N : Nat} {f : Addr} {fd : FuncData} (B : Bt mg) (F : DefAt K "depth" "depth" sDepth f fd) (G : Df P w K mg base N "depth" ["tree"] (spDepth N)) : FnOk P w K mg base CX0 (N + 1) f fd ["tree"] (spDepth (N + 1)) := by
  refine FunD.ok F scDepth (fun vs H Q E h => ?_) (fun cdv A outer s H vs Q E hr h => ?_)
  · obtain ⟨v, cv, tr, rfl, _⟩ := h
    rfl
  · obtain ⟨v, cv, tr, rfl, ht, hz, k⟩ := h
    have nd := scDepth.nd
    have sl := sizeLine_eq
    refine ⟨_, PSs.nox (pss_cons (ps_if (pt_cmpR op_eq (pe_ix ix_tup (pv 0) pe_int (fun _ _ => rfl)) pe_str (nomark _)) (pss_one (ps_ret pe_int)) pss_nil)
      (pss_one (ps_ret (pe_op op_add pe_int (pe_callB (call_max2 rfl) (by rfl) B.max (by decide +kernel) (pa_cons (pe_df G hr (by rfl) (pa_cons (pe_ix ix_tup (pv 0) pe_int (fun _ _ => rfl)) pa_nil)) (pa_cons (pe_df G hr (by rfl) (pa_cons (pe_ix ix_tup (pv 0) pe_int (fun _ _ => rfl)) pa_nil)) pa_nil))))))), ?_⟩
    cases tr with
    | leaf g =>
      obtain ⟨t, l, rfl, h1, h2⟩ := ht
      refine ⟨_, rfl, _, _, _, _, rfl, rfl, SqT.of h1, atI_nat (j := 0) rfl, rfl, _, rfl, ?_⟩
      rw [dec_str]
      exact iT (by decide +kernel) k
    | node i a b =>
      obtain ⟨t, va, vb, rfl, h1, h2, h3⟩ := ht
      have hz : 1 + max (hgt a) (hgt b) < N + 1 := hz
      refine ⟨_, rfl, _, _, _, _, rfl, rfl, SqT.of h1, atI_nat (j := 0) rfl, rfl, _, rfl, ?_⟩
      rw [dec_str]
      refine iF (by decide +kernel) ?_
      refine ⟨_, rfl, _, _, _, _, rfl, rfl, SqT.of h1, atI_nat (j := 2) rfl, va, cv, a, rfl, h2, by omega, ?_⟩
      refine ⟨_, rfl, _, _, _, _, rfl, rfl, SqT.of h1, atI_nat (j := 3) rfl, vb, cv, b, rfl, h3, by omega, ?_⟩
      refine ⟨_, _, rfl, _, _, rfl, rfl, ?_⟩
      have e : V.int (1 + (if ((dep b : Nat) : Int) > ((dep a : Nat) : Int) then ((dep b : Nat) : Int) else ((dep a : Nat) : Int))) = iv (dep (.node i a b)) := by
        rw [max_nat]
        rfl
      rw [← e] at k
      exact k
theorem df_depth {f : Addr} {fd : FuncData} (B : Bt mg) (F : DefAt K "depth" "depth" sDepth f fd) (hb : Binds K fd ["tree"] []) (hk : PySem.W.keepIn K (.ref f) = true) (hm : mg "depth" = some (.ref f)) : ∀ N, Df P w K mg base N "depth" ["tree"] (spDepth N)
  | 0 => ⟨f, fd, ⟨fun vs H Q E h => by
      obtain ⟨v, cv, tr, rfl, _⟩ := h
      rfl, fun A outer s H args us vs Q E hr e hbi hv h => by
      obtain ⟨v, cv, tr, _, _, hz, _⟩ := h
      exact absurd hz (Nat.not_lt_zero _)⟩, hb, hk, hm⟩
  | N + 1 => ⟨f, fd, ok_depth_step B F (df_depth B F hb hk hm N), hb, hk, hm⟩
/-- lists of lists of data, their values known -/
def LL {α : Type} (H : Hp) (enc : α → NestedKey) (l : Addr) (cv : List V) (xss : List (List α)) : Prop := H l = some (.lst cv) ∧ Paired (fun v xs => ∃ a, v = .ref a ∧ LE H enc a xs) cv xss
theorem LL.lle {α : Type} {H : Hp} {enc : α → NestedKey} {l : Addr} {cv : List V} {xss : List (List α)} (h : LL H enc l cv xss) : LLE H enc l xss := ⟨cv, h.1, h.2⟩
theorem LL.same {α : Type} {H H' : Hp} {enc : α → NestedKey} {l : Addr} {cv : List V} {xss : List (List α)} (s : Same H H') (h : LL H enc l cv xss) : LL H' enc l cv xss := ⟨s _ _ h.1, Paired.mapP h.2 fun _ _ ⟨a, e, q⟩ => ⟨a, e, q.same s⟩⟩
def planOf (tss css : List (List Id)) : Tr := planF (rowsOf tss css) 10 (List.range css.length)
def spPlan (L : Lab) : Sp := fun vs H Q _ => ∃ (ca ta : Addr) (cv : List V) (css tss : List (List Id)), vs = [.ref ca, .ref ta] ∧ LL H (idK L) ca cv css ∧ LLE H (idK L) ta tss ∧ css.length ≤ 9 ∧ (∀ c ∈ css, c.length ≤ 1000) ∧ tss.length ≤ 1000 ∧
  ∀ v H', Same H H' → TrAt cv H' v (planOf tss css) → Q v H'
theorem scPlan : FnScope ["causes", "tests", "planner"] ["causes", "tests"] (defScope sPlan) := ⟨rfl, rfl, rfl, by decide +kernel, rfl, by decide +kernel, by decide +kernel⟩
theorem ok_plan {L : Lab} {C fI : Addr} {fdI : FuncData} {f : Addr} {fd : FuncData} (B : Bt mg) (T : Pl K mg C) (F : DefAt K "plan" "plan" sPlan f fd) (MK : Mk K C fI) (GI : FnOk P w K mg base CX0 3 fI fdI ["self", "causes", "tests"] (spInit L C)) (bI : Binds K fdI ["self", "causes", "tests"] [])
    (G : Df P w K mg base 14 "plan_for" ["planner", "causes", "group"] (spPlanFor C 10)) : FnOk P w K mg base CX0 15 f fd ["causes", "tests"] (spPlan L) := by
  refine FunD.ok F scPlan (fun vs H Q E h => ?_) (fun cdv A outer s H vs Q E hr h => ?_)
  · obtain ⟨ca, ta, cv, css, tss, rfl, _⟩ := h
    rfl
  · obtain ⟨ca, ta, cv, css, tss, rfl, hc, ht, hz1, hz2, hz3, k⟩ := h
    have nd := scPlan.nd
    have sl := sizeLine_eq
    refine ⟨_, PSs.nox (pss_cons (ps_set (i := 2) nd rfl (Or.inl rfl) (pe_make MK GI (hr.mono (by decide)) (by rfl) T.mg bI .nil pass0 (pa_cons (pv 0) (pa_cons (pv 1) pa_nil))))
      (pss_one (ps_ret (pe_df G hr (by rfl) (pa_cons (pv 2) (pa_cons (pv 0) (pa_cons (pe_tupRg rfl (by rfl) B.tuple (prg_1 (by rfl) B.range (pe_callB call_len (by rfl) B.len boot_len (pa_cons (pv 0) pa_nil)))) pa_nil))))))), ?_⟩
    refine ⟨_, rfl, _, rfl, fun x dx nx ndx ne => ?_⟩
    have s1 : Same H (upd H dx (.own x)) := same_new ndx
    have nx1 : upd H dx (.own x) x = none := by rw [upd_ne ne.symm]; exact nx
    have s2 : Same H (upd (upd H dx (.own x)) x (.ins C dx [])) := s1.trans (same_new nx1)
    refine ⟨x, dx, ca, ta, css, tss, rfl, upd_same, hc.lle.same s2, ht.same s2, by omega, hz2, hz3, fun H3 ra ka kp nk pl => ⟨rfl, ?_⟩⟩
    have s3 : Same H H3 := kp.same s2 nx
    have cl : cv.length = css.length := Paired.length hc.2
    have hc3 := s3 _ _ hc.1
    have rl : (rowsOf tss css).length ≤ 1000 := by
      unfold rowsOf
      rw [List.length_map]
      exact hz3
    refine ⟨_, rfl, _, rfl, _, rfl, _, _, rfl, .inl ⟨_, SqL.of hc3, rfl⟩, _, rfl, RgOk.of_le (by omega) (by omega) (by omega) (by omega), fun ga nga => ?_⟩
    have s4 := same_new (o := .tup (rgV 0 ((cv.length : Nat) : Int))) nga
    have S4 := s3.trans s4
    have hga : LT (upd H3 ga (.tup (rgV 0 ((cv.length : Nat) : Int)))) ga (List.range css.length) := by
      show _ = some (HO.tup _)
      rw [upd_same, rg_iv, cl]
    have nk0 : H ka = none := none_of s2 nk
    refine ⟨x, dx, ra, ka, ca, ga, rowsOf tss css, [], List.range css.length, css.length, cv, rfl, pl.same s4, KnOk.nil, hz1, s4 _ _ hc3, by omega, hga, List.Sublist.refl _, by rw [List.length_range]; omega, rl, fun v H5 kvs5 kp5 tk5 pl5 kn5 t5 => ?_⟩
    exact k v H5 (kp5.same S4 nk0) t5
end
end K97
set_option Elab.async false
set_option linter.all false
set_option maxRecDepth 100000
set_option maxHeartbeats 4000000
/-! plan_right. -/
namespace K97
open PySem PySem.Spec PyProof.Rows L2
/-- no split: all the group's causes stand on one side of every test -/
theorem best_none {R : List (List Nat)} {g : List Nat} (h : (best R g).2 = none) : g.length ≤ 1 ∨ splitsOf R g = [] := by
  rw [best_eq] at h
  split at h
  · exact .inl (by assumption)
  · cases e : splitsOf R g with
    | nil => exact .inr rfl
    | cons t l =>
      rw [e, List.foldl_cons] at h
      have key : ∀ (l : List (Nat × List Nat × List Nat)) (acc : Nat × Option Nat), acc.2 ≠ none → (l.foldl (pickB (best R)) acc).2 ≠ none := by
        intro l
        induction l with
        | nil => exact fun acc h => h
        | cons t l ih =>
          intro acc h
          rw [List.foldl_cons]
          refine ih _ ?_
          unfold pickB
          split
          · exact fun z => nomatch z
          · exact h
      exact absurd h (key l _ (by
        unfold pickB
        rw [if_pos (.inl rfl)]
        exact fun z => nomatch z))
theorem one_side {R : List (List Nat)} {g : List Nat} (h : (best R g).2 = none) {i : Nat} (hi : i < R.length) : ∀ k ∈ g, ∀ k' ∈ g, k ∈ R.getD i [] ↔ k' ∈ R.getD i [] := by
  intro k hk k' hk'
  rcases best_none h with h | h
  · have : k = k' := by
      match g, h, hk, hk' with
      | [a], _, hk, hk' =>
        rw [List.mem_singleton] at hk hk'
        rw [hk, hk']
    rw [this]
  · have hn : splitsB R g i = false := by
      cases e : splitsB R g i with
      | false => rfl
      | true =>
        have : splitOf R g i ∈ splitsOf R g := List.mem_map.mpr ⟨i, List.mem_filter.mpr ⟨List.mem_range.mpr hi, e⟩, rfl⟩
        rw [h] at this
        cases this
    have key : ∀ k ∈ g, ∀ k' ∈ g, k ∈ R.getD i [] → k' ∉ R.getD i [] → False := fun k hk k' hk' h1 h2 => by
      have p1 : 0 < (sideOf g (R.getD i [])).length := List.length_pos_of_mem (List.mem_filter.mpr ⟨hk, decide_eq_true h1⟩)
      have p2 : 0 < (restOf g (R.getD i [])).length := List.length_pos_of_mem (List.mem_filter.mpr ⟨hk', by simpa using h2⟩)
      unfold splitsB at hn
      rw [decide_eq_true p1, decide_eq_true p2] at hn
      cases hn
    constructor
    · intro h1
      exact Classical.byContradiction fun h2 => key k hk k' hk' h1 h2
    · intro h1
      exact Classical.byContradiction fun h2 => key k' hk' k hk h1 h2
theorem rows_get {tss css : List (List Id)} {i : Nat} {ts : List Id} (h : tss[i]? = some ts) : (rowsOf tss css).getD i [] = marksOf ts css := by
  simp [rowsOf, List.getD, h]
theorem mem_marks {ts : List Id} {css : List (List Id)} {k : Nat} (hk : k < css.length) : k ∈ marksOf ts css ↔ bad ts (css.getD k []) = true := by
  unfold marksOf
  rw [List.mem_filter, List.mem_range]
  exact ⟨fun h => h.2, fun h => ⟨hk, h⟩⟩
def listD {α : Type} (enc : α → NestedKey) (xs : List α) : PyData := .list (xs.map fun x => (enc x).data)
theorem shaped_lists {α : Type} [DecidableEq α] {enc : α → NestedKey} (C : Code enc) (xss : List (List α)) : SeqAt.shaped (.list (xss.map (listD enc))) = true := by
  have h1 : ∀ xss : List (List α), PyData.depthAll (xss.map (listD enc)) ≤ 9 := by
    intro xss
    induction xss with
    | nil => simp [PyData.depthAll]
    | cons xs t ih =>
      have h2 := depthAll_le C.dep xs
      simp only [List.map_cons, PyData.depthAll, listD, PyData.depth]
      omega
  have h3 : ∀ xss : List (List α), PyData.canLayAll0 (xss.map (listD enc)) = true := by
    intro xss
    induction xss with
    | nil => simp [PyData.canLayAll0]
    | cons xs t ih => simp [PyData.canLayAll0, listD, PyData.canLay0, layAll C.lay xs, ih]
  have h4 : PyData.depth (.list (xss.map (listD enc))) ≤ 64 := by
    have := h1 xss
    simp only [PyData.depth]
    omega
  show (PyData.canLay0 (.list (xss.map (listD enc))) && decide (PyData.depth (.list (xss.map (listD enc))) ≤ 64)) = true
  rw [Bool.and_eq_true]
  exact ⟨by simp only [PyData.canLay0]; exact h3 xss, decide_eq_true h4⟩
theorem call_blenP {X : Cx} (P : Program) (w : World) (h1 : X.prog = P) (h2 : X.w = w) : CallR X (.builtin "len") (fun xs H Q => ∃ (d : Addr) (ks : List Bool), xs = [.ref d] ∧ BD P w H d ks ∧ Q (.int ks.length) H) := by
  subst h1 h2
  exact call_blen
theorem fills_bP {X : Cx} (P : Program) (w : World) (h1 : X.prog = P) (h2 : X.w = w) : Fills X (bNew P w) (bPut P w) := by
  subst h1 h2
  exact fills_b
theorem pi_listK {X : Cx} (K : PySem.W.Frag) {tg l : Expr} {tl : TE} (h : X.K = K) (he : PE X l tl) : PI X tg l (iList K tl) := h ▸ pi_list he
section
variable {P : Program} {w : World} {K : PySem.W.Frag} {mg : Str → Option Value} {base : Heap}
theorem scPlanRight : FnScope ["causes", "tests", "tree", "bad", "good", "cause", "part"] ["causes", "tests", "tree"] (defScope sPlanRight) := ⟨rfl, rfl, rfl, by decide +kernel, rfl, by decide +kernel, by decide +kernel⟩
theorem BD.same {H H' : Hp} {d : Addr} {ks : List Bool} (s : Same H H') (h : BD P w H d ks) : BD P w H' d ks := let ⟨a, vs, e, b, c⟩ := h; ⟨a, vs, s _ _ e, b, c⟩
theorem LL.at {α : Type} {H : Hp} {enc : α → NestedKey} {l : Addr} {cv : List V} {xss : List (List α)} (h : LL H enc l cv xss) {k : Nat} (hk : k < xss.length) : ∃ a, cv.getD k .non = .ref a ∧ LE H enc a (xss.getD k []) := by
  obtain ⟨v, hv, a, rfl, q⟩ := pgetr h.2 (List.getElem?_eq_getElem hk)
  refine ⟨a, by simp [List.getD, hv], ?_⟩
  have e : xss.getD k [] = xss[k] := by simp [List.getD, hk]
  rw [e]
  exact q
theorem map_get {α : Type} {g : List α} {f : α → V} {i : Nat} {y : V} (h : (g.map f)[i]? = some y) : ∃ q, g[i]? = some q ∧ y = f q := by
  rw [List.getElem?_map] at h
  cases e : g[i]? with
  | none =>
    rw [e] at h
    cases h
  | some q =>
    rw [e] at h
    cases h
    exact ⟨q, rfl, rfl⟩
theorem dp_grp {L : Lab} {H : Hp} {cv : List V} {css : List (List Id)} {ca : Addr} (h : LL H (idK L) ca cv css) : ∀ {g : List Nat}, (∀ k ∈ g, k < css.length) → DpAll K H (g.map fun k => cv.getD k .non) ((g.map fun k => css.getD k []).map (listD (idK L)))
  | [], _ => .nil
  | k :: g, hg => by
    obtain ⟨a, e, vs, h1, h2⟩ := h.at (hg k List.mem_cons_self)
    refine .cons ?_ (dp_grp h fun j hj => hg j (List.mem_cons_of_mem _ hj))
    show Dp K H (cv.getD k .non) (listD (idK L) (css.getD k []))
    rw [e]
    exact .lst (SqL.of h1) h2.dp
/-- the causes of a group -/
def grp (cv : List V) (g : List Nat) : List V := g.map fun k => cv.getD k .non
def spRight (L : Lab) (N : Nat) : Sp := fun vs H Q _ => ∃ (a ca ta : Addr) (v : V) (cv : List V) (css tss : List (List Id)) (g : List Nat) (n : Nat), vs = [.ref a, .ref ta, v] ∧ H a = some (.lst (grp cv g)) ∧ LL H (idK L) ca cv css ∧ LLE H (idK L) ta tss ∧ (∀ k ∈ g, k < css.length) ∧ g.length ≤ 1000 ∧ (∀ c ∈ css, c.length ≤ 1000) ∧ tss.length ≤ 1000 ∧
  g.length < N ∧ g.length < n ∧ TrAt cv H v (planF (rowsOf tss css) n g) ∧ ∀ H', Same H H' → Q (.bl true) H'
theorem ok_right_step {L : Lab} {N : Nat} {f : Addr} {fd : FuncData} (B : Bt mg) (F : DefAt K "plan_right" "plan_right" sPlanRight f fd) (G1 : Df P w K mg base (1 + N) "is_bad" ["part", "cause"] (spIsBad L)) (G2 : Df P w K mg base (1 + N) "plan_right" ["causes", "tests", "tree"] (spRight L N)) :
    FnOk P w K mg base CX0 (1 + N + 1) f fd ["causes", "tests", "tree"] (spRight L (N + 1)) := by
  refine FunD.ok F scPlanRight (fun vs H Q E h => ?_) (fun cdv A outer s H vs Q E hr h => ?_)
  · obtain ⟨a, ca, ta, v, cv, css, tss, g, n, rfl, _⟩ := h
    rfl
  · obtain ⟨a, ca, ta, v, cv, css, tss, g, n, rfl, ha, hc, ht, hg, hz0, hz1, hz2, hN, hn, htr, k⟩ := h
    have nd := scPlanRight.nd
    have hu := hr.units
    have sl := sizeLine_eq
    refine ⟨_, PSs.nox (pss_cons (ps_if (pt_cmpR op_eq (pe_ix ix_tup (pv 2) pe_int (fun _ _ => rfl)) pe_str (nomark _))
        (pss_cons (ps_if (pt_not (pt_chain op_le op_lt pe_int (pe_ix ix_tup (pv 2) pe_int (fun _ _ => rfl)) (pe_callB call_len (by rfl) B.len boot_len (pa_cons (pv 1) pa_nil)))) (pss_one (ps_ret pe_bl)) pss_nil)
        (pss_cons (ps_setLc (i := 3) (own := [("cause", 5)]) (g := gName 5) rfl nd rfl rfl (sw_true rfl rfl rfl (by decide +kernel)) (pi_list (pv 0))
            (blkOk_by (own := [("cause", 5)]) (N := ["causes", "tests", "tree", "bad", "good", "cause", "part"]) (sc := defScope sPlanRight) (by decide +kernel)) (fun _ _ _ _ _ => pg_name (i := 5) nd rfl (Or.inl rfl))
            (fun _ _ _ _ _ => pts_one (pt_val (pe_df G1 hr (by rfl) (pa_cons (pe_ix (ixKL K rfl) (pv 1) (pe_ix (ixK K rfl) (pv 2) pe_int (fun _ _ => rfl)) (fun _ _ => rfl)) (pa_cons (pv 5) pa_nil))))) (fun _ _ _ _ _ => pv 5))
        (pss_cons (ps_setLc (i := 4) (own := [("cause", 5)]) (g := gName 5) rfl nd rfl rfl (sw_true rfl rfl rfl (by decide +kernel)) (pi_list (pv 0))
            (blkOk_by (own := [("cause", 5)]) (N := ["causes", "tests", "tree", "bad", "good", "cause", "part"]) (sc := defScope sPlanRight) (by decide +kernel)) (fun _ _ _ _ _ => pg_name (i := 5) nd rfl (Or.inl rfl))
            (fun _ _ _ _ _ => pts_one (pt_not (pt_val (pe_df G1 hr (by rfl) (pa_cons (pe_ix (ixKL K rfl) (pv 1) (pe_ix (ixK K rfl) (pv 2) pe_int (fun _ _ => rfl)) (fun _ _ => rfl)) (pa_cons (pv 5) pa_nil)))))) (fun _ _ _ _ _ => pv 5))
        (pss_one (ps_ret (pe_and (pe_df G2 hr (by rfl) (pa_cons (pv 3) (pa_cons (pv 1) (pa_cons (pe_ix ix_tup (pv 2) pe_int (fun _ _ => rfl)) pa_nil)))) (pe_one (pe_df G2 hr (by rfl) (pa_cons (pv 4) (pa_cons (pv 1) (pa_cons (pe_ix ix_tup (pv 2) pe_int (fun _ _ => rfl)) pa_nil)))))))))))
        pss_nil)
      (pss_cons (ps_if (pt_cmpR (op_neD hu) (pe_ix ix_tup (pv 2) pe_int (fun _ _ => rfl)) (pv 0) (nomark _)) (pss_one (ps_ret pe_bl)) pss_nil)
      (pss_one (ps_ret (pe_cmpR op_eq (pe_callB call_len (by rfl) B.len boot_len (pa_cons (pe_lc (own := [("part", 6)]) (g := gName 6) rfl nd (pi_list (pv 1))
          (blkOk_by (own := [("part", 6)]) (N := ["causes", "tests", "tree", "bad", "good", "cause", "part"]) (sc := defScope sPlanRight) (by decide +kernel)) (fun _ _ _ _ _ => pg_name (i := 6) nd rfl (Or.inr rfl))
          (fun _ _ _ _ _ => pts_one (pt_cmpR op_gt (pe_callB (call_blenP P w rfl rfl) (by rfl) B.len boot_len (pa_cons (pe_dg (own := [("cause", 5)]) (g := gName 5) (tt := tYes) (tv := tC (.bl true)) (fills_bP P w rfl rfl) rfl nd (pi_listK K rfl (pv 0))
              (blkOk_by (own := [("cause", 5)]) (N := ["causes", "tests", "tree", "bad", "good", "cause", "part"]) (by rfl)) (fun _ _ _ _ _ => pg_name (i := 5) nd rfl (Or.inl rfl))
              (fun _ _ _ _ _ => pts_nil) (fun _ _ _ _ _ => pe_df G1 hr (by rfl) (pa_cons (pv 6) (pa_cons (pv 5) pa_nil))) (fun _ _ _ _ _ => pe_bl)) pa_nil)) pe_int (nomark _))) (fun _ _ _ _ _ => pv 6)) pa_nil)) pe_int (nomark _)))))), ?_⟩
    obtain ⟨tv, htv, htp⟩ := id ht
    have tl : tv.length = tss.length := Paired.length htp
    have Rl : (rowsOf tss css).length = tss.length := by
      unfold rowsOf
      rw [List.length_map]
    have lgv : (grp cv g).length = g.length := by
      unfold grp
      rw [List.length_map]
    cases n with
    | zero => exact absurd hn (Nat.not_lt_zero _)
    | succ n =>
    unfold planF at htr
    cases eb : (best (rowsOf tss css) g).2 with
    | some i =>
      rw [eb] at htr
      obtain ⟨t, va, vb, rfl, h1, h2, h3⟩ := htr
      obtain ⟨hi, hl1, hl2, hp1, hp2⟩ := best_some eb
      have hi2 : i < tss.length := by omega
      obtain ⟨tsv, htsv, tsa, rfl, htsl⟩ := pgetr htp (List.getElem?_eq_getElem hi2)
      have erow : (rowsOf tss css).getD i [] = marksOf tss[i] css := rows_get (List.getElem?_eq_getElem hi2)
      have eside : sideOf g ((rowsOf tss css).getD i []) = g.filter fun k => bad tss[i] (css.getD k []) := by
        rw [erow]
        refine List.filter_congr fun k hk => ?_
        rw [Bool.eq_iff_iff, decide_eq_true_eq, mem_marks (hg k hk)]
      have erest : restOf g ((rowsOf tss css).getD i []) = g.filter fun k => !bad tss[i] (css.getD k []) := by
        rw [erow]
        refine List.filter_congr fun k hk => ?_
        congr 1
        rw [Bool.eq_iff_iff, decide_eq_true_eq, mem_marks (hg k hk)]
      refine ⟨_, rfl, _, _, _, _, rfl, rfl, SqT.of h1, atI_nat (j := 0) rfl, rfl, _, rfl, ?_⟩
      rw [dec_str]
      refine iT (by decide +kernel) ?_
      refine ⟨_, rfl, _, _, _, _, rfl, rfl, SqT.of h1, atI_nat (j := 1) rfl, _, _, rfl, rfl, _, rfl, iT (decide_eq_true (by omega)) ?_⟩
      refine ⟨_, rfl, _, _, rfl, .inl ⟨_, SqL.of htv, rfl⟩, _, _, rfl, rfl, _, rfl, iF (by rw [decide_eq_true (by omega)]; rfl) ?_⟩
      refine ⟨_, rfl, a, rfl, ⟨_, SqL.of ha⟩, fun D nD => lc_accL (xs := grp cv g) nD (RelF g (fun k => bad tss[i] (css.getD k [])) (fun k => cv.getD k .non)) RelF.mono RelF.zero (by omega) (fun H' s' => SqL.of (s' _ _ ha)) ?_ ?_⟩
      · rintro j y H2 acc C2 N2 hj he s2 hD hl r2 hC hNo
        obtain ⟨q, hq, rfl⟩ := map_get he
        have hqg := List.mem_of_getElem? hq
        obtain ⟨ak, eak, hak⟩ := hc.at (hg q hqg)
        refine ⟨rfl, _, rfl, _, rfl, _, _, _, _, rfl, rfl, SqT.of (s2 _ _ h1), atI_nat (j := 1) rfl, _, _, _, _, rfl, rfl, SqL.of (s2 _ _ htv), atI_nat htsv, _, rfl, ?_⟩
        refine ⟨tsa, ak, tss[i], css.getD q [], by show [V.ref tsa, cv.getD q .non] = _; rw [eak], htsl.same s2, hak.same s2, ?_, fun H3 s3 => ⟨_, rfl, iB (fun hb => ?_) (fun hb => ?_)⟩⟩
        · have hql := hg q hqg
          have e : css.getD q [] = css[q] := by simp [List.getD, hql]
          rw [e]
          exact hz1 _ (List.getElem_mem hql)
        · exact ⟨_, rfl, hC _ _ s3 (r2.yes hq hb rfl)⟩
        · exact hNo _ s3 (r2.no hq hb)
      · intro H2 acc s2 hD hl r2
        have e1 := r2.all lgv
        rw [← eside] at e1
        subst e1
        have ha2 := s2 _ _ ha
        refine ⟨_, rfl, a, rfl, ⟨_, SqL.of ha2⟩, fun D2 nD2 => lc_accL (xs := grp cv g) nD2 (RelF g (fun k => !bad tss[i] (css.getD k [])) (fun k => cv.getD k .non)) RelF.mono RelF.zero (by omega) (fun H' s' => SqL.of (s' _ _ ha2)) ?_ ?_⟩
        · rintro j y H3 acc C2 N2 hj he s3 hD3 hl3 r3 hC hNo
          obtain ⟨q, hq, rfl⟩ := map_get he
          have hqg := List.mem_of_getElem? hq
          obtain ⟨ak, eak, hak⟩ := hc.at (hg q hqg)
          have S3 := s2.trans s3
          refine ⟨rfl, _, rfl, _, rfl, _, _, _, _, rfl, rfl, SqT.of (S3 _ _ h1), atI_nat (j := 1) rfl, _, _, _, _, rfl, rfl, SqL.of (S3 _ _ htv), atI_nat htsv, _, rfl, ?_⟩
          refine ⟨tsa, ak, tss[i], css.getD q [], by show [V.ref tsa, cv.getD q .non] = _; rw [eak], htsl.same S3, hak.same S3, ?_, fun H4 s4 => ⟨_, rfl, iB (fun hb => ?_) (fun hb => ?_)⟩⟩
          · have hql := hg q hqg
            have e : css.getD q [] = css[q] := by simp [List.getD, hql]
            rw [e]
            exact hz1 _ (List.getElem_mem hql)
          · exact ⟨_, rfl, hC _ _ s4 (r3.yes hq hb rfl)⟩
          · exact hNo _ s4 (r3.no hq hb)
        · intro H3 acc s3 hD3 hl3 r3
          have e3 := r3.all lgv
          rw [← erest] at e3
          subst e3
          have S3 := s2.trans s3
          refine ⟨_, rfl, _, rfl, _, rfl, _, _, _, _, rfl, rfl, SqT.of (S3 _ _ h1), atI_nat (j := 2) rfl, D, ca, ta, va, cv, css, tss, _, n, rfl, s3 _ _ hD, hc.same S3, ht.same S3, fun q hq => hg q ((side_sub _ _).subset hq), by omega, hz1, hz2, by omega, by omega, h2.same S3, fun H4 s4 => ?_⟩
          have S4 := S3.trans s4
          refine ⟨true, rfl, iT rfl ?_⟩
          exact ⟨_, rfl, _, rfl, _, rfl, _, _, _, _, rfl, rfl, SqT.of (S4 _ _ h1), atI_nat (j := 3) rfl, D2, ca, ta, vb, cv, css, tss, _, n, rfl, s4 _ _ hD3, hc.same S4, ht.same S4, fun q hq => hg q ((rest_sub _ _).subset hq), by omega, hz1, hz2, by omega, by omega, h3.same S4, fun H5 s5 => k H5 (S4.trans s5)⟩
    | none =>
      rw [eb] at htr
      obtain ⟨t, l, rfl, h1, h2⟩ := htr
      refine ⟨_, rfl, _, _, _, _, rfl, rfl, SqT.of h1, atI_nat (j := 0) rfl, rfl, _, rfl, ?_⟩
      rw [dec_str]
      refine iF (by decide +kernel) ?_
      have dd := dp_grp (K := K) hc hg
      refine ⟨_, rfl, _, _, _, _, rfl, rfl, SqT.of h1, atI_nat (j := 1) rfl, _, rfl, _, _, .lst (SqL.of h2) dd, .lst (SqL.of ha) dd, shaped_lists (idC L).toCode _, shaped_lists (idC L).toCode _, _, rfl, iF ?_ ?_⟩
      · show (!PyData.eqv _ _) = false
        rw [SeqAt.eqv_refl _ (SeqAt.canLay_of_shaped (shaped_lists (idC L).toCode _))]
        rfl
      refine ⟨_, rfl, ta, rfl, ⟨_, SqL.of htv⟩, fun D nD => lc_accL (xs := tv) nD (RelV' fun _ => []) RelV'.mono rfl (by omega) (fun H' s' => SqL.of (s' _ _ htv)) ?_ ?_⟩
      · rintro j y H2 acc C2 N2 hj he s2 hD hl r2 hC hNo
        obtain ⟨ts, hts, tsa, rfl, htsl⟩ := pget htp he
        have hj2 : j < tss.length := by omega
        obtain ⟨c, hcc⟩ : ∃ c, ∀ q ∈ g, bad ts (css.getD q []) = c := by
          cases g with
          | nil => exact ⟨true, fun q hq => nomatch hq⟩
          | cons k0 g0 =>
            refine ⟨bad ts (css.getD k0 []), fun q hq => ?_⟩
            have e := one_side eb (i := j) (by omega) q hq k0 List.mem_cons_self
            rw [rows_get hts, mem_marks (hg q hq), mem_marks (hg k0 List.mem_cons_self)] at e
            exact Bool.eq_iff_iff.mpr e
        have ha2 := s2 _ _ ha
        refine ⟨rfl, _, rfl, a, rfl, ⟨_, SqL.of ha2⟩, fun D2 H3 nD2 but isN => ?_⟩
        have s3 := same_but nD2 but
        have isN : BD P w H3 D2 [] := isN
        refine turns_l (K := K) (a := a) (vs := grp cv g) (fun i H' => Same H2 H' ∧ ∃ ks, BD P w H' D2 ks ∧ (ks = [] ∨ ks = [c])) ⟨s3, [], isN, .inl rfl⟩ (fun i H' p => SqL.of (p.1 _ _ ha2)) ?_ ?_
        · rintro i y H4 hi ⟨s4, ks, bd, hks⟩
          obtain ⟨q, hq, rfl⟩ := map_get hi
          have hqg := List.mem_of_getElem? hq
          obtain ⟨ak, eak, hak⟩ := hc.at (hg q hqg)
          have S4 := s2.trans s4
          refine ⟨rfl, ?_⟩
          refine ⟨_, rfl, _, rfl, tsa, ak, ts, css.getD q [], by show [V.ref tsa, cv.getD q .non] = _; rw [eak], htsl.same S4, hak.same S4, ?_, fun H5 s5 => ?_⟩
          · have hql := hg q hqg
            have e : css.getD q [] = css[q] := by simp [List.getD, hql]
            rw [e]
            exact hz1 _ (List.getElem_mem hql)
          · have hkl : ks.length ≤ 1 := by rcases hks with e | e <;> simp [e]
            refine ⟨ks, bad ts (css.getD q []), BD.same s5 bd, by omega, rfl, fun H6 b6 bd6 => ⟨(Kp.but b6).same (s4.trans s5) nD2, _, bd6, ?_⟩⟩
            rw [hcc q hqg]
            rcases hks with e | e
            · rw [e, if_neg (by simp)]
              exact .inr rfl
            · rw [e, if_pos (by simp)]
              exact .inr rfl
        · rintro H4 ⟨s4, ks, bd, hks⟩
          have hkl : ks.length ≤ 1 := by rcases hks with e | e <;> simp [e]
          exact ⟨D2, ks, rfl, bd, _, _, rfl, rfl, _, rfl, iF (decide_eq_false (by omega)) (hNo _ s4 r2)⟩
      · intro H2 acc s2 hD hl r2
        have r2 : acc = [] := r2
        subst r2
        refine ⟨_, _, rfl, .inl ⟨_, SqL.of hD, rfl⟩, rfl, ?_⟩
        rw [dec_int]
        exact k H2 s2
theorem df_right {L : Lab} {f : Addr} {fd : FuncData} (B : Bt mg) (F : DefAt K "plan_right" "plan_right" sPlanRight f fd) (hb : Binds K fd ["causes", "tests", "tree"] []) (hk : PySem.W.keepIn K (.ref f) = true) (hm : mg "plan_right" = some (.ref f)) (G1 : Df P w K mg base 1 "is_bad" ["part", "cause"] (spIsBad L)) : ∀ N, Df P w K mg base (1 + N) "plan_right" ["causes", "tests", "tree"] (spRight L N)
  | 0 => ⟨f, fd, ⟨fun vs H Q E h => by
      obtain ⟨a, ca, ta, v, cv, css, tss, g, n, rfl, _⟩ := h
      rfl, fun A outer s H args us vs Q E hr e hbi hv h => by
      obtain ⟨a, ca, ta, v, cv, css, tss, g, n, _, _, _, _, _, _, _, _, hz, _⟩ := h
      exact absurd hz (Nat.not_lt_zero _)⟩, hb, hk, hm⟩
  | N + 1 => ⟨f, fd, ok_right_step B F (G1.mono (by omega)) (df_right B F hb hk hm G1 N), hb, hk, hm⟩
end
end K97
set_option Elab.async false
set_option linter.all false
set_option maxRecDepth 100000
set_option maxHeartbeats 4000000
/-! The law's random state: _law_state, _law_draw, _law_pick. -/
namespace K97
open PySem PySem.Spec PyProof.Rows L2
/-- the heap without the state's two lists -/
def msk (S C : Addr) (H : Hp) : Hp := fun b => if b = S ∨ b = C then none else H b
theorem msk_same {S C : Addr} {H : Hp} : Same (msk S C H) H := fun b o h => by
  unfold msk at h
  split at h
  · cases h
  · exact h
theorem msk_of {S C a : Addr} {H : Hp} (h1 : a ≠ S) (h2 : a ≠ C) : msk S C H a = H a := by
  unfold msk
  rw [if_neg (by rintro (e | e); exact h1 e; exact h2 e)]
theorem msk_mono {S C : Addr} {H H' : Hp} (s : Same H H') : Same (msk S C H) (msk S C H') := fun b o h => by
  unfold msk at h ⊢
  split at h
  · cases h
  · rename_i q
    rw [if_neg q]
    exact s _ _ h
theorem msk_none {S C a : Addr} {H : Hp} (h : H a = none) : msk S C H a = none := by
  unfold msk
  split
  · rfl
  · exact h
theorem msk_upd {S C p : Addr} {H : Hp} {o : HO} (h1 : p ≠ S) (h2 : p ≠ C) : msk S C (upd H p o) = upd (msk S C H) p o := by
  funext b
  by_cases e : b = p
  · subst e
    rw [msk_of h1 h2, upd_same, upd_same]
  · rw [upd_ne e]
    unfold msk
    rw [upd_ne e]
/-- the state stands -/
def St (S C : Addr) (H : Hp) : Prop := S ≠ C ∧ ∃ (cs : List Int) (m : Int), H S = some (.lst [.ref C, .int m]) ∧ H C = some (.lst (cs.map V.int))
theorem St.same {S C : Addr} {H H' : Hp} (s : Same H H') (h : St S C H) : St S C H' := let ⟨n, cs, m, a, b⟩ := h; ⟨n, cs, m, s _ _ a, s _ _ b⟩
theorem St.new {S C p : Addr} {H : Hp} (h : St S C H) (n : H p = none) : p ≠ S ∧ p ≠ C := by
  obtain ⟨_, cs, m, a, b⟩ := h
  refine ⟨fun e => ?_, fun e => ?_⟩
  · rw [e, a] at n
    cases n
  · rw [e, b] at n
    cases n
theorem St.tk {S C : Addr} {H : Hp} (h : St S C H) : Tk H (msk S C H) := fun b xs e => by
  obtain ⟨_, cs, m, h1, h2⟩ := h
  rw [msk_of (ne_of e h1 fun z => nomatch z) (ne_of e h2 fun z => nomatch z)]
  exact e
/-- a new object, seen in the masked heap -/
theorem St.updm {S C p : Addr} {H : Hp} {o : HO} (h : St S C H) (n : H p = none) : msk S C (upd H p o) = upd (msk S C H) p o := msk_upd (h.new n).1 (h.new n).2
section
variable {P : Program} {w : World} {K : PySem.W.Frag} {mg : Str → Option Value} {base : Heap}
def spDraw : Sp := fun vs H Q _ => ∃ (S C : Addr) (n : Int), vs = [.ref S, .int n] ∧ St S C H ∧ n < 1073741824 ∧ ∀ r H', Same (msk S C H) (msk S C H') → St S C H' → 0 ≤ r → (0 < n → r < n) → (n < 1 → r = 0) → Q (.int r) H'
theorem scLDraw : FnScope ["_law_state_here", "_law_many", "_law_cells", "_law_value", "_law_mixed"] ["_law_state_here", "_law_many"] (defScope sLDraw) := ⟨rfl, rfl, rfl, by decide +kernel, rfl, by decide +kernel, by decide +kernel⟩
theorem seq0 (n : Nat) : seqIndex? 0 (n + 1) = some 0 := by
  have e : ixN (n + 1) 0 = some 0 := by
    unfold ixN
    rw [if_pos (by decide), if_pos (by omega)]
    rfl
  exact (ixN_seq e).1
theorem ixN0 {n : Nat} (h : 0 < n) : ixN n 0 = some 0 := by
  unfold ixN
  rw [if_pos (by decide), if_pos (by omega)]
  rfl
theorem msk_putS {S C : Addr} {H : Hp} {o : HO} : Same (msk S C H) (msk S C (upd H S o)) := fun b u h => by
  unfold msk at h ⊢
  split at h
  · cases h
  · rename_i q
    rw [if_neg q, upd_ne fun e => q (.inl e)]
    exact h
theorem msk_putC {S C : Addr} {H : Hp} {o : HO} : Same (msk S C H) (msk S C (upd H C o)) := fun b u h => by
  unfold msk at h ⊢
  split at h
  · cases h
  · rename_i q
    rw [if_neg q, upd_ne fun e => q (.inr e)]
    exact h
theorem ok_draw {f : Addr} {fd : FuncData} (B : Bt mg) (F : DefAt K "_law_draw" "_law_draw" sLDraw f fd) : FnOk P w K mg base CX0 1 f fd ["_law_state_here", "_law_many"] spDraw := by
  refine FunD.ok F scLDraw (fun vs H Q E h => ?_) (fun cdv A outer s H vs Q E hr h => ?_)
  · obtain ⟨S, C, n, rfl, _⟩ := h
    rfl
  · obtain ⟨S, C, n, rfl, ⟨hSC, cs, m, hS, hC⟩, hn, k⟩ := h
    have nd := scLDraw.nd
    have sl := sizeLine_eq
    refine ⟨_, PSs.nox (pss_cons (ps_if (pt_cmpR op_lt (pv 1) pe_int (nomark _)) (pss_one (ps_ret pe_int)) pss_nil)
      (pss_cons (ps_set (i := 2) nd rfl (Or.inl rfl) (pe_ix ix_list (pv 0) pe_int (fun _ _ => rfl)))
      (pss_cons (ps_while PassesOwn.never (PW.pt (pw_and (pt_cmpR op_gt (pe_callB call_len (by rfl) B.len boot_len (pa_cons (pv 2) pa_nil)) pe_int (nomark _)) (pw_and1 (pt_cmpR op_eq (pe_ix ix_list (pv 2) pe_int (fun _ _ => rfl)) pe_int (nomark _)))))
        (pss_one (ps_expr (pe_bm PySem.F.plainAttrs_list PySem.F.slot_list_pop PySem.F.type_list_pop mt_popAt (pv 2) (pa_cons pe_int pa_nil)))))
      (pss_cons (ps_if (pt_cmpR op_gt (pe_callB call_len (by rfl) B.len boot_len (pa_cons (pv 2) pa_nil)) pe_int (nomark _))
        (pss_cons (ps_set (i := 3) nd rfl (Or.inl rfl) (pe_ix ix_list (pv 2) pe_int (fun _ _ => rfl)))
        (pss_cons (ps_asg (pe_op op_fdiv (pv 3) (pv 1)) (pg_sub (pv 2) pe_int set_list))
        (pss_one (ps_ret (pe_op op_mod (pe_callTy call_int1 (by rfl) B.int (by decide +kernel) (pa_cons (pv 3) pa_nil)) (pv 1)))))) pss_nil)
      (pss_cons (ps_set (i := 4) nd rfl (Or.inl rfl) (pe_op op_mod (pe_callTy call_int1 (by rfl) B.int (by decide +kernel) (pa_cons (pe_op op_add (pe_op op_mul (pe_ix ix_list (pv 0) pe_int (fun _ _ => rfl)) pe_int) pe_int) pa_nil)) pe_int))
      (pss_cons (ps_asg (pv 4) (pg_sub (pv 0) pe_int set_list))
      (pss_one (ps_ret (pe_op op_mod (pe_callTy call_int1 (by rfl) B.int (by decide +kernel) (pa_cons (pe_op op_fdiv (pv 4) pe_int) pa_nil)) (pv 1)))))))))), ?_⟩
    refine ⟨_, rfl, _, _, rfl, rfl, _, rfl, iB (fun h1 => ?_) (fun h1 => ?_)⟩
    · have h1 := of_decide_eq_true h1
      exact k 0 H (Same.refl _) ⟨hSC, cs, m, hS, hC⟩ (Int.le_refl _) (fun h => h) (fun _ => rfl)
    · have h1 := of_decide_eq_false h1
      have n0 : 0 < n := by omega
      refine ⟨_, rfl, _, _, _, _, rfl, rfl, SqL.of hS, atI_nat (j := 0) rfl, ?_⟩
      refine ⟨fun q σ H' => ∃ cs' c3 c4, σ = [some (.ref S), some (.int n), some (.ref C), c3, c4] ∧ Same (msk S C H) (msk S C H') ∧ H' S = some (.lst [.ref C, .int m]) ∧ H' C = some (.lst (cs'.map V.int)) ∧ cs'.length ≤ q,
        ⟨cs.length, cs, none, none, rfl, Same.refl _, hS, hC, Nat.le_refl _⟩, ?_⟩
      rintro q σ H1 ⟨cs', c3, c4, rfl, s1, hS1, hC1, hq⟩
      cases cs' with
      | nil =>
        refine ⟨_, rfl, _, _, rfl, .inl ⟨_, SqL.of hC1, rfl⟩, _, _, rfl, rfl, _, rfl, iF (by decide) (iF rfl ?_)⟩
        refine ⟨_, rfl, _, _, rfl, .inl ⟨_, SqL.of hC1, rfl⟩, _, _, rfl, rfl, _, rfl, iF (by decide) ?_⟩
        refine ⟨_, rfl, _, _, _, _, rfl, rfl, SqL.of hS1, atI_nat (j := 1) rfl, m, 48271, rfl, rfl, .inr ⟨by decide, by decide⟩, _, 12345, rfl, rfl, .inl ⟨_, rfl, _, 2147483647, rfl, rfl, by show (0 : Int) < 2147483647; decide, ?_⟩⟩
        refine ⟨_, rfl, _, rfl, S, _, _, 1, rfl, rfl, hS1, rfl, ?_⟩
        refine ⟨_, rfl, _, 64, rfl, rfl, ⟨by decide, by decide⟩, .inl ⟨_, rfl, _, rfl, _, n, rfl, rfl, n0, ?_⟩⟩
        refine k _ _ (s1.trans msk_putS) ⟨hSC, [], _, upd_same, by rw [upd_ne hSC.symm]; exact hC1⟩ (Int.emod_nonneg _ (by omega)) (fun _ => Int.emod_lt_of_pos _ n0) (fun h => absurd h (by omega))
      | cons c t =>
        refine ⟨_, rfl, _, _, rfl, .inl ⟨_, SqL.of hC1, rfl⟩, _, _, rfl, rfl, _, rfl, iT (decide_eq_true (by show (0 : Int) < _; rw [List.length_map, List.length_cons]; omega)) ?_⟩
        refine ⟨_, rfl, _, _, _, _, rfl, rfl, SqL.of hC1, atI_nat (j := 0) rfl, rfl, _, rfl, ?_⟩
        rw [dec_int]
        refine iB (fun h2 => ?_) (fun h2 => ?_)
        · rw [List.length_cons] at hq
          refine ⟨fun σ H' => ∃ (cs' : List Int) (c3 c4 : Option V), σ = [some (.ref S), some (.int n), some (.ref C), c3, c4] ∧ Same (msk S C H) (msk S C H') ∧ H' S = some (.lst [.ref C, .int m]) ∧ H' C = some (.lst (cs'.map V.int)) ∧ cs'.length ≤ q - 1, fun σ' H' p => ⟨q - 1, by omega, p⟩, ?_⟩
          refine ⟨_, rfl, .inl ⟨rfl, _, .inl (.inl hC1)⟩, C, _, 0, 0, _, rfl, rfl, hC1, by decide, by decide, ?_, rfl, ?_⟩
          · rw [List.length_map, List.length_cons]
            exact seq0 _
          · exact ⟨t, _, _, rfl, s1.trans msk_putC, by rw [upd_ne hSC]; exact hS1, upd_same, by omega⟩
        · refine ⟨_, rfl, _, _, rfl, .inl ⟨_, SqL.of hC1, rfl⟩, _, _, rfl, rfl, _, rfl, iT (decide_eq_true (by show (0 : Int) < _; rw [List.length_map, List.length_cons]; omega)) ?_⟩
          refine ⟨_, rfl, _, _, _, _, rfl, rfl, SqL.of hC1, atI_nat (j := 0) rfl, ?_⟩
          refine ⟨_, rfl, _, rfl, c, n, rfl, rfl, ⟨n0, hn⟩, _, rfl, C, _, 0, 0, rfl, rfl, hC1, ixN0 (by rw [List.length_map, List.length_cons]; omega), ?_⟩
          refine ⟨_, rfl, .inl ⟨_, rfl, _, rfl, c, n, rfl, rfl, n0, ?_⟩⟩
          exact k _ _ (s1.trans msk_putC) ⟨hSC, (c / n) :: t, m, by rw [upd_ne hSC]; exact hS1, upd_same⟩ (Int.emod_nonneg _ (by omega)) (fun _ => Int.emod_lt_of_pos _ n0) (fun h => absurd h (by omega))
end
end K97
set_option Elab.async false
set_option linter.all false
set_option maxRecDepth 100000
set_option maxHeartbeats 4000000
/-! _law_state, _law_pick, _law_some, _law_path. -/
namespace K97
open PySem PySem.Spec PyProof.Rows L2
section
variable {P : Program} {w : World} {K : PySem.W.Frag} {mg : Str → Option Value} {base : Heap}
def spState : Sp := fun vs H Q _ => ∃ (a : Addr) (ns : List Int), vs = [.ref a] ∧ SqL K H a (ns.map V.int) ∧ ns.length ≤ 1000 ∧ ∀ S C H', Same H H' → St S C H' → H S = none → H C = none → Q (.ref S) H'
theorem scLState : FnScope ["_law_script", "_law_seed", "_law_cell"] ["_law_script"] (defScope sLState) := ⟨rfl, rfl, rfl, by decide +kernel, rfl, by decide +kernel, by decide +kernel⟩
theorem sql_same {H H' : Hp} {a : Addr} {vs : List V} (s : Same H H') (h : SqL K H a vs) : SqL K H' a vs := s.seq h
theorem ok_state {f : Addr} {fd : FuncData} (B : Bt mg) (F : DefAt K "_law_state" "_law_state" sLState f fd) : FnOk P w K mg base CX0 1 f fd ["_law_script"] (spState (K := K)) := by
  refine FunD.ok F scLState (fun vs H Q E h => ?_) (fun cdv A outer s H vs Q E hr h => ?_)
  · obtain ⟨a, ns, rfl, _⟩ := h
    rfl
  · obtain ⟨a, ns, rfl, ha, hz, k⟩ := h
    have nd := scLState.nd
    have sl := sizeLine_eq
    refine ⟨_, PSs.nox (pss_cons (ps_set (i := 1) nd rfl (Or.inl rfl) pe_int)
      (pss_cons (ps_for PassesOwn.never rfl (pi_list (pv 0)) (pg_name (i := 2) nd rfl (Or.inl rfl))
        (pss_one (ps_set (i := 1) nd rfl (Or.inl rfl) (pe_op op_mod (pe_callTy call_int1 (by rfl) B.int (by decide +kernel) (pa_cons (pe_op op_add (pe_op op_mul (pv 1) pe_int) (pv 2)) pa_nil)) pe_int))))
      (pss_one (ps_ret (pe_lst (pa_cons (pe_lc (own := [("_law_cell", 2)]) (g := gName 2) (tt := tYes) rfl nd (pi_list (pv 0))
          (blkOk_by (own := [("_law_cell", 2)]) (N := ["_law_script", "_law_seed", "_law_cell"]) (sc := defScope sLState) (by decide +kernel)) (fun _ _ _ _ _ => pg_name (i := 2) nd rfl (Or.inl rfl))
          (fun _ _ _ _ _ => pts_nil) (fun _ _ _ _ _ => pe_callB call_abs (by rfl) B.abs (by decide +kernel) (pa_cons (pv 2) pa_nil))) (pa_cons (pe_op op_add (pv 1) pe_int) pa_nil))))))), ?_⟩
    refine ⟨_, rfl, a, rfl, ⟨_, ha⟩, for_list (K := K) (a := a) (xs := ns.map V.int) (fun i σ H' => ∃ m c2, σ = [some (.ref a), some (.int m), c2] ∧ H' = H) ⟨7, none, rfl, rfl⟩ (fun i σ H' _ ⟨_, _, _, e⟩ => by rw [e]; exact ha) ?_ ?_⟩
    · rintro i y σ H' hi ⟨m, c2, rfl, rfl⟩
      obtain ⟨q, hq, rfl⟩ : ∃ q, ns[i]? = some q ∧ y = V.int q := by
        rw [List.getElem?_map] at hi
        cases e : ns[i]? with
        | none => rw [e] at hi; cases hi
        | some q =>
          rw [e] at hi
          cases hi
          exact ⟨q, rfl, rfl⟩
      exact ⟨_, rfl, m, 31, rfl, rfl, .inr ⟨by decide, by decide⟩, _, rfl, _, q, rfl, rfl, .inl ⟨_, rfl, _, 1000003, rfl, rfl, by show (0 : Int) < 1000003; decide, _, _, rfl, rfl⟩⟩
    · rintro σ H' ⟨m, c2, rfl, rfl⟩
      refine ⟨_, rfl, a, rfl, ⟨_, ha⟩, fun C nC => lc_accL (xs := ns.map V.int) nC (RelF ns (fun _ => true) (fun z => V.int (if z < 0 then -z else z))) RelF.mono RelF.zero (by rw [List.length_map]; omega) (fun H'' s' => s'.seq ha) ?_ ?_⟩
      · rintro i y H2 acc C2 N2 hi he s2 hD hl r2 hC hN
        obtain ⟨q, hq, rfl⟩ : ∃ q, ns[i]? = some q ∧ y = V.int q := by
          have he : (ns.map V.int)[i]? = some y := he
          rw [List.getElem?_map] at he
          cases e : ns[i]? with
          | none => rw [e] at he; cases he
          | some q =>
            rw [e] at he
            cases he
            exact ⟨q, rfl, rfl⟩
        refine ⟨rfl, ?_⟩
        exact ⟨_, rfl, q, rfl, hC _ _ (Same.refl _) (r2.yes hq rfl rfl)⟩
      · intro H2 acc s2 hD hl r2
        have e1 := r2.all (by rw [List.length_map])
        rw [List.filter_eq_self.mpr fun _ _ => rfl] at e1
        refine ⟨_, rfl, m, 1, rfl, rfl, by show 2 ≤ sizeLine; omega, fun S nS => ?_⟩
        have hne : S ≠ C := fun e => by
          rw [e, hD] at nS
          cases nS
        have s3 := same_new (o := .lst [.ref C, .int (m + 1)]) nS
        refine k S C _ (s2.trans s3) ⟨hne, ns.map (fun z => if z < 0 then -z else z), m + 1, upd_same, ?_⟩ (none_of s2 nS) nC
        rw [s3 _ _ hD, e1, List.map_map]
        rfl
def spPickL : Sp := fun vs H Q _ => ∃ (S C l : Addr) (xs : List V), vs = [.ref S, .ref l] ∧ St S C H ∧ msk S C H l = some (.lst xs) ∧ xs ≠ [] ∧ xs.length < 1073741824 ∧ ∀ v H', v ∈ xs → Same (msk S C H) (msk S C H') → St S C H' → Q v H'
theorem scLPick : FnScope ["_law_state_here", "_law_row"] ["_law_state_here", "_law_row"] (defScope sLPick) := ⟨rfl, rfl, rfl, by decide +kernel, rfl, by decide +kernel, by decide +kernel⟩
theorem ok_pick {f : Addr} {fd : FuncData} (B : Bt mg) (F : DefAt K "_law_pick" "_law_pick" sLPick f fd) (G : Df P w K mg base 1 "_law_draw" ["_law_state_here", "_law_many"] spDraw) : FnOk P w K mg base CX0 2 f fd ["_law_state_here", "_law_row"] spPickL := by
  refine FunD.ok F scLPick (fun vs H Q E h => ?_) (fun cdv A outer s H vs Q E hr h => ?_)
  · obtain ⟨S, C, l, xs, rfl, _⟩ := h
    rfl
  · obtain ⟨S, C, l, xs, rfl, hst, hl, hne, hz, k⟩ := h
    have nd := scLPick.nd
    refine ⟨_, PSs.nox (pss_one (ps_ret (pe_ix ix_list (pv 1) (pe_df G hr (by rfl) (pa_cons (pv 0) (pa_cons (pe_callB call_len (by rfl) B.len boot_len (pa_cons (pv 1) pa_nil)) pa_nil))) (fun _ _ => rfl)))), ?_⟩
    have hp : 0 < xs.length := List.length_pos_iff.mpr hne
    refine ⟨_, rfl, _, rfl, _, rfl, _, _, rfl, .inl ⟨_, SqL.of (msk_same _ _ hl), rfl⟩, S, C, _, rfl, hst, by omega, fun r H' s' st' h0 h1 _ => ?_⟩
    have hr1 := h1 (by omega)
    obtain ⟨j, rfl⟩ : ∃ j : Nat, r = (j : Nat) := ⟨r.toNat, by omega⟩
    have hj : j < xs.length := by omega
    exact ⟨_, _, _, _, rfl, rfl, SqL.of (msk_same _ _ (s' _ _ hl)), atI_nat (List.getElem?_eq_getElem hj), k _ H' (List.getElem_mem hj) s' st'⟩
theorem none_m {S C p : Addr} {H H' : Hp} (s : Same (msk S C H) (msk S C H')) (st : St S C H') (n : H' p = none) : H p = none := by
  have h := st.new n
  have e := none_of s (msk_none n)
  rwa [msk_of h.1 h.2] at e
def spSome (L : Lab) : Sp := fun vs H Q _ => ∃ (S C l : Addr) (n : Int) (xs : List Vx), vs = [.ref S, .ref l, .int n] ∧ St S C H ∧ LE (msk S C H) (vxK L) l xs ∧ xs.length ≤ 1000 ∧ 0 ≤ n ∧ n ≤ 10 ∧
  ∀ r H' ys, Same (msk S C H) (msk S C H') → St S C H' → H r = none → LE (msk S C H') (vxK L) r ys → (∀ y ∈ ys, y ∈ xs) → ys.length ≤ 10 → Q (.ref r) H'
theorem scLSome : FnScope ["_law_state_here", "_law_row", "_law_most", "_law_found", "_law_k", "_law_one"] ["_law_state_here", "_law_row", "_law_most"] (defScope sLSome) := ⟨rfl, rfl, rfl, by decide +kernel, rfl, by decide +kernel, by decide +kernel⟩
theorem ok_some {L : Lab} {f : Addr} {fd : FuncData} (B : Bt mg) (F : DefAt K "_law_some" "_law_some" sLSome f fd) (G1 : Df P w K mg base 1 "_law_draw" ["_law_state_here", "_law_many"] spDraw) (G2 : Df P w K mg base 2 "_law_pick" ["_law_state_here", "_law_row"] spPickL) :
    FnOk P w K mg base CX0 3 f fd ["_law_state_here", "_law_row", "_law_most"] (spSome L) := by
  refine FunD.ok F scLSome (fun vs H Q E h => ?_) (fun cdv A outer s H vs Q E hr h => ?_)
  · obtain ⟨S, C, l, n, xs, rfl, _⟩ := h
    rfl
  · obtain ⟨S, C, l, n, xs, rfl, hst, ⟨vx, hvx, evx⟩, hz, hn0, hn, k⟩ := h
    have nd := scLSome.nd
    have sl := sizeLine_eq
    have hu := hr.units
    have hu2 : (A.deeper (envOfC "_law_some" (defScope sLSome) s.heap.objs.size f cdv)).units + 65 < cLine := by
      have := hr.un
      omega
    refine ⟨_, PSs.nox (pss_cons (ps_set (i := 3) nd rfl (Or.inl rfl) (pe_lst pa_nil))
      (pss_cons (ps_for PassesOwn.never rfl (pi_range1 (by rfl) B.range (pa_cons (pe_df G1 (hr.mono (by decide)) (by rfl) (pa_cons (pv 0) (pa_cons (pe_op op_add (pv 2) pe_int) pa_nil))) pa_nil)) (pg_name (i := 4) nd rfl (Or.inl rfl))
        (pss_one (ps_if (pt_cmpR op_gt (pe_callB call_len (by rfl) B.len boot_len (pa_cons (pv 1) pa_nil)) pe_int (nomark _))
          (pss_cons (ps_set (i := 5) nd rfl (Or.inl rfl) (pe_df G2 hr (by rfl) (pa_cons (pv 0) (pa_cons (pv 1) pa_nil))))
          (pss_one (ps_if (pt_cmpR (op_notInE hu2 (vxC L).toCode) (pv 5) (pv 3) rfl)
            (pss_one (ps_expr (pe_bm PySem.F.plainAttrs_list PySem.F.slot_list_append PySem.F.type_list_append mt_append (pv 3) (pa_cons (pv 5) pa_nil)))) pss_nil))) pss_nil)))
      (pss_one (ps_ret (pe_callB (call_sortE (vxC L) hu) (by rfl) B.sorted boot_sorted (pa_cons (pv 3) pa_nil)))))), ?_⟩
    refine ⟨Nat.zero_le _, fun fo nfo => ?_⟩
    have fS := (hst.new nfo).1
    have fC := (hst.new nfo).2
    have s1 := msk_mono (S := S) (C := C) (same_new (o := .lst []) nfo)
    have st1 := hst.same (same_new (o := .lst []) nfo)
    have e1 : msk S C (upd H fo (.lst [])) fo = some (.lst []) := by rw [msk_of fS fC, upd_same]
    have nfo' : msk S C H fo = none := msk_none nfo
    have el := evx.length
    refine ⟨_, rfl, _, rfl, n, 1, rfl, rfl, S, C, _, rfl, st1, by omega, fun r H2 s2 st2 h0 h1 h2 => ?_⟩
    have hr10 : r < 11 := by
      have := h1 (by omega)
      omega
    refine ⟨r, rfl, by omega, by omega, for_range (lo := 0)
      (fun i σ H' => ∃ vs ys c4 c5, σ = [some (.ref S), some (.ref l), some (.int n), some (.ref fo), c4, c5] ∧ Same (msk S C H) (msk S C H') ∧ St S C H' ∧ msk S C H' fo = some (.lst vs) ∧ EV (msk S C H') (vxK L) vs ys ∧ (∀ y ∈ ys, y ∈ xs) ∧ ys.length ≤ i)
      ⟨[], [], none, none, rfl, s1.trans s2, st2, s2 _ _ e1, .nil, (fun y h => nomatch h), Nat.le_refl _⟩ ?_ ?_⟩
    · rintro i σ H3 hi ⟨vs, ys, c4, c5, rfl, s3, st3, hf, ev, hsub, hyl⟩
      have hvx3 := s3 _ _ hvx
      have evx3 := evx.tk (Tk.of_same s3)
      refine ⟨_, rfl, _, _, rfl, .inl ⟨_, SqL.of (msk_same _ _ hvx3), rfl⟩, _, _, rfl, rfl, _, rfl, iB (fun hb => ?_) (fun hb => ?_)⟩
      · have hb := of_decide_eq_true hb
        refine ⟨_, rfl, _, rfl, S, C, l, vx, rfl, st3, hvx3, (fun e => by rw [e] at hb; exact absurd hb (by decide)), by omega, fun v H4 hv s4 st4 => ?_⟩
        obtain ⟨j, hj⟩ := List.getElem?_of_mem hv
        obtain ⟨x, hx, hxt⟩ := evx3.get (i := 0) hj
        have hf4 := s4 _ _ hf
        have ev4 := ev.tk (Tk.of_same s4)
        have hxt4 := TD.tk (Tk.of_same s4) _ _ hxt
        have tk4 : Tk (msk S C H4) H4 := Tk.of_same msk_same
        refine ⟨_, rfl, _, rfl, fo, vs, ys, x, rfl, SqL.of (msk_same _ _ hf4), ev4.tk tk4, TD.tk tk4 _ _ hxt4, _, rfl, iB (fun hb2 => ?_) (fun hb2 => ?_)⟩
        · have tkU : Tk (msk S C H4) (upd (msk S C H4) fo (.lst (vs ++ [v]))) := Tk.put hf4 fun _ z => nomatch z
          have eU : msk S C (upd H4 fo (.lst (vs ++ [v]))) = upd (msk S C H4) fo (.lst (vs ++ [v])) := msk_upd fS fC
          have vl := ev.length
          refine ⟨_, rfl, .inl ⟨rfl, _, .inl (.inl (msk_same _ _ hf4))⟩, _, rfl, fo, vs, v, rfl, rfl, msk_same _ _ hf4, by omega, ?_⟩
          refine ⟨vs ++ [v], ys ++ [x], _, _, rfl, ?_, ?_, ?_, ?_, ?_, ?_⟩
          · rw [eU]
            intro b o q
            rw [upd_ne (ne_of_none q nfo')]
            exact s4 _ _ (s3 _ _ q)
          · obtain ⟨q1, cs, m, q2, q3⟩ := st4
            exact ⟨q1, cs, m, by rw [upd_ne fS.symm]; exact q2, by rw [upd_ne fC.symm]; exact q3⟩
          · rw [eU]
            exact upd_same
          · rw [eU]
            exact (ev4.tk tkU).snoc (TD.tk tkU _ _ hxt4)
          · intro y hy
            rcases List.mem_append.mp hy with q | q
            · exact hsub y q
            · rw [List.mem_singleton] at q
              rw [q]
              exact List.mem_of_getElem? hx
          · rw [List.length_append]
            exact Nat.succ_le_succ hyl
        · exact ⟨vs, ys, _, _, rfl, s3.trans s4, st4, hf4, ev4, hsub, by omega⟩
      · exact ⟨vs, ys, _, _, rfl, s3, st3, hf, ev, hsub, by omega⟩
    · rintro σ H3 ⟨vs, ys, c4, c5, rfl, s3, st3, hf, ev, hsub, hyl⟩
      have tk3 : Tk (msk S C H3) H3 := Tk.of_same msk_same
      refine ⟨_, rfl, fo, vs, ys, rfl, SqL.of (msk_same _ _ hf), ev.tk tk3, fun p vs' ys' pm ev' np => ?_⟩
      have eU : msk S C (upd H3 p (.lst vs')) = upd (msk S C H3) p (.lst vs') := st3.updm np
      refine k p _ ys' (s3.trans (msk_mono (same_new np))) (st3.same (same_new np)) (none_m s3 st3 np) ?_ (fun y hy => hsub y (pm.mem_iff.mp hy)) ?_
      · rw [eU]
        exact ⟨vs', upd_same, (ev'.tk st3.tk).tk (Tk.new (msk_none np))⟩
      · rw [pm.length_eq]
        omega
def spPath : Sp := fun vs H Q _ => ∃ (S C : Addr), vs = [.ref S] ∧ St S C H ∧ ∀ p ps H', Same (msk S C H) (msk S C H') → St S C H' → msk S C H' p = some (.tup ps) → Q (.ref p) H'
theorem scLPath : FnScope ["_law_state_here"] ["_law_state_here"] (defScope sLPath) := ⟨rfl, rfl, rfl, by decide +kernel, rfl, by decide +kernel, by decide +kernel⟩
theorem ok_path {f : Addr} {fd : FuncData} (B : Bt mg) (F : DefAt K "_law_path" "_law_path" sLPath f fd) (G : Df P w K mg base 2 "_law_pick" ["_law_state_here", "_law_row"] spPickL) : FnOk P w K mg base CX0 3 f fd ["_law_state_here"] spPath := by
  refine FunD.ok F scLPath (fun vs H Q E h => ?_) (fun cdv A outer s H vs Q E hr h => ?_)
  · obtain ⟨S, C, rfl, _⟩ := h
    rfl
  · obtain ⟨S, C, rfl, hst, k⟩ := h
    have nd := scLPath.nd
    have sl := sizeLine_eq
    refine ⟨_, PSs.nox (pss_one (ps_ret (pe_df G hr (by rfl) (pa_cons (pv 0) (pa_cons (pe_lst (pa_cons (pe_tup (pa_cons pe_str pa_nil)) (pa_cons (pe_tup (pa_cons pe_str pa_nil)) (pa_cons (pe_tup (pa_cons pe_str (pa_cons pe_str pa_nil))) (pa_cons (pe_tup (pa_cons pe_str pa_nil)) pa_nil))))) pa_nil))))), ?_⟩
    refine ⟨_, rfl, by show 1 ≤ sizeLine; omega, fun t1 n1 => ⟨by show 1 ≤ sizeLine; omega, fun t2 n2 => ⟨by show 2 ≤ sizeLine; omega, fun t3 n3 => ⟨by show 1 ≤ sizeLine; omega, fun t4 n4 => ⟨by show 4 ≤ sizeLine; omega, fun l nl => ?_⟩⟩⟩⟩⟩
    have s1 := same_new (o := .tup [.str "a"]) n1
    have s2 := same_new (o := .tup [.str "b"]) n2
    have s3 := same_new (o := .tup [.str "a", .str "c"]) n3
    have s4 := same_new (o := .tup [.str "d1"]) n4
    have s5 := same_new (o := .lst [.ref t1, .ref t2, .ref t3, .ref t4]) nl
    have st1 := hst.same s1
    have st2 := st1.same s2
    have st3 := st2.same s3
    have st4 := st3.same s4
    have m1 := (msk_mono (S := S) (C := C) (s2.trans (s3.trans (s4.trans s5)))) t1 (.tup [.str "a"]) (by rw [msk_of (hst.new n1).1 (hst.new n1).2, upd_same])
    have m2 := (msk_mono (S := S) (C := C) (s3.trans (s4.trans s5))) t2 (.tup [.str "b"]) (by rw [msk_of (st1.new n2).1 (st1.new n2).2, upd_same])
    have m3 := (msk_mono (S := S) (C := C) (s4.trans s5)) t3 (.tup [.str "a", .str "c"]) (by rw [msk_of (st2.new n3).1 (st2.new n3).2, upd_same])
    have m4 := (msk_mono (S := S) (C := C) s5) t4 (.tup [.str "d1"]) (by rw [msk_of (st3.new n4).1 (st3.new n4).2, upd_same])
    have sm := msk_mono (S := S) (C := C) (s1.trans (s2.trans (s3.trans (s4.trans s5))))
    refine ⟨S, C, l, [.ref t1, .ref t2, .ref t3, .ref t4], rfl, st4.same s5, by rw [msk_of (st4.new nl).1 (st4.new nl).2, upd_same], (fun z => nomatch z), by show 4 < 1073741824; decide, fun v H' hv s' st' => ?_⟩
    rcases List.mem_cons.mp hv with rfl | hv
    · exact k _ _ H' (sm.trans s') st' (s' _ _ m1)
    rcases List.mem_cons.mp hv with rfl | hv
    · exact k _ _ H' (sm.trans s') st' (s' _ _ m2)
    rcases List.mem_cons.mp hv with rfl | hv
    · exact k _ _ H' (sm.trans s') st' (s' _ _ m3)
    rcases List.mem_cons.mp hv with rfl | hv
    · exact k _ _ H' (sm.trans s') st' (s' _ _ m4)
    · cases hv
end
end K97
set_option Elab.async false
set_option linter.all false
set_option maxRecDepth 100000
set_option maxHeartbeats 4000000
/-! _law_change. -/
namespace K97
open PySem PySem.Spec PyProof.Rows L2
/-- the files known: a dict of pairs of lists -/
abbrev Kn : Type := Vx × (List Vx × List Vx)
def KvAt (L : Lab) (M : Hp) (v : V) (e : List Vx × List Vx) : Prop := ∃ t a b, v = V.ref t ∧ M t = some (.tup [.ref a, .ref b]) ∧ LE M (vxK L) a e.1 ∧ LE M (vxK L) b e.2
def KnA (w : World) (L : Lab) (M : Hp) (kd : Addr) (kn : List Kn) : Prop := ∃ kvs, ND w M (vxK L) kd kvs ∧ Paired (fun (kv : Vx × V) (e : Kn) => kv.1 = e.1 ∧ KvAt L M kv.2 e.2) kvs kn
structure KOk (kn : List Kn) : Prop where
  few : kn.length ≤ 100
  sz : ∀ e ∈ kn, e.2.1.length ≤ 100 ∧ e.2.2.length ≤ 200
  ne : ∀ e ∈ kn, e.2.1 ≠ []
  nd : ∀ e ∈ kn, e.2.2.Nodup
/-- every list right within v is new -/
def ChNew (H H' : Hp) (v : V) : Prop := ∃ t vs, v = V.ref t ∧ H' t = some (.tup vs) ∧ ∀ l xs, V.ref l ∈ vs → H' l = some (.lst xs) → H l = none
def NoL (H H' : Hp) (v : V) : Prop := ∀ l xs, v = V.ref l → H' l = some (.lst xs) → H l = none
theorem nl_str {H H' : Hp} {x : Str} : NoL H H' (.str x) := fun _ _ e => nomatch e
theorem nl_new {H H' : Hp} {r : Addr} (n : H r = none) : NoL H H' (.ref r) := fun l _ e _ => by
  cases e
  exact n
theorem nl_tup {H H' : Hp} {p : Addr} {ps : List V} (h : H' p = some (.tup ps)) : NoL H H' (.ref p) := fun l _ e q => by
  cases e
  rw [h] at q
  cases q
theorem nl_td {H H' M : Hp} {ks : List NestedKey} {v : V} (h : TD M (.tup ks) v) (t : Tk M H') : NoL H H' v := by
  obtain ⟨a, vs, rfl, ha, _⟩ := td_tup h
  exact nl_tup (t _ _ ha)
theorem nlc {H H' : Hp} {v : V} {vs : List V} (a : NoL H H' v) (b : ∀ x ∈ vs, NoL H H' x) : ∀ x ∈ v :: vs, NoL H H' x := fun x hx => by
  rcases List.mem_cons.mp hx with rfl | hx
  · exact a
  · exact b x hx
theorem nln {H H' : Hp} : ∀ x ∈ ([] : List V), NoL H H' x := fun _ h => nomatch h
theorem ch_new {H H' : Hp} {t : Addr} {vs : List V} (h : ∀ v ∈ vs, NoL H (upd H' t (.tup vs)) v) : ChNew H (upd H' t (.tup vs)) (.ref t) := ⟨t, vs, rfl, upd_same, fun l xs hl hx => h _ hl l xs rfl hx⟩
def ChOk (kn : List Kn) (is : List Id) : Ch → Prop
  | .add => True
  | .back i => i ∈ is
  | .move f xs => ∃ e ∈ kn, e.1 = f ∧ (∀ x ∈ xs, x ∈ e.2.1) ∧ xs.length ≤ 10
  | .drop f xs => ∃ e ∈ kn, e.1 = f ∧ (∀ x ∈ xs, x ∈ e.2.1) ∧ xs.length ≤ 10
  | .cut f xs => ∃ e ∈ kn, e.1 = f ∧ (∀ x ∈ xs, x ∈ e.2.2) ∧ xs.length ≤ 10
  | .order f x y => ∃ e ∈ kn, e.1 = f ∧ x ∈ e.2.2 ∧ y ∈ e.2.2
  | .lines f u d n => ∃ e ∈ kn, e.1 = f ∧ (∀ x ∈ u, x ∈ e.2.2) ∧ (∀ x ∈ d, x ∈ e.2.2) ∧ u.length ≤ 10 ∧ d.length ≤ 10 ∧ n ≤ 3
theorem KvAt.same {L : Lab} {M M' : Hp} (s : Same M M') {v : V} {e : List Vx × List Vx} (h : KvAt L M v e) : KvAt L M' v e := let ⟨t, a, b, e, h1, h2, h3⟩ := h; ⟨t, a, b, e, s _ _ h1, h2.same s, h3.same s⟩
theorem KnA.same {w : World} {L : Lab} {M M' : Hp} {kd : Addr} {kn : List Kn} (s : Same M M') (h : KnA w L M kd kn) : KnA w L M' kd kn := let ⟨kvs, a, b⟩ := h; ⟨kvs, a.same s, Paired.mapP b fun _ _ q => ⟨q.1, q.2.same s⟩⟩
theorem kn_keys {L : Lab} {M : Hp} : ∀ {kvs : List (Vx × V)} {kn : List Kn}, Paired (fun (kv : Vx × V) (e : Kn) => kv.1 = e.1 ∧ KvAt L M kv.2 e.2) kvs kn → kvs.map (·.1) = kn.map (·.1)
  | _, _, .nil => rfl
  | _, _, .cons r t => by rw [List.map_cons, List.map_cons, kn_keys t, r.1]
theorem KnA.get {w : World} {L : Lab} {M : Hp} {kd : Addr} {kn : List Kn} (h : KnA w L M kd kn) {f : Vx} (hf : f ∈ kn.map (·.1)) : ∃ kvs v e, ND w M (vxK L) kd kvs ∧ valV kvs f = some v ∧ KvAt L M v e.2 ∧ e ∈ kn ∧ e.1 = f := by
  obtain ⟨kvs, g, q⟩ := h
  obtain ⟨e, he, rfl⟩ := List.mem_map.mp hf
  obtain ⟨j, hj⟩ := List.getElem?_of_mem he
  obtain ⟨⟨k, v⟩, h1, h2, h3⟩ := pgetr q hj
  refine ⟨kvs, v, e, g, ?_, h3, he, rfl⟩
  rw [← h2]
  exact valV_of_mem (g.nodup (vxC L).toCode) (List.mem_of_getElem? h1)
theorem at_last {xs : List V} (h : xs ≠ []) : ∃ v, xs[xs.length - 1]? = some v ∧ atI xs (-1) = some v := by
  have hp : 0 < xs.length := List.length_pos_iff.mpr h
  have e : ixN xs.length (-1) = some (xs.length - 1) := by
    unfold ixN
    rw [if_neg (by decide), if_pos (by omega)]
    congr 1
    omega
  refine ⟨_, List.getElem?_eq_getElem (by omega), ?_⟩
  unfold atI
  rw [e]
  exact List.getElem?_eq_getElem (by omega)
section
variable {P : Program} {w : World} {K : PySem.W.Frag} {mg : Str → Option Value} {base : Heap}
/-- some(state, row, n) or [an item of it] -/
theorem q_orsome {L : Lab} {σ : L2.St} {H : Hp} {Q : VK} {S C l : Addr} {xs : List Vx} {i : Nat} {n : Int} {ti : TE} (h0 : σ[0]? = some (some (.ref S))) (hi : σ[i]? = some (some (.ref l))) (hst : St S C H) (hl : LE (msk S C H) (vxK L) l xs) (hz : xs.length ≤ 1000) (hn0 : 0 ≤ n) (hn : n ≤ 10)
    (hti : ∀ H' (Q' : VK), Same (msk S C H) (msk S C H') → St S C H' → (∀ v x, x ∈ xs → TD (msk S C H') (vxK L x) v → Q' v H') → ti σ H' Q')
    (q : ∀ r H' ys, Same (msk S C H) (msk S C H') → St S C H' → H r = none → LE (msk S C H') (vxK L) r ys → (∀ y ∈ ys, y ∈ xs) → ys.length ≤ 10 → Q (.ref r) H') :
    tOrT K (tCall (spSome L) [] E0 (tCons (tVar 0) (tCons (tVar i) (tCons (tC (.int n)) tNil)))) (tLst (tCons ti tNil)) σ H Q := by
  refine ⟨_, h0, _, hi, S, C, l, n, xs, rfl, hst, hl, hz, hn0, hn, fun r H' ys s st nr hr hsub hy => ?_⟩
  obtain ⟨vs, hv, ev⟩ := id hr
  refine ⟨_, .inl ⟨vs, SqL.of (msk_same _ _ hv), rfl⟩, iB (fun _ => q r H' ys s st nr hr hsub hy) (fun _ => ?_)⟩
  refine hti H' _ s st fun v x hx ht => ⟨by show 1 ≤ sizeLine; rw [sizeLine_eq]; decide, fun p np => ?_⟩
  refine q p _ [x] (s.trans (msk_mono (same_new np))) (st.same (same_new np)) (none_m s st np) ?_ (fun y hy => by rw [List.mem_singleton] at hy; rw [hy]; exact hx) (by show 1 ≤ 10; decide)
  rw [st.updm np]
  exact ⟨[v], upd_same, .cons (TD.tk (Tk.new (msk_none np)) _ _ ht) .nil⟩
/-- row[-1], row[0] -/
theorem le_last {L : Lab} {M : Hp} {l : Addr} {xs : List Vx} (hl : LE M (vxK L) l xs) (hne : xs ≠ []) : ∃ vs v x, M l = some (.lst vs) ∧ atI vs (-1) = some v ∧ x ∈ xs ∧ TD M (vxK L x) v := by
  obtain ⟨vs, hv, ev⟩ := hl
  have hvn : vs ≠ [] := fun e => by
    rw [e] at ev
    have := ev.length
    exact hne (List.length_eq_zero_iff.mp this.symm)
  obtain ⟨v, h1, h2⟩ := at_last hvn
  obtain ⟨x, hx, ht⟩ := ev.get (i := 0) h1
  exact ⟨vs, v, x, hv, h2, List.mem_of_getElem? hx, ht⟩
theorem le_first {L : Lab} {M : Hp} {l : Addr} {xs : List Vx} (hl : LE M (vxK L) l xs) (hne : xs ≠ []) : ∃ vs v x, M l = some (.lst vs) ∧ atI vs 0 = some v ∧ x ∈ xs ∧ TD M (vxK L x) v := by
  obtain ⟨vs, hv, ev⟩ := hl
  have hp : 0 < vs.length := by
    rw [ev.length]
    exact List.length_pos_iff.mpr hne
  obtain ⟨x, hx, ht⟩ := ev.get (i := 0) (List.getElem?_eq_getElem hp)
  exact ⟨vs, _, x, hv, atI_nat (j := 0) (List.getElem?_eq_getElem hp), List.mem_of_getElem? hx, ht⟩
theorem other_there {xs : List Vx} (h : xs.Nodup) (h1 : 1 < xs.length) (x : Vx) : xs.filter (fun y => decide (y ≠ x)) ≠ [] := by
  match xs, h, h1 with
  | a :: b :: t, h, _ =>
    rw [List.nodup_cons] at h
    intro z
    rw [List.filter_eq_nil_iff] at z
    have za := z a List.mem_cons_self
    have zb := z b (List.mem_cons_of_mem _ List.mem_cons_self)
    simp only [decide_eq_true_eq, Decidable.not_not] at za zb
    exact h.1 (by rw [za, ← zb]; exact List.mem_cons_self)
/-- what is new later was new before -/
theorem new_m {S C p : Addr} {H H' : Hp} (s : Same (msk S C H) (msk S C H')) (st : St S C H') (n : H' p = none) : H p = none := none_m s st n
theorem ifs_of {c : TT} {t u r : TS} {D' : Ends} {rt : VK} {bk ct : L2.St → Hp → Prop} {σ : L2.St} {H : Hp} (H1 : Hp) (rest : u { D' with nx := r D' } σ H1) (h : u { D' with nx := r D' } σ H1 → tIfS c t u { D' with nx := r D' } σ H) : tNext ⟨tSeq (tIfS c t u) r D', rt, bk, ct⟩ σ H := h rest
def spChange (L : Lab) : Sp := fun vs H Q _ => ∃ (S C kd ia : Addr) (kn : List Kn) (is : List Id), vs = [.ref S, .ref kd, .ref ia] ∧ St S C H ∧ KnA w L (msk S C H) kd kn ∧ KOk kn ∧ LE (msk S C H) (idK L) ia is ∧ is.length ≤ 100 ∧
  ∀ v c H', Same (msk S C H) (msk S C H') → St S C H' → ChAt L (msk S C H') v c → ChNew H H' v → ChOk kn is c → Q v H'
theorem scLChange : FnScope ["_law_state_here", "_law_known", "_law_ids", "_law_kind", "_law_file", "_law_given", "_law_lines", "_law_one", "_law_texts", "_law_line", "_law_k"] ["_law_state_here", "_law_known", "_law_ids"] (defScope sLChange) := ⟨rfl, rfl, rfl, by decide +kernel, rfl, by decide +kernel, by decide +kernel⟩
theorem ok_change {L : Lab} {f : Addr} {fd : FuncData} (B : Bt mg) (F : DefAt K "_law_change" "_law_change" sLChange f fd) (G1 : Df P w K mg base 1 "_law_draw" ["_law_state_here", "_law_many"] spDraw) (G2 : Df P w K mg base 2 "_law_pick" ["_law_state_here", "_law_row"] spPickL)
    (G3 : Df P w K mg base 3 "_law_some" ["_law_state_here", "_law_row", "_law_most"] (spSome L)) (G4 : Df P w K mg base 3 "_law_path" ["_law_state_here"] spPath) :
    FnOk P w K mg base CX0 4 f fd ["_law_state_here", "_law_known", "_law_ids"] (spChange (w := w) L) := by
  refine FunD.ok F scLChange (fun vs H Q E h => ?_) (fun cdv A outer s H vs Q E hr h => ?_)
  · obtain ⟨S, C, kd, ia, kn, is, rfl, _⟩ := h
    rfl
  · obtain ⟨S, C, kd, ia, kn, is, rfl, hst, hkn, kok, his, hil, k⟩ := h
    have nd := scLChange.nd
    have sl := sizeLine_eq
    have hu := hr.units
    have h1 := hr.mono (show 1 ≤ 3 by decide)
    have h2 := hr.mono (show 2 ≤ 3 by decide)
    refine ⟨_, PSs.nox (pss_cons (ps_set (i := 3) nd rfl (Or.inl rfl) (pe_df G1 h1 (by rfl) (pa_cons (pv 0) (pa_cons pe_int pa_nil))))
      (pss_cons (ps_if (PW.pt (pw_or (pt_cmpR op_eq (pe_callB (call_nlen (enc := vxK L)) (by rfl) B.len boot_len (pa_cons (pv 1) pa_nil)) pe_int (nomark _)) (pw_or1 (pt_cmpR op_eq (pv 3) pe_int (nomark _)))))
        (pss_one (ps_ret (pe_tup (pa_cons pe_str (pa_cons (pe_df G4 hr (by rfl) (pa_cons (pv 0) pa_nil)) pa_nil))))) pss_nil)
      (pss_cons (ps_if (PW.pt (pw_and (pt_cmpR op_eq (pv 3) pe_int (nomark _)) (pw_and1 (pt_cmpR op_gt (pe_callB call_len (by rfl) B.len boot_len (pa_cons (pv 2) pa_nil)) pe_int (nomark _)))))
        (pss_one (ps_ret (pe_tup (pa_cons pe_str (pa_cons (pe_df G2 h2 (by rfl) (pa_cons (pv 0) (pa_cons (pv 2) pa_nil))) pa_nil))))) pss_nil)
      (pss_cons (ps_set (i := 4) nd rfl (Or.inl rfl) (pe_df G2 h2 (by rfl) (pa_cons (pv 0) (pa_cons (pe_callB (call_sortD (vxC L) rfl hu) (by rfl) B.sorted boot_sorted (pa_cons (pv 1) pa_nil)) pa_nil))))
      (pss_cons (ps_asg (pe_nget (vxC L).toTCode hu (pv 1) (pv 4) (fun _ _ => rfl)) (pg_tup (by rfl) (pgs_cons (pg_name (i := 5) nd rfl (Or.inl rfl)) (pgs_cons (pg_name (i := 6) nd rfl (Or.inl rfl)) pgs_nil))))
      (pss_cons (ps_if (pt_cmpR op_eq (pv 3) pe_int (nomark _)) (pss_one (ps_ret (pe_tup (pa_cons pe_str (pa_cons (pv 4) (pa_cons (pe_df G4 hr (by rfl) (pa_cons (pv 0) pa_nil)) (pa_cons
          (pe_orT (pe_df G3 hr (by rfl) (pa_cons (pv 0) (pa_cons (pv 5) (pa_cons pe_int pa_nil)))) (pe_one (pe_lst (pa_cons (pe_ix ix_list (pv 5) (pe_un un_neg pe_int) (fun _ _ => rfl)) pa_nil)))) pa_nil))))))) pss_nil)
      (pss_cons (ps_if (pt_cmpR op_eq (pv 3) pe_int (nomark _)) (pss_one (ps_ret (pe_tup (pa_cons pe_str (pa_cons (pv 4) (pa_cons
          (pe_orT (pe_df G3 hr (by rfl) (pa_cons (pv 0) (pa_cons (pv 5) (pa_cons pe_int pa_nil)))) (pe_one (pe_lst (pa_cons (pe_ix ix_list (pv 5) (pe_un un_neg pe_int) (fun _ _ => rfl)) pa_nil)))) pa_nil)))))) pss_nil)
      (pss_cons (ps_if (PW.pt (pw_and (pt_cmpR op_lt (pv 3) pe_int (nomark _)) (pw_and1 (pt_cmpR op_gt (pe_callB call_len (by rfl) B.len boot_len (pa_cons (pv 6) pa_nil)) pe_int (nomark _)))))
        (pss_one (ps_ret (pe_tup (pa_cons pe_str (pa_cons (pv 4) (pa_cons
          (pe_orT (pe_df G3 hr (by rfl) (pa_cons (pv 0) (pa_cons (pv 6) (pa_cons pe_int pa_nil)))) (pe_one (pe_lst (pa_cons (pe_ix ix_list (pv 6) pe_int (fun _ _ => rfl)) pa_nil)))) pa_nil)))))) pss_nil)
      (pss_cons (ps_if (PW.pt (pw_and (pt_cmpR op_lt (pv 3) pe_int (nomark _)) (pw_and1 (pt_cmpR op_gt (pe_callB call_len (by rfl) B.len boot_len (pa_cons (pv 6) pa_nil)) pe_int (nomark _)))))
        (pss_cons (ps_set (i := 7) nd rfl (Or.inr rfl) (pe_df G2 h2 (by rfl) (pa_cons (pv 0) (pa_cons (pv 6) pa_nil))))
        (pss_one (ps_ret (pe_tup (pa_cons pe_str (pa_cons (pv 4) (pa_cons (pv 7) (pa_cons (pe_df G2 h2 (by rfl) (pa_cons (pv 0) (pa_cons (pe_lc (own := [("_law_line", 9)]) (g := gName 9) rfl nd (pi_list (pv 6))
          (blkOk_by (own := [("_law_line", 9)]) (N := ["_law_state_here", "_law_known", "_law_ids", "_law_kind", "_law_file", "_law_given", "_law_lines", "_law_one", "_law_texts", "_law_line", "_law_k"]) (sc := defScope sLChange) (by decide +kernel)) (fun _ _ _ _ _ => pg_name (i := 9) nd rfl (Or.inl rfl))
          (fun _ _ _ _ _ => pts_one (pt_cmpR (op_neE hu (vxC L).toCode) (pv 9) (pv 7) (nomark _))) (fun _ _ _ _ _ => pv 9)) pa_nil))) pa_nil)))))))) pss_nil)
      (pss_cons (ps_setLc (i := 8) (own := [("_law_k", 10)]) (g := gName 10) (tt := tYes) rfl nd rfl rfl (sw_true rfl rfl rfl (by decide +kernel)) (pi_range1 (by rfl) B.range (pa_cons (pe_op op_add pe_int (pe_df G1 h1 (by rfl) (pa_cons (pv 0) (pa_cons pe_int pa_nil)))) pa_nil))
          (blkOk_by (own := [("_law_k", 10)]) (N := ["_law_state_here", "_law_known", "_law_ids", "_law_kind", "_law_file", "_law_given", "_law_lines", "_law_one", "_law_texts", "_law_line", "_law_k"]) (sc := defScope sLChange) (by decide +kernel)) (fun _ _ _ _ _ => pg_name (i := 10) nd rfl (Or.inl rfl))
          (fun _ _ _ _ _ => pts_nil) (fun _ _ _ _ _ => pe_df G2 h2 (by rfl) (pa_cons (pv 0) (pa_cons (pe_lst (pa_cons pe_str (pa_cons pe_str (pa_cons pe_str (pa_cons pe_str (pa_cons pe_str pa_nil)))))) pa_nil))))
      (pss_one (ps_ret (pe_tup (pa_cons pe_str (pa_cons (pv 4) (pa_cons (pe_df G3 hr (by rfl) (pa_cons (pv 0) (pa_cons (pv 6) (pa_cons pe_int pa_nil)))) (pa_cons (pe_df G3 hr (by rfl) (pa_cons (pv 0) (pa_cons (pv 6) (pa_cons pe_int pa_nil)))) (pa_cons (pv 8) pa_nil)))))))))))))))))), ?_⟩
    refine ⟨_, rfl, S, C, 14, rfl, hst, by decide, fun kd0 H1 s1 st1 k0 k1 _ => ?_⟩
    have hkn1 := hkn.same s1
    obtain ⟨kvs, g, hp⟩ := id hkn1
    have keys := kn_keys hp
    have gH := g.same (msk_same (S := S) (C := C) (H := H1))
    have klen : kvs.length = kn.length := Paired.length hp
    -- an add
    have addy : tRet (tTup (tCons (tC (.str "add")) (tCons (tCall spPath [] E0 (tCons (tVar 0) tNil)) tNil))) { nx := fun _ H' => Q .non H', rt := Q } [some (.ref S), some (.ref kd), some (.ref ia), some (.int kd0), none, none, none, none, none, none, none] H1 := by
      refine ⟨_, rfl, S, C, rfl, st1, fun p ps H2 s2 st2 hp2 => ⟨by show 2 ≤ sizeLine; omega, fun t nt => ?_⟩⟩
      have s3 := msk_mono (S := S) (C := C) (same_new (o := .tup [.str "add", .ref p]) nt)
      refine k _ .add _ ((s1.trans s2).trans s3) (st2.same (same_new nt)) ⟨t, .ref p, rfl, ?_⟩ (ch_new (nlc nl_str (nlc (nl_tup (same_new nt _ _ (msk_same _ _ hp2))) nln))) trivial
      rw [st2.updm nt]
      exact upd_same
    refine ⟨_, rfl, kd, kvs, rfl, gH.r, rfl, _, rfl, ?_⟩
    rw [dec_int]
    refine iB (fun _ => iT rfl addy) (fun hb1 => ?_)
    refine ⟨_, rfl, rfl, _, rfl, iB (fun _ => addy) (fun hb2 => ?_)⟩
    have kne : kn ≠ [] := fun e => by
      rw [e] at klen
      have hb1 := of_decide_eq_false hb1
      exact hb1 (by rw [klen]; rfl)
    obtain ⟨iv, hiv, eiv⟩ := his.same s1
    have il := eiv.length
    refine ifs_of H1 ?_ (fun rest => ?_)
    rotate_left
    · refine ⟨_, rfl, rfl, _, rfl, iB (fun hb3 => ?_) (fun hb3 => iF rfl rest)⟩
      refine ⟨_, rfl, _, _, rfl, .inl ⟨_, SqL.of (msk_same _ _ hiv), rfl⟩, _, _, rfl, rfl, _, rfl, iB (fun hb4 => ?_) (fun hb4 => rest)⟩
      have hb4 := of_decide_eq_true hb4
      refine ⟨_, rfl, _, rfl, S, C, ia, iv, rfl, st1, hiv, (fun e => by rw [e] at hb4; exact absurd hb4 (by decide)), by omega, fun v H2 hv s2 st2 => ⟨by show 2 ≤ sizeLine; omega, fun t nt => ?_⟩⟩
      obtain ⟨j, hj⟩ := List.getElem?_of_mem hv
      obtain ⟨i, hi, hit⟩ := eiv.get (i := 0) hj
      have s3 := msk_mono (S := S) (C := C) (same_new (o := .tup [.str "back", v]) nt)
      refine k _ (.back i) _ ((s1.trans s2).trans s3) (st2.same (same_new nt)) ?_ (ch_new (nlc nl_str (nlc (nl_td hit ((Tk.of_same (s2.trans msk_same)).trans (Tk.new nt))) nln))) (List.mem_of_getElem? hi)
      rw [st2.updm nt]
      exact ⟨t, v, rfl, upd_same, TD.tk ((Tk.of_same s2).trans (Tk.new (msk_none nt))) _ _ hit⟩
    refine ⟨_, rfl, _, rfl, kd, kvs, rfl, gH.r, fun p vs' xs' pm ev' np => ?_⟩
    have s2 := msk_mono (S := S) (C := C) (same_new (o := .lst vs') np)
    have st2 := st1.same (same_new (o := .lst vs') np)
    have e2 : msk S C (upd H1 p (.lst vs')) = upd (msk S C H1) p (.lst vs') := st1.updm np
    have xl : xs'.length = kn.length := by rw [pm.length_eq, List.length_map, klen]
    have vl := ev'.length
    have vne : vs' ≠ [] := fun e => by
      rw [e] at vl
      exact kne (List.length_eq_zero_iff.mp (by rw [← xl, ← vl]; rfl))
    have kfew := kok.few
    refine ⟨S, C, p, vs', rfl, st2, by rw [e2, upd_same], vne, by omega, fun fv H3 hfv s3 st3 => ?_⟩
    obtain ⟨j, hj⟩ := List.getElem?_of_mem hfv
    obtain ⟨fx, hfx, hft⟩ := ev'.get (i := 0) hj
    have S13 := s2.trans s3
    have S3 := s1.trans S13
    have hft3 : TD (msk S C H3) (vxK L fx) fv := TD.tk ((st1.tk).trans (Tk.of_same S13)) _ _ hft
    have hfk : fx ∈ kn.map (·.1) := by
      rw [← keys]
      exact pm.mem_iff.mp (List.mem_of_getElem? hfx)
    have hkn3 := hkn1.same S13
    obtain ⟨kvs3, ev3, e, g3, hval, ⟨te, na, nb, rfl, hte, hna, hnb⟩, hekn, rfl⟩ := hkn3.get hfk
    obtain ⟨sz1, sz2⟩ := kok.sz e hekn
    have nne := kok.ne e hekn
    refine ⟨_, rfl, _, rfl, kd, kvs3, e.1, _, rfl, (g3.same (msk_same (S := S) (C := C) (H := H3))).r, TD.tk (Tk.of_same msk_same) _ _ hft3, hval, te, _, rfl, SqT.of (msk_same _ _ hte), rfl, _, _, rfl, _, _, rfl, rfl, ?_⟩
    -- move
    refine ⟨_, rfl, rfl, _, rfl, iB (fun _ => ?_) (fun hb5 => ?_)⟩
    · refine ⟨_, rfl, _, rfl, S, C, rfl, st3, fun pp pps H4 s4 st4 hp4 => ?_⟩
      have hna4 := hna.same s4
      refine q_orsome (n := 2) rfl rfl st4 hna4 (by omega) (by decide) (by decide) (fun H' Q' s' st' q => ?_) fun r H5 ys s5 st5 nr5 hr5 hsub hyl => ?_
      · obtain ⟨vs, v, x, h1, h2, h3, h4⟩ := le_last (hna4.same s') nne
        exact ⟨_, rfl, _, rfl, _, _, _, _, rfl, rfl, SqL.of (msk_same _ _ h1), h2, q v x h3 h4⟩
      · refine ⟨by show 4 ≤ sizeLine; omega, fun t nt => ?_⟩
        have s6 := msk_mono (S := S) (C := C) (same_new (o := .tup [.str "move", fv, .ref pp, .ref r]) nt)
        refine k _ (.move e.1 ys) _ (((S3.trans s4).trans s5).trans s6) (st5.same (same_new nt)) ?_ (ch_new (nlc nl_str (nlc (nl_td hft3 ((Tk.of_same ((s4.trans s5).trans msk_same)).trans (Tk.new nt))) (nlc (nl_tup (same_new nt _ _ (msk_same _ _ (s5 _ _ hp4)))) (nlc (nl_new (new_m (S3.trans s4) st4 nr5)) nln))))) ⟨e, hekn, rfl, hsub, hyl⟩
        rw [st5.updm nt] at s6 ⊢
        exact ⟨t, fv, pp, pps, r, rfl, upd_same, (s5.trans s6) _ _ hp4, TD.tk (Tk.of_same ((s4.trans s5).trans s6)) _ _ hft3, hr5.same s6⟩
    -- drop
    refine ⟨_, rfl, rfl, _, rfl, iB (fun _ => ?_) (fun hb6 => ?_)⟩
    · refine ⟨_, rfl, ?_⟩
      refine q_orsome (n := 2) rfl rfl st3 hna (by omega) (by decide) (by decide) (fun H' Q' s' st' q => ?_) fun r H5 ys s5 st5 nr5 hr5 hsub hyl => ?_
      · obtain ⟨vs, v, x, h1, h2, h3, h4⟩ := le_last (hna.same s') nne
        exact ⟨_, rfl, _, rfl, _, _, _, _, rfl, rfl, SqL.of (msk_same _ _ h1), h2, q v x h3 h4⟩
      · refine ⟨by show 3 ≤ sizeLine; omega, fun t nt => ?_⟩
        have s6 := msk_mono (S := S) (C := C) (same_new (o := .tup [.str "drop", fv, .ref r]) nt)
        refine k _ (.drop e.1 ys) _ ((S3.trans s5).trans s6) (st5.same (same_new nt)) ?_ (ch_new (nlc nl_str (nlc (nl_td hft3 ((Tk.of_same (s5.trans msk_same)).trans (Tk.new nt))) (nlc (nl_new (new_m S3 st3 nr5)) nln)))) ⟨e, hekn, rfl, hsub, hyl⟩
        rw [st5.updm nt] at s6 ⊢
        exact ⟨t, fv, r, rfl, upd_same, TD.tk (Tk.of_same (s5.trans s6)) _ _ hft3, hr5.same s6⟩
    obtain ⟨bv, hbv, ebv⟩ := id hnb
    have bl := ebv.length
    -- cut
    refine ifs_of H3 ?_ (fun rest => ?_)
    rotate_left
    · refine ⟨_, rfl, _, _, rfl, rfl, _, rfl, iB (fun hb7 => ?_) (fun hb7 => iF rfl rest)⟩
      refine ⟨_, rfl, _, _, rfl, .inl ⟨_, SqL.of (msk_same _ _ hbv), rfl⟩, _, _, rfl, rfl, _, rfl, iB (fun hb8 => ?_) (fun hb8 => rest)⟩
      have hb8 := of_decide_eq_true hb8
      have bne : e.2.2 ≠ [] := fun z => by
        rw [z] at bl
        rw [bl] at hb8
        exact absurd hb8 (by decide)
      refine ⟨_, rfl, ?_⟩
      refine q_orsome (n := 3) rfl rfl st3 hnb (by omega) (by decide) (by decide) (fun H' Q' s' st' q => ?_) fun r H5 ys s5 st5 nr5 hr5 hsub hyl => ?_
      · obtain ⟨vs, v, x, h1, h2, h3, h4⟩ := le_first (hnb.same s') bne
        exact ⟨_, rfl, _, _, _, _, rfl, rfl, SqL.of (msk_same _ _ h1), h2, q v x h3 h4⟩
      · refine ⟨by show 3 ≤ sizeLine; omega, fun t nt => ?_⟩
        have s6 := msk_mono (S := S) (C := C) (same_new (o := .tup [.str "cut", fv, .ref r]) nt)
        refine k _ (.cut e.1 ys) _ ((S3.trans s5).trans s6) (st5.same (same_new nt)) ?_ (ch_new (nlc nl_str (nlc (nl_td hft3 ((Tk.of_same (s5.trans msk_same)).trans (Tk.new nt))) (nlc (nl_new (new_m S3 st3 nr5)) nln)))) ⟨e, hekn, rfl, hsub, hyl⟩
        rw [st5.updm nt] at s6 ⊢
        exact ⟨t, fv, r, rfl, upd_same, TD.tk (Tk.of_same (s5.trans s6)) _ _ hft3, hr5.same s6⟩
    -- order
    refine ifs_of H3 ?_ (fun rest => ?_)
    rotate_left
    · refine ⟨_, rfl, _, _, rfl, rfl, _, rfl, iB (fun hb9 => ?_) (fun hb9 => iF rfl rest)⟩
      refine ⟨_, rfl, _, _, rfl, .inl ⟨_, SqL.of (msk_same _ _ hbv), rfl⟩, _, _, rfl, rfl, _, rfl, iB (fun hb10 => ?_) (fun hb10 => rest)⟩
      have hb10 := of_decide_eq_true hb10
      have l1 : 1 < e.2.2.length := by omega
      refine ⟨_, rfl, _, rfl, S, C, nb, bv, rfl, st3, hbv, (fun z => by rw [z] at hb10; exact absurd hb10 (by decide)), by omega, fun v H4 hv s4 st4 => ?_⟩
      obtain ⟨j, hj⟩ := List.getElem?_of_mem hv
      obtain ⟨x, hx, hxt⟩ := ebv.get (i := 0) hj
      have hbv4 := s4 _ _ hbv
      have tk4 : Tk (msk S C H3) H4 := Tk.of_same (s4.trans msk_same)
      have ebv4 := ebv.tk tk4
      have hxt4 := TD.tk tk4 _ _ hxt
      refine ⟨_, rfl, _, rfl, _, rfl, _, rfl, nb, rfl, ⟨_, SqL.of (msk_same _ _ hbv4)⟩, fun D nD => lc_accL (xs := bv) nD (RelE (vxK L) fun i => (e.2.2.take i).filter fun y => decide (y ≠ x)) RelE.mono RelE.zero (by omega) (fun H' s' => SqL.of (s' _ _ (msk_same _ _ hbv4))) ?_ ?_⟩
      · rintro i y H5 acc C2 N2 hi he s5 hD hl r2 hC hN
        obtain ⟨q, hq, hqt⟩ := ebv4.get (i := 0) he
        have hqt5 := TD.tk (Tk.of_same s5) _ _ hqt
        refine ⟨rfl, _, rfl, _, rfl, q, x, hqt5, TD.tk (Tk.of_same s5) _ _ hxt4, _, rfl, iB (fun hb => ?_) (fun hb => ?_)⟩
        · exact ⟨_, rfl, hC _ _ (Same.refl _) (r2.yes (Same.refl _) hq (by simpa using hb) hqt5)⟩
        · exact hN _ (Same.refl _) (r2.no (Same.refl _) hq (by simpa using hb))
      · intro H5 acc s5 hD hl r2
        have r2 := r2.all bl
        have al := r2.length
        have ane : acc ≠ [] := fun z => by
          rw [z] at al
          exact other_there (kok.nd e hekn) l1 x (List.length_eq_zero_iff.mp al.symm)
        have zl := List.length_filter_le (fun y => decide (y ≠ x)) e.2.2
        have st5 := st4.same s5
        have s5m := msk_mono (S := S) (C := C) s5
        have nDS := st4.new nD
        refine ⟨S, C, D, acc, rfl, st5, by rw [msk_of nDS.1 nDS.2]; exact hD, ane, by omega, fun v2 H6 hv2 s6 st6 => ⟨by show 4 ≤ sizeLine; omega, fun t nt => ?_⟩⟩
        obtain ⟨j2, hj2⟩ := List.getElem?_of_mem hv2
        obtain ⟨y, hy, hyt⟩ := r2.get (i := 0) hj2
        have hym : y ∈ e.2.2 := (List.mem_filter.mp (List.mem_of_getElem? hy)).1
        have s7 := msk_mono (S := S) (C := C) (same_new (o := .tup [.str "order", fv, v, v2]) nt)
        refine k _ (.order e.1 x y) _ ((((S3.trans s4).trans s5m).trans s6).trans s7) (st6.same (same_new nt)) ?_ (ch_new (nlc nl_str (nlc (nl_td hft3 ((Tk.of_same (((s4.trans s5m).trans s6).trans msk_same)).trans (Tk.new nt))) (nlc (nl_td hxt ((Tk.of_same (((s4.trans s5m).trans s6).trans msk_same)).trans (Tk.new nt))) (nlc (nl_td hyt (((st5.tk).trans (Tk.of_same (s6.trans msk_same))).trans (Tk.new nt))) nln))))) ⟨e, hekn, rfl, List.mem_of_getElem? hx, hym⟩
        rw [st6.updm nt] at s7 ⊢
        exact ⟨t, fv, v, v2, rfl, upd_same, TD.tk (Tk.of_same (((s4.trans s5m).trans s6).trans s7)) _ _ hft3, TD.tk (Tk.of_same (((s4.trans s5m).trans s6).trans s7)) _ _ hxt, TD.tk ((st5.tk).trans (Tk.of_same (s6.trans s7))) _ _ hyt⟩
    -- lines
    refine ⟨_, rfl, S, C, 3, rfl, st3, by decide, fun r H4 s4 st4 r0 r1 _ => ?_⟩
    have r3 := r1 (by decide)
    refine ⟨_, _, rfl, rfl, _, rfl, by omega, by omega, fun D nD => ?_⟩
    have nDS := st4.new nD
    have nDm : msk S C H4 D = none := msk_none nD
    refine lc_range (lo := 0) (n := (1 + r).toNat) (fun i H' => Same (msk S C H4) (msk S C H') ∧ St S C H' ∧ ∃ ts, H' D = some (.lst ts) ∧ ts.length = i) ⟨msk_mono (same_new nD), st4.same (same_new nD), [], upd_same, rfl⟩ ?_ ?_
    · rintro i H5 hi ⟨s5, st5, ts, hts, htl⟩
      refine ⟨rfl, ?_⟩
      refine ⟨_, rfl, by show 5 ≤ sizeLine; omega, fun l nl => ?_⟩
      have s6 := msk_mono (S := S) (C := C) (same_new (o := .lst [.str "x", .str "y", .str "", .str "z z", .str "~"]) nl)
      have st6 := st5.same (same_new (o := .lst [.str "x", .str "y", .str "", .str "z z", .str "~"]) nl)
      have nlS := st5.new nl
      have mD : msk S C (upd H5 l (.lst [.str "x", .str "y", .str "", .str "z z", .str "~"])) D = some (.lst ts) := by
        rw [msk_of nDS.1 nDS.2]
        exact same_new nl _ _ hts
      refine ⟨S, C, l, [.str "x", .str "y", .str "", .str "z z", .str "~"], rfl, st6, by rw [msk_of nlS.1 nlS.2, upd_same], (fun z => nomatch z), by show 5 < 1073741824; decide, fun v H7 hv s7 st7 => ?_⟩
      have hD7 : H7 D = some (.lst ts) := msk_same _ _ (s7 _ _ mD)
      refine ⟨ts, hD7, by omega, ?_, ?_, _, upd_same, by rw [List.length_append, htl]; rfl⟩
      · rw [msk_upd nDS.1 nDS.2]
        intro b o q
        rw [upd_ne (ne_of_none q nDm)]
        exact ((s5.trans s6).trans s7) _ _ q
      · obtain ⟨q1, cs, m, q2, q3⟩ := st7
        exact ⟨q1, cs, m, by rw [upd_ne nDS.1.symm]; exact q2, by rw [upd_ne nDS.2.symm]; exact q3⟩
    · rintro H5 ⟨s5, st5, ts, hts, htl⟩
      have mD : msk S C H5 D = some (.lst ts) := by
        rw [msk_of nDS.1 nDS.2]
        exact hts
      have S45 := s4.trans s5
      refine ⟨_, rfl, _, rfl, _, rfl, S, C, nb, 2, e.2.2, rfl, st5, hnb.same S45, by omega, by decide, by decide, fun ru H6 us s6 st6 nru hru hus hul => ?_⟩
      refine ⟨_, rfl, _, rfl, S, C, nb, 2, e.2.2, rfl, st6, hnb.same (S45.trans s6), by omega, by decide, by decide, fun rd H7 ds s7 st7 nrd hrd hds hdl => ?_⟩
      refine ⟨_, rfl, by show 5 ≤ sizeLine; omega, fun t nt => ?_⟩
      have s8 := msk_mono (S := S) (C := C) (same_new (o := .tup [.str "lines", fv, .ref ru, .ref rd, .ref D]) nt)
      refine k _ (.lines e.1 us ds ts.length) _ ((((S3.trans S45).trans s6).trans s7).trans s8) (st7.same (same_new nt)) ?_ (ch_new (nlc nl_str (nlc (nl_td hft3 ((Tk.of_same (((S45.trans s6).trans s7).trans msk_same)).trans (Tk.new nt))) (nlc (nl_new (new_m (S3.trans S45) st5 nru)) (nlc (nl_new (new_m ((S3.trans S45).trans s6) st6 nrd)) (nlc (nl_new (new_m (S3.trans s4) st4 nD)) nln)))))) ⟨e, hekn, rfl, hus, hds, hul, hdl, by omega⟩
      rw [st7.updm nt] at s8 ⊢
      exact ⟨t, fv, ru, rd, D, ts, rfl, upd_same, TD.tk (Tk.of_same (((S45.trans s6).trans s7).trans s8)) _ _ hft3, hru.same (s7.trans s8), hrd.same s8, ((s6.trans s7).trans s8) _ _ mD, rfl⟩
end
end K97
set_option Elab.async false
set_option linter.all false
set_option maxRecDepth 100000
set_option maxHeartbeats 4000000
/-! The row of patches, the files known: plain facts. -/
namespace K97
open PySem PySem.Spec PyProof.Rows L2
def cnt (ps : List Pa) (a : _root_.Fin 3) : Nat := (ps.filter fun q => decide (q.id.au = a)).length
inductive RowOk : List Pa → Prop
  | nil : RowOk []
  | snoc {ps : List Pa} {p : Pa} : RowOk ps → p.ok → p.id.no = 1 + (cnt ps p.id.au : Int) → (∀ i ∈ p.needs, i ∈ ids ps) → RowOk (ps ++ [p])
theorem cnt_snoc (ps : List Pa) (p : Pa) (a : _root_.Fin 3) : cnt (ps ++ [p]) a = cnt ps a + if p.id.au = a then 1 else 0 := by
  unfold cnt
  rw [List.filter_append, List.length_append]
  by_cases h : p.id.au = a
  · simp [h]
  · simp [h]
theorem RowOk.low {ps : List Pa} (h : RowOk ps) : ∀ q ∈ ps, q.id.no ≤ (cnt ps q.id.au : Int) := by
  induction h with
  | nil => exact fun q hq => nomatch hq
  | snoc h1 h2 h3 h4 ih =>
    intro q hq
    rw [cnt_snoc]
    rcases List.mem_append.mp hq with hq | hq
    · have := ih q hq
      omega
    · rw [List.mem_singleton] at hq
      subst hq
      rw [h3, if_pos rfl]
      omega
theorem ids_app (ps qs : List Pa) : ids (ps ++ qs) = ids ps ++ ids qs := List.map_append
theorem RowOk.nodup {ps : List Pa} (h : RowOk ps) : (ids ps).Nodup := by
  induction h with
  | nil => exact List.nodup_nil
  | @snoc ps p h1 h2 h3 h4 ih =>
    rw [ids_app]
    refine List.nodup_append.mpr ⟨ih, by simp [ids], fun a ha b hb e => ?_⟩
    have hb : b = p.id := by simpa [ids] using hb
    obtain ⟨q, hq, rfl⟩ := List.mem_map.mp ha
    have := h1.low q hq
    rw [hb] at e
    rw [e, h3] at this
    omega
theorem RowOk.ok {ps : List Pa} (h : RowOk ps) : ∀ p ∈ ps, p.ok := by
  induction h with
  | nil => exact fun q hq => nomatch hq
  | snoc h1 h2 h3 h4 ih =>
    intro q hq
    rcases List.mem_append.mp hq with hq | hq
    · exact ih q hq
    · rw [List.mem_singleton] at hq
      rw [hq]
      exact h2
theorem RowOk.before {ps : List Pa} (h : RowOk ps) : ∀ (j : Nat) (p : Pa), ps[j]? = some p → ∀ i ∈ p.needs, i ∈ ids (ps.take j) := by
  induction h with
  | nil => exact fun j p e => by simp at e
  | @snoc ps p h1 h2 h3 h4 ih =>
    intro j q e i hi
    by_cases hj : j < ps.length
    · rw [List.getElem?_append_left hj] at e
      rw [List.take_append_of_le_length (Nat.le_of_lt hj)]
      exact ih j q e i hi
    · rw [List.getElem?_append_right (by omega)] at e
      have e2 : j - ps.length = 0 := by
        cases c : j - ps.length with
        | zero => rfl
        | succ n =>
          rw [c] at e
          simp at e
      rw [e2] at e
      have e : p = q := by simpa using e
      subst e
      rw [show j = ps.length by omega, List.take_left]
      exact h4 i hi
theorem RowOk.there {ps : List Pa} (h : RowOk ps) : ∀ p ∈ ps, ∀ i ∈ p.needs, i ∈ ids ps := by
  intro p hp i hi
  obtain ⟨j, hj⟩ := List.getElem?_of_mem hp
  have := h.before j p hj i hi
  unfold ids at this ⊢
  obtain ⟨q, hq, rfl⟩ := List.mem_map.mp this
  exact List.mem_map.mpr ⟨q, List.mem_of_mem_take hq, rfl⟩
theorem RowOk.own {ps : List Pa} (h : RowOk ps) : ∀ p ∈ ps, ∀ i ∈ p.needs, i ≠ p.id := by
  intro p hp i hi e
  obtain ⟨j, hj⟩ := List.getElem?_of_mem hp
  have h1 := h.before j p hj i hi
  have h2 := h.nodup
  have e2 : ids ps = ids (ps.take j) ++ ids (ps.drop j) := by rw [← ids_app, List.take_append_drop]
  rw [e2] at h2
  obtain ⟨_, _, h3⟩ := List.nodup_append.mp h2
  have hlt := (List.getElem?_eq_some_iff.mp hj).1
  have : p.id ∈ ids (ps.drop j) := by
    rw [List.drop_eq_getElem_cons hlt]
    rw [List.getElem?_eq_getElem hlt] at hj
    injection hj with hj
    rw [hj]
    exact List.mem_cons_self
  exact h3 i h1 p.id this e
theorem RowOk.wok {ps : List Pa} (h : RowOk ps) (few : ps.length ≤ 9) : Wok ps := ⟨h.ok, few, h.there⟩
/-! ### the files known -/
def kput (kn : List Kn) (f : Vx) (e : List Vx × List Vx) : List Kn := if f ∈ kn.map (·.1) then kn.map fun x => if x.1 = f then (f, e) else x else kn ++ [(f, e)]
theorem mem_kput {kn : List Kn} {f : Vx} {e : List Vx × List Vx} {x : Kn} (h : x ∈ kput kn f e) : x = (f, e) ∨ x ∈ kn := by
  unfold kput at h
  split at h
  · obtain ⟨y, hy, rfl⟩ := List.mem_map.mp h
    split
    · exact .inl rfl
    · exact .inr hy
  · rcases List.mem_append.mp h with h | h
    · exact .inr h
    · exact .inl (List.mem_singleton.mp h)
theorem len_kput {kn : List Kn} {f : Vx} {e : List Vx × List Vx} : (kput kn f e).length ≤ kn.length + 1 := by
  unfold kput
  split
  · rw [List.length_map]
    omega
  · rw [List.length_append]
    exact Nat.le_refl _
theorem len_kput_in {kn : List Kn} {f : Vx} {e : List Vx × List Vx} (h : f ∈ kn.map (·.1)) : (kput kn f e).length = kn.length := by
  unfold kput
  rw [if_pos h, List.length_map]
structure KInv (old : Vx → Prop) (T : Nat) (kn : List Kn) : Prop where
  few : kn.length ≤ T
  sz : ∀ e ∈ kn, e.2.1.length ≤ T ∧ e.2.2.length ≤ 3 * T
  ne : ∀ e ∈ kn, e.2.1 ≠ []
  nd : ∀ e ∈ kn, e.2.2.Nodup
  old : ∀ e ∈ kn, old e.1 ∧ (∀ x ∈ e.2.1, old x) ∧ ∀ x ∈ e.2.2, old x
theorem KInv.kok {old : Vx → Prop} {T : Nat} {kn : List Kn} (h : KInv old T kn) (hT : T ≤ 50) : KOk kn := ⟨by have := h.few; omega, fun e he => by have := h.sz e he; omega, h.ne, h.nd⟩
theorem KInv.weak {old old' : Vx → Prop} {T T' : Nat} {kn : List Kn} (h : KInv old T kn) (ho : ∀ x, old x → old' x) (hT : T ≤ T') : KInv old' T' kn :=
  ⟨Nat.le_trans h.few hT, fun e he => by have := h.sz e he; omega, h.ne, h.nd, fun e he => ⟨ho _ (h.old e he).1, fun x hx => ho _ ((h.old e he).2.1 x hx), fun x hx => ho _ ((h.old e he).2.2 x hx)⟩⟩
theorem KInv.put {old old' : Vx → Prop} {T : Nat} {kn : List Kn} (h : KInv old T kn) (ho : ∀ x, old x → old' x) {f : Vx} {e : List Vx × List Vx} (s1 : e.1.length ≤ T + 1) (s2 : e.2.length ≤ 3 * (T + 1)) (n : e.1 ≠ []) (d : e.2.Nodup) (o1 : old' f) (o2 : ∀ x ∈ e.1, old' x) (o3 : ∀ x ∈ e.2, old' x) : KInv old' (T + 1) (kput kn f e) := by
  have g := h.weak ho (Nat.le_succ T)
  refine ⟨Nat.le_trans len_kput (Nat.succ_le_succ h.few), fun x hx => ?_, fun x hx => ?_, fun x hx => ?_, fun x hx => ?_⟩
  · rcases mem_kput hx with rfl | hx
    · exact ⟨s1, s2⟩
    · exact g.sz x hx
  · rcases mem_kput hx with rfl | hx
    · exact n
    · exact g.ne x hx
  · rcases mem_kput hx with rfl | hx
    · exact d
    · exact g.nd x hx
  · rcases mem_kput hx with rfl | hx
    · exact ⟨o1, o2, o3⟩
    · exact g.old x hx
theorem kput_paired {L : Lab} {M : Hp} {f : Vx} {e : List Vx × List Vx} {v : V} (hv : KvAt L M v e) : ∀ {kvs : List (Vx × V)} {kn : List Kn}, Paired (fun (kv : Vx × V) (x : Kn) => kv.1 = x.1 ∧ KvAt L M kv.2 x.2) kvs kn → Paired (fun (kv : Vx × V) (x : Kn) => kv.1 = x.1 ∧ KvAt L M kv.2 x.2) (putK kvs f v) (kput kn f e) := by
  intro kvs kn q
  have keys := kn_keys q
  unfold kput putK
  rw [valV_any, valV_isSome, keys]
  by_cases h : f ∈ kn.map (·.1)
  · rw [if_pos (decide_eq_true h), if_pos h]
    clear keys h
    induction q with
    | nil => exact .nil
    | @cons kv x _ _ r t ih =>
      rw [List.map_cons, List.map_cons]
      refine .cons ?_ ih
      by_cases c : kv.1 = f
      · rw [if_pos c, if_pos (r.1.symm.trans c)]
        exact ⟨c, hv⟩
      · rw [if_neg c, if_neg fun z => c (r.1.trans z)]
        exact r
  · rw [decide_eq_false h, if_neg (by decide), if_neg h]
    exact q.snoc ⟨rfl, hv⟩
/-- a change's vertices, of old ids; its backs -/
def ChGood (mine : Vx → Prop) (is : List Id) (c : Ch) : Prop := c.small ∧ (∀ x ∈ c.vx, mine x) ∧ ∀ i ∈ c.bk, i ∈ is
theorem ch_good {old : Vx → Prop} {T : Nat} {kn : List Kn} {is : List Id} (h : KInv old T kn) : ∀ {c : Ch}, ChOk kn is c → ChGood old is c
  | .add, _ => ⟨⟨by simp [Ch.vx, Ch.file], trivial⟩, by simp [Ch.vx, Ch.file], by simp [Ch.bk]⟩
  | .back i, hi => ⟨⟨by simp [Ch.vx, Ch.file], trivial⟩, by simp [Ch.vx, Ch.file], by simp [Ch.bk]; exact hi⟩
  | .move f xs, ⟨e, he, ef, hs, hl⟩ => ⟨⟨by simp [Ch.vx, Ch.file, Ch.olds, Ch.lns]; omega, trivial⟩, by
      subst ef
      simp only [Ch.vx, Ch.file, Ch.olds, Ch.lns, List.append_nil, List.mem_cons]
      rintro x (rfl | hx)
      · exact (h.old e he).1
      · exact (h.old e he).2.1 x (hs x hx), by simp [Ch.bk]⟩
  | .drop f xs, ⟨e, he, ef, hs, hl⟩ => ⟨⟨by simp [Ch.vx, Ch.file, Ch.olds, Ch.lns]; omega, trivial⟩, by
      subst ef
      simp only [Ch.vx, Ch.file, Ch.olds, Ch.lns, List.append_nil, List.mem_cons]
      rintro x (rfl | hx)
      · exact (h.old e he).1
      · exact (h.old e he).2.1 x (hs x hx), by simp [Ch.bk]⟩
  | .cut f xs, ⟨e, he, ef, hs, hl⟩ => ⟨⟨by simp [Ch.vx, Ch.file, Ch.olds, Ch.lns]; omega, trivial⟩, by
      subst ef
      simp only [Ch.vx, Ch.file, Ch.olds, Ch.lns, List.nil_append, List.mem_cons]
      rintro x (rfl | hx)
      · exact (h.old e he).1
      · exact (h.old e he).2.2 x (hs x hx), by simp [Ch.bk]⟩
  | .order f a b, ⟨e, he, ef, ha, hb⟩ => ⟨⟨by simp [Ch.vx, Ch.file, Ch.olds, Ch.lns], trivial⟩, by
      subst ef
      simp only [Ch.vx, Ch.file, Ch.olds, Ch.lns, List.nil_append, List.mem_cons, List.not_mem_nil, or_false]
      rintro x (rfl | rfl | rfl)
      · exact (h.old e he).1
      · exact (h.old e he).2.2 _ ha
      · exact (h.old e he).2.2 _ hb, by simp [Ch.bk]⟩
  | .lines f u d n, ⟨e, he, ef, hu, hd, lu, ld, ln⟩ => ⟨⟨by simp [Ch.vx, Ch.file, Ch.olds, Ch.lns]; omega, by show n ≤ 500; omega⟩, by
      subst ef
      simp only [Ch.vx, Ch.file, Ch.olds, Ch.lns, List.nil_append, List.mem_cons, List.mem_append]
      rintro x (rfl | hx | hx)
      · exact (h.old e he).1
      · exact (h.old e he).2.2 x (hu x hx)
      · exact (h.old e he).2.2 x (hd x hx), by simp [Ch.bk]⟩
/-- the patch made of good changes -/
theorem patch_row {ps : List Pa} {p : Pa} (h : RowOk ps) (hl : p.chs.length ≤ 12) (hn : p.id.no = 1 + (cnt ps p.id.au : Int)) (hc : ∀ c ∈ p.chs, ChGood (fun x => x.id ∈ ids ps ∨ x.id = p.id) (ids ps) c) : RowOk (ps ++ [p]) := by
  refine .snoc h ⟨hl, fun c hc' => (hc c hc').1⟩ hn fun i hi => ?_
  rcases List.mem_append.mp hi with hi | hi
  · obtain ⟨hne, c, hc', x, hx, rfl⟩ := mem_vxIds.mp hi
    rcases (hc c hc').2.1 x hx with z | z
    · exact z
    · exact absurd z hne
  · obtain ⟨c, hc', hb⟩ := List.mem_flatMap.mp hi
    exact (hc c hc').2.2 i hb
end K97
set_option Elab.async false
set_option linter.all false
set_option maxRecDepth 100000
set_option maxHeartbeats 4000000
/-! Hiding the objects that change. -/
namespace K97
open PySem PySem.Spec PyProof.Rows L2
open Classical in
noncomputable def hid (D : Addr → Prop) (H : Hp) : Hp := fun b => if D b then none else H b
theorem msk_but {S C d : Addr} {H H' : Hp} (b : But d H H') : But d (msk S C H) (msk S C H') := fun a n => by
  unfold msk
  split
  · rfl
  · exact b a n
section
variable {D D' : Addr → Prop} {H H' : Hp} {S C a : Addr} {o : HO}
theorem hid_of (h : ¬ D a) : hid D H a = H a := if_neg h
theorem hid_in (h : D a) : hid D H a = none := if_pos h
theorem hid_same : Same (hid D H) H := fun b o h => by
  by_cases c : D b
  · rw [hid_in c] at h
    cases h
  · rwa [hid_of c] at h
theorem hid_mono (s : Same H H') : Same (hid D H) (hid D H') := fun b o h => by
  by_cases c : D b
  · rw [hid_in c] at h
    cases h
  · rw [hid_of c] at h ⊢
    exact s _ _ h
theorem hid_msk (hS : D S) (hC : D C) (s : Same (msk S C H) (msk S C H')) : Same (hid D H) (hid D H') := fun b o h => by
  by_cases c : D b
  · rw [hid_in c] at h
    cases h
  · rw [hid_of c] at h ⊢
    have e1 : b ≠ S := fun e : b = S => c (e ▸ hS)
    have e2 : b ≠ C := fun e : b = C => c (e ▸ hC)
    have := s b o (by rw [msk_of e1 e2]; exact h)
    rwa [msk_of e1 e2] at this
theorem hid_le (hS : D S) (hC : D C) : Same (hid D H) (msk S C H) := fun b o h => by
  by_cases c : D b
  · rw [hid_in c] at h
    cases h
  · rw [hid_of c] at h
    rw [msk_of (fun e : b = S => c (e ▸ hS)) (fun e : b = C => c (e ▸ hC))]
    exact h
theorem hid_put (h : D a) : hid D (upd H a o) = hid D H := by
  funext b
  by_cases c : D b
  · rw [hid_in c, hid_in c]
  · rw [hid_of c, hid_of c, upd_ne fun e : b = a => c (e ▸ h)]
theorem hid_but (h : D a) (b : But a H H') : hid D H' = hid D H := by
  funext x
  by_cases c : D x
  · rw [hid_in c, hid_in c]
  · rw [hid_of c, hid_of c, b x fun e : x = a => c (e ▸ h)]
theorem hid_none (h : H a = none) : hid D H a = none := by
  by_cases c : D a
  · exact hid_in c
  · rw [hid_of c]
    exact h
/-- the hidden ones are there, and no tuples -/
def Dn (D : Addr → Prop) (H : Hp) : Prop := ∀ a, D a → ∃ o, H a = some o ∧ ∀ xs, o ≠ .tup xs
theorem Dn.tk (d : Dn D H) : Tk H (hid D H) := fun b xs h => by
  by_cases c : D b
  · obtain ⟨o, e, n⟩ := d b c
    rw [h] at e
    cases e
    exact absurd rfl (n xs)
  · rw [hid_of c]
    exact h
theorem Dn.new (d : Dn D H) (n : H a = none) : ¬ D a := fun c => by
  obtain ⟨o, e, _⟩ := d a c
  rw [n] at e
  cases e
theorem Dn.same (d : Dn D H) (s : Same H H') : Dn D H' := fun a c => let ⟨o, e, n⟩ := d a c; ⟨o, s _ _ e, n⟩
theorem hid_new (d : Dn D H) (n : H a = none) : hid D (upd H a o) = upd (hid D H) a o := by
  funext b
  by_cases e : b = a
  · subst e
    rw [hid_of (d.new n), upd_same, upd_same]
  · rw [upd_ne e]
    by_cases c : D b
    · rw [hid_in c, hid_in c]
    · rw [hid_of c, hid_of c, upd_ne e]
theorem le_hid {α : Type} {M : Hp} {enc : α → NestedKey} {l : Addr} {xs : List α} (d : Dn D H) (h : LE M enc l xs) (s : Same M H) (n : ¬ D l) : LE (hid D H) enc l xs := by
  obtain ⟨vs, h1, h2⟩ := h
  exact ⟨vs, by rw [hid_of n]; exact s _ _ h1, h2.tk ((Tk.of_same s).trans d.tk)⟩
/-- a change of new lists, seen with all that hidden that was there -/
theorem ch_hid {L : Lab} {v : V} {M : Hp} (dn : Dn D H') (dh : ∀ a, D a → H a ≠ none) (s : Same M H') (nw : ChNew H H' v) : ∀ {c : Ch}, ChAt L M v c → ChAt L (hid D H') v c := by
  obtain ⟨t0, vs0, rfl, ht0, hnew⟩ := nw
  have tk : Tk M (hid D H') := (Tk.of_same s).trans dn.tk
  have lst : ∀ {l : Addr} {xs : List Vx}, V.ref l ∈ vs0 → LE M (vxK L) l xs → LE (hid D H') (vxK L) l xs := fun {l xs} hm h => by
    obtain ⟨vs, h1, h2⟩ := id h
    exact le_hid dn h s fun c => dh l c (hnew l vs hm (s _ _ h1))
  have eqs : ∀ {a : Addr} {vs : List V}, V.ref t0 = .ref a → M a = some (.tup vs) → vs = vs0 := fun {a vs} e h => by
    cases e
    have := s _ _ h
    rw [ht0] at this
    cases this
    rfl
  intro c h
  cases c with
  | add =>
    obtain ⟨a, p, e, h1⟩ := h
    exact ⟨a, p, e, tk _ _ h1⟩
  | back i =>
    obtain ⟨a, u, e, h1, h2⟩ := h
    exact ⟨a, u, e, tk _ _ h1, TD.tk tk _ _ h2⟩
  | move f xs =>
    obtain ⟨a, fv, pa, ps, l, e, h1, h2, h3, h4⟩ := h
    have q := eqs e h1
    exact ⟨a, fv, pa, ps, l, e, tk _ _ h1, tk _ _ h2, TD.tk tk _ _ h3, lst (by rw [← q]; simp) h4⟩
  | drop f xs =>
    obtain ⟨a, fv, l, e, h1, h3, h4⟩ := h
    have q := eqs e h1
    exact ⟨a, fv, l, e, tk _ _ h1, TD.tk tk _ _ h3, lst (by rw [← q]; simp) h4⟩
  | cut f xs =>
    obtain ⟨a, fv, l, e, h1, h3, h4⟩ := h
    have q := eqs e h1
    exact ⟨a, fv, l, e, tk _ _ h1, TD.tk tk _ _ h3, lst (by rw [← q]; simp) h4⟩
  | order f x y =>
    obtain ⟨a, fv, xv, yv, e, h1, h2, h3, h4⟩ := h
    exact ⟨a, fv, xv, yv, e, tk _ _ h1, TD.tk tk _ _ h2, TD.tk tk _ _ h3, TD.tk tk _ _ h4⟩
  | lines f u d n =>
    obtain ⟨a, fv, lu, ld, lt, ts, e, h1, h2, h3, h4, h5, h6⟩ := h
    have q := eqs e h1
    refine ⟨a, fv, lu, ld, lt, ts, e, tk _ _ h1, TD.tk tk _ _ h2, lst (by rw [← q]; simp) h3, lst (by rw [← q]; simp) h4, ?_, h6⟩
    rw [hid_of fun c => dh lt c (hnew lt ts (by rw [← q]; simp) (s _ _ h5))]
    exact s _ _ h5
end
/-! ### what stands while the row is made -/
structure Ow (w : World) (L : Lab) (S C ro kd : Addr) (la : V) (D : Addr → Prop) (H0 H : Hp) (ps : List Pa) (kn : List Kn) : Prop where
  s : Same (msk S C H0) (msk S C H)
  st : St S C H
  dn : Dn D H
  row : ∃ rvs, H ro = some (.lst rvs) ∧ Paired (PaAt L (hid D H)) rvs ps
  kn : ∃ kvs, ND w H (vxK L) kd kvs ∧ Paired (fun (kv : Vx × V) (e : Kn) => kv.1 = e.1 ∧ KvAt L (hid D H) kv.2 e.2) kvs kn
  lab : TD H (labK L) la
/-- the hidden ones -/
structure Hd (S C ro kd : Addr) (D : Addr → Prop) (H0 : Hp) : Prop where
  dS : D S
  dC : D C
  dro : D ro
  dkd : D kd
  nro : H0 ro = none
  nkd : H0 kd = none
  roS : ro ≠ S
  roC : ro ≠ C
  kdS : kd ≠ S
  kdC : kd ≠ C
  rk : ro ≠ kd
section
variable {w : World} {L : Lab} {S C ro kd : Addr} {la : V} {D : Addr → Prop} {H0 H H' : Hp} {ps : List Pa} {kn : List Kn}
theorem Ow.same (h : Ow w L S C ro kd la D H0 H ps kn) (s : Same H H') : Ow w L S C ro kd la D H0 H' ps kn where
  s := h.s.trans (msk_mono s)
  st := h.st.same s
  dn := h.dn.same s
  row := let ⟨rvs, a, b⟩ := h.row; ⟨rvs, s _ _ a, Paired.mapP b fun _ _ q => q.same (hid_mono s)⟩
  kn := let ⟨kvs, a, b⟩ := h.kn; ⟨kvs, a.same s, Paired.mapP b fun _ _ q => ⟨q.1, q.2.same (hid_mono s)⟩⟩
  lab := TD.tk (Tk.of_same s) _ _ h.lab
/-- behind a call that draws -/
theorem Ow.call (h : Ow w L S C ro kd la D H0 H ps kn) (hd : Hd S C ro kd D H0) (s : Same (msk S C H) (msk S C H')) (st : St S C H') : Ow w L S C ro kd la D H0 H' ps kn where
  s := h.s.trans s
  st := st
  dn := fun a c => by
    by_cases e1 : a = S
    · rw [e1]
      obtain ⟨_, cs, m, q, _⟩ := st
      exact ⟨_, q, fun _ z => nomatch z⟩
    · by_cases e2 : a = C
      · rw [e2]
        obtain ⟨_, cs, m, _, q⟩ := st
        exact ⟨_, q, fun _ z => nomatch z⟩
      · obtain ⟨o, e, n⟩ := h.dn a c
        refine ⟨o, msk_same _ _ (s a o ?_), n⟩
        rw [msk_of e1 e2]
        exact e
  row := by
    obtain ⟨rvs, a, b⟩ := h.row
    refine ⟨rvs, msk_same _ _ (s ro _ ?_), Paired.mapP b fun _ _ q => q.same (hid_msk hd.dS hd.dC s)⟩
    rw [msk_of hd.roS hd.roC]
    exact a
  kn := by
    obtain ⟨kvs, a, b⟩ := h.kn
    refine ⟨kvs, ((a.tk h.st.tk (msk_of hd.kdS hd.kdC)).same s).same msk_same, Paired.mapP b fun _ _ q => ⟨q.1, q.2.same (hid_msk hd.dS hd.dC s)⟩⟩
  lab := TD.tk (h.st.tk.trans (Tk.of_same (s.trans msk_same))) _ _ h.lab
/-- known, for a call -/
theorem Ow.kna (h : Ow w L S C ro kd la D H0 H ps kn) (hd : Hd S C ro kd D H0) : KnA w L (msk S C H) kd kn := by
  obtain ⟨kvs, a, b⟩ := h.kn
  exact ⟨kvs, a.tk h.st.tk (msk_of hd.kdS hd.kdC), Paired.mapP b fun _ _ q => ⟨q.1, q.2.same (hid_le hd.dS hd.dC)⟩⟩
/-- known, stored to -/
theorem Ow.put (h : Ow w L S C ro kd la D H0 H ps kn) (hd : Hd S C ro kd D H0) {kvs : List (Vx × V)} {f : Vx} {v : V} {e : List Vx × List Vx} (hp : Paired (fun (kv : Vx × V) (e : Kn) => kv.1 = e.1 ∧ KvAt L (hid D H) kv.2 e.2) kvs kn) (hg : ND w H (vxK L) kd kvs) (hv : KvAt L (hid D H) v e) (but : But kd H H') (g : ND w H' (vxK L) kd (putK kvs f v)) : Ow w L S C ro kd la D H0 H' ps (kput kn f e) where
  s := fun b o q => by
    have nk : msk S C H0 kd = none := msk_none hd.nkd
    have e1 := ne_of_none q nk
    have := h.s b o q
    rwa [show msk S C H' b = msk S C H b from msk_but but b e1]
  st := by
    obtain ⟨n, cs, m, a, b⟩ := h.st
    exact ⟨n, cs, m, by rw [but _ hd.kdS.symm]; exact a, by rw [but _ hd.kdC.symm]; exact b⟩
  dn := fun a c => by
    by_cases e1 : a = kd
    · rw [e1]
      obtain ⟨xs, q⟩ := g.there
      exact ⟨_, q, fun ys => ndO_ne ys⟩
    · obtain ⟨o, e, n⟩ := h.dn a c
      exact ⟨o, by rw [but a e1]; exact e, n⟩
  row := by
    obtain ⟨rvs, a, b⟩ := h.row
    refine ⟨rvs, by rw [but _ hd.rk]; exact a, ?_⟩
    rw [hid_but hd.dkd but]
    exact b
  kn := ⟨_, g, by
    rw [hid_but hd.dkd but]
    exact kput_paired hv hp⟩
  lab := TD.tk ((Kp.but but).tkn hg) _ _ h.lab
/-- another hidden list, changed -/
theorem Ow.mut (h : Ow w L S C ro kd la D H0 H ps kn) (hd : Hd S C ro kd D H0) {a : Addr} {xs ys : List V} (ha : H a = some (.lst xs)) (hD : D a) (h0 : H0 a = none) (aS : a ≠ S) (aC : a ≠ C) (ar : a ≠ ro) : Ow w L S C ro kd la D H0 (upd H a (.lst ys)) ps kn := by
  have ak : kd ≠ a := by
    obtain ⟨kvs, g, _⟩ := h.kn
    obtain ⟨xs', q⟩ := g.there
    exact ne_of q ha fun z => by unfold ndO at z; cases z
  have tk : Tk H (upd H a (.lst ys)) := Tk.put ha fun _ z => nomatch z
  exact {
    s := by
      rw [msk_upd aS aC]
      intro b o q
      rw [upd_ne (ne_of_none q (msk_none h0))]
      exact h.s b o q
    st := by
      obtain ⟨n, cs, m, p, q⟩ := h.st
      exact ⟨n, cs, m, by rw [upd_ne aS.symm]; exact p, by rw [upd_ne aC.symm]; exact q⟩
    dn := fun b c => by
      by_cases e1 : b = a
      · rw [e1]
        exact ⟨_, upd_same, fun _ z => nomatch z⟩
      · obtain ⟨o, e, n⟩ := h.dn b c
        exact ⟨o, by rw [upd_ne e1]; exact e, n⟩
    row := by
      obtain ⟨rvs, p, q⟩ := h.row
      refine ⟨rvs, by rw [upd_ne ar.symm]; exact p, ?_⟩
      rw [hid_put hD]
      exact q
    kn := by
      obtain ⟨kvs, g, q⟩ := h.kn
      refine ⟨kvs, g.tk tk (upd_ne ak), ?_⟩
      rw [hid_put hD]
      exact q
    lab := TD.tk tk _ _ h.lab }
/-- the row, longer by one -/
theorem Ow.app (h : Ow w L S C ro kd la D H0 H ps kn) (hd : Hd S C ro kd D H0) {rvs : List V} {v : V} {p : Pa} (ha : H ro = some (.lst rvs)) (hp : PaAt L (hid D H) v p) : Ow w L S C ro kd la D H0 (upd H ro (.lst (rvs ++ [v]))) (ps ++ [p]) kn := by
  have tk : Tk H (upd H ro (.lst (rvs ++ [v]))) := Tk.put ha fun _ z => nomatch z
  exact {
    s := by
      rw [msk_upd hd.roS hd.roC]
      intro b o q
      rw [upd_ne (ne_of_none q (msk_none hd.nro))]
      exact h.s b o q
    st := by
      obtain ⟨n, cs, m, p, q⟩ := h.st
      exact ⟨n, cs, m, by rw [upd_ne hd.roS.symm]; exact p, by rw [upd_ne hd.roC.symm]; exact q⟩
    dn := fun b c => by
      by_cases e1 : b = ro
      · rw [e1]
        exact ⟨_, upd_same, fun _ z => nomatch z⟩
      · obtain ⟨o, e, n⟩ := h.dn b c
        exact ⟨o, by rw [upd_ne e1]; exact e, n⟩
    row := by
      obtain ⟨rvs', q, r⟩ := h.row
      rw [ha] at q
      cases q
      refine ⟨_, upd_same, ?_⟩
      rw [hid_put hd.dro]
      exact r.snoc hp
    kn := by
      obtain ⟨kvs, g, q⟩ := h.kn
      refine ⟨kvs, g.tk tk (upd_ne hd.rk.symm), ?_⟩
      rw [hid_put hd.dro]
      exact q
    lab := TD.tk tk _ _ h.lab }
/-- a new list to be hidden too -/
theorem Ow.more (h : Ow w L S C ro kd la D H0 H ps kn) {a : Addr} {xs : List V} (n : H a = none) : Ow w L S C ro kd la (fun b => D b ∨ b = a) H0 (upd H a (.lst xs)) ps kn := by
  have s : Same H (upd H a (.lst xs)) := same_new n
  have e : hid (fun b => D b ∨ b = a) (upd H a (.lst xs)) = hid D H := by
    funext b
    by_cases c : D b ∨ b = a
    · rw [hid_in c]
      rcases c with c | c
      · rw [hid_in c]
      · rw [c, hid_none n]
    · rw [hid_of c, hid_of fun z => c (.inl z), upd_ne fun z => c (.inr z)]
  have h2 := h.same s
  exact {
    s := h2.s
    st := h2.st
    dn := fun b c => by
      rcases c with c | c
      · exact h2.dn b c
      · rw [c]
        exact ⟨_, upd_same, fun _ z => nomatch z⟩
    row := by
      rw [e]
      obtain ⟨rvs, p, q⟩ := h.row
      exact ⟨rvs, s _ _ p, q⟩
    kn := by
      rw [e]
      obtain ⟨kvs, g, q⟩ := h.kn
      exact ⟨kvs, g.same s, q⟩
    lab := h2.lab }
theorem hid_less {a : Addr} : Same (hid (fun b => D b ∨ b = a) H) (hid D H) := fun b o h => by
  by_cases c : D b ∨ b = a
  · rw [hid_in c] at h
    cases h
  · rw [hid_of c] at h
    rw [hid_of fun z => c (.inl z)]
    exact h
theorem Ow.less {a : Addr} (h : Ow w L S C ro kd la (fun b => D b ∨ b = a) H0 H ps kn) : Ow w L S C ro kd la D H0 H ps kn where
  s := h.s
  st := h.st
  dn := fun b c => h.dn b (.inl c)
  row := let ⟨rvs, p, q⟩ := h.row; ⟨rvs, p, Paired.mapP q fun _ _ r => r.same hid_less⟩
  kn := let ⟨kvs, g, q⟩ := h.kn; ⟨kvs, g, Paired.mapP q fun _ _ r => ⟨r.1, r.2.same hid_less⟩⟩
  lab := h.lab
theorem Hd.more {a : Addr} (h : Hd S C ro kd D H0) : Hd S C ro kd (fun b => D b ∨ b = a) H0 := ⟨.inl h.dS, .inl h.dC, .inl h.dro, .inl h.dkd, h.nro, h.nkd, h.roS, h.roC, h.kdS, h.kdC, h.rk⟩
end
end K97
set_option Elab.async false
set_option linter.all false
set_option maxRecDepth 100000
set_option maxHeartbeats 4000000
/-! _law_patchwork. -/
namespace K97
open PySem PySem.Spec PyProof.Rows L2
theorem pss_any {X : Cx} {st : List Stmt} {t : Lab → TS} (h : ∀ L, PSs X st (t L)) : PSs X st (fun D σ H => ∃ L, t L D σ H) := ⟨fun pins s σ H D I ⟨L, q⟩ => (h L).run pins s σ H D I q⟩
def RowAt (L : Lab) (M : Hp) (ro : Addr) (ps : List Pa) : Prop := ∃ vs, M ro = some (.lst vs) ∧ Paired (PaAt L M) vs ps
theorem RowAt.same {L : Lab} {M M' : Hp} {ro : Addr} {ps : List Pa} (s : Same M M') (h : RowAt L M ro ps) : RowAt L M' ro ps := let ⟨vs, a, b⟩ := h; ⟨vs, s _ _ a, Paired.mapP b fun _ _ q => q.same s⟩
def RelN {α : Type} (xs : List α) (p : α → Bool) : Hp → List V → Nat → Prop := fun _ acc i => acc.length = ((xs.take i).filter p).length
theorem RelN.mono {α : Type} {xs : List α} {p : α → Bool} {D : Addr} : Mono D (RelN xs p) := fun _ _ _ _ _ _ h => h
theorem RelN.zero {α : Type} {xs : List α} {p : α → Bool} {H : Hp} : RelN xs p H [] 0 := by simp [RelN]
theorem RelN.yes {α : Type} {xs : List α} {p : α → Bool} {H H' : Hp} {acc : List V} {i : Nat} {x : α} {v : V} (r : RelN xs p H acc i) (h : xs[i]? = some x) (hp : p x = true) : RelN xs p H' (acc ++ [v]) (i + 1) := by
  have r : acc.length = ((xs.take i).filter p).length := r
  show (acc ++ [v]).length = ((xs.take (i + 1)).filter p).length
  rw [filt_yes h hp, List.length_append, List.length_append, r]
  rfl
theorem RelN.no {α : Type} {xs : List α} {p : α → Bool} {H H' : Hp} {acc : List V} {i : Nat} {x : α} (r : RelN xs p H acc i) (h : xs[i]? = some x) (hp : p x = false) : RelN xs p H' acc (i + 1) := by
  show acc.length = ((xs.take (i + 1)).filter p).length
  rw [filt_no h hp]
  exact r
theorem RelN.all {α : Type} {xs : List α} {p : α → Bool} {H : Hp} {acc : List V} {n : Nat} (r : RelN xs p H acc n) (h : n = xs.length) : acc.length = (xs.filter p).length := by
  subst h
  have r : acc.length = ((xs.take xs.length).filter p).length := r
  rwa [List.take_length] at r
theorem tds_nums {H : Hp} : ∀ ms : List Int, TDs H (ms.map NestedKey.num) (ms.map V.int)
  | [] => rfl
  | m :: ms => ⟨.int m, ms.map V.int, rfl, rfl, tds_nums ms⟩
/-- within a patch's making -/
structure In (w : World) (L : Lab) (S C ro kd : Addr) (la : V) (D : Addr → Prop) (co io : Addr) (nm : V) (H0 H : Hp) (ps : List Pa) (kn : List Kn) (own : Id) (cs : List Ch) : Prop where
  o : Ow w L S C ro kd la (fun b => D b ∨ b = co) H0 H ps kn
  cs : ∃ cvs, H co = some (.lst cvs) ∧ Paired (ChAt L (hid (fun b => D b ∨ b = co) H)) cvs cs
  io : LE (hid (fun b => D b ∨ b = co) H) (idK L) io (ids ps)
  nm : TD H (idK L own) nm
section
variable {w : World} {L : Lab} {S C ro kd co io : Addr} {la nm : V} {D : Addr → Prop} {H0 H H' : Hp} {ps : List Pa} {kn : List Kn} {own : Id} {cs : List Ch}
theorem In.same (h : In w L S C ro kd la D co io nm H0 H ps kn own cs) (s : Same H H') : In w L S C ro kd la D co io nm H0 H' ps kn own cs where
  o := h.o.same s
  cs := let ⟨cvs, a, b⟩ := h.cs; ⟨cvs, s _ _ a, Paired.mapP b fun _ _ q => q.same (hid_mono s)⟩
  io := h.io.same (hid_mono s)
  nm := TD.tk (Tk.of_same s) _ _ h.nm
theorem In.call (h : In w L S C ro kd la D co io nm H0 H ps kn own cs) (hd : Hd S C ro kd D H0) (cS : co ≠ S) (cC : co ≠ C) (s : Same (msk S C H) (msk S C H')) (st : St S C H') : In w L S C ro kd la D co io nm H0 H' ps kn own cs where
  o := h.o.call hd.more s st
  cs := let ⟨cvs, a, b⟩ := h.cs; ⟨cvs, msk_same _ _ (s co _ (by rw [msk_of cS cC]; exact a)), Paired.mapP b fun _ _ q => q.same (hid_msk (hd.more (a := co)).dS (hd.more (a := co)).dC s)⟩
  io := h.io.same (hid_msk (hd.more (a := co)).dS (hd.more (a := co)).dC s)
  nm := TD.tk (h.o.st.tk.trans (Tk.of_same (s.trans msk_same))) _ _ h.nm
theorem In.add (h : In w L S C ro kd la D co io nm H0 H ps kn own cs) (hd : Hd S C ro kd D H0) (cS : co ≠ S) (cC : co ≠ C) (cr : co ≠ ro) (c0 : H0 co = none) {cvs : List V} {v : V} {c : Ch} (hc : H co = some (.lst cvs)) (hv : ChAt L (hid (fun b => D b ∨ b = co) H) v c) : In w L S C ro kd la D co io nm H0 (upd H co (.lst (cvs ++ [v]))) ps kn own (cs ++ [c]) where
  o := h.o.mut hd.more hc (.inr rfl) c0 cS cC cr
  cs := by
    obtain ⟨cvs', a, b⟩ := h.cs
    rw [hc] at a
    cases a
    refine ⟨_, upd_same, ?_⟩
    rw [hid_put (.inr rfl)]
    exact b.snoc hv
  io := by
    rw [hid_put (.inr rfl)]
    exact h.io
  nm := TD.tk (Tk.put hc fun _ z => nomatch z) _ _ h.nm
theorem In.put (h : In w L S C ro kd la D co io nm H0 H ps kn own cs) (hd : Hd S C ro kd D H0) {kvs : List (Vx × V)} {f : Vx} {v : V} {e : List Vx × List Vx} (hp : Paired (fun (kv : Vx × V) (e : Kn) => kv.1 = e.1 ∧ KvAt L (hid (fun b => D b ∨ b = co) H) kv.2 e.2) kvs kn) (hg : ND w H (vxK L) kd kvs) (hv : KvAt L (hid (fun b => D b ∨ b = co) H) v e) (but : But kd H H') (g : ND w H' (vxK L) kd (putK kvs f v)) :
    In w L S C ro kd la D co io nm H0 H' ps (kput kn f e) own cs where
  o := h.o.put hd.more hp hg hv but g
  cs := by
    obtain ⟨cvs, a, b⟩ := h.cs
    have ck : co ≠ kd := by
      obtain ⟨xs, q⟩ := hg.there
      exact ne_of a q fun z => by unfold ndO at z; cases z
    refine ⟨cvs, by rw [but _ ck]; exact a, ?_⟩
    rw [hid_but (.inl hd.dkd) but]
    exact b
  io := by
    rw [hid_but (.inl hd.dkd) but]
    exact h.io
  nm := TD.tk ((Kp.but but).tkn hg) _ _ h.nm
theorem au_of {v : V} (h : v ∈ [V.str "ann", V.str "bo", V.str "cy"]) : ∃ au : _root_.Fin 3, v = .str (auS au) := by
  rcases List.mem_cons.mp h with rfl | h
  · exact ⟨0, rfl⟩
  rcases List.mem_cons.mp h with rfl | h
  · exact ⟨1, rfl⟩
  rcases List.mem_cons.mp h with rfl | h
  · exact ⟨2, rfl⟩
  · cases h
theorem ch_kinds (c : Ch) : c = .add ∨ (∃ f xs, c = .move f xs) ∨ (∃ f u d n, c = .lines f u d n) ∨ (decide (c.kd = "add") = false ∧ decide (c.kd = "move") = false ∧ decide (c.kd = "lines") = false) := by
  cases c with
  | add => exact .inl rfl
  | back i => exact .inr (.inr (.inr (by show decide (("back" : Str) = "add") = false ∧ decide (("back" : Str) = "move") = false ∧ decide (("back" : Str) = "lines") = false; decide +kernel)))
  | move f xs => exact .inr (.inl ⟨f, xs, rfl⟩)
  | drop f xs => exact .inr (.inr (.inr (by show decide (("drop" : Str) = "add") = false ∧ decide (("drop" : Str) = "move") = false ∧ decide (("drop" : Str) = "lines") = false; decide +kernel)))
  | cut f xs => exact .inr (.inr (.inr (by show decide (("cut" : Str) = "add") = false ∧ decide (("cut" : Str) = "move") = false ∧ decide (("cut" : Str) = "lines") = false; decide +kernel)))
  | order f a b => exact .inr (.inr (.inr (by show decide (("order" : Str) = "add") = false ∧ decide (("order" : Str) = "move") = false ∧ decide (("order" : Str) = "lines") = false; decide +kernel)))
  | lines f u d n => exact .inr (.inr (.inl ⟨f, u, d, n, rfl⟩))
def newL (own : Id) (j n : Nat) : List Vx := (List.range n).map fun k : Nat => (⟨own, 0 + (j : Int), 0 + (k : Int)⟩ : Vx)
theorem newL_nodup {own : Id} {j n : Nat} : (newL own j n).Nodup := by
  unfold newL
  rw [List.nodup_iff_pairwise_ne, List.pairwise_map]
  refine List.Pairwise.imp ?_ (List.nodup_iff_pairwise_ne.mp List.nodup_range)
  intro a b h e
  injection e with _ _ e
  exact h (by omega)
/-- what holds between two changes of a patch -/
structure Mid (w : World) (L : Lab) (S C ro kd : Addr) (la : V) (D : Addr → Prop) (co io : Addr) (nm : V) (H0 H : Hp) (ps : List Pa) (kn : List Kn) (own : Id) (cs : List Ch) (T j : Nat) : Prop where
  i : In w L S C ro kd la D co io nm H0 H ps kn own cs
  k : KInv (fun x => x.id ∈ ids ps ∨ (x.id = own ∧ x.pl < (j : Int))) (T + j) kn
  g : ∀ c ∈ cs, ChGood (fun x => x.id ∈ ids ps ∨ x.id = own) (ids ps) c
  l : cs.length ≤ j
end
section
variable {P : Program} {w : World} {K : PySem.W.Frag} {mg : Str → Option Value} {base : Heap}
def spPatch : Sp := fun vs H Q _ => ∃ (S C : Addr) (n : Int), vs = [.ref S, .int n] ∧ St S C H ∧ 0 ≤ n ∧ n ≤ 9 ∧ ∀ r L la ro so ps H', Same (msk S C H) (msk S C H') → St S C H' → msk S C H' r = some (.tup [la, .ref ro, so]) → RowAt L (msk S C H') ro ps → RowOk ps → ps.length ≤ 9 → Q (.ref r) H'
theorem scLPatch : FnScope ["_law_state_here", "_law_most", "_law_label", "_law_row", "_law_known", "_law_turn", "_law_author", "_law_name", "_law_changes", "_law_ids", "_law_place", "_law_change_here", "_law_lines", "_law_patch", "_law_k"] ["_law_state_here", "_law_most"] (defScope sLPatchwork) := ⟨rfl, rfl, rfl, by decide +kernel, rfl, by decide +kernel, by decide +kernel⟩
theorem ok_patch {f : Addr} {fd : FuncData} (B : Bt mg) (F : DefAt K "_law_patchwork" "_law_patchwork" sLPatchwork f fd) (G1 : Df P w K mg base 1 "_law_draw" ["_law_state_here", "_law_many"] spDraw) (G2 : Df P w K mg base 2 "_law_pick" ["_law_state_here", "_law_row"] spPickL)
    (G3 : ∀ L, Df P w K mg base 4 "_law_change" ["_law_state_here", "_law_known", "_law_ids"] (spChange (w := w) L)) : FnOk P w K mg base CX0 5 f fd ["_law_state_here", "_law_most"] spPatch := by
  refine FunD.ok F scLPatch (fun vs H Q E h => ?_) (fun cdv A outer s H vs Q E hr h => ?_)
  · obtain ⟨S, C, n, rfl, _⟩ := h
    rfl
  · obtain ⟨S, C, n, rfl, hst, hn0, hn9, k⟩ := h
    have nd := scLPatch.nd
    have sl := sizeLine_eq
    have hu := hr.units
    have r1 := hr.mono (show 1 ≤ 4 by decide)
    have r2 := hr.mono (show 2 ≤ 4 by decide)
    refine ⟨_, PSs.nox (pss_cons (ps_set (i := 2) nd rfl (Or.inl rfl) (pe_tup (pa_cons pe_str (pa_cons (pe_df G1 r1 (by rfl) (pa_cons (pv 0) (pa_cons pe_int pa_nil))) (pa_cons (pe_df G2 r2 (by rfl) (pa_cons (pv 0) (pa_cons (pe_lst (pa_cons (pe_tup pa_nil) (pa_cons (pe_tup (pa_cons pe_int pa_nil)) (pa_cons (pe_tup (pa_cons pe_int (pa_cons pe_int pa_nil))) pa_nil)))) pa_nil))) pa_nil)))))
      (pss_any fun L => pss_cons (ps_set (i := 3) nd rfl (Or.inl rfl) (pe_lst pa_nil))
      (pss_cons (ps_set (i := 4) nd rfl (Or.inl rfl) (pe_nnew (enc := vxK L)))
      (pss_cons (ps_for PassesOwn.never rfl (pi_range1 (by rfl) B.range (pa_cons (pe_df G1 r1 (by rfl) (pa_cons (pv 0) (pa_cons (pe_op op_add (pv 1) pe_int) pa_nil))) pa_nil)) (pg_name (i := 5) nd rfl (Or.inl rfl))
        (pss_cons (ps_set (i := 6) nd rfl (Or.inr rfl) (pe_df G2 r2 (by rfl) (pa_cons (pv 0) (pa_cons (pe_lst (pa_cons pe_str (pa_cons pe_str (pa_cons pe_str pa_nil)))) pa_nil))))
        (pss_cons (ps_set (i := 7) nd rfl (Or.inr rfl) (pe_tup (pa_cons (pv 2) (pa_cons (pv 6) (pa_cons (pe_op op_add pe_int (pe_callB call_len (by rfl) B.len boot_len (pa_cons (pe_lc (own := [("_law_patch", 13)]) (g := gName 13) rfl nd (pi_list (pv 3))
            (blkOk_by (own := [("_law_patch", 13)]) (N := ["_law_state_here", "_law_most", "_law_label", "_law_row", "_law_known", "_law_turn", "_law_author", "_law_name", "_law_changes", "_law_ids", "_law_place", "_law_change_here", "_law_lines", "_law_patch", "_law_k"]) (sc := defScope sLPatchwork) (by decide +kernel)) (fun _ _ _ _ _ => pg_name (i := 13) nd rfl (Or.inl rfl))
            (fun _ _ _ _ _ => pts_one (pt_cmpR op_eq (pe_ix (ixK K rfl) (pe_ix (ixK K rfl) (pv 13) pe_int (fun _ _ => rfl)) pe_int (fun _ _ => rfl)) (pv 6) (nomark _))) (fun _ _ _ _ _ => pv 13)) pa_nil))) pa_nil)))))
        (pss_cons (ps_set (i := 8) nd rfl (Or.inl rfl) (pe_lst pa_nil))
        (pss_cons (ps_setLc (i := 9) (own := [("_law_patch", 13)]) (g := gName 13) (tt := tYes) rfl nd rfl rfl (sw_true rfl rfl rfl (by decide +kernel)) (pi_list (pv 3))
            (blkOk_by (own := [("_law_patch", 13)]) (N := ["_law_state_here", "_law_most", "_law_label", "_law_row", "_law_known", "_law_turn", "_law_author", "_law_name", "_law_changes", "_law_ids", "_law_place", "_law_change_here", "_law_lines", "_law_patch", "_law_k"]) (sc := defScope sLPatchwork) (by decide +kernel)) (fun _ _ _ _ _ => pg_name (i := 13) nd rfl (Or.inl rfl))
            (fun _ _ _ _ _ => pts_nil) (fun _ _ _ _ _ => pe_ix (ixK K rfl) (pv 13) pe_int (fun _ _ => rfl)))
        (pss_cons (ps_for PassesOwn.never rfl (pi_range1 (by rfl) B.range (pa_cons (pe_op op_add pe_int (pe_df G1 r1 (by rfl) (pa_cons (pv 0) (pa_cons pe_int pa_nil)))) pa_nil)) (pg_name (i := 10) nd rfl (Or.inr rfl))
          (pss_cons (ps_set (i := 11) nd rfl (Or.inl rfl) (pe_df (G3 L) hr (by rfl) (pa_cons (pv 0) (pa_cons (pv 4) (pa_cons (pv 9) pa_nil)))))
          (pss_cons (ps_expr (pe_bm PySem.F.plainAttrs_list PySem.F.slot_list_append PySem.F.type_list_append mt_append (pv 8) (pa_cons (pv 11) pa_nil)))
          (pss_one (ps_if (pt_cmpR op_eq (pe_ix ix_tup (pv 11) pe_int (fun _ _ => rfl)) pe_str (nomark _))
            (pss_one (ps_nput (vxC L).toTCode hu (pv 4) (pe_tup (pa_cons (pv 7) (pa_cons (pv 10) (pa_cons pe_int pa_nil)))) (pe_tup (pa_cons (pe_lst (pa_cons (pe_tup (pa_cons (pv 7) (pa_cons (pv 10) (pa_cons pe_int pa_nil)))) pa_nil)) (pa_cons (pe_lst pa_nil) pa_nil))) rfl))
            (pss_one (ps_if (pt_cmpR op_eq (pe_ix ix_tup (pv 11) pe_int (fun _ _ => rfl)) pe_str (nomark _))
              (pss_one (ps_nput (vxC L).toTCode hu (pv 4) (pe_ix ix_tup (pv 11) pe_int (fun _ _ => rfl)) (pe_tup (pa_cons (pe_op op_cat (pe_ix ix_tup (pe_nget (vxC L).toTCode hu (pv 4) (pe_ix ix_tup (pv 11) pe_int (fun _ _ => rfl)) (fun _ _ => rfl)) pe_int (fun _ _ => rfl)) (pe_lst (pa_cons (pe_tup (pa_cons (pv 7) (pa_cons (pv 10) (pa_cons pe_int pa_nil)))) pa_nil)))
                (pa_cons (pe_ix ix_tup (pe_nget (vxC L).toTCode hu (pv 4) (pe_ix ix_tup (pv 11) pe_int (fun _ _ => rfl)) (fun _ _ => rfl)) pe_int (fun _ _ => rfl)) pa_nil))) rfl))
              (pss_one (ps_if (pt_cmpR op_eq (pe_ix ix_tup (pv 11) pe_int (fun _ _ => rfl)) pe_str (nomark _))
                (pss_cons (ps_set (i := 12) nd rfl (Or.inl rfl) (pe_op op_cat (pe_ix ix_tup (pe_nget (vxC L).toTCode hu (pv 4) (pe_ix ix_tup (pv 11) pe_int (fun _ _ => rfl)) (fun _ _ => rfl)) pe_int (fun _ _ => rfl))
                  (pe_lc (own := [("_law_k", 14)]) (g := gName 14) (tt := tYes) rfl nd (pi_range1 (by rfl) B.range (pa_cons (pe_callB call_len (by rfl) B.len boot_len (pa_cons (pe_ix ix_tup (pv 11) pe_int (fun _ _ => rfl)) pa_nil)) pa_nil))
                    (blkOk_by (own := [("_law_k", 14)]) (N := ["_law_state_here", "_law_most", "_law_label", "_law_row", "_law_known", "_law_turn", "_law_author", "_law_name", "_law_changes", "_law_ids", "_law_place", "_law_change_here", "_law_lines", "_law_patch", "_law_k"]) (sc := defScope sLPatchwork) (by decide +kernel)) (fun _ _ _ _ _ => pg_name (i := 14) nd rfl (Or.inl rfl))
                    (fun _ _ _ _ _ => pts_nil) (fun _ _ _ _ _ => pe_tup (pa_cons (pv 7) (pa_cons (pv 10) (pa_cons (pv 14) pa_nil)))))))
                (pss_one (ps_nput (vxC L).toTCode hu (pv 4) (pe_ix ix_tup (pv 11) pe_int (fun _ _ => rfl)) (pe_tup (pa_cons (pe_ix ix_tup (pe_nget (vxC L).toTCode hu (pv 4) (pe_ix ix_tup (pv 11) pe_int (fun _ _ => rfl)) (fun _ _ => rfl)) pe_int (fun _ _ => rfl)) (pa_cons (pv 12) pa_nil))) rfl))) pss_nil)))))))))
        (pss_one (ps_expr (pe_bm PySem.F.plainAttrs_list PySem.F.slot_list_append PySem.F.type_list_append mt_append (pv 3) (pa_cons (pe_tup (pa_cons pe_str (pa_cons (pv 7) (pa_cons (pv 8) (pa_cons (pe_df G2 r2 (by rfl) (pa_cons (pv 0) (pa_cons (pe_lst (pa_cons pe_str (pa_cons pe_str (pa_cons pe_str pa_nil)))) pa_nil))) pa_nil))))) pa_nil))))))))))
      (pss_one (ps_ret (pe_tup (pa_cons (pv 2) (pa_cons (pv 3) (pa_cons (pe_callB (call_sortD (vxC L) rfl hu) (by rfl) B.sorted boot_sorted (pa_cons (pv 4) pa_nil)) pa_nil)))))))))), ?_⟩
    -- the label
    refine ⟨_, rfl, S, C, 8, rfl, hst, by decide, fun lv H1 s1 st1 _ _ _ => ?_⟩
    refine ⟨_, rfl, by show 0 ≤ sizeLine; omega, fun t1 n1 => ⟨by show 1 ≤ sizeLine; omega, fun t2 n2 => ⟨by show 2 ≤ sizeLine; omega, fun t3 n3 => ⟨by show 3 ≤ sizeLine; omega, fun l1 nl1 => ?_⟩⟩⟩⟩
    have sa1 := same_new (o := .tup (([] : List Int).map V.int)) n1
    have sa2 := same_new (o := .tup (([0] : List Int).map V.int)) n2
    have sa3 := same_new (o := .tup (([1, 4] : List Int).map V.int)) n3
    have sa4 := same_new (o := .lst [.ref t1, .ref t2, .ref t3]) nl1
    have sa := sa1.trans (sa2.trans (sa3.trans sa4))
    have sta3 := ((st1.same sa1).same sa2).same sa3
    have mem1 : (upd (upd (upd (upd H1 t1 (.tup (([] : List Int).map V.int))) t2 (.tup (([0] : List Int).map V.int))) t3 (.tup (([1, 4] : List Int).map V.int))) l1 (.lst [.ref t1, .ref t2, .ref t3])) t1 = some (.tup (([] : List Int).map V.int)) := (sa2.trans (sa3.trans sa4)) _ _ upd_same
    have mem2 : (upd (upd (upd (upd H1 t1 (.tup (([] : List Int).map V.int))) t2 (.tup (([0] : List Int).map V.int))) t3 (.tup (([1, 4] : List Int).map V.int))) l1 (.lst [.ref t1, .ref t2, .ref t3])) t2 = some (.tup (([0] : List Int).map V.int)) := (sa3.trans sa4) _ _ upd_same
    have mem3 : (upd (upd (upd (upd H1 t1 (.tup (([] : List Int).map V.int))) t2 (.tup (([0] : List Int).map V.int))) t3 (.tup (([1, 4] : List Int).map V.int))) l1 (.lst [.ref t1, .ref t2, .ref t3])) t3 = some (.tup (([1, 4] : List Int).map V.int)) := sa4 _ _ upd_same
    refine ⟨S, C, l1, [.ref t1, .ref t2, .ref t3], rfl, st1.same sa, by rw [msk_of (sta3.new nl1).1 (sta3.new nl1).2]; exact upd_same, (fun z => nomatch z), by show 3 < 1073741824; decide, fun tv H2 htv s2 st2 => ?_⟩
    have htm : ∃ (tm : Addr) (ms : List Int), tv = .ref tm ∧ H2 tm = some (.tup (ms.map V.int)) := by
      have tk2 := ((st1.same sa).tk).trans (Tk.of_same (s2.trans msk_same))
      rcases List.mem_cons.mp htv with rfl | htv
      · exact ⟨t1, [], rfl, tk2 _ _ mem1⟩
      rcases List.mem_cons.mp htv with rfl | htv
      · exact ⟨t2, [0], rfl, tk2 _ _ mem2⟩
      rcases List.mem_cons.mp htv with rfl | htv
      · exact ⟨t3, [1, 4], rfl, tk2 _ _ mem3⟩
      · cases htv
    obtain ⟨tm, ms, rfl, htm⟩ := htm
    refine ⟨by show 3 ≤ sizeLine; omega, fun la nla => ⟨⟨lv, ms⟩, ?_⟩⟩
    have s3 := same_new (o := .tup [.str "label", .int lv, .ref tm]) nla
    have hlab : TD (upd H2 la (.tup [.str "label", .int lv, .ref tm])) (labK ⟨lv, ms⟩) (.ref la) := ⟨la, _, rfl, upd_same, _, _, rfl, rfl, _, _, rfl, rfl, _, _, rfl, ⟨tm, _, rfl, s3 _ _ htm, tds_nums ms⟩, rfl⟩
    generalize (⟨lv, ms⟩ : Lab) = L at hlab ⊢
    have S3 : Same (msk S C H) (msk S C (upd H2 la (.tup [.str "label", .int lv, .ref tm]))) := (((s1.trans (msk_mono sa)).trans s2).trans (msk_mono s3))
    have st3 := st2.same s3
    generalize upd H2 la (.tup [.str "label", .int lv, .ref tm]) = H3 at hlab S3 st3 ⊢
    -- row, known
    refine ⟨Nat.zero_le _, fun ro nro => fun kd H5 nkd bkd gkd => ?_⟩
    have s4 := same_new (o := .lst []) nro
    have s5 : Same (upd H3 ro (.lst [])) H5 := same_but nkd bkd
    have nro0 : H ro = none := none_m S3 st3 nro
    have nkd0 : H kd = none := none_m S3 st3 (none_of s4 nkd)
    have rnew := st3.new nro
    have knew := (st3.same s4).new nkd
    have hro5 : H5 ro = some (.lst []) := s5 _ _ upd_same
    have rk : ro ≠ kd := fun e => by
      rw [← e, upd_same] at nkd
      cases nkd
    have hd : Hd S C ro kd (fun a => a = S ∨ a = C ∨ a = ro ∨ a = kd) H := ⟨.inl rfl, .inr (.inl rfl), .inr (.inr (.inl rfl)), .inr (.inr (.inr rfl)), nro0, nkd0, rnew.1, rnew.2, knew.1, knew.2, rk⟩
    have o5 : Ow w L S C ro kd (.ref la) (fun a => a = S ∨ a = C ∨ a = ro ∨ a = kd) H H5 [] [] := {
      s := S3.trans (msk_mono (s4.trans s5))
      st := (st3.same s4).same s5
      dn := fun a c => by
        obtain ⟨_, cs, m, q1, q2⟩ := (st3.same s4).same s5
        rcases c with rfl | rfl | rfl | rfl
        · exact ⟨_, q1, fun _ z => nomatch z⟩
        · exact ⟨_, q2, fun _ z => nomatch z⟩
        · exact ⟨_, hro5, fun _ z => nomatch z⟩
        · obtain ⟨xs, q⟩ := gkd.there
          exact ⟨_, q, fun ys => ndO_ne ys⟩
      row := ⟨[], hro5, .nil⟩
      kn := ⟨[], gkd, .nil⟩
      lab := TD.tk (Tk.of_same (s4.trans s5)) _ _ hlab }
    generalize (fun a => a = S ∨ a = C ∨ a = ro ∨ a = kd) = D at hd o5
    refine ⟨_, rfl, _, rfl, n, 1, rfl, rfl, S, C, _, rfl, o5.st, by omega, fun r H6 s6 st6 h0 h1 _ => ?_⟩
    have hr10 : r < n + 1 := h1 (by omega)
    have o6 := o5.call hd s6 st6
    refine ⟨r, rfl, by omega, by omega, for_range (lo := 0)
      (fun i σ H' => ∃ ps kn c5 c6 c7 c8 c9 c10 c11 c12 c13 c14, σ = [some (.ref S), some (.int n), some (.ref la), some (.ref ro), some (.ref kd), c5, c6, c7, c8, c9, c10, c11, c12, c13, c14] ∧ Ow w L S C ro kd (.ref la) D H H' ps kn ∧ RowOk ps ∧ KInv (fun x => x.id ∈ ids ps) (3 * i) kn ∧ ps.length ≤ i)
      ⟨[], [], none, none, none, none, none, none, none, none, none, none, rfl, o6, .nil, ⟨Nat.le_refl _, (fun e h => nomatch h), (fun e h => nomatch h), (fun e h => nomatch h), (fun e h => nomatch h)⟩, Nat.le_refl _⟩ ?_ ?_⟩
    · rintro i σ H7 hi ⟨ps, kn, c5, c6, c7, c8, c9, c10, c11, c12, c13, c14, rfl, o7, rok, kinv, pl⟩
      have i9 : i < 10 := by omega
      -- the author
      refine ⟨_, rfl, by show 3 ≤ sizeLine; omega, fun l nl => ?_⟩
      have o7b := o7.same (same_new (o := .lst [.str "ann", .str "bo", .str "cy"]) nl)
      have hnl := o7.st.new nl
      refine ⟨S, C, l, [.str "ann", .str "bo", .str "cy"], rfl, o7b.st, by rw [msk_of hnl.1 hnl.2, upd_same], (fun z => nomatch z), by show 3 < 1073741824; decide, fun av H8 hav s8 st8 => ?_⟩
      obtain ⟨au, rfl⟩ := au_of hav
      have o8 := o7b.call hd s8 st8
      obtain ⟨rvs, hrow, hrp⟩ := id o8.row
      have rl : rvs.length = ps.length := Paired.length hrp
      -- the name
      refine ⟨_, rfl, _, rfl, _, rfl, ro, rfl, ⟨_, SqL.of hrow⟩, fun D1 nD1 => lc_accL (xs := rvs) nD1 (RelN ps fun p => decide (p.id.au = au)) RelN.mono RelN.zero (by omega) (fun H' s' => SqL.of (s' _ _ hrow)) ?_ ?_⟩
      · rintro j x H9 acc C9 N9 hj he s9 hD hl r9 hC hN
        obtain ⟨p, hp, hpa⟩ := pget hrp he
        obtain ⟨a, iv', cl, nt, cvs, rfl, ha, hid', _⟩ := hpa.same (hid_same.trans s9)
        obtain ⟨ai, ui, rfl, hai, _⟩ := td_id hid'
        refine ⟨rfl, _, rfl, _, _, _, _, rfl, rfl, SqT.of ha, atI_nat (j := 1) rfl, _, _, _, _, rfl, rfl, SqT.of hai, atI_nat (j := 1) rfl, _, rfl, rfl, _, rfl, ?_⟩
        rw [dec_str]
        refine iB (fun hb => ?_) (fun hb => ?_)
        · have e := auS_inj _ _ (of_decide_eq_true hb)
          exact ⟨_, rfl, hC _ _ (Same.refl _) (r9.yes hp (decide_eq_true e))⟩
        · exact hN _ (Same.refl _) (r9.no hp (decide_eq_false fun e => of_decide_eq_false hb (by rw [e])))
      intro H9 acc s9 hD9 hl9 r9
      have r9 : acc.length = cnt ps au := r9.all rl
      refine ⟨_, _, rfl, .inl ⟨_, SqL.of hD9, rfl⟩, 1, _, rfl, rfl, by show 3 ≤ sizeLine; omega, fun nm nnm => ?_⟩
      have s10 := same_new (o := .tup [.ref la, .str (auS au), .int (1 + (acc.length : Nat))]) nnm
      have o10 := (o8.same s9).same s10
      have hnm : TD (upd H9 nm (.tup [.ref la, .str (auS au), .int (1 + (acc.length : Nat))])) (idK L ⟨au, 1 + (cnt ps au : Int)⟩) (.ref nm) := ⟨nm, _, rfl, upd_same, _, _, rfl, o10.lab, _, _, rfl, rfl, _, _, rfl, by rw [r9]; rfl, rfl⟩
      generalize upd H9 nm (.tup [.ref la, .str (auS au), .int (1 + (acc.length : Nat))]) = H10 at o10 hnm
      generalize hown : (⟨au, 1 + (cnt ps au : Int)⟩ : Id) = own at hnm
      -- the changes
      refine ⟨Nat.zero_le _, fun co nco => ?_⟩
      have hnco := o10.st.new nco
      have c0 : H co = none := none_m o10.s o10.st nco
      have hcoD := o10.dn.new nco
      have cr : co ≠ ro := fun e => by
        obtain ⟨rvs', q, _⟩ := o10.row
        rw [e, q] at nco
        cases nco
      have s11 := same_new (o := .lst []) nco
      have o11 := o10.more (xs := []) nco
      have hnm11 := TD.tk (Tk.of_same s11) _ _ hnm
      have hco11 : upd H10 co (.lst []) co = some (.lst []) := upd_same
      generalize upd H10 co (.lst []) = H11 at o11 hnm11 hco11 s11
      -- the ids
      obtain ⟨rvs1, hrow1, hrp1⟩ := id o11.row
      have rl1 : rvs1.length = (ids ps).length := by
        unfold ids
        rw [List.length_map]
        exact Paired.length hrp1
      refine ⟨_, rfl, ro, rfl, ⟨_, SqL.of hrow1⟩, fun io nio => lc_accL (xs := rvs1) nio (RelE (idK L) fun i => ((ids ps).take i).filter fun _ => true) RelE.mono RelE.zero (by unfold ids at rl1; rw [List.length_map] at rl1; omega) (fun H' s' => SqL.of (s' _ _ hrow1)) ?_ ?_⟩
      · rintro j x H12 acc2 C9 N9 hj he s12 hD hl r12 hC hN
        obtain ⟨p, hp, hpa⟩ := pget hrp1 he
        obtain ⟨a, iv', cl, nt, cvs, rfl, ha, hid', _⟩ := hpa.same (hid_same.trans s12)
        refine ⟨rfl, ?_⟩
        refine ⟨_, rfl, _, _, _, _, rfl, rfl, SqT.of ha, atI_nat (j := 1) rfl, hC _ _ (Same.refl _) (r12.yes (Same.refl _) (x := p.id) ?_ rfl hid')⟩
        unfold ids
        rw [List.getElem?_map, hp]
        rfl
      intro H12 acc2 s12 hD12 hl12 r12
      have r12 := r12.all rl1
      rw [List.filter_eq_self.mpr fun _ _ => rfl] at r12
      have o12 := o11.same s12
      have nioD := o11.dn.new nio
      have i12 : In w L S C ro kd (.ref la) D co io (.ref nm) H H12 ps kn own [] := {
        o := o12
        cs := ⟨[], s12 _ _ hco11, .nil⟩
        io := ⟨acc2, by rw [hid_of nioD]; exact hD12, r12.tk o12.dn.tk⟩
        nm := TD.tk (Tk.of_same s12) _ _ hnm11 }
      have m12 : Mid w L S C ro kd (.ref la) D co io (.ref nm) H H12 ps kn own [] (3 * i) 0 := ⟨i12, kinv.weak (fun x h => .inl h) (Nat.le_refl _), (fun c h => nomatch h), Nat.le_refl _⟩
      -- the walk over the places
      refine ⟨_, rfl, S, C, 3, rfl, i12.o.st, by decide, fun r3 H13 s13 st13 r30 r31 _ => ?_⟩
      have r33 := r31 (by decide)
      have m13 : Mid w L S C ro kd (.ref la) D co io (.ref nm) H H13 ps kn own [] (3 * i) 0 := ⟨i12.call hd hnco.1 hnco.2 s13 st13, m12.k, m12.g, m12.l⟩
      refine ⟨_, _, rfl, rfl, _, rfl, by omega, by omega, for_range (lo := 0)
        (fun j σ H' => ∃ kn cs c10 c11 c12 c13 c14, σ = [some (.ref S), some (.int n), some (.ref la), some (.ref ro), some (.ref kd), some (.int (0 + (i : Nat))), some (.str (auS au)), some (.ref nm), some (.ref co), some (.ref io), c10, c11, c12, c13, c14] ∧ Mid w L S C ro kd (.ref la) D co io (.ref nm) H H' ps kn own cs (3 * i) j)
        ⟨kn, [], _, _, _, _, _, rfl, m13⟩ ?_ ?_⟩
      · rintro j σ H14 hj ⟨kn, cs, c10, c11, c12, c13, c14, rfl, m⟩
        have hT : 3 * i + j ≤ 50 := by omega
        have lids : (ids ps).length = ps.length := by unfold ids; rw [List.length_map]
        refine ⟨_, rfl, _, rfl, _, rfl, S, C, kd, io, kn, ids ps, rfl, m.i.o.st, m.i.o.kna hd.more, m.k.kok hT, m.i.io.same (hid_le (hd.more (a := co)).dS (hd.more (a := co)).dC), by omega, fun v c H15 s15 st15 hc hnew hok => ?_⟩
        have i15 := m.i.call hd hnco.1 hnco.2 s15 st15
        have hcv : ChAt L (hid (fun b => D b ∨ b = co) H15) v c := ch_hid i15.o.dn (fun a ca z => by
          obtain ⟨o, e, _⟩ := m.i.o.dn a ca
          rw [e] at z
          cases z) msk_same hnew hc
        obtain ⟨cvs, hco15, hcp⟩ := id i15.cs
        have cl : cvs.length = cs.length := Paired.length hcp
        have ml := m.l
        refine ⟨_, rfl, .inl ⟨rfl, _, .inl (.inl hco15)⟩, _, rfl, co, cvs, v, rfl, rfl, hco15, by omega, ?_⟩
        have i16 := i15.add hd hnco.1 hnco.2 cr c0 hco15 hcv
        have tk16 : Tk H15 (upd H15 co (.lst (cvs ++ [v]))) := Tk.put hco15 fun _ z => nomatch z
        have hcv16 : ChAt L (hid (fun b => D b ∨ b = co) (upd H15 co (.lst (cvs ++ [v])))) v c := by
          rw [hid_put (.inr rfl)]
          exact hcv
        generalize upd H15 co (.lst (cvs ++ [v])) = H16 at i16 tk16 hcv16 ⊢
        have cg := ch_good m.k hok
        have g17 : ∀ c' ∈ cs ++ [c], ChGood (fun x => x.id ∈ ids ps ∨ x.id = own) (ids ps) c' := fun c' hc' => by
          rcases List.mem_append.mp hc' with q | q
          · exact m.g c' q
          · rw [List.mem_singleton] at q
            rw [q]
            exact ⟨cg.1, fun x hx => (cg.2.1 x hx).imp id And.left, cg.2.2⟩
        have l17 : (cs ++ [c]).length ≤ j + 1 := by
          rw [List.length_append]
          exact Nat.succ_le_succ ml
        have older : ∀ x : Vx, (x.id ∈ ids ps ∨ (x.id = own ∧ x.pl < (j : Int))) → (x.id ∈ ids ps ∨ (x.id = own ∧ x.pl < ((j + 1 : Nat) : Int))) := fun x h => h.imp id fun q => ⟨q.1, by omega⟩
        have hownN : own ∉ ids ps := fun z => by
          obtain ⟨q, hq, e⟩ := List.mem_map.mp z
          have := rok.low q hq
          rw [e, ← hown] at this
          have this : (1 + (cnt ps au : Int)) ≤ (cnt ps au : Int) := this
          omega
        obtain ⟨a, rest, rfl, ha⟩ := ch_hd (hcv16.same hid_same)
        rcases ch_kinds c with rfl | ⟨f, xs, rfl⟩ | ⟨f, us, ds, ln, rfl⟩ | ⟨k1, k2, k3⟩
        · -- add
          refine q_kdi (i := 11) rfl ha (iT (by show decide (("add" : Str) = "add") = true; decide +kernel) ?_)
          refine ⟨_, rfl, _, rfl, by show 3 ≤ sizeLine; omega, fun v1 nv1 => ⟨by show 1 ≤ sizeLine; omega, fun a1 na1 => ⟨Nat.zero_le _, fun b1 nb1 => ⟨by show 2 ≤ sizeLine; omega, fun t1 nt1 => ?_⟩⟩⟩⟩
          have q1 := same_new (o := .tup [.ref nm, .int (0 + (j : Nat)), .int 0]) nv1
          have q2 := same_new (o := .lst [.ref v1]) na1
          have q3 := same_new (o := .lst []) nb1
          have q4 := same_new (o := .tup [.ref a1, .ref b1]) nt1
          have dn1 := (i16.same q1).o.dn
          have dn2 := ((i16.same q1).same q2).o.dn
          have hv1 : TD (upd H16 v1 (.tup [.ref nm, .int (0 + (j : Nat)), .int 0])) (vxK L ⟨own, 0 + (j : Nat), 0⟩) (.ref v1) := ⟨v1, _, rfl, upd_same, _, _, rfl, (i16.same q1).nm, _, _, rfl, rfl, _, _, rfl, rfl, rfl⟩
          refine ⟨_, rfl, _, rfl, _, rfl, by show 3 ≤ sizeLine; omega, fun k1 nk1 => ?_⟩
          have q5 := same_new (o := .tup [.ref nm, .int (0 + (j : Nat)), .int 0]) nk1
          have i17 := (((((i16.same q1).same q2).same q3).same q4).same q5)
          have hk1 : TD _ (vxK L ⟨own, 0 + (j : Nat), 0⟩) (.ref k1) := (⟨k1, _, rfl, upd_same, _, _, rfl, i17.nm, _, _, rfl, rfl, _, _, rfl, rfl, rfl⟩ : TD _ (vxK L ⟨own, 0 + (j : Nat), 0⟩) (.ref k1))
          have la1 := q2.trans (q3.trans (q4.trans q5))
          have ha1 := (q3.trans (q4.trans q5)) a1 _ upd_same
          have hb1 := (q4.trans q5) b1 _ upd_same
          have ht1 := q5 t1 _ upd_same
          have hkv : KvAt L (hid (fun b => D b ∨ b = co) _) (.ref t1) ([⟨own, 0 + (j : Nat), 0⟩], []) := ⟨t1, a1, b1, rfl, i17.o.dn.tk _ _ ht1, ⟨_, (by rw [hid_of (dn1.new na1)]; exact ha1), .cons (TD.tk ((Tk.of_same la1).trans i17.o.dn.tk) _ _ hv1) .nil⟩, ⟨_, (by rw [hid_of (dn2.new nb1)]; exact hb1), .nil⟩⟩
          obtain ⟨kvs, g, hp⟩ := i17.o.kn
          have kl : kvs.length = kn.length := Paired.length hp
          have kf := m.k.few
          refine ⟨kd, kvs, ⟨own, 0 + (j : Nat), 0⟩, rfl, g, by omega, hk1, fun H18 but g18 => ⟨_, _, _, _, _, _, _, rfl, i17.put hd hp g hkv but g18, ?_, g17, l17⟩⟩
          refine m.k.put older (by show 1 ≤ _; omega) (Nat.zero_le _) (fun z => nomatch z) List.nodup_nil (.inr ⟨rfl, by show (0 : Int) + (j : Nat) < _; omega⟩) (fun x hx => ?_) (fun x hx => nomatch hx)
          rw [List.mem_singleton] at hx
          rw [hx]
          exact .inr ⟨rfl, by show (0 : Int) + (j : Nat) < _; omega⟩
        · -- move
          refine q_kdi (i := 11) rfl ha (iF (by show decide (("move" : Str) = "add") = false; decide +kernel) (q_kdi (i := 11) rfl ha (iT (by show decide (("move" : Str) = "move") = true; decide +kernel) ?_)))
          obtain ⟨e, hekn, rfl, _, _⟩ := hok
          obtain ⟨a', fv, pa, pps, ll, ea, h1, _, hfv, _⟩ := hcv16.same hid_same
          cases ea
          obtain ⟨kvs, g, hp⟩ := id i16.o.kn
          have kl : kvs.length = kn.length := Paired.length hp
          have kf := m.k.few
          obtain ⟨jx, hjx⟩ := List.getElem?_of_mem hekn
          obtain ⟨⟨fk, ev⟩, h3, h4, te, na, nb, h5, hte, hna, hnb⟩ := pgetr hp hjx
          have h4 : fk = e.1 := h4
          have h5 : ev = .ref te := h5
          subst h4 h5
          have hval : valV kvs e.1 = some (.ref te) := valV_of_mem (g.nodup (vxC L).toCode) (List.mem_of_getElem? h3)
          obtain ⟨nvs, hnv, nev⟩ := id hna
          have nl := nev.length
          have hte' := hid_same _ _ hte
          have sz := m.k.sz e hekn
          refine ⟨_, rfl, _, rfl, _, _, _, _, rfl, rfl, SqT.of h1, atI_nat (j := 1) rfl, kd, kvs, e.1, _, rfl, g.r, hfv, hval, _, _, _, _, rfl, rfl, SqT.of hte', atI_nat (j := 0) rfl, ?_⟩
          refine ⟨_, rfl, _, rfl, by show 3 ≤ sizeLine; omega, fun v1 nv1 => ⟨by show 1 ≤ sizeLine; omega, fun a1 na1 => ?_⟩⟩
          have q1 := same_new (o := .tup [.ref nm, .int (0 + (j : Nat)), .int 0]) nv1
          have q2 := same_new (o := .lst [.ref v1]) na1
          have hv1 : TD (upd H16 v1 (.tup [.ref nm, .int (0 + (j : Nat)), .int 0])) (vxK L ⟨own, 0 + (j : Nat), 0⟩) (.ref v1) := ⟨v1, _, rfl, upd_same, _, _, rfl, (i16.same q1).nm, _, _, rfl, rfl, _, _, rfl, rfl, rfl⟩
          refine ⟨na, a1, nvs, [.ref v1], rfl, rfl, (q1.trans q2) _ _ (hid_same _ _ hnv), upd_same, by show nvs.length + 1 ≤ sizeLine; omega, fun p np => ?_⟩
          have q3 := same_new (o := .lst (nvs ++ [.ref v1])) np
          have Q3 := (q1.trans q2).trans q3
          have i19 := ((i16.same q1).same q2).same q3
          refine ⟨_, rfl, _, rfl, _, _, _, _, rfl, rfl, SqT.of (Q3 _ _ h1), atI_nat (j := 1) rfl, kd, kvs, e.1, _, rfl, (g.same Q3).r, TD.tk (Tk.of_same Q3) _ _ hfv, hval, _, _, _, _, rfl, rfl, SqT.of (Q3 _ _ hte'), atI_nat (j := 1) rfl, by show 2 ≤ sizeLine; omega, fun t1 nt1 => ?_⟩
          have q4 := same_new (o := .tup [.ref p, .ref nb]) nt1
          have Q4 := Q3.trans q4
          have i20 := i19.same q4
          have dnp := ((i16.same q1).same q2).o.dn
          have hp20 := q4 p _ upd_same
          have hkv : KvAt L (hid (fun b => D b ∨ b = co) _) (.ref t1) (e.2.1 ++ [⟨own, 0 + (j : Nat), 0⟩], e.2.2) := ⟨t1, p, nb, rfl, i20.o.dn.tk _ _ upd_same, ⟨_, (by rw [hid_of (dnp.new np)]; exact hp20), (EV.tk (Tk.of_same (hid_mono Q4)) nev).snoc (TD.tk ((Tk.of_same ((q2.trans q3).trans q4)).trans i20.o.dn.tk) _ _ hv1)⟩, hnb.same (hid_mono Q4)⟩
          have hp4 := Paired.mapP hp fun (kv : Vx × V) (x : Kn) (z : kv.1 = x.1 ∧ KvAt L (hid (fun b => D b ∨ b = co) H16) kv.2 x.2) => (⟨z.1, z.2.same (hid_mono Q4)⟩ : kv.1 = x.1 ∧ KvAt L (hid (fun b => D b ∨ b = co) (upd (upd (upd (upd H16 v1 (.tup [.ref nm, .int (0 + (j : Nat)), .int 0])) a1 (.lst [.ref v1])) p (.lst (nvs ++ [.ref v1]))) t1 (.tup [.ref p, .ref nb]))) kv.2 x.2)
          refine ⟨_, rfl, _, rfl, _, _, _, _, rfl, rfl, SqT.of (Q4 _ _ h1), atI_nat (j := 1) rfl, kd, kvs, e.1, rfl, g.same Q4, by omega, TD.tk (Tk.of_same Q4) _ _ hfv, fun H18 but g18 => ⟨_, _, _, _, _, _, _, rfl, i20.put hd hp4 (g.same Q4) hkv but g18, ?_, g17, l17⟩⟩
          have old := m.k.old e hekn
          refine m.k.put older ?_ ?_ (by simp) (m.k.nd e hekn) (older _ old.1) (fun x hx => ?_) (fun x hx => older _ (old.2.2 x hx))
          · rw [List.length_append]
            exact Nat.succ_le_succ sz.1
          · show e.2.2.length ≤ _
            omega
          · rcases List.mem_append.mp hx with hx | hx
            · exact older _ (old.2.1 x hx)
            · rw [List.mem_singleton] at hx
              rw [hx]
              exact .inr ⟨rfl, by show (0 : Int) + (j : Nat) < _; omega⟩
        · -- lines
          refine q_kdi (i := 11) rfl ha (iF (by show decide (("lines" : Str) = "add") = false; decide +kernel) (q_kdi (i := 11) rfl ha (iF (by show decide (("lines" : Str) = "move") = false; decide +kernel) (q_kdi (i := 11) rfl ha (iT (by show decide (("lines" : Str) = "lines") = true; decide +kernel) ?_)))))
          obtain ⟨e, hekn, rfl, _, _, _, _, ln3⟩ := hok
          obtain ⟨a', fv, lu, ld, lt, ts, ea, h1, hfv, _, _, hts, htsl⟩ := hcv16.same hid_same
          cases ea
          obtain ⟨kvs, g, hp⟩ := id i16.o.kn
          have kl : kvs.length = kn.length := Paired.length hp
          have kf := m.k.few
          obtain ⟨jx, hjx⟩ := List.getElem?_of_mem hekn
          obtain ⟨⟨fk, ev⟩, h3, h4, te, na, nb, h5, hte, hna, hnb⟩ := pgetr hp hjx
          have h4 : fk = e.1 := h4
          have h5 : ev = .ref te := h5
          subst h4 h5
          have hval : valV kvs e.1 = some (.ref te) := valV_of_mem (g.nodup (vxC L).toCode) (List.mem_of_getElem? h3)
          obtain ⟨bvs, hbv, bev⟩ := id hnb
          have bl := bev.length
          have hte' := hid_same _ _ hte
          have sz := m.k.sz e hekn
          refine ⟨_, rfl, _, rfl, _, _, _, _, rfl, rfl, SqT.of h1, atI_nat (j := 1) rfl, kd, kvs, e.1, _, rfl, g.r, hfv, hval, _, _, _, _, rfl, rfl, SqT.of hte', atI_nat (j := 1) rfl, ?_⟩
          refine ⟨_, rfl, _, _, _, _, rfl, rfl, SqT.of h1, atI_nat (j := 4) rfl, _, _, rfl, .inl ⟨_, SqL.of hts, rfl⟩, _, rfl, by omega, by omega, fun D2 nD2 => lc_accR nD2 (RelE (vxK L) (newL own j)) RelE.mono .nil (by omega) ?_ ?_⟩
          · rintro q y H17 acc3 C9 N9 hq he s17 hD hl r17 hC hN
            have he : y = .int (0 + (q : Nat)) := he
            subst he
            refine ⟨rfl, ?_⟩
            refine ⟨_, rfl, _, rfl, _, rfl, by show 3 ≤ sizeLine; omega, fun v1 nv1 => ?_⟩
            have q1 := same_new (o := .tup [.ref nm, .int (0 + (j : Nat)), .int (0 + (q : Nat))]) nv1
            refine hC _ _ q1 ?_
            show EV _ _ _ (newL own j (q + 1))
            unfold newL
            rw [List.range_succ, List.map_append]
            refine EV.snoc (EV.tk (Tk.of_same q1) r17) ⟨v1, _, rfl, upd_same, _, _, rfl, ((i16.same s17).same q1).nm, _, _, rfl, rfl, _, _, rfl, rfl, rfl⟩
          intro H17 acc3 s17 hD17 hl17 r17
          have r17 : EV H17 (vxK L) acc3 (newL own j ln) := by
            have e : ((ts.length : Nat) : Int).toNat = ln := by omega
            have r17 : EV H17 (vxK L) acc3 (newL own j ((ts.length : Nat) : Int).toNat) := r17
            rwa [e] at r17
          have al := r17.length
          have nll : (newL own j ln).length = ln := by simp [newL]
          refine ⟨nb, D2, bvs, acc3, rfl, rfl, s17 _ _ (hid_same _ _ hbv), hD17, by omega, fun p np => ?_⟩
          have q3 := same_new (o := .lst (bvs ++ acc3)) np
          have Q3 := s17.trans q3
          have i19 := (i16.same s17).same q3
          refine ⟨_, rfl, _, rfl, _, _, _, _, rfl, rfl, SqT.of (Q3 _ _ h1), atI_nat (j := 1) rfl, kd, kvs, e.1, _, rfl, (g.same Q3).r, TD.tk (Tk.of_same Q3) _ _ hfv, hval, _, _, _, _, rfl, rfl, SqT.of (Q3 _ _ hte'), atI_nat (j := 0) rfl, _, rfl, by show 2 ≤ sizeLine; omega, fun t1 nt1 => ?_⟩
          have q4 := same_new (o := .tup [.ref na, .ref p]) nt1
          have Q4 := Q3.trans q4
          have i20 := i19.same q4
          have dnp := (i16.same s17).o.dn
          have hp20 := q4 p _ upd_same
          have hkv : KvAt L (hid (fun b => D b ∨ b = co) _) (.ref t1) (e.2.1, e.2.2 ++ newL own j ln) := ⟨t1, na, p, rfl, i20.o.dn.tk _ _ upd_same, hna.same (hid_mono Q4), ⟨_, (by rw [hid_of (dnp.new np)]; exact hp20), (EV.tk (Tk.of_same (hid_mono Q4)) bev).app (EV.tk ((Tk.of_same (q3.trans q4)).trans i20.o.dn.tk) r17)⟩⟩
          have hp4 := Paired.mapP hp fun (kv : Vx × V) (x : Kn) (z : kv.1 = x.1 ∧ KvAt L (hid (fun b => D b ∨ b = co) H16) kv.2 x.2) => (⟨z.1, z.2.same (hid_mono Q4)⟩ : kv.1 = x.1 ∧ KvAt L (hid (fun b => D b ∨ b = co) (upd (upd H17 p (.lst (bvs ++ acc3))) t1 (.tup [.ref na, .ref p]))) kv.2 x.2)
          refine ⟨_, rfl, _, rfl, _, _, _, _, rfl, rfl, SqT.of (Q4 _ _ h1), atI_nat (j := 1) rfl, kd, kvs, e.1, rfl, g.same Q4, by omega, TD.tk (Tk.of_same Q4) _ _ hfv, fun H18 but g18 => ⟨_, _, _, _, _, _, _, rfl, i20.put hd hp4 (g.same Q4) hkv but g18, ?_, g17, l17⟩⟩
          have old := m.k.old e hekn
          have hin : ∀ x ∈ newL own j ln, x.id = own ∧ x.pl = 0 + (j : Int) := fun x hx => by
            obtain ⟨q, _, rfl⟩ := List.mem_map.mp hx
            exact ⟨rfl, rfl⟩
          refine m.k.put older ?_ ?_ (m.k.ne e hekn) ?_ (older _ old.1) (fun x hx => older _ (old.2.1 x hx)) (fun x hx => ?_)
          · show e.2.1.length ≤ _
            omega
          · rw [List.length_append]
            omega
          · refine List.nodup_append.mpr ⟨m.k.nd e hekn, ?_, fun x hx y hy exy => ?_⟩
            · exact newL_nodup
            · obtain ⟨y1, y2⟩ := hin y hy
              rcases old.2.2 x hx with z | ⟨_, z⟩
              · rw [exy, y1] at z
                exact hownN z
              · rw [exy, y2] at z
                omega
          · rcases List.mem_append.mp hx with hx | hx
            · exact older _ (old.2.2 x hx)
            · obtain ⟨y1, y2⟩ := hin x hx
              exact .inr ⟨y1, by rw [y2]; omega⟩
        · refine q_kdi (i := 11) rfl ha (iF k1 (q_kdi (i := 11) rfl ha (iF k2 (q_kdi (i := 11) rfl ha (iF k3 ⟨kn, _, _, _, _, _, _, rfl, i16, m.k.weak older (Nat.le_succ _), g17, l17⟩)))))
      · rintro σ H14 ⟨kn, cs, c10, c11, c12, c13, c14, rfl, m⟩
        refine ⟨_, rfl, .inl ⟨rfl, _, .inl (.inl (m.i.o.row.choose_spec.1))⟩, ?_⟩
        refine ⟨_, rfl, _, rfl, _, rfl, by show 3 ≤ sizeLine; omega, fun l2 nl2 => ?_⟩
        have q1 := same_new (o := .lst [.str "", .str "n", .str "more"]) nl2
        have i15 := m.i.same q1
        have hnl2 := m.i.o.st.new nl2
        refine ⟨S, C, l2, [.str "", .str "n", .str "more"], rfl, i15.o.st, by rw [msk_of hnl2.1 hnl2.2, upd_same], (fun z => nomatch z), by show 3 < 1073741824; decide, fun pv' H16 hpv s16 st16 => ⟨by show 4 ≤ sizeLine; omega, fun t nt => ?_⟩⟩
        have i16 := (i15.call hd hnco.1 hnco.2 s16 st16)
        have q2 := same_new (o := .tup [.str "patch", .ref nm, .ref co, pv']) nt
        have i17 := i16.same q2
        obtain ⟨rvs3, hro3, hrp3⟩ := id i17.o.row
        obtain ⟨cvs3, hco3, hcp3⟩ := id i17.cs
        have pa : PaAt L (hid D (upd H16 t (.tup [.str "patch", .ref nm, .ref co, pv']))) (.ref t) ⟨own, cs⟩ := ⟨t, .ref nm, co, pv', cvs3, rfl, i17.o.less.dn.tk _ _ upd_same, TD.tk i17.o.less.dn.tk _ _ i17.nm, by rw [hid_of hcoD]; exact hco3, Paired.mapP hcp3 fun _ _ q => q.same hid_less⟩
        have rl3 : rvs3.length = ps.length := Paired.length hrp3
        have hcs : cs.length ≤ 12 := by
          have := m.l
          omega
        have o18 := i17.o.less.app hd hro3 pa
        refine ⟨ro, rvs3, .ref t, rfl, rfl, hro3, by omega, ps ++ [⟨own, cs⟩], kn, _, _, _, _, _, _, _, _, _, _, rfl, o18, patch_row rok hcs (by rw [← hown]) m.g, m.k.weak (fun x h => ?_) (by omega), by rw [List.length_append]; exact Nat.succ_le_succ pl⟩
        rw [ids_app, List.mem_append]
        rcases h with h | ⟨h, _⟩
        · exact .inl h
        · exact .inr (by rw [h]; exact List.mem_singleton.mpr rfl)
    · rintro σ H7 ⟨ps, kn, c5, c6, c7, c8, c9, c10, c11, c12, c13, c14, rfl, o7, rok, kinv, pl⟩
      obtain ⟨kvs, g, hp⟩ := o7.kn
      obtain ⟨rvs, hrow, hrp⟩ := id o7.row
      refine ⟨_, rfl, _, rfl, _, rfl, kd, kvs, rfl, g.r, fun p vs' xs' pm ev' np => ⟨by show 3 ≤ sizeLine; omega, fun t nt => ?_⟩⟩
      have sb := (same_new (o := .lst vs') np).trans (same_new (o := .tup [.ref la, .ref ro, .ref p]) nt)
      have o8 := o7.same sb
      have hn := (o7.st.same (same_new (o := .lst vs') np)).new nt
      obtain ⟨rvs2, q1, q2⟩ := o8.row
      refine k t L (.ref la) ro (.ref p) ps _ o8.s o8.st (by rw [msk_of hn.1 hn.2]; exact upd_same) ⟨rvs2, by rw [msk_of hd.roS hd.roC]; exact q1, Paired.mapP q2 fun _ _ q => q.same (hid_le hd.dS hd.dC)⟩ rok (by omega)
end
end K97
set_option Elab.async false
set_option linter.all false
set_option maxRecDepth 100000
set_option maxHeartbeats 4000000
/-! _law_needs, _law_dict. -/
namespace K97
open PySem PySem.Spec PyProof.Rows L2
/-- a part of a change, and what the walk over the parts takes from it -/
def PartR (L : Lab) (H : Hp) (k3 : Bool) (v : V) (ys : List Vx) : Prop := (∃ a vs, v = V.ref a ∧ H a = some (.tup vs) ∧ ys = []) ∨ ∃ a vs, v = V.ref a ∧ H a = some (.lst vs) ∧ if k3 = true then EV H (vxK L) vs ys ∧ ys.length ≤ 500 else ys = []
theorem PartR.same {L : Lab} {H H' : Hp} (s : Same H H') {k3 : Bool} {v : V} {ys : List Vx} (h : PartR L H k3 v ys) : PartR L H' k3 v ys := by
  rcases h with ⟨a, vs, e, h, r⟩ | ⟨a, vs, e, h, r⟩
  · exact .inl ⟨a, vs, e, s _ _ h, r⟩
  · refine .inr ⟨a, vs, e, s _ _ h, ?_⟩
    cases k3 with
    | true => exact ⟨(r.1 : EV H (vxK L) vs ys).tk (Tk.of_same s), r.2⟩
    | false => exact r
def k3Of (c : Ch) : Bool := inV (V.str c.kd) [V.str "cut", V.str "drop", V.str "move"]
/-- the parts beside the file: tuple, lists, vertices -/
def midOf : Ch → List Vx
  | .move _ xs => xs
  | .drop _ xs => xs
  | .cut _ xs => xs
  | _ => []
theorem td_part {L : Lab} {H : Hp} {x : Vx} {v : V} {k3 : Bool} (h : TD H (vxK L x) v) : PartR L H k3 v [] := by
  obtain ⟨a, vs, rfl, ha, _⟩ := td_tup h
  exact .inl ⟨a, vs, rfl, ha, rfl⟩
theorem ch_parts {L : Lab} {H : Hp} {v : V} {c : Ch} {f : Vx} (h : ChAt L H v c) (hs : c.small) (hf : c.file = some f) : ∃ a fv parts yss, v = V.ref a ∧ H a = some (.tup (.str c.kd :: fv :: parts)) ∧ TD H (vxK L f) fv ∧ parts ≠ [] ∧ Paired (PartR L H (k3Of c)) parts yss ∧ yss.flatten = midOf c ∧ parts.length ≤ 3 := by
  have k3t : inV (V.str "cut") [V.str "cut", V.str "drop", V.str "move"] = true := by decide +kernel
  have k3t2 : inV (V.str "drop") [V.str "cut", V.str "drop", V.str "move"] = true := by decide +kernel
  have k3t3 : inV (V.str "move") [V.str "cut", V.str "drop", V.str "move"] = true := by decide +kernel
  have k3f : inV (V.str "order") [V.str "cut", V.str "drop", V.str "move"] = false := by decide +kernel
  have k3f2 : inV (V.str "lines") [V.str "cut", V.str "drop", V.str "move"] = false := by decide +kernel
  cases c with
  | add => cases hf
  | back i => cases hf
  | move f' xs =>
    cases hf
    obtain ⟨a, fv, pa, ps, l, e, h1, h2, h3, vs, h4, h5⟩ := h
    have z := hs.1
    simp only [Ch.vx, Ch.file, Ch.olds, Ch.lns, List.length_cons, List.length_append, List.length_nil] at z
    refine ⟨a, fv, [.ref pa, .ref l], [[], xs], e, h1, h3, by simp, .cons (.inl ⟨pa, ps, rfl, h2, rfl⟩) (.cons (.inr ⟨l, vs, rfl, h4, ?_⟩) .nil), by simp [midOf], by simp⟩
    rw [show k3Of (.move f xs) = true from k3t3, if_pos rfl]
    exact ⟨h5, by omega⟩
  | drop f' xs =>
    cases hf
    obtain ⟨a, fv, l, e, h1, h3, vs, h4, h5⟩ := h
    have z := hs.1
    simp only [Ch.vx, Ch.file, Ch.olds, Ch.lns, List.length_cons, List.length_append, List.length_nil] at z
    refine ⟨a, fv, [.ref l], [xs], e, h1, h3, by simp, .cons (.inr ⟨l, vs, rfl, h4, ?_⟩) .nil, by simp [midOf], by simp⟩
    rw [show k3Of (.drop f xs) = true from k3t2, if_pos rfl]
    exact ⟨h5, by omega⟩
  | cut f' xs =>
    cases hf
    obtain ⟨a, fv, l, e, h1, h3, vs, h4, h5⟩ := h
    have z := hs.1
    simp only [Ch.vx, Ch.file, Ch.olds, Ch.lns, List.length_cons, List.length_append, List.length_nil] at z
    refine ⟨a, fv, [.ref l], [xs], e, h1, h3, by simp, .cons (.inr ⟨l, vs, rfl, h4, ?_⟩) .nil, by simp [midOf], by simp⟩
    rw [show k3Of (.cut f xs) = true from k3t, if_pos rfl]
    exact ⟨h5, by omega⟩
  | order f' x y =>
    cases hf
    obtain ⟨a, fv, xv, yv, e, h1, h3, h4, h5⟩ := h
    exact ⟨a, fv, [xv, yv], [[], []], e, h1, h3, by simp, .cons (td_part h4) (.cons (td_part h5) .nil), by simp [midOf], by simp⟩
  | lines f' u d n =>
    cases hf
    obtain ⟨a, fv, lu, ld, lt, ts, e, h1, h3, ⟨uv, h4, _⟩, ⟨dv, h5, _⟩, h6, _⟩ := h
    have r : ∀ (l : Addr) (vs : List V), H l = some (.lst vs) → PartR L H (k3Of (.lines f u d n)) (.ref l) [] := fun l vs q => .inr ⟨l, vs, rfl, q, by rw [show k3Of (.lines f u d n) = false from k3f2, if_neg (by decide)]⟩
    exact ⟨a, fv, [.ref lu, .ref ld, .ref lt], [[], [], []], e, h1, h3, by simp, .cons (r lu uv h4) (.cons (r ld dv h5) (.cons (r lt ts h6) .nil)), by simp [midOf], by simp⟩
/-- ids of a change, as the law's walk finds them -/
def chIds (c : Ch) : List Id := c.bk ++ c.vx.map (·.id)
section
variable {P : Program} {w : World} {K : PySem.W.Frag} {mg : Str → Option Value} {base : Heap}
theorem call_isiK' {X : Cx} (K : PySem.W.Frag) (h : X.K = K) : CallR X (.builtin "isinstance") (rIsi K) := h ▸ call_isi
/-- x[0] != 's', x a change in slot i -/
theorem q_kdn {σ : L2.St} {H : Hp} {Q : Bool → Hp → Prop} {a : Addr} {kd x : Str} {rest : List V} {i : Nat} (h0 : σ[i]? = some (some (.ref a))) (ha : H a = some (.tup (.str kd :: rest))) (q : Q (!decide (kd = x)) H) :
    tTest (tOp rNe (tOp (rIxT K) (tVar i) (tC (.int 0))) (tC (.str x))) σ H Q := ⟨_, h0, _, _, _, _, rfl, rfl, SqT.of ha, atI_nat (j := 0) rfl, rfl, _, rfl, by rw [dec_str]; exact q⟩
theorem file_kinds (c : Ch) : c = .add ∨ (∃ i, c = .back i) ∨ ∃ f, c.file = some f ∧ decide (c.kd = "back") = false ∧ decide (c.kd = "add") = false ∧ c.bk = [] := by
  cases c with
  | add => exact .inl rfl
  | back i => exact .inr (.inl ⟨i, rfl⟩)
  | move f xs => exact .inr (.inr ⟨f, rfl, by show decide (("move" : Str) = "back") = false; decide +kernel, by show decide (("move" : Str) = "add") = false; decide +kernel, rfl⟩)
  | drop f xs => exact .inr (.inr ⟨f, rfl, by show decide (("drop" : Str) = "back") = false; decide +kernel, by show decide (("drop" : Str) = "add") = false; decide +kernel, rfl⟩)
  | cut f xs => exact .inr (.inr ⟨f, rfl, by show decide (("cut" : Str) = "back") = false; decide +kernel, by show decide (("cut" : Str) = "add") = false; decide +kernel, rfl⟩)
  | order f a b => exact .inr (.inr ⟨f, rfl, by show decide (("order" : Str) = "back") = false; decide +kernel, by show decide (("order" : Str) = "add") = false; decide +kernel, rfl⟩)
  | lines f u d n => exact .inr (.inr ⟨f, rfl, by show decide (("lines" : Str) = "back") = false; decide +kernel, by show decide (("lines" : Str) = "add") = false; decide +kernel, rfl⟩)
theorem tail_kinds {c : Ch} {f : Vx} (h : c.file = some f) : (∃ u d n, c = .lines f u d n) ∨ (∃ a b, c = .order f a b) ∨ (decide (c.kd = "lines") = false ∧ decide (c.kd = "order") = false ∧ c.vx = f :: midOf c) := by
  cases c with
  | add => cases h
  | back i => cases h
  | move f xs =>
    cases h
    exact .inr (.inr ⟨by show decide (("move" : Str) = "lines") = false; decide +kernel, by show decide (("move" : Str) = "order") = false; decide +kernel, by simp [Ch.vx, Ch.file, Ch.olds, Ch.lns, midOf]⟩)
  | drop f xs =>
    cases h
    exact .inr (.inr ⟨by show decide (("drop" : Str) = "lines") = false; decide +kernel, by show decide (("drop" : Str) = "order") = false; decide +kernel, by simp [Ch.vx, Ch.file, Ch.olds, Ch.lns, midOf]⟩)
  | cut f xs =>
    cases h
    exact .inr (.inr ⟨by show decide (("cut" : Str) = "lines") = false; decide +kernel, by show decide (("cut" : Str) = "order") = false; decide +kernel, by simp [Ch.vx, Ch.file, Ch.olds, Ch.lns, midOf]⟩)
  | order f' a b =>
    cases h
    exact .inr (.inl ⟨a, b, rfl⟩)
  | lines f' u d n =>
    cases h
    exact .inl ⟨u, d, n, rfl⟩
/-- found = found + [vertex[0] for vertex in rows] -/
theorem q_found {L : Lab} {D : Ends} {σ : L2.St} {H : Hp} {fo ra : Addr} {fvs rvs : List V} {fs : List Id} {rs : List Vx} (h1 : σ[1]? = some (some (.ref fo))) (h3 : σ[3]? = some (some (.ref ra))) (h5 : 5 < σ.length) (hfo : H fo = some (.lst fvs)) (hra : H ra = some (.lst rvs)) (ef : EV H (idK L) fvs fs) (er : EV H (vxK L) rvs rs) (hz : fs.length + rs.length ≤ 100000)
    (q : ∀ p us H', Same H H' → H p = none → H' p = some (.lst us) → EV H' (idK L) us (fs ++ rs.map (·.id)) → D.nx (σ.set 1 (some (.ref p))) H') :
    tAsg (tOp rCat (tVar 1) (tLc (iList K (tVar 3)) (gName 5) tYes (tOp (rIxT K) (tVar 5) (tC (.int 0))) [5])) (gName 1) D σ H := by
  have sl := sizeLine_eq
  have e1 := ef.length
  have e2 := er.length
  refine ⟨_, h1, _, h3, ra, rfl, ⟨_, SqL.of hra⟩, fun D2 nD => lc_accL (xs := rvs) nD (RelE (idK L) fun i => ((rs.map (·.id)).take i).filter fun _ => true) RelE.mono RelE.zero (by omega) (fun H' s' => SqL.of (s' _ _ hra)) ?_ ?_⟩
  · rintro i x H2 acc C N hi he s2 hD hl r2 hC hN
    obtain ⟨y, hy, hyt⟩ := er.get (i := 0) he
    obtain ⟨a, u, rfl, ha, hu⟩ := td_vx (TD.tk (Tk.of_same s2) _ _ hyt)
    refine ⟨?_, .ref a, ?_, _, _, _, _, rfl, rfl, SqT.of ha, atI_nat (j := 0) rfl, hC _ _ (Same.refl _) (r2.yes (Same.refl _) (x := y.id) ?_ rfl hu)⟩
    · show ((σ.set 5 none).set 5 (some (V.ref a))).set 5 none = σ.set 5 none
      rw [List.set_set, List.set_set]
    · show ((σ.set 5 none).set 5 (some (V.ref a)))[5]? = some (some (V.ref a))
      rw [List.getElem?_set_self (by rw [List.length_set]; exact h5)]
    · rw [List.getElem?_map, hy]
      rfl
  · intro H2 acc s2 hD hl r2
    have r2 := r2.all (by rw [List.length_map]; exact e2)
    rw [List.filter_eq_self.mpr fun _ _ => rfl] at r2
    have e3 := r2.length
    rw [List.length_map] at e3
    refine ⟨fo, D2, fvs, acc, rfl, rfl, s2 _ _ hfo, hD, by omega, fun p np => ?_⟩
    have s3 := same_new (o := .lst (fvs ++ acc)) np
    exact q p _ _ (s2.trans s3) (none_of s2 np) upd_same ((ef.tk (Tk.of_same (s2.trans s3))).app (r2.tk (Tk.of_same s3)))
def spLNeeds (L : Lab) : Sp := fun vs H Q _ => ∃ (v : V) (p : Pa), vs = [v] ∧ PaAt L H v p ∧ p.ok ∧ (∀ i ∈ p.bk, i ≠ p.id) ∧ ∀ r H' xs, Same H H' → H r = none → LE H' (idK L) r xs → xs.length ≤ 12000 → (∀ i, i ∈ xs ↔ i ∈ p.needs) → Q (.ref r) H'
theorem scLNeeds : FnScope ["_law_patch", "_law_found", "_law_change_here", "_law_rows", "_law_part", "_law_vertex", "_law_name"] ["_law_patch"] (defScope sLNeeds) := ⟨rfl, rfl, rfl, by decide +kernel, rfl, by decide +kernel, by decide +kernel⟩
theorem ok_lneeds {L : Lab} {f : Addr} {fd : FuncData} (B : Bt mg) (F : DefAt K "_law_needs" "_law_needs" sLNeeds f fd) : FnOk P w K mg base CX0 1 f fd ["_law_patch"] (spLNeeds L) := by
  refine FunD.ok F scLNeeds (fun vs H Q E h => ?_) (fun cdv A outer s H vs Q E hr h => ?_)
  · obtain ⟨v, p, rfl, _⟩ := h
    rfl
  · obtain ⟨v, p, rfl, hp, hok, hbk, k⟩ := h
    have nd := scLNeeds.nd
    have sl := sizeLine_eq
    have hu := hr.units
    have ix0 : ∀ {X : Cx} {i : Nat} {x : Str} {pos : Pos} {t : TE}, PE X (.Name x pos) t → True := fun _ => trivial
    refine ⟨_, PSs.nox (pss_cons (ps_set (i := 1) nd rfl (Or.inl rfl) (pe_lst pa_nil))
      (pss_cons (ps_for PassesOwn.never rfl (pi_list (pe_ix ix_tup (pv 0) pe_int (fun _ _ => rfl))) (pg_name (i := 2) nd rfl (Or.inl rfl))
        (pss_one (ps_if (pt_cmpR op_eq (pe_ix ix_tup (pv 2) pe_int (fun _ _ => rfl)) pe_str (nomark _))
          (pss_one (ps_expr (pe_bm PySem.F.plainAttrs_list PySem.F.slot_list_append PySem.F.type_list_append mt_append (pv 1) (pa_cons (pe_ix ix_tup (pv 2) pe_int (fun _ _ => rfl)) pa_nil))))
          (pss_one (ps_if (pt_cmpR op_ne (pe_ix ix_tup (pv 2) pe_int (fun _ _ => rfl)) pe_str (nomark _))
            (pss_cons (ps_set (i := 3) nd rfl (Or.inl rfl) (pe_lst (pa_cons (pe_ix ix_tup (pv 2) pe_int (fun _ _ => rfl)) pa_nil)))
            (pss_cons (ps_for PassesOwn.never rfl (pi_tup (pe_slice sl_tup (pv 2) (po_some pe_int) po_none)) (pg_name (i := 4) nd rfl (Or.inl rfl))
              (pss_one (ps_if (PW.pt (pw_and (pt_val (pe_callB (call_isiK' K rfl) (by rfl) B.isi boot_isinstance (pa_cons (pv 4) (pa_cons (pe_bltn (v := .ty "list") (by rfl) B.list boot_list rfl) pa_nil)))) (pw_and1 (pt_cmpR op_in_seq (pe_ix ix_tup (pv 2) pe_int (fun _ _ => rfl)) (pe_tup (pa_cons pe_str (pa_cons pe_str (pa_cons pe_str pa_nil)))) rfl))))
                (pss_one (ps_set (i := 3) nd rfl (Or.inl rfl) (pe_op op_cat (pv 3) (pv 4)))) pss_nil)))
            (pss_cons (ps_if (pt_cmpR op_eq (pe_ix ix_tup (pv 2) pe_int (fun _ _ => rfl)) pe_str (nomark _))
              (pss_one (ps_set (i := 3) nd rfl (Or.inl rfl) (pe_op op_cat (pe_op op_cat (pv 3) (pe_ix ix_tup (pv 2) pe_int (fun _ _ => rfl))) (pe_ix ix_tup (pv 2) pe_int (fun _ _ => rfl))))) pss_nil)
            (pss_cons (ps_if (pt_cmpR op_eq (pe_ix ix_tup (pv 2) pe_int (fun _ _ => rfl)) pe_str (nomark _))
              (pss_one (ps_set (i := 3) nd rfl (Or.inl rfl) (pe_op op_cat (pv 3) (pe_lst (pa_cons (pe_ix ix_tup (pv 2) pe_int (fun _ _ => rfl)) (pa_cons (pe_ix ix_tup (pv 2) pe_int (fun _ _ => rfl)) pa_nil)))))) pss_nil)
            (pss_one (ps_set (i := 1) nd rfl (Or.inl rfl) (pe_op op_cat (pv 1) (pe_lc (own := [("_law_vertex", 5)]) (g := gName 5) (tt := tYes) rfl nd (pi_list (pv 3))
                (blkOk_by (own := [("_law_vertex", 5)]) (N := ["_law_patch", "_law_found", "_law_change_here", "_law_rows", "_law_part", "_law_vertex", "_law_name"]) (sc := defScope sLNeeds) (by decide +kernel)) (fun _ _ _ _ _ => pg_name (i := 5) nd rfl (Or.inl rfl))
                (fun _ _ _ _ _ => pts_nil) (fun _ _ _ _ _ => pe_ix (ixK K rfl) (pv 5) pe_int (fun _ _ => rfl)))))))))) pss_nil)))))
      (pss_one (ps_ret (pe_callB (call_sortE (idC L) hu) (by rfl) B.sorted boot_sorted (pa_cons (pe_lc (own := [("_law_name", 6)]) (g := gName 6) rfl nd (pi_list (pv 1))
          (blkOk_by (own := [("_law_name", 6)]) (N := ["_law_patch", "_law_found", "_law_change_here", "_law_rows", "_law_part", "_law_vertex", "_law_name"]) (sc := defScope sLNeeds) (by decide +kernel)) (fun _ _ _ _ _ => pg_name (i := 6) nd rfl (Or.inl rfl))
          (fun _ _ _ _ _ => pts_one (pt_cmpR (op_neE hu (idC L).toCode) (pv 6) (pe_ix (ixK K rfl) (pv 0) pe_int (fun _ _ => rfl)) (nomark _))) (fun _ _ _ _ _ => pv 6)) pa_nil)))))), ?_⟩
    refine ⟨Nat.zero_le _, fun fo0 nfo0 => ?_⟩
    have s1 := same_new (o := .lst []) nfo0
    obtain ⟨a, iv', l, nt, cvs, rfl, ha, hi, hl, hcs⟩ := id hp
    have cl : cvs.length = p.chs.length := Paired.length hcs
    refine ⟨_, rfl, _, _, _, _, rfl, rfl, SqT.of (s1 _ _ ha), atI_nat (j := 2) rfl, l, rfl, ⟨_, SqL.of (s1 _ _ hl)⟩, for_list (K := K) (a := l) (xs := cvs)
      (fun j σ H' => ∃ fo fvs fs c2 c3 c4 c5 c6, σ = [some (.ref a), some (.ref fo), c2, c3, c4, c5, c6] ∧ Same H H' ∧ H fo = none ∧ H' fo = some (.lst fvs) ∧ EV H' (idK L) fvs fs ∧ (∀ i, i ∈ fs ↔ i ∈ (p.chs.take j).flatMap chIds) ∧ fs.length ≤ 600 * j)
      ⟨fo0, [], [], none, none, none, none, none, rfl, s1, nfo0, upd_same, .nil, (by simp), Nat.zero_le _⟩ (fun j σ H' _ ⟨_, _, _, _, _, _, _, _, _, s, _⟩ => SqL.of (s _ _ hl)) ?_ ?_⟩
    · rintro j y σ H1 hj ⟨fo, fvs, fs, c2, c3, c4, c5, c6, rfl, S1, nfo, hfo, ef, hm, hz⟩
      obtain ⟨c, hc, hcat⟩ := pget hcs hj
      have hcat := hcat.same S1
      have hsm := hok.small c (List.mem_of_getElem? hc)
      have hj12 : j < 12 := Nat.lt_of_lt_of_le (List.getElem?_eq_some_iff.mp hc).1 hok.few
      have fl := ef.length
      have mem : ∀ us : List Id, (∀ i, i ∈ us ↔ i ∈ chIds c) → ∀ i, i ∈ fs ++ us ↔ i ∈ (p.chs.take (j + 1)).flatMap chIds := fun us hu i => by
        rw [List.mem_append, hm, hu, mem_flat_succ hc]
      rcases file_kinds c with rfl | ⟨bi, rfl⟩ | ⟨f, hf, kb, ka, hbk0⟩
      · obtain ⟨a2, rest, rfl, ha2⟩ := ch_hd hcat
        refine q_kdi (i := 2) rfl ha2 (iF (by show decide (("add" : Str) = "back") = false; decide +kernel) (q_kdn (i := 2) rfl ha2 (iF (by show (!decide (("add" : Str) = "add")) = false; decide +kernel) ⟨fo, fvs, fs, _, _, _, _, _, rfl, S1, nfo, hfo, ef, fun i => ?_, by omega⟩)))
        have := mem [] (by simp [chIds, Ch.bk, Ch.vx, Ch.file]) i
        rwa [List.append_nil] at this
      · obtain ⟨a2, u, rfl, ha2, hu2⟩ := hcat
        refine q_kdi (i := 2) rfl ha2 (iT (by show decide (("back" : Str) = "back") = true; decide +kernel) ?_)
        refine ⟨_, rfl, .inl ⟨rfl, _, .inl (.inl hfo)⟩, _, rfl, _, _, _, _, rfl, rfl, SqT.of ha2, atI_nat (j := 1) rfl, fo, fvs, _, rfl, rfl, hfo, by omega, ?_⟩
        have tk : Tk H1 (upd H1 fo (.lst (fvs ++ [u]))) := Tk.put hfo fun _ z => nomatch z
        refine ⟨fo, _, fs ++ [bi], _, _, _, _, _, rfl, (Kp.upd).same S1 nfo, nfo, upd_same, (ef.tk tk).snoc (TD.tk tk _ _ hu2), mem [bi] (by simp [chIds, Ch.bk, Ch.vx, Ch.file]), ?_⟩
        rw [List.length_append]
        show fs.length + 1 ≤ _
        omega
      · obtain ⟨a2, fv, parts, yss, rfl, ha2, hfv, pne, hpp, hfl, pl3⟩ := ch_parts hcat hsm hf
        have pp : 0 < parts.length := List.length_pos_iff.mpr pne
        refine q_kdi (i := 2) rfl ha2 (iF kb (q_kdn (i := 2) rfl ha2 (iT (by rw [ka]; rfl) ?_)))
        refine ⟨_, rfl, _, _, _, _, rfl, rfl, SqT.of ha2, atI_nat (j := 1) rfl, by show 1 ≤ sizeLine; omega, fun r0 nr0 => ?_⟩
        have s2 := same_new (o := .lst [fv]) nr0
        refine ⟨_, rfl, _, rfl, a2, _, rfl, SqT.of (s2 _ _ ha2), fun z => ?_, fun p2 np2 => ?_⟩
        · have z1 := z.1
          rw [show (2 : Int) = ((2 : Nat) : Int) from rfl, HT.sIx_nat] at z1
          simp only [List.length_cons] at z1
          omega
        have ecut : cutV (V.str c.kd :: fv :: parts) (some 2) none = parts := by
          have := cut_from (V.str c.kd :: fv :: parts) 2 (by simp)
          exact this
        have hp2 : upd (upd H1 r0 (.lst [fv])) p2 (.tup (cutV (V.str c.kd :: fv :: parts) (some 2) none)) p2 = some (.tup parts) := by rw [upd_same, ecut]
        have s3 : Same (upd H1 r0 (.lst [fv])) (upd (upd H1 r0 (.lst [fv])) p2 (.tup (cutV (V.str c.kd :: fv :: parts) (some 2) none))) := same_new np2
        generalize upd (upd H1 r0 (.lst [fv])) p2 (.tup (cutV (V.str c.kd :: fv :: parts) (some 2) none)) = H2 at hp2 s3
        have S2 := s2.trans s3
        have z500 := hsm.1
        refine ⟨p2, rfl, ⟨_, SqT.of hp2⟩, for_tup (K := K) (a := p2) (xs := parts)
          (fun i σ H' => ∃ ra rvs c4, σ = [some (.ref a), some (.ref fo), some (.ref a2), some (.ref ra), c4, c5, c6] ∧ Same H2 H' ∧ H' ra = some (.lst rvs) ∧ EV H' (vxK L) rvs (f :: (yss.take i).flatten) ∧ rvs.length ≤ 1 + 500 * i)
          ⟨r0, [fv], _, rfl, Same.refl _, s3 _ _ upd_same, .cons (TD.tk (Tk.of_same S2) _ _ hfv) (by simp; exact .nil), by simp⟩ (fun i σ H' _ ⟨_, _, _, _, s, _⟩ => SqT.of (s _ _ hp2)) ?_ ?_⟩
        · rintro i y2 σ H3 hi ⟨ra, rvs, c4, rfl, S3, hra, er, hrl⟩
          obtain ⟨ys, hys, hpr⟩ := pget hpp hi
          have hpr := hpr.same (S2.trans S3)
          have fstep : (yss.take (i + 1)).flatten = (yss.take i).flatten ++ ys := by
            rw [take_succ_get hys, List.flatten_append]
            simp
          have i3 : i < 3 := Nat.lt_of_lt_of_le (List.getElem?_eq_some_iff.mp hi).1 pl3
          have skip : ys = [] → ∀ H4, Same H3 H4 → EV H4 (vxK L) rvs (f :: (yss.take (i + 1)).flatten) := fun e H4 s4 => by
            rw [fstep, e, List.append_nil]
            exact er.tk (Tk.of_same s4)
          rcases hpr with ⟨at_, tvs, rfl, hat, e0⟩ | ⟨al, lvs, rfl, hal, hk⟩
          · exact ⟨_, rfl, _, _, _, _, false, rfl, .ty "list", .base (.tup hat), kit_ty (by decide +kernel), _, rfl, iF rfl (iF rfl ⟨ra, rvs, _, rfl, S3, hra, skip e0 _ (Same.refl _), by omega⟩)⟩
          · refine ⟨_, rfl, _, _, _, _, true, rfl, .ty "list", .base (.lst hal), kit_ty (by decide +kernel), _, rfl, iT rfl ?_⟩
            refine ⟨_, rfl, _, _, _, _, rfl, rfl, SqT.of ((S2.trans S3) _ _ ha2), atI_nat (j := 0) rfl, by show 3 ≤ sizeLine; omega, fun tt ntt => ?_⟩
            have s4 := same_new (o := .tup [.str "cut", .str "drop", .str "move"]) ntt
            refine ⟨_, _, rfl, .inr (SqT.of upd_same), rfl, rfl, _, rfl, ?_⟩
            refine iB (fun hb => ?_) (fun hb => ?_)
            · have hb : k3Of c = true := hb
              rw [hb, if_pos rfl] at hk
              obtain ⟨hk1, hk2⟩ := hk
              have ll := hk1.length
              refine ⟨_, rfl, _, rfl, ra, al, rvs, lvs, rfl, rfl, s4 _ _ hra, s4 _ _ hal, by omega, fun p5 np5 => ?_⟩
              have s5 := same_new (o := .lst (rvs ++ lvs)) np5
              have s45 := s4.trans s5
              refine ⟨p5, _, _, rfl, S3.trans s45, upd_same, ?_, ?_⟩
              · rw [fstep, ← List.cons_append]
                exact (er.tk (Tk.of_same s45)).app (hk1.tk (Tk.of_same s45))
              · rw [List.length_append]
                omega
            · have hb : k3Of c = false := hb
              rw [hb, if_neg (by decide)] at hk
              exact ⟨ra, rvs, _, rfl, S3.trans s4, s4 _ _ hra, skip hk _ s4, by omega⟩
        · rintro σ H3 ⟨ra, rvs, c4, rfl, S3, hra, er, hrl⟩
          rw [Paired.length hpp, List.take_length, hfl] at er
          have S23 := S2.trans S3
          have hids : ∀ i, i ∈ c.vx.map (·.id) ↔ i ∈ chIds c := fun i => by
            unfold chIds
            rw [hbk0, List.nil_append]
          have vl : (c.vx.map (·.id)).length ≤ 500 := by
            rw [List.length_map]
            exact z500
          have S13 := S1.trans S23
          have ha3 := S23 _ _ ha2
          have hfo3 := S23 _ _ hfo
          have ef3 := ef.tk (Tk.of_same S23)
          have el := er.length
          rcases tail_kinds hf with ⟨u, d, n, rfl⟩ | ⟨x1, x2, rfl⟩ | ⟨k1, k2, evx⟩
          · obtain ⟨a', fv', lu, ld, lt, ts, e, h1, _, ⟨uvs, hu, eu⟩, ⟨dvs, hd, ed⟩, _, _⟩ := hcat
            cases e
            have evx : Ch.vx (.lines f u d n) = (f :: midOf (.lines f u d n)) ++ u ++ d := by simp [Ch.vx, Ch.file, Ch.olds, Ch.lns, midOf]
            have ul := eu.length
            have dl := ed.length
            rw [evx, List.length_append, List.length_append] at z500
            refine q_kdi (i := 2) rfl ha3 (iT (by show decide (("lines" : Str) = "lines") = true; decide +kernel) ?_)
            refine ⟨_, rfl, _, rfl, _, _, _, _, rfl, rfl, SqT.of (S23 _ _ h1), atI_nat (j := 2) rfl, ra, lu, rvs, uvs, rfl, rfl, hra, S23 _ _ hu, by omega, fun p5 np5 => ?_⟩
            have s5 := same_new (o := .lst (rvs ++ uvs)) np5
            refine ⟨_, rfl, _, _, _, _, rfl, rfl, SqT.of ((S23.trans s5) _ _ h1), atI_nat (j := 3) rfl, p5, ld, rvs ++ uvs, dvs, rfl, rfl, upd_same, (S23.trans s5) _ _ hd, by rw [List.length_append]; omega, fun p6 np6 => ?_⟩
            have s6 := same_new (o := .lst (rvs ++ uvs ++ dvs)) np6
            have s56 := s5.trans s6
            have er6 := (((er.tk (Tk.of_same s56)).app (eu.tk (Tk.of_same (S23.trans s56)))).app (ed.tk (Tk.of_same (S23.trans s56))))
            rw [← evx] at er6
            refine q_kdi (i := 2) rfl (s56 _ _ ha3) (iF (by show decide (("lines" : Str) = "order") = false; decide +kernel) ?_)
            refine q_found rfl rfl (by show 5 < 7; omega) (s56 _ _ hfo3) upd_same (ef3.tk (Tk.of_same s56)) er6 (by rw [evx, List.length_append, List.length_append]; omega) fun p7 us H7 s7 np7 hp7 e7 => ?_
            have S7 := (S13.trans s56).trans s7
            exact ⟨p7, us, _, _, _, _, _, _, rfl, S7, none_of (S13.trans s56) np7, hp7, e7, mem _ hids, by rw [List.length_append]; omega⟩
          · obtain ⟨a', fv', xv, yv, e, h1, _, hx, hy⟩ := hcat
            cases e
            have evx : Ch.vx (.order f x1 x2) = (f :: midOf (.order f x1 x2)) ++ [x1, x2] := by simp [Ch.vx, Ch.file, Ch.olds, Ch.lns, midOf]
            rw [evx, List.length_append] at z500
            refine q_kdi (i := 2) rfl ha3 (iF (by show decide (("order" : Str) = "lines") = false; decide +kernel) ?_)
            refine q_kdi (i := 2) rfl ha3 (iT (by show decide (("order" : Str) = "order") = true; decide +kernel) ?_)
            refine ⟨_, rfl, _, rfl, _, _, _, _, rfl, rfl, SqT.of (S23 _ _ h1), atI_nat (j := 2) rfl, _, rfl, _, _, _, _, rfl, rfl, SqT.of (S23 _ _ h1), atI_nat (j := 3) rfl, by show 2 ≤ sizeLine; omega, fun p5 np5 => ?_⟩
            have s5 := same_new (o := .lst [xv, yv]) np5
            refine ⟨ra, p5, rvs, [xv, yv], rfl, rfl, s5 _ _ hra, upd_same, by show rvs.length + 2 ≤ sizeLine; omega, fun p6 np6 => ?_⟩
            have s6 := same_new (o := .lst (rvs ++ [xv, yv])) np6
            have s56 := s5.trans s6
            have er6 := (er.tk (Tk.of_same s56)).app (.cons (TD.tk (Tk.of_same (S23.trans s56)) _ _ hx) (.cons (TD.tk (Tk.of_same (S23.trans s56)) _ _ hy) .nil) : EV _ (vxK L) [xv, yv] [x1, x2])
            rw [← evx] at er6
            refine q_found rfl rfl (by show 5 < 7; omega) (s56 _ _ hfo3) upd_same (ef3.tk (Tk.of_same s56)) er6 (by rw [evx, List.length_append]; omega) fun p7 us H7 s7 np7 hp7 e7 => ?_
            have S7 := (S13.trans s56).trans s7
            exact ⟨p7, us, _, _, _, _, _, _, rfl, S7, none_of (S13.trans s56) np7, hp7, e7, mem _ hids, by rw [List.length_append]; omega⟩
          · rw [← evx] at er
            refine q_kdi (i := 2) rfl ha3 (iF k1 ?_)
            refine q_kdi (i := 2) rfl ha3 (iF k2 ?_)
            refine q_found rfl rfl (by show 5 < 7; omega) hfo3 hra ef3 er (by omega) fun p7 us H7 s7 np7 hp7 e7 => ?_
            exact ⟨p7, us, _, _, _, _, _, _, rfl, S13.trans s7, none_of S13 np7, hp7, e7, mem _ hids, by rw [List.length_append]; omega⟩
    · rintro σ H1 ⟨fo, fvs, fs, c2, c3, c4, c5, c6, rfl, S1, nfo, hfo, ef, hm, hz⟩
      rw [cl, List.take_length] at hm
      have few := hok.few
      have hl1 : fs.length ≤ 7200 := by
        rw [cl] at hz
        omega
      have fl := ef.length
      refine ⟨_, rfl, fo, rfl, ⟨_, SqL.of hfo⟩, fun D nD => lc_accL (xs := fvs) nD (RelE (idK L) fun i => (fs.take i).filter fun i => decide (i ≠ p.id)) RelE.mono RelE.zero (by omega) (fun H' s' => SqL.of (s' _ _ hfo)) ?_ ?_⟩
      · rintro i x H2 acc C N hi' he s2 hD hl2 r2 hC hN
        obtain ⟨q, hq, hqt⟩ := ef.get (i := 0) he
        have hqt2 := TD.tk (Tk.of_same s2) _ _ hqt
        refine ⟨rfl, _, rfl, _, rfl, _, _, _, _, rfl, rfl, SqT.of ((S1.trans s2) _ _ ha), atI_nat (j := 1) rfl, q, p.id, hqt2, TD.tk (Tk.of_same (S1.trans s2)) _ _ hi, _, rfl, iB (fun hb => ?_) (fun hb => ?_)⟩
        · exact ⟨_, rfl, hC _ _ (Same.refl _) (r2.yes (Same.refl _) hq (by simpa using hb) hqt2)⟩
        · exact hN _ (Same.refl _) (r2.no (Same.refl _) hq (by simpa using hb))
      · intro H2 acc s2 hD hl2 r2
        have r2 := r2.all fl
        have zl := List.length_filter_le (fun i => decide (i ≠ p.id)) fs
        have S2 := S1.trans s2
        refine ⟨D, acc, _, rfl, SqL.of hD, r2, fun p3 vs' xs' pm ev' np => ?_⟩
        refine k p3 _ xs' (S2.trans (same_new np)) (none_of S2 np) ⟨_, upd_same, ev'.tk (Tk.new np)⟩ (by rw [pm.length_eq]; omega) fun i => ?_
        rw [pm.mem_iff, List.mem_filter, hm, decide_eq_true_eq]
        unfold Pa.needs
        rw [List.mem_append]
        constructor
        · rintro ⟨h, hne⟩
          obtain ⟨c, hc, hi2⟩ := List.mem_flatMap.mp h
          unfold chIds at hi2
          rcases List.mem_append.mp hi2 with q | q
          · exact .inr (List.mem_flatMap.mpr ⟨c, hc, q⟩)
          · obtain ⟨x, hx, e⟩ := List.mem_map.mp q
            exact .inl (mem_vxIds.mpr ⟨hne, c, hc, x, hx, e⟩)
        · rintro (h | h)
          · obtain ⟨hne, c, hc, x, hx, e⟩ := mem_vxIds.mp h
            exact ⟨List.mem_flatMap.mpr ⟨c, hc, List.mem_append.mpr (.inr (List.mem_map.mpr ⟨x, hx, e⟩))⟩, hne⟩
          · obtain ⟨c, hc, q⟩ := List.mem_flatMap.mp h
            exact ⟨List.mem_flatMap.mpr ⟨c, hc, List.mem_append.mpr (.inl q)⟩, hbk i h⟩
end
end K97
set_option Elab.async false
set_option linter.all false
set_option maxRecDepth 100000
set_option maxHeartbeats 4000000
/-! _law_dict, _law_all_below, _law_bad. -/
namespace K97
open PySem PySem.Spec PyProof.Rows L2
theorem rch_cons {ps : List Pa} {a b c : Id} (h : Nee ps a b) (r : Rch ps b c) : Rch ps a c := by
  induction r with
  | one q => exact .step (.one h) q
  | step _ q ih => exact .step ih q
theorem rch_left {ps : List Pa} {a c : Id} (r : Rch ps a c) : ∃ b, Nee ps a b ∧ (c = b ∨ Rch ps b c) := by
  induction r with
  | one q => exact ⟨_, q, .inl rfl⟩
  | step _ q ih =>
    obtain ⟨b, h1, h2⟩ := ih
    refine ⟨b, h1, .inr ?_⟩
    rcases h2 with rfl | h2
    · exact .one q
    · exact .step h2 q
def BelowOf (ps : List Pa) (n : Id) (xs : List Id) : Prop := xs.Nodup ∧ ∀ j, j ∈ xs ↔ j = n ∨ Rch ps n j
def BlAt (w : World) (L : Lab) (H0 H : Hp) (d : Addr) (ps qs : List Pa) : Prop := ∃ kvs, ND w H (idK L) d kvs ∧ ∀ p ∈ qs, ∃ a xs, valV kvs p.id = some (.ref a) ∧ (a ≠ d ∧ H0 a = none) ∧ LE H (idK L) a xs ∧ BelowOf ps p.id xs
theorem BlAt.same {w : World} {L : Lab} {H0 H H' : Hp} {d : Addr} {ps qs : List Pa} (s : Same H H') (h : BlAt w L H0 H d ps qs) : BlAt w L H0 H' d ps qs := let ⟨kvs, g, q⟩ := h; ⟨kvs, g.same s, fun p hp => let ⟨a, xs, e, n, l, b⟩ := q p hp; ⟨a, xs, e, n, l.same s, b⟩⟩
theorem below_len {ps : List Pa} (W : Wok ps) {n : Id} {xs : List Id} (h : BelowOf ps n xs) (hn : n ∈ ids ps) : xs.length ≤ 9 := by
  have := nodup_le h.1 (ys := ids ps) fun j hj => by
    rcases (h.2 j).mp hj with rfl | r
    · exact hn
    · exact rch_there W r
  unfold ids at this
  rw [List.length_map] at this
  exact Nat.le_trans this W.few
section
variable {P : Program} {w : World} {K : PySem.W.Frag} {mg : Str → Option Value} {base : Heap}
def spLDict (L : Lab) : Sp := fun vs H Q _ => ∃ (ro : Addr) (ps : List Pa), vs = [.ref ro] ∧ RowAt L H ro ps ∧ (ids ps).Nodup ∧ ps.length ≤ 9 ∧ ∀ d H', Same H H' → H d = none → WAt w L H' d ps → Q (.ref d) H'
theorem scLDict : FnScope ["_law_row", "_law_found", "_law_patch"] ["_law_row"] (defScope sLDict) := ⟨rfl, rfl, rfl, by decide +kernel, rfl, by decide +kernel, by decide +kernel⟩
theorem putK_new {κ : Type} [DecidableEq κ] {kvs : List (κ × V)} {k : κ} {v : V} (h : k ∉ kvs.map (·.1)) : putK kvs k v = kvs ++ [(k, v)] := by
  unfold putK
  rw [valV_any, valV_isSome, decide_eq_false h, if_neg (by decide)]
theorem ok_ldict {L : Lab} {f : Addr} {fd : FuncData} (B : Bt mg) (F : DefAt K "_law_dict" "_law_dict" sLDict f fd) : FnOk P w K mg base CX0 1 f fd ["_law_row"] (spLDict (w := w) L) := by
  refine FunD.ok F scLDict (fun vs H Q E h => ?_) (fun cdv A outer s H vs Q E hr h => ?_)
  · obtain ⟨ro, ps, rfl, _⟩ := h
    rfl
  · obtain ⟨ro, ps, rfl, ⟨rvs, hro, hrp⟩, hnd, hz, k⟩ := h
    have nd := scLDict.nd
    have sl := sizeLine_eq
    have hu := hr.units
    refine ⟨_, PSs.nox (pss_cons (ps_set (i := 1) nd rfl (Or.inl rfl) (pe_nnew (enc := idK L)))
      (pss_cons (ps_for PassesOwn.never rfl (pi_list (pv 0)) (pg_name (i := 2) nd rfl (Or.inl rfl))
        (pss_one (ps_nput (idC L).toTCode hu (pv 1) (pe_ix ix_tup (pv 2) pe_int (fun _ _ => rfl)) (pv 2) rfl)))
      (pss_one (ps_ret (pv 1))))), ?_⟩
    refine fun d H1 nd1 b1 g1 => ?_
    have s1 := same_but nd1 b1
    have rl : rvs.length = ps.length := Paired.length hrp
    refine ⟨_, rfl, ro, rfl, ⟨_, SqL.of (s1 _ _ hro)⟩, for_list (K := K) (a := ro) (xs := rvs)
      (fun i σ H' => ∃ c2 kvs, σ = [some (.ref ro), some (.ref d), c2] ∧ Same H H' ∧ ND w H' (idK L) d kvs ∧ Paired (fun (kv : Id × V) (p : Pa) => kv.1 = p.id ∧ PaAt L H' kv.2 p) kvs (ps.take i))
      ⟨none, [], rfl, s1, g1, .nil⟩ (fun i σ H' _ ⟨_, _, _, s, _⟩ => SqL.of (s _ _ hro)) ?_ ?_⟩
    · rintro i y σ H2 hi ⟨c2, kvs, rfl, s2, g, hp⟩
      obtain ⟨p, hpi, hpa⟩ := pget hrp hi
      have hpa2 := hpa.same s2
      obtain ⟨a, iv', cl, nt, cvs, rfl, ha, hid', _⟩ := id hpa2
      have keys := paired_keys hp
      have kl : kvs.length = (ps.take i).length := Paired.length hp
      have kl2 : kvs.length ≤ i := by
        rw [kl]
        exact List.length_take_le _ _
      have hil : i < ps.length := (List.getElem?_eq_some_iff.mp hpi).1
      have hnew : p.id ∉ kvs.map (·.1) := fun z => by
        rw [keys] at z
        have e2 : ids ps = ids (ps.take i) ++ ids (ps.drop i) := by rw [← ids_app, List.take_append_drop]
        rw [e2] at hnd
        obtain ⟨_, _, h3⟩ := List.nodup_append.mp hnd
        refine h3 p.id z p.id ?_ rfl
        rw [List.drop_eq_getElem_cons hil]
        rw [List.getElem?_eq_getElem hil] at hpi
        injection hpi with hpi
        rw [hpi]
        exact List.mem_cons_self
      refine ⟨_, rfl, _, rfl, _, rfl, _, _, _, _, rfl, rfl, SqT.of ha, atI_nat (j := 1) rfl, d, kvs, p.id, rfl, g, by omega, hid', fun H3 b3 g3 => ?_⟩
      have s3 : Same H H3 := (Kp.but b3).same s2 nd1
      refine ⟨_, _, rfl, s3, g3, ?_⟩
      rw [putK_new hnew, take_succ_get hpi]
      refine papp ?_ (.cons ⟨rfl, hpa.same s3⟩ .nil)
      -- the older ones, told from the start
      have old : Paired (fun (kv : Id × V) (q : Pa) => kv.1 = q.id ∧ PaAt L H2 kv.2 q) kvs (ps.take i) := hp
      refine Paired.mapP old fun kv q z => ⟨z.1, ?_⟩
      have kp : Kp d H2 H3 := Kp.but b3
      have tk := kp.tkn g
      obtain ⟨a', iv2, l', nt', vs', e', h1', h2', h3', h4'⟩ := z.2
      have nl : ∀ {b : Addr} {xs : List V}, H2 b = some (.lst xs) → H3 b = some (.lst xs) := fun {b xs} q => kp _ _ (by
        obtain ⟨xs', q'⟩ := g.there
        exact ne_of q q' fun z => by unfold ndO at z; cases z) q
      have hL : ∀ {xs : List Vx} {b : Addr}, LE H2 (vxK L) b xs → LE H3 (vxK L) b xs := fun {xs b} ⟨vs, q1, q2⟩ => ⟨vs, nl q1, q2.tk tk⟩
      refine ⟨a', iv2, l', nt', vs', e', tk _ _ h1', TD.tk tk _ _ h2', nl h3', Paired.mapP h4' fun v c hc => ?_⟩
      cases c with
      | add => obtain ⟨x, p, e, q⟩ := hc; exact ⟨x, p, e, tk _ _ q⟩
      | back i => obtain ⟨x, u, e, q, r⟩ := hc; exact ⟨x, u, e, tk _ _ q, TD.tk tk _ _ r⟩
      | move f xs => obtain ⟨x, fv, pa, pps, l, e, q, q2, r, t⟩ := hc; exact ⟨x, fv, pa, pps, l, e, tk _ _ q, tk _ _ q2, TD.tk tk _ _ r, hL t⟩
      | drop f xs => obtain ⟨x, fv, l, e, q, r, t⟩ := hc; exact ⟨x, fv, l, e, tk _ _ q, TD.tk tk _ _ r, hL t⟩
      | cut f xs => obtain ⟨x, fv, l, e, q, r, t⟩ := hc; exact ⟨x, fv, l, e, tk _ _ q, TD.tk tk _ _ r, hL t⟩
      | order f x1 x2 => obtain ⟨x, fv, xv, yv, e, q, r, t, u⟩ := hc; exact ⟨x, fv, xv, yv, e, tk _ _ q, TD.tk tk _ _ r, TD.tk tk _ _ t, TD.tk tk _ _ u⟩
      | lines f u dd n => obtain ⟨x, fv, lu, ld, lt, ts, e, q, r, t, t2, t3, t4⟩ := hc; exact ⟨x, fv, lu, ld, lt, ts, e, tk _ _ q, TD.tk tk _ _ r, hL t, hL t2, nl t3, t4⟩
    · rintro σ H2 ⟨c2, kvs, rfl, s2, g, hp⟩
      rw [rl, List.take_length] at hp
      exact ⟨_, rfl, k d H2 s2 (none_of (Same.refl _) nd1) ⟨kvs, g, hp⟩⟩
def spLBelow (L : Lab) : Sp := fun vs H Q _ => ∃ (ro : Addr) (ps : List Pa), vs = [.ref ro] ∧ RowAt L H ro ps ∧ RowOk ps ∧ ps.length ≤ 9 ∧ ∀ d H', Same H H' → H d = none → BlAt w L H H' d ps ps → Q (.ref d) H'
theorem scLBelow : FnScope ["_law_row", "_law_found", "_law_patch", "_law_rows", "_law_name", "_law_one"] ["_law_row"] (defScope sLAllBelow) := ⟨rfl, rfl, rfl, by decide +kernel, rfl, by decide +kernel, by decide +kernel⟩
theorem ok_lbelow {L : Lab} {f : Addr} {fd : FuncData} (B : Bt mg) (F : DefAt K "_law_all_below" "_law_all_below" sLAllBelow f fd) (G : Df P w K mg base 1 "_law_needs" ["_law_patch"] (spLNeeds L)) : FnOk P w K mg base CX0 2 f fd ["_law_row"] (spLBelow (w := w) L) := by
  refine FunD.ok F scLBelow (fun vs H Q E h => ?_) (fun cdv A outer s H vs Q E hr h => ?_)
  · obtain ⟨ro, ps, rfl, _⟩ := h
    rfl
  · obtain ⟨ro, ps, rfl, ⟨rvs, hro, hrp⟩, rok, hz, k⟩ := h
    have nd := scLBelow.nd
    have sl := sizeLine_eq
    have hu := hr.units
    have hu2 : (A.deeper (envOfC "_law_all_below" (defScope sLAllBelow) s.heap.objs.size f cdv)).units + 65 < cLine := by
      have := hr.un
      omega
    have W := rok.wok hz
    refine ⟨_, PSs.nox (pss_cons (ps_set (i := 1) nd rfl (Or.inl rfl) (pe_nnew (enc := idK L)))
      (pss_cons (ps_for PassesOwn.never rfl (pi_list (pv 0)) (pg_name (i := 2) nd rfl (Or.inl rfl))
        (pss_cons (ps_set (i := 3) nd rfl (Or.inr rfl) (pe_lst (pa_cons (pe_ix ix_tup (pv 2) pe_int (fun _ _ => rfl)) pa_nil)))
        (pss_cons (ps_for PassesOwn.never rfl (pi_list (pe_df G hr (by rfl) (pa_cons (pv 2) pa_nil))) (pg_name (i := 4) nd rfl (Or.inl rfl))
          (pss_one (ps_set (i := 3) nd rfl (Or.inr rfl) (pe_op op_cat (pv 3) (pe_lc (own := [("_law_one", 5)]) (g := gName 5) rfl nd (pi_list (pe_nget (idC L).toTCode hu (pv 1) (pv 4) (fun _ _ => rfl)))
            (blkOk_by (own := [("_law_one", 5)]) (N := ["_law_row", "_law_found", "_law_patch", "_law_rows", "_law_name", "_law_one"]) (sc := defScope sLAllBelow) (by decide +kernel)) (fun _ _ _ _ _ => pg_name (i := 5) nd rfl (Or.inl rfl))
            (fun _ _ _ _ _ => pts_one (pt_cmpR (op_notInEK (K := K) rfl hu2 (idC L).toCode) (pv 5) (pv 3) rfl)) (fun _ _ _ _ _ => pv 5))))))
        (pss_one (ps_nput (idC L).toTCode hu (pv 1) (pe_ix ix_tup (pv 2) pe_int (fun _ _ => rfl)) (pv 3) rfl)))))
      (pss_one (ps_ret (pv 1))))), ?_⟩
    refine fun d H1 nd1 b1 g1 => ?_
    have s1 := same_but nd1 b1
    have rl : rvs.length = ps.length := Paired.length hrp
    refine ⟨_, rfl, ro, rfl, ⟨_, SqL.of (s1 _ _ hro)⟩, for_list (K := K) (a := ro) (xs := rvs)
      (fun i σ H' => ∃ c2 c3 c4 c5 kvs, σ = [some (.ref ro), some (.ref d), c2, c3, c4, c5] ∧ Same H H' ∧ ND w H' (idK L) d kvs ∧ kvs.length ≤ i ∧ ∀ p ∈ ps.take i, ∃ a xs, valV kvs p.id = some (.ref a) ∧ (a ≠ d ∧ H a = none) ∧ LE H' (idK L) a xs ∧ BelowOf ps p.id xs)
      ⟨none, none, none, none, [], rfl, s1, g1, Nat.le_refl _, (by simp)⟩ (fun i σ H' _ ⟨_, _, _, _, _, _, s, _⟩ => SqL.of (s _ _ hro)) ?_ ?_⟩
    · rintro i y σ H2 hi ⟨c2, c3, c4, c5, kvs, rfl, s2, g, kl, hb⟩
      obtain ⟨p, hpi, hpa⟩ := pget hrp hi
      have hpm := List.mem_of_getElem? hpi
      have hil : i < ps.length := (List.getElem?_eq_some_iff.mp hpi).1
      have hpa2 := hpa.same s2
      obtain ⟨a, iv', cl, nt, cvs, rfl, ha, hid', hcl, hch⟩ := id hpa2
      refine ⟨_, rfl, _, _, _, _, rfl, rfl, SqT.of ha, atI_nat (j := 1) rfl, by show 1 ≤ sizeLine; omega, fun r0 nr0 => ?_⟩
      have s3 := same_new (o := .lst [iv']) nr0
      refine ⟨_, rfl, .ref a, p, rfl, hpa2.same s3, rok.ok p hpm, fun q hq => rok.own p hpm q (List.mem_append.mpr (.inr hq)), fun nl H3 ns s4 nnl hnl nz mn => ?_⟩
      obtain ⟨nvs, hnvs, nev⟩ := hnl
      have S3 := s3.trans s4
      refine ⟨nl, rfl, ⟨_, SqL.of hnvs⟩, for_list (K := K) (a := nl) (xs := nvs)
        (fun t σ H' => ∃ ra rvs' rs c4 c5, σ = [some (.ref ro), some (.ref d), some (.ref a), some (.ref ra), c4, c5] ∧ Same H3 H' ∧ H' ra = some (.lst rvs') ∧ H2 ra = none ∧ EV H' (idK L) rvs' rs ∧ rs.Nodup ∧ (∀ j, j ∈ rs ↔ j = p.id ∨ ∃ n ∈ ns.take t, (j = n ∨ Rch ps n j)))
        ⟨r0, [iv'], [p.id], _, _, rfl, Same.refl _, s4 _ _ upd_same, nr0, .cons (TD.tk (Tk.of_same S3) _ _ hid') .nil, by simp, (by simp)⟩ (fun t σ H' _ ⟨_, _, _, _, _, _, s, _⟩ => SqL.of (s _ _ hnvs)) ?_ ?_⟩
      · rintro t z σ H4 ht ⟨ra, rvs', rs, c4', c5', rfl, s5, hra, nra, er, rnd, hm⟩
        obtain ⟨n, hn, hnt⟩ := nev.get (i := 0) ht
        have hnp : n ∈ p.needs := (mn n).mp (List.mem_of_getElem? hn)
        have S4 := S3.trans s5
        have hnb := rok.before i p hpi n hnp
        obtain ⟨q, hq, hqid⟩ := List.mem_map.mp hnb
        obtain ⟨b, xs, hval, hbd, hbl, hbo⟩ := hb q hq
        have hqid : q.id = n := hqid
        rw [hqid] at hval hbo
        obtain ⟨bvs, hbv, bev⟩ := hbl.same S4
        have rsub : ∀ j ∈ rs, j ∈ ids ps := fun j hj => by
          rcases (hm j).mp hj with rfl | ⟨n', hn', e | e⟩
          · exact List.mem_map.mpr ⟨p, hpm, rfl⟩
          · rw [e]
            exact rok.there p hpm n' ((mn n').mp (List.mem_of_mem_take hn'))
          · exact rch_there W e
        have rlen : rs.length ≤ 9 := by
          have := nodup_le rnd rsub
          unfold ids at this
          rw [List.length_map] at this
          omega
        have xlen := below_len W hbo (rok.there p hpm n hnp)
        have bl := bev.length
        have rvl := er.length
        refine ⟨_, rfl, _, rfl, _, rfl, d, kvs, n, _, rfl, (g.same S4).r, TD.tk (Tk.of_same s5) _ _ hnt, hval, b, rfl, ⟨_, SqL.of hbv⟩, fun D nD => lc_accL (xs := bvs) nD (RelE (idK L) fun i => (xs.take i).filter fun j => decide (j ∉ rs)) RelE.mono RelE.zero (by omega) (fun H' s' => SqL.of (s' _ _ hbv)) ?_ ?_⟩
        · rintro i' x H5 acc C N hi' he s6 hD hl2 r2 hC hN
          obtain ⟨j, hj, hjt⟩ := bev.get (i := 0) he
          have hjt5 := TD.tk (Tk.of_same s6) _ _ hjt
          refine ⟨rfl, _, rfl, _, rfl, ra, rvs', rs, j, rfl, SqL.of (s6 _ _ hra), er.tk (Tk.of_same s6), hjt5, _, rfl, iB (fun hb => ?_) (fun hb => ?_)⟩
          · exact ⟨_, rfl, hC _ _ (Same.refl _) (r2.yes (Same.refl _) hj (by simpa using hb) hjt5)⟩
          · exact hN _ (Same.refl _) (r2.no (Same.refl _) hj (by simpa using hb))
        · intro H5 acc s6 hD hl2 r2
          have r2 := r2.all bl
          have zl := List.length_filter_le (fun j => decide (j ∉ rs)) xs
          have al := r2.length
          refine ⟨ra, D, rvs', acc, rfl, rfl, s6 _ _ hra, hD, by omega, fun p6 np6 => ?_⟩
          have s7 := same_new (o := .lst (rvs' ++ acc)) np6
          have s67 := s6.trans s7
          refine ⟨p6, _, rs ++ xs.filter (fun j => decide (j ∉ rs)), _, _, rfl, s5.trans s67, upd_same, none_of (S4.trans s6) np6, (er.tk (Tk.of_same s67)).app (r2.tk (Tk.of_same s7)), ?_, fun j => ?_⟩
          · refine List.nodup_append.mpr ⟨rnd, List.Pairwise.filter _ hbo.1, fun x hx y hy e => ?_⟩
            rw [List.mem_filter, decide_eq_true_eq] at hy
            exact hy.2 (e ▸ hx)
          · rw [List.mem_append, List.mem_filter, decide_eq_true_eq, hm]
            constructor
            · rintro ((h | ⟨n', hn', h⟩) | ⟨h, _⟩)
              · exact .inl h
              · exact .inr ⟨n', (mem_take_succ hn).mpr (.inl hn'), h⟩
              · exact .inr ⟨n, (mem_take_succ hn).mpr (.inr rfl), (hbo.2 j).mp h⟩
            · rintro (h | ⟨n', hn', h⟩)
              · exact .inl (.inl h)
              · rcases (mem_take_succ hn).mp hn' with q | rfl
                · exact .inl (.inr ⟨n', q, h⟩)
                · by_cases c : j ∈ rs
                  · exact .inl ((hm j).mp c)
                  · exact .inr ⟨(hbo.2 j).mpr h, fun z => c ((hm j).mpr z)⟩
      · rintro σ H4 ⟨ra, rvs', rs, c4', c5', rfl, s5, hra, nra, er, rnd, hm⟩
        rw [nev.length, List.take_length] at hm
        have S4 := S3.trans s5
        have hbp : BelowOf ps p.id rs := ⟨rnd, fun j => by
          rw [hm]
          constructor
          · rintro (h | ⟨n, hn, h⟩)
            · exact .inl h
            · have nee : Nee ps p.id n := ⟨p, hpm, rfl, (mn n).mp hn⟩
              rcases h with rfl | h
              · exact .inr (.one nee)
              · exact .inr (rch_cons nee h)
          · rintro (h | h)
            · exact .inl h
            · obtain ⟨n, ⟨p', hp', e', hn⟩, h⟩ := rch_left h
              have := nodup_id rok.nodup hp' hpm e'
              rw [this] at hn
              exact .inr ⟨n, (mn n).mpr hn, h⟩⟩
        refine ⟨_, rfl, _, rfl, _, rfl, _, _, _, _, rfl, rfl, SqT.of (S4 _ _ ha), atI_nat (j := 1) rfl, d, kvs, p.id, rfl, g.same S4, by omega, TD.tk (Tk.of_same S4) _ _ hid', fun H5 b5 g5 => ?_⟩
        have kp : Kp d H4 H5 := Kp.but b5
        have tk := kp.tkn (g.same S4)
        have rad : ra ≠ d := fun e => by
          rw [e] at nra
          exact g.some_ nra
        refine ⟨_, _, _, _, _, rfl, kp.same (s2.trans S4) nd1, g5, ?_, fun q hq => ?_⟩
        · have := length_putK kvs p.id (V.ref ra)
          omega
        · rcases (mem_take_succ hpi).mp hq with h | rfl
          · obtain ⟨b, xs, e1, e2, e3, e4⟩ := hb q h
            by_cases c : q.id = p.id
            · refine ⟨ra, rs, by rw [valV_put, if_pos c], ⟨rad, none_of s2 nra⟩, ⟨rvs', kp _ _ rad hra, er.tk tk⟩, by rw [c]; exact hbp⟩
            · exact ⟨b, xs, by rw [valV_put, if_neg c]; exact e1, e2, (e3.same S4).kp kp tk e2.1, e4⟩
          · exact ⟨ra, rs, by rw [valV_put, if_pos rfl], ⟨rad, none_of s2 nra⟩, ⟨rvs', kp _ _ rad hra, er.tk tk⟩, hbp⟩
    · rintro σ H2 ⟨c2, c3, c4, c5, kvs, rfl, s2, g, kl, hb⟩
      rw [rl, List.take_length] at hb
      exact ⟨_, rfl, k d H2 s2 nd1 ⟨kvs, g, hb⟩⟩
theorem scLBad : FnScope ["_law_part", "_law_cause", "_law_name"] ["_law_part", "_law_cause"] (defScope sLBad) := ⟨rfl, rfl, rfl, by decide +kernel, rfl, by decide +kernel, by decide +kernel⟩
theorem inV_false : ∀ bs : List Bool, inV (V.bl false) (bs.map V.bl) = bs.any fun b => !b
  | [] => rfl
  | b :: t => by
    have ih := inV_false t
    unfold inV at ih ⊢
    rw [List.map_cons, List.any_cons, ih, List.any_cons]
    cases b <;> rfl
theorem ok_lbad {L : Lab} {f : Addr} {fd : FuncData} (B : Bt mg) (F : DefAt K "_law_bad" "_law_bad" sLBad f fd) : FnOk P w K mg base CX0 1 f fd ["_law_part", "_law_cause"] (spIsBad L) := by
  refine FunD.ok F scLBad (fun vs H Q E h => ?_) (fun cdv A outer s H vs Q E hr h => ?_)
  · obtain ⟨pa, ca, ts, cs, rfl, _⟩ := h
    rfl
  · obtain ⟨pa, ca, ts, cs, rfl, ⟨tv, htv, tev⟩, ⟨cv, hcv, cev⟩, hz, k⟩ := h
    have hu2 : (A.deeper (envOfC "_law_bad" (defScope sLBad) s.heap.objs.size f cdv)).units + 65 < cLine := by
      have := hr.un
      omega
    have nd := scLBad.nd
    have sl := sizeLine_eq
    refine ⟨_, PSs.nox (pss_one (ps_ret (pe_cmpR op_notIn_seq pe_bl (pe_lc (own := [("_law_name", 2)]) (g := gName 2) (tt := tYes) rfl nd (pi_list (pv 1))
      (blkOk_by (own := [("_law_name", 2)]) (N := ["_law_part", "_law_cause", "_law_name"]) (sc := defScope sLBad) (by decide +kernel)) (fun _ _ _ _ _ => pg_name (i := 2) nd rfl (Or.inl rfl))
      (fun _ _ _ _ _ => pts_nil) (fun _ _ _ _ _ => pe_cmpR (op_inEK (K := K) rfl hu2 (idC L).toCode) (pv 2) (pv 0) rfl)) rfl))), ?_⟩
    have cl := cev.length
    refine ⟨_, rfl, ca, rfl, ⟨_, SqL.of hcv⟩, fun D nD => lc_accL (xs := cv) nD (RelF cs (fun _ => true) (fun c => V.bl (decide (c ∈ ts)))) RelF.mono RelF.zero (by omega) (fun H' s' => SqL.of (s' _ _ hcv)) ?_ ?_⟩
    · rintro i x H2 acc C N hi he s2 hD hl r2 hC hN
      obtain ⟨q, hq, hqt⟩ := cev.get (i := 0) he
      refine ⟨rfl, ?_⟩
      exact ⟨_, rfl, _, rfl, pa, tv, ts, q, rfl, SqL.of (s2 _ _ htv), tev.tk (Tk.of_same s2), TD.tk (Tk.of_same s2) _ _ hqt, hC _ _ (Same.refl _) (r2.yes hq rfl rfl)⟩
    · intro H2 acc s2 hD hl r2
      have e := r2.all cl
      rw [List.filter_eq_self.mpr fun _ _ => rfl] at e
      have e2 : acc = (cs.map fun c => decide (c ∈ ts)).map V.bl := by
        rw [e, List.map_map]
        rfl
      refine ⟨D, _, rfl, .inl (SqL.of hD), rfl, ?_, ?_⟩
      · rw [e2, List.all_map, List.all_eq_true]
        intro _ _
        rfl
      · have e3 : (!inV (V.bl false) acc) = bad ts cs := by
          rw [e2, inV_false]
          unfold bad
          rw [List.any_map]
          simp only [Function.comp_def, List.not_any_eq_all_not, Bool.not_not]
        show Q (.bl (!inV (V.bl false) acc)) H2
        rw [e3]
        exact k H2 s2
end
end K97
set_option Elab.async false
set_option linter.all false
set_option maxRecDepth 100000
set_option maxHeartbeats 4000000
/-! _law_between. -/
namespace K97
open PySem PySem.Spec PyProof.Rows L2
structure GoodOk (ps : List Pa) (gs : List Id) : Prop where
  nd : gs.Nodup
  sub : ∀ i ∈ gs, i ∈ ids ps
  cl : ∀ i ∈ gs, ∀ j, Rch ps i j → j ∈ gs
def joinG (gs xs : List Id) : List Id := gs ++ xs.filter fun j => decide (j ∉ gs)
theorem mem_joinG {gs xs : List Id} {j : Id} : j ∈ joinG gs xs ↔ j ∈ gs ∨ j ∈ xs := by
  unfold joinG
  rw [List.mem_append, List.mem_filter, decide_eq_true_eq]
  by_cases c : j ∈ gs
  · simp [c]
  · simp [c]
theorem rch_trans {ps : List Pa} {a b c : Id} (h : Rch ps a b) (r : Rch ps b c) : Rch ps a c := by
  induction r with
  | one q => exact .step h q
  | step _ q ih => exact .step ih q
theorem GoodOk.join {ps : List Pa} (W : Wok ps) {gs xs : List Id} {n : Id} (h : GoodOk ps gs) (hb : BelowOf ps n xs) (hn : n ∈ ids ps) : GoodOk ps (joinG gs xs) where
  nd := List.nodup_append.mpr ⟨h.nd, List.Pairwise.filter _ hb.1, fun x hx y hy e => by
    rw [List.mem_filter, decide_eq_true_eq] at hy
    exact hy.2 (e ▸ hx)⟩
  sub := fun i hi => by
    rcases mem_joinG.mp hi with q | q
    · exact h.sub i q
    · rcases (hb.2 i).mp q with rfl | q
      · exact hn
      · exact rch_there W q
  cl := fun i hi j r => mem_joinG.mpr (by
    rcases mem_joinG.mp hi with q | q
    · exact .inl (h.cl i q j r)
    · rcases (hb.2 i).mp q with rfl | q
      · exact .inr ((hb.2 j).mpr (.inr r))
      · exact .inr ((hb.2 j).mpr (.inr (rch_trans q r))))
theorem GoodOk.len {ps : List Pa} (W : Wok ps) {gs : List Id} (h : GoodOk ps gs) : gs.length ≤ 9 := by
  have := nodup_le h.nd h.sub
  unfold ids at this
  rw [List.length_map] at this
  exact Nat.le_trans this W.few
def left (ps : List Pa) (gs : List Id) : List Id := (ids ps).filter fun i => decide (i ∉ gs)
section
variable {P : Program} {w : World} {K : PySem.W.Frag} {mg : Str → Option Value} {base : Heap}
/-- good = good + [one for one in below[name] if one not in good] -/
theorem q_good {L : Lab} {D : Ends} {σ : L2.St} {H : Hp} {d ga : Addr} {nv : V} {gvs : List V} {gs xs : List Id} {kvs : List (Id × V)} {n : Id} {b : Addr} (h3 : σ[3]? = some (some (.ref d))) (h5 : σ[5]? = some (some (.ref ga))) (h6 : σ[6]? = some (some nv)) (h8 : 8 < σ.length)
    (g : ND w H (idK L) d kvs) (hn : TD H (idK L n) nv) (hv : valV kvs n = some (.ref b)) (hb : LE H (idK L) b xs) (hga : H ga = some (.lst gvs)) (eg : EV H (idK L) gvs gs) (hz : gs.length + xs.length ≤ 1000)
    (q : ∀ p us H', Same H H' → H p = none → H' p = some (.lst us) → EV H' (idK L) us (joinG gs xs) → D.nx (σ.set 5 (some (.ref p))) H') :
    tAsg (tOp rCat (tVar 5) (tLc (iList K (tNGet w (idK L) (tVar 3) (tVar 6))) (gName 8) (tTest (tOp (rInE K (idK L) true) (tVar 8) (tVar 5))) (tVar 8) [8])) (gName 5) D σ H := by
  have sl := sizeLine_eq
  obtain ⟨bvs, hbv, bev⟩ := hb
  have bl := bev.length
  have gl := eg.length
  refine ⟨_, h5, _, h3, _, h6, d, kvs, n, _, rfl, g.r, hn, hv, b, rfl, ⟨_, SqL.of hbv⟩, fun D2 nD => lc_accL (xs := bvs) nD (RelE (idK L) fun i => (xs.take i).filter fun j => decide (j ∉ gs)) RelE.mono RelE.zero (by omega) (fun H' s' => SqL.of (s' _ _ hbv)) ?_ ?_⟩
  · rintro i x H2 acc C N hi he s2 hD hl r2 hC hN
    obtain ⟨j, hj, hjt⟩ := bev.get (i := 0) he
    have hjt2 := TD.tk (Tk.of_same s2) _ _ hjt
    have e8 : ((σ.set 8 none).set 8 (some x))[8]? = some (some x) := by rw [List.getElem?_set_self (by rw [List.length_set]; exact h8)]
    have e5 : ((σ.set 8 none).set 8 (some x))[5]? = some (some (.ref ga)) := by
      rw [List.getElem?_set_ne (by decide), List.getElem?_set_ne (by decide)]
      exact h5
    refine ⟨?_, x, e8, .ref ga, e5, ga, gvs, gs, j, rfl, SqL.of (s2 _ _ hga), eg.tk (Tk.of_same s2), hjt2, _, rfl, iB (fun hb => ?_) (fun hb => ?_)⟩
    · show ((σ.set 8 none).set 8 (some x)).set 8 none = σ.set 8 none
      rw [List.set_set, List.set_set]
    · exact ⟨x, e8, hC _ _ (Same.refl _) (r2.yes (Same.refl _) hj (by simpa using hb) hjt2)⟩
    · exact hN _ (Same.refl _) (r2.no (Same.refl _) hj (by simpa using hb))
  · intro H2 acc s2 hD hl r2
    have r2 := r2.all bl
    have zl := List.length_filter_le (fun j => decide (j ∉ gs)) xs
    have al := r2.length
    refine ⟨ga, D2, gvs, acc, rfl, rfl, s2 _ _ hga, hD, by omega, fun p np => ?_⟩
    have s3 := same_new (o := .lst (gvs ++ acc)) np
    exact q p _ _ (s2.trans s3) (none_of s2 np) upd_same ((eg.tk (Tk.of_same (s2.trans s3))).app (r2.tk (Tk.of_same s3)))
def spBetween (L : Lab) : Sp := fun vs H Q _ => ∃ (S C ro : Addr) (m : Int) (ps : List Pa), vs = [.ref S, .ref ro, .int m] ∧ St S C H ∧ RowAt L (msk S C H) ro ps ∧ RowOk ps ∧ ps.length ≤ 9 ∧ 0 ≤ m ∧
  ∀ r ga fa gs fs H', Same (msk S C H) (msk S C H') → St S C H' → msk S C H' r = some (.tup [.ref ga, .ref fa]) → LE (msk S C H') (idK L) ga gs → LE (msk S C H') (idK L) fa fs → GoodOk ps gs → fs.Perm (left ps gs) → ((fs.length : Nat) : Int) ≤ m → Q (.ref r) H'
theorem scLBetween : FnScope ["_law_state_here", "_law_row", "_law_most", "_law_below", "_law_ids", "_law_good", "_law_name", "_law_patch", "_law_one"] ["_law_state_here", "_law_row", "_law_most"] (defScope sLBetween) := ⟨rfl, rfl, rfl, by decide +kernel, rfl, by decide +kernel, by decide +kernel⟩
theorem ok_between {L : Lab} {f : Addr} {fd : FuncData} (B : Bt mg) (F : DefAt K "_law_between" "_law_between" sLBetween f fd) (G1 : Df P w K mg base 1 "_law_draw" ["_law_state_here", "_law_many"] spDraw) (G2 : Df P w K mg base 2 "_law_all_below" ["_law_row"] (spLBelow (w := w) L)) :
    FnOk P w K mg base CX0 3 f fd ["_law_state_here", "_law_row", "_law_most"] (spBetween L) := by
  refine FunD.ok F scLBetween (fun vs H Q E h => ?_) (fun cdv A outer s H vs Q E hr h => ?_)
  · obtain ⟨S, C, ro, m, ps, rfl, _⟩ := h
    rfl
  · obtain ⟨S, C, ro, m, ps, rfl, hst, hrow, rok, hz, hm0, k⟩ := h
    have nd := scLBetween.nd
    have sl := sizeLine_eq
    have hu := hr.units
    have hu2 : (A.deeper (envOfC "_law_between" (defScope sLBetween) s.heap.objs.size f cdv)).units + 65 < cLine := by
      have := hr.un
      omega
    have W := rok.wok hz
    have asg {X : Cx} : True := trivial
    refine ⟨_, PSs.nox (pss_cons (ps_set (i := 3) nd rfl (Or.inl rfl) (pe_df G2 hr (by rfl) (pa_cons (pv 1) pa_nil)))
      (pss_cons (ps_setLc (i := 4) (own := [("_law_patch", 7)]) (g := gName 7) (tt := tYes) rfl nd rfl rfl (sw_true rfl rfl rfl (by decide +kernel)) (pi_list (pv 1))
          (blkOk_by (own := [("_law_patch", 7)]) (N := ["_law_state_here", "_law_row", "_law_most", "_law_below", "_law_ids", "_law_good", "_law_name", "_law_patch", "_law_one"]) (sc := defScope sLBetween) (by decide +kernel)) (fun _ _ _ _ _ => pg_name (i := 7) nd rfl (Or.inl rfl))
          (fun _ _ _ _ _ => pts_nil) (fun _ _ _ _ _ => pe_ix (ixK K rfl) (pv 7) pe_int (fun _ _ => rfl)))
      (pss_cons (ps_set (i := 5) nd rfl (Or.inr rfl) (pe_lst pa_nil))
      (pss_cons (ps_for PassesOwn.never rfl (pi_list (pv 4)) (pg_name (i := 6) nd rfl (Or.inl rfl))
        (pss_one (ps_if (pt_cmpR op_eq (pe_df G1 (hr.mono (by decide)) (by rfl) (pa_cons (pv 0) (pa_cons pe_int pa_nil))) pe_int (nomark _))
          (pss_one (ps_set (i := 5) nd rfl (Or.inr rfl) (pe_op op_cat (pv 5) (pe_lc (own := [("_law_one", 8)]) (g := gName 8) rfl nd (pi_list (pe_nget (idC L).toTCode hu (pv 3) (pv 6) (fun _ _ => rfl)))
            (blkOk_by (own := [("_law_one", 8)]) (N := ["_law_state_here", "_law_row", "_law_most", "_law_below", "_law_ids", "_law_good", "_law_name", "_law_patch", "_law_one"]) (sc := defScope sLBetween) (by decide +kernel)) (fun _ _ _ _ _ => pg_name (i := 8) nd rfl (Or.inl rfl))
            (fun _ _ _ _ _ => pts_one (pt_cmpR (op_notInEK (K := K) rfl hu2 (idC L).toCode) (pv 8) (pv 5) rfl)) (fun _ _ _ _ _ => pv 8))))) pss_nil)))
      (pss_cons (ps_for PassesOwn.never rfl (pi_list (pv 4)) (pg_name (i := 6) nd rfl (Or.inl rfl))
        (pss_one (ps_if (pt_cmpR op_gt (pe_callB call_len (by rfl) B.len boot_len (pa_cons (pe_lc (own := [("_law_one", 8)]) (g := gName 8) rfl nd (pi_list (pv 4))
            (blkOk_by (own := [("_law_one", 8)]) (N := ["_law_state_here", "_law_row", "_law_most", "_law_below", "_law_ids", "_law_good", "_law_name", "_law_patch", "_law_one"]) (sc := defScope sLBetween) (by decide +kernel)) (fun _ _ _ _ _ => pg_name (i := 8) nd rfl (Or.inl rfl))
            (fun _ _ _ _ _ => pts_one (pt_cmpR (op_notInEK (K := K) rfl hu2 (idC L).toCode) (pv 8) (pv 5) rfl)) (fun _ _ _ _ _ => pv 8)) pa_nil)) (pv 2) (nomark _))
          (pss_one (ps_set (i := 5) nd rfl (Or.inr rfl) (pe_op op_cat (pv 5) (pe_lc (own := [("_law_one", 8)]) (g := gName 8) rfl nd (pi_list (pe_nget (idC L).toTCode hu (pv 3) (pv 6) (fun _ _ => rfl)))
            (blkOk_by (own := [("_law_one", 8)]) (N := ["_law_state_here", "_law_row", "_law_most", "_law_below", "_law_ids", "_law_good", "_law_name", "_law_patch", "_law_one"]) (sc := defScope sLBetween) (by decide +kernel)) (fun _ _ _ _ _ => pg_name (i := 8) nd rfl (Or.inl rfl))
            (fun _ _ _ _ _ => pts_one (pt_cmpR (op_notInEK (K := K) rfl hu2 (idC L).toCode) (pv 8) (pv 5) rfl)) (fun _ _ _ _ _ => pv 8))))) pss_nil)))
      (pss_one (ps_ret (pe_tup (pa_cons (pv 5) (pa_cons (pe_callB (call_sortE (idC L) hu) (by rfl) B.sorted boot_sorted (pa_cons (pe_lc (own := [("_law_name", 6)]) (g := gName 6) rfl nd (pi_list (pv 4))
            (blkOk_by (own := [("_law_name", 6)]) (N := ["_law_state_here", "_law_row", "_law_most", "_law_below", "_law_ids", "_law_good", "_law_name", "_law_patch", "_law_one"]) (sc := defScope sLBetween) (by decide +kernel)) (fun _ _ _ _ _ => pg_name (i := 6) nd rfl (Or.inl rfl))
            (fun _ _ _ _ _ => pts_one (pt_cmpR (op_notInEK (K := K) rfl hu2 (idC L).toCode) (pv 6) (pv 5) rfl)) (fun _ _ _ _ _ => pv 6)) pa_nil)) pa_nil)))))))))), ?_⟩
    -- below, ids
    refine ⟨_, rfl, ro, ps, rfl, hrow.same msk_same, rok, hz, fun d H1 s1 nd1 hbl => ?_⟩
    obtain ⟨rvs, hro, hrp⟩ := (hrow.same msk_same).same s1
    have rl : rvs.length = ps.length := Paired.length hrp
    have lids : (ids ps).length = ps.length := by unfold ids; rw [List.length_map]
    refine ⟨_, rfl, ro, rfl, ⟨_, SqL.of hro⟩, fun io nio => lc_accL (xs := rvs) nio (RelE (idK L) fun i => ((ids ps).take i).filter fun _ => true) RelE.mono RelE.zero (by omega) (fun H' s' => SqL.of (s' _ _ hro)) ?_ ?_⟩
    · rintro j x H12 acc2 C9 N9 hj he s12 hD hl r12 hC hN
      obtain ⟨p, hp, hpa⟩ := pget hrp he
      obtain ⟨a, iv', cl, nt, cvs, rfl, ha, hid', _⟩ := hpa.same s12
      refine ⟨rfl, ?_⟩
      refine ⟨_, rfl, _, _, _, _, rfl, rfl, SqT.of ha, atI_nat (j := 1) rfl, hC _ _ (Same.refl _) (r12.yes (Same.refl _) (x := p.id) ?_ rfl hid')⟩
      unfold ids
      rw [List.getElem?_map, hp]
      rfl
    intro H2 iv s2 hio hl2 r2
    have ei := r2.all (rl.trans lids.symm)
    rw [List.filter_eq_self.mpr fun _ _ => rfl] at ei
    have il := ei.length
    refine ⟨Nat.zero_le _, fun g0 ng0 => ?_⟩
    have s3 := same_new (o := .lst []) ng0
    have S3 := (s1.trans s2).trans s3
    have st3 := hst.same S3
    have hgS := (hst.same (s1.trans s2)).new ng0
    have hioS := (hst.same s1).new nio
    -- what is read on: by the masked heap
    have M2 : Same (msk S C H2) (msk S C (upd H2 g0 (.lst []))) := msk_mono s3
    have ioM : msk S C H2 io = some (.lst iv) := by rw [msk_of hioS.1 hioS.2]; exact hio
    have eiM : EV (msk S C H2) (idK L) iv (ids ps) := ei.tk (hst.same (s1.trans s2)).tk
    have sM : Same (msk S C H) (msk S C H2) := msk_mono (s1.trans s2)
    have hnewd := hst.new nd1
    have dM : ∃ kvs, ND w (msk S C H1) (idK L) d kvs ∧ ∀ p ∈ ps, ∃ a xs, valV kvs p.id = some (.ref a) ∧ LE (msk S C H1) (idK L) a xs ∧ BelowOf ps p.id xs := by
      obtain ⟨kvs, g, q⟩ := hbl
      refine ⟨kvs, g.tk (hst.same s1).tk (msk_of hnewd.1 hnewd.2), fun p hp => ?_⟩
      obtain ⟨a, xs, e1, ⟨_, e2⟩, ⟨vs, e3, e4⟩, e5⟩ := q p hp
      have hna := hst.new e2
      exact ⟨a, xs, e1, ⟨vs, by rw [msk_of hna.1 hna.2]; exact e3, e4.tk (hst.same s1).tk⟩, e5⟩
    obtain ⟨kvs, gM, hbM⟩ := dM
    have sM12 : Same (msk S C H1) (msk S C H2) := msk_mono s2
    have gM := gM.same sM12
    have hbM : ∀ n ∈ ids ps, ∃ a xs, valV kvs n = some (.ref a) ∧ LE (msk S C H2) (idK L) a xs ∧ BelowOf ps n xs := fun n hn => by
      obtain ⟨p, hp, rfl⟩ := List.mem_map.mp hn
      obtain ⟨a, xs, e1, e2, e3⟩ := hbM p hp
      exact ⟨a, xs, e1, e2.same sM12, e3⟩
    -- a step: good, joined
    have step : ∀ (Dn : Ends) (σ : L2.St) (H3 : Hp) (ga : Addr) (gvs : List V) (gs : List Id) (n : Id) (nv : V), σ[3]? = some (some (.ref d)) → σ[5]? = some (some (.ref ga)) → σ[6]? = some (some nv) → 8 < σ.length → Same (msk S C H2) (msk S C H3) → St S C H3 → msk S C H3 ga = some (.lst gvs) → EV (msk S C H3) (idK L) gvs gs → GoodOk ps gs → n ∈ ids ps → TD H3 (idK L n) nv →
        (∀ p us xs H4, Same (msk S C H2) (msk S C H4) → St S C H4 → msk S C H4 p = some (.lst us) → EV (msk S C H4) (idK L) us (joinG gs xs) → GoodOk ps (joinG gs xs) → n ∈ xs → Dn.nx (σ.set 5 (some (.ref p))) H4) →
        tAsg (tOp rCat (tVar 5) (tLc (iList K (tNGet w (idK L) (tVar 3) (tVar 6))) (gName 8) (tTest (tOp (rInE K (idK L) true) (tVar 8) (tVar 5))) (tVar 8) [8])) (gName 5) Dn σ H3 := by
      intro Dn σ H3 ga gvs gs n nv h3 h5 h6 h8 sm st hga eg hok hn hnt q
      obtain ⟨b, xs, e1, e2, e3⟩ := hbM n hn
      have s3H : Same (msk S C H3) H3 := msk_same
      refine q_good h3 h5 h6 h8 ((gM.same sm).same s3H) hnt e1 ((e2.same sm).same s3H) (s3H _ _ hga) (eg.tk (Tk.of_same s3H)) (by have := hok.len W; have := below_len W e3 hn; omega) fun p us H4 s4 np hp eu => ?_
      have hnp := st.new np
      exact q p us xs H4 (sm.trans (msk_mono s4)) (st.same s4) (by rw [msk_of hnp.1 hnp.2]; exact hp) (eu.tk (st.same s4).tk) (hok.join W e3 hn) ((e3.2 n).mpr (.inl rfl))
    have ioM3 := M2 _ _ ioM
    refine ⟨_, rfl, io, rfl, ⟨_, SqL.of (msk_same _ _ ioM3)⟩, for_list (K := K) (a := io) (xs := iv)
      (fun j σ H' => ∃ ga gvs gs c6 c7 c8, σ = [some (.ref S), some (.ref ro), some (.int m), some (.ref d), some (.ref io), some (.ref ga), c6, c7, c8] ∧ Same (msk S C H2) (msk S C H') ∧ St S C H' ∧ msk S C H' ga = some (.lst gvs) ∧ EV (msk S C H') (idK L) gvs gs ∧ GoodOk ps gs)
      ⟨g0, [], [], _, _, _, rfl, M2, st3, by rw [msk_of hgS.1 hgS.2, upd_same], .nil, ⟨List.nodup_nil, (fun i h => nomatch h), (fun i h => nomatch h)⟩⟩ (fun j σ H' _ ⟨_, _, _, _, _, _, _, s, _⟩ => SqL.of (msk_same _ _ (s _ _ ioM))) ?_ ?_⟩
    · rintro j y σ H3 hj ⟨ga, gvs, gs, c6, c7, c8, rfl, sm, st, hga, eg, hok⟩
      obtain ⟨n, hn, hnt⟩ := (eiM.tk (Tk.of_same sm)).get (i := 0) hj
      have hnm := List.mem_of_getElem? hn
      refine ⟨_, rfl, S, C, 4, rfl, st, by decide, fun r H4 s4 st4 _ _ _ => ⟨rfl, _, rfl, ?_⟩⟩
      have hnt4 : TD H4 (idK L n) y := TD.tk (Tk.of_same (s4.trans msk_same)) _ _ hnt
      refine iB (fun _ => step _ _ H4 ga gvs gs n y rfl rfl rfl (by show 8 < 9; omega) (sm.trans s4) st4 (s4 _ _ hga) (eg.tk (Tk.of_same s4)) hok hnm hnt4 fun p us xs H5 s5 st5 hp eu ok5 _ => ⟨p, us, _, _, _, _, rfl, s5, st5, hp, eu, ok5⟩) (fun _ => ⟨ga, gvs, gs, _, _, _, rfl, sm.trans s4, st4, s4 _ _ hga, eg.tk (Tk.of_same s4), hok⟩)
    · rintro σ H3 ⟨ga, gvs, gs, c6, c7, c8, rfl, sm, st, hga, eg, hok⟩
      refine ⟨_, rfl, io, rfl, ⟨_, SqL.of (msk_same _ _ (sm _ _ ioM))⟩, for_list (K := K) (a := io) (xs := iv)
        (fun j σ H' => ∃ ga gvs gs c6 c7 c8, σ = [some (.ref S), some (.ref ro), some (.int m), some (.ref d), some (.ref io), some (.ref ga), c6, c7, c8] ∧ Same (msk S C H2) (msk S C H') ∧ St S C H' ∧ msk S C H' ga = some (.lst gvs) ∧ EV (msk S C H') (idK L) gvs gs ∧ GoodOk ps gs ∧ ((((left ps gs).length : Nat) : Int) ≤ m ∨ ∀ n ∈ (ids ps).take j, n ∈ gs))
        ⟨ga, gvs, gs, _, _, _, rfl, sm, st, hga, eg, hok, .inr (by simp)⟩ (fun j σ H' _ ⟨_, _, _, _, _, _, _, s, _⟩ => SqL.of (msk_same _ _ (s _ _ ioM))) ?_ ?_⟩
      · rintro j y σ H4 hj ⟨ga, gvs, gs, c6, c7, c8, rfl, sm, st, hga, eg, hok, hle⟩
        obtain ⟨n, hn, hnt⟩ := (eiM.tk (Tk.of_same sm)).get (i := 0) hj
        have hnm := List.mem_of_getElem? hn
        have tkH : Tk (msk S C H4) H4 := Tk.of_same msk_same
        have hio4 := msk_same _ _ (sm _ _ ioM)
        have ei4 := (eiM.tk (Tk.of_same sm)).tk tkH
        have hga4 := msk_same _ _ hga
        have eg4 := eg.tk tkH
        refine ⟨_, rfl, io, rfl, ⟨_, SqL.of hio4⟩, fun D2 nD2 => lc_accL (xs := iv) nD2 (RelE (idK L) fun i => ((ids ps).take i).filter fun i => decide (i ∉ gs)) RelE.mono RelE.zero (by omega) (fun H' s' => SqL.of (s' _ _ hio4)) ?_ ?_⟩
        · rintro i x H5 acc C9 N9 hi he s5 hD hl r5 hC hN
          obtain ⟨q, hq, hqt⟩ := ei4.get (i := 0) he
          have hqt5 := TD.tk (Tk.of_same s5) _ _ hqt
          refine ⟨rfl, _, rfl, _, rfl, ga, gvs, gs, q, rfl, SqL.of (s5 _ _ hga4), eg4.tk (Tk.of_same s5), hqt5, _, rfl, iB (fun hb => ?_) (fun hb => ?_)⟩
          · exact ⟨_, rfl, hC _ _ (Same.refl _) (r5.yes (Same.refl _) hq (by simpa using hb) hqt5)⟩
          · exact hN _ (Same.refl _) (r5.no (Same.refl _) hq (by simpa using hb))
        · intro H5 acc s5 hD hl r5
          have r5 := r5.all il
          have al : acc.length = (left ps gs).length := r5.length
          have st5 := st.same s5
          have sm5 := sm.trans (msk_mono s5)
          have hga5 := (msk_mono (S := S) (C := C) s5) _ _ hga
          have eg5 := eg.tk (Tk.of_same (msk_mono (S := S) (C := C) s5))
          refine ⟨_, _, rfl, .inl ⟨_, SqL.of hD, rfl⟩, _, rfl, _, _, rfl, rfl, _, rfl, iB (fun hb => ?_) (fun hb => ?_)⟩
          · have hb := of_decide_eq_true hb
            have hall : ∀ q ∈ (ids ps).take j, q ∈ gs := by
              rcases hle with z | z
              · exact absurd hb (by rw [al]; omega)
              · exact z
            have hnt5 : TD H5 (idK L n) y := TD.tk (tkH.trans (Tk.of_same s5)) _ _ hnt
            refine step _ _ H5 ga gvs gs n y rfl rfl rfl (by show 8 < 9; omega) sm5 st5 hga5 eg5 hok hnm hnt5 fun p us xs H6 s6 st6 hp eu ok6 hnx => ⟨p, us, _, _, _, _, rfl, s6, st6, hp, eu, ok6, .inr fun q hq => ?_⟩
            rcases (mem_take_succ hn).mp hq with z | rfl
            · exact mem_joinG.mpr (.inl (hall q z))
            · exact mem_joinG.mpr (.inr hnx)
          · have hb := of_decide_eq_false hb
            exact ⟨ga, gvs, gs, _, _, _, rfl, sm5, st5, hga5, eg5, hok, .inl (by rw [← al]; omega)⟩
      · rintro σ H4 ⟨ga, gvs, gs, c6, c7, c8, rfl, sm, st, hga, eg, hok, hle⟩
        have hlen : (((left ps gs).length : Nat) : Int) ≤ m := by
          rcases hle with z | z
          · exact z
          · rw [il, List.take_length] at z
            have e : left ps gs = [] := by
              unfold left
              rw [List.filter_eq_nil_iff]
              intro q hq
              simpa using z q hq
            rw [e]
            exact hm0
        have tkH : Tk (msk S C H4) H4 := Tk.of_same msk_same
        have hio4 := msk_same _ _ (sm _ _ ioM)
        have ei4 := (eiM.tk (Tk.of_same sm)).tk tkH
        have hga4 := msk_same _ _ hga
        have eg4 := eg.tk tkH
        refine ⟨_, rfl, _, rfl, io, rfl, ⟨_, SqL.of hio4⟩, fun D2 nD2 => lc_accL (xs := iv) nD2 (RelE (idK L) fun i => ((ids ps).take i).filter fun i => decide (i ∉ gs)) RelE.mono RelE.zero (by omega) (fun H' s' => SqL.of (s' _ _ hio4)) ?_ ?_⟩
        · rintro i x H5 acc C9 N9 hi he s5 hD hl r5 hC hN
          obtain ⟨q, hq, hqt⟩ := ei4.get (i := 0) he
          have hqt5 := TD.tk (Tk.of_same s5) _ _ hqt
          refine ⟨rfl, _, rfl, _, rfl, ga, gvs, gs, q, rfl, SqL.of (s5 _ _ hga4), eg4.tk (Tk.of_same s5), hqt5, _, rfl, iB (fun hb => ?_) (fun hb => ?_)⟩
          · exact ⟨_, rfl, hC _ _ (Same.refl _) (r5.yes (Same.refl _) hq (by simpa using hb) hqt5)⟩
          · exact hN _ (Same.refl _) (r5.no (Same.refl _) hq (by simpa using hb))
        · intro H5 acc s5 hD hl r5
          have r5 := r5.all il
          refine ⟨D2, acc, _, rfl, SqL.of hD, r5, fun fa fvs' fs pm ef nfa => ⟨by show 2 ≤ sizeLine; omega, fun t nt => ?_⟩⟩
          have s6 := same_new (o := .lst fvs') nfa
          have s7 := same_new (o := .tup [.ref ga, .ref fa]) nt
          have st5 := st.same s5
          have st6 := st5.same s6
          have hnfa := st5.new nfa
          have hnt := st6.new nt
          have S47 := msk_mono (S := S) (C := C) (s5.trans (s6.trans s7))
          refine k t ga fa gs fs _ ((sM.trans sm).trans S47) (st6.same s7) (by rw [msk_of hnt.1 hnt.2]; exact upd_same) ⟨gvs, S47 _ _ hga, eg.tk (Tk.of_same S47)⟩ ⟨fvs', (msk_mono s7) _ _ (by rw [msk_of hnfa.1 hnfa.2, upd_same]), (ef.tk ((Tk.new nfa).trans (Tk.of_same s7))).tk (st6.same s7).tk⟩ hok pm ?_
          have : fs.length = (left ps gs).length := pm.length_eq
          rw [this]
          exact hlen
end
end K97
set_option Elab.async false
set_option linter.all false
set_option maxRecDepth 100000
set_option maxHeartbeats 4000000
/-! The mathematics of the plan's depth. -/
namespace K97
open PySem PySem.Spec PyProof.Rows L2
section
variable {R : List (List Nat)}
def valB (R : List (List Nat)) (t : Nat × List Nat × List Nat) : Nat := 1 + max (best R t.2.1).1 (best R t.2.2).1
theorem fold_min : ∀ (l : List (Nat × List Nat × List Nat)) (acc : Nat × Option Nat), (acc.2 ≠ none → (l.foldl (pickB (best R)) acc).1 ≤ acc.1) ∧ (∀ t ∈ l, (l.foldl (pickB (best R)) acc).1 ≤ valB R t) ∧ (l.foldl (pickB (best R)) acc = acc ∨ ∃ t ∈ l, l.foldl (pickB (best R)) acc = (valB R t, some t.1))
  | [], acc => ⟨fun _ => Nat.le_refl _, (fun t h => nomatch h), .inl rfl⟩
  | t :: l, acc => by
    rw [List.foldl_cons]
    obtain ⟨h1, h2, h3⟩ := fold_min l (pickB (best R) acc t)
    by_cases c : acc.2 = none ∨ 1 + max (best R t.2.1).1 (best R t.2.2).1 < acc.1
    · have e : pickB (best R) acc t = (valB R t, some t.1) := by
        unfold pickB
        rw [if_pos c]
        rfl
      rw [e] at h1 h2 h3 ⊢
      have h1 := h1 fun z => nomatch z
      refine ⟨fun hn => ?_, fun u hu => ?_, ?_⟩
      · rcases c with c | c
        · exact absurd c hn
        · exact Nat.le_trans h1 (Nat.le_of_lt c)
      · rcases List.mem_cons.mp hu with rfl | hu
        · exact h1
        · exact h2 u hu
      · rcases h3 with h3 | ⟨u, hu, h3⟩
        · exact .inr ⟨t, List.mem_cons_self, h3⟩
        · exact .inr ⟨u, List.mem_cons_of_mem _ hu, h3⟩
    · have e : pickB (best R) acc t = acc := by
        unfold pickB
        rw [if_neg c]
      rw [e] at h1 h2 h3 ⊢
      have hn : acc.2 ≠ none := fun z => c (.inl z)
      have hl : acc.1 ≤ valB R t := Nat.le_of_not_lt fun z => c (.inr z)
      refine ⟨h1, fun u hu => ?_, ?_⟩
      · rcases List.mem_cons.mp hu with rfl | hu
        · exact Nat.le_trans (h1 hn) hl
        · exact h2 u hu
      · rcases h3 with h3 | ⟨u, hu, h3⟩
        · exact .inl h3
        · exact .inr ⟨u, List.mem_cons_of_mem _ hu, h3⟩
theorem best_small {g : List Nat} (h : g.length ≤ 1) : best R g = (0, none) := by rw [best_eq, if_pos h]
theorem best_le {g : List Nat} {t : Nat × List Nat × List Nat} (ht : t ∈ splitsOf R g) : (best R g).1 ≤ valB R t := by
  rw [best_eq]
  split
  · exact Nat.zero_le _
  · exact (fold_min _ _).2.1 t ht
/-- what best takes -/
theorem best_is (g : List Nat) : best R g = (0, none) ∨ ∃ t ∈ splitsOf R g, best R g = (valB R t, some t.1) := by
  rw [best_eq]
  split
  · exact .inl rfl
  · exact (fold_min _ _).2.2
theorem best_takes {g : List Nat} {i : Nat} (h : (best R g).2 = some i) : (best R g).1 = 1 + max (best R (sideOf g (R.getD i []))).1 (best R (restOf g (R.getD i []))).1 := by
  rcases best_is (R := R) g with e | ⟨t, ht, e⟩
  · rw [e] at h
    cases h
  · rw [e] at h ⊢
    injection h with h
    obtain ⟨et, _⟩ := mem_splits ht
    rw [et] at h ⊢
    have h : t.1 = i := h
    rw [h]
    rfl
theorem best_zero {g : List Nat} (h : (best R g).2 = none) : (best R g).1 = 0 := by
  rcases best_is (R := R) g with e | ⟨t, ht, e⟩
  · rw [e]
  · rw [e] at h
    cases h
theorem dep_best : ∀ (N : Nat) (g : List Nat), g.length < N → dep (planF R N g) = (best R g).1
  | 0, g, h => absurd h (Nat.not_lt_zero _)
  | N + 1, g, h => by
    unfold planF
    cases e : (best R g).2 with
    | none => exact (best_zero e).symm
    | some i =>
      obtain ⟨_, h1, h2, _, _⟩ := best_some e
      show 1 + max (dep (planF R N _)) (dep (planF R N _)) = _
      rw [dep_best N _ (by omega), dep_best N _ (by omega), best_takes e]
theorem hgt_lt : ∀ (N : Nat) (g : List Nat), g.length < N → hgt (planF R N g) < N
  | 0, g, h => absurd h (Nat.not_lt_zero _)
  | N + 1, g, h => by
    unfold planF
    cases e : (best R g).2 with
    | none => exact Nat.succ_pos _
    | some i =>
      obtain ⟨_, h1, h2, _, _⟩ := best_some e
      show 1 + max (hgt (planF R N _)) (hgt (planF R N _)) < _
      have a := hgt_lt N (sideOf g (R.getD i [])) (by omega)
      have b := hgt_lt N (restOf g (R.getD i [])) (by omega)
      omega
theorem split_in {g : List Nat} {i : Nat} (hi : i < R.length) (h1 : 0 < (sideOf g (R.getD i [])).length) (h2 : 0 < (restOf g (R.getD i [])).length) : splitOf R g i ∈ splitsOf R g := by
  refine List.mem_map.mpr ⟨i, List.mem_filter.mpr ⟨List.mem_range.mpr hi, ?_⟩, rfl⟩
  unfold splitsB
  rw [decide_eq_true h1, decide_eq_true h2]
  rfl
/-- every group can be halved: the depth is what halving needs -/
theorem upper {n : Nat} (half : ∀ g : List Nat, g.Sublist (List.range n) → 2 ≤ g.length → ∃ i < R.length, (sideOf g (R.getD i [])).length = g.length / 2) : ∀ (h : Nat) (g : List Nat), g.Sublist (List.range n) → g.length ≤ 2 ^ h → (best R g).1 ≤ h
  | 0, g, _, hz => by
    rw [best_small (by simpa using hz)]
    exact Nat.le_refl _
  | h + 1, g, hs, hz => by
    by_cases c : g.length ≤ 1
    · rw [best_small c]
      exact Nat.zero_le _
    · obtain ⟨i, hi, e⟩ := half g hs (by omega)
      have sr := side_rest g (R.getD i [])
      rw [Nat.pow_succ] at hz
      have a := upper half h (sideOf g (R.getD i [])) ((side_sub _ _).trans hs) (by omega)
      have b := upper half h (restOf g (R.getD i [])) ((rest_sub _ _).trans hs) (by omega)
      have := best_le (split_in (R := R) (g := g) hi (by omega) (by omega))
      have e2 : valB R (splitOf R g i) = 1 + max (best R (sideOf g (R.getD i []))).1 (best R (restOf g (R.getD i []))).1 := rfl
      rw [e2] at this
      omega
/-- every two are told apart -/
def Apart (R : List (List Nat)) (n : Nat) : Prop := ∀ a b, a < n → b < n → a ≠ b → ∃ i < R.length, (a ∈ R.getD i [] ∧ b ∉ R.getD i []) ∨ (b ∈ R.getD i [] ∧ a ∉ R.getD i [])
theorem apart_some {n : Nat} (A : Apart R n) {g : List Nat} (hs : g.Sublist (List.range n)) (h : 2 ≤ g.length) : ∃ i, (best R g).2 = some i := by
  cases e : (best R g).2 with
  | some i => exact ⟨i, rfl⟩
  | none =>
    exfalso
    have gnd : g.Nodup := hs.nodup List.nodup_range
    match g, h, gnd, hs, e with
    | a :: b :: t, _, gnd, hs, e =>
      rw [List.nodup_cons] at gnd
      have ab : a ≠ b := fun z => gnd.1 (z ▸ List.mem_cons_self)
      have ha := List.mem_range.mp (hs.subset (List.mem_cons_self))
      have hb := List.mem_range.mp (hs.subset (List.mem_cons_of_mem _ List.mem_cons_self))
      obtain ⟨i, hi, q⟩ := A a b ha hb ab
      have := one_side e hi a List.mem_cons_self b (List.mem_cons_of_mem _ List.mem_cons_self)
      rcases q with ⟨q1, q2⟩ | ⟨q1, q2⟩
      · exact q2 (this.mp q1)
      · exact q2 (this.mpr q1)
theorem lower {n : Nat} (A : Apart R n) : ∀ (m : Nat) (g : List Nat), g.length ≤ m → g.Sublist (List.range n) → g.length ≤ 2 ^ (best R g).1
  | 0, g, h, _ => by
    have := Nat.zero_le (2 ^ (best R g).1)
    omega
  | m + 1, g, h, hs => by
    by_cases c : g.length ≤ 1
    · rw [best_small c]
      exact c
    · obtain ⟨i, e⟩ := apart_some A hs (by omega)
      obtain ⟨_, h1, h2, _, _⟩ := best_some e
      have sr := side_rest g (R.getD i [])
      have a := lower A m (sideOf g (R.getD i [])) (by omega) ((side_sub _ _).trans hs)
      have b := lower A m (restOf g (R.getD i [])) (by omega) ((rest_sub _ _).trans hs)
      rw [best_takes e]
      generalize (best R (sideOf g (R.getD i []))).1 = x at a ⊢
      generalize (best R (restOf g (R.getD i []))).1 = y at b ⊢
      have p1 : 2 ^ x ≤ 2 ^ max x y := Nat.pow_le_pow_right (by decide) (Nat.le_max_left _ _)
      have p2 : 2 ^ y ≤ 2 ^ max x y := Nat.pow_le_pow_right (by decide) (Nat.le_max_right _ _)
      rw [Nat.add_comm 1, Nat.pow_succ]
      omega
/-- every test names one at most -/
theorem lonely {n : Nat} (A : Apart R n) (one : ∀ i < R.length, ∀ g : List Nat, g.Sublist (List.range n) → (sideOf g (R.getD i [])).length ≤ 1) : ∀ (m : Nat) (g : List Nat), g.length ≤ m → 1 ≤ g.length → g.Sublist (List.range n) → (best R g).1 = g.length - 1
  | 0, g, h, h1, _ => absurd h1 (by omega)
  | m + 1, g, h, h1, hs => by
    by_cases c : g.length ≤ 1
    · rw [best_small c]
      show 0 = _
      omega
    · obtain ⟨i, e⟩ := apart_some A hs (by omega)
      obtain ⟨hi, z1, z2, z3, z4⟩ := best_some e
      have sr := side_rest g (R.getD i [])
      have o := one i hi g hs
      rw [best_takes e, best_small o, lonely A one m (restOf g (R.getD i [])) (by omega) (by omega) ((rest_sub _ _).trans hs)]
      show 1 + max 0 _ = _
      omega
end
end K97
set_option Elab.async false
set_option linter.all false
set_option maxRecDepth 100000
set_option maxHeartbeats 4000000
/-! The rows of tests and picks: halves, apart, lone. -/
namespace K97
open PySem PySem.Spec PyProof.Rows L2
/-- the place of an id -/
def pos : List Id → Id → Nat
  | [], _ => 0
  | a :: t, x => if a = x then 0 else pos t x + 1
theorem pos_lt : ∀ {l : List Id} {x : Id}, x ∈ l → pos l x < l.length
  | a :: t, x, h => by
    unfold pos
    split
    · simp
    · rename_i c
      rcases List.mem_cons.mp h with e | h
      · exact absurd e.symm c
      · have := pos_lt h
        rw [List.length_cons]
        omega
theorem pos_take : ∀ {l : List Id} {m : Nat} {x : Id}, x ∈ l.take m → pos l x < m
  | [], m, x, h => by simp at h
  | a :: t, 0, x, h => by simp at h
  | a :: t, m + 1, x, h => by
    unfold pos
    split
    · omega
    · rename_i c
      rw [List.take_succ_cons] at h
      rcases List.mem_cons.mp h with e | h
      · exact absurd e.symm c
      · have := pos_take h
        omega
theorem pos_get : ∀ {l : List Id} {m : Nat} {x : Id}, l.Nodup → l[m]? = some x → pos l x = m
  | [], m, x, _, h => by simp at h
  | a :: t, 0, x, _, h => by
    have h : a = x := by simpa using h
    unfold pos
    rw [if_pos h]
  | a :: t, m + 1, x, n, h => by
    rw [List.nodup_cons] at n
    have h : t[m]? = some x := by simpa using h
    unfold pos
    rw [if_neg fun e : a = x => n.1 (e ▸ List.mem_of_getElem? h), pos_get n.2 h]
theorem pos_inj : ∀ {l : List Id} {x y : Id}, x ∈ l → y ∈ l → pos l x = pos l y → x = y
  | a :: t, x, y, hx, hy, e => by
    unfold pos at e
    split at e
    · rename_i c
      split at e
      · rename_i d
        rw [← c, ← d]
      · cases e
    · rename_i c
      split at e
      · cases e
      · rename_i d
        rcases List.mem_cons.mp hx with q | hx
        · exact absurd q.symm c
        rcases List.mem_cons.mp hy with q | hy
        · exact absurd q.symm d
        exact pos_inj hx hy (Nat.succ.inj e)
theorem nee_pos {ps : List Pa} (h : RowOk ps) {a b : Id} (r : Nee ps a b) : pos (ids ps) b < pos (ids ps) a := by
  obtain ⟨p, hp, rfl, hb⟩ := r
  obtain ⟨m, hm⟩ := List.getElem?_of_mem hp
  have e : (ids ps)[m]? = some p.id := by
    unfold ids
    rw [List.getElem?_map, hm]
    rfl
  rw [pos_get h.nodup e]
  refine pos_take ?_
  have := h.before m p hm b hb
  unfold ids at this ⊢
  rwa [List.map_take] at this
theorem rch_pos {ps : List Pa} (h : RowOk ps) {a b : Id} (r : Rch ps a b) : pos (ids ps) b < pos (ids ps) a := by
  induction r with
  | one q => exact nee_pos h q
  | step _ q ih => exact Nat.lt_trans (nee_pos h q) ih
/-! ### counting below a threshold -/
theorem count_step (p : Nat → Nat) (t : Nat) : ∀ g : List Nat, (g.filter fun k => decide (p k < t + 1)).length = (g.filter fun k => decide (p k < t)).length + (g.filter fun k => decide (p k = t)).length
  | [] => rfl
  | a :: g => by
    have ih := count_step p t g
    simp only [List.filter_cons]
    by_cases c1 : p a < t
    · have c2 : p a < t + 1 := by omega
      have c3 : ¬ p a = t := by omega
      simp only [c1, c2, c3, decide_true, decide_false, if_true, List.length_cons]
      simp
      omega
    · by_cases c3 : p a = t
      · have c2 : p a < t + 1 := by omega
        simp only [c1, c2, c3, decide_true, decide_false, if_true, List.length_cons]
        simp
        omega
      · have c2 : ¬ p a < t + 1 := by omega
        simp only [c1, c2, c3, decide_false]
        simpa using ih
theorem count_one {p : Nat → Nat} {g : List Nat} (n : g.Nodup) (inj : ∀ a ∈ g, ∀ b ∈ g, p a = p b → a = b) (t : Nat) : (g.filter fun k => decide (p k = t)).length ≤ 1 := by
  cases e : g.filter fun k => decide (p k = t) with
  | nil => exact Nat.zero_le _
  | cons a r =>
    have hn : (a :: r).Nodup := by
      rw [← e]
      exact List.Pairwise.filter _ n
    have ha : a ∈ g.filter fun k => decide (p k = t) := by rw [e]; exact List.mem_cons_self
    rw [List.mem_filter, decide_eq_true_eq] at ha
    refine nodup_le hn (ys := [a]) fun x hx => ?_
    have hx : x ∈ g.filter fun k => decide (p k = t) := by rw [e]; exact hx
    rw [List.mem_filter, decide_eq_true_eq] at hx
    rw [List.mem_singleton]
    exact inj x hx.1 a ha.1 (hx.2.trans ha.2.symm)
theorem ivt {f : Nat → Nat} (h0 : f 0 = 0) (hs : ∀ t, f (t + 1) ≤ f t + 1) : ∀ (N v : Nat), v ≤ f N → ∃ t, f t = v
  | 0, v, h => ⟨0, by omega⟩
  | N + 1, v, h => by
    by_cases c : v ≤ f N
    · exact ivt h0 hs N v c
    · have := hs N
      exact ⟨N + 1, by omega⟩
/-! ### the causes, one id each -/
def nk (ns : List Id) (k : Nat) : Id := (ns[k]?).getD ⟨0, 0⟩
theorem nk_get {ns : List Id} {k : Nat} (h : k < ns.length) : ns[k]? = some (nk ns k) := by
  unfold nk
  rw [List.getElem?_eq_getElem h]
  rfl
theorem nk_mem {ns : List Id} {k : Nat} (h : k < ns.length) : nk ns k ∈ ns := List.mem_of_getElem? (nk_get h)
theorem nk_inj {ns : List Id} (n : ns.Nodup) {a b : Nat} (ha : a < ns.length) (hb : b < ns.length) (e : nk ns a = nk ns b) : a = b := by
  have h1 := pos_get n (nk_get ha)
  have h2 := pos_get n (nk_get hb)
  rw [← h1, ← h2, e]
def ones (ns : List Id) : List (List Id) := ns.map fun n => [n]
theorem ones_len (ns : List Id) : (ones ns).length = ns.length := List.length_map _
theorem bad_one {ns ts : List Id} {k : Nat} (h : k < ns.length) : bad ts ((ones ns).getD k []) = decide (nk ns k ∈ ts) := by
  have e : (ones ns).getD k [] = [nk ns k] := by
    simp [ones, List.getD, nk_get h]
  rw [e]
  simp [bad]
theorem mem_row {ns ts : List Id} {tss : List (List Id)} {i k : Nat} (hi : tss[i]? = some ts) (h : k < ns.length) : k ∈ (rowsOf tss (ones ns)).getD i [] ↔ nk ns k ∈ ts := by
  rw [rows_get hi, mem_marks (by rw [ones_len]; exact h), bad_one h, decide_eq_true_eq]
theorem rows_len (tss css : List (List Id)) : (rowsOf tss css).length = tss.length := List.length_map _
section
variable {gs ps : List Pa} {ns : List Id} {tss : List (List Id)}
theorem halves (hr : RowOk ps) (pm : ns.Perm (fresh gs ps)) (T : TestsOf gs ps tss) : ∀ g : List Nat, g.Sublist (List.range ns.length) → 2 ≤ g.length → ∃ i < (rowsOf tss (ones ns)).length, (sideOf g ((rowsOf tss (ones ns)).getD i [])).length = g.length / 2 := by
  intro g hs h2
  have lt : ∀ k ∈ g, k < ns.length := fun k hk => List.mem_range.mp (hs.subset hk)
  have gnd : g.Nodup := hs.nodup List.nodup_range
  have nnd : ns.Nodup := pm.nodup_iff.mpr (List.Pairwise.filter _ hr.nodup)
  have inF : ∀ k ∈ g, nk ns k ∈ fresh gs ps := fun k hk => pm.mem_iff.mp (nk_mem (lt k hk))
  have inI : ∀ k ∈ g, nk ns k ∈ ids ps := fun k hk => (mem_fresh.mp (inF k hk)).1
  obtain ⟨t, ht⟩ := ivt (f := fun t => (g.filter fun k => decide (pos (ids ps) (nk ns k) < t)).length) (by simp) (fun t => by
    have a := count_step (fun k => pos (ids ps) (nk ns k)) t g
    have b := count_one (p := fun k => pos (ids ps) (nk ns k)) gnd (fun a ha b hb e => nk_inj nnd (lt a ha) (lt b hb) (pos_inj (inI a ha) (inI b hb) e)) t
    omega) (ids ps).length (g.length / 2) (by
      show g.length / 2 ≤ (g.filter fun k => decide (pos (ids ps) (nk ns k) < (ids ps).length)).length
      rw [List.filter_eq_self.mpr fun k hk => decide_eq_true (pos_lt (inI k hk))]
      omega)
  obtain ⟨ts, hts, hm⟩ := T.every ((fresh gs ps).filter fun i => decide (pos (ids ps) i < t)) fun i hi => (List.mem_filter.mp hi).1
  obtain ⟨i, hi⟩ := List.getElem?_of_mem hts
  refine ⟨i, by rw [rows_len]; exact (List.getElem?_eq_some_iff.mp hi).1, ?_⟩
  rw [← ht]
  congr 1
  refine List.filter_congr fun k hk => ?_
  rw [Bool.eq_iff_iff, decide_eq_true_eq, decide_eq_true_eq, mem_row hi (lt k hk), hm]
  constructor
  · rintro ⟨j, hj, q⟩
    rw [List.mem_filter, decide_eq_true_eq] at hj
    rcases q with q | ⟨q, _⟩
    · rw [q]
      exact hj.2
    · exact Nat.lt_trans (rch_pos hr q) hj.2
  · intro q
    exact ⟨nk ns k, List.mem_filter.mpr ⟨inF k hk, decide_eq_true q⟩, .inl rfl⟩
/-- picks tell every two apart -/
theorem picks_apart {ms : List Id} {xss : List (List Id)} (hr : RowOk ps) (pm : ns.Perm (fresh gs ps)) (pm2 : ms.Perm (fresh gs ps)) (hp : Paired (PickOf gs ps) ms xss) : Apart (rowsOf xss (ones ns)) ns.length := by
  intro a b ha hb ab
  have nnd : ns.Nodup := pm.nodup_iff.mpr (List.Pairwise.filter _ hr.nodup)
  have ne : nk ns a ≠ nk ns b := fun e => ab (nk_inj nnd ha hb e)
  have fa := pm.mem_iff.mp (nk_mem ha)
  have fb := pm.mem_iff.mp (nk_mem hb)
  have one : ∀ x y, x < ns.length → y < ns.length → nk ns x ≠ nk ns y → nk ns x ∈ fresh gs ps → pos (ids ps) (nk ns x) < pos (ids ps) (nk ns y) → ∃ i < (rowsOf xss (ones ns)).length, x ∈ (rowsOf xss (ones ns)).getD i [] ∧ y ∉ (rowsOf xss (ones ns)).getD i [] := fun x y hx hy hne hf hlt => by
    obtain ⟨xs, hxs, hpk⟩ := pget_meml hp (pm2.mem_iff.mpr hf)
    obtain ⟨i, hi⟩ := List.getElem?_of_mem hxs
    refine ⟨i, by rw [rows_len]; exact (List.getElem?_eq_some_iff.mp hi).1, (mem_row hi hx).mpr ((hpk.2 _).mpr (.inl rfl)), fun z => ?_⟩
    rcases (hpk.2 _).mp ((mem_row hi hy).mp z) with e | ⟨r, _⟩
    · exact hne e.symm
    · have := rch_pos hr r
      omega
  have ia := (mem_fresh.mp fa).1
  have ib := (mem_fresh.mp fb).1
  rcases Nat.lt_trichotomy (pos (ids ps) (nk ns a)) (pos (ids ps) (nk ns b)) with q | q | q
  · obtain ⟨i, hi, z⟩ := one a b ha hb ne fa q
    exact ⟨i, hi, .inl z⟩
  · exact absurd (pos_inj ia ib q) ne
  · obtain ⟨i, hi, z⟩ := one b a hb ha ne.symm fb q
    exact ⟨i, hi, .inr z⟩
/-- no new id below another: a pick names one -/
theorem picks_one {ms : List Id} {xss : List (List Id)} (hr : RowOk ps) (pm : ns.Perm (fresh gs ps)) (hp : Paired (PickOf gs ps) ms xss) (pm2 : ms.Perm (fresh gs ps)) (lone : ∀ a ∈ fresh gs ps, ∀ b ∈ fresh gs ps, ¬ Rch ps a b) : ∀ i < (rowsOf xss (ones ns)).length, ∀ g : List Nat, g.Sublist (List.range ns.length) → (sideOf g ((rowsOf xss (ones ns)).getD i [])).length ≤ 1 := by
  intro i hi g hs
  rw [rows_len] at hi
  have lt : ∀ k ∈ g, k < ns.length := fun k hk => List.mem_range.mp (hs.subset hk)
  have gnd : g.Nodup := hs.nodup List.nodup_range
  have nnd : ns.Nodup := pm.nodup_iff.mpr (List.Pairwise.filter _ hr.nodup)
  obtain ⟨m, hm, hpk⟩ := pgetr hp (List.getElem?_eq_getElem hi)
  have hmf := pm2.mem_iff.mp (List.mem_of_getElem? hm)
  cases e : sideOf g ((rowsOf xss (ones ns)).getD i []) with
  | nil => exact Nat.zero_le _
  | cons a r =>
    have key : ∀ k ∈ sideOf g ((rowsOf xss (ones ns)).getD i []), k ∈ g ∧ nk ns k = m := fun k hk => by
      obtain ⟨h1, h2⟩ := List.mem_filter.mp hk
      rw [decide_eq_true_eq, mem_row (List.getElem?_eq_getElem hi) (lt k h1), hpk.2] at h2
      refine ⟨h1, ?_⟩
      rcases h2 with h2 | ⟨h2, _⟩
      · exact h2
      · exact absurd h2 (lone m hmf _ (pm.mem_iff.mp (nk_mem (lt k h1))))
    have hn : (a :: r).Nodup := by
      rw [← e]
      exact List.Pairwise.filter _ gnd
    rw [e] at key
    obtain ⟨a1, a2⟩ := key a List.mem_cons_self
    refine nodup_le hn (ys := [a]) fun x hx => ?_
    obtain ⟨x1, x2⟩ := key x hx
    rw [List.mem_singleton]
    exact nk_inj nnd (lt x x1) (lt a a1) (x2.trans a2.symm)
/-- THE DEPTH with all tests: halving -/
theorem dep_tests (hr : RowOk ps) (pm : ns.Perm (fresh gs ps)) (T : TestsOf gs ps tss) (few : ns.length ≤ 9) {h : Nat} (h1 : ns.length ≤ 2 ^ h) (h2 : h = 0 ∨ 2 ^ (h - 1) < ns.length) : dep (planOf tss (ones ns)) = h := by
  unfold planOf
  rw [ones_len, dep_best 10 _ (by rw [List.length_range]; omega)]
  have hs : (List.range ns.length).Sublist (List.range ns.length) := List.Sublist.refl _
  have up := upper (halves hr pm T) h (List.range ns.length) hs (by rw [List.length_range]; exact h1)
  have A : Apart (rowsOf tss (ones ns)) ns.length := by
    intro a b ha hb ab
    have nnd : ns.Nodup := pm.nodup_iff.mpr (List.Pairwise.filter _ hr.nodup)
    have ne : nk ns a ≠ nk ns b := fun e => ab (nk_inj nnd ha hb e)
    have one : ∀ x y, x < ns.length → y < ns.length → nk ns x ≠ nk ns y → nk ns x ∈ fresh gs ps → pos (ids ps) (nk ns x) < pos (ids ps) (nk ns y) → ∃ i < (rowsOf tss (ones ns)).length, x ∈ (rowsOf tss (ones ns)).getD i [] ∧ y ∉ (rowsOf tss (ones ns)).getD i [] := fun x y hx hy hne hf hlt => by
      obtain ⟨xs, hxs, hpk⟩ := T.every [nk ns x] fun i hi => by rw [List.mem_singleton] at hi; rw [hi]; exact hf
      obtain ⟨i, hi⟩ := List.getElem?_of_mem hxs
      refine ⟨i, by rw [rows_len]; exact (List.getElem?_eq_some_iff.mp hi).1, (mem_row hi hx).mpr ((hpk _).mpr ⟨_, List.mem_singleton.mpr rfl, .inl rfl⟩), fun z => ?_⟩
      obtain ⟨j, hj, q⟩ := (hpk _).mp ((mem_row hi hy).mp z)
      rw [List.mem_singleton] at hj
      subst hj
      rcases q with e | ⟨r, _⟩
      · exact hne e.symm
      · have := rch_pos hr r
        omega
    have fa := pm.mem_iff.mp (nk_mem ha)
    have fb := pm.mem_iff.mp (nk_mem hb)
    rcases Nat.lt_trichotomy (pos (ids ps) (nk ns a)) (pos (ids ps) (nk ns b)) with q | q | q
    · obtain ⟨i, hi, z⟩ := one a b ha hb ne fa q
      exact ⟨i, hi, .inl z⟩
    · exact absurd (pos_inj (mem_fresh.mp fa).1 (mem_fresh.mp fb).1 q) ne
    · obtain ⟨i, hi, z⟩ := one b a hb ha ne.symm fb q
      exact ⟨i, hi, .inr z⟩
  have lo := lower A ns.length (List.range ns.length) (by rw [List.length_range]; exact Nat.le_refl _) hs
  rw [List.length_range] at lo
  rcases h2 with h2 | h2
  · omega
  · by_cases c : h ≤ (best (rowsOf tss (ones ns)) (List.range ns.length)).1
    · omega
    · exfalso
      have : 2 ^ (best (rowsOf tss (ones ns)) (List.range ns.length)).1 ≤ 2 ^ (h - 1) := Nat.pow_le_pow_right (by decide) (by omega)
      omega
/-- with the picks alone: no less -/
theorem dep_picks {ms : List Id} {xss : List (List Id)} (hr : RowOk ps) (pm : ns.Perm (fresh gs ps)) (pm2 : ms.Perm (fresh gs ps)) (hp : Paired (PickOf gs ps) ms xss) (few : ns.length ≤ 9) {h : Nat} (h2 : h = 0 ∨ 2 ^ (h - 1) < ns.length) : h ≤ dep (planOf xss (ones ns)) := by
  unfold planOf
  rw [ones_len, dep_best 10 _ (by rw [List.length_range]; omega)]
  have lo := lower (picks_apart hr pm pm2 hp) ns.length (List.range ns.length) (by rw [List.length_range]; exact Nat.le_refl _) (List.Sublist.refl _)
  rw [List.length_range] at lo
  rcases h2 with h2 | h2
  · omega
  · by_cases c : h ≤ (best (rowsOf xss (ones ns)) (List.range ns.length)).1
    · exact c
    · exfalso
      have : 2 ^ (best (rowsOf xss (ones ns)) (List.range ns.length)).1 ≤ 2 ^ (h - 1) := Nat.pow_le_pow_right (by decide) (by omega)
      omega
theorem dep_lone {ms : List Id} {xss : List (List Id)} (hr : RowOk ps) (pm : ns.Perm (fresh gs ps)) (pm2 : ms.Perm (fresh gs ps)) (hp : Paired (PickOf gs ps) ms xss) (few : ns.length ≤ 9) (lone : ∀ a ∈ fresh gs ps, ∀ b ∈ fresh gs ps, ¬ Rch ps a b) (h1 : 1 ≤ ns.length) : dep (planOf xss (ones ns)) = ns.length - 1 := by
  unfold planOf
  rw [ones_len, dep_best 10 _ (by rw [List.length_range]; omega)]
  have := lonely (picks_apart hr pm pm2 hp) (picks_one hr pm hp pm2 lone) ns.length (List.range ns.length) (by rw [List.length_range]; exact Nat.le_refl _) (by rw [List.length_range]; exact h1) (List.Sublist.refl _)
  rwa [List.length_range] at this
end
end K97
set_option Elab.async false
set_option linter.all false
set_option maxRecDepth 100000
set_option maxHeartbeats 4000000
/-! Causes are told apart. -/
namespace K97
open PySem PySem.Spec PyProof.Rows L2
section
variable {gs ps : List Pa} {ns : List Id} {tss css : List (List Id)}
theorem pk_trans {a b c : Id} (h : Pk gs ps a b) (r : Pk gs ps b c) : Pk gs ps a c := by
  rcases r with rfl | ⟨r, hc⟩
  · exact h
  · rcases h with rfl | ⟨h, _⟩
    · exact .inr ⟨r, hc⟩
    · exact .inr ⟨rch_trans h r, hc⟩
theorem pk_anti (hr : RowOk ps) {a b : Id} (h : Pk gs ps a b) (r : Pk gs ps b a) : a = b := by
  rcases h with rfl | ⟨h, _⟩
  · rfl
  · rcases r with e | ⟨r, _⟩
    · exact e
    · have := rch_pos hr h
      have := rch_pos hr r
      omega
structure Anti (gs ps : List Pa) (c : List Id) : Prop where
  sub : ∀ x ∈ c, x ∈ fresh gs ps
  ac : ∀ x ∈ c, ∀ y ∈ c, Pk gs ps x y → x = y
theorem told (hr : RowOk ps) (T : TestsOf gs ps tss) {c d : List Id} (hc : Anti gs ps c) (hd : Anti gs ps d) (same : ∀ t ∈ tss, bad t c = bad t d) : ∀ x, x ∈ c ↔ x ∈ d := by
  have cover : ∀ c d : List Id, Anti gs ps c → (∀ t ∈ tss, bad t c = bad t d) → ∀ y ∈ d, ∃ x ∈ c, Pk gs ps x y := fun c d hc same y hy => by
    obtain ⟨t, ht, hm⟩ := T.every c hc.sub
    have h1 : bad t c = true := by
      unfold bad
      rw [List.all_eq_true]
      intro x hx
      exact decide_eq_true ((hm x).mpr ⟨x, hx, .inl rfl⟩)
    rw [same t ht] at h1
    unfold bad at h1
    rw [List.all_eq_true] at h1
    exact (hm y).mp (of_decide_eq_true (h1 y hy))
  have half : ∀ c d : List Id, Anti gs ps c → Anti gs ps d → (∀ t ∈ tss, bad t c = bad t d) → ∀ x ∈ c, x ∈ d := fun c d hc hd same x hx => by
    obtain ⟨y, hy, p1⟩ := cover d c hd (fun t ht => (same t ht).symm) x hx
    obtain ⟨x', hx', p2⟩ := cover c d hc same y hy
    have e := hc.ac x' hx' x hx (pk_trans p2 p1)
    rw [e] at p2
    rw [pk_anti hr p2 p1]
    exact hy
  exact fun x => ⟨half c d hc hd same x, half d c hd hc (fun t ht => (same t ht).symm) x⟩
theorem causes_anti (hr : RowOk ps) (pm : ns.Perm (fresh gs ps)) (hc : CausesOf gs ps ns css) : ∀ c ∈ css, Anti gs ps c ∧ c.length ≤ 2 := by
  obtain ⟨prs, pcs, rfl, _, hp⟩ := hc
  intro c hc
  rcases List.mem_append.mp hc with hc | hc
  · obtain ⟨n, hn, rfl⟩ := List.mem_map.mp hc
    have hf := pm.mem_iff.mp hn
    refine ⟨⟨fun x hx => by rw [List.mem_singleton] at hx; rw [hx]; exact hf, fun x hx y hy _ => ?_⟩, by show 1 ≤ 2; decide⟩
    rw [List.mem_singleton] at hx hy
    rw [hx, hy]
  · obtain ⟨q, _, h⟩ := pget_mem hp hc
    obtain ⟨a, b, ha, hb, rfl, h1, h2⟩ := h.ex
    have fa := pm.mem_iff.mp (List.mem_of_getElem? ha)
    have fb := pm.mem_iff.mp (List.mem_of_getElem? hb)
    refine ⟨⟨fun x hx => ?_, fun x hx y hy r => ?_⟩, by show 2 ≤ 2; decide⟩
    · rcases List.mem_cons.mp hx with rfl | hx
      · exact fa
      · rw [List.mem_singleton] at hx
        rw [hx]
        exact fb
    · rcases List.mem_cons.mp hx with rfl | hx
      · rcases List.mem_cons.mp hy with rfl | hy
        · rfl
        · rw [List.mem_singleton] at hy
          subst hy
          exact absurd r h2
      · rw [List.mem_singleton] at hx
        subst hx
        rcases List.mem_cons.mp hy with rfl | hy
        · exact absurd r h1
        · rw [List.mem_singleton] at hy
          exact hy.symm
theorem get_inj {l : List Id} (n : l.Nodup) {i j : Nat} {x : Id} (hi : l[i]? = some x) (hj : l[j]? = some x) : i = j := by
  rw [← pos_get n hi, ← pos_get n hj]
theorem nd_get {α : Type} : ∀ {l : List α} {i j : Nat} {x : α}, l.Nodup → l[i]? = some x → l[j]? = some x → i = j
  | [], i, j, x, _, h, _ => by simp at h
  | a :: t, 0, 0, x, _, _, _ => rfl
  | a :: t, 0, j + 1, x, n, h, h2 => by
    rw [List.nodup_cons] at n
    have h : a = x := by simpa using h
    have h2 : t[j]? = some x := by simpa using h2
    exact absurd (List.mem_of_getElem? h2) (h ▸ n.1)
  | a :: t, i + 1, 0, x, n, h, h2 => by
    rw [List.nodup_cons] at n
    have h : t[i]? = some x := by simpa using h
    have h2 : a = x := by simpa using h2
    exact absurd (List.mem_of_getElem? h) (h2 ▸ n.1)
  | a :: t, i + 1, j + 1, x, n, h, h2 => by
    rw [List.nodup_cons] at n
    have h : t[i]? = some x := by simpa using h
    have h2 : t[j]? = some x := by simpa using h2
    rw [nd_get n.2 h h2]
theorem causes_diff (hr : RowOk ps) (pm : ns.Perm (fresh gs ps)) (hc : CausesOf gs ps ns css) {i j : Nat} {c d : List Id} (hij : i < j) (hi : css[i]? = some c) (hj : css[j]? = some d) : ¬ ∀ x, x ∈ c ↔ x ∈ d := by
  obtain ⟨prs, pcs, rfl, hnd, hp⟩ := hc
  have nnd : ns.Nodup := pm.nodup_iff.mpr (List.Pairwise.filter _ hr.nodup)
  have ml : (ns.map fun n => [n]).length = ns.length := List.length_map _
  intro same
  have pairOf : ∀ {k : Nat} {e : List Id}, ns.length ≤ k → ((ns.map fun n => [n]) ++ pcs)[k]? = some e → ∃ q, prs[k - ns.length]? = some q ∧ PairOk gs ps ns q e := fun {k e} hk h => by
    rw [List.getElem?_append_right (by rw [ml]; exact hk), ml] at h
    exact pgetr hp h
  by_cases ci : i < ns.length
  · rw [List.getElem?_append_left (by rw [ml]; exact ci), List.getElem?_map] at hi
    obtain ⟨n, hn⟩ : ∃ n, ns[i]? = some n := ⟨_, List.getElem?_eq_getElem ci⟩
    rw [hn] at hi
    have hi : [n] = c := by simpa using hi
    subst hi
    by_cases cj : j < ns.length
    · rw [List.getElem?_append_left (by rw [ml]; exact cj), List.getElem?_map] at hj
      obtain ⟨m, hm⟩ : ∃ n, ns[j]? = some n := ⟨_, List.getElem?_eq_getElem cj⟩
      rw [hm] at hj
      have hj : [m] = d := by simpa using hj
      subst hj
      have e : n = m := by simpa using (same n).mp (by simp)
      rw [e] at hn
      have := nd_get nnd hn hm
      omega
    · obtain ⟨q, _, h⟩ := pairOf (by omega) hj
      obtain ⟨a, b, ha, hb, rfl, _, _⟩ := h.ex
      have e1 : a = n := by simpa using (same a).mpr (by simp)
      have e2 : b = n := by simpa using (same b).mpr (by simp)
      rw [e1] at ha
      rw [e2] at hb
      have := nd_get nnd ha hb
      have := h.lt
      omega
  · obtain ⟨q, hq, h⟩ := pairOf (by omega) hi
    obtain ⟨q', hq', h'⟩ := pairOf (k := j) (by omega) hj
    obtain ⟨a, b, ha, hb, rfl, _, _⟩ := h.ex
    obtain ⟨a', b', ha', hb', rfl, _, _⟩ := h'.ex
    have l1 := h.lt
    have l2 := h'.lt
    have m1 : a = a' ∨ a = b' := by simpa using (same a).mp (by simp)
    have m2 : b = a' ∨ b = b' := by simpa using (same b).mp (by simp)
    have e : q = q' := by
      rcases m1 with e1 | e1
      · rw [e1] at ha
        have x1 := nd_get nnd ha ha'
        rcases m2 with e2 | e2
        · rw [e2] at hb
          have x2 := nd_get nnd hb ha'
          omega
        · rw [e2] at hb
          have x2 := nd_get nnd hb hb'
          exact Prod.ext x1 x2
      · rw [e1] at ha
        have x1 := nd_get nnd ha hb'
        rcases m2 with e2 | e2
        · rw [e2] at hb
          have x2 := nd_get nnd hb ha'
          omega
        · rw [e2] at hb
          have x2 := nd_get nnd hb hb'
          omega
    rw [← e] at hq'
    have := nd_get hnd hq hq'
    omega
/-- TWO CAUSES: some test tells them apart -/
theorem pairs_apart (hr : RowOk ps) (pm : ns.Perm (fresh gs ps)) (T : TestsOf gs ps tss) (hc : CausesOf gs ps ns css) {i j : Nat} {c d : List Id} (hij : i < j) (hi : css[i]? = some c) (hj : css[j]? = some d) : ∃ t ∈ tss, bad t d ≠ bad t c := by
  refine Classical.byContradiction fun h => ?_
  have same : ∀ t ∈ tss, bad t c = bad t d := fun t ht => Classical.byContradiction fun e => h ⟨t, ht, fun z => e z.symm⟩
  exact causes_diff hr pm hc hij hi hj (told hr T (causes_anti hr pm hc c (List.mem_of_getElem? hi)).1 (causes_anti hr pm hc d (List.mem_of_getElem? hj)).1 same)
end
end K97
set_option Elab.async false
set_option linter.all false
set_option maxRecDepth 100000
set_option maxHeartbeats 4000000
/-! law. -/
namespace K97
open PySem PySem.Spec PyProof.Rows L2
/-! ### all but the tables stay -/
section
variable {H H' : Hp} {L : Lab} {w : World}
theorem ext_tk (e : LamX.ExtN H H') : Tk H H' := fun b xs h => e b _ h fun ps z => nomatch z
theorem ext_lst (e : LamX.ExtN H H') {a : Addr} {xs : List V} (h : H a = some (.lst xs)) : H' a = some (.lst xs) := e _ _ h fun ps z => nomatch z
theorem LE.ext {α : Type} {enc : α → NestedKey} {l : Addr} {xs : List α} (e : LamX.ExtN H H') (h : LE H enc l xs) : LE H' enc l xs := let ⟨vs, a, b⟩ := h; ⟨vs, ext_lst e a, b.tk (ext_tk e)⟩
theorem LL.ext {α : Type} {enc : α → NestedKey} {l : Addr} {cv : List V} {xss : List (List α)} (e : LamX.ExtN H H') (h : LL H enc l cv xss) : LL H' enc l cv xss := ⟨ext_lst e h.1, Paired.mapP h.2 fun _ _ ⟨a, q, r⟩ => ⟨a, q, r.ext e⟩⟩
theorem ChAt.ext (s : LamX.ExtN H H') {v : V} : ∀ {c : Ch}, ChAt L H v c → ChAt L H' v c
  | .add, ⟨a, p, e, h⟩ => ⟨a, p, e, ext_tk s _ _ h⟩
  | .back i, ⟨a, u, e, h, q⟩ => ⟨a, u, e, ext_tk s _ _ h, TD.tk (ext_tk s) _ _ q⟩
  | .move f xs, ⟨a, fv, pa, ps, l, e, h, h2, q, r⟩ => ⟨a, fv, pa, ps, l, e, ext_tk s _ _ h, ext_tk s _ _ h2, TD.tk (ext_tk s) _ _ q, r.ext s⟩
  | .drop f xs, ⟨a, fv, l, e, h, q, r⟩ => ⟨a, fv, l, e, ext_tk s _ _ h, TD.tk (ext_tk s) _ _ q, r.ext s⟩
  | .cut f xs, ⟨a, fv, l, e, h, q, r⟩ => ⟨a, fv, l, e, ext_tk s _ _ h, TD.tk (ext_tk s) _ _ q, r.ext s⟩
  | .order f x y, ⟨a, fv, xv, yv, e, h, q, r, t⟩ => ⟨a, fv, xv, yv, e, ext_tk s _ _ h, TD.tk (ext_tk s) _ _ q, TD.tk (ext_tk s) _ _ r, TD.tk (ext_tk s) _ _ t⟩
  | .lines f u d n, ⟨a, fv, lu, ld, lt, ts, e, h, q, r, t, y, z⟩ => ⟨a, fv, lu, ld, lt, ts, e, ext_tk s _ _ h, TD.tk (ext_tk s) _ _ q, r.ext s, t.ext s, ext_lst s y, z⟩
theorem PaAt.ext (s : LamX.ExtN H H') {v : V} {p : Pa} (h : PaAt L H v p) : PaAt L H' v p :=
  let ⟨a, iv, l, nt, vs, e, h1, h2, h3, h4⟩ := h; ⟨a, iv, l, nt, vs, e, ext_tk s _ _ h1, TD.tk (ext_tk s) _ _ h2, ext_lst s h3, Paired.mapP h4 fun _ _ q => q.ext s⟩
theorem RowAt.ext {ro : Addr} {ps : List Pa} (s : LamX.ExtN H H') (h : RowAt L H ro ps) : RowAt L H' ro ps := let ⟨vs, a, b⟩ := h; ⟨vs, ext_lst s a, Paired.mapP b fun _ _ q => q.ext s⟩
theorem WAt.ext {pd : Addr} {ps : List Pa} (s : LamX.ExtN H H') (h : WAt w L H pd ps) : WAt w L H' pd ps := let ⟨kvs, a, b⟩ := h; ⟨kvs, nd_ext s a, Paired.mapP b fun _ _ q => ⟨q.1, q.2.ext s⟩⟩
theorem TwoAt.ext {gd bd : Addr} {gs ps : List Pa} (s : LamX.ExtN H H') (h : TwoAt w L H gd bd gs ps) : TwoAt w L H' gd bd gs ps := ⟨h.g.ext s, h.b.ext s, h.ne, h.ok⟩
end
theorem same_msk0 {S C : Addr} {H H' : Hp} (s : Same H H') (nS : H S = none) (nC : H C = none) : Same H (msk S C H') := fun b o h => by
  rw [msk_of (ne_of_none h nS) (ne_of_none h nC)]
  exact s _ _ h
theorem grp_all (cv : List V) : grp cv (List.range cv.length) = cv := by
  unfold grp
  refine List.ext_getElem (by simp) fun i h1 h2 => ?_
  simp [List.getD, h2]
theorem zip_fst_snd {α β : Type} {R : α → β → Prop} : ∀ {l : List (α × β)}, (∀ q ∈ l, R q.1 q.2) → Paired R (l.map (·.1)) (l.map (·.2))
  | [], _ => .nil
  | q :: t, h => .cons (h q List.mem_cons_self) (zip_fst_snd fun x hx => h x (List.mem_cons_of_mem _ hx))
theorem zip_all {α β : Type} {R : α → β → Prop} : ∀ {as : List α} {bs : List β}, Paired R as bs → ∀ q ∈ as.zip bs, R q.1 q.2
  | _, _, .nil, q, h => by simp at h
  | _, _, .cons r t, q, h => by
    rw [List.zip_cons_cons] at h
    rcases List.mem_cons.mp h with rfl | h
    · exact r
    · exact zip_all t q h
theorem zip_filt {α β : Type} {R : α → β → Prop} (p : β → Bool) : ∀ {as : List α} {bs : List β}, Paired R as bs → ((as.zip bs).filter fun q => p q.2).map (·.2) = bs.filter p
  | _, _, .nil => rfl
  | _, _, .cons (a := x) (b := y) r t => by
    rw [List.zip_cons_cons, List.filter_cons, List.filter_cons]
    cases e : p y with
    | true =>
      simp only [e, if_true, List.map_cons]
      rw [zip_filt p t]
    | false =>
      simp only [e, Bool.false_eq_true, if_false]
      exact zip_filt p t
theorem ifs_ofG {i : Nat} {v : V} {c : TT} {t u r : TS} {D' : Ends} {rt : VK} {bk ct : L2.St → Hp → Prop} {σ : L2.St} {H : Hp} (H1 : Hp) (rest : u { D' with nx := r D' } (σ.set i (some v)) H1) (h : u { D' with nx := r D' } (σ.set i (some v)) H1 → tIfS c t u { D' with nx := r D' } (σ.set i (some v)) H) : gName i v σ H (Ends.nx ⟨tSeq (tIfS c t u) r D', rt, bk, ct⟩) := h rest
section
variable {P : Program} {w : World} {K : PySem.W.Frag} {mg : Str → Option Value} {base : Heap}
theorem call_lenK {X : Cx} (K : PySem.W.Frag) (h : X.K = K) : CallR X (.builtin "len") (fun xs H Q => ∃ x n, xs = [x] ∧ LenV K x H n ∧ Q (.int (n : Nat)) H) := h ▸ call_len
theorem pe_ngetW {X : Cx} {κ : Type} [DecidableEq κ] {enc : κ → NestedKey} {w : World} (h : X.w = w) {o i : Expr} {pos : Pos} {td ty : TE} (C : TCode enc) (hu : X.A.units + 64 < cLine) (ho : PE X o td) (hi : PE X i ty) (hs : NoSl i) : PE X (.Subscript o i pos) (tNGet w enc td ty) := h ▸ pe_nget C hu ho hi hs
def spLaw (Pt : Addr) : Sp := fun vs H Q _ => ∃ (a : Addr) (ns : List Int), vs = [.ref a] ∧ SqL K H a (ns.map V.int) ∧ ns.length ≤ 1000 ∧ H Pt = some (.tbl #[]) ∧ ∀ H', Q (.bl true) H'
theorem scLaw : FnScope ["_law_script", "_law_state_here", "_law_label", "_law_row", "_law_files", "_law_good", "_law_fresh", "_law_whole", "_law_part", "_law_causes_here", "_law_halves", "_law_tests", "_law_picks", "_law_count", "_law_below", "_law_lone", "_law_pairs", "_law_k", "_law_other", "_law_patch", "_law_name", "_law_one", "_law_test"] ["_law_script"] (defScope sLaw) := ⟨rfl, rfl, rfl, by decide +kernel, rfl, by decide +kernel, by decide +kernel⟩
abbrev lawN : List Str := ["_law_script", "_law_state_here", "_law_label", "_law_row", "_law_files", "_law_good", "_law_fresh", "_law_whole", "_law_part", "_law_causes_here", "_law_halves", "_law_tests", "_law_picks", "_law_count", "_law_below", "_law_lone", "_law_pairs", "_law_k", "_law_other", "_law_patch", "_law_name", "_law_one", "_law_test"]
theorem ok_law {Pt : Addr} {f : Addr} {fd : FuncData} (B : Bt mg) (F : DefAt K "law" "law" sLaw f fd)
    (GState : Df P w K mg base 1 "_law_state" ["_law_script"] (spState (K := K))) (GPatch : Df P w K mg base 5 "_law_patchwork" ["_law_state_here", "_law_most"] spPatch)
    (GBetw : ∀ L, Df P w K mg base 3 "_law_between" ["_law_state_here", "_law_row", "_law_most"] (spBetween L)) (GDict : ∀ L, Df P w K mg base 1 "_law_dict" ["_law_row"] (spLDict (w := w) L))
    (GCaus : ∀ L, Df P w K mg base 7 "causes_between" ["good", "bad", "most"] (spCauses (w := w) L)) (GParts : ∀ L, Df P w K mg base 8 "parts_between" ["good", "bad"] (spParts (w := w) L Pt))
    (GPlan : ∀ L, Df P w K mg base 15 "plan" ["causes", "tests"] (spPlan L)) (GDepth : Df P w K mg base 10 "depth" ["tree"] (spDepth 10)) (GPicks : ∀ L, Df P w K mg base 7 "picks_between" ["good", "bad"] (spPicks (w := w) L))
    (GBelow : ∀ L, Df P w K mg base 2 "_law_all_below" ["_law_row"] (spLBelow (w := w) L)) (GBad : ∀ L, Df P w K mg base 1 "_law_bad" ["_law_part", "_law_cause"] (spIsBad L))
    (GRight : ∀ L, Df P w K mg base 11 "plan_right" ["causes", "tests", "tree"] (spRight L 10)) : FnOk P w K mg base CX0 16 f fd ["_law_script"] (spLaw (K := K) Pt) := by
  refine FunD.ok F scLaw (fun vs H Q E h => ?_) (fun cdv A outer s H vs Q E hr h => ?_)
  · obtain ⟨a, ns, rfl, _⟩ := h
    rfl
  · obtain ⟨a, ns, rfl, ha, hz, htb, k⟩ := h
    have nd := scLaw.nd
    have sl := sizeLine_eq
    have hu := hr.units
    have hu2 : (A.deeper (envOfC "law" (defScope sLaw) s.heap.objs.size f cdv)).units + 65 < cLine := by
      have := hr.un
      omega
    refine ⟨_, PSs.nox (pss_cons (ps_set (i := 1) nd rfl (Or.inl rfl) (pe_df GState (hr.mono (by decide)) (by rfl) (pa_cons (pv 0) pa_nil)))
      (pss_cons (ps_asg (pe_df GPatch (hr.mono (by decide)) (by rfl) (pa_cons (pv 1) (pa_cons pe_int pa_nil))) (pg_tup (by rfl) (pgs_cons (pg_name (i := 2) nd rfl (Or.inl rfl)) (pgs_cons (pg_name (i := 3) nd rfl (Or.inl rfl)) (pgs_cons (pg_name (i := 4) nd rfl (Or.inl rfl)) pgs_nil)))))
      (pss_any fun L => pss_cons (ps_asg (pe_df (GBetw L) (hr.mono (by decide)) (by rfl) (pa_cons (pv 1) (pa_cons (pv 3) (pa_cons pe_int pa_nil)))) (pg_tup (by rfl) (pgs_cons (pg_name (i := 5) nd rfl (Or.inr rfl)) (pgs_cons (pg_name (i := 6) nd rfl (Or.inr rfl)) pgs_nil))))
      (pss_cons (ps_set (i := 7) nd rfl (Or.inl rfl) (pe_df (GDict L) (hr.mono (by decide)) (by rfl) (pa_cons (pv 3) pa_nil)))
      (pss_cons (ps_set (i := 8) nd rfl (Or.inl rfl) (pe_df (GDict L) (hr.mono (by decide)) (by rfl) (pa_cons (pe_lc (own := [("_law_patch", 19)]) (g := gName 19) rfl nd (pi_list (pv 3))
          (blkOk_by (own := [("_law_patch", 19)]) (N := lawN) (sc := defScope sLaw) (by decide +kernel)) (fun _ _ _ _ _ => pg_name (i := 19) nd rfl (Or.inl rfl))
          (fun _ _ _ _ _ => pts_one (pt_cmpR (op_inEK (K := K) rfl hu2 (idC L).toCode) (pe_ix (ixK K rfl) (pv 19) pe_int (fun _ _ => rfl)) (pv 5) rfl)) (fun _ _ _ _ _ => pv 19)) pa_nil)))
      (pss_cons (ps_set (i := 9) nd rfl (Or.inl rfl) (pe_df (GCaus L) (hr.mono (by decide)) (by rfl) (pa_cons (pv 8) (pa_cons (pv 7) (pa_cons pe_int pa_nil)))))
      (pss_cons (ps_set (i := 10) nd rfl (Or.inl rfl) pe_int)
      (pss_cons (ps_while PassesOwn.never (pt_cmpR op_lt (pe_op op_shl pe_int (pv 10)) (pe_callB call_len (by rfl) B.len boot_len (pa_cons (pv 6) pa_nil)) (nomark _)) (pss_one (ps_set (i := 10) nd rfl (Or.inl rfl) (pe_op op_add (pv 10) pe_int))))
      (pss_cons (ps_set (i := 11) nd rfl (Or.inl rfl) (pe_df (GParts L) (hr.mono (by decide)) (by rfl) (pa_cons (pv 8) (pa_cons (pv 7) pa_nil))))
      (pss_cons (ps_if (pt_cmpR op_ne (pe_df GDepth (hr.mono (by decide)) (by rfl) (pa_cons (pe_df (GPlan L) hr (by rfl) (pa_cons (pv 9) (pa_cons (pv 11) pa_nil))) pa_nil)) (pv 10) (nomark _)) (pss_one (ps_ret pe_bl)) pss_nil)
      (pss_cons (ps_set (i := 12) nd rfl (Or.inl rfl) (pe_df (GPicks L) (hr.mono (by decide)) (by rfl) (pa_cons (pv 8) (pa_cons (pv 7) pa_nil))))
      (pss_cons (ps_set (i := 13) nd rfl (Or.inl rfl) (pe_df GDepth (hr.mono (by decide)) (by rfl) (pa_cons (pe_df (GPlan L) hr (by rfl) (pa_cons (pv 9) (pa_cons (pv 12) pa_nil))) pa_nil)))
      (pss_cons (ps_set (i := 14) nd rfl (Or.inr rfl) (pe_df (GBelow L) (hr.mono (by decide)) (by rfl) (pa_cons (pv 3) pa_nil)))
      (pss_cons (ps_setLc (i := 15) (own := [("_law_name", 20)]) (g := gName 20) rfl nd rfl rfl (sw_true rfl rfl rfl (by decide +kernel)) (pi_list (pv 6))
          (blkOk_by (own := [("_law_name", 20)]) (N := lawN) (sc := defScope sLaw) (by decide +kernel)) (fun _ _ _ _ _ => pg_name (i := 20) nd rfl (Or.inl rfl))
          (fun _ _ _ _ _ => pts_one (pt_cmpR op_gt (pe_callB (call_lenK K rfl) (by rfl) B.len boot_len (pa_cons (pe_lc (own := [("_law_one", 21)]) (g := gName 21) rfl nd (pi_listK K rfl (pe_ngetW (w := w) rfl (idC L).toTCode hu (pv 14) (pv 20) (fun _ _ => rfl)))
              (blkOk_by (own := [("_law_one", 21)]) (N := lawN) (by rfl)) (fun _ _ _ _ _ => pg_name (i := 21) nd rfl (Or.inl rfl))
              (fun _ _ _ _ _ => pts_one (pt_cmpR (op_inEK (K := K) rfl hu2 (idC L).toCode) (pv 21) (pv 6) rfl)) (fun _ _ _ _ _ => pv 21)) pa_nil)) pe_int (nomark _))) (fun _ _ _ _ _ => pv 20))
      (pss_cons (ps_if (PW.pt (pw_or (pt_cmpR op_lt (pv 13) (pv 10) (nomark _)) (pw_or1 (PW.pt (pw_and (pt_cmpR op_eq (pe_callB call_len (by rfl) B.len boot_len (pa_cons (pv 15) pa_nil)) pe_int (nomark _)) (pw_and (pt_cmpR op_gt (pe_callB call_len (by rfl) B.len boot_len (pa_cons (pv 6) pa_nil)) pe_int (nomark _))
          (pw_and1 (pt_cmpR op_ne (pv 13) (pe_op op_sub (pe_callB call_len (by rfl) B.len boot_len (pa_cons (pv 6) pa_nil)) pe_int) (nomark _))))))))) (pss_one (ps_ret pe_bl)) pss_nil)
      (pss_cons (ps_set (i := 16) nd rfl (Or.inr rfl) (pe_df (GCaus L) (hr.mono (by decide)) (by rfl) (pa_cons (pv 8) (pa_cons (pv 7) (pa_cons pe_int pa_nil)))))
      (pss_cons (ps_for PassesOwn.never rfl (pi_range1 (by rfl) B.range (pa_cons (pe_callB call_len (by rfl) B.len boot_len (pa_cons (pv 16) pa_nil)) pa_nil)) (pg_name (i := 17) nd rfl (Or.inr rfl))
        (pss_one (ps_for PassesOwn.never rfl (pi_list (pe_slice sl_list (pv 16) po_none (po_some (pv 17)))) (pg_name (i := 18) nd rfl (Or.inr rfl))
          (pss_one (ps_if (pt_cmpR op_eq (pe_callB call_len (by rfl) B.len boot_len (pa_cons (pe_lc (own := [("_law_test", 22)]) (g := gName 22) rfl nd (pi_list (pv 11))
              (blkOk_by (own := [("_law_test", 22)]) (N := lawN) (sc := defScope sLaw) (by decide +kernel)) (fun _ _ _ _ _ => pg_name (i := 22) nd rfl (Or.inl rfl))
              (fun _ _ _ _ _ => pts_one (pt_cmpR op_ne (pe_df (GBad L) (hr.mono (by decide)) (by rfl) (pa_cons (pv 22) (pa_cons (pe_ix (ixKL K rfl) (pv 16) (pv 17) (fun _ _ => rfl)) pa_nil))) (pe_df (GBad L) (hr.mono (by decide)) (by rfl) (pa_cons (pv 22) (pa_cons (pv 18) pa_nil))) (nomark _)))
              (fun _ _ _ _ _ => pv 22)) pa_nil)) pe_int (nomark _)) (pss_one (ps_ret pe_bl)) pss_nil)))))
      (pss_one (ps_ret (pe_cmpR op_is_bl (pe_df (GRight L) (hr.mono (by decide)) (by rfl) (pa_cons (pv 9) (pa_cons (pv 12) (pa_cons (pe_df (GPlan L) hr (by rfl) (pa_cons (pv 9) (pa_cons (pv 12) pa_nil))) pa_nil)))) pe_bl (nomark _))))))))))))))))))))), ?_⟩
    -- the state, the row
    refine ⟨_, rfl, a, ns, rfl, ha, hz, fun S C H1 s1 st1 nS nC => ?_⟩
    have T0 : LamX.Tabs [(Pt, qLam)] H := fun p hp => by
      rw [List.mem_singleton] at hp
      rw [hp]
      exact LamX.TabS.nil htb
    have T1 := tabs_same (same_msk0 s1 nS nC) T0
    refine ⟨_, rfl, S, C, 9, rfl, st1, by decide, by decide, fun r L la ro so ps H2 s2 st2 hr2 hrow rok pl => ?_⟩
    refine ⟨r, _, rfl, SqT.of (msk_same _ _ hr2), rfl, _, _, rfl, _, _, rfl, _, _, rfl, rfl, ⟨L, ?_⟩⟩
    refine ⟨_, rfl, _, rfl, S, C, ro, 6, ps, rfl, st2, hrow, rok, pl, by decide, fun r3 ga fa gs fs H3 s3 st3 hr3 hga hfa gok pmf fle => ?_⟩
    refine ⟨r3, _, rfl, SqT.of (msk_same _ _ hr3), rfl, _, _, rfl, _, _, rfl, rfl, ?_⟩
    have row3 := (hrow.same s3).same (msk_same (S := S) (C := C) (H := H3))
    have ga3 := hga.same (msk_same (S := S) (C := C) (H := H3))
    have fa3 := hfa.same (msk_same (S := S) (C := C) (H := H3))
    have T3 := tabs_same (msk_same (S := S) (C := C) (H := H3)) (tabs_same (s2.trans s3) T1)
    clear hrow hga hfa hr2 hr3 s2 s3 st2 st3 st1 T1 T0
    have fl6 : fs.length ≤ 6 := by omega
    have W := rok.wok pl
    -- the dicts
    refine ⟨_, rfl, ro, ps, rfl, row3, rok.nodup, pl, fun wd H4 s4 nwd hw => ?_⟩
    obtain ⟨rvs, hro4, hrp4⟩ := row3.same s4
    have rl : rvs.length = ps.length := Paired.length hrp4
    obtain ⟨gvs, hgv4, gev4⟩ := ga3.same s4
    have zl : (rvs.zip ps).length = rvs.length := by rw [List.length_zip, rl, Nat.min_self]
    refine ⟨_, rfl, ro, rfl, ⟨_, SqL.of hro4⟩, fun D nD => lc_accL (xs := rvs) nD (RelF (rvs.zip ps) (fun q => decide (q.2.id ∈ gs)) (·.1)) RelF.mono RelF.zero (by omega) (fun H' s' => SqL.of (s' _ _ hro4)) ?_ ?_⟩
    · rintro i x H5 acc C5 N5 hi he s5 hD hl r5 hC hN
      obtain ⟨p, hp, hpa⟩ := pget hrp4 he
      have hzp : (rvs.zip ps)[i]? = some (x, p) := by
        rw [List.getElem?_zip_eq_some]
        exact ⟨he, hp⟩
      obtain ⟨a5, iv', cl, nt, cvs, rfl, ha5, hid5, _⟩ := hpa.same s5
      refine ⟨rfl, _, rfl, _, _, _, _, rfl, rfl, SqT.of ha5, atI_nat (j := 1) rfl, _, rfl, ga, gvs, gs, p.id, rfl, SqL.of (s5 _ _ hgv4), gev4.tk (Tk.of_same s5), hid5, _, rfl, iB (fun hb => ?_) (fun hb => ?_)⟩
      · exact ⟨_, rfl, hC _ _ (Same.refl _) (r5.yes hzp (by simpa using hb) rfl)⟩
      · exact hN _ (Same.refl _) (r5.no hzp (by simpa using hb))
    intro H5 acc5 s5 hD5 hl5 r5
    have e5 := r5.all zl.symm
    have hpp5 : Paired (PaAt L H5) acc5 (ps.filter fun p => decide (p.id ∈ gs)) := by
      rw [e5, ← zip_filt (fun p : Pa => decide (p.id ∈ gs)) hrp4]
      exact zip_fst_snd fun q hq => (zip_all hrp4 q (List.mem_filter.mp hq).1).same s5
    generalize hgps : (ps.filter fun p => decide (p.id ∈ gs)) = gps at hpp5
    have hidg : ∀ i ∈ ids ps, (i ∈ ids gps ↔ i ∈ gs) := fun i hi => by
      rw [← hgps]
      unfold ids
      constructor
      · intro h
        obtain ⟨p, hp, rfl⟩ := List.mem_map.mp h
        exact of_decide_eq_true (List.mem_filter.mp hp).2
      · intro h
        obtain ⟨p, hp, rfl⟩ := List.mem_map.mp hi
        exact List.mem_map.mpr ⟨p, List.mem_filter.mpr ⟨hp, decide_eq_true h⟩, rfl⟩
    have ndg : (ids gps).Nodup := by
      rw [← hgps]
      exact List.Sublist.nodup ((List.filter_sublist (l := ps)).map _) rok.nodup
    have lg : gps.length ≤ 9 := by
      rw [← hgps]
      exact Nat.le_trans (List.length_filter_le _ _) pl
    refine ⟨D, gps, rfl, ⟨acc5, hD5, hpp5⟩, ndg, lg, fun pd H6 s6 npd hp6 => ?_⟩
    have hw6 := (hw.same s5).same s6
    have pw : pd ≠ wd := fun e => by
      obtain ⟨kvs, g, _⟩ := hw.same s5
      rw [e] at npd
      exact g.some_ npd
    have Two6 : TwoAt w L H6 pd wd gps ps := ⟨hp6, hw6, pw, W⟩
    have hfr : fresh gps ps = left ps gs := by
      unfold fresh left
      refine List.filter_congr fun i hi => ?_
      rw [Bool.eq_iff_iff, decide_eq_true_eq, decide_eq_true_eq, hidg i hi]
    rw [← hfr] at pmf
    have S36 := s4.trans (s5.trans s6)
    -- the causes
    refine ⟨_, rfl, _, rfl, pd, wd, 1, gps, ps, rfl, Two6, fun ca H7 ns css s7 nca hca pmn h1 hcs => ?_⟩
    have e1 : css = ones ns := h1 (by decide)
    subst e1
    obtain ⟨cv, hcv7, hcp7⟩ := hca
    have LL7 : LL H7 (idK L) ca cv (ones ns) := ⟨hcv7, hcp7⟩
    have nl : ns.length = fs.length := by rw [pmn.length_eq, pmf.length_eq]
    have n9 : ns.length ≤ 9 := by omega
    have ones1 : ∀ c ∈ ones ns, c.length ≤ 1000 := fun c hc => by
      obtain ⟨x, _, rfl⟩ := List.mem_map.mp hc
      show 1 ≤ 1000
      decide
    have S37 := S36.trans s7
    obtain ⟨fv, hfv7, fev7⟩ := fa3.same S37
    have fvl := fev7.length
    -- halves
    refine ⟨fun m σ H' => H' = H7 ∧ ∃ (h : Nat) (z : Int), z = (h : Nat) ∧ σ = [some (.ref a), some (.ref S), some la, some (.ref ro), some so, some (.ref ga), some (.ref fa), some (.ref wd), some (.ref pd), some (.ref ca), some (.int z), none, none, none, none, none, none, none, none, none, none, none, none] ∧ (h = 0 ∨ 2 ^ (h - 1) < fs.length) ∧ fs.length ≤ m + h, ⟨fs.length, rfl, 0, 0, rfl, rfl, .inl rfl, by simp⟩, ?_⟩
    rintro m σ H' ⟨rfl, h, z, hz0, rfl, hh, hm⟩
    have hsmall : h ≤ 10 := by
      rcases hh with q | q
      · omega
      · have := Nat.lt_two_pow_self (n := h - 1)
        omega
    have ez : (1 : Int) * 2 ^ z.toNat = ((2 ^ h : Nat) : Int) := by
      rw [hz0, Int.toNat_natCast, Int.one_mul, Int.natCast_pow]
      rfl
    refine ⟨_, rfl, 1, z, rfl, rfl, ⟨by omega, by omega, by decide⟩, _, rfl, _, _, rfl, .inl ⟨_, SqL.of hfv7, rfl⟩, _, _, rfl, rfl, _, rfl, ?_⟩
    refine iB (fun hb => ?_) (fun hb => ?_)
    · have hb : (1 : Int) * 2 ^ z.toNat < ((fv.length : Nat) : Int) := of_decide_eq_true hb
      rw [ez] at hb
      have hb2 : 2 ^ h < fs.length := by omega
      have hlt := Nat.lt_two_pow_self (n := h)
      refine ⟨fun σ H'' => H'' = H' ∧ ∃ (h : Nat) (z : Int), z = (h : Nat) ∧ σ = [some (.ref a), some (.ref S), some la, some (.ref ro), some so, some (.ref ga), some (.ref fa), some (.ref wd), some (.ref pd), some (.ref ca), some (.int z), none, none, none, none, none, none, none, none, none, none, none, none] ∧ (h = 0 ∨ 2 ^ (h - 1) < fs.length) ∧ fs.length ≤ (m - 1) + h, fun σ' H'' q => ⟨m - 1, by omega, q⟩, ?_⟩
      exact ⟨_, rfl, z, 1, rfl, rfl, rfl, h + 1, z + 1, by omega, rfl, .inr hb2, by omega⟩
    have hb : ¬ (1 : Int) * 2 ^ z.toNat < ((fv.length : Nat) : Int) := of_decide_eq_false hb
    rw [ez] at hb
    have hb2 : ns.length ≤ 2 ^ h := by omega
    have hh2 : h = 0 ∨ 2 ^ (h - 1) < ns.length := by rw [nl]; exact hh
    clear hb ez hm
    -- all tests
    refine ⟨_, rfl, _, rfl, pd, wd, gps, ps, rfl, Two6.same s7, tabs_same S37 T3, fun ta H8 tss e8 T8 hta tok => ?_⟩
    have Two8 := (Two6.same s7).ext e8
    have LL8 := LL7.ext e8
    have row8 := (row3.same S37).ext e8
    have hfv8 := ext_lst e8 hfv7
    have fev8 := fev7.tk (ext_tk e8)
    have tl : tss.length ≤ 1000 := by
      have := tok.few
      omega
    have dt := dep_tests rok pmn tok n9 hb2 hh2
    have hg1 : hgt (planOf tss (ones ns)) < 10 := by
      unfold planOf
      refine hgt_lt 10 _ ?_
      rw [List.length_range, ones_len]
      omega
    refine ⟨_, rfl, _, rfl, ca, ta, cv, ones ns, tss, rfl, LL8, hta, by rw [ones_len]; exact n9, ones1, tl, fun v9 H9 s9 t9 => ⟨v9, cv, _, rfl, t9, hg1, ?_⟩⟩
    refine ⟨_, rfl, rfl, _, rfl, iF ?_ ?_⟩
    · rw [dt]
      show (!decide (V.int (h : Nat) = V.int z)) = false
      rw [hz0]
      simp
    -- the picks
    refine ⟨_, rfl, _, rfl, pd, wd, gps, ps, rfl, Two8.same s9, fun pa H10 ms xss s10 npa hpa pm2 hpk => ?_⟩
    have ml : ms.length ≤ 9 := by
      rw [pm2.length_eq, ← pmn.length_eq]
      exact n9
    have xl : xss.length ≤ 9 := by
      rw [← Paired.length hpk]
      exact ml
    have S810 := s9.trans s10
    have hg2 : hgt (planOf xss (ones ns)) < 10 := by
      unfold planOf
      refine hgt_lt 10 _ ?_
      rw [List.length_range, ones_len]
      omega
    refine ⟨_, rfl, _, rfl, ca, pa, cv, ones ns, xss, rfl, LL8.same S810, hpa, by rw [ones_len]; exact n9, ones1, by omega, fun v11 H11 s11 t11 => ⟨v11, cv, _, rfl, t11, hg2, ?_⟩⟩
    have S811 := S810.trans s11
    -- below
    refine ⟨_, rfl, ro, ps, rfl, row8.same S811, rok, pl, fun bd H12 s12 nbd hbl => ?_⟩
    obtain ⟨kvs, gB, hB⟩ := hbl
    have S812 := S811.trans s12
    have hfv12 := S812 _ _ hfv8
    have fev12 := fev8.tk (Tk.of_same S812)
    have memF : ∀ {x}, x ∈ fs ↔ x ∈ fresh gps ps := fun {x} => pmf.mem_iff
    refine ⟨_, rfl, fa, rfl, ⟨_, SqL.of hfv12⟩, fun Dl nDl => lc_accL (xs := fv) nDl (fun _ acc i => acc = [] → ∀ n ∈ fs.take i, ∀ j ∈ fs, ¬ Rch ps n j) (fun _ _ _ _ _ _ q => q) (fun _ n hn => by simp at hn) (by omega) (fun H' s' => SqL.of (s' _ _ hfv12)) ?_ ?_⟩
    · rintro i x H13 acc C5 N5 hi he s13 hD hl r13 hC hN
      obtain ⟨n, hn, hnt⟩ := fev12.get (i := 0) he
      have hnf := List.mem_of_getElem? hn
      have hnI : n ∈ ids ps := (mem_fresh.mp (memF.mp hnf)).1
      obtain ⟨p, hp, hpid⟩ := List.mem_map.mp hnI
      obtain ⟨b, xs, hval, _, hbl, hbo⟩ := hB p hp
      have hpid : p.id = n := hpid
      rw [hpid] at hval hbo
      obtain ⟨bvs, hbv, bev⟩ := hbl.same s13
      have xlen := below_len W hbo hnI
      have bl := bev.length
      refine ⟨rfl, _, rfl, _, rfl, bd, kvs, n, _, rfl, (gB.same s13).r, TD.tk (Tk.of_same s13) _ _ hnt, hval, b, rfl, ⟨_, SqL.of hbv⟩, fun D2 nD2 => lc_accL (xs := bvs) nD2 (RelE (idK L) fun i => (xs.take i).filter fun j => decide (j ∈ fs)) RelE.mono RelE.zero (by omega) (fun H' s' => SqL.of (s' _ _ hbv)) ?_ ?_⟩
      · rintro i2 x2 H14 acc2 C6 N6 hi2 he2 s14 hD2 hl2 r2 hC2 hN2
        obtain ⟨j, hj, hjt⟩ := bev.get (i := 0) he2
        have hjt2 := TD.tk (Tk.of_same s14) _ _ hjt
        refine ⟨rfl, _, rfl, _, rfl, fa, fv, fs, j, rfl, SqL.of ((s13.trans s14) _ _ hfv12), fev12.tk (Tk.of_same (s13.trans s14)), hjt2, _, rfl, iB (fun hb => ?_) (fun hb => ?_)⟩
        · exact ⟨_, rfl, hC2 _ _ (Same.refl _) (r2.yes (Same.refl _) hj (by simpa using hb) hjt2)⟩
        · exact hN2 _ (Same.refl _) (r2.no (Same.refl _) hj (by simpa using hb))
      · intro H14 acc2 s14 hD2 hl2 r2
        have r2 := r2.all bl
        have al := r2.length
        refine ⟨_, _, rfl, .inl ⟨_, SqL.of hD2, rfl⟩, _, _, rfl, rfl, _, rfl, iB (fun hb => ?_) (fun hb => ?_)⟩
        · exact ⟨_, rfl, hC _ _ s14 fun q => by simp at q⟩
        · have hb := of_decide_eq_false hb
          refine hN _ s14 fun q n' hn' j hj rj => ?_
          rcases (mem_take_succ hn).mp hn' with z' | rfl
          · exact r13 q n' z' j hj rj
          · have ne : n' ≠ j := fun e => by
              have := rch_pos rok rj
              rw [e] at this
              omega
            have nd2 : [n', j].Nodup := by simp [ne]
            have := nodup_le nd2 (ys := xs.filter fun j => decide (j ∈ fs)) fun y hy => by
              rcases List.mem_cons.mp hy with rfl | hy
              · exact List.mem_filter.mpr ⟨(hbo.2 _).mpr (.inl rfl), decide_eq_true hnf⟩
              · rw [List.mem_singleton] at hy
                rw [hy]
                exact List.mem_filter.mpr ⟨(hbo.2 _).mpr (.inr rj), decide_eq_true hj⟩
            have : 2 ≤ acc2.length := by
              rw [al]
              exact this
            omega
    intro H13 lone s13 hD13 hl13 r13
    have S813 := S812.trans s13
    have hfv13 := S813 _ _ hfv8
    have dp := dep_picks rok pmn pm2 hpk n9 hh2
    have cl : cv.length = ns.length := by
      have := Paired.length LL8.2
      rwa [ones_len] at this
    refine ifs_ofG H13 ?_ (fun rest => ?_)
    rotate_left
    · refine ⟨_, rfl, _, rfl, _, _, rfl, rfl, _, rfl, iF (decide_eq_false (by rw [hz0]; omega)) ?_⟩
      refine ⟨_, rfl, _, _, rfl, .inl ⟨_, SqL.of hD13, rfl⟩, rfl, _, rfl, ?_⟩
      rw [dec_int]
      refine iB (fun hb3 => ?_) (fun hb3 => iF rfl rest)
      have hb3 := of_decide_eq_true hb3
      have l0 : lone = [] := List.length_eq_zero_iff.mp (by omega)
      refine ⟨_, rfl, _, _, rfl, .inl ⟨_, SqL.of hfv13, rfl⟩, _, _, rfl, rfl, _, rfl, iB (fun hb4 => ?_) (fun hb4 => iF rfl rest)⟩
      have hb4 := of_decide_eq_true hb4
      have hlone : ∀ a ∈ fresh gps ps, ∀ b ∈ fresh gps ps, ¬ Rch ps a b := fun x hx y hy => by
        have := r13 l0
        rw [fvl, List.take_length] at this
        exact this x (memF.mpr hx) y (memF.mpr hy)
      have dl := dep_lone rok pmn pm2 hpk n9 hlone (by omega)
      refine ⟨_, rfl, _, rfl, _, _, rfl, .inl ⟨_, SqL.of hfv13, rfl⟩, _, _, rfl, rfl, rfl, _, rfl, iF ?_ rest⟩
      rw [dl]
      show (!decide (V.int ((ns.length - 1 : Nat) : Int) = V.int (((fv.length : Nat) : Int) - 1))) = false
      rw [dec_int, decide_eq_true (by omega)]
      rfl
    -- the pairs
    refine ⟨_, rfl, _, rfl, pd, wd, 2, gps, ps, rfl, Two8.same S813, fun qa H14 ns2 qss s14 nqa hqa pm3 _ hcs2 => ?_⟩
    have S814 := S813.trans s14
    obtain ⟨qv, hqv, hqp⟩ := hqa
    have ql : qv.length = qss.length := Paired.length hqp
    obtain ⟨tv, htv, htp⟩ := hta.same S814
    have tvl : tv.length = tss.length := Paired.length htp
    have qsz : ∀ c ∈ qss, c.length ≤ 1000 := fun c hc => by
      have := (causes_anti rok pm3 hcs2 c hc).2
      omega
    have qlen : qss.length ≤ 100 := by
      obtain ⟨prs, pcs, e, hnd, hp⟩ := hcs2
      have n2 : ns2.length ≤ 9 := by
        rw [pm3.length_eq, ← pmn.length_eq]
        exact n9
      have lp := Paired.length hp
      have hpr : prs.length ≤ 81 := by
        have := nodup_le hnd (ys := (List.range 9).flatMap fun x => (List.range 9).map fun y => (x, y)) fun q hq => by
          obtain ⟨c, hc, ok⟩ := pget_meml hp hq
          obtain ⟨a, b, ha, hb, _⟩ := ok.ex
          have h1 := (List.getElem?_eq_some_iff.mp ha).1
          have h2 := (List.getElem?_eq_some_iff.mp hb).1
          exact List.mem_flatMap.mpr ⟨q.1, List.mem_range.mpr (by omega), List.mem_map.mpr ⟨q.2, List.mem_range.mpr (by omega), rfl⟩⟩
        exact Nat.le_trans this (by decide)
      rw [e, List.length_append, List.length_map]
      omega
    refine ⟨_, rfl, _, _, rfl, .inl ⟨_, SqL.of hqv, rfl⟩, _, rfl, by omega, by omega, for_range (lo := 0)
      (fun i σ H' => ∃ c17 c18 c19 c20 c21 c22, σ = [some (.ref a), some (.ref S), some la, some (.ref ro), some so, some (.ref ga), some (.ref fa), some (.ref wd), some (.ref pd), some (.ref ca), some (.int z), some (.ref ta), some (.ref pa), some (iv (dep (planOf xss (ones ns)))), some (.ref bd), some (.ref Dl), some (.ref qa), c17, c18, c19, c20, c21, c22] ∧ Same H14 H')
      ⟨_, _, _, _, _, _, rfl, Same.refl _⟩ ?_ ?_⟩
    · rintro i σ H15 hi ⟨c17, c18, c19, c20, c21, c22, rfl, s15⟩
      have hiq : i < qv.length := by omega
      have hqv15 := s15 _ _ hqv
      refine ⟨_, rfl, _, rfl, _, rfl, _, _, rfl, SqL.of hqv15, fun p np => ?_⟩
      have ecut : cutV qv none (some (0 + ((i : Nat) : Int))) = qv.take i := by
        rw [Int.zero_add]
        exact cut_to qv i (by omega)
      have hp : upd H15 p (.lst (cutV qv none (some (0 + ((i : Nat) : Int))))) p = some (.lst (qv.take i)) := by rw [upd_same, ecut]
      have s16 : Same H15 (upd H15 p (.lst (cutV qv none (some (0 + ((i : Nat) : Int)))))) := same_new np
      generalize upd H15 p (.lst (cutV qv none (some (0 + ((i : Nat) : Int))))) = H16 at hp s16
      obtain ⟨d, hd, a1, ea1, hd1⟩ := pget hqp (List.getElem?_eq_getElem hiq)
      refine ⟨p, rfl, ⟨_, SqL.of hp⟩, for_list (K := K) (a := p) (xs := qv.take i)
        (fun j σ H' => ∃ c18 c19 c20 c21 c22, σ = [some (.ref a), some (.ref S), some la, some (.ref ro), some so, some (.ref ga), some (.ref fa), some (.ref wd), some (.ref pd), some (.ref ca), some (.int z), some (.ref ta), some (.ref pa), some (iv (dep (planOf xss (ones ns)))), some (.ref bd), some (.ref Dl), some (.ref qa), some (.int (0 + (i : Nat))), c18, c19, c20, c21, c22] ∧ Same H16 H')
        ⟨_, _, _, _, _, rfl, Same.refl _⟩ (fun j σ H' _ ⟨_, _, _, _, _, _, s⟩ => SqL.of (s _ _ hp)) ?_ ?_⟩
      · rintro j y σ H17 hj ⟨c18, c19', c20', c21', c22', rfl, s17⟩
        have hji : j < i := by
          have := (List.getElem?_eq_some_iff.mp hj).1
          rw [List.length_take] at this
          omega
        have hj2 : qv[j]? = some y := by
          rw [List.getElem?_take] at hj
          rwa [if_pos hji] at hj
        obtain ⟨c, hc, b1, rfl, hb1⟩ := pget hqp hj2
        have S17 := s15.trans (s16.trans s17)
        obtain ⟨t0, ht0, hne⟩ := pairs_apart rok pm3 tok hcs2 hji hc hd
        have htv17 := S17 _ _ htv
        refine ⟨_, rfl, ta, rfl, ⟨_, SqL.of htv17⟩, fun D9 nD9 => lc_accL (xs := tv) nD9 (fun _ acc i => acc = [] → ∀ t ∈ tss.take i, bad t d = bad t c) (fun _ _ _ _ _ _ q => q) (fun _ t ht => by simp at ht) (by omega) (fun H' s' => SqL.of (s' _ _ htv17)) ?_ ?_⟩
        · rintro i9 x H18 acc C5 N5 hi9 he s18 hD hl r18 hC hN
          obtain ⟨t, ht, t1, rfl, htl⟩ := pget htp he
          have S18 := S17.trans s18
          have hat : atI qv (0 + ((i : Nat) : Int)) = some (.ref a1) := by
            rw [Int.zero_add, ← ea1]
            exact atI_nat (List.getElem?_eq_getElem hiq)
          refine ⟨rfl, _, rfl, _, rfl, _, rfl, _, _, _, _, rfl, rfl, SqL.of (S18 _ _ hqv), hat, t1, a1, t, d, rfl, htl.same S18, hd1.same S18, qsz d (List.mem_of_getElem? hd), fun H19 s19 => ?_⟩
          refine ⟨_, rfl, _, rfl, t1, b1, t, c, rfl, htl.same (S18.trans s19), hb1.same (S18.trans s19), qsz c (List.mem_of_getElem? hc), fun H20 s20 => ⟨rfl, _, rfl, iB (fun hb => ?_) (fun hb => ?_)⟩⟩
          · exact ⟨_, rfl, hC _ _ (s19.trans s20) fun q => by simp at q⟩
          · refine hN _ (s19.trans s20) fun q t' ht' => ?_
            rcases (mem_take_succ ht).mp ht' with z' | rfl
            · exact r18 q t' z'
            · simpa using hb
        · intro H18 acc s18 hD hl r18
          have hacc : acc ≠ [] := fun q => by
            have := r18 q
            rw [tvl, List.take_length] at this
            exact hne (this t0 ht0)
          have hpos := List.length_pos_iff.mpr hacc
          refine ⟨_, _, rfl, .inl ⟨_, SqL.of hD, rfl⟩, rfl, _, rfl, ?_⟩
          rw [dec_int]
          exact iF (decide_eq_false (by omega)) ⟨_, _, _, _, _, rfl, s17.trans s18⟩
      · rintro σ H17 ⟨c18, c19', c20', c21', c22', rfl, s17⟩
        exact ⟨_, _, _, _, _, _, rfl, s15.trans (s16.trans s17)⟩
    · rintro σ H15 ⟨c17, c18, c19, c20, c21, c22, rfl, s15⟩
      have S815 := S814.trans s15
      have S1015 := ((s11.trans s12).trans s13).trans (s14.trans s15)
      refine ⟨_, rfl, _, rfl, _, rfl, _, rfl, ca, pa, cv, ones ns, xss, rfl, LL8.same S815, hpa.same S1015, by rw [ones_len]; exact n9, ones1, by omega, fun v16 H16 s16 t16 => ?_⟩
      have LL16 := LL8.same (S815.trans s16)
      have hgrp : grp cv (List.range (ones ns).length) = cv := by
        rw [ones_len, ← cl]
        exact grp_all cv
      refine ⟨ca, ca, pa, v16, cv, ones ns, xss, List.range (ones ns).length, 10, rfl, by rw [hgrp]; exact LL16.1, LL16, (hpa.same S1015).same s16, fun q hq => List.mem_range.mp hq, by rw [List.length_range, ones_len]; omega, ones1, by omega, by rw [List.length_range, ones_len]; omega, by rw [List.length_range, ones_len]; omega, t16, fun H17 s17 => ?_⟩
      exact ⟨true, true, rfl, rfl, k H17⟩
end
end K97
set_option Elab.async false
set_option linter.all false
set_option maxRecDepth 100000
set_option maxHeartbeats 0
/-! The head: the top by one kernel run. -/
namespace K97
open PySem L2
abbrev rowO : PySem.W.OpenRow := PySem.W.OpenLaw.row PySem.Challenge.rw_quiltward_k97_whole_halving
abbrev hk : PySem.W.Hook := He.hookX 6 fas fns [] [("parts_between", none)] (fun _ => true)
def ob (s : PySem.W.SharedT) : He.AlX := He.obsX 6 fas fns [] [("parts_between", none)] (fun _ => true) (HandSHeadRun.getT s)
theorem ob_eq (s : PySem.W.SharedT) : ob s = hk.obs s.abs := He.obsX_eq (HandSHeadRun.getT_eq s)
theorem run (w : World) : HandSHeadRun.RunEq rowO (PySem.W.view rowO.prog [39]) hk ob 4000 loose w := by
  intro os
  kernel_rfl
end K97
set_option Elab.async false
set_option linter.all false
set_option maxRecDepth 100000
set_option maxHeartbeats 4000000
/-! The end. -/
namespace K97
open PySem PySem.Spec PyProof.Rows L2
section
variable {w : World} {K : PySem.W.Frag} {h : Heap} {mg : Str → Option Value}
abbrev Sx (w : World) (h : Heap) (K : PySem.W.Frag) : Prop := He.SaysX fas fns [] [("parts_between", none)] (fun _ => true) w h K
theorem at_FileOf (X : K.In h) (G : h.Ns mainGlobals mg) (c : Sx w h K) : At K mg "file_of" sFileOf := by
  obtain ⟨fd, F⟩ := c.t.d.def_ 0 (d := dFileOf) rfl
  exact ⟨_, fd, F, He.glo_ok X G (c.t.d.fact 0 (f := .glo "file_of") rfl)⟩
theorem at_LinesOf (X : K.In h) (G : h.Ns mainGlobals mg) (c : Sx w h K) : At K mg "lines_of" sLinesOf := by
  obtain ⟨fd, F⟩ := c.t.d.def_ 1 (d := dLinesOf) rfl
  exact ⟨_, fd, F, He.glo_ok X G (c.t.d.fact 1 (f := .glo "lines_of") rfl)⟩
theorem at_OldsOf (X : K.In h) (G : h.Ns mainGlobals mg) (c : Sx w h K) : At K mg "olds_of" sOldsOf := by
  obtain ⟨fd, F⟩ := c.t.d.def_ 2 (d := dOldsOf) rfl
  exact ⟨_, fd, F, He.glo_ok X G (c.t.d.fact 2 (f := .glo "olds_of") rfl)⟩
theorem at_VerticesOf (X : K.In h) (G : h.Ns mainGlobals mg) (c : Sx w h K) : At K mg "vertices_of" sVerticesOf := by
  obtain ⟨fd, F⟩ := c.t.d.def_ 3 (d := dVerticesOf) rfl
  exact ⟨_, fd, F, He.glo_ok X G (c.t.d.fact 3 (f := .glo "vertices_of") rfl)⟩
theorem at_VertexNeeds (X : K.In h) (G : h.Ns mainGlobals mg) (c : Sx w h K) : At K mg "vertex_needs" sVertexNeeds := by
  obtain ⟨fd, F⟩ := c.t.d.def_ 4 (d := dVertexNeeds) rfl
  exact ⟨_, fd, F, He.glo_ok X G (c.t.d.fact 4 (f := .glo "vertex_needs") rfl)⟩
theorem at_Backs (X : K.In h) (G : h.Ns mainGlobals mg) (c : Sx w h K) : At K mg "backs" sBacks := by
  obtain ⟨fd, F⟩ := c.t.d.def_ 5 (d := dBacks) rfl
  exact ⟨_, fd, F, He.glo_ok X G (c.t.d.fact 5 (f := .glo "backs") rfl)⟩
theorem at_Needs (X : K.In h) (G : h.Ns mainGlobals mg) (c : Sx w h K) : At K mg "needs" sNeeds := by
  obtain ⟨fd, F⟩ := c.t.d.def_ 6 (d := dNeeds) rfl
  exact ⟨_, fd, F, He.glo_ok X G (c.t.d.fact 6 (f := .glo "needs") rfl)⟩
theorem at_AllNeeds (X : K.In h) (G : h.Ns mainGlobals mg) (c : Sx w h K) : At K mg "all_needs" sAllNeeds := by
  obtain ⟨fd, F⟩ := c.t.d.def_ 7 (d := dAllNeeds) rfl
  exact ⟨_, fd, F, He.glo_ok X G (c.t.d.fact 7 (f := .glo "all_needs") rfl)⟩
theorem at_NewIds (X : K.In h) (G : h.Ns mainGlobals mg) (c : Sx w h K) : At K mg "new_ids" sNewIds := by
  obtain ⟨fd, F⟩ := c.t.d.def_ 8 (d := dNewIds) rfl
  exact ⟨_, fd, F, He.glo_ok X G (c.t.d.fact 8 (f := .glo "new_ids") rfl)⟩
theorem at_NeededNew (X : K.In h) (G : h.Ns mainGlobals mg) (c : Sx w h K) : At K mg "needed_new" sNeededNew := by
  obtain ⟨fd, F⟩ := c.t.d.def_ 9 (d := dNeededNew) rfl
  exact ⟨_, fd, F, He.glo_ok X G (c.t.d.fact 9 (f := .glo "needed_new") rfl)⟩
theorem at_PicksBetween (X : K.In h) (G : h.Ns mainGlobals mg) (c : Sx w h K) : At K mg "picks_between" sPicksBetween := by
  obtain ⟨fd, F⟩ := c.t.d.def_ 10 (d := dPicksBetween) rfl
  exact ⟨_, fd, F, He.glo_ok X G (c.t.d.fact 10 (f := .glo "picks_between") rfl)⟩
theorem at_PartsBetween (X : K.In h) (G : h.Ns mainGlobals mg) (c : Sx w h K) : At K mg "parts_between" sPartsBetween := by
  obtain ⟨fd, F⟩ := c.t.d.def_ 11 (d := dPartsBetween) rfl
  exact ⟨_, fd, F, He.glo_ok X G (c.t.d.fact 11 (f := .glo "parts_between") rfl)⟩
theorem at_CausesBetween (X : K.In h) (G : h.Ns mainGlobals mg) (c : Sx w h K) : At K mg "causes_between" sCausesBetween := by
  obtain ⟨fd, F⟩ := c.t.d.def_ 12 (d := dCausesBetween) rfl
  exact ⟨_, fd, F, He.glo_ok X G (c.t.d.fact 12 (f := .glo "causes_between") rfl)⟩
theorem at_IsBad (X : K.In h) (G : h.Ns mainGlobals mg) (c : Sx w h K) : At K mg "is_bad" sIsBad := by
  obtain ⟨fd, F⟩ := c.t.d.def_ 13 (d := dIsBad) rfl
  exact ⟨_, fd, F, He.glo_ok X G (c.t.d.fact 13 (f := .glo "is_bad") rfl)⟩
theorem at_Marks (X : K.In h) (G : h.Ns mainGlobals mg) (c : Sx w h K) : At K mg "marks" sMarks := by
  obtain ⟨fd, F⟩ := c.t.d.def_ 14 (d := dMarks) rfl
  exact ⟨_, fd, F, He.glo_ok X G (c.t.d.fact 14 (f := .glo "marks") rfl)⟩
theorem at_Plan (X : K.In h) (G : h.Ns mainGlobals mg) (c : Sx w h K) : At K mg "plan" sPlan := by
  obtain ⟨fd, F⟩ := c.t.d.def_ 15 (d := dPlan) rfl
  exact ⟨_, fd, F, He.glo_ok X G (c.t.d.fact 15 (f := .glo "plan") rfl)⟩
theorem at_PlanFor (X : K.In h) (G : h.Ns mainGlobals mg) (c : Sx w h K) : At K mg "plan_for" sPlanFor := by
  obtain ⟨fd, F⟩ := c.t.d.def_ 16 (d := dPlanFor) rfl
  exact ⟨_, fd, F, He.glo_ok X G (c.t.d.fact 16 (f := .glo "plan_for") rfl)⟩
theorem at_Depth (X : K.In h) (G : h.Ns mainGlobals mg) (c : Sx w h K) : At K mg "depth" sDepth := by
  obtain ⟨fd, F⟩ := c.t.d.def_ 17 (d := dDepth) rfl
  exact ⟨_, fd, F, He.glo_ok X G (c.t.d.fact 17 (f := .glo "depth") rfl)⟩
theorem at_PlanRight (X : K.In h) (G : h.Ns mainGlobals mg) (c : Sx w h K) : At K mg "plan_right" sPlanRight := by
  obtain ⟨fd, F⟩ := c.t.d.def_ 18 (d := dPlanRight) rfl
  exact ⟨_, fd, F, He.glo_ok X G (c.t.d.fact 18 (f := .glo "plan_right") rfl)⟩
theorem at_LState (X : K.In h) (G : h.Ns mainGlobals mg) (c : Sx w h K) : At K mg "_law_state" sLState := by
  obtain ⟨fd, F⟩ := c.t.d.def_ 19 (d := dLState) rfl
  exact ⟨_, fd, F, He.glo_ok X G (c.t.d.fact 19 (f := .glo "_law_state") rfl)⟩
theorem at_LDraw (X : K.In h) (G : h.Ns mainGlobals mg) (c : Sx w h K) : At K mg "_law_draw" sLDraw := by
  obtain ⟨fd, F⟩ := c.t.d.def_ 20 (d := dLDraw) rfl
  exact ⟨_, fd, F, He.glo_ok X G (c.t.d.fact 20 (f := .glo "_law_draw") rfl)⟩
theorem at_LPick (X : K.In h) (G : h.Ns mainGlobals mg) (c : Sx w h K) : At K mg "_law_pick" sLPick := by
  obtain ⟨fd, F⟩ := c.t.d.def_ 21 (d := dLPick) rfl
  exact ⟨_, fd, F, He.glo_ok X G (c.t.d.fact 21 (f := .glo "_law_pick") rfl)⟩
theorem at_LSome (X : K.In h) (G : h.Ns mainGlobals mg) (c : Sx w h K) : At K mg "_law_some" sLSome := by
  obtain ⟨fd, F⟩ := c.t.d.def_ 22 (d := dLSome) rfl
  exact ⟨_, fd, F, He.glo_ok X G (c.t.d.fact 22 (f := .glo "_law_some") rfl)⟩
theorem at_LPath (X : K.In h) (G : h.Ns mainGlobals mg) (c : Sx w h K) : At K mg "_law_path" sLPath := by
  obtain ⟨fd, F⟩ := c.t.d.def_ 23 (d := dLPath) rfl
  exact ⟨_, fd, F, He.glo_ok X G (c.t.d.fact 23 (f := .glo "_law_path") rfl)⟩
theorem at_LChange (X : K.In h) (G : h.Ns mainGlobals mg) (c : Sx w h K) : At K mg "_law_change" sLChange := by
  obtain ⟨fd, F⟩ := c.t.d.def_ 24 (d := dLChange) rfl
  exact ⟨_, fd, F, He.glo_ok X G (c.t.d.fact 24 (f := .glo "_law_change") rfl)⟩
theorem at_LPatchwork (X : K.In h) (G : h.Ns mainGlobals mg) (c : Sx w h K) : At K mg "_law_patchwork" sLPatchwork := by
  obtain ⟨fd, F⟩ := c.t.d.def_ 25 (d := dLPatchwork) rfl
  exact ⟨_, fd, F, He.glo_ok X G (c.t.d.fact 25 (f := .glo "_law_patchwork") rfl)⟩
theorem at_LNeeds (X : K.In h) (G : h.Ns mainGlobals mg) (c : Sx w h K) : At K mg "_law_needs" sLNeeds := by
  obtain ⟨fd, F⟩ := c.t.d.def_ 26 (d := dLNeeds) rfl
  exact ⟨_, fd, F, He.glo_ok X G (c.t.d.fact 26 (f := .glo "_law_needs") rfl)⟩
theorem at_LDict (X : K.In h) (G : h.Ns mainGlobals mg) (c : Sx w h K) : At K mg "_law_dict" sLDict := by
  obtain ⟨fd, F⟩ := c.t.d.def_ 27 (d := dLDict) rfl
  exact ⟨_, fd, F, He.glo_ok X G (c.t.d.fact 27 (f := .glo "_law_dict") rfl)⟩
theorem at_LAllBelow (X : K.In h) (G : h.Ns mainGlobals mg) (c : Sx w h K) : At K mg "_law_all_below" sLAllBelow := by
  obtain ⟨fd, F⟩ := c.t.d.def_ 28 (d := dLAllBelow) rfl
  exact ⟨_, fd, F, He.glo_ok X G (c.t.d.fact 28 (f := .glo "_law_all_below") rfl)⟩
theorem at_LBetween (X : K.In h) (G : h.Ns mainGlobals mg) (c : Sx w h K) : At K mg "_law_between" sLBetween := by
  obtain ⟨fd, F⟩ := c.t.d.def_ 29 (d := dLBetween) rfl
  exact ⟨_, fd, F, He.glo_ok X G (c.t.d.fact 29 (f := .glo "_law_between") rfl)⟩
theorem at_LBad (X : K.In h) (G : h.Ns mainGlobals mg) (c : Sx w h K) : At K mg "_law_bad" sLBad := by
  obtain ⟨fd, F⟩ := c.t.d.def_ 30 (d := dLBad) rfl
  exact ⟨_, fd, F, He.glo_ok X G (c.t.d.fact 30 (f := .glo "_law_bad") rfl)⟩
theorem at_Law (X : K.In h) (G : h.Ns mainGlobals mg) (c : Sx w h K) : At K mg "law" sLaw := by
  obtain ⟨fd, F⟩ := c.t.d.def_ 31 (d := dLaw) rfl
  exact ⟨_, fd, F, He.glo_ok X G (c.t.d.fact 31 (f := .glo "law") rfl)⟩
theorem bt (X : K.In h) (G : h.Ns mainGlobals mg) (c : Sx w h K) : Bt mg :=
  ⟨He.free_ok X G (c.t.d.fact 32 (f := .free "len") rfl), He.free_ok X G (c.t.d.fact 33 (f := .free "sorted") rfl), He.free_ok X G (c.t.d.fact 34 (f := .free "list") rfl), He.free_ok X G (c.t.d.fact 35 (f := .free "tuple") rfl), He.free_ok X G (c.t.d.fact 36 (f := .free "range") rfl), He.free_ok X G (c.t.d.fact 37 (f := .free "max") rfl), He.free_ok X G (c.t.d.fact 38 (f := .free "int") rfl), He.free_ok X G (c.t.d.fact 39 (f := .free "abs") rfl), He.free_ok X G (c.t.d.fact 40 (f := .free "isinstance") rfl)⟩
theorem plC (X : K.In h) (G : h.Ns mainGlobals mg) (c : Sx w h K) : Pl K mg (He.ga K "Planner") :=
  ⟨He.cls_ok (c.t.d.fact 42 (f := .cls "Planner") rfl), He.noat_ok (c.t.d.fact 43 (f := .noat "Planner" "rows") rfl), He.noat_ok (c.t.d.fact 44 (f := .noat "Planner" "known") rfl), He.glo_ok X G (c.t.d.fact 41 (f := .glo "Planner") rfl)⟩
end
theorem code_ref {K : PySem.W.Frag} {x qual : Str} {params : Arguments} {body : List Stmt} {scope : Scope} {dvs : List V} {kws : List (Str × V)} {p : Str × Option Str} {fd : FuncData} (F : FunD K x qual params body scope dvs kws (He.fAd K p) fd) : fd.code = .ref (He.codeOf K p) := by
  obtain ⟨oc, od, dV, kV, doc, pm, an, cdv, ct, osl, rfl, lk, hcd, _, _⟩ := F.ex
  obtain ⟨c, rfl⟩ := He.codeIn_ref hcd
  rw [He.codeOf_eq lk (c := c) rfl]
section
variable {w : World} {K : PySem.W.Frag} {h : Heap} {mg : Str → Option Value} {P : Program} {base : Heap}
theorem law_fn {f : Addr} {fd : FuncData} (X : K.In h) (G : h.Ns mainGlobals mg) (c : Sx w h K) (F0 : DefAt K "law" "law" sLaw f fd) (TB : LamX.TabB base mg (He.cT K ("parts_between", none)).1 (He.cT K ("parts_between", none)).2) : FnOk P w K mg base CX0 16 f fd ["_law_script"] (spLaw (K := K) (He.cT K ("parts_between", none)).2) := by
  have B := bt X G c
  have T := plC X G c
  have gFile : ∀ L, Df P w K mg base 1 "file_of" ["change"] (spFileOf L) := fun L => (at_FileOf X G c).df (fun _ _ _ _ _ _ us hl => match us, hl with | [_], _ => rfl) fun f fd F => ok_file_of F
  have gLines : ∀ L, Df P w K mg base 1 "lines_of" ["change"] (spLinesOf L) := fun L => (at_LinesOf X G c).df (fun _ _ _ _ _ _ us hl => match us, hl with | [_], _ => rfl) fun f fd F => ok_lines_of B F
  have gOlds : ∀ L, Df P w K mg base 1 "olds_of" ["change"] (spOldsOf L) := fun L => (at_OldsOf X G c).df (fun _ _ _ _ _ _ us hl => match us, hl with | [_], _ => rfl) fun f fd F => ok_olds_of B F
  have gVert : ∀ L, Df P w K mg base 2 "vertices_of" ["change"] (spVerticesOf L) := fun L => df_vertices_of B (at_VerticesOf X G c) (at_FileOf X G c) (at_OldsOf X G c) (at_LinesOf X G c)
  have gVN : ∀ L, Df P w K mg base 3 "vertex_needs" ["patch"] (spIds L 6000 Pa.vn) := fun L => (at_VertexNeeds X G c).df (fun _ _ _ _ _ _ us hl => match us, hl with | [_], _ => rfl) fun f fd F => ok_vertex_needs B F (gVert L)
  have gBk : ∀ L, Df P w K mg base 1 "backs" ["patch"] (spIds L 12 Pa.bk) := fun L => (at_Backs X G c).df (fun _ _ _ _ _ _ us hl => match us, hl with | [_], _ => rfl) fun f fd F => ok_backs B F
  have gNeeds : ∀ L, Df P w K mg base 4 "needs" ["patch"] (spIds L 6012 Pa.needs) := fun L => (at_Needs X G c).df (fun _ _ _ _ _ _ us hl => match us, hl with | [_], _ => rfl) fun f fd F => ok_needs B F (gVN L) (gBk L)
  have gAll : ∀ L, Df P w K mg base 5 "all_needs" ["patches", "name"] (spAll (w := w) L) := fun L => (at_AllNeeds X G c).df (fun _ _ _ _ _ _ us hl => match us, hl with | [_, _], _ => rfl) fun f fd F => ok_all_needs B F (gNeeds L)
  have gNew : ∀ L, Df P w K mg base 1 "new_ids" ["good", "bad"] (spNew (w := w) L) := fun L => (at_NewIds X G c).df (fun _ _ _ _ _ _ us hl => match us, hl with | [_, _], _ => rfl) fun f fd F => ok_new_ids B F
  have gPick : ∀ L, Df P w K mg base 6 "needed_new" ["good", "bad", "name"] (spPick (w := w) L) := fun L => (at_NeededNew X G c).df (fun _ _ _ _ _ _ us hl => match us, hl with | [_, _, _], _ => rfl) fun f fd F => ok_needed_new B F (gAll L)
  have gPicks : ∀ L, Df P w K mg base 7 "picks_between" ["good", "bad"] (spPicks (w := w) L) := fun L => (at_PicksBetween X G c).df (fun _ _ _ _ _ _ us hl => match us, hl with | [_, _], _ => rfl) fun f fd F => ok_picks_between B F (gNew L) (gPick L)
  have gParts : ∀ L, Df P w K mg base 8 "parts_between" ["good", "bad"] (spParts (w := w) L (He.cT K ("parts_between", none)).2) := fun L => by
    obtain ⟨fd, F⟩ := c.t.d.def_ 11 (d := dPartsBetween) rfl
    exact ⟨_, fd, ok_parts_between B F (code_ref (p := ("parts_between", none)) F) TB (gPicks L), FunD.bindsN F (fun _ _ _ _ _ _ us hl => match us, hl with | [_, _], _ => rfl), F.kp, He.glo_ok X G (c.t.d.fact 11 (f := .glo "parts_between") rfl)⟩
  have gCaus : ∀ L, Df P w K mg base 7 "causes_between" ["good", "bad", "most"] (spCauses (w := w) L) := fun L => (at_CausesBetween X G c).df (fun _ _ _ _ _ _ us hl => match us, hl with | [_, _, _], _ => rfl) fun f fd F => ok_causes_between B F (gNew L) (gPick L)
  have gBad : ∀ L, Df P w K mg base 1 "is_bad" ["part", "cause"] (spIsBad L) := fun L => (at_IsBad X G c).df (fun _ _ _ _ _ _ us hl => match us, hl with | [_, _], _ => rfl) fun f fd F => ok_is_bad B F
  have gMarks : ∀ L, Df P w K mg base 2 "marks" ["causes", "tests", "index"] (spMarks L) := fun L => (at_Marks X G c).df (fun _ _ _ _ _ _ us hl => match us, hl with | [_, _, _], _ => rfl) fun f fd F => ok_marks B F (gBad L)
  obtain ⟨fdS, FS⟩ := c.t.d.def_ 33 (d := dPSides) rfl
  have mSides : Mt P w K mg base 1 (He.ga K "Planner") "sides" ["self", "group", "index"] (spSides (He.ga K "Planner")) := ⟨_, fdS, ok_sides B T FS, FunD.bindsN FS (fun _ _ _ _ _ _ us hl => match us, hl with | [_, _, _], _ => rfl), He.meth_ok (c.t.d.fact 45 (f := .meth "Planner" "sides") rfl)⟩
  obtain ⟨fdP, FP⟩ := c.t.d.def_ 34 (d := dPSplits) rfl
  have mSplits : Mt P w K mg base 2 (He.ga K "Planner") "splits" ["self", "group"] (spSplits (He.ga K "Planner")) := ⟨_, fdP, ok_splits B T FP mSides, FunD.bindsN FP (fun _ _ _ _ _ _ us hl => match us, hl with | [_, _], _ => rfl), He.meth_ok (c.t.d.fact 46 (f := .meth "Planner" "splits") rfl)⟩
  obtain ⟨fdB, FB⟩ := c.t.d.def_ 35 (d := dPBest) rfl
  have mBest := mt_best (P := P) (w := w) (base := base) B T FB (FunD.bindsN FB (fun _ _ _ _ _ _ us hl => match us, hl with | [_, _], _ => rfl)) (He.meth_ok (c.t.d.fact 47 (f := .meth "Planner" "best") rfl)) mSplits
  obtain ⟨fF, fdF, FF, mF⟩ := at_PlanFor X G c
  have gFor := df_plan_for B T FF (FunD.bindsN FF (fun _ _ _ _ _ _ us hl => match us, hl with | [_, _, _], _ => rfl)) FF.kp mF mBest mSides
  obtain ⟨fdI, FI⟩ := c.t.d.def_ 32 (d := dPInit) rfl
  have gPlan : ∀ L, Df P w K mg base 15 "plan" ["causes", "tests"] (spPlan L) := fun L => (at_Plan X G c).df (fun _ _ _ _ _ _ us hl => match us, hl with | [_, _], _ => rfl) fun f fd F => ok_plan B T F (He.mkr_ok (c.t.d.fact 48 (f := .mkr "Planner") rfl)) (ok_pinit (L := L) B T FI (gMarks L)) (FunD.bindsN FI (fun _ _ _ _ _ _ us hl => match us, hl with | [_, _, _], _ => rfl)) (gFor 10)
  obtain ⟨fD, fdD, FD, mD⟩ := at_Depth X G c
  have gDepth := df_depth (P := P) (w := w) (base := base) B FD (FunD.bindsN FD (fun _ _ _ _ _ _ us hl => match us, hl with | [_], _ => rfl)) FD.kp mD 10
  obtain ⟨fR, fdR, FR, mR⟩ := at_PlanRight X G c
  have gRight : ∀ L, Df P w K mg base 11 "plan_right" ["causes", "tests", "tree"] (spRight L 10) := fun L => df_right B FR (FunD.bindsN FR (fun _ _ _ _ _ _ us hl => match us, hl with | [_, _, _], _ => rfl)) FR.kp mR (gBad L) 10
  have gState :  Df P w K mg base 1 "_law_state" ["_law_script"] (spState (K := K)) :=  (at_LState X G c).df (fun _ _ _ _ _ _ us hl => match us, hl with | [_], _ => rfl) fun f fd F => ok_state B F
  have gDraw :  Df P w K mg base 1 "_law_draw" ["_law_state_here", "_law_many"] (spDraw) :=  (at_LDraw X G c).df (fun _ _ _ _ _ _ us hl => match us, hl with | [_, _], _ => rfl) fun f fd F => ok_draw B F
  have gPickL :  Df P w K mg base 2 "_law_pick" ["_law_state_here", "_law_row"] (spPickL) :=  (at_LPick X G c).df (fun _ _ _ _ _ _ us hl => match us, hl with | [_, _], _ => rfl) fun f fd F => ok_pick B F gDraw
  have gSome : ∀ L, Df P w K mg base 3 "_law_some" ["_law_state_here", "_law_row", "_law_most"] (spSome L) := fun L => (at_LSome X G c).df (fun _ _ _ _ _ _ us hl => match us, hl with | [_, _, _], _ => rfl) fun f fd F => ok_some B F gDraw gPickL
  have gPath :  Df P w K mg base 3 "_law_path" ["_law_state_here"] (spPath) :=  (at_LPath X G c).df (fun _ _ _ _ _ _ us hl => match us, hl with | [_], _ => rfl) fun f fd F => ok_path B F gPickL
  have gChange : ∀ L, Df P w K mg base 4 "_law_change" ["_law_state_here", "_law_known", "_law_ids"] (spChange (w := w) L) := fun L => (at_LChange X G c).df (fun _ _ _ _ _ _ us hl => match us, hl with | [_, _, _], _ => rfl) fun f fd F => ok_change B F gDraw gPickL (gSome L) gPath
  have gPatch :  Df P w K mg base 5 "_law_patchwork" ["_law_state_here", "_law_most"] (spPatch) :=  (at_LPatchwork X G c).df (fun _ _ _ _ _ _ us hl => match us, hl with | [_, _], _ => rfl) fun f fd F => ok_patch B F gDraw gPickL gChange
  have gLNeeds : ∀ L, Df P w K mg base 1 "_law_needs" ["_law_patch"] (spLNeeds L) := fun L => (at_LNeeds X G c).df (fun _ _ _ _ _ _ us hl => match us, hl with | [_], _ => rfl) fun f fd F => ok_lneeds B F
  have gLDict : ∀ L, Df P w K mg base 1 "_law_dict" ["_law_row"] (spLDict (w := w) L) := fun L => (at_LDict X G c).df (fun _ _ _ _ _ _ us hl => match us, hl with | [_], _ => rfl) fun f fd F => ok_ldict B F
  have gLBelow : ∀ L, Df P w K mg base 2 "_law_all_below" ["_law_row"] (spLBelow (w := w) L) := fun L => (at_LAllBelow X G c).df (fun _ _ _ _ _ _ us hl => match us, hl with | [_], _ => rfl) fun f fd F => ok_lbelow B F (gLNeeds L)
  have gBetw : ∀ L, Df P w K mg base 3 "_law_between" ["_law_state_here", "_law_row", "_law_most"] (spBetween L) := fun L => (at_LBetween X G c).df (fun _ _ _ _ _ _ us hl => match us, hl with | [_, _, _], _ => rfl) fun f fd F => ok_between B F gDraw (gLBelow L)
  have gLBad : ∀ L, Df P w K mg base 1 "_law_bad" ["_law_part", "_law_cause"] (spIsBad L) := fun L => (at_LBad X G c).df (fun _ _ _ _ _ _ us hl => match us, hl with | [_, _], _ => rfl) fun f fd F => ok_lbad B F
  exact ok_law B F0 gState gPatch gBetw gLDict gCaus gParts gPlan gDepth gPicks gLBelow gLBad gRight
end
end K97
open PySem PySem.W PySem.Calls PyProof.Rows
theorem PySem.Challenge.cw_quiltward_k97_whole_halving_holds : PySem.Challenge.rw_quiltward_k97_whole_halving.Holds := by
  w_on; o_law
  refine HandSHeadRun.head_any (r := K97.rowO) (q := view K97.rowO.prog [39]) (H := K97.hk) (ob := K97.ob) (M := 4000) (loose := K97.loose) (d := HandSHeadRun.topDef K97.rowO.prog 39) (kwd := []) K97.ob_eq
    (by kernel_rfl) (fun s => by kernel_rfl) K97.run (by kernel_rfl) (by kernel_rfl) (by kernel_rfl) (by rfl) (by first | assumption | decide +kernel) (by decide +kernel) ⟨rfl, rfl, rfl, rfl, rfl, by decide +kernel⟩ ?hw ?hc
  case hw => w_witness2
  case hc =>
    refine LamX.walk_ofTsE (l := PySem.Challenge.rw_quiltward_k97_whole_halving) (n := 63) (k := 16) (x := "_law_script") (CX := fun _ => L2.CX0) rfl (by decide) (by kernel_rfl) ⟨rfl, by decide, by decide⟩ ?F (fun _ _ _ _ _ z => z)
    intro w mg fa h Y G hmg0
    obtain ⟨K, KX, c⟩ := Y
    have hmg : mg ("law" : PySem.Str) = some (.ref fa) := by
      have e : (HandSHeadRun.topDef K97.rowO.prog 39).name = ("law" : PySem.Str) := by kernel_rfl
      rw [← e]
      exact hmg0
    have mem : (("parts_between" : PySem.Str), (none : Option PySem.Str)) ∈ [(("parts_between" : PySem.Str), (none : Option PySem.Str))] := List.mem_singleton.mpr rfl
    refine ⟨K, KX, ?_⟩
    have C1 := PySem.W.codeHd_of_K KX (c.hd _ mem)
    obtain ⟨fd0, F0⟩ := c.t.d.def_ 31 (d := K97.dLaw) rfl
    have e0 := hmg.symm.trans (He.glo_ok KX G (c.t.d.fact 31 (f := .glo "law") rfl))
    cases e0
    have b := L2.FunD.bindsA (ps := ["_law_script"]) F0 (fun _ _ _ _ _ _ us hl => match us, hl with | [_], _ => rfl)
    refine ⟨fd0, [He.cT K ("parts_between", none)], K97.spLaw (K := K) (He.cT K ("parts_between", none)).2, fun p hp => ?_, fun p hp => ?_, fun p hp => ?_, fun s v => b s [v] rfl, fun H a ns hl _ hT hS => ⟨a, ns, rfl, hS, by omega, hT _ (List.mem_singleton.mpr rfl), fun _ => rfl⟩, fun base KB GB TBs => ?_⟩
    · rw [List.mem_singleton] at hp
      subst hp
      exact c.empty _ mem
    · rw [List.mem_singleton] at hp
      subst hp
      exact c.out _ mem
    · rw [List.mem_singleton] at hp
      subst hp
      exact C1
    · exact K97.law_fn KX G c F0 (TBs _ (List.mem_singleton.mpr rfl))
