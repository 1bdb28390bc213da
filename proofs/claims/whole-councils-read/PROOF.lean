import PyProof.Rows.All
import Wide.All
import OpenK.AllK
import Wide.FinOn
import HandS.ForMost
import PySem.Challenge.RW_alwaysagree_k05_whole_councils_read
import KE.KStateDown
import HandS.Exc
import HandS.Defaults
import HandS.ClsMeth
import HandS.Head0
import HandS.Head1
import HandS.Head2
import HandS.HeadHook1
import HandS.HeadHook2
import HandS.HeadHook4
import HandS.HeadNt
import PyProof.ReprRoads
import PyProof.CodeObj
import KE.KLam
import KE.KCallOwn
import HandS.TryOnly
import HandS.ExcInit
import HandS.ExcCtx
import HandS.Lambda
import HandS.ExcOwn
import KE.KTryMore
import KE.KIsAll
import HandS.Hot
import HandS.HotCalls
import HandS.ExcIs
import HandS.ExcField
import HandS.Strs
import KE.KTupSum
import KE.DatumOrd
import KE.GoesEnum
import HandS.Iter
import PyProof.CallFns
import KE.KExcIs
import HandS.Property
import HandS.Walk
import HandS.IsInst
import HandS.Text
import PyProof.ReprLen
import PyProof.Rows.SortStrRead
import HandS.Deep
import HandS.DeepEq
import HandS.Dict
import HandS.Ends
import HandS.EndTab
import HandS.EndBits
set_option Elab.async false
set_option linter.all false
set_option maxRecDepth 100000
set_option maxHeartbeats 4000000
/-! The text by places. -/
namespace K5
open PySem L2
def top (i : Nat) : Stmt := PySem.Challenge.pw_alwaysagree_k05_whole_councils_read.main.body.getD i (.Pass ⟨0, 0, 0, 0⟩)
abbrev s_is_integer : Stmt := top 23
abbrev s_is_within : Stmt := top 24
abbrev s_is_name : Stmt := top 25
abbrev s_read_number : Stmt := top 26
abbrev s_wrong_mind : Stmt := top 28
abbrev s_is_row : Stmt := top 29
abbrev s_is_way : Stmt := top 30
abbrev s_wrong_way : Stmt := top 31
abbrev s_way_text : Stmt := top 32
abbrev s_lines_of : Stmt := top 33
abbrev s_read_way : Stmt := top 34
abbrev s_read_council : Stmt := top 35
abbrev s_law_jug : Stmt := top 38
abbrev s_law_sip : Stmt := top 39
abbrev s_law_row : Stmt := top 40
abbrev s_law_talk : Stmt := top 41
abbrev s_law_pair : Stmt := top 42
abbrev s_law_page : Stmt := top 43
abbrev s_law_ended : Stmt := top 44
abbrev s_law_is_ended : Stmt := top 45
abbrev s_law_figure : Stmt := top 46
abbrev s_law_is_label : Stmt := top 47
abbrev s_law_seen : Stmt := top 48
abbrev s_law_read : Stmt := top 49
abbrev s_law_bent : Stmt := top 50
abbrev s_law_is_read : Stmt := top 51
abbrev s_law_right : Stmt := top 52
abbrev s_law_quiet : Stmt := top 53
abbrev s_law : Stmt := top 54
abbrev s_text_init : Stmt := inClass (top 3) 0
abbrev s_c_init : Stmt := inClass (top 36) 0
abbrev s_c_read : Stmt := inClass (top 36) 1
abbrev s_c_minds : Stmt := inClass (top 36) 2
abbrev s_c_ways : Stmt := inClass (top 36) 3
abbrev s_c_str : Stmt := inClass (top 36) 8
end K5
set_option Elab.async false
set_option linter.all false
set_option maxRecDepth 100000
set_option maxHeartbeats 0
/-! The head: facts of each def by names, the run of the top. -/
namespace K5H
open PySem PySem.Spec PyProof.Rows L2
abbrev Fg : Type := PySem.W.Frag
/-! ### addresses -/
/-- the getter of the property m of the class at C -/
def pg (K : Fg) (C : Addr) (m : Str) : Addr := match PySem.W.recIn K (He.ma K C m) "property" with
  | some (.ref f :: _) => f
  | _ => 0
def gl (x : Str) : Fg → Addr := fun K => He.ga K x
def cMeth (m : Str) : Fg → Addr := fun K => He.ma K (He.ga K "Council") m
def cRead : Fg → Addr := fun K => He5.wf K (He.ga K "Council") "classmethod" "read"
def cProp (m : Str) : Fg → Addr := fun K => pg K (He.ga K "Council") m
def xInit : Fg → Addr := fun K => He.ma K (He.ga K "InvalidText") "__init__"
/-! ### the defs -/
def dGl (x : Str) (st : Stmt) : He5.DefA := ⟨gl x, x, x, defArgs st, defBody st, defScope st, [], []⟩
def dOf (at_ : Fg → Addr) (x q : Str) (st : Stmt) : He5.DefA := ⟨at_, x, q, defArgs st, defBody st, defScope st, [], []⟩
def fn : List He5.DefA := [
  dGl "is_integer" K5.s_is_integer,
  dGl "is_within" K5.s_is_within,
  dGl "is_name" K5.s_is_name,
  dGl "read_number" K5.s_read_number,
  dGl "wrong_mind" K5.s_wrong_mind,
  dGl "is_row" K5.s_is_row,
  dGl "is_way" K5.s_is_way,
  dGl "wrong_way" K5.s_wrong_way,
  dGl "way_text" K5.s_way_text,
  dGl "lines_of" K5.s_lines_of,
  dGl "read_way" K5.s_read_way,
  dGl "read_council" K5.s_read_council,
  dGl "_law_jug" K5.s_law_jug,
  dGl "_law_sip" K5.s_law_sip,
  dGl "_law_row" K5.s_law_row,
  dGl "_law_talk" K5.s_law_talk,
  dGl "_law_pair" K5.s_law_pair,
  dGl "_law_page" K5.s_law_page,
  dGl "_law_ended" K5.s_law_ended,
  dGl "_law_is_ended" K5.s_law_is_ended,
  dGl "_law_figure" K5.s_law_figure,
  dGl "_law_is_label" K5.s_law_is_label,
  dGl "_law_seen" K5.s_law_seen,
  dGl "_law_read" K5.s_law_read,
  dGl "_law_bent" K5.s_law_bent,
  dGl "_law_is_read" K5.s_law_is_read,
  dGl "_law_right" K5.s_law_right,
  dGl "_law_quiet" K5.s_law_quiet,
  dGl "law" K5.s_law,
  dOf xInit "__init__" "InvalidText.__init__" K5.s_text_init,
  dOf (cMeth "__init__") "__init__" "Council.__init__" K5.s_c_init,
  dOf cRead "read" "Council.read" K5.s_c_read,
  dOf (cProp "minds") "minds" "Council.minds" K5.s_c_minds,
  dOf (cProp "ways") "ways" "Council.ways" K5.s_c_ways,
  dOf (cMeth "__str__") "__str__" "Council.__str__" K5.s_c_str]
def fa1 : List He.Fa := [
  .glo "is_integer", .glo "is_within", .glo "is_name", .glo "read_number", .glo "wrong_mind", .glo "is_row", .glo "is_way", .glo "wrong_way", .glo "way_text", .glo "lines_of", .glo "read_way", .glo "read_council", .glo "_law_jug", .glo "_law_sip", .glo "_law_row", .glo "_law_talk", .glo "_law_pair", .glo "_law_page", .glo "_law_ended", .glo "_law_is_ended", .glo "_law_figure", .glo "_law_is_label", .glo "_law_seen", .glo "_law_read", .glo "_law_bent", .glo "_law_is_read", .glo "_law_right", .glo "_law_quiet", .glo "law", .glo "WrongValue", .glo "InvalidText", .glo "InvalidNumber", .glo "InvalidIndex", .glo "NotACouncil", .glo "InvalidMinds"]
def fa2 : List He.Fa := [
  .glo "InvalidWays", .glo "InvalidWord", .glo "InvalidThoughts", .glo "WrongName", .glo "UnknownName", .glo "NoAnswer", .glo "NoDays", .glo "TooMany", .glo "Council", .free "len", .free "isinstance", .free "int", .free "bool", .free "str", .free "all", .free "sum", .free "max", .free "min", .free "abs", .free "divmod", .free "repr", .free "range", .free "tuple", .free "set", .free "enumerate", .int "MOST_MINDS" 6, .int "MOST_WAYS" 6, .int "MOST_WEIGHT" 1000000000, .int "LONGEST_NAME" 8, .str "LETTERS" "abcdefghijklmnopqrstuvwxyz", .str "DIGITS" "0123456789", .cls "Council", .noat "Council" "heads", .noat "Council" "tables", .mkr "Council", .keep "InvalidText"]
def fa : List He.Fa := fa1 ++ fa2
def names : List Str := (["_wall", "WrongValue", "InvalidText", "InvalidNumber", "InvalidIndex", "NotACouncil", "InvalidMinds", "InvalidWays", "InvalidWord", "InvalidThoughts", "WrongName", "UnknownName", "NoAnswer", "NoDays", "TooMany", "MOST_MINDS", "MOST_WAYS", "MOST_WEIGHT", "LETTERS", "DIGITS", "LONGEST_NAME", "is_integer", "is_within", "is_name", "read_number", "wrong_mind", "is_row", "is_way"] : List Str) ++ (["wrong_way", "way_text", "lines_of", "read_way", "read_council", "_law_jug", "_law_sip", "_law_row", "_law_talk", "_law_pair", "_law_page", "_law_ended", "_law_is_ended", "_law_figure", "_law_is_label", "_law_seen", "_law_read", "_law_bent", "_law_is_read", "_law_right", "_law_quiet", "Council"] : List Str)
/-! ### further facts, as one Bool -/
def isE (K : Fg) (y : Str) (b : Bool) : Bool := decide (PySem.W.kitOne K (.ref (He.ga K "InvalidText")) (.ref (He.ga K y)) = some b)
def exE (K : Fg) (y : Str) (b : Bool) : Bool := decide (PySem.W.exmOne K (.ref (He.ga K "InvalidText")) (.ref (He.ga K y)) = some b)
/-- the class of the error that is raised -/
def oexB (K : Fg) (C : Addr) : Bool := (match K.lookup C with
  | some ⟨.type "type", _, .cls cd, sl⟩ => (match cd.mro, sl.toList with
    | .ref C' :: bm, [_, _, _, _, some (.builtin n), _] => C' == C && (n == "ValueError.__new__" && (!cd.hasDel && (cd.hasDict && PySem.HandSPX.refsVE bm)))
    | _, _ => false)
  | _ => false) && (He.eqO (PySem.W.findIn K (.ref C) "__setattr__") (some (some (.builtin "object.__setattr__"))) && (decide (PySem.W.subIn K (.ref C) (.type "BaseException") = some true) && (decide (PySem.W.typeIn K (.ref C) = some (.type "type")) && PySem.W.keepIn K (.ref C))))
def propB (K : Fg) (C : Addr) (m : Str) : Bool := He.eqO (PySem.W.findIn K (.ref C) m) (some (some (.ref (He.ma K C m)))) && (He.eqO (PySem.W.specialIn K (.ref (He.ma K C m)) "__get__") (some (some (.builtin "property.__get__"))) &&
  (decide (PySem.W.takesIn K (.ref (He.ma K C m)) = some true) && (match PySem.W.recIn K (He.ma K C m) "property" with
    | some (.ref f :: _) => decide (f = pg K C m)
    | _ => false)))
def readB (K : Fg) (C : Addr) : Bool := PySem.W.readsIn K C (.type "type") && (He.eqO (PySem.W.specialIn K (.ref C) "__getattribute__") (some (some (.builtin "type.__getattribute__"))) &&
  (He5.wrapB K C "classmethod" "classmethod.__get__" "read" && PySem.W.fnIn K (He5.wf K C "classmethod" "read")))
/-- a caught error's class, for isinstance -/
def excB (K : Fg) (C : Addr) : Bool := He.eqO (PySem.W.findIn K (.ref C) "__getattribute__") (some (some (.builtin "BaseException.__getattribute__"))) && He.eqO (PySem.W.findIn K (.ref C) "__getattr__") (some none) && PySem.W.hasDictIn K C &&
  He.eqO (PySem.W.findIn K (.ref C) "__class__") (some (some (.builtin "object.__class__"))) && He.eqO (PySem.W.specialIn K (.builtin "object.__class__") "__get__") (some (some (.builtin "getset_descriptor.__get__"))) &&
  decide (PySem.W.takesIn K (.builtin "object.__class__") = some true) && decide (PySem.W.mroIn K C (.type "object") = some true) && He.eqO (PySem.W.findIn K (.ref C) "given") (some none) &&
  decide (PySem.W.typeIn K (.ref (xInit K)) = some (.type "function")) && He.eqO (PySem.W.findIn K (.ref C) "__init__") (some (some (.ref (xInit K))))
def strB (K : Fg) (C : Addr) : Bool := He.eqO (PySem.W.findIn K (.ref C) "__str__") (some (some (.ref (cMeth "__str__" K)))) && PySem.W.isFn K (.ref (cMeth "__str__" K))
def exs : List (Str × Bool) := [("WrongValue", true), ("InvalidText", true), ("InvalidNumber", false), ("InvalidIndex", false), ("NotACouncil", false), ("InvalidMinds", false), ("InvalidWays", false), ("InvalidWord", false), ("InvalidThoughts", false), ("WrongName", false), ("UnknownName", false), ("NoAnswer", false), ("NoDays", false), ("TooMany", false)]
def more (K : Fg) : Bool := exs.all (fun p => isE K p.1 p.2) && (exE K "WrongValue" true && (exE K "WrongName" false && (exE K "NoAnswer" false && (oexB K (He.ga K "InvalidText") && (propB K (He.ga K "Council") "minds" && (propB K (He.ga K "Council") "ways" && (readB K (He.ga K "Council") && (excB K (He.ga K "InvalidText") && strB K (He.ga K "Council")))))))))
/-! ### the Hook -/
def tf : List He.Defn := [("_law_is_read", none)]
abbrev Al : Type := He.AlD × Bool
def asK (g : Addr → Option Obj) (n : Nat) : List Addr := He.asD g n ++ [cStatics]
def kOf (n : Nat) (g : Addr → Option Obj) : Fg := He.frT g (asK g n)
def obsK (g : Addr → Option Obj) (K : Fg) : Al := (He5.obsA fa fn K, more K && He.tabsB g tf K)
def valK : Al := (He5.valA fn, true)
structure Says (h : Heap) (K : Fg) : Prop where
  a : He5.SaysA fa fn K
  more : more K = true
  hd : ∀ p ∈ tf, PySem.W.codeHdIn K (He.cT K p).1 (He.cT K p).2 = true
  out : ∀ p ∈ tf, K.lookup (He.cT K p).2 = none
  empty : ∀ p ∈ tf, h.get? (He.cT K p).2 = some { cls := .none, data := .fields #[] }
theorem says_of {n : Nat} {h : Heap} (e : obsK h.get? (kOf n h.get?) = valK) : Says h (kOf n h.get?) := by
  have e1 := congrArg Prod.fst e
  have e2 := congrArg Prod.snd e
  obtain ⟨m, t⟩ := He.ba (show (K5H.more (kOf n h.get?) && He.tabsB h.get? tf (kOf n h.get?)) = true from e2)
  have one : ∀ p ∈ tf, PySem.W.codeHdIn (kOf n h.get?) (He.cT (kOf n h.get?) p).1 (He.cT (kOf n h.get?) p).2 = true ∧ ∃ o, h.get? (He.cT (kOf n h.get?) p).2 = some o ∧ He.emptyTab o = true := by
    intro p hp
    have q := List.all_eq_true.mp (show (tf.all fun p => _) = true from t) p hp
    obtain ⟨q1, q2⟩ := He.ba q
    refine ⟨q1, ?_⟩
    revert q2
    cases h.get? (He.cT (kOf n h.get?) p).2 with
    | none => intro z; cases z
    | some o => intro z; exact ⟨o, rfl, z⟩
  refine ⟨e1, m, fun p hp => (one p hp).1, fun p hp => ?_, fun p hp => ?_⟩
  · obtain ⟨_, o, q, z⟩ := one p hp
    exact He.frT_none q z
  · obtain ⟨_, o, q, z⟩ := one p hp
    rw [q, He.emptyTab_eq z]
def hk (n : Nat) : PySem.W.Hook where
  α := Al
  obs := fun s => obsK s.heap.get? (kOf n s.heap.get?)
  val := fun _ => valK
  says := fun _ h => ∃ K : Fg, K.In h ∧ Says h K
  of := fun _ _ e => ⟨_, He.frT_in, says_of e⟩
  keeps := fun _ _ _ z k => z.elim fun K c => ⟨K, PySem.W.Frag.In.keeps c.1 k, ⟨c.2.a, c.2.more, c.2.hd, c.2.out, fun p hp => k _ _ (c.2.empty p hp)⟩⟩
def ob (n : Nat) (s : PySem.W.SharedT) : Al := obsK (HandSHeadRun.getT s) (kOf n (HandSHeadRun.getT s))
theorem ob_eq (n : Nat) (s : PySem.W.SharedT) : ob n s = (hk n).obs s.abs := by
  have e : HandSHeadRun.getT s = s.abs.heap.get? := funext (HandSHeadRun.getT_eq s)
  show obsK (HandSHeadRun.getT s) (kOf n (HandSHeadRun.getT s)) = _
  rw [e]
  rfl
abbrev R : PySem.W.OpenRow := PySem.W.OpenLaw.row PySem.Challenge.rw_alwaysagree_k05_whole_councils_read
theorem run (w : World) : HandSHeadRun.RunEq R (PySem.W.view R.prog [54]) (hk 6) (ob 6) 40000 names w := by
  intro os
  kernel_rfl
end K5H
set_option Elab.async false
set_option linter.all false
set_option maxRecDepth 100000
set_option maxHeartbeats 2000000
/-! Rules: pinned objects, defs where no repr runs, calls with a captured cell told, lambdas made and called, repr. -/
namespace K5
open PySem PySem.Spec PyProof.Rows L2
abbrev St := L2.St

/-! ### an object that is told whole -/
def pinO (a : Addr) (o : Obj) : HO := .ext fun h => h.get? a = some o
section
variable {P : Program} {w : World} {H H' : Hp} {h h' : Heap} {a : Addr} {o : Obj}
theorem pinO_own {x : Addr} : pinO a o ≠ .own x := fun z => by unfold pinO at z; cases z
theorem pinO_tup {xs : List V} : pinO a o ≠ .tup xs := fun z => by unfold pinO at z; cases z
theorem pinO_frz {q : Obj} {u : HO} : pinO a o ≠ .frz q u := fun z => by unfold pinO at z; cases z
theorem pinO_tbl {ps : Array Value} : pinO a o ≠ .tbl ps := fun z => by unfold pinO at z; cases z
theorem pinO_ok (e : h.get? a = some o) : ObjOk P w H h a (pinO a o) := ⟨e, ⟨o, e⟩, fun h1 h2 x k => k o x⟩
theorem pinO_at (ok : HOk P w H h) (e : H a = some (pinO a o)) : h.get? a = some o := by
  have x : ObjOk P w H h a (.ext fun h => h.get? a = some o) := ok a _ e
  exact x.1
theorem pin_hok (ok : HOk P w H h) (hn : H a = none) (e : h.get? a = some o) : HOk P w (upd H a (pinO a o)) h := by
  intro b u q
  by_cases hb : b = a
  · rw [hb, upd_same] at q
    cases q
    rw [hb]
    exact pinO_ok e
  · rw [upd_ne hb] at q
    exact (ok b u q).stay (fun _ _ _ z => z) (fun c z => (upd_ne (ne_of_none z hn)).trans z) (fun c xs z => (upd_ne (ne_of_none z hn)).trans z)
theorem unpin_hok (ok : HOk P w H h) (e : H a = some (pinO a o)) : HOk P w (del H a) h := by
  intro b u q
  have hb : b ≠ a := fun z => by
    rw [z, del_same] at q
    cases q
  rw [del_ne hb] at q
  exact (ok b u q).stay (fun _ _ _ z => z) (fun c z => (del_ne (at_ne e z pinO_own)).trans z) (fun c xs z => (del_ne (at_ne e z pinO_tup)).trans z)
/-- the pinned object was set aside, and comes back -/
theorem un_back {fs : List Addr} (hc : H a = some (pinO a o)) (u : Un fs [] (del H a) H' h h') : Un fs [] H (upd H' a (pinO a o)) h h' := by
  have ne : ∀ {b : Addr}, H b = none → b ≠ a := fun {b} n z => by
    rw [z, hc] at n
    cases n
  have dn : ∀ {b : Addr}, H b = none → del H a b = none := fun {b} n => (del_ne (ne n)).trans n
  exact {
    keep := fun b q e n hb hx => u.keep b q e (dn n) hb hx
    slot := fun b q e n hb hx => u.slot b q e (dn n) hb hx
    free := fun b q e n hx => (upd_ne (ne n)).trans (u.free b q e (dn n) hx)
    there := u.there
    tups := fun b xs e => (upd_ne (at_ne hc e pinO_tup)).trans (u.tups b xs ((del_ne (at_ne hc e pinO_tup)).trans e))
    frzs := fun b q v e => (upd_ne (at_ne hc e pinO_frz)).trans (u.frzs b q v ((del_ne (at_ne hc e pinO_frz)).trans e))
    tbls := fun b ps e => (u.tbls b ps ((del_ne (at_ne hc e pinO_tbl)).trans e)).elim fun m q => ⟨m, (upd_ne (at_ne hc e pinO_tbl)).trans q⟩ }
theorem ub_back {fs : List Addr} {B : Heap} (hc : H a = some (pinO a o)) (u : UB fs (del H a) H' h B h') : UB fs H (upd H' a (pinO a o)) h B h' := by
  have ne : ∀ {b : Addr}, H b = none → b ≠ a := fun {b} n z => by
    rw [z, hc] at n
    cases n
  have dn : ∀ {b : Addr}, H b = none → del H a b = none := fun {b} n => (del_ne (ne n)).trans n
  exact {
    keep := fun b q e n hb => u.keep b q e (dn n) hb
    slot := u.slot
    free := fun b q e n => (upd_ne (ne n)).trans (u.free b q e (dn n))
    there := u.there
    tups := fun b xs e => (upd_ne (at_ne hc e pinO_tup)).trans (u.tups b xs ((del_ne (at_ne hc e pinO_tup)).trans e))
    frzs := fun b q v e => (upd_ne (at_ne hc e pinO_frz)).trans (u.frzs b q v ((del_ne (at_ne hc e pinO_frz)).trans e))
    tbls := fun b ps e => (u.tbls b ps ((del_ne (at_ne hc e pinO_tbl)).trans e)).elim fun m q => ⟨m, (upd_ne (at_ne hc e pinO_tbl)).trans q⟩ }
/-- the pinned object is told in a call alone -/
theorem un_fore {fs : List Addr} (hn : H a = none) (hf : a ∉ fs) (e : h.get? a = some o) (ok : HOk P w H' h') (he : H' a = some (pinO a o)) (u : Un fs [] (upd H a (pinO a o)) H' h h') : Un fs [] H (del H' a) h h' := by
  have un : ∀ {b : Addr}, b ≠ a → H b = none → upd H a (pinO a o) b = none := fun {b} d n => (upd_ne d).trans n
  exact {
    keep := fun b q e1 n hb hx => by
      by_cases d : b = a
      · rw [d, e] at e1
        cases e1
        rw [d]
        exact pinO_at ok he
      · exact u.keep b q e1 (un d n) hb hx
    slot := fun b q e1 n hb hx => u.slot b q e1 (un (fun d => hf (d ▸ hb)) n) hb hx
    free := fun b q e1 n hx => by
      by_cases d : b = a
      · rw [d]
        exact del_same
      · exact (del_ne d).trans (u.free b q e1 (un d n) hx)
    there := u.there
    tups := fun b xs z => (del_ne (ne_of_none z hn)).trans (u.tups b xs ((upd_ne (ne_of_none z hn)).trans z))
    frzs := fun b q v z => (del_ne (ne_of_none z hn)).trans (u.frzs b q v ((upd_ne (ne_of_none z hn)).trans z))
    tbls := fun b ps z => (u.tbls b ps ((upd_ne (ne_of_none z hn)).trans z)).elim fun m q => ⟨m, (del_ne (ne_of_none z hn)).trans q⟩ }
end

/-! ### defs that are called where no repr runs -/
structure FnG (P : Program) (w : World) (K : PySem.W.Frag) (mg : Str → Option Value) (base : Heap) (CX : CXT) (k : Nat) (f : Addr) (fd : FuncData) (ps : List Str) (sp : Sp) : Prop where
  len : ∀ vs H Q E, sp vs H Q E → vs.length = ps.length
  run : ∀ (A : Around) (outer : List Env) (s : Shared) (H : Hp) (args : Args) (us : List Value) (vs : List V) (Q : VK) (E : XK), A.guards = some [] → Room k A → Env0 P w K mg base A outer s H →
    BindsTo s fd args (ps.zip us) → Vals vs us → sp vs H Q E → codeAny (model P w) A (.call (.ref f) args) (CR CX outer P w H s Q E) s
section
variable {P : Program} {w : World} {K : PySem.W.Frag} {mg : Str → Option Value} {base : Heap}
theorem FnG.of {CX : CXT} {k : Nat} {f : Addr} {fd : FuncData} {ps : List Str} {sp : Sp} (F : FnOk P w K mg base CX k f fd ps sp) : FnG P w K mg base CX k f fd ps sp :=
  ⟨F.len, fun A outer s H args us vs Q E _ hr e0 hb r h => F.run A outer s H args us vs Q E hr e0 hb r h⟩
theorem fnG_of {CX : CXT} {x qual : Str} {st : Stmt} {f : Addr} {fd : FuncData} {N ps : List Str} {k : Nat} {sp : Sp} (F : L2.Fun K x qual st f fd) (S : FnScope N ps (defScope st)) (len : ∀ vs H Q E, sp vs H Q E → vs.length = ps.length)
    (hbody : ∀ (cdv : Value) (A : Around) (outer : List Env) (s : Shared) (H : Hp) (vs : List V) (Q : VK) (E : XK), fd.code = cdv → A.guards = some [] → Room k (A.deeper (envOfC qual (defScope st) s.heap.objs.size f cdv)) → sp vs H Q E →
      ∃ t, PSs (cxOf CX P w K mg base N qual (defScope st) f cdv A outer s H E) (defBody st) t ∧ t { nx := fun _ H' => Q .non H', rt := Q } (start N vs) H) : FnG P w K mg base CX (k + 1) f fd ps sp := by
  obtain ⟨oc, od, kV, doc, pm, an, cdv, ct, osl, rfl, lk, hcd⟩ := F.ex
  refine ⟨len, fun A outer s H args us vs Q E hg hr e0 hb r hsp => ?_⟩
  exact LamX.run_ofS (CX := CX) lk hcd S hr e0 hb r (len _ _ _ _ hsp) fun hr' => hbody cdv A outer s H vs Q E rfl hg hr' hsp
end
section
variable {X : Cx} {CX : CXT} {k : Nat} {f : Addr} {fd : FuncData} {ps : List Str} {sp : Sp} {E : XK} {x : Str} {p pos : Pos} {e : Expr} {es : List Expr} {t : TA}
theorem run_fnG {pins : List (Addr × Obj)} {σ : St} {H : Hp} {s : Shared} {Q : VK} {us : List Value} {vs : List V} (F : FnG X.prog X.w X.K X.mg X.base CX k f fd ps sp) (hG : X.A.guards = some []) (hr : Room k X.A) (hb : Binds X.K fd ps []) (hx : Passes CX X E)
    (I : Inv X pins σ H s) (r : Vals vs us) (h : sp vs H Q E) : wpAny (model X.prog X.w) X.A (call (.ref f) us) (EP X pins σ Q) X.xe s := by
  have hl : (us ++ []).length = ps.length := by
    rw [List.append_nil, ← r.length]
    exact F.len _ _ _ _ h
  have b := hb s us I.kIn hl
  rw [List.append_nil] at b
  refine wpAny_call (codeAny_mono (F.run X.A X.stack s H ⟨us, []⟩ us vs Q E hG hr I.env0 b r h) fun r s' hq => ?_)
  cases r with
  | error er => exact hx pins σ H s er s' I hq
  | ok fl =>
    cases fl with
    | ret u => exact I.after hq
    | next => exact (show False from hq).elim
    | brk => exact (show False from hq).elim
    | cont => exact (show False from hq).elim
theorem pe_callG (F : FnG X.prog X.w X.K X.mg X.base CX k f fd ps sp) (hG : X.A.guards = some []) (hr : Room k X.A) (hg : Gl X x) (hm : X.mg x = some (.ref f)) (hk : PySem.W.keepIn X.K (.ref f) = true) (hb : Binds X.K fd ps []) (hx : Passes CX X E) (ha : PA X (e :: es) t)
    (hdb : (x == ("__debug__" : Str)) = false := by decide) (he : starEach (e :: es) X.env = (false, eval e X.env) :: starEach es X.env := by rfl) (hpl : (backTo pos (starEach es X.env)).any (·.1) = false := by rfl) :
    PE X (.Call (.Name x p) (e :: es) [] pos) (fun σ H Q => t σ H fun vs H1 => sp vs H1 Q E) := by
  refine ⟨fun pins s σ H Q I h => wpAny_Call_Name_kw (ld_glob I hg hm ?_ hdb)⟩
  refine PySem.W.callWith_K (h₀ := X.base) I.ok.mod.kin hk (thn (ha.run pos pins s σ H _ I h) ?_) he hpl
  rintro us s1 ⟨vs, H1, I1, r, q⟩
  exact ⟨I1.kIn, run_fnG F hG hr hb hx I1 r q⟩

/-! ### a call with a captured cell told -/
/-- the cell of a captured name -/
def ccOf (X : Cx) (y : Str) : Addr := (X.env.cells.lookup y).getD 0
def CellOf (o : Obj) (v : V) : Prop := ∃ u : Value, o.data = .cell (some u) ∧ RelV v u
theorem pe_callC {y : Str} {i : Nat} (F : FnG X.prog X.w X.K X.mg X.base CX0 k f fd ps sp) (hG : X.A.guards = some []) (hr : Room k X.A) (hg : Gl X x) (hm : X.mg x = some (.ref f)) (hk : PySem.W.keepIn X.K (.ref f) = true) (hb : Binds X.K fd ps []) (ha : PA X (e :: es) t)
    (hN : X.N[i]? = some y) (hy : X.env.scope.names.lookup y = some .cell) (hfn : X.fn y = true) (hst : X.stack = X.env :: X.outer) (hfr : X.env.frame = some X.env.locals)
    (hdb : (x == ("__debug__" : Str)) = false := by decide) (he : starEach (e :: es) X.env = (false, eval e X.env) :: starEach es X.env := by rfl) (hpl : (backTo pos (starEach es X.env)).any (·.1) = false := by rfl) :
    PE X (.Call (.Name x p) (e :: es) [] pos) (fun σ H Q => ∃ v, σ[i]? = some (some v) ∧ t σ H fun vs H1 => ∀ o, CellOf o v → H1 (ccOf X y) = none →
      sp vs (upd H1 (ccOf X y) (pinO (ccOf X y) o)) (fun r H2 => H2 (ccOf X y) = some (pinO (ccOf X y) o) ∧ Q r (del H2 (ccOf X y))) E0) := by
  refine ⟨fun pins s σ H Q I h => wpAny_Call_Name_kw (ld_glob I hg hm ?_ hdb)⟩
  obtain ⟨v, hv, h⟩ := h
  refine PySem.W.callWith_K (h₀ := X.base) I.ok.mod.kin hk (thn (ha.run pos pins s σ H _ I h) ?_) he hpl
  rintro us s1 ⟨vs, H1, I1, r, q⟩
  refine ⟨I1.kIn, ?_⟩
  obtain ⟨m, _, look⟩ := I1.loc
  obtain ⟨u, ru, lk⟩ := look i y v hN hv (.inr (.inl hy))
  obtain ⟨c, hc, o, ho, hd⟩ : ∃ c, X.env.cells.lookup y = some c ∧ s1.heap.IsCell c (some u) := by
    rcases lk with ⟨k1, _⟩ | ⟨_, k2⟩
    · rw [show X.env.kindOf y = some .cell from hy] at k1
      cases k1
    · exact k2
  have ec : ccOf X y = c := by
    unfold ccOf
    rw [hc]
    rfl
  have nc : H1 c = none := I1.freeC y c hc
  have nst : c ∉ frs X.stack := fun z => by
    rcases List.mem_cons.mp (I1.stkSub c z) with e1 | e1
    · exact I1.cne y c hc e1
    · obtain ⟨_, o', h2, _⟩ := I1.ok.funs.mem e1
      exact absurd (Nat.lt_of_lt_of_le (Heap.lt_size h2) (I1.ok.cab y c hfn hc)) (Nat.lt_irrefl _)
  have nbs : ∀ b q, X.base.get? b = some q → b ≠ c := fun b q e1 e2 => by
    have h1 := Heap.lt_size (I1.ok.bs b q e1).1
    rw [e2] at h1
    exact absurd (Nat.lt_of_lt_of_le h1 (I1.ok.cab y c hfn hc)) (Nat.lt_irrefl _)
  rw [ec] at q
  have hsp := q o ⟨u, hd, ru⟩ nc
  have e0 := I1.env0
  have e1 : Env0 X.prog X.w X.K X.mg X.base X.A X.stack s1 (upd H1 c (pinO c o)) :=
    ⟨e0.frames, e0.mod, fun b q e => ⟨(e0.bs b q e).1, (upd_ne (nbs b q e)).trans (e0.bs b q e).2⟩, e0.bsz, e0.funs, fun b hb => (upd_ne (fun z => nst (by rw [← z]; exact hb))).trans (e0.frf b hb), pin_hok e0.hok nc ho, e0.bare⟩
  have hl : (us ++ []).length = ps.length := by
    rw [List.append_nil, ← r.length]
    exact F.len _ _ _ _ hsp
  have b := hb s1 us I1.kIn hl
  rw [List.append_nil] at b
  refine wpAny_call (codeAny_mono (F.run X.A X.stack s1 _ ⟨us, []⟩ us vs _ E0 hG hr e1 b r hsp) fun r s' hq => ?_)
  cases r with
  | error er => exact (show False from hq).elim
  | ok fl =>
    cases fl with
    | next => exact (show False from hq).elim
    | brk => exact (show False from hq).elim
    | cont => exact (show False from hq).elim
    | ret v' =>
      obtain ⟨z, H2, os, ag, un, ok, rz, hz, hQ⟩ := hq
      exact I1.after ⟨z, del H2 c, os, ag, un_fore nc nst ho ok hz un, unpin_hok ok hz, rz, ec ▸ hQ⟩
end

/-! ### a lambda is made -/
abbrev lamObj (q : Str) (params : Arguments) (body : Expr) (scope : Scope) (cl : List (Str × Addr)) (pm : Value) (c' : Addr) (ct : Value) : Obj := PySem.W.kla_obj "<lambda>" q params body scope cl pm c' ct
theorem pe_lam {X : Cx} {T : List (Addr × Str)} {c P : Addr} {q y : Str} {params : Arguments} {body : Expr} {scope : Scope} {pos : Pos} (TB : LamX.TabB X.base X.mg c P) (hcode : X.env.code = .ref c) (hq : X.env.qual ++ "<lambda>" = q)
    (hT : T = [(P, q)]) (hdef : defaultsOf params X.env = ([], [])) (hfree : ∀ z ∈ scope.names, z.2 = .free → ∃ c, X.env.cells.lookup z.1 = some c) (hcl : cloFrom X.env.cells scope.names [] = [(y, ccOf X y)]) :
    PE X (.Lambda params body scope pos) (fun σ H Q => LamX.Tabs T H ∧ ∀ (f c' : Addr) (pm ct : Value) (H1 : Hp), LamX.ExtN H H1 → LamX.Tabs T H1 → H1 f = none → H1 c' = some (LamX.CodeO c' q) →
      Q (.ref f) (upd H1 f (pinO f (lamObj q params body scope [(y, ccOf X y)] pm c' ct)))) := by
  subst hT
  refine ⟨fun pins s σ H Q I h => ?_⟩
  obtain ⟨hT, h⟩ := h
  obtain ⟨ps, hP, ht, ha⟩ := hT (P, q) List.mem_cons_self
  have ck := closure_ok hfree
  rw [hcl] at ck
  refine PySem.W.kla_eval hdef ?_
  rw [hq]
  have bP : s.heap.BuiltinsAt X.mg P := TB.bm.keeps I.bk
  have gP : s.heap.get? P = some { cls := .none, data := .fields ps } := I.hok P _ hP
  -- the function's object is laid, told whole
  have lay : ∀ {H1 : Hp} {h' : Heap} {pm ct : Value} {c' : Addr} {tk : Nat}, Inv X pins σ H1 { s with heap := h', toks := tk } → LamX.ExtN H H1 → LamX.Tabs [(P, q)] H1 → H1 c' = some (LamX.CodeO c' q) →
      EP X pins σ Q (.ref h'.objs.size) { s with heap := h'.push (lamObj q params body scope [(y, ccOf X y)] pm c' ct), toks := tk } := by
    intro H1 h' pm ct c' tk I1 eN t1 hco
    have J := I1.laid (t' := tk) (a := h'.objs.size) (o := pinO h'.objs.size (lamObj q params body scope [(y, ccOf X y)] pm c' ct)) (h' := h'.push (lamObj q params body scope [(y, ccOf X y)] pm c' ct))
      (fun b o e => Heap.get?_push_of_some _ e) (Nat.le_refl _) (pinO_ok (Heap.get?_push_size _ rfl))
    exact ⟨.ref h'.objs.size, _, J, rfl, h _ c' pm ct H1 eN t1 (I1.hok.fresh (Nat.le_refl _)) hco⟩
  cases hc : codeAmong pos ps.toList with
  | some cv =>
    obtain ⟨c', e, hco⟩ := ha pos cv hc
    subst e
    refine PySem.W.kla_makeFunctionHit (mg := X.mg) (c := c) (P := P) (ps := ps) ck I.ok.glob (I.mod.glob.keeps I.bk) hcode (TB.code.keeps I.bk) gP ht hc bP fun ct h' tk hx _ => ?_
    exact lay (I.kept (t' := tk) hx) (LamX.ExtN.refl H) hT hco
  | none =>
    refine PySem.W.kla_makeFunction (mg := X.mg) (c := c) (P := P) (ps := ps) ck I.ok.glob (I.mod.glob.keeps I.bk) hcode (TB.code.keeps I.bk) gP ht hc TB.gP bP fun c' ct h' tk hx hge hlt hrec htb => ?_
    obtain ⟨c2, oc, vs, t, e2, hoc, hd, hv⟩ := hrec
    cases e2
    have nC : H c' = none := I.hok.fresh hge
    have I1 := LamX.inv_table (t' := tk) (more := #[rawInt pos.line, rawInt pos.col, .ref c']) (q := q) I hP (fun b o hb e => hx b o hb e) htb hge ⟨oc, vs, t, hoc, hd, hv⟩
    refine lay I1 (fun b o e n => ?_) (fun p hp => ?_) upd_same
    · rw [upd_ne (ne_of_none e nC), upd_ne (fun z => n ps (Option.some.inj (e.symm.trans (by rw [z]; exact hP))))]
      exact e
    · obtain rfl : p = (P, q) := by simpa using hp
      have eL : (ps ++ #[rawInt pos.line, rawInt pos.col, .ref c']).toList = ps.toList ++ [rawInt pos.line, rawInt pos.col, .ref c'] := by simp
      refine ⟨_, (upd_ne (ne_of_none hP nC)).trans upd_same, by rw [eL]; exact PySem.TriplesOk_snoc _ _ _ _ ht, fun p' cv hcv => ?_⟩
      rw [eL] at hcv
      rcases LamX.among_app _ ht hcv with z | z
      · obtain ⟨c0, z1, z2⟩ := ha p' cv z
        refine ⟨c0, z1, ?_⟩
        rw [upd_ne (ne_of_none z2 nC), upd_ne (fun z3 => LamX.codeO_ne ps (Option.some.inj (z2.symm.trans (by rw [z3]; exact hP))))]
        exact z2
      · exact ⟨c', z, upd_same⟩
end K5
set_option Elab.async false
set_option linter.all false
set_option maxRecDepth 100000
set_option maxHeartbeats 2000000
/-! Rules: a lambda without parameters, one captured name, is called. -/
namespace K5
open PySem PySem.Spec PyProof.Rows L2
/-! ### its body's context -/
abbrev envL (q : Str) (scope : Scope) (L f c' : Addr) (y : Str) (cc : Addr) : Env := PySem.W.envX q scope L f (.ref c') [(y, cc)]
def cxL (CX : CXT) (P : Program) (w : World) (K : PySem.W.Frag) (mg : Str → Option Value) (base : Heap) (q : Str) (scope : Scope) (y : Str) (f c' cc : Addr) (A : Around) (outer : List Env) (s : Shared) (H : Hp) (E : XK) : Cx where
  prog := P
  w := w
  K := K
  mg := mg
  base := base
  A := A.deeper (envL q scope s.heap.objs.size f c' y cc)
  N := [y]
  s_0 := s
  H_0 := H
  env := envL q scope s.heap.objs.size f c' y cc
  outer := outer
  stack := envL q scope s.heap.objs.size f c' y cc :: outer
  ex := []
  fn := fun _ => false
  calm := true
  pn := []
  xe := fun e s' => wpAny (model P w) (A.deeper (envL q scope s.heap.objs.size f c' y cc)) (leaving (envL q scope s.heap.objs.size f c' y cc) e) (fun _ s'' => CX outer H s E e s'') (fun e' s'' => CX outer H s E e' s'') s'
/-- no parameter, one captured name, the others are globals -/
structure LamOne (y : Str) (scope : Scope) : Prop where
  kind : scope.kind = .function
  co : scope.isCoroutine = false
  gen : scope.isGenerator = false
  own : ∀ z ∈ scope.names, z.2 ≠ .local ∧ z.2 ≠ .cell
  one : ∀ z ∈ scope.names, z.2 = .free → z.1 = y
  has : scope.names.lookup y = some .free
theorem lam_in {CX : CXT} {P : Program} {w : World} {K : PySem.W.Frag} {mg : Str → Option Value} {base : Heap} {q : Str} {scope : Scope} {y : Str} {f c' cc : Addr} {A : Around} {outer : List Env} {s : Shared} {H : Hp} {E : XK} {h1 : Heap} {tk : Nat} {o : Obj} {v : V}
    (L : LamOne y scope) (e0 : Env0 P w K mg base A outer s H) (hd : A.handled = none) (hns : h1.Ns s.heap.objs.size fun z => ([] : List (Str × Value)).reverse.lookup z) (kp : ∀ b o, s.heap.get? b = some o → h1.get? b = some o)
    (ho : s.heap.get? cc = some o) (hv : CellOf o v) (hn : H cc = none) : Inv (cxL CX P w K mg base q scope y f c' cc A outer s H E) [] [some v] H { s with heap := h1, toks := tk } := by
  obtain ⟨u, hu, ru⟩ := hv
  have lk : ∀ z c, ([(y, cc)] : List (Str × Addr)).lookup z = some c → z = y ∧ c = cc := by
    intro z c e
    by_cases d : z = y
    · subst d
      have e2 : some cc = some c := by simpa [List.lookup] using e
      exact ⟨rfl, (Option.some.inj e2).symm⟩
    · have b : (z == y) = false := by simpa using d
      simp [List.lookup, b] at e
  have at_ : ([(y, cc)] : List (Str × Addr)).lookup y = some cc := by simp [List.lookup]
  have noA : ∀ b : Addr, b ∉ (cxL CX P w K mg base q scope y f c' cc A outer s H E).ex := fun b z => nomatch (show b ∈ ([] : List Addr) from z)
  have cell1 : h1.IsCell cc (some u) := ⟨o, kp _ _ ho, hu⟩
  exact {
    ok := {
      mod := e0.mod
      kind := L.kind
      glob := rfl
      blt := rfl
      above := Nat.le_refl _
      inj := fun a b c p1 p2 => (lk a c p1).1.trans (lk b c p2).1.symm
      has := fun z hz => by
        rcases hz with hz | hz
        · exact absurd rfl (L.own _ (PySem.mem_of_lookup hz)).2
        · exact ⟨cc, by rw [show z = y from L.one _ (PySem.mem_of_lookup hz) rfl]; exact at_⟩
      cab := fun z c hf _ => nomatch (show false = true from hf)
      hd := fun _ => hd
      frames := Around.frames_deeper e0.frames
      stk := .inr ⟨rfl, rfl⟩
      exf := fun b z => absurd z (noA b)
      bs := e0.bs
      bsz := e0.bsz
      noex := fun b _ _ => noA b
      exfs := fun b z => absurd z (noA b)
      funs := e0.funs
      frf := e0.frf }
    os := rfl
    bare := e0.bare
    base := Un.kept kp
    loc := ⟨_, hns, fun i z v' h1' h2 h3 => by
      have hi : i = 0 := by
        cases i with
        | zero => rfl
        | succ n =>
          have e : ([some v] : List (Option V))[n + 1]? = some (some v') := h2
          simp at e
      subst hi
      have ez : y = z := Option.some.inj h1'
      have ev : v = v' := Option.some.inj (Option.some.inj h2)
      subst ez ev
      exact ⟨u, ru, .inr ⟨.inr L.has, cc, at_, cell1⟩⟩⟩
    cell := fun z c e => by
      rw [(lk z c e).2]
      exact ⟨_, cell1⟩
    free := e0.hok.fresh (Nat.le_refl _)
    freeC := fun z c e => by
      rw [(lk z c e).2]
      exact hn
    pin := fun p hp => nomatch (show p ∈ ([] : List (Addr × Obj)) from hp)
    hok := e0.hok.kept kp
    len := rfl }
/-! ### the call -/
/-- a lambda at f: made of body and scope in the def of the name q, the cell of y at cc -/
structure LamAt (q : Str) (params : Arguments) (body : Expr) (scope : Scope) (y : Str) (H : Hp) (f cc : Addr) (o : Obj) (v : V) : Prop where
  fn : ∃ (c' : Addr) (pm ct : Value), H f = some (pinO f (lamObj q params body scope [(y, cc)] pm c' ct)) ∧ H c' = some (LamX.CodeO c' q)
  cell : H cc = some (pinO cc o)
  val : CellOf o v
section
variable {P : Program} {w : World} {K : PySem.W.Frag} {mg : Str → Option Value} {base : Heap} {q : Str} {params : Arguments} {body : Expr} {scope : Scope} {y : Str} {k : Nat} {tb : XK → TE}
/-- an error that leaves, the cell told again -/
theorem cx_back {outer : List Env} {H : Hp} {s s' : Shared} {E : XK} {u : Value} {cc : Addr} {o : Obj} (hc : H cc = some (pinO cc o)) (ho : s.heap.get? cc = some o) (hf : cc ∉ frs outer)
    (h : L2N.CX P w outer (del H cc) s (fun cls d H' => H' cc = none → E cls d (upd H' cc (pinO cc o))) u s') : L2N.CX P w outer H s E u s' := by
  obtain ⟨a, B, H', cls, d, e, fl, hok, ub, na, os, ag, hE⟩ := h
  have hB : B.get? cc = some o := ub.keep cc o ho del_same hf
  have ne : a ≠ cc := fun z => by
    have q := fl.2.1
    rw [z, hB] at q
    cases q
  exact ⟨a, B, upd H' cc (pinO cc o), cls, d, e, fl, pin_hok hok (ub.free cc o ho del_same) hB, ub_back hc ub, (upd_ne ne).trans na, os, ag, hE (ub.free cc o ho del_same)⟩
theorem lam_run (L : LamOne y scope) (hbind : ∀ (cl : List (Str × Addr)) (pm cv ct : Value), bindArgs (PySem.W.kla_fn "<lambda>" q params body scope cl pm cv ct) ⟨[], []⟩ = pure [])
    (hbody : ∀ (A : Around) (outer : List Env) (s : Shared) (H : Hp) (E : XK) (f c' cc : Addr), A.guards = some [] → Room k (A.deeper (envL q scope s.heap.objs.size f c' y cc)) → PE (cxL (L2N.CX P w) P w K mg base q scope y f c' cc A outer s H E) body (tb E))
    {A : Around} {outer : List Env} {s : Shared} {H : Hp} {Q : VK} {E : XK} {f cc : Addr} {o : Obj} {v : V} (hg : A.guards = some []) (hr : Room (k + 1) A) (e0 : Env0 P w K mg base A outer s H) (hl : LamAt q params body scope y H f cc o v)
    (h : tb (fun cls d H' => H' cc = none → E cls d (upd H' cc (pinO cc o))) [some v] (del H cc) fun r H' => H' cc = none → Q r (upd H' cc (pinO cc o))) :
    codeAny (model P w) A (.call (.ref f) ⟨[], []⟩) (CR (L2N.CX P w) outer P w H s Q E) s := by
  obtain ⟨⟨c', pm, ct, hf, hc'⟩, hc, hv⟩ := hl
  have of1 := pinO_at e0.hok hf
  have ho := pinO_at e0.hok hc
  have nfr : cc ∉ frs outer := fun z => by
    have q := e0.frf cc z
    rw [hc] at q
    cases q
  obtain ⟨⟨oc, vs, t, hoc, hdc, hvc⟩, _, _⟩ := e0.hok c' _ hc'
  have lim : s.heap.NoLimit := e0.mod.nolimit.keeps fun b o e => (e0.bs b o e).1
  have e1 : Env0 P w K mg base A outer s (del H cc) := ⟨e0.frames, e0.mod, fun b q e => ⟨(e0.bs b q e).1, by
      unfold del
      split
      · rfl
      · exact (e0.bs b q e).2⟩, e0.bsz, e0.funs, fun b hb => by
      unfold del
      split
      · rfl
      · exact e0.frf b hb, unpin_hok e0.hok hc, e0.bare⟩
  refine PySem.W.kla_callFunE hr.depth of1 rfl L.co L.gen rfl ⟨c', oc, vs, t, rfl, hoc, hdc, hvc⟩ ?_
  rw [hbind]
  refine wpAny_pure (wpAny_newFunctionEnv (fun z hz => (L.own z hz).2) (fun z hz => nomatch hz) (fun h1 hns hsb => ⟨lim.fresh _ hsb, ?_⟩) L.kind)
  have kp : ∀ b o, s.heap.get? b = some o → h1.get? b = some o := fun b o e => hsb.extBut b o (Nat.ne_of_lt (Heap.lt_size e)) (Heap.get?_push_of_some _ e)
  have J := lam_in (CX := L2N.CX P w) (q := q) (f := f) (c' := c') (cc := cc) (E := fun cls d H' => H' cc = none → E cls d (upd H' cc (pinO cc o))) (tk := s.toks + ([] : List (Str × Value)).length) L e1 hr.hd hns kp ho hv del_same
  show codeAny _ _ (.expr body (envL q scope s.heap.objs.size f c' y cc)) _ _
  refine PySem.W.kla_codeExpr (wpAny_mono ((hbody A outer s _ _ f c' cc hg (hr.deeper _)).run [] _ _ _ _ J h) (fun r s' hq => ?_) fun e s' hq => ?_)
  · obtain ⟨z, H', J', rz, hQ⟩ := hq
    have un : Un (frs outer) [] (del H cc) H' s.heap s'.heap := J'.base
    have g1 : s'.heap.get? cc = some o := un.keep cc o ho del_same nfr (by simp)
    have n1 : H' cc = none := un.free cc o ho del_same (by simp)
    exact ⟨z, upd H' cc (pinO cc o), J'.os, J'.bare, un_back hc un, pin_hok J'.hok n1 g1, rz, hQ n1⟩
  · refine wpAny_mono (show wpAny _ _ _ _ _ _ from hq) (fun _ s2 h2 => ?_) fun e2 s2 h2 => ?_
    · exact cx_back hc ho nfr h2
    · exact cx_back hc ho nfr h2
end
/-- a local name that holds a function object is called without arguments -/
theorem pe_actG {X : Cx} {i : Nat} {a : Str} {p1 p2 : Pos} {E : XK} (AP : Addr → Hp → VK → XK → Prop)
    (fnAt : ∀ f H s, AP f H (fun _ _ => True) (fun _ _ _ => True) → HOk X.prog X.w H s → PySem.W.FnAt f s)
    (weak : ∀ f H Q E, AP f H Q E → AP f H (fun _ _ => True) (fun _ _ _ => True))
    (run : ∀ f H Q E s, AP f H Q E → Env0 X.prog X.w X.K X.mg X.base X.A X.stack s H → codeAny (model X.prog X.w) X.A (.call (.ref f) ⟨[], []⟩) (CR (L2N.CX X.prog X.w) X.stack X.prog X.w H s Q E) s)
    (hx : Passes (L2N.CX X.prog X.w) X E) (hN : X.N[i]? = some a) (hv : Vis X.env.scope a) (hd : (a == ("__debug__" : Str)) = false := by decide) (hcd : (a == ("__classdict__" : Str)) = false := by decide) :
    PE X (.Call (.Name a p1) [] [] p2) (fun σ H Q => ∃ f, σ[i]? = some (some (.ref f)) ∧ AP f H Q E) := by
  refine ⟨fun pins s σ H Q I h => ?_⟩
  obtain ⟨f, hs, h⟩ := h
  refine wpAny_Call_Name_kw (thn ((pe_var (pos := p1) (i := i) hN hv hd hcd).run pins s σ H (fun v H1 => v = .ref f ∧ H1 = H) I ⟨.ref f, hs, rfl, rfl⟩) ?_)
  rintro u s1 ⟨v, H1, I1, r1, rfl, rfl⟩
  obtain rfl : u = Value.ref f := r1
  refine PySem.W.callWith_F0 (fnAt f _ _ (weak _ _ _ _ h) I1.hok) ?_
  refine wpAny_call (codeAny_mono (run f _ Q E s1 h I1.env0) fun r s' hq => ?_)
  cases r with
  | error er => exact hx pins σ _ s1 er s' I1 hq
  | ok fl =>
    cases fl with
    | ret u => exact I1.after hq
    | next => exact (show False from hq).elim
    | brk => exact (show False from hq).elim
    | cont => exact (show False from hq).elim
/-- the same in a try's body: the wish of errors leans on the slots -/
theorem pe_actS {X : Cx} {i : Nat} {a : Str} {p1 p2 : Pos} {E : L2.St → XK} (AP : Addr → Hp → VK → XK → Prop)
    (fnAt : ∀ f H s, AP f H (fun _ _ => True) (fun _ _ _ => True) → HOk X.prog X.w H s → PySem.W.FnAt f s)
    (weak : ∀ f H Q E, AP f H Q E → AP f H (fun _ _ => True) (fun _ _ _ => True))
    (run : ∀ f H Q E s, AP f H Q E → Env0 X.prog X.w X.K X.mg X.base X.A X.stack s H → codeAny (model X.prog X.w) X.A (.call (.ref f) ⟨[], []⟩) (CR (L2N.CX X.prog X.w) X.stack X.prog X.w H s Q E) s)
    (hx : ∀ σ, L2.PassesAt (L2N.CX X.prog X.w) X σ (E σ)) (hN : X.N[i]? = some a) (hv : Vis X.env.scope a) (hd : (a == ("__debug__" : Str)) = false := by decide) (hcd : (a == ("__classdict__" : Str)) = false := by decide) :
    PE X (.Call (.Name a p1) [] [] p2) (fun σ H Q => ∃ f, σ[i]? = some (some (.ref f)) ∧ AP f H Q (E σ)) := by
  refine ⟨fun pins s σ H Q I h => ?_⟩
  obtain ⟨f, hs, h⟩ := h
  refine wpAny_Call_Name_kw (thn ((pe_var (pos := p1) (i := i) hN hv hd hcd).run pins s σ H (fun v H1 => v = .ref f ∧ H1 = H) I ⟨.ref f, hs, rfl, rfl⟩) ?_)
  rintro u s1 ⟨v, H1, I1, r1, rfl, rfl⟩
  obtain rfl : u = Value.ref f := r1
  refine PySem.W.callWith_F0 (fnAt f _ _ (weak _ _ _ _ h) I1.hok) ?_
  refine wpAny_call (codeAny_mono (run f _ Q (E σ) s1 h I1.env0) fun r s' hq => ?_)
  cases r with
  | error er => exact hx σ pins _ s1 er s' I1 hq
  | ok fl =>
    cases fl with
    | ret u => exact I1.after hq
    | next => exact (show False from hq).elim
    | brk => exact (show False from hq).elim
    | cont => exact (show False from hq).elim
end K5
set_option Elab.async false
set_option linter.all false
set_option maxRecDepth 100000
set_option maxHeartbeats 2000000
/-! Rules: try .. except (A, B, C) as e; an own error made by its own __init__, its context None. -/
namespace K5
open PySem PySem.Spec PyProof.Rows L2
theorem fly_kept {B h h' : Heap} {l : List Env} {a : Addr} {Z : Obj → Prop} (x : HandSPX.FlyingZ B l a Z h) (k : ∀ b o, h.get? b = some o → h'.get? b = some o) : HandSPX.FlyingZ B l a Z h' := by
  obtain ⟨f1, f2, f3, oe, vs, T, oT, ts, p1, p2, p3, p4, p5, p6, p7, p8, p9⟩ := x
  exact ⟨fun b o e => k b o (f1 b o e), f2, f3.of_keeps fun b o e _ => ⟨o, k b o e, rfl⟩, oe, vs, T, oT, ts, k _ _ p1, p2, p3, p4, p5, p6, k _ _ p7, p8, p9⟩
/-- what the clause wishes: every error of the body is one of the three -/
def wTup (K : PySem.W.Frag) (cs : List Value) (i : Nat) (ts : Addr → Value → Option Addr → TS) (D : Ends) : WX := fun cls d σ H => PySem.W.exmAny K cls cs = some true ∧ ∀ a, H a = none →
  ts a cls d { nx := fun σ' H' => D.nx (σ'.set i none) H', rt := D.rt, bk := fun σ' H' => D.bk (σ'.set i none) H', ct := fun σ' H' => D.ct (σ'.set i none) H' } (σ.set i (some (.ref a))) H
section
variable {X : Cx} {x1 x2 x3 n : Str} {c1 c2 c3 : Value} {i : Nat} {body suite : List Stmt} {b0 : Stmt} {q1 q2 q3 pt pos pos' : Pos} {kt : Nat} {tb : WX → TS} {ts : Addr → Value → Option Addr → TS}
theorem ps_try_tup (hs : X.stack = X.env :: X.outer) (hf : X.env.frame = some X.env.locals) (hN : X.N.Nodup) (hi : X.N[i]? = some n) (hln : X.env.kindOf n = some .local)
    (g1 : Gl X x1 ∧ X.mg x1 = some c1 ∧ (x1 == ("__debug__" : Str)) = false) (g2 : Gl X x2 ∧ X.mg x2 = some c2 ∧ (x2 == ("__debug__" : Str)) = false) (g3 : Gl X x3 ∧ X.mg x3 = some c3 ∧ (x3 == ("__debug__" : Str)) = false)
    (hb : ∀ (W : WX) (pn : List (Addr × Obj)) (xe : Value → Shared → Prop), L2N.Takes (X.tr pn xe) W → PassesOwn (model X.prog X.w) X.A X.env xe → PSs (X.tr pn xe) body (tb W))
    (hsu : ∀ (a : Addr) (oe : Obj) (cls : Value) (d : Option Addr) (pn : List (Addr × Obj)), L2N.Zn cls d oe → (∃ vs, oe.data = .fields vs) → PSs (X.suite a ((a, oe) :: pn)) (b0 :: suite) (ts a cls d))
    (h1s : starEach [.Name x1 q1, .Name x2 q2, .Name x3 q3] X.env = [(false, eval (.Name x1 q1) X.env), (false, eval (.Name x2 q2) X.env), (false, eval (.Name x3 q3) X.env)] := by rfl) :
    PS X (.Try body [.ExceptHandler (some (.Tuple [.Name x1 q1, .Name x2 q2, .Name x3 q3] kt pt)) (some n) (b0 :: suite) pos'] [] [] pos) (fun D σ H => tb (wTup X.K [c1, c2, c3] i ts D) D σ H) := by
  refine ⟨fun pins s σ H D I h => ?_⟩
  have ok := I.ok
  have hfr : X.A.frames = some (X.env :: X.outer) := ok.frames.trans (congrArg some hs)
  refine wpAny_Try_except ?_
  refine wpAny_mono ((hb (wTup X.K [c1, c2, c3] i ts D) (X.pn ++ pins) _ (fun u s' xx => ?_) PassesOwn.looking).run [] s σ H D (I.toTry _) h) (fun f s1 hsp => ?_) (fun e s1 he => he)
  · obtain ⟨a, B, sI, pins', σ', H', cls, d, rfl, J', nb, up, sky, na, os, ag, hm, hyes⟩ := xx
    have J : Inv X pins σ' H' sI := J'.ofTry ok
    show wpAny (model X.prog X.w) X.A (noteFrame (.ref a) X.env) _ _ _
    refine L2N.Sky.land L2N.Zn.steady hfr hf (by rw [← hs]; exact sky) fun h3 fl3 up3 => ?_
    have J3 : Inv X pins σ' H' { s' with heap := h3 } := J.landed nb fl3.1 (up.trans up3) os ag
    obtain ⟨oe3, vs3, he3, hz3, hd3⟩ := fl3.there
    have nfr : a ∉ frs (X.env :: X.outer) := fun hmem => by
      obtain ⟨_, o', e', hnf⟩ := fl3.2.2.1.mem hmem
      rw [he3] at e'
      cases e'
      exact hnf _ hd3
    have nL : a ≠ X.env.locals := fun z => nfr (List.mem_filterMap.mpr ⟨X.env, List.mem_cons_self, by rw [hf, z]⟩)
    have nF : a ∉ X.fs := fun hmem => by
      obtain ⟨e, he, q⟩ := List.mem_filterMap.mp hmem
      exact nfr (List.mem_filterMap.mpr ⟨e, List.mem_cons_of_mem _ he, q⟩)
    have S3 := J3.suite he3 hd3 na nL nF
    refine wpAny_handleBy_cons (codeAny_handlers_test ?_) (by intro q; cases q)
    -- the tuple of the three classes
    refine wpAny_Tuple_spliced ?_
    show wpAny _ _ (spliced (backTo pt (starEach _ X.env))) _ _ _
    rw [h1s]
    refine Calls.spliced_cons (ld_glob (X := X.suite a ((a, oe3) :: (X.pn ++ pins))) S3 g1.1 g1.2.1 ?_ g1.2.2)
    refine Calls.spliced_cons (ld_glob (X := X.suite a ((a, oe3) :: (X.pn ++ pins))) S3 g2.1 g2.2.1 ?_ g2.2.2)
    refine Calls.spliced_cons (ld_glob (X := X.suite a ((a, oe3) :: (X.pn ++ pins))) S3 g3.1 g3.2.1 ?_ g3.2.2)
    refine Calls.spliced_nil ⟨by show 3 ≤ sizeLine; decide, ?_⟩
    have kp : ∀ b o, h3.get? b = some o → (h3.push { cls := .type "tuple", data := .seq [c1, c2, c3].toArray }).get? b = some o := fun b o e => Heap.get?_push_of_some _ e
    have fl5 := fly_kept fl3 kp
    have up5 : sI.heap.UpToSlots (h3.push { cls := .type "tuple", data := .seq [c1, c2, c3].toArray }) := (up.trans up3).trans (Heap.UpToSlots.of_keeps kp)
    have LT : PySem.W.Looks (model X.prog X.w) (h3.push { cls := .type "tuple", data := .seq [c1, c2, c3].toArray }) (typeOf (.ref a)) cls := fun A Q E s k q => wpAny_typeOf_ref (k _ _ (kp _ _ he3)) (by rw [hz3.1]; exact q)
    have LM := PySem.W.exm_tup3 (M := model X.prog X.w) (J3.kIn.keeps kp) LT (Heap.get?_push_size h3 rfl) hm
    refine LM.here ?_
    refine codeAny_handlers_suite_as ?_
    refine HandSPX.lands_againZ fl5 fun h4 fl4 up4 => ?_
    have J4 : Inv X pins σ' H' { s' with heap := h4 } := J.landed nb fl4.1 (up5.trans up4) os ag
    obtain ⟨oe4, vs4, he4, hz4, hd4⟩ := fl4.there
    have S4 := J4.suite he4 hd4 na nL nF
    refine store_ok (X := X.suite a ((a, oe4) :: (X.pn ++ pins))) (v := .ref a) S4 hN hi (.inl hln) rfl (fun s5 S5 => ?_) (.inr hln)
    refine wpAny_mono ((hsu a oe4 cls d (X.pn ++ pins) hz4 ⟨_, hd4⟩).run [] s5 _ H' _ S5 (hyes a na)) (fun f s6 hsp => ?_) (fun _ _ z => False.elim z)
    have fin : ∀ {σ6 : St} {H6 : Hp} {Q : Shared → Prop}, Inv (X.suite a ((a, oe4) :: (X.pn ++ pins))) [] σ6 H6 s6 → (∀ s7, Inv X pins (σ6.set i none) H6 s7 → Q s7) →
        wpAny (model X.prog X.w) X.A (do bindName X.env n .none; unbindBehindTheSuite X.env n pos') (fun _ s7 => Q s7) X.xe s6 := fun {σ6 H6 Q} S6 hq => gone_ok (S6.unsuite ok) hN hi hln hq
    cases f with
    | next =>
      obtain ⟨σ6, H6, S6, q6⟩ := hsp
      exact fin S6 fun s7 J7 => ⟨_, _, J7, q6⟩
    | brk =>
      obtain ⟨σ6, H6, S6, q6⟩ := hsp
      exact fin S6 fun s7 J7 => ⟨_, _, J7, q6⟩
    | cont =>
      obtain ⟨σ6, H6, S6, q6⟩ := hsp
      exact fin S6 fun s7 J7 => ⟨_, _, J7, q6⟩
    | ret u =>
      obtain ⟨v6, σ6, H6, S6, r6, q6⟩ := hsp
      exact fin S6 fun s7 J7 => ⟨_, _, _, J7, r6, q6⟩
  · cases f with
    | next =>
      obtain ⟨σ', H', J', q⟩ := hsp
      exact wpAny_execs_nil ⟨σ', H', J'.ofTry ok, q⟩
    | brk =>
      obtain ⟨σ', H', J', q⟩ := hsp
      exact ⟨σ', H', J'.ofTry ok, q⟩
    | cont =>
      obtain ⟨σ', H', J', q⟩ := hsp
      exact ⟨σ', H', J'.ofTry ok, q⟩
    | ret u =>
      obtain ⟨v, σ', H', J', r, q⟩ := hsp
      exact ⟨v, σ', H', J'.ofTry ok, r, q⟩
end
/-! ### raise X(e), X's own __init__ a def; nothing is handled: the error's context is None -/
theorem pmk_new {X : Cx} {CX : CXT} {x : Str} {C fI : Addr} {k : Nat} {fd : FuncData} {ps : List Str} {sp : Sp} {e : Expr} {es : List Expr} {ta : TA} {p pos : Pos} (T : OexC X.K C) (iC : PySem.W.findIn X.K (.ref C) "__init__" = some (some (.ref fI))) (tI : PySem.W.typeIn X.K (.ref fI) = some (.type "function"))
    (F1 : FnOk X.prog X.w X.K X.mg X.base CX0 k fI fd ps sp) (hr : Room (k + 1) X.A) (hb : Binds X.K fd ps []) (hg : Gl X x) (hm : X.mg x = some (.ref C)) (ha : PA X (e :: es) ta)
    (hdb : (x == ("__debug__" : Str)) = false := by decide) (he : starEach (e :: es) X.env = (false, eval e X.env) :: starEach es X.env := by rfl) (hpl : (backTo pos (starEach es X.env)).any (·.1) = false := by rfl) :
    L2N.PMk X (.Call (.Name x p) (e :: es) [] pos) (tMkO C sp [] ta) := by
  intro pins s σ H Q I h
  obtain ⟨nm, qn, N, bs, bm, sn, sub, ab, col, dd, k0, k1, k2, k3, k5, hC, hbm⟩ := T.cls
  refine wpAny_Call_Name_kw (ld_glob I hg hm ?_ hdb)
  refine PySem.W.callWith_K (h₀ := X.base) I.ok.mod.kin T.kC (thn (ha.run pos pins s σ H _ I h) ?_) he hpl
  rintro us s1 ⟨vs, H1, I1, r1, hz, go⟩
  refine ⟨I1.kIn, ?_⟩
  show wpAny _ _ (call (.ref C) us) _ _ _
  obtain ⟨hp, g, dr, tk, os⟩ := s1
  have up : hp.objs.size ≤ hp.objs.size + 1 := Nat.le_succ _
  have hq := go (hp.objs.size + 1) (I1.hok.fresh up)
  have kk : ∀ b o, hp.get? b = some o → ((hp.push (PySem.W.kdv_tup us)).push (PySem.HandSPX.excO C hp.objs.size)).get? b = some o := fun b o e => Heap.get?_push_of_some _ (Heap.get?_push_of_some _ e)
  have at1 : ((hp.push (PySem.W.kdv_tup us)).push (PySem.HandSPX.excO C hp.objs.size)).get? (hp.objs.size + 1) = some (PySem.HandSPX.excO C hp.objs.size) := by heap_get
  have I2 : Inv X pins σ (upd H1 (hp.objs.size + 1) (exo (hp.objs.size + 1) C none)) ⟨(hp.push (PySem.W.kdv_tup us)).push (PySem.HandSPX.excO C hp.objs.size), g, dr, tk, os⟩ := I1.laid (t' := tk) kk up (exo_ok at1)
  have r2 : Vals (V.ref (hp.objs.size + 1) :: (vs ++ [])) (Value.ref (hp.objs.size + 1) :: us) := .cons rfl (by rw [List.append_nil]; exact r1)
  have hl : (Value.ref (hp.objs.size + 1) :: us ++ []).length = ps.length := by
    rw [List.append_nil, ← r2.length]
    exact F1.len _ _ _ _ hq
  have bd := hb _ (Value.ref (hp.objs.size + 1) :: us) I2.kIn hl
  rw [List.append_nil] at bd
  have hus : us.length ≤ sizeLine := by
    rw [← Paired.length r1, sizeLine_eq]
    omega
  refine wpAny_call (PySem.HandSPX.call_own F.excBase_ValueError (fun Y => PySem.HandSPX.refsVE_contains Y bm hbm) (I1.kIn _ _ hC) (PySem.W.looks_findIn I1.kIn iC) (fun self => PySem.W.bind_fn I1.kIn self tI) hus ?_)
  refine codeAny_mono (F1.run _ X.stack _ _ ⟨Value.ref (hp.objs.size + 1) :: us, []⟩ (Value.ref (hp.objs.size + 1) :: us) _ _ (fun _ _ _ => False) (hr.make C us []) (I2.env0.make C us []) bd r2 hq) fun r s' hq' => ?_
  cases r with
  | error er => exact (show False from hq').elim
  | ok fl =>
    cases fl with
    | next => exact (show False from hq').elim
    | brk => exact (show False from hq').elim
    | cont => exact (show False from hq').elim
    | ret u =>
      obtain ⟨v, H2, os2, bare2, un2, hok2, rv, ev, d, fs, ea, ed, hd1, q2⟩ := hq'
      subst ev
      obtain ⟨h2, g2, d2, t2, os'⟩ := s'
      obtain ⟨t0, G, J, kG, ge, hoe, na⟩ := mk_end0 (d2 := d2) (t2 := t2) I1 up kk un2 hok2 os2 bare2 ea ed hd1
      exact ⟨rv, hp.objs.size + 1, _, _, ⟨G, g2, d2, t2, os'⟩, _, .ref C, some d, rfl, J, kG, ge, hoe, ⟨rfl, rfl, fun vs e => by cases e; rfl⟩, rfl, rfl, na, rfl, bare2, raises_own T.exC T.tyC, q2⟩
end K5
set_option Elab.async false
set_option linter.all false
set_option maxRecDepth 100000
set_option maxHeartbeats 2000000
/-! Rules: comprehensions over a list, over a range, within an except suite. -/
namespace K5
open PySem PySem.Spec PyProof.Rows L2
open L2H (HotC Hot1 TurnH PIH PIEH)
/-! ### a list's end while an error is handled -/
section
variable {prog : Program} {w : World} {A : Around} {E : Value → Shared → Prop} {s : Shared}
theorem list_end_hot {it l x1 : Addr} {i : Nat} {items : Array Value} {Q : Option Value → Shared → Prop} (hot : HotX.HotAt A x1 s.heap) (hne : x1 ≠ it) (hit : s.heap.IsListIter it l i) (hl : s.heap.IsList l items) (hx : items[i]? = none)
    (hQ : ∀ h', (∀ b o, b ≠ it → s.heap.get? b = some o → h'.get? b = some o) → Q none { s with heap := h' }) : wpAny (model prog w) A (pyNext (.ref it)) Q E s := by
  obtain ⟨o, ho, hc, hd⟩ := id hit
  obtain ⟨ol, hol, _, nl, hdl⟩ := hl
  obtain ⟨hh, o1, vs1, h1, d1, c1⟩ := hot
  unfold pyNext
  refine wpAny_bind (wpAny_attempt (wpAny_callSpecial?_slot (name := Str.ofString "__next__") hit.typeIs slot_listiter_next
    (wpAny_call_entry slot_listiter_next hit.typeIs entry_listiter_next ?_ (args_listiter_next _))))
  show wpAny _ _ (field (.ref it) 0 >>= _) _ _ s
  refine wpAny_bind (wpAny_field ho hd (x := .ref l) rfl ?_)
  show wpAny _ _ (if (Value.ref l == Value.none) = true then _ else _) _ _ s
  rw [if_neg (show ¬ ((Value.ref l == Value.none) = true) from Bool.false_ne_true)]
  show wpAny _ _ (field (.ref it) 1 >>= _) _ _ s
  refine wpAny_bind (wpAny_field ho hd (x := .int i 0) rfl ?_)
  show wpAny _ _ (seqItems? (.ref l) >>= _) _ _ s
  refine wpAny_bind (wpAny_seqItems hol hdl ?_)
  simp only [Int.toNat_natCast, hx]
  refine wpAny_bind (wpAny_rule (wpAny_bind (wpAny_setField ho hd (by simp) ?_)))
  show wpAny _ _ (newExc (.type "StopIteration") [] >>= _) _ _ _
  refine wpAny_bind ?_
  simp only [newExc, newTuple]
  refine wpAny_bind (wpAny_newObj_type ?_ (by size_fits))
  refine wpAny_bind (m := firstArgMember _ _) (wpAny_of_eq (a := Value.none) (by first | rfl | (simp only [firstArgMember]; rfl)) ?_)
  refine wpAny_newObj_type ?_ (by size_fits)
  have k1 := (Heap.get?_update_other s.heap (Obj.mapFields (·.setIfInBounds 0 Value.none)) (Ne.symm hne)).trans h1
  refine HotX.raiseNew_hot ⟨hh, o1, vs1, Heap.get?_push_of_some _ (Heap.get?_push_of_some _ k1), d1, c1⟩ (Nat.ne_of_lt (Heap.lt_size (Heap.get?_push_of_some _ k1))) (Heap.get?_push_size _ rfl) rfl (by first | (simp; done) | (simp; omega)) ?_
  refine wpAny_bind (wpAny_isInstance (T := "StopIteration") (b := true) ⟨_, Heap.get?_update_self _ (Heap.get?_push_size _ rfl) rfl, rfl⟩ isSubtype_stop ?_)
  refine wpAny_pure (hQ _ fun b o hb e => ?_)
  have k2 := (Heap.get?_update_other s.heap (Obj.mapFields (·.setIfInBounds 0 Value.none)) (Ne.symm hb)).trans e
  rw [Heap.get?_update_other _ _ (Nat.ne_of_gt (Heap.lt_size (Heap.get?_push_of_some _ k2)))]
  exact Heap.get?_push_of_some _ (Heap.get?_push_of_some _ k2)
end
theorem turn_listH {P : Program} {w : World} {K : PySem.W.Frag} {tg : Expr} (a it : Addr) : TurnH P w K tg (Itl K a) [it] it (fun i h => h.IsListIter it a i) where
  mem := List.mem_cons_self
  obj := (turn_list (P := P) (w := w) (K := K) (tg := tg) a it).obj
  keep := (turn_list (P := P) (w := w) (K := K) (tg := tg) a it).keep
  self := (turn_list (P := P) (w := w) (K := K) (tg := tg) a it).self
  item := by
    intro X hP hw hK _ i pins s σ H E I hf st hg
    subst hP hw hK
    obtain ⟨xs, x, hq, hx⟩ := hg
    obtain ⟨its, rv, p, _⟩ := I.list hq
    obtain ⟨u, hu, ru⟩ := rv.get hx
    obtain ⟨f0, f1, f2, f3, f4, f5⟩ := hf it List.mem_cons_self
    refine wpAny_pyNext_list_item st p.isList (x := u) (by simpa using hu) fun h' st' sb => ?_
    have I1 : Inv X pins σ H { s with heap := h' } := I.turned (t' := s.toks) (fun b o hb e => (sb.2 b hb).trans e) f0 f1 f3 f4 f5
    obtain ⟨o, e, c, d⟩ := id st'
    exact ⟨u, rfl, go_of (s := { s with heap := h' }) e c d (by decide) ⟨x, H, I1, ru, ⟨rfl, fun ys hy => by rw [I.list_inj hy hq]; exact hx⟩, st', fun b hb => (hf b hb).1⟩⟩
  done := by
    intro X hP hw hK hc i pins s σ H E I hf st hg
    subst hP hw hK
    obtain ⟨xs, hq, hx⟩ := hg
    obtain ⟨its, rv, p, _⟩ := I.list hq
    obtain ⟨f0, f1, f2, f3, f4, f5⟩ := hf it List.mem_cons_self
    have hl := rv.length
    obtain ⟨q, ⟨hh, v1, e1, c1⟩, hm⟩ := hc
    exact list_end_hot ⟨hh, q.2, v1, (I.pin q (List.mem_append_left _ hm)).1, e1, c1⟩ (f5 q (List.mem_append_left _ hm)) st p.isList (by simp; omega) fun h' eb => ⟨rfl, I.turned (t' := s.toks) (fun b o hb e => eb b o hb e) f0 f1 f3 f4 f5⟩
theorem pi_listH {X : Cx} {tg l : Expr} {tl : TE} (hl : PE X l tl) : PIH X tg l (iList X.K tl) := by
  refine ⟨fun pins s σ H R I h => thn (hl.run pins s σ H _ I h) ?_⟩
  rintro v s1 ⟨x, H1, I1, r1, a, e, ⟨xs, hq⟩, q⟩
  subst e
  obtain rfl : v = Value.ref a := r1
  obtain ⟨its, rv, p, _⟩ := I1.list hq
  refine wpAny_pyIter_list p.isList ⟨s1.heap.objs.size, [s1.heap.objs.size], _, _, H1, rfl, I1.kept (t' := s1.toks) fun b o e => Heap.get?_push_of_some _ e, turn_listH a _, ⟨_, Heap.get?_push_size _ rfl, rfl, rfl⟩, fun b hb => ?_, q⟩
  obtain rfl : b = s1.heap.objs.size := by simpa using hb
  exact I1.fpOk (Nat.le_refl _) (I1.hok.fresh (Nat.le_refl _))
/-! ### the comprehension -/
/-- the block's context, the handled error told -/
abbrev blkH (X : Cx) (p : Addr × Obj) (s : Shared) (H : Hp) (scope : Scope) (cl : List (Str × Addr)) (C : Addr) (fp : List Addr) : Cx := (X.blk s H scope (compEnvC scope cl C X.env) fp).tr [p] fun _ _ => False
section
variable {X : Cx} {p : Addr × Obj} {elt tg iter : Expr} {ifs : List Expr} {scope : Scope} {own : List (Str × Nat)} {pos : Pos} {wi : TI} {g : TG} {tt : TT} {te : TE}
theorem block_hot {pins : List (Addr × Obj)} {σ : St} {H : Hp} {s s' : Shared} {ce : Env} {fp : List Addr} {σ' : St} (hp : p ∈ X.pn) (I : Inv X pins σ H s) (hL : ce.locals = s.heap.objs.size) (k : ∀ b o, s.heap.get? b = some o → s'.heap.get? b = some o)
    (J : Inv (X.blk s H scope ce fp) [] σ' H s') : Inv ((X.blk s H scope ce fp).tr [p] fun _ _ => False) [] σ' H s' := by
  obtain ⟨e1, e2, e3, e4, e5⟩ := I.pin p (List.mem_append_left _ hp)
  have J1 : Inv (X.blk s H scope ce fp) [p] σ' H s' := J.pins_of fun q hq => by
    obtain rfl : q = p := by simpa using hq
    refine ⟨k _ _ e1, e2, fun z => ?_, fun z => ?_, e5⟩
    · have h1 := Heap.lt_size e1
      have z2 : q.1 = ce.locals := z
      rw [z2, hL] at h1
      exact Nat.lt_irrefl _ h1
    · rcases List.mem_cons.mp (I.stkSub q.1 z) with z2 | z2
      · exact e3 z2
      · exact e4 z2
  exact J1.toTry _
theorem pe_lcH (hh : Hot1 X.A p) (hp : p ∈ X.pn) (hN : X.N.Nodup) (hi : PIH X tg iter wi) (ok : BlkOk X.N X.env.scope scope own)
    (hg : ∀ (s : Shared) (H : Hp) (C : Addr) (cl : List (Str × Addr)) (fp : List Addr), PG (blkH X p s H scope cl C fp) tg g) (ht : ∀ (s : Shared) (H : Hp) (C : Addr) (cl : List (Str × Addr)) (fp : List Addr), PTs (blkH X p s H scope cl C fp) ifs tt)
    (he : ∀ (s : Shared) (H : Hp) (C : Addr) (cl : List (Str × Addr)) (fp : List Addr), PE (blkH X p s H scope cl C fp) elt te) (hs : ∀ x, foldedSetIterable iter X.env x = pure x := by intro _; rfl) :
    PE X (.ListComp elt [⟨tg, iter, ifs, 0⟩] scope pos) (tLc wi g tt te (own.map (·.2))) := by
  refine ⟨fun pins s σ H Q I h => ?_⟩
  rw [eval_ListComp]
  have hfree : ∀ y ∈ scope.names, y.2 = .free → ∃ c, X.env.cells.lookup y.1 = some c := fun y hy e => (ok.free y hy e).elim (fun k => I.ok.has _ (.inl k)) (fun k => I.ok.has _ (.inr k))
  refine wpAny_comprehension_free (use := none) rfl hs (closure_ok hfree) ok.kind (fun y hy e => by rw [ok.uniq y hy, e]) (thn (hi.run pins s σ H _ I h) fun xv s1 hx => thn hx ?_)
  rintro itv s2 ⟨it, fp, tn, J, H2, rfl, I2, T, st2, f2, q⟩
  refine wpAny_newObj_type (newEnv_comp ?_) (by show 0 ≤ sizeLine; decide)
  obtain ⟨D, hD⟩ : ∃ D, s2.heap.objs.size = D := ⟨_, rfl⟩
  rw [hD]
  have hDn : H2 D = none := I2.hok.fresh (Nat.le_of_eq hD)
  obtain ⟨W, ⟨m0, w0⟩, turn⟩ := q D hDn
  obtain ⟨s3, hs3⟩ : ∃ s3 : Shared, s3 = { s2 with heap := s2.heap.push { cls := .type "list", data := .seq ([] : List Value).toArray } } := ⟨_, rfl⟩
  rw [← hs3]
  have h3 : s3.heap = s2.heap.push { cls := .type "list", data := .seq ([] : List Value).toArray } := by rw [hs3]
  have I3 : Inv X pins σ (upd H2 D (.lst [])) s3 := by
    rw [hs3]
    exact I2.laid (t' := s2.toks) (fun b o e => Heap.get?_push_of_some _ e) (Nat.le_of_eq hD) ⟨Nat.zero_le _, [], 0, .nil, hD ▸ Heap.get?_push_size _ rfl⟩
  have f3 : ∀ b ∈ fp, FpOk X pins (upd H2 D (.lst [])) b ∧ b < s3.heap.objs.size := fun b hb => by
    obtain ⟨o, e, _⟩ := T.obj _ _ st2 b hb
    have hlt := Heap.lt_size e
    exact ⟨⟨(upd_ne (hD ▸ Nat.ne_of_lt hlt)).trans (f2 b hb).1, (f2 b hb).2⟩, by rw [h3, Heap.size_push]; exact Nat.lt_succ_of_lt hlt⟩
  have st3 : tn 0 s3.heap := T.keep _ _ _ st2 fun b _ o e => by rw [h3]; exact Heap.get?_push_of_some _ e
  have I4 := block_start I3 ok hN f3
  have c1 : PG ((X.blk s3 (upd H2 D (.lst [])) scope (compEnvC scope (cellsFrom (s3.heap.objs.size + 1) scope.names (cloFrom X.env.cells scope.names [])) s3.heap.objs.size X.env) fp).tr [p] fun _ _ => False) tg g := hg s3 (upd H2 D (.lst [])) s3.heap.objs.size (cellsFrom (s3.heap.objs.size + 1) scope.names (cloFrom X.env.cells scope.names [])) fp
  have c2 : PTs ((X.blk s3 (upd H2 D (.lst [])) scope (compEnvC scope (cellsFrom (s3.heap.objs.size + 1) scope.names (cloFrom X.env.cells scope.names [])) s3.heap.objs.size X.env) fp).tr [p] fun _ _ => False) ifs tt := ht s3 (upd H2 D (.lst [])) s3.heap.objs.size (cellsFrom (s3.heap.objs.size + 1) scope.names (cloFrom X.env.cells scope.names [])) fp
  have c3 : PE ((X.blk s3 (upd H2 D (.lst [])) scope (compEnvC scope (cellsFrom (s3.heap.objs.size + 1) scope.names (cloFrom X.env.cells scope.names [])) s3.heap.objs.size X.env) fp).tr [p] fun _ _ => False) elt te := he s3 (upd H2 D (.lst [])) s3.heap.objs.size (cellsFrom (s3.heap.objs.size + 1) scope.names (cloFrom X.env.cells scope.names [])) fp
  show codeAny _ _ (.compStart (.ListComp elt [⟨tg, iter, ifs, 0⟩] scope pos) 0 (.ref it) (.ref D) (compEnvC scope (cellsFrom (s3.heap.objs.size + 1) scope.names (cloFrom X.env.cells scope.names [])) s3.heap.objs.size X.env))
    (compPost (model X.prog X.w) X.A X.xe none (EP X pins σ Q) (.ref D) s3.heap.objs.size) { s3 with heap := pushCells (s3.heap.push { cls := .type "dict", data := .dict #[] }) scope.names }
  have kc : ∀ b o, s3.heap.get? b = some o → (pushCells (s3.heap.push { cls := .type "dict", data := .dict #[] }) scope.names).get? b = some o := fun b o e => pushCells_keeps _ _ _ _ (Heap.get?_push_of_some _ e)
  generalize hce : compEnvC scope (cellsFrom (s3.heap.objs.size + 1) scope.names (cloFrom X.env.cells scope.names [])) s3.heap.objs.size X.env = ce at I4 c1 c2 c3 ⊢
  have cL : ce.locals = s3.heap.objs.size := by rw [← hce]; rfl
  have I5 := block_hot hp I3 cL kc I4
  clear I4
  generalize hH3 : upd H2 D (.lst []) = H3 at I3 I5 c1 c2 c3 w0 f3
  have st5 := T.keep _ _ _ st3 fun b _ o e => kc b o e
  have hot : HotC ((X.blk s3 H3 scope ce fp).tr [p] fun _ _ => False) := ⟨p, hh, List.mem_cons_self⟩
  have pn0 : ∀ b ∈ fp, p.1 ≠ b := fun b hb => (f3 b hb).1.2.2.2.2.2 p (List.mem_append_left _ hp)
  have stat : ∀ {σ' : St} {H' : Hp} {s' : Shared}, Inv ((X.blk s3 H3 scope ce fp).tr [p] fun _ _ => False) [] σ' H' s' → (∀ b ∈ fp, H' b = none) → ∀ b ∈ fp, FpOk ((X.blk s3 H3 scope ce fp).tr [p] fun _ _ => False) [] H' b := fun {σ' H' s'} I' hn b hb =>
    ⟨hn b hb, (I'.ok.exf b hb).1, I'.ok.exfs b hb, .inl hb, fun x c e => (I'.ok.exf b hb).2 x c e, fun q hq => by
      obtain rfl : q = p := by simpa using (show q ∈ [p] ++ [] from hq)
      exact pn0 b hb⟩
  refine codeAny_compStart_list ?loop (T.self X.A 0 _ _ _ st5 ?loop)
  refine compLoop_any (fun n s' => ∃ i H', Inv ((X.blk s3 H3 scope ce fp).tr [p] fun _ _ => False) [] (wipe σ (own.map (·.2))) H' s' ∧ tn i s'.heap ∧ (∀ b ∈ fp, H' b = none) ∧ W i n H') ?_ m0 ⟨0, H3, I5, st5, fun b hb => (f3 b hb).1.1, w0⟩
  rintro n s6 ⟨i, H6, I6, st6, n6, w6⟩
  rcases turn i n H6 w6 with ⟨stop, qq⟩ | ⟨go, Nx, hNx, step⟩
  · refine thnF (T.done ((X.blk s3 H3 scope ce fp).tr [p] fun _ _ => False) rfl rfl rfl hot i [] s6 _ H6 (fun _ _ => False) I6 (stat I6 n6) st6 stop) ?_
    rintro r s7 ⟨rfl, I7⟩
    have I8 : Inv X pins σ H6 s7 := I3.call' (ch := fp) I7.os I7.base I7.hok I7.bare fun b hb => ⟨(f3 b hb).1.2.2.2.1, (f3 b hb).1.2.1, (f3 b hb).1.2.2.2.2.1, (f3 b hb).1.2.2.2.2.2⟩
    have nC : H6 s3.heap.objs.size = none := by
      rw [← cL]
      exact I7.free
    obtain ⟨m, hn, _⟩ := I7.loc
    have hn2 : s7.heap.Ns s3.heap.objs.size m := by
      rw [← cL]
      exact hn
    obtain ⟨f0, f1, f2', f3', f4, f5⟩ := I3.fpOk (X := X) (pins := pins) (Nat.le_refl _) nC
    exact ⟨m, hn2, fun h'' sb => ⟨.ref D, H6, I8.turned (t' := s7.toks) (fun b o hb e => (sb.2 b hb).trans e) f0 f1 f3' f4 f5, rfl, qq⟩⟩
  · refine thnF (T.item ((X.blk s3 H3 scope ce fp).tr [p] fun _ _ => False) rfl rfl rfl hot i [] s6 _ H6 (fun _ _ => False) I6 (stat I6 n6) st6 go) ?_
    rintro r s7 ⟨u, rfl, h7⟩
    refine thnF h7 ?_
    rintro _ s8 ⟨x, H8, I8, r8, y8, st8, n8⟩
    have I9 := I8.pinned (stat I8 n8) (T.obj _ _ st8)
    refine thnF (c1.run _ s8 _ H8 x u _ I9 r8 (step x H8 y8)) ?_
    rintro _ s10 ⟨σ10, H10, I10, hw, q10⟩
    refine thnF (c2.run _ s10 σ10 H10 _ I10 q10) ?_
    rintro b s11 ⟨H11, I11, q11⟩
    have fin : ∀ {s' : Shared} {H' : Hp}, Inv ((X.blk s3 H3 scope ce fp).tr [p] fun _ _ => False) ([] ++ pinsAt fp s8.heap) σ10 H' s' → Nx H' →
        ∃ m, m < n ∧ ∃ i H', Inv ((X.blk s3 H3 scope ce fp).tr [p] fun _ _ => False) [] (wipe σ (own.map (·.2))) H' s' ∧ tn i s'.heap ∧ (∀ b ∈ fp, H' b = none) ∧ W i m H' := by
      intro s' H' I' nx
      obtain ⟨m', hm, w'⟩ := hNx H' nx
      have at8 : ∀ b ∈ fp, ∀ o, s8.heap.get? b = some o → s'.heap.get? b = some o ∧ H' b = none := fun b hb o e => by
        have z := I'.pin (b, o) (List.mem_append_right _ (List.mem_append_right _ (mem_pinsAt hb e)))
        exact ⟨z.1, z.2.1⟩
      refine ⟨m', hm, i + 1, H', (I'.unpinned (pins := [])).weak (by rw [← hw, wipe_length]) (fun j v e => ?_), T.keep _ _ _ st8 fun b hb o e => (at8 b hb o e).1, fun b hb => ?_, w'⟩
      · rw [← hw] at e
        exact (wipe_some e).1
      · obtain ⟨o, e, _⟩ := T.obj _ _ st8 b hb
        exact (at8 b hb o e).2
    cases b with
    | false => exact fin I11 (by simpa using q11)
    | true =>
      refine thnF (c3.run _ s11 σ10 H11 _ I11 (by simpa using q11)) ?_
      rintro z s12 ⟨yv, H12, I12, r12, acc, hD12, hz12, nx⟩
      exact app_ok (X := (X.blk s3 H3 scope ce fp).tr [p] fun _ _ => False) I12 hD12 hz12 r12 fun s13 I13 => fin I13 nx
end
end K5
set_option Elab.async false
set_option linter.all false
set_option maxRecDepth 100000
set_option maxHeartbeats 4000000
/-! Rules: len(set(t)), t a tuple of texts. -/
namespace K5
open PySem PySem.Spec PyProof.Rows L2
/-- how many different ones stand among the first i -/
def dcN (xs : List Str) : Nat → Nat
  | 0 => 0
  | i + 1 => if (xs.take i).any (· == xs.getD i Str.empty) then dcN xs i else dcN xs i + 1
theorem dcN_le (xs : List Str) : ∀ i, dcN xs i ≤ i
  | 0 => Nat.le_refl 0
  | i + 1 => by
    have h := dcN_le xs i
    unfold dcN
    split <;> omega
section
variable {prog : Program} {w : World} {A : Around} {R : Result → Shared → Prop} {I : Addr} {fp wr : List Addr} {G : Array GenState → Array GenState → Prop} {n : Nat} {P : Nat → Value → Prop} {Sq : Nat → Shared → Prop}
theorem texts_in (W : WalksS prog w A.in1 I fp wr G n P Sq) (S : Addr) (hSf : S ∉ fp) (xs : List Str) (hsz : xs.length = n) (hb : n + 1 < scanBound) (hval : ∀ i v, P i v → ∃ t, v = .str (xs.getD i Str.empty) t) :
    ∀ (k i : Nat) (s : Shared), n - i = k → i ≤ n → Sq i s → s.heap.SetOf (PySem.strKind prog w) S (fun z => (xs.take i).any (· == z)) (dcN xs i) →
      (∀ s', Moved (S :: wr) G s s' → s'.heap.SetOf (PySem.strKind prog w) S (fun z => (xs.take n).any (· == z)) (dcN xs n) → R (.ok (.ret .none)) s') →
      codeAny (model prog w) A (.builtin "set.update.loop" ⟨[.ref S, .ref I], []⟩) R s := by
  have hSw : S ∉ wr := fun h => hSf (W.sub _ h)
  have more : ∀ b ∈ wr, b ∈ S :: wr := fun b hb => List.mem_cons_of_mem _ hb
  have kept : ∀ {s s' : Shared} {f : Str → Bool} {c : Nat}, Moved wr G s s' → s.heap.SetOf (PySem.strKind prog w) S f c → s'.heap.SetOf (PySem.strKind prog w) S f c := by
    rintro s s' f c hm ⟨o, es, ep, t, ho, rest⟩
    exact ⟨o, es, ep, t, hm.heap S _ hSw ho, rest⟩
  intro k
  induction k with
  | zero =>
    intro i s hk hi hst hS hR
    obtain rfl : i = n := by omega
    refine codeAny_builtin PyProof.Rows.F.entry_set_update_loop ?_
    rw [Around.under_plainId PyProof.Rows.F.plain_set_update_loop _]
    show wpAny _ A.in1 (pyNext (.ref I) >>= _) _ _ s
    exact wpAny_bind (W.done s _ _ hst fun s' hm => wpAny_pure (hR s' (hm.mono more) (kept hm hS)))
  | succ k ih =>
    intro i s hk hi hst hS hR
    have hlt : i < n := by omega
    refine codeAny_builtin PyProof.Rows.F.entry_set_update_loop ?_
    rw [Around.under_plainId PyProof.Rows.F.plain_set_update_loop _]
    show wpAny _ A.in1 (pyNext (.ref I) >>= _) _ _ s
    refine wpAny_bind (W.item i s _ _ hlt hst fun v s' hP hst' hm => ?_)
    obtain ⟨t, rfl⟩ := hval i v hP
    have hS' := kept hm hS
    show wpAny _ A.in1 (holding [Value.str (xs.getD i Str.empty) t] (setAdd S (.str (xs.getD i Str.empty) t)) >>= _) _ _ s'
    refine wpAny_bind (wpAny_holding ?_)
    unfold setAdd
    refine wpAny_holding (wpAny_bind ((PySem.strKind prog w).pyHash (k := xs.getD i Str.empty) (strKind_is _ _ _ _) ?_))
    refine wpAny_setAddHashed_of (knd := PySem.strKind prog w) (s := { s' with toks := s'.toks + 1 }) (strKind_is _ _ _ _) rfl hS' (by have := dcN_le xs i; omega) fun h' hsb hS2 => ?_
    have hSi : h'.SetOf (PySem.strKind prog w) S (fun z => (xs.take (i + 1)).any (· == z)) (dcN xs (i + 1)) := by
      have hx : xs[i]? = some (xs.getD i Str.empty) := by
        rw [List.getD_eq_getElem?_getD, List.getElem?_eq_getElem (by omega)]
        rfl
      refine SetOf_congr hS2 (fun z => ?_) ?_
      · rw [List.take_add_one, hx, List.any_append]
        by_cases e : z = xs.getD i Str.empty
        · subst e
          simp
        · have e2 : ¬ xs.getD i Str.empty = z := fun q => e q.symm
          have e3 : (xs.getD i Str.empty == z) = false := by simpa using e2
          rw [decide_eq_false e, show (some (xs.getD i Str.empty)).toList.any (fun x => x == z) = false from by
            show ((xs.getD i Str.empty == z) || false) = false
            rw [e3]
            rfl]
      · rfl
    refine wpAny_pure ⟨plainId_quiet PyProof.Rows.F.plain_set_update_loop _, ih (i + 1) _ (by omega) hlt (W.frame _ s' _ _ hst' (Nat.le_succ _) fun b hb o e => ?_) hSi fun s'' hm2 hS3 => ?_⟩
    · exact (hsb.2 b (fun h : b = S => hSf (by rw [← h]; exact hb))).trans e
    · exact hR s'' (Moved.trans W.gtrans ((hm.mono more).then_heap (Nat.le_succ _) fun b o hb e => (hsb.2 b (fun h : b = S => hb (by rw [h]; exact List.mem_cons_self))).trans e) hm2) hS3
end
section
variable {prog : Program} {w : World} {A : Around} {E : Value → Shared → Prop} {s : Shared}
abbrev set0 (led : Bool) : Obj := { cls := .type "set", dict := none, data := .set #[] 0 (.fresh 0 0 led) }
theorem call_set_texts {l : Addr} {items : Array Value} {xs : List Str} {Q : Value → Shared → Prop} (hh : A.handled = none) (hl : s.heap.IsTuple l items) (hi : PyProof.Rows.StrsAre items.toList xs) (hb : xs.length + 1 < scanBound)
    (h : ∀ (h' : Heap) (tk : Nat), h'.SetOf (PySem.strKind prog w) s.heap.objs.size (fun z => (xs.take items.size).any (· == z)) (dcN xs items.size) →
      (∀ b o, b < s.heap.objs.size → s.heap.get? b = some o → h'.get? b = some o) → Q (.ref s.heap.objs.size) { s with heap := h', toks := tk }) :
    wpAny (model prog w) A (call (.type "set") [.ref l]) Q E s := by
  obtain ⟨c, tl, hmro⟩ := PySem.F.called_set.mro
  have hmade := PySem.F.called_set.made
  have hsub := PySem.F.called_set.sub
  refine wpAny_call (codeAny_of_tree ?_)
  show wpAny _ _ (callAny (.type "set") _) _ _ _
  refine wpAny_pure ⟨Code.quiet_builtin _ (by decide +kernel), codeAny_builtin PySem.F.entry_type_call ?_⟩
  rw [Around.under_plain (weight_type_call_type "set" [.ref l] []) rfl]
  have h1 := PySem.F.called_set.notType
  have h2 := PySem.F.called_set.canCreate
  have hct := PySem.F.typeCall_set_1 (.ref l)
  repeat (any_goals (first | assumption | wp_step))
  refine codeAny_mono (code_set_new_1 (.ref l) (E := E) (Q₁ := fun obj s₁ => ∃ led : Bool, obj = .ref s.heap.objs.size ∧ s₁ = { s with heap := s.heap.push (set0 led) }) fun led => ⟨led, rfl, rfl⟩) fun r s₁ hr => ?_
  cases r with
  | error e => exact hr
  | ok fl =>
    cases fl with
    | next => exact hr.elim
    | brk => exact hr.elim
    | cont => exact hr.elim
    | ret obj =>
      obtain ⟨led, rfl, rfl⟩ := hr
      have hS : (s.heap.push (set0 led)).get? s.heap.objs.size = some (set0 led) := Heap.get?_push_size _ rfl
      have hT : Shared.TypeIs { s with heap := s.heap.push (set0 led) } (.ref s.heap.objs.size) "set" := ⟨_, hS, rfl⟩
      have hli := PySem.F.called_set.init.lookup
      have hbi := PySem.F.called_set.init.bind (.ref s.heap.objs.size)
      repeat (any_goals (first | assumption | wp_step))
      refine codeAny_mono (codeAny_call_builtin (R := wants (fun r s₂ => r = .none ∧ ∃ h' tk, s₂ = { s with heap := h', toks := tk } ∧
          h'.SetOf (PySem.strKind prog w) s.heap.objs.size (fun z => (xs.take items.size).any (· == z)) (dcN xs items.size) ∧
          (∀ b o, b < s.heap.objs.size → s.heap.get? b = some o → h'.get? b = some o)) E) PySem.F.called_set.init.plain PySem.F.entry_set_init (check_set_init_1 hT ?_)) fun r₂ s₂ hr₂ => ?_
      · obtain ⟨⟨ocls, odict, odata, oslots⟩, hol, hcl, nl, hdl⟩ := hl
        simp only at hcl hdl
        subst hcl
        subst hdl
        have hol' : (s.heap.push (set0 led)).get? l = some { cls := .type "tuple", dict := odict, data := .seq items nl, slots := oslots } := Heap.get?_push_of_some _ hol
        have hsls := PySem.F.sub_tuple_set
        have hslf := PySem.F.sub_tuple_frozenset
        have hne : (Value.type "tuple" == Value.type "dict") = false := by decide
        have hl1 : (s.heap.push (set0 led)).IsTuple l items := ⟨_, hol', rfl, nl, rfl⟩
        unfold Builtin.«set.__init__» noKeywords Builtin.Frozenset.updateFrom
        generalize hPI : pyIter = PI
        wp_walk
        subst hPI
        refine wpAny_pyIter_tuple hl1 (wpAny_bind (wpAny_runValue ?_))
        have hlS : l < s.heap.objs.size := Heap.lt_size hol
        have hh3 : A.in1.in1.in1.handled = none := by simp [hh]
        have hz : (s.heap.push (set0 led)).objs.size = s.heap.objs.size + 1 := Heap.size_push ..
        have hneI : l ≠ (s.heap.push (set0 led)).objs.size := by
          rw [hz]
          exact Nat.ne_of_lt (Nat.lt_succ_of_lt hlS)
        have hSf : s.heap.objs.size ∉ [(s.heap.push (set0 led)).objs.size, l] := by
          rw [hz]
          simp only [List.mem_cons, List.not_mem_nil, or_false, not_or]
          exact ⟨Nat.ne_of_lt (Nat.lt_succ_self _), Nat.ne_of_gt hlS⟩
        have hsz : xs.length = items.size := by rw [← StrsAre.len_eq hi, Array.length_toList]
        have hval : ∀ (i : Nat) (v : Value), items[i]? = some v → ∃ t, v = .str (xs.getD i Str.empty) t := fun i v hv => SS.strs_at hi i v (by rw [Array.getElem?_toList]; exact hv)
        refine texts_in ((Walks.tuple hh3 _ l hneI items).toS) s.heap.objs.size hSf xs hsz (by rw [← hsz]; exact hb) hval (items.size - 0) 0 _ (by omega) (Nat.zero_le _) ⟨⟨_, Heap.get?_push_size _ rfl, rfl, rfl⟩, (hl1.push _)⟩ ?hS0 ?hR
        case hS0 => exact PyProof.Rows.SetOf_congr ((PyProof.Rows.setObjOf_fresh (knd := PySem.strKind prog w) led).setOf (Heap.get?_push_of_some _ hS) (by unfold scanBound; omega)) (fun _ => rfl) rfl
        case hR =>
          rintro ⟨h', g', d', tk', os'⟩ hm hS'
          obtain rfl : g' = s.gens := hm.gens
          obtain rfl : d' = s.drawn := hm.drawn
          obtain rfl : os' = s.os := hm.os
          refine wpAny_pure ?_
          show wpAny _ _ (ret Value.none) _ _ _
          refine wpAny_pure ⟨rfl, h', tk', rfl, hS', fun b o hb e => hm.heap b o ?_ (Heap.get?_push_of_some _ (Heap.get?_push_of_some _ e))⟩
          simp only [List.mem_cons, List.not_mem_nil, or_false, not_or]
          exact ⟨Nat.ne_of_lt hb, by rw [hz]; exact Nat.ne_of_lt (Nat.lt_succ_of_lt hb)⟩
      · cases r₂ with
        | error e => exact hr₂
        | ok fl₂ =>
          cases fl₂ with
          | next => exact hr₂.elim
          | brk => exact hr₂.elim
          | cont => exact hr₂.elim
          | ret r =>
            obtain ⟨rfl, h', tk, rfl, hS', hk'⟩ := hr₂
            repeat (any_goals (first | assumption | wp_step))
            exact h _ _ hS' hk'
end
/-- len(set(t)) -/
theorem pe_lenSetT {X : Cx} {a : Expr} {ta : TE} {p p2 q pos : Pos} (hc : X.calm = true) (hg : Gl X "len") (hm : X.mg "len" = none) (hg2 : Gl X "set") (hm2 : X.mg "set" = none) (ha : PE X a ta)
    (na : starEach [a] X.env = (false, eval a X.env) :: starEach [] X.env := by rfl) : PE X (.Call (.Name "len" p) [.Call (.Name "set" p2) [a] [] q] [] pos)
      (fun σ H Q => ta σ H fun x H1 => ∃ (l : Addr) (xs : List Str), x = .ref l ∧ SqT X.K H1 l (xs.map V.str) ∧ xs.length ≤ 100 ∧ Q (.int (dcN xs xs.length : Nat)) H1) := by
  refine ⟨fun pins s σ H Q I h => Call_ (ld_blt I hg hm boot_len ?_)⟩
  refine PyProof.Rows.callWith_builtin1 (PyProof.Rows.args_cons ?_ rfl) rfl rfl
  refine Call_ (ld_blt I hg2 hm2 boot_set ?_)
  refine PyProof.Rows.callWith_type1 (PyProof.Rows.args_cons (thn (ha.run pins s σ H _ I h) ?_) na) na rfl
  rintro v s1 ⟨x, H1, I1, r1, l, xs, rfl, hq, hz, q1⟩
  refine PyProof.Rows.args_nil ?_
  obtain rfl : v = Value.ref l := r1
  obtain ⟨its, r, pl, _⟩ := I1.tuple hq
  have hl : its.toArray.size = xs.length := by rw [List.size_toArray, ← r.length, List.length_map]
  refine call_set_texts (I1.ok.hd hc) pl (by simpa using strsAre_of r) (by unfold scanBound; omega) fun h' tk hS hk => PyProof.Rows.args_nil ?_
  rw [hl] at hS
  obtain ⟨o, es, ep, t, ho, hex, hd, _, _, _, hf, hn⟩ := hS
  have I2 : Inv X pins σ H1 { s1 with heap := h', toks := tk } := I1.kept fun b o e => hk b o (Heap.lt_size e) e
  have hle := dcN_le xs xs.length
  exact call_len_set ho hex hd hf (by rw [hn] <;> omega) ⟨.int (dcN xs xs.length : Nat), H1, I2.tok _, ⟨_, by rw [hn]⟩, q1⟩
end K5
set_option Elab.async false
set_option linter.all false
set_option maxRecDepth 100000
set_option maxHeartbeats 4000000
/-! Rules: sum(t), max(t) of a tuple of ints; enumerate(t), t a tuple. -/
namespace K5
open PySem PySem.Spec PyProof.Rows L2
open AutoSeq1 (wpAny_loadPart')
/-! ### sum, max -/
section
variable {X : Cx}
def rSumT (K : PySem.W.Frag) : List V → Hp → VK → Prop := fun vs H Q => ∃ (a : Addr) (ns : List Int), vs = [V.ref a] ∧ SqT K H a (ns.map V.int) ∧ Q (.int ns.sum) H
def rMaxT (K : PySem.W.Frag) : List V → Hp → VK → Prop := fun vs H Q => ∃ (a : Addr) (ns : List Int), vs = [V.ref a] ∧ SqT K H a (ns.map V.int) ∧ 0 < ns.length ∧ ∀ m, m ∈ ns → (∀ y, y ∈ ns → y ≤ m) → Q (.int m) H
theorem cr_sumT (hc : X.calm = true) : CallR X (.builtin "sum") (rSumT X.K) := by
  intro pins s σ H vs us Q I r h
  obtain ⟨a, ns, rfl, hs, q⟩ := h
  obtain ⟨its, rv, hl, _⟩ := I.tuple hs
  rw [Vals.ref1 r]
  obtain ⟨xs, e⟩ := rv.ints.allInts.items
  have hn : numsOf (intItems xs).toList = ns := by rw [← e]; exact rv.ints.numsOf
  rw [nums_intItems] at hn
  rw [e] at hl
  refine PySem.W.ktm_sumG (I.ok.hd hc) hl fun h' tk t' hk => ⟨.int _, H, I.kept hk, ⟨_, rfl⟩, ?_⟩
  rw [preSum_eq, List.take_of_length_le (by simp), hn]
  exact q
theorem maxOf_mem : ∀ (xs : List Int) (x : Int), PySem.W.maxOf x xs ∈ x :: xs ∧ ∀ y ∈ x :: xs, y ≤ PySem.W.maxOf x xs
  | [], x => by
    refine ⟨List.mem_cons_self, fun y hy => ?_⟩
    rcases List.mem_cons.mp hy with e | e
    · rw [e]
      exact Int.le_refl _
    · exact nomatch e
  | y :: ys, x => by
    by_cases hxy : x < y
    · have e : PySem.W.maxOf x (y :: ys) = PySem.W.maxOf y ys := by
        simp [PySem.W.maxOf, PySem.W.DatumOrd.lt, hxy]
      obtain ⟨h1, h2⟩ := maxOf_mem ys y
      rw [e]
      refine ⟨List.mem_cons_of_mem _ h1, fun z hz => ?_⟩
      rcases List.mem_cons.mp hz with q | q
      · rw [q]
        exact Int.le_trans (Int.le_of_lt hxy) (h2 y List.mem_cons_self)
      · exact h2 z q
    · have e : PySem.W.maxOf x (y :: ys) = PySem.W.maxOf x ys := by
        simp [PySem.W.maxOf, PySem.W.DatumOrd.lt, hxy]
      obtain ⟨h1, h2⟩ := maxOf_mem ys x
      rw [e]
      refine ⟨?_, fun z hz => ?_⟩
      · rcases List.mem_cons.mp h1 with q | q
        · rw [q]
          exact List.mem_cons_self
        · exact List.mem_cons_of_mem _ (List.mem_cons_of_mem _ q)
      · rcases List.mem_cons.mp hz with q | q
        · rw [q]
          exact h2 x List.mem_cons_self
        · rcases List.mem_cons.mp q with q2 | q2
          · rw [q2]
            exact Int.le_trans (Int.not_lt.mp hxy) (h2 x List.mem_cons_self)
          · exact h2 z (List.mem_cons_of_mem _ q2)
theorem holds_ints {h : Heap} : ∀ {ns : List Int} {vs : List Value}, Vals (ns.map V.int) vs → PySem.W.HoldAll h vs ns
  | [], _, .nil => ⟨_, .nil⟩
  | n :: ns, _, .cons r t => by
    obtain ⟨tk, rfl⟩ := r
    obtain ⟨as, q⟩ := holds_ints (h := h) t
    exact ⟨_, .cons (.int n tk) q⟩
theorem cr_maxT (hc : X.calm = true) (hu : X.A.units + 1 + 7 < cLine) : CallR X (.builtin "max") (rMaxT X.K) := by
  intro pins s σ H vs us Q I r h
  obtain ⟨a, ns, rfl, hs, hne, q⟩ := h
  obtain ⟨its, rv, hl, _⟩ := I.tuple hs
  rw [Vals.ref1 r]
  cases ns with
  | nil => exact absurd hne (by decide)
  | cons x xs =>
    refine PySem.W.max_tuple_datum (x := x) (xs := xs) (I.ok.hd hc) hl (holds_ints rv) (Nat.lt_of_le_of_lt (Nat.add_le_add_left (show PySem.W.Datum.depth Int ≤ 7 from Nat.zero_le _) _) hu) fun i v h' tk _ hv hk => ?_
    obtain ⟨t, rfl⟩ : ∃ t, v = .int (PySem.W.maxOf x xs) t := by
      obtain ⟨as, r⟩ := hv
      revert r
      generalize eD : PySem.W.Datum.toD (PySem.W.maxOf x xs) = D
      have eD' : PyData.int (PySem.W.maxOf x xs) = D := eD
      subst eD'
      intro r
      cases r
      exact ⟨_, rfl⟩
    obtain ⟨h1, h2⟩ := maxOf_mem xs x
    exact ⟨.int _, H, I.kept hk, ⟨_, rfl⟩, q _ h1 h2⟩
end
end K5
set_option Elab.async false
set_option linter.all false
set_option maxRecDepth 100000
set_option maxHeartbeats 4000000
/-! Rules: enumerate(t), t a tuple. -/
namespace K5
open PySem PySem.Spec PyProof.Rows L2
open AutoSeq1 (wpAny_loadPart')
theorem meets_enumerate_newT (l : Addr) (items : Array Value) (n : Nat) (dct : Option Addr) (sl : Array (Option Value)) :
    Meets (Builtin.«enumerate.__new__» ⟨[.type "enumerate", .ref l], []⟩) (fun _ R s => s.heap.get? l = some { cls := .type "tuple", dict := dct, data := .seq items n, slots := sl } ∧
      R (.ok (.ret (.ref (s.heap.push { cls := .type "tuple_iterator", data := .fields #[.ref l, .int 0 0] }).objs.size)))
        { s with heap := (s.heap.push { cls := .type "tuple_iterator", data := .fields #[.ref l, .int 0 0] }).push { cls := .type "enumerate", data := .fields #[.none, .bool false, .ref s.heap.objs.size, rawInt 0, .none, .none] } }) :=
  .of_wp fun prog w A R s h => by
    obtain ⟨hp, g, d, tk, os⟩ := s; obtain ⟨hl, h⟩ := h
    have hsub := sub_enumerate
    have hL : Heap.IsTuple (Shared.heap ⟨hp, g, d, tk, os⟩) l items := ⟨_, hl, rfl, n, rfl⟩
    wp_walk using wpAny_loadPart' hl
    refine wpAny_stack_any fun st => wpAny_pure ?_
    split
    · rename_i c _ _ _ _ _
      cases (c == Value.type "enumerate")
      · wp_walk using wpAny_loadPart' hl, wpAny_pyIter_tuple hL
        exact ⟨_, rfl, h⟩
      · wp_walk using wpAny_loadPart' hl, wpAny_pyIter_tuple hL
        exact ⟨_, rfl, h⟩
    · wp_walk using wpAny_loadPart' hl, wpAny_pyIter_tuple hL
      exact ⟨_, rfl, h⟩
section
variable {prog : Program} {w : World} {A : Around} {E : Value → Shared → Prop} {s : Shared}
theorem call_enumerate_tup {l : Addr} {items : Array Value} {Q : Value → Shared → Prop} (hL : s.heap.IsTuple l items)
    (h : ∀ h', IsEnum h' (s.heap.objs.size + 1) s.heap.objs.size 0 .none → h'.IsTupleIter s.heap.objs.size l 0 → h'.objs.size = s.heap.objs.size + 2 →
      (∀ b o, s.heap.get? b = some o → h'.get? b = some o) → Q (.ref (s.heap.objs.size + 1)) { s with heap := h' }) :
    wpAny (model prog w) A (call (.type "enumerate") [.ref l]) Q E s := by
  obtain ⟨⟨c, dct, dt, sl⟩, hl, hc, n, hd⟩ := hL
  replace hc : c = .type "tuple" := hc
  replace hd : dt = .seq items n := hd
  subst hc hd
  refine callType_new F.called_enumerate (by decide) (F.typeCall_enumerate_1 _) (F.newCall_enumerate_1 _) (fun obj => F.args_object_init_2 obj _) F.entry_enumerate_new
    (meets_enumerate_newT l items n dct sl) ⟨hl, ?_⟩
  have hz : (s.heap.push { cls := .type "tuple_iterator", data := .fields #[.ref l, .int 0 0] }).objs.size = s.heap.objs.size + 1 := Heap.size_push ..
  show _ ∧ _
  rw [hz]
  have he : IsEnum ((s.heap.push { cls := .type "tuple_iterator", data := .fields #[.ref l, .int 0 0] }).push
      { cls := .type "enumerate", data := .fields #[.none, .bool false, .ref s.heap.objs.size, rawInt 0, .none, .none] }) (s.heap.objs.size + 1) s.heap.objs.size 0 .none := by
    have := Heap.get?_push_size (s.heap.push { cls := .type "tuple_iterator", data := .fields #[.ref l, .int 0 0] })
      (o := { cls := .type "enumerate", data := .fields #[.none, .bool false, .ref s.heap.objs.size, rawInt 0, .none, .none] }) rfl
    rw [hz] at this; exact this
  refine ⟨⟨_, he, rfl⟩, h _ he ⟨_, Heap.get?_push_of_some _ (Heap.get?_push_size _ rfl), rfl, rfl⟩ (by rw [Heap.size_push, hz]) fun b o x => Heap.get?_push_of_some _ (Heap.get?_push_of_some _ x)⟩
end
theorem wpAny_pyNext_enum_endT {prog : Program} {w : World} {A : Around} {E : Value → Shared → Prop} {s : Shared} {e it l : Addr} {i : Nat} {items : Array Value} {old : Value} {Q : Option Value → Shared → Prop} (hh : A.handled = none)
    (he : IsEnum s.heap e it i old) (hit : s.heap.IsTupleIter it l i) (hl : s.heap.IsTuple l items) (hx : items[i]? = none)
    (hQ : ∀ h', Heap.ExtBut it s.heap h' → Q none { s with heap := h' }) : wpAny (model prog w) A (pyNext (.ref e)) Q E s := by
  have hT : s.TypeIs (.ref e) "enumerate" := ⟨_, he, rfl⟩
  unfold pyNext
  refine wpAny_bind (wpAny_attempt (wpAny_callSpecial?_slot (name := Str.ofString "__next__") hT F.slot_enumerate_next
    (wpAny_call_entry F.slot_enumerate_next hT F.entry_enumerate_next ?_ (F.args_enumerate_next_1 _))))
  show wpAny _ _ (field (.ref e) 2 >>= _) _ _ _
  refine wpAny_bind (wpAny_field he rfl (x := .ref it) rfl ?_)
  refine wpAny_bind (wpAny_nextOf_tuple_end hh hit hl hx fun h' x he' hx' => ?_)
  obtain ⟨o, ho, hc⟩ := hx'
  refine wpAny_bind (wpAny_isInstance (T := "StopIteration") (b := true) ⟨o, ho, hc⟩ isSubtype_stop ?_)
  exact wpAny_pure (hQ _ he')
/-- the tuple at a, each item in a new pair -/
def IteT (K : PySem.W.Frag) (a : Addr) : It :=
  ⟨fun i H => ∃ (xs : List V) (x : V), SqT K H a xs ∧ xs[i]? = some x, fun i H v H' => ∃ T x, v = .ref T ∧ H T = none ∧ H' = upd H T (.tup [.int (i : Nat), x]) ∧ ∀ xs, SqT K H a xs → xs[i]? = some x, fun i H => ∃ xs : List V, SqT K H a xs ∧ xs.length ≤ i⟩
theorem turn_enumT {P : Program} {w : World} {K : PySem.W.Frag} {elts : List Expr} {kk : Nat} {tpos : Pos} (a e it : Addr) :
    Turn P w K (.Tuple elts kk tpos) (IteT K a) [e, it] e (fun i h => (∃ old, IsEnum h e it ((i : Nat) : Int) old) ∧ h.IsTupleIter it a i ∧ e ≠ it ∧ a ≠ it ∧ e ≠ a) where
  mem := by simp
  obj := fun i h st b hb => by
    obtain ⟨⟨old, he⟩, ⟨o, ho, hc, hd⟩, _⟩ := st
    have e' : b = e ∨ b = it := by simpa using hb
    rcases e' with z | z
    · rw [z]; exact ⟨_, he, fun v q => nomatch q⟩
    · rw [z]; exact ⟨o, ho, fun v q => by rw [hd] at q; cases q⟩
  keep := fun i h h' st k => let ⟨⟨old, he⟩, hi, hne⟩ := st; ⟨⟨old, k e (by simp) _ he⟩, hi.at fun o q => k it (by simp) o q, hne⟩
  item := by
    intro X hP hw hK hc i pins s σ H E I hf st hg
    subst hP hw hK
    obtain ⟨⟨old, he⟩, hit, hne, hai, hea⟩ := st
    obtain ⟨xs, x, hq, hx⟩ := hg
    obtain ⟨its, rv, p, hz⟩ := I.tuple hq
    obtain ⟨u, hu, ru⟩ := rv.get hx
    have hel : e < s.heap.objs.size := Heap.lt_size he
    have hil : it < s.heap.objs.size := by obtain ⟨_, q, _⟩ := hit; exact Heap.lt_size q
    have D := Draws.tuple (prog := X.prog) (w := X.w) (A := X.A.in1) (I.ok.hd hc) it a hai its.toArray
    have hlt : i < its.toArray.size := by
      have : its[i]? = some u := by simpa using hu
      rw [List.size_toArray]
      exact (List.getElem?_eq_some_iff.mp this).1
    refine wpAny_pyNext_enum_itemD D he ⟨hit, p⟩ hlt hne (by simp [hne, hea]) fun u' h' tk hu' ho hst' hT hsz hk => ?_
    obtain ⟨hit', p'⟩ := hst'
    have eu : u' = u := by
      have h1 : its[i]? = some u' := by simpa using hu'
      have h2 : its[i]? = some u := by simpa using hu
      exact Option.some.inj (h1.symm.trans h2)
    subst eu
    refine ⟨_, rfl, wpAny_letOwnedTupleGo_enum (s := { s with heap := h', toks := tk + 1 }) ho fun h'' he' sb => ?_⟩
    have hT2 : h''.get? s.heap.objs.size = some { cls := .type "tuple", data := .seq #[.int i tk, u'] } := (sb.2 _ (Nat.ne_of_gt hel)).trans hT
    have new : ObjOk X.prog X.w (upd H s.heap.objs.size (.tup [.int (i : Nat), x])) h'' s.heap.objs.size (.tup [.int (i : Nat), x]) :=
      ⟨by show 2 ≤ sizeLine; decide, [.int i tk, u'], .cons ⟨_, rfl⟩ (.cons ru .nil), ⟨_, hT2, rfl, _, rfl⟩⟩
    have I1 : Inv X pins σ (upd H s.heap.objs.size (.tup [.int (i : Nat), x])) { s with heap := h'', toks := tk + 1 } :=
      I.turnedNew (ch := [e, it]) (fun b ob hb q => (sb.2 b (fun z => hb (by simp [z]))).trans (hk b ob (fun z => hb (by simp [z])) (fun z => hb (by simp [z])) q)) hf (Nat.le_refl _) new
    refine ⟨.ref s.heap.objs.size, _, I1, rfl, ⟨_, x, rfl, I.hok.fresh (Nat.le_refl _), rfl, fun ys hy => by rw [I.tuple_inj hy hq]; exact hx⟩, ⟨⟨u', ?_⟩, hit'.at fun o q => (sb.2 it (Ne.symm hne)).trans q, hne, hai, hea⟩, fun b hb => ?_⟩
    · have e1 : ((i + 1 : Nat) : Int) = (i : Int) + 1 := by omega
      rw [e1]; exact he'
    · have hb' : b < s.heap.objs.size := by
        have e' : b = e ∨ b = it := by simpa using hb
        rcases e' with z | z
        · rw [z]; exact hel
        · rw [z]; exact hil
      rw [upd_ne (Nat.ne_of_lt hb')]
      exact (hf b hb).1
  done := by
    intro X hP hw hK hc i pins s σ H E I hf st hg
    subst hP hw hK
    obtain ⟨⟨old, he⟩, hit, hne, hai, hea⟩ := st
    obtain ⟨xs, hq, hx⟩ := hg
    obtain ⟨its, rv, p, hz⟩ := I.tuple hq
    obtain ⟨f0, f1, f2, f3, f4, f5⟩ := hf it (by simp)
    have hl := rv.length
    refine wpAny_pyNext_enum_endT (I.ok.hd hc) he hit p (by simp; omega) fun h' eb => ⟨rfl, I.turned (t' := s.toks) (fun b o hb q => eb b o hb q) f0 f1 f3 f4 f5⟩
  self := fun A i s Q E st h => let ⟨⟨_, he⟩, _⟩ := st; wpAny_pyIter_enum he h
def iEnumT (K : PySem.W.Frag) (ta : TA) : TI := fun σ H R => ta σ H fun vs H1 => ∃ a xs, vs = [.ref a] ∧ SqT K H1 a xs ∧ R (IteT K a) H1
theorem pi_enumT {X : Cx} {e : Expr} {ta : TA} {p pos tpos : Pos} {elts : List Expr} {kk : Nat} (hg : Gl X "enumerate") (hm : X.mg "enumerate" = none) (ha : PA X [e] ta) (hs : starEach [e] X.env = [(false, eval e X.env)] := by rfl) :
    PI X (.Tuple elts kk tpos) (.Call (.Name "enumerate" p) [e] [] pos) (iEnumT X.K ta) := by
  refine ⟨fun pins s σ H R I h => ?_⟩
  refine Call_ (ld_blt I hg hm boot_enumerate (PyProof.Rows.callWith_type1 (thn (ha.run pos pins s σ H _ I h) fun us s1 ⟨vs, H1, I1, r1, q1⟩ => ?_) hs rfl))
  obtain ⟨a, xs, ex, hq, q⟩ := q1
  subst ex
  cases r1 with
  | cons r rr =>
    cases rr
    cases r
    obtain ⟨its, rv, p', hz⟩ := I1.tuple hq
    have hlt : a < s1.heap.objs.size := by
      obtain ⟨_, q, _⟩ := p'
      exact Heap.lt_size q
    refine call_enumerate_tup p' fun h' he hit hsz hk => wpAny_pyIter_enum he ?_
    have I2 : Inv X pins σ H1 { s1 with heap := h' } := I1.kept (t' := s1.toks) hk
    refine ⟨s1.heap.objs.size + 1, [s1.heap.objs.size + 1, s1.heap.objs.size], _, _, H1, rfl, I2, turn_enumT a (s1.heap.objs.size + 1) s1.heap.objs.size, ⟨⟨.none, he⟩, hit, Nat.succ_ne_self _, Nat.ne_of_lt hlt, Nat.ne_of_gt (Nat.lt_succ_of_lt hlt)⟩, fun b hb => ?_, q⟩
    have e' : b = s1.heap.objs.size + 1 ∨ b = s1.heap.objs.size := by simpa using hb
    have hle : s1.heap.objs.size ≤ b := by
      rcases e' with z | z
      · rw [z]; exact Nat.le_add_right _ _
      · rw [z]; exact Nat.le_refl _
    exact I1.fpOk hle (I1.hok.fresh hle)
end K5
set_option Elab.async false
set_option linter.all false
set_option maxRecDepth 100000
set_option maxHeartbeats 4000000
/-! Rules: isinstance of a caught error with a dict; repr of data; str(o) by an own __str__. -/
namespace K5
open PySem PySem.Spec PyProof.Rows L2
/-! ### isinstance(e, c), the error has its own dict -/
def rIsD (K : PySem.W.Frag) (D a d : Addr) : List V → Hp → VK → Prop := fun xs H Q => ∃ (c : V) (cv : Value) (b : Bool), xs = [.ref a, c] ∧ (∃ fs, H d = some (.xd fs)) ∧ (∀ u, RelV c u → u = cv) ∧ PySem.W.kitOne K (.ref D) cv = some b ∧ Q (.bl b) H
theorem call_isD {X : Cx} {a D d : Addr} {oe : Obj} {pn : List (Addr × Obj)} (C : ExcC X.K D) (hz : Zc (.ref D) (some d) oe) (hf : ∃ vs, oe.data = .fields vs) : CallR (X.suite a ((a, oe) :: pn)) (.builtin "isinstance") (rIsD X.K D a d) := by
  intro pins s σ H xs us Q I r h
  obtain ⟨c, cv, b, rfl, ⟨fs, hd⟩, hcv, e, q⟩ := h
  cases r with
  | cons rx rr =>
    cases rr with
    | cons rt rr =>
      cases rr
      cases rx
      have ec := hcv _ rt
      subst ec
      obtain ⟨hget, _⟩ := I.pin (a, oe) (List.mem_append.mpr (.inl List.mem_cons_self))
      obtain ⟨vs, hv⟩ := hf
      have hx : ObjOk X.prog X.w H s.heap d (.xd fs) := I.hok d _ hd
      obtain ⟨mA, hns, hr⟩ := hx
      obtain ⟨od, ho, hl⟩ := lookIn_ns hns
      have J : PySem.W.InstAt s.heap a oe D (some od) := ⟨hget, hz.1, by unfold PySem.W.notCls; rw [hv] <;> rfl, by rw [hz.2]; exact ho⟩
      exact PySem.W.kia_one (PySem.W.kitx_exc (by obtain ⟨cd, hc, _⟩ := PySem.W.any_some C.hd; rw [hc]; rfl) C.hg C.hk C.hs C.ha C.hn C.ht C.hm) I.kIn J e (fun z => nomatch z) fun tk => ⟨.bl b, H, I.kept (t' := tk) fun _ _ z => z, rfl, q⟩
/-! ### repr of data -/
mutual
theorem dp_noDict {K : PySem.W.Frag} {H : Hp} : ∀ (d : PyData) (v : V), Dp K H v d → d.hasDict = false
  | .none, _, _ => by simp only [PyData.hasDict]
  | .bool _, _, _ => by simp only [PyData.hasDict]
  | .int _, _, _ => by simp only [PyData.hasDict]
  | .str _, _, _ => by simp only [PyData.hasDict]
  | .list ds, v, h => by
    simp only [PyData.hasDict]
    cases h with
    | lst _ ha => exact dp_noDictAll ds _ ha
  | .tuple ds, v, h => by
    simp only [PyData.hasDict]
    cases h with
    | tup _ ha => exact dp_noDictAll ds _ ha
  | .dict _, v, h => nomatch h
theorem dp_noDictAll {K : PySem.W.Frag} {H : Hp} : ∀ (ds : List PyData) (vs : List V), DpAll K H vs ds → PyData.hasDictAll ds = false
  | [], _, _ => by simp only [PyData.hasDictAll]
  | d :: ds, vs, h => by
    cases h with
    | cons h1 h2 => simp only [PyData.hasDictAll, dp_noDict d _ h1, dp_noDictAll ds _ h2, Bool.or_false]
end
/-- data, the empty dict among them -/
def DpX (K : PySem.W.Frag) (H : Hp) (v : V) (d : PyData) : Prop := Dp K H v d ∨ ∃ a, v = .ref a ∧ H a = some (.dK []) ∧ d = .dict []
theorem dpx_reads {X : Cx} {pins : List (Addr × Obj)} {σ : L2.St} {H : Hp} {s : Shared} {v : V} {d : PyData} {u : Value} (I : Inv X pins σ H s) (h : DpX X.K H v d) (r : RelV v u) : ∃ as, Reads s.heap u d as ∧ (d.hasDict = true → sysModules ∉ as) := by
  rcases h with h | ⟨a, rfl, ha, rfl⟩
  · obtain ⟨as, q⟩ := Dp.reads I d v u h r
    exact ⟨as, q, fun z => by
      rw [dp_noDict d v h] at z
      cases z⟩
  · obtain rfl : u = Value.ref a := r
    obtain ⟨_, hs, vs, kv, o, es, ep, ho, hx, hd, _, hp, _⟩ := dk_of I.hok ha
    cases kv
    have e0 : es.toList = [] := List.eq_nil_of_length_eq_zero (by rw [hp.length]; rfl)
    refine ⟨_, .dict (kvs := []) ho hx.1 hd (by rw [e0]; exact .nil) (by rw [e0]; exact .nil), fun _ hm => ?_⟩
    have : sysModules = a := by simpa using hm
    rw [this] at hs
    simp at hs
def rRepr (K : PySem.W.Frag) : List V → Hp → VK → Prop := fun vs H Q => ∃ v d, vs = [v] ∧ DpX K H v d ∧ d.showable = true ∧ d.depth ≤ 7 ∧ d.shown.length ≤ sizeLine ∧ Q (.str d.shown) H
theorem call_repr {X : Cx} (hg : X.A.guards = some []) (hu : X.A.units + 64 < cLine) : CallR X (.builtin "repr") (rRepr X.K) := by
  intro pins s σ H vs us Q I r h
  obtain ⟨v, d, rfl, hd, hs, hz, hl, q⟩ := h
  obtain ⟨u, rfl, ru⟩ := vals1 r
  obtain ⟨as, hr, hm⟩ := dpx_reads I hd ru
  have toks : ∀ tk, EP X pins σ Q (.str d.shown s.toks) { s with toks := tk } := fun tk => ⟨.str d.shown, H, I.tok tk, ⟨_, rfl⟩, q⟩
  cases hr with
  | none => exact PySem.P.repr_of_none (toks _)
  | bool b => exact PySem.P.repr_of_bool (toks _)
  | int i t => exact PySem.P.repr_of_int (by simpa [PyData.showable] using hs) (toks _)
  | str x t => exact PySem.P.repr_of_str (toks _) (by simpa only [PyData.shown] using hl)
  | list h1 h2 h3 h4 =>
    exact repr_of_reads' (.list h1 h2 h3 h4) hs hm hg (by omega) (fun _ _ e => e) (fun h' u tk hk => ⟨.str _, H, I.kept hk, ⟨_, rfl⟩, q⟩) hl
  | tuple h1 h2 h3 h4 =>
    exact repr_of_reads' (.tuple h1 h2 h3 h4) hs hm hg (by omega) (fun _ _ e => e) (fun h' u tk hk => ⟨.str _, H, I.kept hk, ⟨_, rfl⟩, q⟩) hl
  | dict h1 h2 h3 h4 h5 =>
    exact repr_of_reads' (.dict h1 h2 h3 h4 h5) hs hm hg (by omega) (fun _ _ e => e) (fun h' u tk hk => ⟨.str _, H, I.kept hk, ⟨_, rfl⟩, q⟩) hl
/-! ### str(o), its class has __str__ -/
def tStrO (C : Addr) (sp : Sp) (t : TE) : TE := fun σ H Q => t σ H fun x H1 => ∃ a dx fs, x = .ref a ∧ H1 a = some (.ins C dx fs) ∧ sp [x] H1 (fun r H2 => (∃ z, r = .str z) ∧ Q r H2) E0
theorem pe_strO {X : Cx} {C f : Addr} {k : Nat} {fd : FuncData} {ps : List Str} {sp : Sp} {a : Expr} {ta : TE} {p pos : Pos} (F : FnOk X.prog X.w X.K X.mg X.base CX0 k f fd ps sp) (hr : Room (k + 2) X.A) (hg : Gl X "str") (hm : X.mg "str" = none) (hb : Binds X.K fd ps [])
    (hs : PySem.W.findIn X.K (.ref C) "__str__" = some (some (.ref f))) (hf : PySem.W.isFn X.K (.ref f) = true) (ha : PE X a ta) (na : starEach [a] X.env = (false, eval a X.env) :: starEach [] X.env := by rfl) :
    PE X (.Call (.Name "str" p) [a] [] pos) (tStrO C sp ta) := by
  refine ⟨fun pins s σ H Q I h => ?_⟩
  refine Call_ (ld_blt I hg hm boot_str ?_)
  refine PyProof.Rows.callWith_type1 (PyProof.Rows.args_cons (thn (ha.run pins s σ H _ I h) ?_) na) na rfl
  rintro v s1 ⟨x, H1, I1, r1, a, dx, fs, rfl, hins, hsp⟩
  refine PyProof.Rows.args_nil ?_
  obtain rfl : v = Value.ref a := r1
  obtain ⟨mA, O, _⟩ := ins_get I1.hok hins
  obtain ⟨od, J, _⟩ := O.look
  have hl : ([Value.ref a] ++ ([] : List Value)).length = ps.length := by
    have q := F.len _ _ _ _ hsp
    simpa using q
  have bd := hb s1 [.ref a] I1.kIn hl
  rw [List.append_nil] at bd
  refine PySem.W.kso_call (by have := hr.un; show X.A.units + 1 + 1 < cLine; omega) I1.kIn J hs hf ?_
  refine wpAny_call (codeAny_mono (F.run X.A.in1.in1 X.stack s1 H1 ⟨[.ref a], []⟩ [.ref a] [.ref a] _ E0 hr.in1.in1 I1.env0.in1.in1 bd (.cons rfl .nil) hsp) fun r s' hq => ?_)
  cases r with
  | error er => exact (show False from hq).elim
  | ok fl =>
    cases fl with
    | next => exact (show False from hq).elim
    | brk => exact (show False from hq).elim
    | cont => exact (show False from hq).elim
    | ret u =>
      obtain ⟨v, H2, os, ag, un, ok, rz, ⟨z, rfl⟩, hQ⟩ := hq
      obtain ⟨t, rfl⟩ := rz
      exact I1.after ⟨.str z, H2, os, ag, un, ok, ⟨t, rfl⟩, hQ⟩
end K5
set_option Elab.async false
set_option linter.all false
set_option maxRecDepth 100000
set_option maxHeartbeats 4000000
/-! Rules: C.m(k=e), m a classmethod; cls(e, ..), the class held by a local name. -/
namespace K5
open PySem PySem.Spec PyProof.Rows L2
open ClX
/-- C.m(k=e) -/
def tCMethK (C : Addr) (sp : Sp) (E : XK) (ta : TE) (tk : TA) : TE := fun σ H Q => ta σ H fun x H1 => x = .ref C ∧ tk σ H1 fun zs H2 => sp (.ref C :: zs) H2 Q E
section
variable {X : Cx} {CX : CXT} {k : Nat} {C p g : Addr} {mc : Value} {fd : FuncData} {ps ks : List Str} {sp : Sp} {E : XK} {o e : Expr} {es : List Expr} {kws : List Keyword} {m : Str} {pos apos : Pos} {ta : TE} {t tk : TA} {pl : Sem Bool}
theorem pe_cmethK (he : PE X o ta) (r : CRead X.K C mc) (c : CMet X.K C mc m p g) (F : FnOk X.prog X.w X.K X.mg X.base CX k g fd ps sp) (hr : Room k X.A) (hx : Passes CX X E) (hkw : PK X kws tk)
    (hb : ∀ (s : Shared) (ws : List Value), (Value.ref C :: ws).length = ps.length → BindsTo s fd ⟨[.ref C], ks.zip ws⟩ (ps.zip (Value.ref C :: ws)))
    (hall : (backToKw pos (keywordEach kws X.env)).all (·.1.isSome) = true := by rfl) (hks : (backToKw pos (keywordEach kws X.env)).filterMap (·.1) = ks := by rfl)
    (hpl : ((backTo pos (starEach [] X.env)).any (·.1) || (backToKw pos (keywordEach kws X.env)).any (·.1.isNone)) = false := by rfl)
    (ht : eval (.Call (.Attribute o m apos) [] kws pos) X.env = (do
      let ov ← eval o X.env
      standAt apos.atName
      let (f, first) ← holding [ov] (getMethod ov m pl)
      callWith pos f first (backTo pos (starEach [] X.env)) (backToKw pos (keywordEach kws X.env))) := by rfl) :
    PE X (.Call (.Attribute o m apos) [] kws pos) (tCMethK C sp E ta tk) := by
  refine ⟨fun pins s σ H Q I h => ?_⟩
  refine PySem.W.methodCall_KW (pl := pl) (thn (he.run pins s σ H _ I h) fun u s1 ⟨x, H1, I1, rx, ex, q⟩ => ?_) ht
  subst ex
  obtain rfl : u = Value.ref C := rx
  refine getmethcm_ok I1 r c fun s2 I2 => ?_
  refine PySem.W.callWith_of (P := PySem.W.MethP X.K _ g (.ref C)) hpl (PySem.W.keeps_M c.fi) ?_
  refine evalArgs_kw2_nil hall (thn (hkw.run pos _ s2 σ H1 _ I2 q) fun ws s3 ⟨zs, H2, I3, rv, q2⟩ => ⟨⟨pin_at I3, I3.kIn⟩, ?_⟩)
  rw [hks]
  have r2 : Vals (V.ref C :: zs) (Value.ref C :: ws) := .cons rfl rv
  have hl : (Value.ref C :: ws).length = ps.length := by
    rw [← r2.length]
    exact F.len _ _ _ _ q2
  have z : wpAny (model X.prog X.w) X.A (call (.ref s1.heap.objs.size) [] (ks.zip ws)) (EP X ((s1.heap.objs.size, PySem.W.methodObj (.ref g) (.ref C)) :: pins) σ Q) X.xe s3 := by
    refine wpAny_call (PySem.W.method_call (pin_at I3) (codeAny_mono (F.run X.A X.stack s3 H2 ⟨[.ref C], ks.zip ws⟩ (.ref C :: ws) (.ref C :: zs) Q E hr I3.env0 (hb s3 ws hl) r2 q2) fun r s' hq => ?_))
    cases r with
    | error er => exact hx _ σ H2 s3 er s' I3 hq
    | ok fl =>
      cases fl with
      | ret u => exact I3.after hq
      | next => exact (show False from hq).elim
      | brk => exact (show False from hq).elim
      | cont => exact (show False from hq).elim
  exact thn z fun _ _ y => unpinE y
end
/-- the i-th slot holds the class at C -/
def tMakeL (i : Nat) (C : Addr) (sp : Sp) (E : XK) (t : TA) : TE := fun σ H Q => σ[i]? = some (some (.ref C)) ∧ tMake C sp [] E t σ H Q
section
variable {X : Cx} {CX : CXT} {k i : Nat} {C f : Addr} {fd : FuncData} {ps : List Str} {sp : Sp} {E : XK} {x : Str} {p pos : Pos} {e : Expr} {es : List Expr} {t : TA}
theorem pe_makeL (M : Mk X.K C f) (F : FnOk X.prog X.w X.K X.mg X.base CX k f fd ps sp) (hr : Room (k + 1) X.A) (hN : X.N[i]? = some x) (hv : Vis X.env.scope x) (hb : Binds X.K fd ps []) (hx : Passes CX X E) (ha : PA X (e :: es) t)
    (hdb : (x == ("__debug__" : Str)) = false := by decide) (hcd : (x == ("__classdict__" : Str)) = false := by decide)
    (he : starEach (e :: es) X.env = (false, eval e X.env) :: starEach es X.env := by rfl) (hpl : (backTo pos (starEach es X.env)).any (·.1) = false := by rfl) : PE X (.Call (.Name x p) (e :: es) [] pos) (tMakeL i C sp E t) := by
  refine ⟨fun pins s σ H Q I h => ?_⟩
  obtain ⟨hs, ht⟩ := h
  refine wpAny_Call_Name_kw (thn ((pe_var (pos := p) hN hv hdb hcd).run pins s σ H (fun v H1 => v = .ref C ∧ H1 = H) I ⟨.ref C, hs, rfl, rfl⟩) fun u s1 ⟨v, H1, I1, r1, q1⟩ => ?_)
  obtain ⟨rfl, rfl⟩ := q1
  cases r1
  refine PySem.W.callWith_K (h₀ := X.base) I.ok.mod.kin M.kp (thn (ha.run pos pins s1 σ _ _ I1 ht) fun us s2 ⟨vs, H2, I2, r, q⟩ => ⟨I2.kIn, ?_⟩) he hpl
  exact run_make M F hr hb .nil hx I2 r q
end
end K5
set_option Elab.async false
set_option linter.all false
set_option maxRecDepth 100000
set_option maxHeartbeats 4000000
/-! The head's facts by name (printed by gen_facts.py). -/
namespace K5
open PySem PySem.Spec PyProof.Rows L2
structure Tx (K : PySem.W.Frag) (mg : Str → Option Value) : Prop where
  ex : ∃ h, K.In h ∧ h.Ns mainGlobals mg ∧ K5H.Says h K
/-- the def at f keeps the promise, and can be called by position -/
structure Df (P : Program) (w : World) (K : PySem.W.Frag) (mg : Str → Option Value) (base : Heap) (CX : CXT) (k : Nat) (f : Addr) (ps : List Str) (sp : Sp) : Prop where
  ex : ∃ fd, FnOk P w K mg base CX k f fd ps sp ∧ PySem.W.keepIn K (.ref f) = true ∧ Binds K fd ps []
structure Dg (P : Program) (w : World) (K : PySem.W.Frag) (mg : Str → Option Value) (base : Heap) (CX : CXT) (k : Nat) (f : Addr) (ps : List Str) (sp : Sp) : Prop where
  ex : ∃ fd, FnG P w K mg base CX k f fd ps sp ∧ PySem.W.keepIn K (.ref f) = true ∧ Binds K fd ps []
section
variable {K : PySem.W.Frag} {mg : Str → Option Value}
abbrev ga (x : Str) (K : PySem.W.Frag) : Addr := He.ga K x
theorem Tx.fact (T : Tx K mg) (i : Nat) {f : He.Fa} (h : K5H.fa[i]? = some f) : f.ok K = true := by
  obtain ⟨_, _, _, c⟩ := T.ex
  exact c.a.fact i h
theorem Tx.glo (T : Tx K mg) (i : Nat) {x : Str} (h : K5H.fa[i]? = some (.glo x)) : mg x = some (.ref (ga x K)) := by
  obtain ⟨_, X, G, c⟩ := T.ex
  exact He.glo_ok X G (c.a.fact i h)
theorem Tx.free (T : Tx K mg) (i : Nat) {x : Str} (h : K5H.fa[i]? = some (.free x)) : mg x = none := by
  obtain ⟨_, X, G, c⟩ := T.ex
  exact He.free_ok X G (c.a.fact i h)
theorem Tx.intv (T : Tx K mg) (i : Nat) {x : Str} {n : Int} (h : K5H.fa[i]? = some (.int x n)) : ∃ t, mg x = some (.int n t) := by
  obtain ⟨_, X, G, c⟩ := T.ex
  exact He.int_ok X G (c.a.fact i h)
theorem Tx.strv (T : Tx K mg) (i : Nat) {x z : Str} (h : K5H.fa[i]? = some (.str x z)) : ∃ t, mg x = some (.str z t) := by
  obtain ⟨_, X, G, c⟩ := T.ex
  exact He.str_ok X G (c.a.fact i h)
theorem Tx.fn (T : Tx K mg) (i : Nat) {d : He5.DefA} (h : K5H.fn[i]? = some d) : ∃ fd, L2.FunD K d.name d.qual d.params d.body d.scope (d.dvs K) (d.kws K) (d.at_ K) fd := by
  obtain ⟨_, _, _, c⟩ := T.ex
  exact c.a.def_ i h
theorem Tx.g_is_integer (T : Tx K mg) : mg "is_integer" = some (.ref (ga "is_integer" K)) := T.glo 0 rfl
theorem Tx.g_is_within (T : Tx K mg) : mg "is_within" = some (.ref (ga "is_within" K)) := T.glo 1 rfl
theorem Tx.g_is_name (T : Tx K mg) : mg "is_name" = some (.ref (ga "is_name" K)) := T.glo 2 rfl
theorem Tx.g_read_number (T : Tx K mg) : mg "read_number" = some (.ref (ga "read_number" K)) := T.glo 3 rfl
theorem Tx.g_wrong_mind (T : Tx K mg) : mg "wrong_mind" = some (.ref (ga "wrong_mind" K)) := T.glo 4 rfl
theorem Tx.g_is_row (T : Tx K mg) : mg "is_row" = some (.ref (ga "is_row" K)) := T.glo 5 rfl
theorem Tx.g_is_way (T : Tx K mg) : mg "is_way" = some (.ref (ga "is_way" K)) := T.glo 6 rfl
theorem Tx.g_wrong_way (T : Tx K mg) : mg "wrong_way" = some (.ref (ga "wrong_way" K)) := T.glo 7 rfl
theorem Tx.g_way_text (T : Tx K mg) : mg "way_text" = some (.ref (ga "way_text" K)) := T.glo 8 rfl
theorem Tx.g_lines_of (T : Tx K mg) : mg "lines_of" = some (.ref (ga "lines_of" K)) := T.glo 9 rfl
theorem Tx.g_read_way (T : Tx K mg) : mg "read_way" = some (.ref (ga "read_way" K)) := T.glo 10 rfl
theorem Tx.g_read_council (T : Tx K mg) : mg "read_council" = some (.ref (ga "read_council" K)) := T.glo 11 rfl
theorem Tx.g__law_jug (T : Tx K mg) : mg "_law_jug" = some (.ref (ga "_law_jug" K)) := T.glo 12 rfl
theorem Tx.g__law_sip (T : Tx K mg) : mg "_law_sip" = some (.ref (ga "_law_sip" K)) := T.glo 13 rfl
theorem Tx.g__law_row (T : Tx K mg) : mg "_law_row" = some (.ref (ga "_law_row" K)) := T.glo 14 rfl
theorem Tx.g__law_talk (T : Tx K mg) : mg "_law_talk" = some (.ref (ga "_law_talk" K)) := T.glo 15 rfl
theorem Tx.g__law_pair (T : Tx K mg) : mg "_law_pair" = some (.ref (ga "_law_pair" K)) := T.glo 16 rfl
theorem Tx.g__law_page (T : Tx K mg) : mg "_law_page" = some (.ref (ga "_law_page" K)) := T.glo 17 rfl
theorem Tx.g__law_ended (T : Tx K mg) : mg "_law_ended" = some (.ref (ga "_law_ended" K)) := T.glo 18 rfl
theorem Tx.g__law_is_ended (T : Tx K mg) : mg "_law_is_ended" = some (.ref (ga "_law_is_ended" K)) := T.glo 19 rfl
theorem Tx.g__law_figure (T : Tx K mg) : mg "_law_figure" = some (.ref (ga "_law_figure" K)) := T.glo 20 rfl
theorem Tx.g__law_is_label (T : Tx K mg) : mg "_law_is_label" = some (.ref (ga "_law_is_label" K)) := T.glo 21 rfl
theorem Tx.g__law_seen (T : Tx K mg) : mg "_law_seen" = some (.ref (ga "_law_seen" K)) := T.glo 22 rfl
theorem Tx.g__law_read (T : Tx K mg) : mg "_law_read" = some (.ref (ga "_law_read" K)) := T.glo 23 rfl
theorem Tx.g__law_bent (T : Tx K mg) : mg "_law_bent" = some (.ref (ga "_law_bent" K)) := T.glo 24 rfl
theorem Tx.g__law_is_read (T : Tx K mg) : mg "_law_is_read" = some (.ref (ga "_law_is_read" K)) := T.glo 25 rfl
theorem Tx.g__law_right (T : Tx K mg) : mg "_law_right" = some (.ref (ga "_law_right" K)) := T.glo 26 rfl
theorem Tx.g__law_quiet (T : Tx K mg) : mg "_law_quiet" = some (.ref (ga "_law_quiet" K)) := T.glo 27 rfl
theorem Tx.g_law (T : Tx K mg) : mg "law" = some (.ref (ga "law" K)) := T.glo 28 rfl
theorem Tx.g_WrongValue (T : Tx K mg) : mg "WrongValue" = some (.ref (ga "WrongValue" K)) := T.glo 29 rfl
theorem Tx.g_InvalidText (T : Tx K mg) : mg "InvalidText" = some (.ref (ga "InvalidText" K)) := T.glo 30 rfl
theorem Tx.g_InvalidNumber (T : Tx K mg) : mg "InvalidNumber" = some (.ref (ga "InvalidNumber" K)) := T.glo 31 rfl
theorem Tx.g_InvalidIndex (T : Tx K mg) : mg "InvalidIndex" = some (.ref (ga "InvalidIndex" K)) := T.glo 32 rfl
theorem Tx.g_NotACouncil (T : Tx K mg) : mg "NotACouncil" = some (.ref (ga "NotACouncil" K)) := T.glo 33 rfl
theorem Tx.g_InvalidMinds (T : Tx K mg) : mg "InvalidMinds" = some (.ref (ga "InvalidMinds" K)) := T.glo 34 rfl
theorem Tx.g_InvalidWays (T : Tx K mg) : mg "InvalidWays" = some (.ref (ga "InvalidWays" K)) := T.glo 35 rfl
theorem Tx.g_InvalidWord (T : Tx K mg) : mg "InvalidWord" = some (.ref (ga "InvalidWord" K)) := T.glo 36 rfl
theorem Tx.g_InvalidThoughts (T : Tx K mg) : mg "InvalidThoughts" = some (.ref (ga "InvalidThoughts" K)) := T.glo 37 rfl
theorem Tx.g_WrongName (T : Tx K mg) : mg "WrongName" = some (.ref (ga "WrongName" K)) := T.glo 38 rfl
theorem Tx.g_UnknownName (T : Tx K mg) : mg "UnknownName" = some (.ref (ga "UnknownName" K)) := T.glo 39 rfl
theorem Tx.g_NoAnswer (T : Tx K mg) : mg "NoAnswer" = some (.ref (ga "NoAnswer" K)) := T.glo 40 rfl
theorem Tx.g_NoDays (T : Tx K mg) : mg "NoDays" = some (.ref (ga "NoDays" K)) := T.glo 41 rfl
theorem Tx.g_TooMany (T : Tx K mg) : mg "TooMany" = some (.ref (ga "TooMany" K)) := T.glo 42 rfl
theorem Tx.g_Council (T : Tx K mg) : mg "Council" = some (.ref (ga "Council" K)) := T.glo 43 rfl
theorem Tx.b_len (T : Tx K mg) : mg "len" = none := T.free 44 rfl
theorem Tx.b_isinstance (T : Tx K mg) : mg "isinstance" = none := T.free 45 rfl
theorem Tx.b_int (T : Tx K mg) : mg "int" = none := T.free 46 rfl
theorem Tx.b_bool (T : Tx K mg) : mg "bool" = none := T.free 47 rfl
theorem Tx.b_str (T : Tx K mg) : mg "str" = none := T.free 48 rfl
theorem Tx.b_all (T : Tx K mg) : mg "all" = none := T.free 49 rfl
theorem Tx.b_sum (T : Tx K mg) : mg "sum" = none := T.free 50 rfl
theorem Tx.b_max (T : Tx K mg) : mg "max" = none := T.free 51 rfl
theorem Tx.b_min (T : Tx K mg) : mg "min" = none := T.free 52 rfl
theorem Tx.b_abs (T : Tx K mg) : mg "abs" = none := T.free 53 rfl
theorem Tx.b_divmod (T : Tx K mg) : mg "divmod" = none := T.free 54 rfl
theorem Tx.b_repr (T : Tx K mg) : mg "repr" = none := T.free 55 rfl
theorem Tx.b_range (T : Tx K mg) : mg "range" = none := T.free 56 rfl
theorem Tx.b_tuple (T : Tx K mg) : mg "tuple" = none := T.free 57 rfl
theorem Tx.b_set (T : Tx K mg) : mg "set" = none := T.free 58 rfl
theorem Tx.b_enumerate (T : Tx K mg) : mg "enumerate" = none := T.free 59 rfl
theorem Tx.i_MOST_MINDS (T : Tx K mg) : ∃ t, mg "MOST_MINDS" = some (.int 6 t) := T.intv 60 rfl
theorem Tx.i_MOST_WAYS (T : Tx K mg) : ∃ t, mg "MOST_WAYS" = some (.int 6 t) := T.intv 61 rfl
theorem Tx.i_MOST_WEIGHT (T : Tx K mg) : ∃ t, mg "MOST_WEIGHT" = some (.int 1000000000 t) := T.intv 62 rfl
theorem Tx.i_LONGEST_NAME (T : Tx K mg) : ∃ t, mg "LONGEST_NAME" = some (.int 8 t) := T.intv 63 rfl
theorem Tx.s_LETTERS (T : Tx K mg) : ∃ t, mg "LETTERS" = some (.str "abcdefghijklmnopqrstuvwxyz" t) := T.strv 64 rfl
theorem Tx.s_DIGITS (T : Tx K mg) : ∃ t, mg "DIGITS" = some (.str "0123456789" t) := T.strv 65 rfl
theorem Tx.c_Council (T : Tx K mg) : Cls K (ga "Council" K) := He.cls_ok (T.fact 66 (f := .cls "Council") rfl)
theorem Tx.n_Council_heads (T : Tx K mg) : NoAttr K (ga "Council" K) "heads" := He.noat_ok (T.fact 67 (f := .noat "Council" "heads") rfl)
theorem Tx.n_Council_tables (T : Tx K mg) : NoAttr K (ga "Council" K) "tables" := He.noat_ok (T.fact 68 (f := .noat "Council" "tables") rfl)
theorem Tx.m_Council (T : Tx K mg) : Mk K (ga "Council" K) (He.ma K (ga "Council" K) "__init__") := He.mkr_ok (T.fact 69 (f := .mkr "Council") rfl)
theorem Tx.k_InvalidText (T : Tx K mg) : PySem.W.keepIn K (.ref (ga "InvalidText" K)) = true := He.keep_ok (T.fact 70 (f := .keep "InvalidText") rfl)
theorem Tx.f_is_integer (T : Tx K mg) : ∃ fd, L2.Fun K "is_integer" "is_integer" K5.s_is_integer (ga "is_integer" K) fd := (T.fn 0 (d := K5H.dGl "is_integer" K5.s_is_integer) rfl).imp fun _ F => He5.fun_of F
theorem Tx.f_is_within (T : Tx K mg) : ∃ fd, L2.Fun K "is_within" "is_within" K5.s_is_within (ga "is_within" K) fd := (T.fn 1 (d := K5H.dGl "is_within" K5.s_is_within) rfl).imp fun _ F => He5.fun_of F
theorem Tx.f_is_name (T : Tx K mg) : ∃ fd, L2.Fun K "is_name" "is_name" K5.s_is_name (ga "is_name" K) fd := (T.fn 2 (d := K5H.dGl "is_name" K5.s_is_name) rfl).imp fun _ F => He5.fun_of F
theorem Tx.f_read_number (T : Tx K mg) : ∃ fd, L2.Fun K "read_number" "read_number" K5.s_read_number (ga "read_number" K) fd := (T.fn 3 (d := K5H.dGl "read_number" K5.s_read_number) rfl).imp fun _ F => He5.fun_of F
theorem Tx.f_wrong_mind (T : Tx K mg) : ∃ fd, L2.Fun K "wrong_mind" "wrong_mind" K5.s_wrong_mind (ga "wrong_mind" K) fd := (T.fn 4 (d := K5H.dGl "wrong_mind" K5.s_wrong_mind) rfl).imp fun _ F => He5.fun_of F
theorem Tx.f_is_row (T : Tx K mg) : ∃ fd, L2.Fun K "is_row" "is_row" K5.s_is_row (ga "is_row" K) fd := (T.fn 5 (d := K5H.dGl "is_row" K5.s_is_row) rfl).imp fun _ F => He5.fun_of F
theorem Tx.f_is_way (T : Tx K mg) : ∃ fd, L2.Fun K "is_way" "is_way" K5.s_is_way (ga "is_way" K) fd := (T.fn 6 (d := K5H.dGl "is_way" K5.s_is_way) rfl).imp fun _ F => He5.fun_of F
theorem Tx.f_wrong_way (T : Tx K mg) : ∃ fd, L2.Fun K "wrong_way" "wrong_way" K5.s_wrong_way (ga "wrong_way" K) fd := (T.fn 7 (d := K5H.dGl "wrong_way" K5.s_wrong_way) rfl).imp fun _ F => He5.fun_of F
theorem Tx.f_way_text (T : Tx K mg) : ∃ fd, L2.Fun K "way_text" "way_text" K5.s_way_text (ga "way_text" K) fd := (T.fn 8 (d := K5H.dGl "way_text" K5.s_way_text) rfl).imp fun _ F => He5.fun_of F
theorem Tx.f_lines_of (T : Tx K mg) : ∃ fd, L2.Fun K "lines_of" "lines_of" K5.s_lines_of (ga "lines_of" K) fd := (T.fn 9 (d := K5H.dGl "lines_of" K5.s_lines_of) rfl).imp fun _ F => He5.fun_of F
theorem Tx.f_read_way (T : Tx K mg) : ∃ fd, L2.Fun K "read_way" "read_way" K5.s_read_way (ga "read_way" K) fd := (T.fn 10 (d := K5H.dGl "read_way" K5.s_read_way) rfl).imp fun _ F => He5.fun_of F
theorem Tx.f_read_council (T : Tx K mg) : ∃ fd, L2.Fun K "read_council" "read_council" K5.s_read_council (ga "read_council" K) fd := (T.fn 11 (d := K5H.dGl "read_council" K5.s_read_council) rfl).imp fun _ F => He5.fun_of F
theorem Tx.f__law_jug (T : Tx K mg) : ∃ fd, L2.Fun K "_law_jug" "_law_jug" K5.s_law_jug (ga "_law_jug" K) fd := (T.fn 12 (d := K5H.dGl "_law_jug" K5.s_law_jug) rfl).imp fun _ F => He5.fun_of F
theorem Tx.f__law_sip (T : Tx K mg) : ∃ fd, L2.Fun K "_law_sip" "_law_sip" K5.s_law_sip (ga "_law_sip" K) fd := (T.fn 13 (d := K5H.dGl "_law_sip" K5.s_law_sip) rfl).imp fun _ F => He5.fun_of F
theorem Tx.f__law_row (T : Tx K mg) : ∃ fd, L2.Fun K "_law_row" "_law_row" K5.s_law_row (ga "_law_row" K) fd := (T.fn 14 (d := K5H.dGl "_law_row" K5.s_law_row) rfl).imp fun _ F => He5.fun_of F
theorem Tx.f__law_talk (T : Tx K mg) : ∃ fd, L2.Fun K "_law_talk" "_law_talk" K5.s_law_talk (ga "_law_talk" K) fd := (T.fn 15 (d := K5H.dGl "_law_talk" K5.s_law_talk) rfl).imp fun _ F => He5.fun_of F
theorem Tx.f__law_pair (T : Tx K mg) : ∃ fd, L2.Fun K "_law_pair" "_law_pair" K5.s_law_pair (ga "_law_pair" K) fd := (T.fn 16 (d := K5H.dGl "_law_pair" K5.s_law_pair) rfl).imp fun _ F => He5.fun_of F
theorem Tx.f__law_page (T : Tx K mg) : ∃ fd, L2.Fun K "_law_page" "_law_page" K5.s_law_page (ga "_law_page" K) fd := (T.fn 17 (d := K5H.dGl "_law_page" K5.s_law_page) rfl).imp fun _ F => He5.fun_of F
theorem Tx.f__law_ended (T : Tx K mg) : ∃ fd, L2.Fun K "_law_ended" "_law_ended" K5.s_law_ended (ga "_law_ended" K) fd := (T.fn 18 (d := K5H.dGl "_law_ended" K5.s_law_ended) rfl).imp fun _ F => He5.fun_of F
theorem Tx.f__law_is_ended (T : Tx K mg) : ∃ fd, L2.Fun K "_law_is_ended" "_law_is_ended" K5.s_law_is_ended (ga "_law_is_ended" K) fd := (T.fn 19 (d := K5H.dGl "_law_is_ended" K5.s_law_is_ended) rfl).imp fun _ F => He5.fun_of F
theorem Tx.f__law_figure (T : Tx K mg) : ∃ fd, L2.Fun K "_law_figure" "_law_figure" K5.s_law_figure (ga "_law_figure" K) fd := (T.fn 20 (d := K5H.dGl "_law_figure" K5.s_law_figure) rfl).imp fun _ F => He5.fun_of F
theorem Tx.f__law_is_label (T : Tx K mg) : ∃ fd, L2.Fun K "_law_is_label" "_law_is_label" K5.s_law_is_label (ga "_law_is_label" K) fd := (T.fn 21 (d := K5H.dGl "_law_is_label" K5.s_law_is_label) rfl).imp fun _ F => He5.fun_of F
theorem Tx.f__law_seen (T : Tx K mg) : ∃ fd, L2.Fun K "_law_seen" "_law_seen" K5.s_law_seen (ga "_law_seen" K) fd := (T.fn 22 (d := K5H.dGl "_law_seen" K5.s_law_seen) rfl).imp fun _ F => He5.fun_of F
theorem Tx.f__law_read (T : Tx K mg) : ∃ fd, L2.Fun K "_law_read" "_law_read" K5.s_law_read (ga "_law_read" K) fd := (T.fn 23 (d := K5H.dGl "_law_read" K5.s_law_read) rfl).imp fun _ F => He5.fun_of F
theorem Tx.f__law_bent (T : Tx K mg) : ∃ fd, L2.Fun K "_law_bent" "_law_bent" K5.s_law_bent (ga "_law_bent" K) fd := (T.fn 24 (d := K5H.dGl "_law_bent" K5.s_law_bent) rfl).imp fun _ F => He5.fun_of F
theorem Tx.f__law_is_read (T : Tx K mg) : ∃ fd, L2.Fun K "_law_is_read" "_law_is_read" K5.s_law_is_read (ga "_law_is_read" K) fd := (T.fn 25 (d := K5H.dGl "_law_is_read" K5.s_law_is_read) rfl).imp fun _ F => He5.fun_of F
theorem Tx.f__law_right (T : Tx K mg) : ∃ fd, L2.Fun K "_law_right" "_law_right" K5.s_law_right (ga "_law_right" K) fd := (T.fn 26 (d := K5H.dGl "_law_right" K5.s_law_right) rfl).imp fun _ F => He5.fun_of F
theorem Tx.f__law_quiet (T : Tx K mg) : ∃ fd, L2.Fun K "_law_quiet" "_law_quiet" K5.s_law_quiet (ga "_law_quiet" K) fd := (T.fn 27 (d := K5H.dGl "_law_quiet" K5.s_law_quiet) rfl).imp fun _ F => He5.fun_of F
theorem Tx.f_law (T : Tx K mg) : ∃ fd, L2.Fun K "law" "law" K5.s_law (ga "law" K) fd := (T.fn 28 (d := K5H.dGl "law" K5.s_law) rfl).imp fun _ F => He5.fun_of F
theorem Tx.f_InvalidText___init__ (T : Tx K mg) : ∃ fd, L2.Fun K "__init__" "InvalidText.__init__" K5.s_text_init (K5H.xInit K) fd := (T.fn 29 (d := K5H.dOf K5H.xInit "__init__" "InvalidText.__init__" K5.s_text_init) rfl).imp fun _ F => He5.fun_of F
theorem Tx.f_Council___init__ (T : Tx K mg) : ∃ fd, L2.Fun K "__init__" "Council.__init__" K5.s_c_init ((K5H.cMeth "__init__") K) fd := (T.fn 30 (d := K5H.dOf (K5H.cMeth "__init__") "__init__" "Council.__init__" K5.s_c_init) rfl).imp fun _ F => He5.fun_of F
theorem Tx.f_Council_read (T : Tx K mg) : ∃ fd, L2.Fun K "read" "Council.read" K5.s_c_read (K5H.cRead K) fd := (T.fn 31 (d := K5H.dOf K5H.cRead "read" "Council.read" K5.s_c_read) rfl).imp fun _ F => He5.fun_of F
theorem Tx.f_Council_minds (T : Tx K mg) : ∃ fd, L2.Fun K "minds" "Council.minds" K5.s_c_minds ((K5H.cProp "minds") K) fd := (T.fn 32 (d := K5H.dOf (K5H.cProp "minds") "minds" "Council.minds" K5.s_c_minds) rfl).imp fun _ F => He5.fun_of F
theorem Tx.f_Council_ways (T : Tx K mg) : ∃ fd, L2.Fun K "ways" "Council.ways" K5.s_c_ways ((K5H.cProp "ways") K) fd := (T.fn 33 (d := K5H.dOf (K5H.cProp "ways") "ways" "Council.ways" K5.s_c_ways) rfl).imp fun _ F => He5.fun_of F
theorem Tx.f_Council___str__ (T : Tx K mg) : ∃ fd, L2.Fun K "__str__" "Council.__str__" K5.s_c_str ((K5H.cMeth "__str__") K) fd := (T.fn 34 (d := K5H.dOf (K5H.cMeth "__str__") "__str__" "Council.__str__" K5.s_c_str) rfl).imp fun _ F => He5.fun_of F
end
end K5
set_option Elab.async false
set_option linter.all false
set_option maxRecDepth 100000
set_option maxHeartbeats 2000000
/-! Data on the heap: what stays, what is new; comprehensions that build data. -/
namespace K5
open PySem PySem.Spec PyProof.Rows L2
/-! ### heaps -/
theorem del_at {H : Hp} {a b : Addr} {o : HO} (h : del H a b = some o) : b ≠ a ∧ H b = some o := by
  by_cases e : b = a
  · rw [e, del_same] at h
    cases h
  · exact ⟨e, (del_ne e).symm.trans h⟩
/-- what B tells is left out -/
def nw (B H : Hp) : Hp := fun a => if (B a).isSome = true then none else H a
theorem nw_at {B H : Hp} {a : Addr} {o : HO} (h : nw B H a = some o) : B a = none ∧ H a = some o := by
  unfold nw at h
  by_cases e : (B a).isSome = true
  · rw [if_pos e] at h
    cases h
  · rw [if_neg e] at h
    exact ⟨by simpa using e, h⟩
theorem nw_of {B H : Hp} {a : Addr} {o : HO} (h : H a = some o) (n : B a = none) : nw B H a = some o := by
  unfold nw
  rw [n]
  exact h
/-- all but P stays, what is told stays told -/
structure SameX (P : Addr → Prop) (H H' : Hp) : Prop where
  to : ∀ b o, ¬ P b → H b = some o → H' b = some o
  dom : ∀ b, (H b).isSome = true → (H' b).isSome = true
theorem SameX.refl (P : Addr → Prop) (H : Hp) : SameX P H H := ⟨fun _ _ _ h => h, fun _ h => h⟩
theorem SameX.trans {P : Addr → Prop} {H H1 H2 : Hp} (a : SameX P H H1) (b : SameX P H1 H2) : SameX P H H2 := ⟨fun c o n h => b.to c o n (a.to c o n h), fun c h => b.dom c (a.dom c h)⟩
theorem SameX.of {P : Addr → Prop} {H H' : Hp} (s : Same H H') : SameX P H H' := ⟨fun b o _ h => s b o h, fun b h => by
  obtain ⟨o, e⟩ := Option.isSome_iff_exists.mp h
  rw [s b o e]
  rfl⟩
theorem SameX.same {H H' : Hp} (s : SameX (fun _ => False) H H') : Same H H' := fun b o h => s.to b o (fun z => z) h
theorem SameX.none {P : Addr → Prop} {H H' : Hp} (s : SameX P H H') {a : Addr} (n : H' a = Option.none) : H a = Option.none := by
  cases e : H a with
  | none => rfl
  | some o =>
    have q := s.dom a (by rw [e]; rfl)
    rw [n] at q
    cases q
theorem same_upd {H : Hp} {a : Addr} {o : HO} (n : H a = none) : Same H (upd H a o) := fun b u e => (upd_ne (ne_of_none e n)).trans e
theorem samex_upd {P : Addr → Prop} {H : Hp} {a : Addr} {o : HO} (n : H a = none) : SameX P H (upd H a o) := .of (same_upd n)
theorem samex_set {P : Addr → Prop} {H : Hp} {a : Addr} {o : HO} (p : P a) : SameX P H (upd H a o) := ⟨fun b u n e => (upd_ne (fun z => n (by rw [z]; exact p))).trans e, fun b e => by
  by_cases q : b = a
  · rw [q, upd_same]
    rfl
  · rw [upd_ne q]
    exact e⟩
/-! ### data -/
mutual
theorem dp_same {K : PySem.W.Frag} {H H' : Hp} (e : Same H H') : ∀ (d : PyData) (v : V), Dp K H v d → Dp K H' v d
  | .none, _, .non => .non
  | .bool _, _, .bl b => .bl b
  | .int _, _, .int i => .int i
  | .str _, _, .str x => .str x
  | .list ds, _, .lst s a => .lst (e.seq s) (dp_sameAll e ds _ a)
  | .tuple ds, _, .tup s a => .tup (by
      rcases s with (s | ⟨o, s⟩) | s
      · exact .inl (.inl (e _ _ s))
      · exact .inl (.inr ⟨o, e _ _ s⟩)
      · exact .inr s) (dp_sameAll e ds _ a)
  | .dict _, _, h => nomatch h
theorem dp_sameAll {K : PySem.W.Frag} {H H' : Hp} (e : Same H H') : ∀ (ds : List PyData) (vs : List V), DpAll K H vs ds → DpAll K H' vs ds
  | [], _, .nil => .nil
  | d :: ds, _, .cons h t => .cons (dp_same e d _ h) (dp_sameAll e ds _ t)
end
section
variable {K : PySem.W.Frag} {H H' B : Hp} {v : V} {vs : List V} {d : PyData} {ds : List PyData}
theorem dpa_len : ∀ {ds : List PyData} {vs : List V}, DpAll K H vs ds → vs.length = ds.length
  | _, _, .nil => rfl
  | _, _, .cons _ t => congrArg (· + 1) (dpa_len t)
theorem dpa_at : ∀ {ds : List PyData} {vs : List V} {i : Nat} {x : V}, DpAll K H vs ds → vs[i]? = some x → ∃ d, ds[i]? = some d ∧ Dp K H x d
  | _, _, i, x, .nil, h => by simp at h
  | _, _, 0, x, .cons q t, h => by
    cases h
    exact ⟨_, rfl, q⟩
  | _, _, i + 1, x, .cons q t, h => dpa_at (i := i) t h
theorem dpa_snoc : ∀ {ds : List PyData} {vs : List V} {d : PyData} {v : V}, DpAll K H vs ds → Dp K H v d → DpAll K H (vs ++ [v]) (ds ++ [d])
  | _, _, _, _, .nil, q => .cons q .nil
  | _, _, _, _, .cons h t, q => .cons h (dpa_snoc t q)
theorem dp_lst (h : Dp K H v (.list ds)) : ∃ a xs, v = .ref a ∧ SqL K H a xs ∧ DpAll K H xs ds := by
  cases h with
  | lst s a => exact ⟨_, _, rfl, s, a⟩
theorem dp_tup (h : Dp K H v (.tuple ds)) : ∃ a xs, v = .ref a ∧ SqT K H a xs ∧ DpAll K H xs ds := by
  cases h with
  | tup s a => exact ⟨_, _, rfl, s, a⟩
theorem dpa_ints : ∀ {ns : List Int} {vs : List V}, DpAll K H vs (ns.map .int) → vs = ns.map .int
  | [], _, .nil => rfl
  | n :: ns, _, .cons h t => by
    cases h
    rw [dpa_ints t]
    rfl
theorem dpa_strs : ∀ {ns : List Str} {vs : List V}, DpAll K H vs (ns.map .str) → vs = ns.map .str
  | [], _, .nil => rfl
  | n :: ns, _, .cons h t => by
    cases h
    rw [dpa_strs t]
    rfl
theorem dpa_bls : ∀ {ns : List Bool} {vs : List V}, DpAll K H vs (ns.map .bool) → vs = ns.map .bl
  | [], _, .nil => rfl
  | n :: ns, _, .cons h t => by
    cases h
    rw [dpa_bls t]
    rfl
theorem dpa_of_ints : ∀ {ns : List Int}, DpAll K H (ns.map .int) (ns.map .int)
  | [] => .nil
  | n :: ns => .cons (.int n) dpa_of_ints
theorem dpa_of_strs : ∀ {ns : List Str}, DpAll K H (ns.map .str) (ns.map .str)
  | [] => .nil
  | n :: ns => .cons (.str n) dpa_of_strs
/-- what lies off all that is told -/
theorem nw_same {P : Addr → Prop} (s : SameX P H H') (hP : ∀ b, P b → (B b).isSome = true) : Same (nw B H) (nw B H') := fun b o e => by
  obtain ⟨n, e⟩ := nw_at e
  exact nw_of (s.to b o (fun p => by
    have q := hP b p
    rw [n] at q
    cases q) e) n
theorem nw_sub : Same (nw B H) H := fun b o e => (nw_at e).2
theorem nw_del {D : Addr} {H4 : Hp} (hD : (H D).isSome = true) (hB : ∀ b, (B b).isSome = true → (H b).isSome = true) : Same (nw H H4) (del (nw B H4) D) := fun b o e => by
  obtain ⟨n, e⟩ := nw_at e
  have hb : b ≠ D := fun z => by
    rw [z] at n
    rw [n] at hD
    cases hD
  rw [del_ne hb]
  refine nw_of e ?_
  cases q : B b with
  | none => rfl
  | some u =>
    have z := hB b (by rw [q]; rfl)
    rw [n] at z
    cases z
theorem nw_up (hB : ∀ b, (B b).isSome = true → (H b).isSome = true) : Same (nw H H') (nw B H') := fun b o e => by
  obtain ⟨n, e⟩ := nw_at e
  refine nw_of e ?_
  cases q : B b with
  | none => rfl
  | some u =>
    have z := hB b (by rw [q]; rfl)
    rw [n] at z
    cases z
theorem del_sub {D : Addr} : Same (del H D) H := fun b o e => (del_at e).2
theorem del_same2 {D : Addr} (s : Same H H') : Same (del H D) (del H' D) := fun b o e => by
  obtain ⟨n, e⟩ := del_at e
  rw [del_ne n]
  exact s b o e
/-- a new tuple of such data -/
theorem dp_tup_new {p : Addr} (hp : H p = none) (hB : ∀ b, (B b).isSome = true → (H b).isSome = true) (h : DpAll K (nw B H) vs ds) : Dp K (nw B (upd H p (.tup vs))) (.ref p) (.tuple ds) := by
  have n : B p = none := by
    cases q : B p with
    | none => rfl
    | some u =>
      have z := hB p (by rw [q]; rfl)
      rw [hp] at z
      cases z
  refine .tup (.inl (.inl (nw_of upd_same n))) (dp_sameAll (fun b o e => ?_) _ _ h)
  obtain ⟨n2, e⟩ := nw_at e
  exact nw_of ((upd_ne (ne_of_none e hp)).trans e) n2
theorem dp_lst_new {p : Addr} (hp : H p = none) (hB : ∀ b, (B b).isSome = true → (H b).isSome = true) (h : DpAll K (nw B H) vs ds) : Dp K (nw B (upd H p (.lst vs))) (.ref p) (.list ds) := by
  have n : B p = none := by
    cases q : B p with
    | none => rfl
    | some u =>
      have z := hB p (by rw [q]; rfl)
      rw [hp] at z
      cases z
  refine .lst (.inl (.inl (nw_of upd_same n))) (dp_sameAll (fun b o e => ?_) _ _ h)
  obtain ⟨n2, e⟩ := nw_at e
  exact nw_of ((upd_ne (ne_of_none e hp)).trans e) n2
end
/-! ### a comprehension that builds data -/
theorem lc_data {K : PySem.W.Frag} {J : It} {n : Nat} {G : Hp → Prop} {Y : Nat → Hp → V → Hp → Prop} (w : Walk J n G Y) {g : TG} {tt : TT} {te : TE} {vs : List Nat} {σ : L2.St} {H1 : Hp} {D : Addr} {Qd : Hp → Prop}
    (P : Addr → Prop) (B : Hp) (Ex : Hp → Prop) (A : Nat → List PyData → Prop)
    (hn : n ≤ sizeLine) (hD : H1 D = none) (hP : ∀ b, P b → (B b).isSome = true) (hB : ∀ b, (B b).isSome = true → (H1 b).isSome = true)
    (hx0 : Ex H1) (hxD : ∀ H o, Ex H → Ex (upd H D o)) (hA : A 0 []) (hG : ∀ H, SameX P H1 H → Ex H → G H)
    (hs : ∀ i x H H' ds, i < n → SameX P H1 H → Ex H → (H D).isSome = true → A i ds → Y i H x H' → ∀ (Qy : V → Hp → Prop) (Qn : Hp → Prop),
      (∀ y d H4, SameX P H H4 → Ex H4 → Dp K (del (nw B H4) D) y d → A (i + 1) (ds ++ [d]) → Qy y H4) → (∀ H3, SameX P H H3 → Ex H3 → A (i + 1) ds → Qn H3) →
      g x (wipe σ vs) H' fun σ2 H2 => wipe σ2 vs = wipe σ vs ∧ tt σ2 H2 fun b H3 => if b = true then te σ2 H3 Qy else Qn H3)
    (hd : ∀ H ys ds, SameX P H1 H → Ex H → A n ds → H D = some (.lst ys) → DpAll K (del (nw B H) D) ys ds → Dp K (nw B H) (.ref D) (.list ds) → Qd H) :
    ∃ W : Nat → Nat → Hp → Prop, (∃ m, W 0 m (upd H1 D (.lst []))) ∧ ∀ i m H, W i m H →
      (J.stop i H ∧ Qd H) ∨ (J.go i H ∧ ∃ Nx : Hp → Prop, (∀ H', Nx H' → ∃ m', m' < m ∧ W (i + 1) m' H') ∧ ∀ x H', J.yld i H x H' → g x (wipe σ vs) H' fun σ2 H2 => wipe σ2 vs = wipe σ vs ∧ tt σ2 H2 fun b H3 =>
        if b = true then te σ2 H3 fun y H4 => ∃ acc, H4 D = some (.lst acc) ∧ acc.length < sizeLine ∧ Nx (upd H4 D (.lst (acc ++ [y]))) else Nx H3) := by
  have nP : ¬ P D := fun p => by
    have q := hB D (hP D p)
    rw [hD] at q
    cases q
  have nB : B D = none := by
    cases q : B D with
    | none => rfl
    | some u =>
      have z := hB D (by rw [q]; rfl)
      rw [hD] at z
      cases z
  have delupd : ∀ (H : Hp) (o : HO), del (nw B (upd H D o)) D = del (nw B H) D := fun H o => by
    funext b
    by_cases e : b = D
    · rw [e, del_same, del_same]
    · rw [del_ne e, del_ne e]
      unfold nw
      rw [upd_ne e]
  refine lc_it w (fun i H => SameX P H1 H ∧ Ex H ∧ ∃ ys ds, ys.length ≤ i ∧ A i ds ∧ H D = some (.lst ys) ∧ DpAll K (del (nw B H) D) ys ds) ?_ (fun i H _ q => hG H q.1 q.2.1) ?_ ?_
  · exact ⟨samex_upd hD, hxD _ _ hx0, [], [], Nat.le_refl _, hA, upd_same, .nil⟩
  · rintro i x H H' hi ⟨s1, x1, ys, ds, hl, a1, e1, q1⟩ y
    refine hs i x H H' ds hi s1 x1 (by rw [e1]; rfl) a1 y _ _ (fun v d H4 s4 x4 q4 a4 => ?_) (fun H3 s3 x3 a3 => ?_)
    · have e4 := s4.to D _ nP e1
      refine ⟨ys, e4, Nat.lt_of_le_of_lt hl (Nat.lt_of_lt_of_le hi hn), ⟨⟨fun b o n e => ?_, fun b e => ?_⟩, hxD _ _ x4, ys ++ [v], ds ++ [d], by rw [List.length_append]; exact Nat.succ_le_succ hl, a4, upd_same, ?_⟩⟩
      · rw [upd_ne (ne_of_none e hD)]
        exact s4.to b o n (s1.to b o n e)
      · by_cases z : b = D
        · rw [z, upd_same]
          rfl
        · rw [upd_ne z]
          exact s4.dom b (s1.dom b e)
      · rw [delupd]
        exact dpa_snoc (dp_sameAll (del_same2 (nw_same s4 hP)) _ _ q1) q4
    · exact ⟨s1.trans s3, x3, ys, ds, Nat.le_succ_of_le hl, a3, s3.to D _ nP e1, dp_sameAll (del_same2 (nw_same s3 hP)) _ _ q1⟩
  · rintro H ⟨s1, x1, ys, ds, _, a1, e1, q1⟩
    exact hd H ys ds s1 x1 a1 e1 q1 (.lst (.inl (.inl (nw_of e1 nB))) (dp_sameAll del_sub _ _ q1))
end K5
set_option Elab.async false
set_option linter.all false
set_option maxRecDepth 100000
set_option maxHeartbeats 2000000
/-! Short forms: comprehensions that map or filter, calls of defs by name, isinstance of a built-in class. -/
namespace K5
open PySem PySem.Spec PyProof.Rows L2
theorem range_getD {α β : Type} (l : List α) (d : α) (g : α → β) : (List.range l.length).map (fun i => g (l.getD i d)) = l.map g := by
  refine List.ext_getElem (by simp) fun i h1 h2 => ?_
  simp at h1
  simp [List.getD, h1]
def noX : Addr → Prop := fun _ => False
def noH : Hp := fun _ => none
theorem noH_in {H : Hp} : ∀ b, (noH b).isSome = true → (H b).isSome = true := fun _ h => nomatch h
theorem in_self {H : Hp} : ∀ b, (H b).isSome = true → (H b).isSome = true := fun _ h => h
theorem nw_noH {H : Hp} : nw noH H = H := by
  funext a
  rfl
theorem lc_map {K : PySem.W.Frag} {J : It} {n : Nat} {G : Hp → Prop} {Y : Nat → Hp → V → Hp → Prop} (w : Walk J n G Y) {g : TG} {te : TE} {vs : List Nat} {σ : L2.St} {H1 : Hp} {D : Addr} {Qd : Hp → Prop}
    (B : Hp) (f : Nat → PyData) (hn : n ≤ sizeLine) (hD : H1 D = none) (hB : ∀ b, (B b).isSome = true → (H1 b).isSome = true) (hG : ∀ H, Same H1 H → G H)
    (hs : ∀ i x H H', i < n → Same H1 H → (H D).isSome = true → Y i H x H' → ∀ (Qy : V → Hp → Prop), (∀ y H4, Same H H4 → Dp K (del (nw B H4) D) y (f i) → Qy y H4) → g x (wipe σ vs) H' fun σ2 H2 => wipe σ2 vs = wipe σ vs ∧ te σ2 H2 Qy)
    (gm : ∀ (x : V) (H : Hp) (Q Q' : L2.St → Hp → Prop), (∀ σ2 H2, Q σ2 H2 → Q' σ2 H2) → g x (wipe σ vs) H Q → g x (wipe σ vs) H Q')
    (hd : ∀ H ys, Same H1 H → H D = some (.lst ys) → DpAll K (del (nw B H) D) ys ((List.range n).map f) → Dp K (nw B H) (.ref D) (.list ((List.range n).map f)) → Qd H) :
    ∃ W : Nat → Nat → Hp → Prop, (∃ m, W 0 m (upd H1 D (.lst []))) ∧ ∀ i m H, W i m H →
      (J.stop i H ∧ Qd H) ∨ (J.go i H ∧ ∃ Nx : Hp → Prop, (∀ H', Nx H' → ∃ m', m' < m ∧ W (i + 1) m' H') ∧ ∀ x H', J.yld i H x H' → g x (wipe σ vs) H' fun σ2 H2 => wipe σ2 vs = wipe σ vs ∧ tYes σ2 H2 fun b H3 =>
        if b = true then te σ2 H3 fun y H4 => ∃ acc, H4 D = some (.lst acc) ∧ acc.length < sizeLine ∧ Nx (upd H4 D (.lst (acc ++ [y]))) else Nx H3) := by
  refine lc_data (K := K) w noX B (fun _ => True) (fun i ds => ds = (List.range i).map f) hn hD (fun _ p => p.elim) hB trivial (fun _ _ _ => trivial) rfl (fun H s _ => hG H s.same) ?_ ?_
  · intro i x H H' ds hi s _ hDs e y Qy Qn h1 h2
    refine gm _ _ _ _ (fun σ2 H2 q => ⟨q.1, iteT (A := te σ2 H2 Qy) (B := Qn H2) q.2⟩) (hs i x H H' hi s.same hDs y Qy fun y H4 s4 q4 => h1 y (f i) H4 (.of s4) trivial q4 ?_)
    rw [e, List.range_succ, List.map_append]
    rfl
  · intro H ys ds s _ e e1 q1 q2
    subst e
    exact hd H ys s.same e1 q1 q2
theorem lc_filt {K : PySem.W.Frag} {J : It} {n : Nat} {G : Hp → Prop} {Y : Nat → Hp → V → Hp → Prop} (w : Walk J n G Y) {g : TG} {tt : TT} {te : TE} {vs : List Nat} {σ : L2.St} {H1 : Hp} {D : Addr} {Qd : Hp → Prop}
    (B : Hp) (f : Nat → PyData) (p : Nat → Bool) (hn : n ≤ sizeLine) (hD : H1 D = none) (hB : ∀ b, (B b).isSome = true → (H1 b).isSome = true) (hG : ∀ H, Same H1 H → G H)
    (hs : ∀ i x H H', i < n → Same H1 H → (H D).isSome = true → Y i H x H' → ∀ (Qy : V → Hp → Prop) (Qn : Hp → Prop), (p i = true → ∀ y H4, Same H H4 → Dp K (del (nw B H4) D) y (f i) → Qy y H4) → (p i = false → ∀ H3, Same H H3 → Qn H3) →
      g x (wipe σ vs) H' fun σ2 H2 => wipe σ2 vs = wipe σ vs ∧ tt σ2 H2 fun b H3 => if b = true then te σ2 H3 Qy else Qn H3)
    (hd : ∀ H ys, Same H1 H → H D = some (.lst ys) → DpAll K (del (nw B H) D) ys (((List.range n).filter p).map f) → Dp K (nw B H) (.ref D) (.list (((List.range n).filter p).map f)) → Qd H) :
    ∃ W : Nat → Nat → Hp → Prop, (∃ m, W 0 m (upd H1 D (.lst []))) ∧ ∀ i m H, W i m H →
      (J.stop i H ∧ Qd H) ∨ (J.go i H ∧ ∃ Nx : Hp → Prop, (∀ H', Nx H' → ∃ m', m' < m ∧ W (i + 1) m' H') ∧ ∀ x H', J.yld i H x H' → g x (wipe σ vs) H' fun σ2 H2 => wipe σ2 vs = wipe σ vs ∧ tt σ2 H2 fun b H3 =>
        if b = true then te σ2 H3 fun y H4 => ∃ acc, H4 D = some (.lst acc) ∧ acc.length < sizeLine ∧ Nx (upd H4 D (.lst (acc ++ [y]))) else Nx H3) := by
  refine lc_data (K := K) w noX B (fun _ => True) (fun i ds => ds = ((List.range i).filter p).map f) hn hD (fun _ p => p.elim) hB trivial (fun _ _ _ => trivial) rfl (fun H s _ => hG H s.same) ?_ ?_
  · intro i x H H' ds hi s _ hDs e y Qy Qn h1 h2
    refine hs i x H H' hi s.same hDs y Qy Qn (fun hp y H4 s4 q4 => h1 y (f i) H4 (.of s4) trivial q4 ?_) (fun hp H3 s3 => h2 H3 (.of s3) trivial ?_)
    · rw [e, List.range_succ, List.filter_append, List.map_append]
      simp [hp]
    · rw [e, List.range_succ, List.filter_append, List.map_append]
      simp [hp]
  · intro H ys ds s _ e e1 q1 q2
    subst e
    exact hd H ys s.same e1 q1 q2
theorem gm_name {i : Nat} {σ : L2.St} : ∀ (x : V) (H : Hp) (Q Q' : L2.St → Hp → Prop), (∀ σ2 H2, Q σ2 H2 → Q' σ2 H2) → gName i x σ H Q → gName i x σ H Q' := fun x H Q Q' h q => h _ _ q
/-! ### calls -/
section
variable {X : Cx} {k : Nat} {f : Addr} {ps : List Str} {sp : Sp} {x : Str} {p pos : Pos} {e : Expr} {es : List Expr} {t : TA}
theorem pe_d (D : Df X.prog X.w X.K X.mg X.base CX0 k f ps sp) (hr : Room k X.A) (hm : X.mg x = some (.ref f)) (ha : PA X (e :: es) t) (hg : Gl X x := by rfl) (hdb : (x == ("__debug__" : Str)) = false := by decide)
    (he : starEach (e :: es) X.env = (false, eval e X.env) :: starEach es X.env := by rfl) (hpl : (backTo pos (starEach es X.env)).any (·.1) = false := by rfl) : PE X (.Call (.Name x p) (e :: es) [] pos) (tCall sp [] E0 t) := by
  obtain ⟨fd, F, kp, b⟩ := D.ex
  exact pe_call F hr hg hm kp b .nil pass0 ha hdb he hpl
theorem pe_gi {n : Int} {t : Tok} (hm : X.mg x = some (.int n t)) (hg : Gl X x := by rfl) (hd : (x == ("__debug__" : Str)) = false := by decide) : PE X (.Name x pos) (tC (.int n)) := pe_glob hg hm ⟨t, rfl⟩ hd
theorem pe_gs {n : Str} {t : Tok} (hm : X.mg x = some (.str n t)) (hg : Gl X x := by rfl) (hd : (x == ("__debug__" : Str)) = false := by decide) : PE X (.Name x pos) (tC (.str n)) := pe_glob hg hm ⟨t, rfl⟩ hd
/-- isinstance(e, T), T a built-in class -/
def tIsB (K : PySem.W.Frag) (n : String) (te : TE) : TE := fun σ H Q => te σ H fun x H1 => rIsi K [x, .ty n] H1 Q
theorem isB_of {K : PySem.W.Frag} {H : Hp} {x : V} {t n : String} {b : Bool} {Q : VK} (ty : TyX K H x (.type t)) (e : PySem.W.kitOne K (.type t) (.type n) = some b) (q : Q (.bl b) H) : rIsi K [x, .ty n] H Q := ⟨x, .ty n, .type t, .type n, b, rfl, .ty n, ty, e, q⟩
theorem pe_isB (n : String) {y : Str} {te : TE} {p2 : Pos} (hi : X.mg "isinstance" = none) (hy : X.mg y = none) (hv : bootBuiltins y = some (.type n)) (he : PE X e te) (hg : Gl X "isinstance" := by rfl) (hg2 : Gl X y := by rfl)
    (hn : y ≠ "__name__" := by decide) (hdb : (y == ("__debug__" : Str)) = false := by decide)
    (hs : starEach [e, .Name y p2] X.env = (false, eval e X.env) :: starEach [.Name y p2] X.env := by rfl) (hs2 : starEach [.Name y p2] X.env = (false, eval (.Name y p2) X.env) :: starEach [] X.env := by rfl) (hpl : (backTo pos (starEach [.Name y p2] X.env)).any (·.1) = false := by rfl) :
    PE X (.Call (.Name "isinstance" p) [e, .Name y p2] [] pos) (tIsB X.K n te) :=
  ⟨(pe_callB call_isi hg hi (by decide +kernel) (pa_cons he (pa_cons (pe_bltn (v := .ty n) hg2 hy hv rfl hn hdb) pa_nil hs2) hs) (he := hs) (hpl := hpl)).run⟩
end
end K5
set_option Elab.async false
set_option linter.all false
set_option maxRecDepth 100000
set_option maxHeartbeats 2000000
/-! The rules with the text's part named, for use within comprehensions (their readings must not lean on the block). -/
namespace K5
open PySem PySem.Spec PyProof.Rows L2
def rTupK (K : PySem.W.Frag) : List V → Hp → VK → Prop := fun xs H Q => ∃ p ys, xs = [.ref p] ∧ ((SqL K H p ys ∧ ∀ l, H l = none → Q (.ref l) (upd H l (.tup ys))) ∨ (SqT K H p ys ∧ Q (.ref p) H))
def rLenK (K : PySem.W.Frag) : List V → Hp → VK → Prop := fun xs H Q => ∃ p ys, xs = [.ref p] ∧ (SqL K H p ys ∨ SqT K H p ys) ∧ Q (.int ys.length) H
def rSplit : V → List V → Hp → VK → Prop := fun x xs H Q => ∃ a b, x = .str a ∧ xs = [.str b] ∧ (b.length == 0) = false ∧ a.length + 2 ≤ sizeLine ∧ rNewStrs (Txt.split a b) H Q
def rJoinK (K : PySem.W.Frag) : V → List V → Hp → VK → Prop := fun x xs H Q => ∃ a p, ∃ ys : List Str, x = .str a ∧ xs = [.ref p] ∧ (SqL K H p (ys.map V.str) ∨ SqT K H p (ys.map V.str)) ∧
      (ys.map (·.length)).sum + ys.length * a.length ≤ 16777216 ∧ Q (.str (Txt.join a ys)) H
section
variable {X : Cx} (K : PySem.W.Frag)
theorem call_tupleK (hK : X.K = K := by rfl) : CallR X (.type "tuple") (rTupK K) := by
  subst hK
  exact call_tuple_of
theorem call_lenK (hK : X.K = K := by rfl) : CallR X (.builtin "len") (rLenK K) := by
  subst hK
  exact call_len_seq
theorem ix_listK (hK : X.K = K := by rfl) : IxR X (rIxL K) := by
  subst hK
  exact ix_list
theorem ix_tupK (hK : X.K = K := by rfl) : IxR X (rIxT K) := by
  subst hK
  exact ix_tup
theorem pi_listK {tg l : Expr} {tl : TE} (hl : PE X l tl) (hK : X.K = K := by rfl) : PI X tg l (iList K tl) := by
  subst hK
  exact pi_list hl
theorem pi_tupK {tg l : Expr} {tl : TE} (hl : PE X l tl) (hK : X.K = K := by rfl) : PI X tg l (iTup K tl) := by
  subst hK
  exact pi_tup hl
variable {o e : Expr} {to te : TE} {apos pos : Pos}
theorem pe_splitK (ho : PE X o to) (he : PE X e te) (hs : starEach [e] X.env = [(false, eval e X.env)] := by rfl) (hbase : attributeBase o "split" X.env (eval o X.env) = eval o X.env := by rfl) (hline : (apos.endLine == pos.line) = true := by rfl) :
    PE X (.Call (.Attribute o "split" apos) [e] [] pos) (tM1 rSplit to te) := pe_split ho he hs hbase hline
theorem pe_joinK (ho : PE X o to) (he : PE X e te) (hK : X.K = K := by rfl) (hs : starEach [e] X.env = [(false, eval e X.env)] := by rfl) (hbase : attributeBase o "join" X.env (eval o X.env) = eval o X.env := by rfl) (hline : (apos.endLine == pos.line) = true := by rfl) :
    PE X (.Call (.Attribute o "join" apos) [e] [] pos) (tM1 (rJoinK K) to te) := by
  subst hK
  exact pe_join ho he hs hbase hline
end
end K5
set_option Elab.async false
set_option linter.all false
set_option maxRecDepth 100000
set_option maxHeartbeats 2000000
/-! Comprehensions by their sources: lists, tuples, texts; mapped or filtered. -/
namespace K5
open PySem PySem.Spec PyProof.Rows L2
theorem wipe_one (σ : L2.St) (i : Nat) (o : Option V) : wipe ((wipe σ [i]).set i o) [i] = wipe σ [i] := by
  show ((σ.set i none).set i o).set i none = σ.set i none
  rw [List.set_set, List.set_set]
/-- where the source holds n things -/
theorem lc_one {K : PySem.W.Frag} {J : It} {n : Nat} {G : Hp → Prop} {Y : Nat → Hp → V → Hp → Prop} (w : Walk J n G Y) {te : TE} {i : Nat} {σ : L2.St} {H1 : Hp} {Q : V → Hp → Prop} (B : Hp) (f : Nat → PyData) (hn : n ≤ sizeLine) (hB : ∀ b, (B b).isSome = true → (H1 b).isSome = true) (hG : ∀ H, Same H1 H → G H)
    (hY : ∀ j H x H', Y j H x H' → H' = H)
    (hs : ∀ j x H2, j < n → Y j H2 x H2 → Same H1 H2 → ∀ Qy : V → Hp → Prop, (∀ y H3, Same H2 H3 → Dp K (nw H2 H3) y (f j) → Qy y H3) → te ((wipe σ [i]).set i (some x)) H2 Qy)
    (hq : ∀ D ys H2, Same H1 H2 → H2 D = some (.lst ys) → DpAll K (nw B H2) ys ((List.range n).map f) → Dp K (nw B H2) (.ref D) (.list ((List.range n).map f)) → Q (.ref D) H2) :
    ∀ D, H1 D = none → ∃ W : Nat → Nat → Hp → Prop, (∃ m, W 0 m (upd H1 D (.lst []))) ∧ ∀ i' m H, W i' m H →
      (J.stop i' H ∧ Q (.ref D) H) ∨ (J.go i' H ∧ ∃ Nx : Hp → Prop, (∀ H', Nx H' → ∃ m', m' < m ∧ W (i' + 1) m' H') ∧ ∀ x H', J.yld i' H x H' → gName i x (wipe σ [i]) H' fun σ2 H2 => wipe σ2 [i] = wipe σ [i] ∧ tYes σ2 H2 fun b H3 =>
        if b = true then te σ2 H3 fun y H4 => ∃ acc, H4 D = some (.lst acc) ∧ acc.length < sizeLine ∧ Nx (upd H4 D (.lst (acc ++ [y]))) else Nx H3) := by
  intro D hD
  refine lc_map (K := K) w B f hn hD hB hG ?_ gm_name ?_
  · intro j x H H' hj s hDs y Qy h
    obtain rfl := hY _ _ _ _ y
    refine ⟨wipe_one _ _ _, hs j x _ hj y s Qy fun v H3 s3 q3 => h v H3 s3 (dp_same (nw_del hDs fun b hb => (SameX.of (P := noX) s).dom b (hB b hb)) _ _ q3)⟩
  · intro H ys s e q1 q2
    exact hq D ys H s e (dp_sameAll del_sub _ _ q1) q2
theorem lc_list1 {K : PySem.W.Frag} {tl te : TE} {i : Nat} {σ : L2.St} {H : Hp} {Q : V → Hp → Prop} (B : Hp) (hB : ∀ b, (B b).isSome = true → (H b).isSome = true) (xs : List V) (f : Nat → PyData) (hn : xs.length ≤ sizeLine)
    (htl : ∀ R : V → Hp → Prop, (∀ p H1, Same H H1 → SqL K H1 p xs → R (.ref p) H1) → tl σ H R)
    (hs : ∀ j x H2, xs[j]? = some x → Same H H2 → ∀ Qy : V → Hp → Prop, (∀ y H3, Same H2 H3 → Dp K (nw H2 H3) y (f j) → Qy y H3) → te ((wipe σ [i]).set i (some x)) H2 Qy)
    (hq : ∀ D ys H2, Same H H2 → H2 D = some (.lst ys) → DpAll K (nw B H2) ys ((List.range xs.length).map f) → Dp K (nw B H2) (.ref D) (.list ((List.range xs.length).map f)) → Q (.ref D) H2) :
    tLc (iList K tl) (gName i) tYes te [i] σ H Q := by
  refine htl _ fun p H1 s1 q1 => ⟨p, rfl, ⟨_, q1⟩, ?_⟩
  exact lc_one walk_list B f hn (fun b hb => (SameX.of (P := noX) s1).dom b (hB b hb)) (fun _ s => s.seq q1) (fun _ _ _ _ y => y.1) (fun j x H2 _ y s2 => hs j x H2 y.2 (s1.trans s2)) fun D ys H2 s2 => hq D ys H2 (s1.trans s2)
theorem lc_tup1 {K : PySem.W.Frag} {tl te : TE} {i : Nat} {σ : L2.St} {H : Hp} {Q : V → Hp → Prop} (B : Hp) (hB : ∀ b, (B b).isSome = true → (H b).isSome = true) (xs : List V) (f : Nat → PyData) (hn : xs.length ≤ sizeLine)
    (htl : ∀ R : V → Hp → Prop, (∀ p H1, Same H H1 → SqT K H1 p xs → R (.ref p) H1) → tl σ H R)
    (hs : ∀ j x H2, xs[j]? = some x → Same H H2 → ∀ Qy : V → Hp → Prop, (∀ y H3, Same H2 H3 → Dp K (nw H2 H3) y (f j) → Qy y H3) → te ((wipe σ [i]).set i (some x)) H2 Qy)
    (hq : ∀ D ys H2, Same H H2 → H2 D = some (.lst ys) → DpAll K (nw B H2) ys ((List.range xs.length).map f) → Dp K (nw B H2) (.ref D) (.list ((List.range xs.length).map f)) → Q (.ref D) H2) :
    tLc (iTup K tl) (gName i) tYes te [i] σ H Q := by
  refine htl _ fun p H1 s1 q1 => ⟨p, rfl, ⟨_, q1⟩, ?_⟩
  refine lc_one walk_tup B f hn (fun b hb => (SameX.of (P := noX) s1).dom b (hB b hb)) (fun H2 s => ?_) (fun _ _ _ _ y => y.1) (fun j x H2 _ y s2 => hs j x H2 y.2 (s1.trans s2)) fun D ys H2 s2 => hq D ys H2 (s1.trans s2)
  rcases q1 with (q1 | ⟨o, q1⟩) | q1
  · exact .inl (.inl (s _ _ q1))
  · exact .inl (.inr ⟨o, s _ _ q1⟩)
  · exact .inr q1
/-- filtered -/
theorem lc_oneF {K : PySem.W.Frag} {J : It} {n : Nat} {G : Hp → Prop} {Y : Nat → Hp → V → Hp → Prop} (w : Walk J n G Y) {tt : TT} {te : TE} {i : Nat} {σ : L2.St} {H1 : Hp} {Q : V → Hp → Prop} (B : Hp) (f : Nat → PyData) (p : Nat → Bool) (hn : n ≤ sizeLine) (hB : ∀ b, (B b).isSome = true → (H1 b).isSome = true) (hG : ∀ H, Same H1 H → G H)
    (hY : ∀ j H x H', Y j H x H' → H' = H)
    (hs : ∀ j x H2, j < n → Y j H2 x H2 → Same H1 H2 → ∀ (Qy : V → Hp → Prop) (Qn : Hp → Prop), (p j = true → ∀ y H3, Same H2 H3 → Dp K (nw H2 H3) y (f j) → Qy y H3) → (p j = false → ∀ H3, Same H2 H3 → Qn H3) →
      tt ((wipe σ [i]).set i (some x)) H2 fun b H3 => if b = true then te ((wipe σ [i]).set i (some x)) H3 Qy else Qn H3)
    (hq : ∀ D ys H2, Same H1 H2 → H2 D = some (.lst ys) → DpAll K (nw B H2) ys (((List.range n).filter p).map f) → Dp K (nw B H2) (.ref D) (.list (((List.range n).filter p).map f)) → Q (.ref D) H2) :
    ∀ D, H1 D = none → ∃ W : Nat → Nat → Hp → Prop, (∃ m, W 0 m (upd H1 D (.lst []))) ∧ ∀ i' m H, W i' m H →
      (J.stop i' H ∧ Q (.ref D) H) ∨ (J.go i' H ∧ ∃ Nx : Hp → Prop, (∀ H', Nx H' → ∃ m', m' < m ∧ W (i' + 1) m' H') ∧ ∀ x H', J.yld i' H x H' → gName i x (wipe σ [i]) H' fun σ2 H2 => wipe σ2 [i] = wipe σ [i] ∧ tt σ2 H2 fun b H3 =>
        if b = true then te σ2 H3 fun y H4 => ∃ acc, H4 D = some (.lst acc) ∧ acc.length < sizeLine ∧ Nx (upd H4 D (.lst (acc ++ [y]))) else Nx H3) := by
  intro D hD
  refine lc_filt (K := K) w B f p hn hD hB hG ?_ ?_
  · intro j x H H' hj s hDs y Qy Qn h1 h2
    obtain rfl := hY _ _ _ _ y
    exact ⟨wipe_one _ _ _, hs j x _ hj y s Qy Qn (fun e v H3 s3 q3 => h1 e v H3 s3 (dp_same (nw_del hDs fun b hb => (SameX.of (P := noX) s).dom b (hB b hb)) _ _ q3)) h2⟩
  · intro H ys s e q1 q2
    exact hq D ys H s e (dp_sameAll del_sub _ _ q1) q2
/-- the signs of a text that are of a kind -/
theorem lc_signs {K : PySem.W.Frag} {ts te : TE} {tt : TT} {i : Nat} {σ : L2.St} {H : Hp} {Q : V → Hp → Prop} (x : Str) (p : Nat → Bool) (hn : x.length ≤ sizeLine)
    (hts : ∀ R : V → Hp → Prop, R (.str x) H → ts σ H R)
    (htt : ∀ c H2, c ∈ x.cps.toList → ∀ (R : Bool → Hp → Prop), R (p c) H2 → tt ((wipe σ [i]).set i (some (.str ⟨#[c]⟩))) H2 R)
    (hte : ∀ c H2 (R : V → Hp → Prop), R (.str ⟨#[c]⟩) H2 → te ((wipe σ [i]).set i (some (.str ⟨#[c]⟩))) H2 R)
    (hq : ∀ D H2, Same H H2 → H2 D = some (.lst ((x.cps.toList.filter p).map fun c => V.str ⟨#[c]⟩)) → Q (.ref D) H2) :
    tLc (iStr ts) (gName i) tt te [i] σ H Q := by
  refine hts _ ⟨x, rfl, ?_⟩
  refine lc_oneF (K := K) walk_str noH (fun j => .str ⟨#[x.cps.toList.getD j 0]⟩) (fun j => p (x.cps.toList.getD j 0)) (by have : x.cps.size = x.length := rfl; omega) noH_in (fun _ _ => trivial) (fun _ _ _ _ y => y.1) ?_ ?_
  · rintro j v H2 hj ⟨_, c, hc, rfl⟩ s Qy Qn h1 h2
    have ec : x.cps.toList.getD j 0 = c := by
      rw [List.getD_eq_getElem?_getD, Array.getElem?_toList, hc]
      rfl
    have hm : c ∈ x.cps.toList := by
      have : x.cps.toList[j]? = some c := by rw [Array.getElem?_toList, hc]
      exact List.mem_of_getElem? this
    rw [ec] at h1 h2
    refine htt c H2 hm _ ?_
    cases e : p c with
    | true => exact iteT (hte c H2 _ (h1 e _ _ (Same.refl _) (.str _)))
    | false => exact iteF (h2 e _ (Same.refl _))
  · intro D ys H2 s e q _
    refine hq D H2 s ?_
    have e2 : ((List.range x.cps.size).filter fun j => p (x.cps.toList.getD j 0)).map (fun j => PyData.str ⟨#[x.cps.toList.getD j 0]⟩) = ((x.cps.toList.filter p).map fun c => (⟨#[c]⟩ : Str)).map PyData.str := by
      rw [List.map_map]
      have e3 : x.cps.toList = (List.range x.cps.size).map fun j => x.cps.toList.getD j 0 := by
        have := range_getD x.cps.toList 0 id
        rw [Array.length_toList, List.map_id] at this
        exact this.symm
      conv => rhs; rw [e3]
      rw [List.filter_map, List.map_map]
      rfl
    rw [e2] at q
    rw [e, dpa_strs q, List.map_map]
    rfl
/-! ### readings opened -/
theorem cb1 {r : List V → Hp → VK → Prop} {t : TE} {σ : L2.St} {H : Hp} {Q : VK} (h : t σ H fun x H1 => r [x] H1 Q) : tCB r (tCons t tNil) σ H Q := h
theorem rt1 {t : TE} {D : Ends} {σ : L2.St} {H : Hp} (h : t σ H D.rt) : tRet t D σ H := h
theorem op1 {r : R2} {ta tb : TE} {σ : L2.St} {H : Hp} {Q : VK} (h : ta σ H fun x H1 => tb σ H1 fun y H2 => r x y H2 Q) : tOp r ta tb σ H Q := h
theorem tv1 {i : Nat} {σ : L2.St} {H : Hp} {Q : VK} {v : V} (e : σ[i]? = some (some v)) (h : Q v H) : tVar i σ H Q := ⟨v, e, h⟩
theorem tt1 {t : TE} {σ : L2.St} {H : Hp} {Q : Bool → Hp → Prop} (h : t σ H fun x H1 => ∃ k, x = .bl k ∧ Q k H1) : tTest t σ H Q := h
theorem nx1 {D : Ends} {σ : L2.St} {H : Hp} (h : D.nx σ H) : tNext D σ H := h
theorem room65 {k : Nat} {A : Around} (r : Room k A) : A.units + 65 < cLine := by have := r.un; omega
theorem room8 {k : Nat} {A : Around} (r : Room k A) : A.units + 1 + 7 < cLine := by have := r.un; omega
theorem sq1 {t u : TS} {D : Ends} {σ : L2.St} {H : Hp} (h : t { D with nx := u D } σ H) : tSeq t u D σ H := h
theorem asg1 {t : TE} {g : TG} {D : Ends} {σ : L2.St} {H : Hp} (h : t σ H fun v H1 => g v σ H1 D.nx) : tAsg t g D σ H := h
theorem gn1 {i : Nat} {v : V} {σ : L2.St} {H : Hp} {Q : L2.St → Hp → Prop} (h : Q (σ.set i (some v)) H) : gName i v σ H Q := h
theorem ca1 {te : TE} {σ : L2.St} {H : Hp} {Q : List V → Hp → Prop} (h : te σ H fun x H1 => Q [x] H1) : tCons te tNil σ H Q := h
theorem if1 {t : TT} {ta tb : TE} {σ : L2.St} {H : Hp} {Q : VK} (h : t σ H fun c H1 => if c = true then ta σ H1 Q else tb σ H1 Q) : tIf t ta tb σ H Q := h
end K5
set_option Elab.async false
set_option linter.all false
set_option maxRecDepth 100000
set_option maxHeartbeats 2000000
/-! Comprehensions whose items are older data; filtered tuples; how many different texts. -/
namespace K5
open PySem PySem.Spec PyProof.Rows L2
theorem lc_list2 {K : PySem.W.Frag} {tl te : TE} {i : Nat} {σ : L2.St} {H : Hp} {Q : V → Hp → Prop} (B : Hp) (hB : ∀ b, (B b).isSome = true → (H b).isSome = true) (xs : List V) (f : Nat → PyData) (hn : xs.length ≤ sizeLine)
    (htl : ∀ R : V → Hp → Prop, (∀ p H1, Same H H1 → SqL K H1 p xs → R (.ref p) H1) → tl σ H R)
    (hs : ∀ D, H D = none → ∀ j x H2, xs[j]? = some x → Same H H2 → ∀ Qy : V → Hp → Prop, (∀ y H3, Same H2 H3 → Dp K (del (nw B H3) D) y (f j) → Qy y H3) → te ((wipe σ [i]).set i (some x)) H2 Qy)
    (hq : ∀ D ys H2, Same H H2 → H2 D = some (.lst ys) → DpAll K (nw B H2) ys ((List.range xs.length).map f) → Q (.ref D) H2) :
    tLc (iList K tl) (gName i) tYes te [i] σ H Q := by
  refine htl _ fun p H1 s1 q1 => ⟨p, rfl, ⟨_, q1⟩, fun D hD => ?_⟩
  refine lc_map (K := K) walk_list B f hn hD (fun b hb => (SameX.of (P := noX) s1).dom b (hB b hb)) (fun _ s => s.seq q1) ?_ gm_name ?_
  · intro j x H2 H' hj s hDs y Qy h
    obtain rfl := y.1
    exact ⟨wipe_one _ _ _, hs D ((SameX.of (P := noX) s1).none hD) j x _ y.2 (s1.trans s) Qy h⟩
  · intro H2 ys s e q _
    exact hq D ys H2 (s1.trans s) e (dp_sameAll del_sub _ _ q)
theorem lc_tupF {K : PySem.W.Frag} {tl te : TE} {tt : TT} {i : Nat} {σ : L2.St} {H : Hp} {Q : V → Hp → Prop} (B : Hp) (hB : ∀ b, (B b).isSome = true → (H b).isSome = true) (xs : List V) (f : Nat → PyData) (p : Nat → Bool) (hn : xs.length ≤ sizeLine)
    (htl : ∀ R : V → Hp → Prop, (∀ p H1, Same H H1 → SqT K H1 p xs → R (.ref p) H1) → tl σ H R)
    (hs : ∀ j x H2, xs[j]? = some x → Same H H2 → ∀ (Qy : V → Hp → Prop) (Qn : Hp → Prop), (p j = true → ∀ y H3, Same H2 H3 → Dp K (nw H2 H3) y (f j) → Qy y H3) → (p j = false → ∀ H3, Same H2 H3 → Qn H3) →
      tt ((wipe σ [i]).set i (some x)) H2 fun b H3 => if b = true then te ((wipe σ [i]).set i (some x)) H3 Qy else Qn H3)
    (hq : ∀ D ys H2, Same H H2 → H2 D = some (.lst ys) → DpAll K (nw B H2) ys (((List.range xs.length).filter p).map f) → Dp K (nw B H2) (.ref D) (.list (((List.range xs.length).filter p).map f)) → Q (.ref D) H2) :
    tLc (iTup K tl) (gName i) tt te [i] σ H Q := by
  refine htl _ fun pp H1 s1 q1 => ⟨pp, rfl, ⟨_, q1⟩, ?_⟩
  refine lc_oneF walk_tup B f p hn (fun b hb => (SameX.of (P := noX) s1).dom b (hB b hb)) (fun H2 s => ?_) (fun _ _ _ _ y => y.1) (fun j x H2 _ y s2 => hs j x H2 y.2 (s1.trans s2)) fun D ys H2 s2 => hq D ys H2 (s1.trans s2)
  rcases q1 with (q1 | ⟨o, q1⟩) | q1
  · exact .inl (.inl (s _ _ q1))
  · exact .inl (.inr ⟨o, s _ _ q1⟩)
  · exact .inr q1
theorem lc_listF {K : PySem.W.Frag} {tl te : TE} {tt : TT} {i : Nat} {σ : L2.St} {H : Hp} {Q : V → Hp → Prop} (B : Hp) (hB : ∀ b, (B b).isSome = true → (H b).isSome = true) (xs : List V) (f : Nat → PyData) (p : Nat → Bool) (hn : xs.length ≤ sizeLine)
    (htl : ∀ R : V → Hp → Prop, (∀ p H1, Same H H1 → SqL K H1 p xs → R (.ref p) H1) → tl σ H R)
    (hs : ∀ j x H2, xs[j]? = some x → Same H H2 → ∀ (Qy : V → Hp → Prop) (Qn : Hp → Prop), (p j = true → ∀ y H3, Same H2 H3 → Dp K (nw H2 H3) y (f j) → Qy y H3) → (p j = false → ∀ H3, Same H2 H3 → Qn H3) →
      tt ((wipe σ [i]).set i (some x)) H2 fun b H3 => if b = true then te ((wipe σ [i]).set i (some x)) H3 Qy else Qn H3)
    (hq : ∀ D ys H2, Same H H2 → H2 D = some (.lst ys) → DpAll K (nw B H2) ys (((List.range xs.length).filter p).map f) → Dp K (nw B H2) (.ref D) (.list (((List.range xs.length).filter p).map f)) → Q (.ref D) H2) :
    tLc (iList K tl) (gName i) tt te [i] σ H Q := by
  refine htl _ fun pp H1 s1 q1 => ⟨pp, rfl, ⟨_, q1⟩, ?_⟩
  exact lc_oneF walk_list B f p hn (fun b hb => (SameX.of (P := noX) s1).dom b (hB b hb)) (fun H2 s => s.seq q1) (fun _ _ _ _ y => y.1) (fun j x H2 _ y s2 => hs j x H2 y.2 (s1.trans s2)) fun D ys H2 s2 => hq D ys H2 (s1.trans s2)
theorem range_filt {α β : Type} (l : List α) (d : α) (p : α → Bool) (g : α → β) : ((List.range l.length).filter fun j => p (l.getD j d)).map (fun j => g (l.getD j d)) = (l.filter p).map g := by
  have e := range_getD l d id
  rw [List.map_id] at e
  conv => rhs; rw [← e]
  rw [List.filter_map, List.map_map]
  rfl
/-! ### how many different -/
theorem dcN_iff (xs : List Str) : ∀ i, i ≤ xs.length → (dcN xs i = i ↔ ∀ j (h : j < xs.length), j < i → ∀ k (hk : k < j), xs[k]'(Nat.lt_trans hk h) ≠ xs[j])
  | 0, _ => ⟨fun _ j _ hj => absurd hj (Nat.not_lt_zero j), fun _ => rfl⟩
  | i + 1, hi => by
    have ih := dcN_iff xs i (Nat.le_of_succ_le hi)
    have le := dcN_le xs i
    have hlt : i < xs.length := hi
    have eg : xs.getD i Str.empty = xs[i] := by simp [List.getD, hlt]
    unfold dcN
    rw [eg]
    by_cases h : (xs.take i).any (· == xs[i]) = true
    · rw [if_pos h]
      constructor
      · intro e
        omega
      · intro z
        exfalso
        obtain ⟨y, hy, e⟩ := List.any_eq_true.mp h
        rw [List.mem_take_iff_getElem] at hy
        obtain ⟨k, hk, rfl⟩ := hy
        exact z i hlt (Nat.lt_succ_self i) k (by omega) (by simpa using e)
    · rw [if_neg h]
      constructor
      · intro e j hj hji k hk
        by_cases ej : j = i
        · subst ej
          intro e2
          refine h (List.any_eq_true.mpr ⟨xs[k]'(Nat.lt_trans hk hj), ?_, by rw [e2]; exact beq_self_eq_true _⟩)
          rw [List.mem_take_iff_getElem]
          exact ⟨k, by omega, rfl⟩
        · exact (ih.mp (by omega)) j hj (by omega) k hk
      · intro z
        have := ih.mpr fun j hj hji k hk => z j hj (by omega) k hk
        omega
theorem dcN_nodup (xs : List Str) : dcN xs xs.length = xs.length ↔ xs.Nodup := by
  rw [dcN_iff xs xs.length (Nat.le_refl _), List.nodup_iff_pairwise_ne, List.pairwise_iff_getElem]
  constructor
  · intro h i j hi hj hij
    exact h j hj hj i hij
  · intro h j hj _ k hk
    exact h k j _ hj hk
end K5
set_option Elab.async false
set_option linter.all false
set_option maxRecDepth 100000
set_option maxHeartbeats 2000000
/-! Plain laws: texts cut at a sign and joined, numbers as words. -/
namespace K5
open PySem PySem.Spec PyProof.Rows
open TL (tl)
/-! ### cutting at one sign -/
def cuts (s : Nat) : List Nat → List Nat → List (List Nat)
  | acc, [] => [acc]
  | acc, c :: r => if c = s then acc :: cuts s [] r else cuts s (acc ++ [c]) r
theorem spl_cuts (s : Nat) : ∀ (l acc : List Nat), TL.spl [s] 0 acc l = cuts s acc l
  | [], acc => TL.spl_nil _ _ _
  | c :: r, acc => by
    have hp : TL.pre [s] (c :: r) = decide (c = s) := by
      show ((c :: r).take 1 == [s]) = _
      rw [show (c :: r).take 1 = [c] from rfl, Bool.eq_iff_iff, beq_iff_eq, decide_eq_true_eq]
      exact ⟨fun z => by injection z, fun z => by rw [z]⟩
    by_cases h : c = s
    · rw [TL.spl_hit (by rw [hp]; exact decide_eq_true h)]
      show acc :: TL.spl [s] 0 [] r = _
      rw [spl_cuts s r []]
      simp [cuts, h]
    · rw [TL.spl_miss (by rw [hp]; exact decide_eq_false h), spl_cuts s r _]
      simp [cuts, h]
theorem cuts_ne (s : Nat) : ∀ (l acc : List Nat), cuts s acc l ≠ []
  | [], acc => by simp [cuts]
  | c :: r, acc => by
    unfold cuts
    split
    · simp
    · exact cuts_ne s r _
theorem joinL_cons (S p : List Nat) : ∀ {l : List (List Nat)}, l ≠ [] → TL.joinL S (p :: l) = p ++ (S ++ TL.joinL S l)
  | [], h => absurd rfl h
  | _ :: _, _ => rfl
theorem join_cuts (s : Nat) : ∀ (l acc : List Nat), TL.joinL [s] (cuts s acc l) = acc ++ l
  | [], acc => by simp [cuts, TL.joinL]
  | c :: r, acc => by
    unfold cuts
    split
    · rename_i h
      rw [joinL_cons _ _ (cuts_ne s r []), join_cuts s r [], h]
      simp
    · rw [join_cuts s r _]
      simp
theorem cuts_mem (s : Nat) : ∀ (l acc p : List Nat), p ∈ cuts s acc l → (∀ c ∈ p, c ∈ acc ∨ c ∈ l) ∧ p.length ≤ acc.length + l.length
  | [], acc, p, h => by
    have e : p = acc := by simpa [cuts] using h
    rw [e]
    exact ⟨fun c hc => .inl hc, Nat.le_add_right _ _⟩
  | c :: r, acc, p, h => by
    unfold cuts at h
    split at h
    · rcases List.mem_cons.mp h with e | h
      · rw [e]
        exact ⟨fun c hc => .inl hc, Nat.le_add_right _ _⟩
      · obtain ⟨h1, h2⟩ := cuts_mem s r [] p h
        refine ⟨fun d hd => .inr ?_, by simp at h2 ⊢; omega⟩
        rcases h1 d hd with z | z
        · exact nomatch z
        · exact List.mem_cons_of_mem _ z
    · obtain ⟨h1, h2⟩ := cuts_mem s r _ p h
      refine ⟨fun d hd => ?_, by simp at h2 ⊢; omega⟩
      rcases h1 d hd with z | z
      · rcases List.mem_append.mp z with z | z
        · exact .inl z
        · exact .inr (by rw [List.mem_singleton.mp z]; exact List.mem_cons_self)
      · exact .inr (List.mem_cons_of_mem _ z)
theorem cuts_num (s : Nat) : ∀ (l acc : List Nat), (cuts s acc l).length ≤ l.length + 1
  | [], acc => by simp [cuts]
  | c :: r, acc => by
    unfold cuts
    split
    · have := cuts_num s r []
      simp
      omega
    · have := cuts_num s r (acc ++ [c])
      simp
      omega
section
variable {x y : Str} {s : Nat}
theorem split_cuts (hy : tl y = [s]) (hs : s < 256) : (Txt.split x y).map tl = cuts s [] (tl x) := by
  have hk : y.cps.all (· < 256) = true := by
    have e : y.cps = #[s] := Array.toList_inj.mp hy
    rw [e]
    simp [hs]
  rw [TL.split_spl x y (by rw [hy]; simp) (TL.kind_ok hk), hy, spl_cuts]
theorem split_ne (hy : tl y = [s]) (hs : s < 256) : Txt.split x y ≠ [] := fun e => by
  have q := split_cuts (x := x) hy hs
  rw [e] at q
  exact cuts_ne s _ _ q.symm
theorem join_split (hy : tl y = [s]) (hs : s < 256) : Txt.join y (Txt.split x y) = x := by
  refine TL.ext_tl ?_
  rw [TL.join_eq, TL.tl_join, split_cuts hy hs, hy, join_cuts, List.nil_append]
theorem split_part (hy : tl y = [s]) (hs : s < 256) {p : Str} (h : p ∈ Txt.split x y) : (∀ c ∈ tl p, c ∈ tl x) ∧ p.length ≤ x.length := by
  have q : tl p ∈ cuts s [] (tl x) := by
    rw [← split_cuts (x := x) hy hs]
    exact List.mem_map_of_mem h
  obtain ⟨h1, h2⟩ := cuts_mem s _ _ _ q
  refine ⟨fun c hc => (h1 c hc).elim (fun z => nomatch z) id, ?_⟩
  rw [TL.len_tl, TL.len_tl]
  simpa using h2
theorem split_num (hy : tl y = [s]) (hs : s < 256) : (Txt.split x y).length ≤ x.length + 1 := by
  have q := congrArg List.length (split_cuts (x := x) hy hs)
  rw [List.length_map] at q
  rw [q, TL.len_tl]
  exact cuts_num s _ _
end
theorem tl_sp : tl (" " : Str) = [32] := by decide
theorem tl_co : tl ("," : Str) = [44] := by decide
theorem tl_nl : tl ("\n" : Str) = [10] := by decide
/-! ### numbers as words -/
def dg (c : Nat) : Bool := decide (48 ≤ c ∧ c ≤ 57)
def lo (c : Nat) : Bool := decide (97 ≤ c ∧ c ≤ 122)
def noLead (l : List Nat) : Bool := decide (l = [48]) || decide (l.head? ≠ some 48)
def dv (l : List Nat) : Nat := NumText.digitsVal l
theorem dv_snoc (l : List Nat) (c : Nat) : dv (l ++ [c]) = dv l * 10 + (c - 48) := by
  show (l ++ [c]).foldl (fun acc c => acc * 10 + (c - 48)) 0 = _
  rw [List.foldl_append]
  rfl
theorem dv_pos : ∀ (l : List Nat), l ≠ [] → (∀ c ∈ l, dg c = true) → l.head? ≠ some 48 → 1 ≤ dv l := by
  intro l
  induction h : l.length generalizing l with
  | zero => intro e; exact absurd (List.eq_nil_of_length_eq_zero h) e
  | succ n ih =>
    intro hne hd hh
    obtain ⟨q, c, rfl⟩ : ∃ q c, l = q ++ [c] := ⟨l.dropLast, l.getLast hne, (List.dropLast_concat_getLast hne).symm⟩
    have hc : dg c = true := hd c (by simp)
    have hc2 : 48 ≤ c ∧ c ≤ 57 := by simpa [dg] using hc
    rw [dv_snoc]
    by_cases e : q = []
    · subst e
      have : c ≠ 48 := fun z => hh (by rw [z]; rfl)
      omega
    · have hq : q.head? ≠ some 48 := by
        cases q with
        | nil => exact absurd rfl e
        | cons a r => simpa using hh
      have := ih q (by simpa using h) e (fun c hc => hd c (List.mem_append_left _ hc)) hq
      omega
theorem num_dv : ∀ (l : List Nat), l ≠ [] → (∀ c ∈ l, dg c = true) → noLead l = true → TL.numL (dv l) = l := by
  intro l
  induction h : l.length generalizing l with
  | zero => intro e; exact absurd (List.eq_nil_of_length_eq_zero h) e
  | succ n ih =>
    intro hne hd hn
    obtain ⟨q, c, rfl⟩ : ∃ q c, l = q ++ [c] := ⟨l.dropLast, l.getLast hne, (List.dropLast_concat_getLast hne).symm⟩
    have hc : dg c = true := hd c (by simp)
    have hc2 : 48 ≤ c ∧ c ≤ 57 := by simpa [dg] using hc
    rw [dv_snoc]
    by_cases e : q = []
    · subst e
      rw [show dv [] * 10 + (c - 48) = c - 48 from by simp [dv, NumText.digitsVal], TL.numL_lt (by omega)]
      simp
      omega
    · have hq : q.head? ≠ some 48 := by
        cases q with
        | nil => exact absurd rfl e
        | cons a r =>
          have : ¬ (a :: r) ++ [c] = [48] := fun z => by
            have := congrArg List.length z
            simp at this
          simp [noLead] at hn
          simpa using hn
      have hdq : ∀ c ∈ q, dg c = true := fun c hc => hd c (List.mem_append_left _ hc)
      have hp := dv_pos q e hdq hq
      rw [TL.numL_step (by omega)]
      have e1 : (dv q * 10 + (c - 48)) / 10 = dv q := by omega
      have e2 : (dv q * 10 + (c - 48)) % 10 = c - 48 := by omega
      rw [e1, e2, ih q (by simpa using h) e hdq (by simp [noLead, hq])]
      congr 1
      simp
      omega
theorem num_head : ∀ (n : Nat), 1 ≤ n → (TL.numL n).head? ≠ some 48 := by
  intro n
  induction n using Nat.strongRecOn with
  | _ n ih =>
    intro h
    by_cases h10 : n < 10
    · rw [TL.numL_lt h10]
      simp
      omega
    · rw [TL.numL_step (by omega)]
      have := ih (n / 10) (by omega) (by omega)
      cases e : TL.numL (n / 10) with
      | nil => exact absurd e (TL.numL_ne _)
      | cons a r =>
        rw [e] at this
        simpa using this
theorem lead_num (n : Nat) : noLead (TL.numL n) = true := by
  by_cases h : 1 ≤ n
  · simp [noLead, num_head n h]
  · have e : n = 0 := by omega
    subst e
    rw [TL.numL_lt (by decide)]
    rfl
/-- str(int(word)) == word -/
theorem back_eq {x : Str} (hne : tl x ≠ []) (hd : (tl x).all dg = true) : decide (Str.ofString (toString ((dv (tl x) : Nat) : Int)) = x) = noLead (tl x) := by
  have hd' : ∀ c ∈ tl x, dg c = true := List.all_eq_true.mp hd
  rw [Bool.eq_iff_iff, decide_eq_true_eq]
  constructor
  · intro e
    have q := congrArg tl e
    rw [TL.tl_num] at q
    rw [← q]
    exact lead_num _
  · intro h
    refine TL.ext_tl ?_
    rw [TL.tl_num]
    exact num_dv _ hne hd' h
/-- a word's whole number, if it is one -/
def numO (x : Str) : Option Nat := if (tl x).isEmpty = false ∧ (tl x).length ≤ 80 ∧ (tl x).all dg = true ∧ noLead (tl x) = true then some (dv (tl x)) else none
theorem int_word {x : Str} (hne : (tl x).isEmpty = false) (hl : (tl x).length ≤ 80) (hd : (tl x).all dg = true) : intText? x = some ((dv (tl x) : Nat) : Int) := by
  refine PySem.intText_digits ?_ ?_ ?_
  · intro c hc
    have := List.all_eq_true.mp hd c hc
    have h2 : 48 ≤ c ∧ c ≤ 57 := by simpa [dg] using this
    exact h2
  · intro e
    rw [show x.cps.toList = tl x from rfl] at e
    rw [e] at hne
    cases hne
  · rw [TL.len_tl]
    omega
theorem numO_text {x : Str} {n : Nat} (h : numO x = some n) : Str.ofString (toString ((n : Nat) : Int)) = x ∧ x.length ≤ 80 := by
  unfold numO at h
  split at h
  · rename_i c
    obtain ⟨c1, c2, c3, c4⟩ := c
    cases h
    refine ⟨?_, by rw [TL.len_tl]; exact c2⟩
    have := back_eq (x := x) (fun e => by rw [e] at c1; cases c1) c3
    rw [c4] at this
    exact of_decide_eq_true this
  · cases h
theorem dv_lt : ∀ (l : List Nat), (∀ c ∈ l, dg c = true) → dv l < 10 ^ l.length := by
  intro l
  induction h : l.length generalizing l with
  | zero =>
    intro _
    rw [List.eq_nil_of_length_eq_zero h]
    decide
  | succ n ih =>
    intro hd
    have hne : l ≠ [] := fun e => by rw [e] at h; cases h
    obtain ⟨q, c, rfl⟩ : ∃ q c, l = q ++ [c] := ⟨l.dropLast, l.getLast hne, (List.dropLast_concat_getLast hne).symm⟩
    have hc : dg c = true := hd c (by simp)
    have hc2 : 48 ≤ c ∧ c ≤ 57 := by simpa [dg] using hc
    have hq : q.length = n := by simpa using h
    have := ih q hq fun c hc => hd c (List.mem_append_left _ hc)
    rw [dv_snoc, Nat.pow_succ]
    omega
theorem log_of {n : Nat} (h : n < 10 ^ 80) : n.log2 < 1920 := by
  by_cases h0 : n = 0
  · rw [h0]
    decide
  · rw [Nat.log2_lt h0]
    exact Nat.lt_trans h (by decide)
theorem dv_log {l : List Nat} (hl : l.length ≤ 80) (hd : l.all dg = true) : ((dv l : Nat) : Int).natAbs.log2 < 1920 := by
  rw [Int.natAbs_natCast]
  exact log_of (Nat.lt_of_lt_of_le (dv_lt l (List.all_eq_true.mp hd)) (Nat.pow_le_pow_right (by decide) hl))
theorem numO_log {x : Str} {n : Nat} (h : numO x = some n) : n < 10 ^ 80 := by
  unfold numO at h
  split at h
  · rename_i c
    cases h
    exact Nat.lt_of_lt_of_le (dv_lt _ (List.all_eq_true.mp c.2.2.1)) (Nat.pow_le_pow_right (by decide) c.2.1)
  · cases h
end K5
set_option Elab.async false
set_option linter.all false
set_option maxRecDepth 100000
set_option maxHeartbeats 2000000
/-! Plain laws: the two readers agree, and what is read is written back. -/
namespace K5
open PySem PySem.Spec PyProof.Rows
open TL (tl)
/-! ### the program's reader -/
def nameB (x : Str) : Bool := (match tl x with | [] => false | c :: _ => lo c) && (decide ((tl x).length ≤ 8) && (tl x).all fun c => lo c || dg c)
def mindOk (names : List Str) (i : Nat) : Bool := nameB (names.getD i Str.empty) && (decide (i < 6) && !(names.take i).any (· == names.getD i Str.empty))
def mindsB (names : List Str) : Bool := !names.isEmpty && (List.range names.length).all (mindOk names)
def inB (o : Option Nat) : Bool := match o with | none => false | some n => decide (n ≤ 1000000000)
def sumO (os : List (Option Nat)) : Nat := (os.map fun o => o.getD 0).sum
def rowB (os : List (Option Nat)) (n : Nat) : Bool := decide (os.length = n) && (os.all inB && decide (0 < sumO os))
def wayB (rows : List (List (Option Nat))) (n : Nat) : Bool := decide (rows.length = n) && rows.all (rowB · n)
def waysB (ways : List (List (List (Option Nat)))) (n : Nat) : Bool := !ways.isEmpty && (decide (ways.length ≤ 6) && ways.all (wayB · n))
def rowO (p : Str) : List (Option Nat) := (Txt.split p ",").map numO
def wayO (l : Str) : List (List (Option Nat)) := (Txt.split l " ").map rowO
def mindsO (x : Str) : List Str := Txt.split ((Txt.split x "\n").headD Str.empty) " "
def waysO (x : Str) : List (List (List (Option Nat))) := (Txt.split x "\n").tail.map wayO
def goodB (x : Str) : Bool := mindsB (mindsO x) && waysB (waysO x) (mindsO x).length
/-! ### the law's reader -/
def seenO (p : Str) (n : Nat) : Option (List Nat) := if ((Txt.split p ",").map numO).all (·.isSome) = true ∧ (Txt.split p ",").length = n ∧ 0 < sumO (rowO p) ∧ (rowO p).all inB = true then some ((rowO p).map fun o => o.getD 0) else none
def labelB (x : Str) : Bool := nameB x
theorem mem_getD {α : Type} {l : List α} {i : Nat} {d : α} (h : i < l.length) : l.getD i d = l[i] := by
  simp [List.getD, h]
theorem inB_some {os : List (Option Nat)} (h : os.all inB = true) : os.all (·.isSome) = true := by
  rw [List.all_eq_true] at h ⊢
  intro o ho
  have := h o ho
  cases o with
  | none => cases this
  | some n => rfl
theorem seen_row (p : Str) (n : Nat) : seenO p n = if rowB (rowO p) n = true then some ((rowO p).map fun o => o.getD 0) else none := by
  unfold seenO rowB
  by_cases h : rowB (rowO p) n = true
  · have h' := h
    unfold rowB at h'
    simp only [Bool.and_eq_true, decide_eq_true_eq] at h'
    obtain ⟨h1, h2, h3⟩ := h'
    rw [if_pos ⟨inB_some h2, by simpa [rowO] using h1, h3, h2⟩, if_pos (by simp [h1, h2, h3])]
  · have h' := h
    unfold rowB at h'
    simp only [Bool.and_eq_true, decide_eq_true_eq] at h'
    rw [if_neg (fun z => h' ⟨by simpa [rowO] using z.2.1, z.2.2.2, z.2.2.1⟩), if_neg (by
      simp only [Bool.and_eq_true, decide_eq_true_eq]
      exact h')]
/-! ### minds -/
theorem minds_iff (names : List Str) : mindsB names = true ↔ names ≠ [] ∧ names.length ≤ 6 ∧ (∀ x ∈ names, nameB x = true) ∧ names.Nodup := by
  unfold mindsB
  simp only [Bool.and_eq_true, Bool.not_eq_true', List.isEmpty_eq_false_iff, List.all_eq_true, List.mem_range]
  constructor
  · rintro ⟨h0, h⟩
    have h' : ∀ i (hi : i < names.length), nameB names[i] = true ∧ i < 6 ∧ ∀ j (hj : j < i), names[j]'(Nat.lt_trans hj hi) ≠ names[i] := by
      intro i hi
      have := h i hi
      unfold mindOk at this
      rw [mem_getD hi] at this
      simp only [Bool.and_eq_true, decide_eq_true_eq, Bool.not_eq_true', List.any_eq_false] at this
      refine ⟨this.1, this.2.1, fun j hj e => ?_⟩
      refine this.2.2 names[j] ?_ (by rw [e]; exact beq_self_eq_true _)
      rw [List.mem_take_iff_getElem]
      exact ⟨j, by omega, rfl⟩
    refine ⟨h0, ?_, ?_, ?_⟩
    · rcases Nat.lt_or_ge 6 names.length with z | z
      · have := (h' 6 z).2.1
        omega
      · exact z
    · intro x hx
      obtain ⟨i, hi, rfl⟩ := List.getElem_of_mem hx
      exact (h' i hi).1
    · rw [List.nodup_iff_pairwise_ne, List.pairwise_iff_getElem]
      intro i j hi hj hij
      exact (h' j hj).2.2 i hij
  · rintro ⟨h0, h6, hn, hd⟩
    refine ⟨h0, fun i hi => ?_⟩
    unfold mindOk
    rw [mem_getD hi]
    simp only [Bool.and_eq_true, decide_eq_true_eq, Bool.not_eq_true', List.any_eq_false]
    refine ⟨hn _ (List.getElem_mem hi), by omega, fun y hy e => ?_⟩
    rw [List.mem_take_iff_getElem] at hy
    obtain ⟨j, hj, rfl⟩ := hy
    rw [List.nodup_iff_pairwise_ne, List.pairwise_iff_getElem] at hd
    have e2 : names[j] = names[i] := by simpa using e
    exact hd j i (by omega) hi (by omega) e2
/-! ### what is read is written back -/
def rowT (os : List (Option Nat)) : Str := Txt.join "," (os.map fun o => Str.ofString (toString (((o.getD 0 : Nat)) : Int)))
def wayT (rows : List (List (Option Nat))) : Str := Txt.join " " (rows.map rowT)
def pageT (names : List Str) (ways : List (List (List (Option Nat)))) : Str := Txt.join "\n" (Txt.join " " names :: ways.map wayT)
theorem row_back {p : Str} {n : Nat} (h : rowB (rowO p) n = true) : rowT (rowO p) = p := by
  unfold rowB at h
  simp only [Bool.and_eq_true, decide_eq_true_eq] at h
  have hs := inB_some h.2.1
  unfold rowT
  rw [show (rowO p).map (fun o => Str.ofString (toString (((o.getD 0 : Nat)) : Int))) = Txt.split p "," from ?_]
  · exact join_split tl_co (by decide)
  · unfold rowO at hs ⊢
    rw [List.map_map]
    conv => rhs; rw [← List.map_id (Txt.split p ",")]
    refine List.map_congr_left fun w hw => ?_
    have := List.all_eq_true.mp hs (numO w) (List.mem_map_of_mem hw)
    obtain ⟨m, hm⟩ := Option.isSome_iff_exists.mp this
    show Str.ofString (toString ((((numO w).getD 0 : Nat)) : Int)) = w
    rw [hm]
    exact (numO_text hm).1
theorem way_back {l : Str} {n : Nat} (h : wayB (wayO l) n = true) : wayT (wayO l) = l := by
  unfold wayB at h
  simp only [Bool.and_eq_true, decide_eq_true_eq, List.all_eq_true] at h
  unfold wayT
  rw [show (wayO l).map rowT = Txt.split l " " from ?_]
  · exact join_split tl_sp (by decide)
  · unfold wayO at h ⊢
    rw [List.map_map]
    conv => rhs; rw [← List.map_id (Txt.split l " ")]
    refine List.map_congr_left fun w hw => ?_
    exact row_back (h.2 (rowO w) (List.mem_map_of_mem hw))
theorem page_back {x : Str} (h : goodB x = true) : pageT (mindsO x) (waysO x) = x := by
  unfold goodB waysB at h
  simp only [Bool.and_eq_true, decide_eq_true_eq, List.all_eq_true] at h
  unfold pageT
  rw [show (Txt.join " " (mindsO x) :: (waysO x).map wayT) = Txt.split x "\n" from ?_]
  · exact join_split tl_nl (by decide)
  · have hne := split_ne (x := x) tl_nl (by decide)
    cases e : Txt.split x "\n" with
    | nil => exact absurd e hne
    | cons a r =>
      have e1 : mindsO x = Txt.split a " " := by unfold mindsO; rw [e]; rfl
      have e2 : waysO x = r.map wayO := by unfold waysO; rw [e]; rfl
      rw [e1, join_split tl_sp (by decide), e2, List.map_map]
      congr 1
      conv => rhs; rw [← List.map_id r]
      refine List.map_congr_left fun l hl => ?_
      exact way_back (h.2.2.2 (wayO l) (by rw [e2]; exact List.mem_map_of_mem hl))
end K5
set_option Elab.async false
set_option linter.all false
set_option maxRecDepth 100000
set_option maxHeartbeats 2000000
/-! Plain laws: how long the texts are. -/
namespace K5
open PySem PySem.Spec PyProof.Rows
open TL (tl)
theorem sum_le_mul (b : Nat) : ∀ l : List Nat, (∀ x ∈ l, x ≤ b) → l.sum ≤ l.length * b
  | [], _ => by simp
  | x :: l, h => by
    have h1 := h x List.mem_cons_self
    have h2 := sum_le_mul b l fun y hy => h y (List.mem_cons_of_mem _ hy)
    rw [List.sum_cons, List.length_cons, Nat.succ_mul]
    omega
theorem join_len (y : Str) (b n : Nat) (ts : List Str) (hn : ts.length ≤ n) (h : ∀ t ∈ ts, t.length ≤ b) : (ts.map (·.length)).sum + ts.length * y.length ≤ n * b + n * y.length ∧ (Txt.join y ts).length ≤ n * b + n * y.length := by
  have h1 : (ts.map (·.length)).sum ≤ (ts.map (·.length)).length * b := sum_le_mul b _ fun z hz => by
    obtain ⟨t, ht, rfl⟩ := List.mem_map.mp hz
    exact h t ht
  rw [List.length_map] at h1
  have h2 : ts.length * b ≤ n * b := Nat.mul_le_mul_right b hn
  have h3 : ts.length * y.length ≤ n * y.length := Nat.mul_le_mul_right _ hn
  have h4 : (Txt.join y ts).length ≤ (ts.map (·.length)).sum + ts.length * y.length := by
    rw [TL.join_eq]
    exact StrLaws.join_length_le y ts
  omega
theorem num_len {n : Nat} (h : n ≤ 1000000000) : (Str.ofString (toString ((n : Nat) : Int))).length ≤ 10 := by
  rw [TL.len_tl, TL.tl_num]
  exact TL.numL_len (by decide) (by omega)
theorem row_len {os : List (Option Nat)} {n : Nat} (hn : n ≤ 6) (h : rowB os n = true) : (∀ t ∈ os.map (fun o => Str.ofString (toString (((o.getD 0 : Nat)) : Int))), t.length ≤ 10) ∧ os.length ≤ 6 ∧ (rowT os).length ≤ 66 := by
  unfold rowB at h
  simp only [Bool.and_eq_true, decide_eq_true_eq, List.all_eq_true] at h
  have h1 : ∀ t ∈ os.map (fun o => Str.ofString (toString (((o.getD 0 : Nat)) : Int))), t.length ≤ 10 := fun t ht => by
    obtain ⟨o, ho, rfl⟩ := List.mem_map.mp ht
    have := h.2.1 o ho
    cases o with
    | none => cases this
    | some m => exact num_len (by simpa [inB] using this)
  exact ⟨h1, by omega, (join_len "," 10 6 _ (by rw [List.length_map]; omega) h1).2⟩
theorem way_len {rows : List (List (Option Nat))} {n : Nat} (hn : n ≤ 6) (h : wayB rows n = true) : (∀ t ∈ rows.map rowT, t.length ≤ 66) ∧ rows.length ≤ 6 ∧ (wayT rows).length ≤ 402 := by
  unfold wayB at h
  simp only [Bool.and_eq_true, decide_eq_true_eq, List.all_eq_true] at h
  have h1 : ∀ t ∈ rows.map rowT, t.length ≤ 66 := fun t ht => by
    obtain ⟨o, ho, rfl⟩ := List.mem_map.mp ht
    exact (row_len hn (h.2 o ho)).2.2
  exact ⟨h1, by omega, (join_len " " 66 6 _ (by rw [List.length_map]; omega) h1).2⟩
theorem name_len {x : Str} (h : nameB x = true) : x.length ≤ 8 := by
  unfold nameB at h
  simp only [Bool.and_eq_true, decide_eq_true_eq] at h
  rw [TL.len_tl]
  exact h.2.1
theorem minds_len {names : List Str} (h : mindsB names = true) : (∀ t ∈ names, t.length ≤ 8) ∧ names.length ≤ 6 ∧ (Txt.join " " names).length ≤ 54 := by
  obtain ⟨_, h6, hn, _⟩ := (minds_iff names).mp h
  have h1 : ∀ t ∈ names, t.length ≤ 8 := fun t ht => name_len (hn t ht)
  exact ⟨h1, h6, (join_len " " 8 6 _ h6 h1).2⟩
theorem page_len {names : List Str} {ways : List (List (List (Option Nat)))} (h : mindsB names = true) (h2 : waysB ways names.length = true) :
    (∀ t ∈ Txt.join " " names :: ways.map wayT, t.length ≤ 402) ∧ (Txt.join " " names :: ways.map wayT).length ≤ 7 := by
  obtain ⟨_, h6, hj⟩ := minds_len h
  unfold waysB at h2
  simp only [Bool.and_eq_true, decide_eq_true_eq, List.all_eq_true] at h2
  refine ⟨fun t ht => ?_, by rw [List.length_cons, List.length_map]; omega⟩
  rcases List.mem_cons.mp ht with e | ht
  · rw [e]
    omega
  · obtain ⟨r, hr, rfl⟩ := List.mem_map.mp ht
    exact (way_len h6 (h2.2.2 r hr)).2.2
end K5
set_option Elab.async false
set_option linter.all false
set_option maxRecDepth 100000
set_option maxHeartbeats 4000000
/-! The head's further facts: the error's class, the class Council. -/
namespace K5
open PySem PySem.Spec PyProof.Rows L2
abbrev IT (K : PySem.W.Frag) : Addr := ga "InvalidText" K
abbrev CO (K : PySem.W.Frag) : Addr := ga "Council" K
theorem oexB_ok {K : PySem.W.Frag} {C : Addr} (h : K5H.oexB K C = true) : OexC K C := by
  unfold K5H.oexB at h
  obtain ⟨h1, h⟩ := Bool.and_eq_true_iff.mp h
  obtain ⟨h2, h⟩ := Bool.and_eq_true_iff.mp h
  obtain ⟨h3, h⟩ := Bool.and_eq_true_iff.mp h
  obtain ⟨h4, h5⟩ := Bool.and_eq_true_iff.mp h
  refine ⟨?_, He.eqO_ok h2, of_decide_eq_true h3, of_decide_eq_true h4, h5⟩
  split at h1
  · rename_i dct cd sl e
    split at h1
    · rename_i C' bm k0 k1 k2 k3 n k5 e1 e2
      simp only [Bool.and_eq_true, beq_iff_eq, Bool.not_eq_true'] at h1
      obtain ⟨rfl, rfl, hdl, hd, hv⟩ := h1
      obtain ⟨nm, bs, mr, N, q, hD, sn, sub, ab, col, hdel⟩ := cd
      simp only at e1 hdl hd
      subst e1 hdl hd
      refine ⟨nm, q, N, bs, bm, sn, sub, ab, col, dct, k0, k1, k2, k3, k5, ?_, hv⟩
      rw [e, show sl = #[k0, k1, k2, k3, some (.builtin "ValueError.__new__"), k5] from Array.toList_inj.mp e2]
    · cases h1
  · cases h1
structure My (K : PySem.W.Frag) : Prop where
  oex : OexC K (IT K)
  exc : ExcC K (IT K)
  xf : XfC K (IT K)
  given : PySem.W.findIn K (.ref (IT K)) "given" = some none
  initT : PySem.W.typeIn K (.ref (K5H.xInit K)) = some (.type "function")
  init : PySem.W.findIn K (.ref (IT K)) "__init__" = some (some (.ref (K5H.xInit K)))
  is : ∀ p ∈ K5H.exs, PySem.W.kitOne K (.ref (IT K)) (.ref (ga p.1 K)) = some p.2
  x1 : PySem.W.exmOne K (.ref (IT K)) (.ref (ga "WrongValue" K)) = some true
  x2 : PySem.W.exmOne K (.ref (IT K)) (.ref (ga "WrongName" K)) = some false
  x3 : PySem.W.exmOne K (.ref (IT K)) (.ref (ga "NoAnswer" K)) = some false
  pm : PropOf K (CO K) "minds" (He.ma K (CO K) "minds") (K5H.cProp "minds" K)
  pw : PropOf K (CO K) "ways" (He.ma K (CO K) "ways") (K5H.cProp "ways" K)
  rd : ClX.CRead K (CO K) (.type "type")
  cm : ∃ p, ClX.CMet K (CO K) (.type "type") "read" p (K5H.cRead K)
  str : PySem.W.findIn K (.ref (CO K)) "__str__" = some (some (.ref (K5H.cMeth "__str__" K)))
  strF : PySem.W.isFn K (.ref (K5H.cMeth "__str__" K)) = true
theorem propB_ok {K : PySem.W.Frag} {C : Addr} {m : Str} (h : K5H.propB K C m = true) : PropOf K C m (He.ma K C m) (K5H.pg K C m) := by
  unfold K5H.propB at h
  obtain ⟨h1, h⟩ := Bool.and_eq_true_iff.mp h
  obtain ⟨h2, h⟩ := Bool.and_eq_true_iff.mp h
  obtain ⟨h3, h4⟩ := Bool.and_eq_true_iff.mp h
  refine ⟨He.eqO_ok h1, He.eqO_ok h2, of_decide_eq_true h3, ?_⟩
  split at h4
  · rename_i f r e
    rw [of_decide_eq_true h4] at e
    exact ⟨r, e⟩
  · cases h4
theorem Tx.my {K : PySem.W.Frag} {mg : Str → Option Value} (T : Tx K mg) : My K := by
  obtain ⟨_, _, _, c⟩ := T.ex
  have h := c.more
  unfold K5H.more at h
  obtain ⟨a1, h⟩ := Bool.and_eq_true_iff.mp h
  obtain ⟨a2, h⟩ := Bool.and_eq_true_iff.mp h
  obtain ⟨a3, h⟩ := Bool.and_eq_true_iff.mp h
  obtain ⟨a4, h⟩ := Bool.and_eq_true_iff.mp h
  obtain ⟨a5, h⟩ := Bool.and_eq_true_iff.mp h
  obtain ⟨a6, h⟩ := Bool.and_eq_true_iff.mp h
  obtain ⟨a7, h⟩ := Bool.and_eq_true_iff.mp h
  obtain ⟨a8, h⟩ := Bool.and_eq_true_iff.mp h
  obtain ⟨a9, a10⟩ := Bool.and_eq_true_iff.mp h
  have ox := oexB_ok a5
  unfold K5H.excB at a9
  simp only [Bool.and_eq_true, decide_eq_true_eq] at a9
  obtain ⟨⟨⟨⟨⟨⟨⟨⟨⟨b1, b2⟩, b3⟩, b4⟩, b5⟩, b6⟩, b7⟩, b8⟩, b9⟩, b10⟩ := a9
  unfold K5H.readB at a8
  obtain ⟨c1, a8⟩ := Bool.and_eq_true_iff.mp a8
  obtain ⟨c2, a8⟩ := Bool.and_eq_true_iff.mp a8
  obtain ⟨c3, c4⟩ := Bool.and_eq_true_iff.mp a8
  unfold K5H.strB at a10
  obtain ⟨d1, d2⟩ := Bool.and_eq_true_iff.mp a10
  exact {
    oex := ox
    exc := ⟨He.eqO_ok b1, He.eqO_ok b2, ox.exC, b3, He.eqO_ok b4, He.eqO_ok b5, b6, b7⟩
    xf := ⟨He.eqO_ok b1, He.eqO_ok b2, ox.exC, b3⟩
    given := He.eqO_ok b8
    initT := b9
    init := He.eqO_ok b10
    is := fun p hp => of_decide_eq_true (List.all_eq_true.mp a1 p hp)
    x1 := of_decide_eq_true a2
    x2 := of_decide_eq_true a3
    x3 := of_decide_eq_true a4
    pm := propB_ok a6
    pw := propB_ok a7
    rd := ⟨c1, He.eqO_ok c2⟩
    cm := ⟨_, ⟨(He5.wrapB_ok c3).1, (He5.wrapB_ok c3).2, c4⟩⟩
    str := He.eqO_ok d1
    strF := d2 }
end K5
set_option Elab.async false
set_option linter.all false
set_option maxRecDepth 100000
set_option maxHeartbeats 2000000
/-! The program's defs: is_integer, is_within, is_name, read_number. -/
namespace K5
open PySem PySem.Spec PyProof.Rows L2
open TL (tl)
def oV : Option Nat → V
  | none => .non
  | some n => .int n
def oD : Option Nat → PyData
  | none => .none
  | some n => .int n
theorem dp_oV {K : PySem.W.Frag} {H : Hp} (o : Option Nat) : Dp K H (oV o) (oD o) := by
  cases o with
  | none => exact .non
  | some n => exact .int n
theorem oV_dp {K : PySem.W.Frag} {H : Hp} {o : Option Nat} {v : V} (h : Dp K H v (oD o)) : v = oV o := by
  cases o with
  | none =>
    cases h
    rfl
  | some n =>
    cases h
    rfl
def sp_is_integer : Sp := fun vs H Q _ => ∃ o : Option Nat, vs = [oV o] ∧ Q (.bl o.isSome) H
def wiB (a b : Int) : Option Nat → Bool
  | none => false
  | some n => decide (a ≤ n) && decide ((n : Int) ≤ b)
def sp_is_within : Sp := fun vs H Q _ => ∃ (o : Option Nat) (a b : Int), vs = [oV o, .int a, .int b] ∧ Q (.bl (wiB a b o)) H
def sp_is_name : Sp := fun vs H Q _ => ∃ x : Str, vs = [.str x] ∧ x.length ≤ 100000 ∧ ∀ H', Same H H' → Q (.bl (nameB x)) H'
def sp_read_number : Sp := fun vs H Q _ => ∃ x : Str, vs = [.str x] ∧ x.length ≤ 100000 ∧ ∀ H', Same H H' → Q (oV (numO x)) H'
theorem sc_is_integer : FnScope ["value"] ["value"] (defScope s_is_integer) := ⟨rfl, rfl, rfl, by decide +kernel, rfl, by decide +kernel, by decide +kernel⟩
theorem sc_is_within : FnScope ["value", "least", "most"] ["value", "least", "most"] (defScope s_is_within) := ⟨rfl, rfl, rfl, by decide +kernel, rfl, by decide +kernel, by decide +kernel⟩
theorem sc_is_name : FnScope ["value", "sign"] ["value"] (defScope s_is_name) := ⟨rfl, rfl, rfl, by decide +kernel, rfl, by decide +kernel, by decide +kernel⟩
theorem sc_read_number : FnScope ["word", "number", "sign"] ["word"] (defScope s_read_number) := ⟨rfl, rfl, rfl, by decide +kernel, rfl, by decide +kernel, by decide +kernel⟩
section
variable {P : Program} {w : World} {K : PySem.W.Frag} {mg : Str → Option Value} {base : Heap}
theorem ok_is_integer (T : Tx K mg) : Df P w K mg base CX0 1 (ga "is_integer" K) ["value"] sp_is_integer := by
  obtain ⟨fd, F⟩ := T.f_is_integer
  refine ⟨fd, F.ok sc_is_integer (fun vs H Q E h => ?_) (fun cdv A outer s H vs Q E hr h => ⟨_, pss_one (ps_ret (pe_and (pe_isB "int" T.b_isinstance T.b_int (by decide +kernel) (pv 0)) (pe_one (pe_not (pe_isB "bool" T.b_isinstance T.b_bool (by decide +kernel) (pv 0)))))), ?_⟩), F.kp, F.binds fun _ _ _ _ _ _ us hl => match us, hl with | [_], _ => rfl⟩
  · obtain ⟨o, rfl, _⟩ := h
    rfl
  · obtain ⟨o, rfl, q⟩ := h
    cases o with
    | none => exact ⟨_, rfl, isB_of (b := false) (.base .non) (kit_ty (by decide +kernel)) ⟨_, rfl, q⟩⟩
    | some n => exact ⟨_, rfl, isB_of (b := true) (.base (.int _)) (kit_ty (by decide +kernel)) ⟨_, rfl, _, rfl, isB_of (b := false) (.base (.int _)) (kit_ty (by decide +kernel)) ⟨_, rfl, q⟩⟩⟩
theorem ok_is_within (T : Tx K mg) : Df P w K mg base CX0 2 (ga "is_within" K) ["value", "least", "most"] sp_is_within := by
  obtain ⟨fd, F⟩ := T.f_is_within
  refine ⟨fd, F.ok sc_is_within (fun vs H Q E h => ?_) (fun cdv A outer s H vs Q E hr h => ⟨_, pss_one (ps_ret (pe_and (pe_d (ok_is_integer T) hr T.g_is_integer (pa_cons (pv 0) pa_nil)) (pe_one (pe_chain op_le op_le (pv 1) (pv 0) (pv 2))))), ?_⟩), F.kp,
    F.binds fun _ _ _ _ _ _ us hl => match us, hl with | [_, _, _], _ => rfl⟩
  · obtain ⟨o, a, b, rfl, _⟩ := h
    rfl
  · obtain ⟨o, a, b, rfl, q⟩ := h
    cases o with
    | none => exact ⟨_, rfl, none, rfl, _, rfl, q⟩
    | some n =>
      refine ⟨_, rfl, some n, rfl, _, rfl, _, rfl, _, rfl, _, _, rfl, rfl, _, rfl, ?_⟩
      refine ite2 (fun z => ⟨_, rfl, _, _, rfl, rfl, ?_⟩) fun z => ?_
      · have q2 : Q (.bl (decide (a ≤ (n : Int)) && decide ((n : Int) ≤ b))) H := q
        rw [show decide (a ≤ (n : Int)) = true from z] at q2
        exact q2
      · have q2 : Q (.bl (decide (a ≤ (n : Int)) && decide ((n : Int) ≤ b))) H := q
        rw [show decide (a ≤ (n : Int)) = false from by simpa using z] at q2
        exact q2
theorem sign_in {c : Nat} {z : Str} : decide (c ∈ z.cps.toList) = z.cps.toList.contains c := by simp
theorem lo_in (c : Nat) : decide (c ∈ ("abcdefghijklmnopqrstuvwxyz" : Str).cps.toList) = lo c := by
  rw [show ("abcdefghijklmnopqrstuvwxyz" : Str).cps.toList = (List.range 26).map (97 + ·) from by decide]
  unfold lo
  rw [Bool.eq_iff_iff, decide_eq_true_eq, decide_eq_true_eq, List.mem_map]
  constructor
  · rintro ⟨a, ha, rfl⟩
    have := List.mem_range.mp ha
    omega
  · intro h
    exact ⟨c - 97, List.mem_range.mpr (by omega), by omega⟩
theorem dg_in (c : Nat) : decide (c ∈ ("0123456789" : Str).cps.toList) = dg c := by
  rw [show ("0123456789" : Str).cps.toList = (List.range 10).map (48 + ·) from by decide]
  unfold dg
  rw [Bool.eq_iff_iff, decide_eq_true_eq, decide_eq_true_eq, List.mem_map]
  constructor
  · rintro ⟨a, ha, rfl⟩
    have := List.mem_range.mp ha
    omega
  · intro h
    exact ⟨c - 48, List.mem_range.mpr (by omega), by omega⟩
theorem ld_in (c : Nat) : decide (c ∈ ("abcdefghijklmnopqrstuvwxyz0123456789" : Str).cps.toList) = (lo c || dg c) := by
  rw [show ("abcdefghijklmnopqrstuvwxyz0123456789" : Str).cps.toList = ("abcdefghijklmnopqrstuvwxyz" : Str).cps.toList ++ ("0123456789" : Str).cps.toList from by decide, ← lo_in, ← dg_in]
  simp
theorem all_signs (x : Str) (f : Nat → Bool) : (((List.range x.cps.size).map fun i => f (x.cps.toList.getD i 0)).all id) = (tl x).all f := by
  have e : (List.range x.cps.size).map (fun i => f (x.cps.toList.getD i 0)) = (tl x).map f := by
    have := range_getD x.cps.toList 0 f
    rwa [Array.length_toList] at this
  rw [e, List.all_map]
  rfl
theorem sign_at {x : Str} {i c : Nat} (h : x.cps[i]? = some c) : x.cps.toList.getD i 0 = c := by
  rw [List.getD_eq_getElem?_getD, Array.getElem?_toList, h]
  rfl
theorem ok_is_name (T : Tx K mg) : Df P w K mg base CX0 1 (ga "is_name" K) ["value"] sp_is_name := by
  obtain ⟨fd, F⟩ := T.f_is_name
  obtain ⟨t8, h8⟩ := T.i_LONGEST_NAME
  obtain ⟨tL, hL⟩ := T.s_LETTERS
  obtain ⟨tD, hD⟩ := T.s_DIGITS
  refine ⟨fd, F.ok sc_is_name (fun vs H Q E h => ?_) (fun cdv A outer s H vs Q E hr h => ⟨_, pss_cons (ps_if (PW.pt (pw_or (pt_not (pt_val (pe_isB "str" T.b_isinstance T.b_str (by decide +kernel) (pv 0))))
      (pw_or1 (pt_not (pt_chain op_le op_le pe_int (pe_callB call_len_str (by rfl) T.b_len (by decide +kernel) (pa_cons (pv 0) pa_nil)) (pe_gi h8)))))) (pss_one (ps_ret pe_bl)) pss_nil)
      (pss_one (ps_ret (pe_and (pe_cmpR op_in_sign (pe_ix ix_str (pv 0) pe_int (fun _ _ => rfl)) (pe_gs hL) (by rfl)) (pe_one (pe_callB (cr_all rfl) (by rfl) T.b_all (by decide +kernel) (pa_cons
        (pe_lc (own := [("sign", 1)]) (g := gName 1) (tt := tYes) rfl sc_is_name.nd (pi_str (pv 0)) (blkOk_by (N := ["value", "sign"]) (sc := defScope s_is_name) (by decide +kernel)) (fun _ _ _ _ _ => pg_name (i := 1) sc_is_name.nd rfl (Or.inl rfl)) (fun _ _ _ _ _ => pts_nil)
          (fun _ _ _ _ _ => pe_or (pe_cmpR op_in_sign (pv 1) (pe_gs hL) (by rfl)) (pe_one (pe_cmpR op_in_sign (pv 1) (pe_gs hD) (by rfl))))) pa_nil)))))), ?_⟩), F.kp,
    F.binds fun _ _ _ _ _ _ us hl => match us, hl with | [_], _ => rfl⟩
  · obtain ⟨x, rfl, _⟩ := h
    rfl
  · obtain ⟨x, rfl, hz, q⟩ := h
    have hsl : x.length ≤ sizeLine := by rw [sizeLine_eq]; omega
    have no : nameB x = false → (Q (.bl false) H) := fun e => by
      have := q H (Same.refl H)
      rwa [e] at this
    refine ⟨_, rfl, isB_of (b := true) (.base (.str x)) (kit_ty (by decide +kernel)) ⟨_, rfl, iteF ⟨_, rfl, x, rfl, hsl, _, _, rfl, rfl, _, rfl, ?_⟩⟩⟩
    have hlen : (tl x).length = x.length := (TL.len_tl x).symm
    by_cases h1 : 1 ≤ x.length
    · rw [decide_eq_true (show (1 : Int) ≤ (x.length : Nat) by omega)]
      refine iteT ⟨_, _, rfl, rfl, _, rfl, ?_⟩
      by_cases h2 : x.length ≤ 8
      · rw [decide_eq_true (show ((x.length : Nat) : Int) ≤ 8 by omega)]
        refine iteF ?_
        obtain ⟨c, r, hc⟩ : ∃ c r, tl x = c :: r := by
          cases e : tl x with
          | nil => rw [e] at hlen; simp at hlen; omega
          | cons c r => exact ⟨c, r, rfl⟩
        refine ⟨_, rfl, x, 0, c, rfl, rfl, hsl, ?_, c, _, rfl, rfl, _, rfl, ?_⟩
        · exact atI_nat (j := 0) (by rw [show x.cps.toList = c :: r from hc]; rfl)
        rw [lo_in]
        have hn : nameB x = (lo c && (tl x).all fun c => lo c || dg c) := by
          unfold nameB
          rw [hc]
          show (lo c && (decide ((c :: r).length ≤ 8) && _)) = _
          rw [decide_eq_true (by rw [← hc, hlen]; exact h2)]
          rfl
        by_cases h3 : lo c = true
        · rw [h3]
          refine iteT ?_
          refine ⟨_, rfl, x, rfl, fun D hDn => ?_⟩
          refine lc_map (K := K) walk_str noH (fun i => .bool (lo (x.cps.toList.getD i 0) || dg (x.cps.toList.getD i 0))) (by rw [sizeLine_eq]; have : x.cps.size = x.length := rfl; omega) hDn noH_in (fun _ _ => trivial) ?_ gm_name ?_
          · rintro i _ H1 H2 hi s1 hD1 ⟨rfl, c1, hc1, rfl⟩ Qy hq
            refine ⟨rfl, _, rfl, c1, _, rfl, rfl, _, rfl, ?_⟩
            have ec := sign_at hc1
            rw [lo_in]
            cases h4 : lo c1 with
            | true => exact hq _ _ (Same.refl _) (by rw [ec, h4]; exact .bl _)
            | false =>
              refine ⟨_, rfl, c1, _, rfl, rfl, ?_⟩
              rw [dg_in]
              exact hq _ _ (Same.refl _) (by rw [ec, h4, Bool.false_or]; exact .bl _)
          · intro H2 ys s2 e2 q2 _
            have e3 : ys = ((List.range x.cps.size).map fun i => (lo (x.cps.toList.getD i 0) || dg (x.cps.toList.getD i 0))).map V.bl := dpa_bls (by rw [List.map_map]; exact q2)
            refine ⟨D, _, rfl, .inl (.inl (by rw [← e3]; exact e2)), ?_⟩
            have := q H2 s2
            rw [hn, h3, Bool.true_and] at this
            rw [all_signs x fun c => lo c || dg c]
            exact this
        · have h3' : lo c = false := by simpa using h3
          rw [h3']
          exact no (by rw [hn, h3']; rfl)
      · rw [decide_eq_false (show ¬ ((x.length : Nat) : Int) ≤ 8 by omega)]
        refine iteT (no ?_)
        unfold nameB
        rw [decide_eq_false (show ¬ (tl x).length ≤ 8 by omega)]
        simp
    · rw [decide_eq_false (show ¬ (1 : Int) ≤ (x.length : Nat) by omega)]
      refine iteF ⟨_, rfl, iteT (no ?_)⟩
      have : tl x = [] := List.eq_nil_of_length_eq_zero (by omega)
      unfold nameB
      rw [this]
      rfl
theorem ok_read_number (T : Tx K mg) : Df P w K mg base CX0 1 (ga "read_number" K) ["word"] sp_read_number := by
  obtain ⟨fd, F⟩ := T.f_read_number
  obtain ⟨tD, hD⟩ := T.s_DIGITS
  refine ⟨fd, F.ok sc_read_number (fun vs H Q E h => ?_) (fun cdv A outer s H vs Q E hr h => ⟨_, pss_cons (ps_if (PW.pt (pw_or (pt_cmpR op_eq (pv 0) pe_str (nomark _)) (pw_or (pt_cmpR op_gt (pe_callB call_len_str (by rfl) T.b_len (by decide +kernel) (pa_cons (pv 0) pa_nil)) pe_int (nomark _))
      (pw_or1 (pt_not (pt_val (pe_callB (cr_all rfl) (by rfl) T.b_all (by decide +kernel) (pa_cons
        (pe_lc (own := [("sign", 2)]) (g := gName 2) (tt := tYes) rfl sc_read_number.nd (pi_str (pv 0)) (blkOk_by (N := ["word", "number", "sign"]) (sc := defScope s_read_number) (by decide +kernel)) (fun _ _ _ _ _ => pg_name (i := 2) sc_read_number.nd rfl (Or.inl rfl)) (fun _ _ _ _ _ => pts_nil)
          (fun _ _ _ _ _ => pe_cmpR op_in_sign (pv 2) (pe_gs hD) (by rfl))) pa_nil)))))))) (pss_one (ps_ret pe_non)) pss_nil)
    (pss_cons (ps_set (i := 1) sc_read_number.nd rfl (Or.inl rfl) (pe_callTy call_int_str (by rfl) T.b_int (by decide +kernel) (pa_cons (pv 0) pa_nil)))
      (pss_one (ps_ret (pe_ifExp (pt_cmpR op_eq (pe_callTy call_str_int (by rfl) T.b_str (by decide +kernel) (pa_cons (pv 1) pa_nil)) (pv 0) (nomark _)) (pv 1) pe_non)))), ?_⟩), F.kp,
    F.binds fun _ _ _ _ _ _ us hl => match us, hl with | [_], _ => rfl⟩
  · obtain ⟨x, rfl, _⟩ := h
    rfl
  · obtain ⟨x, rfl, hz, q⟩ := h
    have hsl : x.length ≤ sizeLine := by rw [sizeLine_eq]; omega
    have hlen : (tl x).length = x.length := (TL.len_tl x).symm
    have no : numO x = none → ∀ H', Same H H' → Q .non H' := fun e H' s => by
      have := q H' s
      rwa [e] at this
    refine ⟨_, rfl, rfl, _, rfl, ?_⟩
    have hnu : numO x = if (tl x).isEmpty = false ∧ (tl x).length ≤ 80 ∧ (tl x).all dg = true ∧ noLead (tl x) = true then some (dv (tl x)) else none := rfl
    by_cases h1 : x = ("" : Str)
    · rw [decide_eq_true (show V.str x = V.str "" by rw [h1])]
      refine iteT (no ?_ H (Same.refl H))
      rw [h1]
      decide
    · rw [decide_eq_false (show ¬ V.str x = V.str "" by intro e; exact h1 (V.str.inj e))]
      have hne : tl x ≠ [] := fun e => h1 (TL.ext_tl (by rw [e]; decide))
      have hne' : (tl x).isEmpty = false := by simpa using hne
      refine iteF ⟨_, rfl, x, rfl, hsl, _, _, rfl, rfl, _, rfl, ?_⟩
      by_cases h2 : x.length ≤ 80
      · rw [decide_eq_false (show ¬ (80 : Int) < (x.length : Nat) by omega)]
        refine iteF ⟨_, rfl, x, rfl, fun D hDn => ?_⟩
        refine lc_map (K := K) walk_str noH (fun i => .bool (dg (x.cps.toList.getD i 0))) (by rw [sizeLine_eq]; have : x.cps.size = x.length := rfl; omega) hDn noH_in (fun _ _ => trivial) ?_ gm_name ?_
        · rintro i _ H1 H2 hi s1 hD1 ⟨rfl, c1, hc1, rfl⟩ Qy hq
          refine ⟨rfl, _, rfl, c1, _, rfl, rfl, ?_⟩
          have ec := sign_at hc1
          rw [dg_in]
          exact hq _ _ (Same.refl _) (by rw [ec]; exact .bl _)
        · intro H2 ys s2 e2 q2 _
          have e3 : ys = ((List.range x.cps.size).map fun i => dg (x.cps.toList.getD i 0)).map V.bl := dpa_bls (by rw [List.map_map]; exact q2)
          refine ⟨D, _, rfl, .inl (.inl (by rw [← e3]; exact e2)), _, rfl, ?_⟩
          rw [all_signs x dg]
          by_cases h3 : (tl x).all dg = true
          · rw [h3]
            refine iteF ⟨_, rfl, x, ((dv (tl x) : Nat) : Int), rfl, int_word hne' (by omega) h3, by omega, ?_⟩
            refine ⟨_, rfl, _, rfl, ?_, _, rfl, rfl, _, rfl, ?_⟩
            · exact dv_log (by omega) h3
            · have eb := back_eq (x := x) hne h3
              rw [show decide (V.str (Str.ofString (toString ((dv (tl x) : Nat) : Int))) = V.str x) = decide (Str.ofString (toString ((dv (tl x) : Nat) : Int)) = x) from by simp, eb]
              by_cases h4 : noLead (tl x) = true
              · rw [h4]
                have := q H2 s2
                rw [hnu, if_pos ⟨hne', by omega, h3, h4⟩] at this
                exact iteT ⟨_, rfl, this⟩
              · have h4' : noLead (tl x) = false := by simpa using h4
                rw [h4']
                exact iteF (no (by rw [hnu, if_neg (fun z => h4 z.2.2.2)]) H2 s2)
          · have h3' : (tl x).all dg = false := by simpa using h3
            rw [h3']
            exact iteT (no (by rw [hnu, if_neg (fun z => h3 z.2.2.1)]) H2 s2)
      · rw [decide_eq_true (show (80 : Int) < (x.length : Nat) by omega)]
        exact iteT (no (by rw [hnu, if_neg (fun z => by have := z.2.1; omega)]) H (Same.refl H))
end
end K5
set_option Elab.async false
set_option linter.all false
set_option maxRecDepth 100000
set_option maxHeartbeats 2000000
/-! The program's defs: wrong_mind, is_row. -/
namespace K5
open PySem PySem.Spec PyProof.Rows L2
open TL (tl)
theorem walk_enumT {K : PySem.W.Frag} {a : Addr} {xs : List V} : Walk (IteT K a) xs.length (fun H => SqT K H a xs) (YPair (fun i => some (.int (i : Nat))) (fun i => xs[i]?)) := by
  refine ⟨fun i _ hi q => ⟨xs, xs[i], q, by simp [hi]⟩, fun _ q => ⟨xs, q, Nat.le_refl _⟩, fun i H v H' _ q y => ?_⟩
  obtain ⟨T, x, h1, h2, h3, h4⟩ := y
  exact ⟨T, .int (i : Nat), x, h1, h2, h3, rfl, h4 xs q⟩
theorem sqT_same {K : PySem.W.Frag} {H H' : Hp} {a : Addr} {xs : List V} (e : Same H H') (s : SqT K H a xs) : SqT K H' a xs := by
  rcases s with (s | ⟨o, s⟩) | s
  · exact .inl (.inl (e _ _ s))
  · exact .inl (.inr ⟨o, e _ _ s⟩)
  · exact .inr s
theorem inV_strs (x : Str) (l : List Str) : inV (.str x) (l.map V.str) = l.any (· == x) := by
  unfold inV
  rw [List.any_map]
  rfl
theorem flat_strs (l : List Str) : (l.map V.str).all flatV = true := by
  rw [List.all_map, List.all_eq_true]
  intro _ _
  rfl
/-- how wrong_mind and wrong_way answer: the empty tuple, or one place -/
def badTup (ok : Bool) (ds : List V) : Prop := (ok = true ∧ ds = []) ∨ (ok = false ∧ (ds = [.non] ∨ ∃ i : Int, ds = [.int i]))
def sp_wrong_mind (K : PySem.W.Frag) : Sp := fun vs H Q _ => ∃ (v : V) (names : List Str), vs = [v] ∧ Dp K H v (.tuple (names.map .str)) ∧ (∀ n ∈ names, n.length ≤ 100000) ∧ ∀ p ds H', Same H H' → H' p = some (.tup ds) → badTup (mindsB names) ds → Q (.ref p) H'
theorem sc_wrong_mind : FnScope ["minds", "at", "name"] ["minds"] (defScope s_wrong_mind) := ⟨rfl, rfl, rfl, by decide +kernel, rfl, by decide +kernel, by decide +kernel⟩
def sp_is_row (K : PySem.W.Frag) : Sp := fun vs H Q _ => ∃ (v : V) (os : List (Option Nat)) (n : Nat), vs = [v, .int n] ∧ Dp K H v (.tuple (os.map oD)) ∧ os.length ≤ sizeLine ∧ ∀ H', Same H H' → Q (.bl (rowB os n)) H'
theorem sc_is_row : FnScope ["value", "count", "weight"] ["value", "count"] (defScope s_is_row) := ⟨rfl, rfl, rfl, by decide +kernel, rfl, by decide +kernel, by decide +kernel⟩
theorem dpa_opts {K : PySem.W.Frag} {H : Hp} : ∀ {os : List (Option Nat)} {vs : List V}, DpAll K H vs (os.map oD) → vs = os.map oV
  | [], _, .nil => rfl
  | o :: os, _, .cons h t => by
    rw [oV_dp h, dpa_opts t]
    rfl
theorem ty_tuple {K : PySem.W.Frag} {H : Hp} {a : Addr} {xs : List V} (hs : SqT K H a xs) : TyX K H (.ref a) (.type "tuple") := by
  rcases hs with (hs | ⟨o, hs⟩) | ⟨o, _, _, hs, hc, _⟩
  · exact .base (.tup hs)
  · exact .fTuple hs
  · exact .kTuple hs hc
theorem opts_ints : ∀ {os : List (Option Nat)}, os.all inB = true → os.map oV = (os.map fun o => ((o.getD 0 : Nat) : Int)).map V.int ∧ (os.map fun o => ((o.getD 0 : Nat) : Int)).sum = ((sumO os : Nat) : Int)
  | [], _ => ⟨rfl, rfl⟩
  | none :: os, h => by simp [inB] at h
  | some n :: os, h => by
    rw [List.all_cons, Bool.and_eq_true] at h
    obtain ⟨h1, h2⟩ := opts_ints h.2
    refine ⟨by rw [List.map_cons, h1]; rfl, ?_⟩
    unfold sumO at h2 ⊢
    rw [List.map_cons, List.sum_cons, h2, List.map_cons, List.sum_cons]
    simp
theorem seq_le {X : Cx} {pins : List (Addr × Obj)} {σ : L2.St} {H : Hp} {s : Shared} {a : Addr} {xs : List V} (I : Inv X pins σ H s) (h : SqT X.K H a xs) : xs.length ≤ sizeLine := by
  obtain ⟨_, _, _, z⟩ := I.tuple h
  exact z
section
variable {P : Program} {w : World} {K : PySem.W.Frag} {mg : Str → Option Value} {base : Heap}
theorem ok_wrong_mind (T : Tx K mg) : Df P w K mg base CX0 2 (ga "wrong_mind" K) ["minds"] (sp_wrong_mind K) := by
  obtain ⟨fd, F⟩ := T.f_wrong_mind
  obtain ⟨t6, h6⟩ := T.i_MOST_MINDS
  have nd := sc_wrong_mind.nd
  refine ⟨fd, F.ok sc_wrong_mind (fun vs H Q E h => ?_) (fun cdv A outer s H vs Q E hr h => ⟨_, pss_cons (ps_if (PW.pt (pw_or (pt_not (pt_val (pe_isB "tuple" T.b_isinstance T.b_tuple (by decide +kernel) (pv 0))))
      (pw_or1 (pt_cmpR op_eq (pe_callB call_len_seq (by rfl) T.b_len (by decide +kernel) (pa_cons (pv 0) pa_nil)) pe_int (nomark _))))) (pss_one (ps_ret (pe_tup (pa_cons pe_non pa_nil)))) pss_nil)
    (pss_cons (ps_for PassesOwn.never rfl (pi_enumT (by rfl) T.b_enumerate (pa_cons (pv 0) pa_nil)) (pg_tup rfl (pgs_cons (pg_name (i := 1) nd rfl (Or.inl rfl)) (pgs_cons (pg_name (i := 2) nd rfl (Or.inl rfl)) pgs_nil)))
      (pss_one (ps_if (PW.pt (pw_or (pt_not (pt_val (pe_d (ok_is_name T) hr T.g_is_name (pa_cons (pv 2) pa_nil)))) (pw_or (pt_cmpR op_ge (pv 1) (pe_gi h6) (nomark _))
        (pw_or1 (pt_cmpR op_in_seq (pv 2) (pe_slice sl_tup (pv 0) po_none (po_some (pv 1))) (by rfl)))))) (pss_one (ps_ret (pe_tup (pa_cons (pv 1) pa_nil)))) pss_nil)))
      (pss_one (ps_ret (pe_tup pa_nil)))), ?_⟩), F.kp, F.binds fun _ _ _ _ _ _ us hl => match us, hl with | [_], _ => rfl⟩
  · obtain ⟨v, names, rfl, _⟩ := h
    rfl
  · obtain ⟨v, names, rfl, hv, hn, q⟩ := h
    obtain ⟨a, xs, rfl, hs, hx⟩ := dp_tup hv
    obtain rfl := dpa_strs hx
    have ty : ∃ t, TyX K H (.ref a) (.type t) ∧ t = "tuple" := by
      rcases hs with (hs | ⟨o, hs⟩) | ⟨o, _, _, hs, hc, _⟩
      · exact ⟨_, .base (.tup hs), rfl⟩
      · exact ⟨_, .fTuple hs, rfl⟩
      · exact ⟨_, .kTuple hs hc, rfl⟩
    obtain ⟨_, ty, rfl⟩ := ty
    refine ⟨_, rfl, isB_of (b := true) ty (kit_ty (by decide +kernel)) ⟨_, rfl, iteF ⟨_, rfl, a, _, rfl, .inr hs, rfl, _, rfl, ?_⟩⟩⟩
    have one : ∀ {H1 : Hp} {p : Addr} {d : V}, Same H H1 → H1 p = none → mindsB names = false → (d = .non ∨ ∃ i : Int, d = .int i) → Q (.ref p) (upd H1 p (.tup [d])) := fun {H1 p d} s np e hd =>
      q p [d] _ (s.trans (same_upd np)) upd_same (.inr ⟨e, hd.elim (fun z => .inl (by rw [z])) fun ⟨i, z⟩ => .inr ⟨i, by rw [z]⟩⟩)
    rw [List.length_map]
    by_cases h0 : names.length = 0
    · rw [decide_eq_true (show V.int (names.length : Nat) = V.int 0 by rw [h0]; rfl)]
      refine iteT ⟨by show 1 ≤ sizeLine; decide, fun p np => one (Same.refl H) np ?_ (.inl rfl)⟩
      rw [List.eq_nil_of_length_eq_zero h0]
      rfl
    · rw [decide_eq_false (show ¬ V.int (names.length : Nat) = V.int 0 by intro e; have := V.int.inj e; omega)]
      refine iteF ⟨_, rfl, a, _, rfl, hs, ?_⟩
      have hne : names ≠ [] := fun e => h0 (by rw [e]; rfl)
      refine for_it walk_enumT (fun i σ H1 => Same H H1 ∧ (∃ o1 o2, σ = [some (.ref a), o1, o2]) ∧ ∀ j, j < i → mindOk names j = true) ⟨Same.refl H, ⟨_, _, rfl⟩, fun j hj => absurd hj (Nat.not_lt_zero j)⟩ (fun i σ H1 _ h => sqT_same h.1 hs) ?_ ?_
      · rintro i _ σ H1 _ hi ⟨s1, ⟨o1, o2, rfl⟩, hok⟩ ⟨Tp, x, y, rfl, hT, rfl, hx1, hy1⟩
        rw [List.length_map] at hi
        obtain rfl : x = .int (i : Nat) := (Option.some.inj hx1).symm
        have ey : y = .str names[i] := by
          have hy2 : (names.map V.str)[i]? = some y := hy1
          rw [List.getElem?_map, List.getElem?_eq_getElem hi] at hy2
          exact (Option.some.inj hy2).symm
        subst ey
        refine ⟨Tp, _, rfl, .inl (.inl upd_same), rfl, _, _, rfl, _, _, rfl, rfl, ?_⟩
        have s2 : Same H (upd H1 Tp (.tup [.int (i : Nat), .str names[i]])) := s1.trans (same_upd hT)
        have hi2 : names.getD i Str.empty = names[i] := mem_getD hi
        have bad : mindOk names i = false → mindsB names = false := fun e => by
          unfold mindsB
          rw [List.all_eq_false.mpr ⟨i, List.mem_range.mpr hi, by rw [e]; exact Bool.false_ne_true⟩, Bool.and_false]
        have hmo : mindOk names i = (nameB names[i] && (decide (i < 6) && !(names.take i).any (· == names[i]))) := by
          unfold mindOk
          rw [hi2]
        refine ⟨_, rfl, names[i], rfl, hn _ (List.getElem_mem hi), fun H3 s3 => ⟨_, rfl, ?_⟩⟩
        have s4 := s2.trans s3
        by_cases h1 : nameB names[i] = true
        · rw [h1]
          refine iteF ⟨_, rfl, _, _, rfl, rfl, _, rfl, ?_⟩
          by_cases h2 : i < 6
          · rw [decide_eq_false (show ¬ (6 : Int) ≤ (i : Nat) by omega)]
            refine iteF ⟨_, rfl, _, rfl, _, rfl, _, rfl, a, _, rfl, sqT_same s4 hs, ?_, fun p np => ?_⟩
            · rw [List.length_map, HT.sIx_nat]
              omega
            · have e1 : cutV (names.map V.str) none (some ((i : Nat) : Int)) = (names.take i).map V.str := by
                unfold cutV
                rw [List.length_map, HT.sIx_nat, HT.sIx_none, List.drop_zero, ← List.map_take, Nat.sub_zero, Nat.min_eq_left (Nat.le_of_lt hi)]
              refine ⟨p, _, rfl, .inr (.inl (.inl upd_same)), rfl, by rw [e1]; exact flat_strs _, _, rfl, ?_⟩
              rw [e1, inV_strs]
              have s5 : Same H (upd H3 p (.tup ((names.take i).map V.str))) := s4.trans (same_upd np)
              by_cases h3 : (names.take i).any (· == names[i]) = true
              · rw [h3]
                exact iteT ⟨_, rfl, by show 1 ≤ sizeLine; decide, fun p2 np2 => one s5 np2 (bad (by rw [hmo, h3, Bool.not_true, Bool.and_false, Bool.and_false])) (.inr ⟨_, rfl⟩)⟩
              · have h3' : (names.take i).any (· == names[i]) = false := Bool.eq_false_iff.mpr h3
                rw [h3']
                refine iteF ⟨s5, ⟨_, _, rfl⟩, fun j hj => ?_⟩
                by_cases e : j = i
                · rw [e, hmo, h1, h3', decide_eq_true h2]
                  rfl
                · exact hok j (by omega)
          · rw [decide_eq_true (show (6 : Int) ≤ (i : Nat) by omega)]
            exact iteT ⟨_, rfl, by show 1 ≤ sizeLine; decide, fun p2 np2 => one s4 np2 (bad (by rw [hmo, decide_eq_false h2, Bool.false_and, Bool.and_false])) (.inr ⟨_, rfl⟩)⟩
        · have h1' : nameB names[i] = false := by simpa using h1
          rw [h1']
          exact iteT ⟨_, rfl, by show 1 ≤ sizeLine; decide, fun p2 np2 => one s4 np2 (bad (by rw [hmo, h1', Bool.false_and])) (.inr ⟨_, rfl⟩)⟩
      · rintro σ H1 ⟨s1, ⟨o1, o2, rfl⟩, hok⟩
        rw [List.length_map] at hok
        refine ⟨by show 0 ≤ sizeLine; decide, fun p np => q p [] _ (s1.trans (same_upd np)) upd_same (.inl ⟨?_, rfl⟩)⟩
        unfold mindsB
        rw [List.all_eq_true.mpr fun j hj => hok j (List.mem_range.mp hj), Bool.and_true]
        simpa using hne
theorem ok_is_row (T : Tx K mg) : Df P w K mg base CX0 3 (ga "is_row" K) ["value", "count"] (sp_is_row K) := by
  obtain ⟨fd, F⟩ := T.f_is_row
  obtain ⟨tW, hW⟩ := T.i_MOST_WEIGHT
  have nd := sc_is_row.nd
  refine ⟨fd, F.ok sc_is_row (fun vs H Q E h => ?_) (fun cdv A outer s H vs Q E hr h => ⟨_, pss_cons (ps_if (PW.pt (pw_or (pt_not (pt_val (pe_isB "tuple" T.b_isinstance T.b_tuple (by decide +kernel) (pv 0))))
      (pw_or1 (pt_cmpR op_ne (pe_callB call_len_seq (by rfl) T.b_len (by decide +kernel) (pa_cons (pv 0) pa_nil)) (pv 1) (nomark _))))) (pss_one (ps_ret pe_bl)) pss_nil)
    (pss_one (ps_ret (pe_and (pe_callB (cr_all rfl) (by rfl) T.b_all (by decide +kernel) (pa_cons
        (pe_lc (own := [("weight", 2)]) (g := gName 2) (tt := tYes) rfl nd (pi_tup (pv 0)) (blkOk_by (N := ["value", "count", "weight"]) (sc := defScope s_is_row) (by decide +kernel)) (fun _ _ _ _ _ => pg_name (i := 2) nd rfl (Or.inl rfl)) (fun _ _ _ _ _ => pts_nil)
          (fun _ _ _ _ _ => pe_d (ok_is_within T) hr T.g_is_within (pa_cons (pv 2) (pa_cons pe_int (pa_cons (pe_gi hW) pa_nil))))) pa_nil))
      (pe_one (pe_cmpR op_gt (pe_callB (cr_sumT rfl) (by rfl) T.b_sum (by decide +kernel) (pa_cons (pv 0) pa_nil)) pe_int (nomark _)))))), ?_⟩), F.kp,
    F.binds fun _ _ _ _ _ _ us hl => match us, hl with | [_, _], _ => rfl⟩
  · obtain ⟨v, os, n, rfl, _⟩ := h
    rfl
  · obtain ⟨v, os, n, rfl, hv, hsl, q⟩ := h
    obtain ⟨a, xs, rfl, hs, hx⟩ := dp_tup hv
    obtain rfl := dpa_opts hx
    refine ⟨_, rfl, isB_of (b := true) (ty_tuple hs) (kit_ty (by decide +kernel)) ⟨_, rfl, iteF ⟨_, rfl, a, _, rfl, .inr hs, ?_⟩⟩⟩
    refine ⟨_, rfl, rfl, _, rfl, ?_⟩
    rw [List.length_map]
    have no : rowB os n = false → ∀ H', Same H H' → Q (.bl false) H' := fun e H' s => by
      have := q H' s
      rwa [e] at this
    by_cases hl : os.length = n
    · rw [decide_eq_true (show V.int (os.length : Nat) = V.int (n : Nat) by rw [hl])]
      refine iteF ⟨_, rfl, a, rfl, ⟨_, hs⟩, fun D hDn => ?_⟩
      refine lc_map (K := K) walk_tup noH (fun i => .bool (inB (os.getD i none))) (by rw [List.length_map]; exact hsl) hDn noH_in (fun _ s => sqT_same s hs) ?_ gm_name ?_
      · rintro i x H1 H2 hi s1 hD1 ⟨rfl, hx1⟩ Qy hq
        rw [List.length_map] at hi
        rw [List.getElem?_map, List.getElem?_eq_getElem hi] at hx1
        obtain rfl : x = oV os[i] := (Option.some.inj hx1).symm
        refine ⟨rfl, _, rfl, os[i], 0, 1000000000, rfl, hq _ _ (Same.refl _) ?_⟩
        have e2 : wiB 0 1000000000 os[i] = inB (os.getD i none) := by
          rw [mem_getD hi]
          cases os[i] with
          | none => rfl
          | some m =>
            show (decide ((0 : Int) ≤ m) && decide ((m : Int) ≤ 1000000000)) = decide (m ≤ 1000000000)
            rw [decide_eq_true (show (0 : Int) ≤ m by omega), Bool.true_and]
            exact decide_eq_decide.mpr (by omega)
        rw [e2]
        exact .bl _
      · intro H2 ys s2 e2 q2 _
        rw [List.length_map] at q2
        have e3 : ys = ((List.range os.length).map fun i => inB (os.getD i none)).map V.bl := dpa_bls (by rw [List.map_map]; exact q2)
        refine ⟨D, _, rfl, .inl (.inl (by rw [← e3]; exact e2)), _, rfl, ?_⟩
        have eall : ((List.range os.length).map fun i => inB (os.getD i none)).all id = os.all inB := by
          rw [range_getD os none inB, List.all_map]
          rfl
        rw [eall]
        by_cases h3 : os.all inB = true
        · rw [h3]
          obtain ⟨e4, e5⟩ := opts_ints h3
          refine iteT ⟨_, rfl, a, _, rfl, by rw [← e4]; exact sqT_same s2 hs, _, _, rfl, rfl, ?_⟩
          rw [e5]
          have := q H2 s2
          unfold rowB at this
          rw [decide_eq_true hl, h3, Bool.true_and, Bool.true_and] at this
          show Q (.bl (decide ((0 : Int) < ((sumO os : Nat) : Int)))) H2
          rw [show decide ((0 : Int) < ((sumO os : Nat) : Int)) = decide (0 < sumO os) from decide_eq_decide.mpr (by omega)]
          exact this
        · have h3' : os.all inB = false := Bool.eq_false_iff.mpr h3
          rw [h3']
          refine iteF (no ?_ H2 s2)
          unfold rowB
          rw [h3', Bool.false_and, Bool.and_false]
    · rw [decide_eq_false (show ¬ V.int (os.length : Nat) = V.int (n : Nat) by intro e; have := V.int.inj e; omega)]
      refine iteT (no ?_ H (Same.refl H))
      unfold rowB
      rw [decide_eq_false hl, Bool.false_and]
end
end K5
set_option Elab.async false
set_option linter.all false
set_option maxRecDepth 100000
set_option maxHeartbeats 2000000
/-! The program's defs: is_way, wrong_way. -/
namespace K5
open PySem PySem.Spec PyProof.Rows L2
open TL (tl)
def rowD (os : List (Option Nat)) : PyData := .tuple (os.map oD)
def wayD (rows : List (List (Option Nat))) : PyData := .tuple (rows.map rowD)
def waysD (ways : List (List (List (Option Nat)))) : PyData := .tuple (ways.map wayD)
def mindsD (names : List Str) : PyData := .tuple (names.map .str)
def szW (rows : List (List (Option Nat))) : Prop := rows.length ≤ sizeLine ∧ ∀ r ∈ rows, r.length ≤ sizeLine
theorem dpa_get {α : Type} {K : PySem.W.Frag} {H : Hp} {l : List α} {f : α → PyData} {xs : List V} {i : Nat} {x : V} (h : DpAll K H xs (l.map f)) (hi : i < l.length) (hx : xs[i]? = some x) : Dp K H x (f l[i]) := by
  obtain ⟨d, e, q⟩ := dpa_at h hx
  rw [List.getElem?_map, List.getElem?_eq_getElem hi] at e
  cases e
  exact q
theorem dpa_mapLen {α : Type} {K : PySem.W.Frag} {H : Hp} {l : List α} {f : α → PyData} {xs : List V} (h : DpAll K H xs (l.map f)) : xs.length = l.length := by
  rw [dpa_len h, List.length_map]
def sp_is_way (K : PySem.W.Frag) : Sp := fun vs H Q _ => ∃ (v : V) (rows : List (List (Option Nat))) (n : Nat), vs = [v, .int n] ∧ Dp K H v (wayD rows) ∧ szW rows ∧ ∀ H', Same H H' → Q (.bl (wayB rows n)) H'
def sp_wrong_way (K : PySem.W.Frag) : Sp := fun vs H Q _ => ∃ (v : V) (ways : List (List (List (Option Nat)))) (n : Nat), vs = [v, .int n] ∧ Dp K H v (waysD ways) ∧ (∀ r ∈ ways, szW r) ∧ ∀ p ds H', Same H H' → H' p = some (.tup ds) → badTup (waysB ways n) ds → Q (.ref p) H'
theorem sc_is_way : FnScope ["value", "count", "row"] ["value", "count"] (defScope s_is_way) := ⟨rfl, rfl, rfl, by decide +kernel, rfl, by decide +kernel, by decide +kernel⟩
theorem sc_wrong_way : FnScope ["ways", "count", "at", "way"] ["ways", "count"] (defScope s_wrong_way) := ⟨rfl, rfl, rfl, by decide +kernel, rfl, by decide +kernel, by decide +kernel⟩
section
variable {P : Program} {w : World} {K : PySem.W.Frag} {mg : Str → Option Value} {base : Heap}
theorem ok_is_way (T : Tx K mg) : Df P w K mg base CX0 4 (ga "is_way" K) ["value", "count"] (sp_is_way K) := by
  obtain ⟨fd, F⟩ := T.f_is_way
  have nd := sc_is_way.nd
  refine ⟨fd, F.ok sc_is_way (fun vs H Q E h => ?_) (fun cdv A outer s H vs Q E hr h => ⟨_, pss_one (ps_ret (pe_and (pe_isB "tuple" T.b_isinstance T.b_tuple (by decide +kernel) (pv 0))
      (pe_and (pe_cmpR op_eq (pe_callB call_len_seq (by rfl) T.b_len (by decide +kernel) (pa_cons (pv 0) pa_nil)) (pv 1) (nomark _)) (pe_one (pe_callB (cr_all rfl) (by rfl) T.b_all (by decide +kernel) (pa_cons
        (pe_lc (own := [("row", 2)]) (g := gName 2) (tt := tYes) rfl nd (pi_tup (pv 0)) (blkOk_by (N := ["value", "count", "row"]) (sc := defScope s_is_way) (by decide +kernel)) (fun _ _ _ _ _ => pg_name (i := 2) nd rfl (Or.inl rfl)) (fun _ _ _ _ _ => pts_nil)
          (fun _ _ _ _ _ => pe_d (ok_is_row T) hr T.g_is_row (pa_cons (pv 2) (pa_cons (pv 1) pa_nil)))) pa_nil)))))), ?_⟩), F.kp,
    F.binds fun _ _ _ _ _ _ us hl => match us, hl with | [_, _], _ => rfl⟩
  · obtain ⟨v, os, n, rfl, _⟩ := h
    rfl
  · obtain ⟨v, rows, n, rfl, hv, hsz, q⟩ := h
    obtain ⟨a, xs, rfl, hs, hx⟩ := dp_tup hv
    have hxl := dpa_mapLen hx
    refine ⟨_, rfl, isB_of (b := true) (ty_tuple hs) (kit_ty (by decide +kernel)) ⟨_, rfl, iteT ⟨_, rfl, a, _, rfl, .inr hs, _, rfl, rfl, _, rfl, ?_⟩⟩⟩
    rw [hxl]
    by_cases hl : rows.length = n
    · rw [decide_eq_true (show V.int (rows.length : Nat) = V.int (n : Nat) by rw [hl])]
      refine iteT ⟨_, rfl, a, rfl, ⟨_, hs⟩, fun D hDn => ?_⟩
      refine lc_map (K := K) walk_tup noH (fun i => .bool (rowB (rows.getD i []) n)) (by rw [hxl]; exact hsz.1) hDn noH_in (fun _ s => sqT_same s hs) ?_ gm_name ?_
      · rintro i x H1 H2 hi s1 hD1 ⟨rfl, hx1⟩ Qy hq
        rw [hxl] at hi
        have hd1 : Dp K H2 x (rowD rows[i]) := dp_same s1 _ _ (dpa_get hx hi hx1)
        refine ⟨rfl, _, rfl, _, rfl, x, rows[i], n, rfl, hd1, hsz.2 _ (List.getElem_mem hi), fun H3 s3 => hq _ _ s3 ?_⟩
        rw [mem_getD hi]
        exact .bl _
      · intro H2 ys s2 e2 q2 _
        rw [hxl] at q2
        have e3 : ys = ((List.range rows.length).map fun i => rowB (rows.getD i []) n).map V.bl := dpa_bls (by rw [List.map_map]; exact q2)
        refine ⟨D, _, rfl, .inl (.inl (by rw [← e3]; exact e2)), ?_⟩
        have eall : ((List.range rows.length).map fun i => rowB (rows.getD i []) n).all id = rows.all (rowB · n) := by
          rw [range_getD rows [] (rowB · n), List.all_map]
          rfl
        rw [eall]
        have := q H2 s2
        unfold wayB at this
        rw [decide_eq_true hl, Bool.true_and] at this
        exact this
    · rw [decide_eq_false (show ¬ V.int (rows.length : Nat) = V.int (n : Nat) by intro e; have := V.int.inj e; omega)]
      have := q H (Same.refl H)
      unfold wayB at this
      rw [decide_eq_false hl, Bool.false_and] at this
      exact iteF this
theorem ok_wrong_way (T : Tx K mg) : Df P w K mg base CX0 5 (ga "wrong_way" K) ["ways", "count"] (sp_wrong_way K) := by
  obtain ⟨fd, F⟩ := T.f_wrong_way
  obtain ⟨t6, h6⟩ := T.i_MOST_WAYS
  have nd := sc_wrong_way.nd
  refine ⟨fd, F.ok sc_wrong_way (fun vs H Q E h => ?_) (fun cdv A outer s H vs Q E hr h => ⟨_, pss_cons (ps_if (PW.pt (pw_or (pt_not (pt_val (pe_isB "tuple" T.b_isinstance T.b_tuple (by decide +kernel) (pv 0))))
      (pw_or1 (pt_cmpR op_eq (pe_callB call_len_seq (by rfl) T.b_len (by decide +kernel) (pa_cons (pv 0) pa_nil)) pe_int (nomark _))))) (pss_one (ps_ret (pe_tup (pa_cons pe_non pa_nil)))) pss_nil)
    (pss_cons (ps_for PassesOwn.never rfl (pi_enumT (by rfl) T.b_enumerate (pa_cons (pv 0) pa_nil)) (pg_tup rfl (pgs_cons (pg_name (i := 2) nd rfl (Or.inl rfl)) (pgs_cons (pg_name (i := 3) nd rfl (Or.inl rfl)) pgs_nil)))
      (pss_one (ps_if (PW.pt (pw_or (pt_not (pt_val (pe_d (ok_is_way T) hr T.g_is_way (pa_cons (pv 3) (pa_cons (pv 1) pa_nil))))) (pw_or1 (pt_cmpR op_ge (pv 2) (pe_gi h6) (nomark _))))) (pss_one (ps_ret (pe_tup (pa_cons (pv 2) pa_nil)))) pss_nil)))
      (pss_one (ps_ret (pe_tup pa_nil)))), ?_⟩), F.kp, F.binds fun _ _ _ _ _ _ us hl => match us, hl with | [_, _], _ => rfl⟩
  · obtain ⟨v, ways, n, rfl, _⟩ := h
    rfl
  · obtain ⟨v, ways, n, rfl, hv, hn, q⟩ := h
    obtain ⟨a, xs, rfl, hs, hx⟩ := dp_tup hv
    have hxl := dpa_mapLen hx
    refine ⟨_, rfl, isB_of (b := true) (ty_tuple hs) (kit_ty (by decide +kernel)) ⟨_, rfl, iteF ⟨_, rfl, a, _, rfl, .inr hs, rfl, _, rfl, ?_⟩⟩⟩
    have one : ∀ {H1 : Hp} {p : Addr} {d : V}, Same H H1 → H1 p = none → waysB ways n = false → (d = .non ∨ ∃ i : Int, d = .int i) → Q (.ref p) (upd H1 p (.tup [d])) := fun {H1 p d} s np e hd =>
      q p [d] _ (s.trans (same_upd np)) upd_same (.inr ⟨e, hd.elim (fun z => .inl (by rw [z])) fun ⟨i, z⟩ => .inr ⟨i, by rw [z]⟩⟩)
    rw [hxl]
    by_cases h0 : ways.length = 0
    · rw [decide_eq_true (show V.int (ways.length : Nat) = V.int 0 by rw [h0]; rfl)]
      refine iteT ⟨by show 1 ≤ sizeLine; decide, fun p np => one (Same.refl H) np ?_ (.inl rfl)⟩
      rw [List.eq_nil_of_length_eq_zero h0]
      rfl
    · rw [decide_eq_false (show ¬ V.int (ways.length : Nat) = V.int 0 by intro e; have := V.int.inj e; omega)]
      refine iteF ⟨_, rfl, a, _, rfl, hs, ?_⟩
      have hne : ways ≠ [] := fun e => h0 (by rw [e]; rfl)
      refine for_it walk_enumT (fun i σ H1 => Same H H1 ∧ (∃ o1 o2, σ = [some (.ref a), some (.int n), o1, o2]) ∧ i ≤ 6 ∧ ∀ j (hj : j < ways.length), j < i → wayB ways[j] n = true) ⟨Same.refl H, ⟨_, _, rfl⟩, by decide, fun j _ hj => absurd hj (Nat.not_lt_zero j)⟩ (fun i σ H1 _ h => sqT_same h.1 hs) ?_ ?_
      · rintro i _ σ H1 _ hi ⟨s1, ⟨o1, o2, rfl⟩, hi6, hok⟩ ⟨Tp, x, y, rfl, hT, rfl, hx1, hy1⟩
        rw [hxl] at hi
        obtain rfl : x = .int (i : Nat) := (Option.some.inj hx1).symm
        have hd0 : Dp K H y (wayD ways[i]) := dpa_get hx hi hy1
        refine ⟨Tp, _, rfl, .inl (.inl upd_same), rfl, _, _, rfl, _, _, rfl, rfl, ?_⟩
        have s2 : Same H (upd H1 Tp (.tup [.int (i : Nat), y])) := s1.trans (same_upd hT)
        refine ⟨_, rfl, _, rfl, y, ways[i], n, rfl, dp_same s2 _ _ hd0, hn _ (List.getElem_mem hi), fun H3 s3 => ⟨_, rfl, ?_⟩⟩
        have s4 := s2.trans s3
        by_cases h1 : wayB ways[i] n = true
        · rw [h1]
          refine iteF ⟨_, rfl, _, _, rfl, rfl, _, rfl, ?_⟩
          by_cases h2 : i < 6
          · rw [decide_eq_false (show ¬ (6 : Int) ≤ (i : Nat) by omega)]
            refine iteF ⟨s4, ⟨_, _, rfl⟩, by omega, fun j hj hj2 => ?_⟩
            by_cases e : j = i
            · subst e
              exact h1
            · exact hok j hj (by omega)
          · rw [decide_eq_true (show (6 : Int) ≤ (i : Nat) by omega)]
            refine iteT ⟨_, rfl, by show 1 ≤ sizeLine; decide, fun p2 np2 => one s4 np2 ?_ (.inr ⟨_, rfl⟩)⟩
            unfold waysB
            rw [decide_eq_false (show ¬ ways.length ≤ 6 by omega), Bool.false_and, Bool.and_false]
        · have h1' : wayB ways[i] n = false := Bool.eq_false_iff.mpr h1
          rw [h1']
          refine iteT ⟨_, rfl, by show 1 ≤ sizeLine; decide, fun p2 np2 => one s4 np2 ?_ (.inr ⟨_, rfl⟩)⟩
          unfold waysB
          rw [show ways.all (wayB · n) = false from List.all_eq_false.mpr ⟨_, List.getElem_mem hi, by rw [h1']; exact Bool.false_ne_true⟩, Bool.and_false, Bool.and_false]
      · rintro σ H1 ⟨s1, ⟨o1, o2, rfl⟩, hi6, hok⟩
        rw [hxl] at hok hi6
        refine ⟨by show 0 ≤ sizeLine; decide, fun p np => q p [] _ (s1.trans (same_upd np)) upd_same (.inl ⟨?_, rfl⟩)⟩
        unfold waysB
        rw [decide_eq_true hi6, Bool.true_and, show ways.all (wayB · n) = true from List.all_eq_true.mpr fun r hr => by
          obtain ⟨j, hj, rfl⟩ := List.getElem_of_mem hr
          exact hok j hj hj, Bool.and_true]
        simpa using hne
end
end K5
set_option Elab.async false
set_option linter.all false
set_option maxRecDepth 100000
set_option maxHeartbeats 2000000
/-! The program's defs: read_way, read_council. -/
namespace K5
open PySem PySem.Spec PyProof.Rows L2
open TL (tl)
def sp_read_way (K : PySem.W.Frag) : Sp := fun vs H Q _ => ∃ (x : Str), vs = [.str x] ∧ x.length ≤ 100000 ∧ ∀ y H', Same H H' → Dp K (nw H H') y (wayD (wayO x)) → Q y H'
theorem sc_read_way : FnScope ["line", "part", "word"] ["line"] (defScope s_read_way) := ⟨rfl, rfl, rfl, by decide +kernel, rfl, by decide +kernel, by decide +kernel⟩
theorem split_len {x : Str} {y : Str} {s : Nat} (hy : tl y = [s]) (hs : s < 256) {n : Nat} (h : x.length ≤ n) : (Txt.split x y).length ≤ n + 1 := Nat.le_trans (split_num hy hs) (Nat.succ_le_succ h)
theorem told {H H' : Hp} (s : Same H H') : ∀ b, (H b).isSome = true → (H' b).isSome = true := (SameX.of (P := noX) s).dom
theorem strs_get {l : List Str} {j : Nat} {v : V} (h : (l.map V.str)[j]? = some v) : v = .str (l.getD j Str.empty) ∧ l.getD j Str.empty ∈ l := by
  rw [List.getElem?_map] at h
  cases e : l[j]? with
  | none =>
    rw [e] at h
    cases h
  | some x =>
    rw [e] at h
    have ex : l.getD j Str.empty = x := by
      rw [List.getD_eq_getElem?_getD, e]
      rfl
    rw [ex]
    exact ⟨(Option.some.inj h).symm, List.mem_of_getElem? e⟩
section
variable {P : Program} {w : World} {K : PySem.W.Frag} {mg : Str → Option Value} {base : Heap}
theorem ok_read_way (T : Tx K mg) : Df P w K mg base CX0 2 (ga "read_way" K) ["line"] (sp_read_way K) := by
  obtain ⟨fd, F⟩ := T.f_read_way
  have nd := sc_read_way.nd
  refine ⟨fd, F.ok sc_read_way (fun vs H Q E h => ?_) (fun cdv A outer s H vs Q E hr h => ⟨_, pss_one (ps_ret (pe_callTy call_tuple_of (by rfl) T.b_tuple (by decide +kernel) (pa_cons
        (pe_lc (own := [("part", 1)]) (g := gName 1) (tt := tYes) rfl nd (pi_list (pe_split (pv 0) pe_str)) (blkOk_by (N := ["line", "part", "word"]) (sc := defScope s_read_way) (by decide +kernel)) (fun _ _ _ _ _ => pg_name (i := 1) nd rfl (Or.inl rfl)) (fun _ _ _ _ _ => pts_nil)
          (fun _ _ _ _ _ => pe_callTy (call_tupleK K) (by rfl) T.b_tuple (by decide +kernel) (pa_cons
            (pe_lc (own := [("word", 2)]) (g := gName 2) (tt := tYes) rfl nd (pi_listK K (pe_splitK (pv 1) pe_str)) (blkOk_by (N := ["line", "part", "word"]) (sc := relS _ (defScope s_read_way)) (by decide +kernel)) (fun _ _ _ _ _ => pg_name (i := 2) nd rfl (Or.inl rfl)) (fun _ _ _ _ _ => pts_nil)
              (fun _ _ _ _ _ => pe_d (ok_read_number T) hr T.g_read_number (pa_cons (pv 2) pa_nil))) pa_nil))) pa_nil))), ?_⟩), F.kp,
    F.binds fun _ _ _ _ _ _ us hl => match us, hl with | [_], _ => rfl⟩
  · obtain ⟨x, rfl, _⟩ := h
    rfl
  · obtain ⟨x, rfl, hz, q⟩ := h
    have hsl : x.length + 2 ≤ sizeLine := by rw [sizeLine_eq]; omega
    refine rt1 (cb1 (lc_list1 (K := K) H in_self ((Txt.split x " ").map V.str) (fun j => rowD (rowO ((Txt.split x " ").getD j Str.empty))) ?_ (fun R hR => ⟨_, rfl, ⟨x, rfl⟩, x, " ", rfl, rfl, by decide, hsl, fun p hp => hR p _ (same_upd hp) (.inl (.inl upd_same))⟩) ?_ ?_))
    · rw [List.length_map, sizeLine_eq]
      have := split_len (x := x) tl_sp (by decide) hz
      omega
    · intro j v H2 hv s2 Qy hy
      obtain ⟨rfl, hm⟩ := strs_get hv
      generalize hpart : (Txt.split x " ").getD j Str.empty = part at hy hm ⊢
      have hpl := (split_part (x := x) tl_sp (by decide) hm).2
      have hp2 : part.length + 2 ≤ sizeLine := by omega
      refine cb1 (lc_list1 (K := K) H2 in_self ((Txt.split part ",").map V.str) (fun j => oD (numO ((Txt.split part ",").getD j Str.empty))) ?_ (fun R hR => ⟨_, rfl, ⟨part, rfl⟩, part, ",", rfl, rfl, by decide, hp2, fun p hp => hR p _ (same_upd hp) (.inl (.inl upd_same))⟩) ?_ ?_)
      · rw [List.length_map, sizeLine_eq]
        have := split_len (x := part) tl_co (by decide) (Nat.le_trans hpl hz)
        omega
      · intro j2 v2 H3 hv2 s3 Qy2 hy2
        obtain ⟨rfl, hm2⟩ := strs_get hv2
        have hwl := (split_part (x := part) tl_co (by decide) hm2).2
        exact ⟨_, rfl, _, rfl, by omega, fun H4 s4 => hy2 _ _ s4 (dp_oV _)⟩
      · intro D ys H3 s3 e q1 _
        refine ⟨D, ys, rfl, .inl ⟨.inl (.inl e), fun l hl => hy _ _ (s3.trans (same_upd hl)) ?_⟩⟩
        have q2 := dp_tup_new hl (told s3) q1
        rw [List.length_map, range_getD (Txt.split part ",") Str.empty fun w => oD (numO w)] at q2
        unfold rowD rowO
        rw [List.map_map]
        exact q2
    · intro D ys H2 s2 e q1 _
      refine ⟨D, ys, rfl, .inl ⟨.inl (.inl e), fun l hl => q _ _ (s2.trans (same_upd hl)) ?_⟩⟩
      have q2 := dp_tup_new hl (told s2) q1
      rw [List.length_map, range_getD (Txt.split x " ") Str.empty fun w => rowD (rowO w)] at q2
      unfold wayD wayO
      rw [List.map_map]
      exact q2
end
end K5
set_option Elab.async false
set_option linter.all false
set_option maxRecDepth 100000
set_option maxHeartbeats 2000000
/-! The program's defs: read_council. -/
namespace K5
open PySem PySem.Spec PyProof.Rows L2
open TL (tl)
/-- what the reader gives -/
def rdP (K : PySem.W.Frag) (v : V) (H : Hp) (no : Hp → Prop) (yes : Str → Hp → Prop) : Prop :=
  (∃ t, TyX K H v (.type t) ∧ PySem.W.kitOne K (.type t) (.type "str") = some false ∧ ∀ H', Same H H' → no H') ∨ (∃ x : Str, v = .str x ∧ x.length ≤ 50000 ∧ (goodB x = false → ∀ H', Same H H' → no H') ∧ (goodB x = true → yes x H))
def sp_read_council (K : PySem.W.Frag) : Sp := fun vs H Q _ => ∃ v, vs = [v] ∧ rdP K v H (fun H' => Q .non H') fun x H1 => ∀ y m w H', Same H1 H' → H' y = some (.tup [m, w]) → Dp K H' m (mindsD (mindsO x)) → Dp K H' w (waysD (waysO x)) → Q (.ref y) H'
theorem sc_read_council : FnScope ["text", "lines", "minds", "ways", "line"] ["text"] (defScope s_read_council) := ⟨rfl, rfl, rfl, by decide +kernel, rfl, by decide +kernel, by decide +kernel⟩
theorem cutV_tail (xs : List V) (h : xs ≠ []) : cutV xs (some 1) none = xs.tail := by
  unfold cutV
  have : 1 ≤ xs.length := List.length_pos_iff.mpr h
  rw [show (1 : Int) = ((1 : Nat) : Int) from rfl, HT.sIx_nat, HT.sIx_none, Nat.min_eq_left this, List.drop_one, List.take_of_length_le]
  rw [List.length_tail]
  exact Nat.le_refl _
theorem bad_eqv {ok : Bool} {ds : List V} {K : PySem.W.Frag} {H : Hp} {p : Addr} (hp : H p = some (.tup ds)) (b : badTup ok ds) : ∃ d, Dp K H (.ref p) d ∧ SeqAt.shaped d = true ∧ PyData.eqv d (.tuple []) = ok := by
  rcases b with ⟨e, rfl⟩ | ⟨e, rfl | ⟨i, rfl⟩⟩
  · exact ⟨.tuple [], .tup (.inl (.inl hp)) .nil, by decide, by rw [e]; decide⟩
  · exact ⟨.tuple [.none], .tup (.inl (.inl hp)) (.cons .non .nil), by decide, by rw [e]; decide⟩
  · exact ⟨.tuple [.int i], .tup (.inl (.inl hp)) (.cons (.int i) .nil), by simp [SeqAt.shaped, PyData.canLay0, PyData.canLayAll0, PyData.depth, PyData.depthAll], by rw [e]; simp [PyData.eqv, PyData.eqvAll]⟩
section
variable {P : Program} {w : World} {K : PySem.W.Frag} {mg : Str → Option Value} {base : Heap}
theorem ok_read_council (T : Tx K mg) : Df P w K mg base CX0 6 (ga "read_council" K) ["text"] (sp_read_council K) := by
  obtain ⟨fd, F⟩ := T.f_read_council
  have nd := sc_read_council.nd
  refine ⟨fd, F.ok sc_read_council (fun vs H Q E h => ?_) (fun cdv A outer s H vs Q E hr h => ⟨_, pss_cons (ps_if (pt_not (pt_val (pe_isB "str" T.b_isinstance T.b_str (by decide +kernel) (pv 0)))) (pss_one (ps_ret pe_non)) pss_nil)
    (pss_cons (ps_set (i := 1) nd rfl (Or.inl rfl) (pe_split (pv 0) pe_str))
      (pss_cons (ps_par (i := 2) (j := 3) (by rfl) nd rfl rfl (by decide) rfl rfl (pa_cons (pe_callTy call_tuple_of (by rfl) T.b_tuple (by decide +kernel) (pa_cons (pe_split (pe_ix ix_list (pv 1) pe_int (fun _ _ => rfl)) pe_str) pa_nil))
          (pa_cons (pe_callTy call_tuple_of (by rfl) T.b_tuple (by decide +kernel) (pa_cons
            (pe_lc (own := [("line", 4)]) (g := gName 4) (tt := tYes) rfl nd (pi_list (pe_slice sl_list (pv 1) (po_some pe_int) po_none)) (blkOk_by (N := ["text", "lines", "minds", "ways", "line"]) (sc := defScope s_read_council) (by decide +kernel)) (fun _ _ _ _ _ => pg_name (i := 4) nd rfl (Or.inl rfl)) (fun _ _ _ _ _ => pts_nil)
              (fun _ _ _ _ _ => pe_d (ok_read_way T) (hr.mono (by decide)) T.g_read_way (pa_cons (pv 4) pa_nil))) pa_nil)) pa_nil)) (by rfl))
        (pss_cons (ps_if (PW.pt (pw_or (pt_cmpR (op_neD hr.units) (pe_d (ok_wrong_mind T) (hr.mono (by decide)) T.g_wrong_mind (pa_cons (pv 2) pa_nil)) (pe_tup pa_nil) (nomark _))
            (pw_or1 (pt_cmpR (op_neD hr.units) (pe_d (ok_wrong_way T) hr T.g_wrong_way (pa_cons (pv 3) (pa_cons (pe_callB call_len_seq (by rfl) T.b_len (by decide +kernel) (pa_cons (pv 2) pa_nil)) pa_nil))) (pe_tup pa_nil) (nomark _))))) (pss_one (ps_ret pe_non)) pss_nil)
          (pss_one (ps_ret (pe_tup (pa_cons (pv 2) (pa_cons (pv 3) pa_nil)))))))), ?_⟩), F.kp,
    F.binds fun _ _ _ _ _ _ us hl => match us, hl with | [_], _ => rfl⟩
  · obtain ⟨v, rfl, _⟩ := h
    rfl
  · obtain ⟨v, rfl, ⟨t, ty, kt, q⟩ | ⟨x, rfl, hz, qn, qy⟩⟩ := h
    · exact ⟨_, rfl, isB_of ty kt ⟨_, rfl, iteT (q H (Same.refl H))⟩⟩
    · have hsl : x.length + 2 ≤ sizeLine := by rw [sizeLine_eq]; omega
      refine ⟨_, rfl, isB_of (b := true) (.base (.str x)) (kit_ty (by decide +kernel)) ⟨_, rfl, iteF ?_⟩⟩
      refine ⟨_, rfl, ⟨x, rfl⟩, x, "\n", rfl, rfl, by decide, hsl, fun pL hL => ?_⟩
      have hne := split_ne (x := x) tl_nl (by decide)
      have hpart : ∀ l ∈ Txt.split x "\n", l.length ≤ x.length := fun l hl => (split_part (x := x) tl_nl (by decide) hl).2
      have hnum := split_num (x := x) tl_nl (by decide)
      have eM : mindsO x = Txt.split ((Txt.split x "\n").headD Str.empty) " " := rfl
      have eW : waysO x = (Txt.split x "\n").tail.map wayO := rfl
      revert hne hpart hnum eM eW
      generalize Txt.split x "\n" = lines
      intro hne hpart hnum eM eW
      obtain ⟨l0, r, rfl⟩ : ∃ l0 r, lines = l0 :: r := by
        cases lines with
        | nil => exact absurd rfl hne
        | cons a b => exact ⟨a, b, rfl⟩
      have h0 : l0.length ≤ x.length := hpart l0 List.mem_cons_self
      have s1 : Same H (upd H pL (.lst ((l0 :: r).map V.str))) := same_upd hL
      generalize hH1 : upd H pL (.lst ((l0 :: r).map V.str)) = H1 at s1
      have hpL : H1 pL = some (.lst ((l0 :: r).map V.str)) := by rw [← hH1]; exact upd_same
      refine ⟨_, rfl, pL, _, 0, .str l0, rfl, rfl, .inl (.inl hpL), atI_nat (j := 0) rfl, ⟨l0, rfl⟩, l0, " ", rfl, rfl, by decide, by omega, fun pN hN => ?_⟩
      refine ⟨pN, _, rfl, .inl ⟨.inl (.inl upd_same), fun pM hM => ?_⟩⟩
      have s2 : Same H1 (upd (upd H1 pN (.lst ((Txt.split l0 " ").map V.str))) pM (.tup ((Txt.split l0 " ").map V.str))) := (same_upd hN).trans (same_upd hM)
      generalize hH2 : upd (upd H1 pN (.lst ((Txt.split l0 " ").map V.str))) pM (.tup ((Txt.split l0 " ").map V.str)) = H2 at s2
      have hpM : H2 pM = some (.tup ((mindsO x).map V.str)) := by
        rw [← hH2, eM]
        exact upd_same
      have dM : Dp K H2 (.ref pM) (mindsD (mindsO x)) := .tup (.inl (.inl hpM)) dpa_of_strs
      refine cb1 (lc_list1 (K := K) H2 in_self (r.map V.str) (fun j => wayD (wayO (r.getD j Str.empty))) ?_ (fun R hR => ⟨_, rfl, 1, rfl, pL, _, rfl, .inl (.inl (s2 _ _ hpL)), fun pT hT => hR pT _ (same_upd hT) (.inl (.inl (by rw [cutV_tail _ (by simp)]; exact upd_same)))⟩) ?_ ?_)
      · rw [List.length_map, sizeLine_eq]
        simp at hnum
        omega
      · intro j v H3 hv s3 Qy hy
        obtain ⟨rfl, hm⟩ := strs_get hv
        have := hpart _ (List.mem_cons_of_mem _ hm)
        exact ⟨_, rfl, _, rfl, by omega, fun y H4 s4 q4 => hy _ _ s4 q4⟩
      · intro D ys H3 s3 e q1 _
        refine ⟨D, ys, rfl, .inl ⟨.inl (.inl e), fun pW hW => ?_⟩⟩
        have q2 := dp_same nw_sub _ _ (dp_tup_new hW (told s3) q1)
        rw [List.length_map, range_getD r Str.empty fun w => wayD (wayO w)] at q2
        have s4 : Same H2 (upd H3 pW (.tup ys)) := s3.trans (same_upd hW)
        generalize upd H3 pW (.tup ys) = H4 at q2 s4
        have dW : Dp K H4 (.ref pW) (waysD (waysO x)) := by
          rw [eW]
          unfold waysD
          rw [List.map_map]
          exact q2
        have dM4 := dp_same s4 _ _ dM
        refine ⟨_, _, rfl, ?_⟩
        have sHH4 : Same H H4 := (s1.trans s2).trans s4
        have nml : ∀ n ∈ mindsO x, n.length ≤ 100000 := fun n hn => by
          rw [eM] at hn
          have := (split_part (x := l0) tl_sp (by decide) hn).2
          omega
        have szr : ∀ w ∈ waysO x, szW w := fun w hw => by
          rw [eW] at hw
          obtain ⟨l, hl, rfl⟩ := List.mem_map.mp hw
          have h1 := hpart l (List.mem_cons_of_mem _ hl)
          refine ⟨?_, fun rw hrw => ?_⟩
          · unfold wayO
            rw [List.length_map, sizeLine_eq]
            have := split_num (x := l) tl_sp (by decide)
            omega
          · unfold wayO at hrw
            obtain ⟨p, hp, rfl⟩ := List.mem_map.mp hrw
            have h2 := (split_part (x := l) tl_sp (by decide) hp).2
            unfold rowO
            rw [List.length_map, sizeLine_eq]
            have := split_num (x := p) tl_co (by decide)
            omega
        have hg : goodB x = (mindsB (mindsO x) && waysB (waysO x) (mindsO x).length) := rfl
        refine ⟨_, rfl, _, mindsO x, rfl, dM4, nml, fun p ds H5 s5 e5 b5 => ⟨by show 0 ≤ sizeLine; decide, fun pe hpe => ?_⟩⟩
        obtain ⟨d, hd, sd, ed⟩ := bad_eqv (K := K) e5 b5
        refine ⟨d, .tuple [], dp_same (same_upd hpe) _ _ hd, .tup (.inl (.inl upd_same)) .nil, sd, by decide, _, rfl, ?_⟩
        rw [ed]
        have s6 : Same H4 (upd H5 pe (.tup [])) := s5.trans (same_upd hpe)
        generalize upd H5 pe (.tup []) = H6 at s6
        by_cases h1 : mindsB (mindsO x) = true
        · rw [h1]
          refine iteF ?_
          refine ⟨_, rfl, _, rfl, pM, _, rfl, .inr (.inl (.inl ((s4.trans s6) _ _ hpM))), _, waysO x, _, rfl, dp_same s6 _ _ dW, szr, fun p7 ds7 H7 s7 e7 b7 => ⟨by show 0 ≤ sizeLine; decide, fun pe7 hpe7 => ?_⟩⟩
          obtain ⟨d7, hd7, sd7, ed7⟩ := bad_eqv (K := K) e7 b7
          refine ⟨d7, .tuple [], dp_same (same_upd hpe7) _ _ hd7, .tup (.inl (.inl upd_same)) .nil, sd7, by decide, _, rfl, ?_⟩
          rw [ed7, List.length_map]
          have s8 : Same H4 (upd H7 pe7 (.tup [])) := s6.trans (s7.trans (same_upd hpe7))
          generalize upd H7 pe7 (.tup []) = H8 at s8
          by_cases h2 : waysB (waysO x) (mindsO x).length = true
          · rw [h2]
            refine iteF ⟨_, rfl, _, rfl, by show 2 ≤ sizeLine; decide, fun y hy => ?_⟩
            have s9 : Same H4 (upd H8 y (.tup [.ref pM, .ref pW])) := s8.trans (same_upd hy)
            exact qy (by rw [hg, h1, h2]; rfl) y _ _ _ (sHH4.trans s9) upd_same (dp_same s9 _ _ dM4) (dp_same s9 _ _ dW)
          · have h2' : waysB (waysO x) (mindsO x).length = false := Bool.eq_false_iff.mpr h2
            rw [h2']
            exact iteT (qn (by rw [hg, h2', Bool.and_false]) _ (sHH4.trans s8))
        · have h1' : mindsB (mindsO x) = false := Bool.eq_false_iff.mpr h1
          rw [h1']
          exact iteT (qn (by rw [hg, h1', Bool.false_and]) _ (sHH4.trans s6))
end
end K5
set_option Elab.async false
set_option linter.all false
set_option maxRecDepth 100000
set_option maxHeartbeats 2000000
/-! The program's defs: way_text, lines_of. -/
namespace K5
open PySem PySem.Spec PyProof.Rows L2
open TL (tl)
def numT (o : Option Nat) : Str := Str.ofString (toString (((o.getD 0 : Nat)) : Int))
theorem rowT_eq (os : List (Option Nat)) : rowT os = Txt.join "," (os.map numT) := rfl
def sp_way_text (K : PySem.W.Frag) : Sp := fun vs H Q _ => ∃ (v : V) (rows : List (List (Option Nat))) (n : Nat), vs = [v] ∧ Dp K H v (wayD rows) ∧ n ≤ 6 ∧ wayB rows n = true ∧ ∀ H', Same H H' → Q (.str (wayT rows)) H'
def sp_lines_of (K : PySem.W.Frag) : Sp := fun vs H Q _ => ∃ (v v2 : V) (names : List Str) (ways : List (List (List (Option Nat)))), vs = [v, v2] ∧ Dp K H v (mindsD names) ∧ Dp K H v2 (waysD ways) ∧ mindsB names = true ∧ waysB ways names.length = true ∧
  ∀ p H', Same H H' → H' p = some (.lst ((Txt.join " " names :: ways.map wayT).map V.str)) → Q (.ref p) H'
theorem sc_way_text : FnScope ["way", "rows", "row", "weight"] ["way"] (defScope s_way_text) := ⟨rfl, rfl, rfl, by decide +kernel, rfl, by decide +kernel, by decide +kernel⟩
theorem sc_lines_of : FnScope ["minds", "ways", "way"] ["minds", "ways"] (defScope s_lines_of) := ⟨rfl, rfl, rfl, by decide +kernel, rfl, by decide +kernel, by decide +kernel⟩
section
variable {P : Program} {w : World} {K : PySem.W.Frag} {mg : Str → Option Value} {base : Heap}
theorem ok_way_text (T : Tx K mg) : Df P w K mg base CX0 1 (ga "way_text" K) ["way"] (sp_way_text K) := by
  obtain ⟨fd, F⟩ := T.f_way_text
  have nd := sc_way_text.nd
  refine ⟨fd, F.ok sc_way_text (fun vs H Q E h => ?_) (fun cdv A outer s H vs Q E hr h => ⟨_, pss_cons (ps_set (i := 1) nd rfl (Or.inl rfl) (pe_lst pa_nil))
    (pss_cons (ps_for PassesOwn.never rfl (pi_tup (pv 0)) (pg_name (i := 2) nd rfl (Or.inl rfl))
      (pss_one (ps_set (i := 1) nd rfl (Or.inl rfl) (pe_op op_cat (pv 1) (pe_lst (pa_cons (pe_joinK K pe_str
        (pe_lc (own := [("weight", 3)]) (g := gName 3) (tt := tYes) rfl nd (pi_tupK K (pv 2)) (blkOk_by (N := ["way", "rows", "row", "weight"]) (sc := defScope s_way_text) (by decide +kernel)) (fun _ _ _ _ _ => pg_name (i := 3) nd rfl (Or.inl rfl)) (fun _ _ _ _ _ => pts_nil)
              (fun _ _ _ _ _ => pe_callTy call_str_int (by rfl) T.b_str (by decide +kernel) (pa_cons (pv 3) pa_nil)))) pa_nil))))))
      (pss_one (ps_ret (pe_joinK K pe_str (pv 1))))), ?_⟩), F.kp,
    F.binds fun _ _ _ _ _ _ us hl => match us, hl with | [_], _ => rfl⟩
  · obtain ⟨v, rows, n, rfl, _⟩ := h
    rfl
  · obtain ⟨v, rows, n, rfl, hv, hn, hw, q⟩ := h
    obtain ⟨a, xs, rfl, hs, hx⟩ := dp_tup hv
    have hxl := dpa_mapLen hx
    obtain ⟨hl1, hl2, hl3⟩ := way_len hn hw
    have hrow : ∀ r ∈ rows, rowB r n = true := by
      unfold wayB at hw
      simp only [Bool.and_eq_true, decide_eq_true_eq, List.all_eq_true] at hw
      exact hw.2
    refine ⟨by show 0 ≤ sizeLine; decide, fun l0 hl0 => ?_⟩
    refine ⟨_, rfl, a, rfl, ⟨_, sqT_same (same_upd hl0) hs⟩, ?_⟩
    refine for_it walk_tup (fun i σ H1 => Same H H1 ∧ ∃ l o2 o3, σ = [some (.ref a), some (.ref l), o2, o3] ∧ H1 l = some (.lst (((rows.take i).map rowT).map V.str))) ⟨same_upd hl0, l0, _, _, rfl, upd_same⟩ (fun i σ H1 _ h => sqT_same h.1 hs) ?_ ?_
    · rintro i x σ _ H1 hi ⟨s1, l, o2, o3, rfl, hl⟩ ⟨rfl, hx1⟩
      rw [hxl] at hi
      have hd : Dp K H1 x (rowD rows[i]) := dp_same s1 _ _ (dpa_get hx hi hx1)
      obtain ⟨b, zs, rfl, hb, hz⟩ := dp_tup hd
      obtain rfl := dpa_opts hz
      have hri := hrow _ (List.getElem_mem hi)
      obtain ⟨ht1, ht2, ht3⟩ := row_len hn hri
      have hin : ∀ o ∈ rows[i], inB o = true := by
        unfold rowB at hri
        simp only [Bool.and_eq_true, decide_eq_true_eq, List.all_eq_true] at hri
        exact hri.2.1
      refine ⟨_, rfl, ⟨",", rfl⟩, ?_⟩
      refine lc_tup1 (K := K) H1 in_self (rows[i].map oV) (fun j => .str (numT (rows[i].getD j none))) (by rw [List.length_map, sizeLine_eq]; omega) (fun R hR => ⟨_, rfl, hR b H1 (Same.refl H1) hb⟩) ?_ ?_
      · intro j v H2 hv s2 Qy hy
        have hj : j < rows[i].length := by
          have := (List.getElem?_eq_some_iff.mp hv).1
          simpa using this
        have ev : v = oV rows[i][j] := by
          rw [List.getElem?_map, List.getElem?_eq_getElem hj] at hv
          exact (Option.some.inj hv).symm
        have hi2 := hin _ (List.getElem_mem hj)
        rw [mem_getD hj] at hy
        revert ev hi2 hy
        cases rows[i][j] with
        | none => intro _ _ h; cases h
        | some m =>
          rintro hy rfl hm
          have hm2 : m ≤ 1000000000 := by simpa [inB] using hm
          refine ⟨_, rfl, (m : Int), rfl, ?_, hy _ _ (Same.refl _) (.str _)⟩
          rw [Int.natAbs_natCast]
          exact log_of (Nat.lt_of_le_of_lt hm2 (by decide))
      · intro D ys H2 s2 e q1 _
        rw [List.length_map, range_getD rows[i] none fun o => PyData.str (numT o)] at q1
        have e2 : ys = (rows[i].map numT).map V.str := dpa_strs (by rw [List.map_map]; exact q1)
        refine ⟨",", D, rows[i].map numT, rfl, rfl, .inl (.inl (.inl (by rw [← e2]; exact e))), ?_, by show 1 ≤ sizeLine; decide, fun p hp => ?_⟩
        · have := (join_len "," 10 6 (rows[i].map numT) (by rw [List.length_map]; exact ht2) ht1).1
          have e3 : ("," : Str).length = 1 := by decide
          omega
        · have s3 : Same H1 (upd H2 p (.lst [.str (Txt.join "," (rows[i].map numT))])) := s2.trans (same_upd hp)
          refine ⟨l, p, _, _, rfl, rfl, s3 _ _ hl, upd_same, ?_, fun p2 hp2 => ⟨(s1.trans s3).trans (same_upd hp2), p2, _, _, rfl, ?_⟩⟩
          · rw [List.length_map, List.length_map, List.length_take, sizeLine_eq]
            show _ + 1 ≤ _
            omega
          · rw [upd_same, List.take_add_one, List.getElem?_eq_getElem hi, List.map_append, List.map_append]
            rfl
    · rintro σ H1 ⟨s1, l, o2, o3, rfl, hl⟩
      rw [hxl, List.take_length] at hl
      refine ⟨⟨" ", rfl⟩, _, rfl, " ", l, rows.map rowT, rfl, rfl, .inl (.inl (.inl hl)), ?_, q H1 s1⟩
      have := (join_len " " 66 6 (rows.map rowT) (by rw [List.length_map]; exact hl2) hl1).1
      have e3 : (" " : Str).length = 1 := by decide
      omega
theorem ok_lines_of (T : Tx K mg) : Df P w K mg base CX0 2 (ga "lines_of" K) ["minds", "ways"] (sp_lines_of K) := by
  obtain ⟨fd, F⟩ := T.f_lines_of
  have nd := sc_lines_of.nd
  refine ⟨fd, F.ok sc_lines_of (fun vs H Q E h => ?_) (fun cdv A outer s H vs Q E hr h => ⟨_, pss_one (ps_ret (pe_op op_cat (pe_lst (pa_cons (pe_joinK K pe_str (pv 0)) pa_nil))
        (pe_lc (own := [("way", 2)]) (g := gName 2) (tt := tYes) rfl nd (pi_tupK K (pv 1)) (blkOk_by (N := ["minds", "ways", "way"]) (sc := defScope s_lines_of) (by decide +kernel)) (fun _ _ _ _ _ => pg_name (i := 2) nd rfl (Or.inl rfl)) (fun _ _ _ _ _ => pts_nil)
              (fun _ _ _ _ _ => pe_d (ok_way_text T) hr T.g_way_text (pa_cons (pv 2) pa_nil))))), ?_⟩), F.kp,
    F.binds fun _ _ _ _ _ _ us hl => match us, hl with | [_, _], _ => rfl⟩
  · obtain ⟨v, v2, names, ways, rfl, _⟩ := h
    rfl
  · obtain ⟨v, v2, names, ways, rfl, hv, hv2, hb, hb2, q⟩ := h
    obtain ⟨a, xs, rfl, hs, hx⟩ := dp_tup hv
    obtain ⟨a2, xs2, rfl, hs2, hx2⟩ := dp_tup hv2
    obtain rfl := dpa_strs hx
    have hxl := dpa_mapLen hx2
    obtain ⟨m1, m2, m3⟩ := minds_len hb
    have hb3 := hb2
    unfold waysB at hb3
    simp only [Bool.and_eq_true, decide_eq_true_eq, List.all_eq_true] at hb3
    refine ⟨⟨" ", rfl⟩, _, rfl, " ", a, names, rfl, rfl, .inr hs, ?_, by show 1 ≤ sizeLine; decide, fun p hp => ?_⟩
    · have := (join_len " " 8 6 names m2 m1).1
      have e3 : (" " : Str).length = 1 := by decide
      omega
    have s1 : Same H (upd H p (.lst [.str (Txt.join " " names)])) := same_upd hp
    have hpl : upd H p (.lst [.str (Txt.join " " names)]) p = some (.lst [.str (Txt.join " " names)]) := upd_same
    generalize upd H p (.lst [.str (Txt.join " " names)]) = H1 at s1 hpl
    refine lc_tup1 (K := K) H1 in_self xs2 (fun j => .str (wayT (ways.getD j []))) (by rw [hxl, sizeLine_eq]; omega) (fun R hR => ⟨_, rfl, hR a2 H1 (Same.refl H1) (sqT_same s1 hs2)⟩) ?_ ?_
    · intro j v H2 hv s2 Qy hy
      have hj : j < ways.length := by
        have := (List.getElem?_eq_some_iff.mp hv).1
        omega
      rw [mem_getD hj] at hy
      exact ⟨_, rfl, v, ways[j], names.length, rfl, dp_same (s1.trans s2) _ _ (dpa_get hx2 hj hv), m2, hb3.2.2 _ (List.getElem_mem hj), fun H3 s3 => hy _ _ s3 (.str _)⟩
    · intro D ys H2 s2 e q1 _
      rw [hxl, range_getD ways [] fun r => PyData.str (wayT r)] at q1
      have e2 : ys = (ways.map wayT).map V.str := dpa_strs (by rw [List.map_map]; exact q1)
      refine ⟨p, D, _, _, rfl, rfl, s2 _ _ hpl, e, ?_, fun p2 hp2 => q p2 _ ((s1.trans s2).trans (same_upd hp2)) ?_⟩
      · rw [e2, List.length_map, List.length_map, sizeLine_eq]
        show 1 + _ ≤ _
        omega
      · rw [upd_same, e2]
        rfl
end
end K5
set_option Elab.async false
set_option linter.all false
set_option maxRecDepth 100000
set_option maxHeartbeats 2000000
/-! The program's class Council, and InvalidText's __init__. -/
namespace K5
open PySem PySem.Spec PyProof.Rows L2
open TL (tl)
/-! data lies off what is no list and no tuple -/
structure NoData (o : HO) : Prop where
  l : ∀ xs, o ≠ .lst xs
  t : ∀ xs, o ≠ .tup xs
  f : ∀ q u, o ≠ .frz q u
theorem rd_off {H : Hp} {a b : Addr} {o u : HO} (ha : H a = some o) (n : o ≠ u) (nf : ∀ q, o ≠ .frz q u) (h : Rd H b u) : Rd (del H a) b u := by
  rcases h with h | ⟨q, h⟩
  · exact .inl ((del_ne (fun z => n (Option.some.inj (ha.symm.trans (by rw [← z]; exact h))))).trans h)
  · exact .inr ⟨q, (del_ne (fun z => nf q (Option.some.inj (ha.symm.trans (by rw [← z]; exact h))))).trans h⟩
mutual
theorem dp_off {K : PySem.W.Frag} {H : Hp} {a : Addr} {o : HO} (ha : H a = some o) (n : NoData o) : ∀ (d : PyData) (v : V), Dp K H v d → Dp K (del H a) v d
  | .none, _, .non => .non
  | .bool _, _, .bl b => .bl b
  | .int _, _, .int i => .int i
  | .str _, _, .str x => .str x
  | .list ds, _, .lst s t => .lst (s.elim (fun z => .inl (rd_off ha (n.l _) (fun q => n.f q _) z)) .inr) (dp_offAll ha n ds _ t)
  | .tuple ds, _, .tup s t => .tup (s.elim (fun z => .inl (rd_off ha (n.t _) (fun q => n.f q _) z)) .inr) (dp_offAll ha n ds _ t)
  | .dict _, _, h => nomatch h
theorem dp_offAll {K : PySem.W.Frag} {H : Hp} {a : Addr} {o : HO} (ha : H a = some o) (n : NoData o) : ∀ (ds : List PyData) (vs : List V), DpAll K H vs ds → DpAll K (del H a) vs ds
  | [], _, .nil => .nil
  | d :: ds, _, .cons h t => .cons (dp_off ha n d _ h) (dp_offAll ha n ds _ t)
end
theorem ins_noData {C dx : Addr} {fs : List (Str × V)} : NoData (.ins C dx fs) := ⟨(fun _ z => by cases z), (fun _ z => by cases z), (fun _ _ z => by cases z)⟩
theorem del_upd {H : Hp} {a : Addr} {o : HO} : Same (del H a) (upd H a o) := fun b u e => by
  obtain ⟨n, e⟩ := del_at e
  exact (upd_ne n).trans e
def sp_text_init (K : PySem.W.Frag) : Sp := fun vs H Q _ => ∃ (a : Addr) (v : V), vs = [.ref a, v] ∧ H a = some (exo a (IT K) none) ∧ ∀ dx, H dx = none → dx ≠ a → Q .non (upd (upd H dx (exd dx [("given", v)])) a (exo a (IT K) (some dx)))
theorem sc_text_init : FnScope ["self", "given"] ["self", "given"] (defScope s_text_init) := ⟨rfl, rfl, rfl, by decide +kernel, rfl, by decide +kernel, by decide +kernel⟩
abbrev cfs (m w : V) : List (Str × V) := [("heads", m), ("tables", w)]
def sp_c_init (K : PySem.W.Frag) : Sp := fun vs H Q _ => ∃ (a dx : Addr) (m w : V) (x : Str), vs = [.ref a, m, w] ∧ H a = some (.ins (CO K) dx []) ∧ goodB x = true ∧ x.length ≤ 50000 ∧ Dp K H m (mindsD (mindsO x)) ∧ Dp K H w (waysD (waysO x)) ∧
  ∀ H', SameX (· = a) H H' → H' a = some (.ins (CO K) dx (cfs m w)) → Dp K H' m (mindsD (mindsO x)) → Dp K H' w (waysD (waysO x)) → Q .non H'
theorem sc_c_init : FnScope ["self", "minds", "ways", "wrong"] ["self", "minds", "ways"] (defScope s_c_init) := ⟨rfl, rfl, rfl, by decide +kernel, rfl, by decide +kernel, by decide +kernel⟩
def sp_c_read (K : PySem.W.Frag) : Sp := fun vs H Q E => ∃ v, vs = [.ref (CO K), v] ∧ rdP K v H (fun H' => ∀ di H2, H' di = none → Same H' H2 → H2 di = some (.xd [("given", v)]) → E (.ref (IT K)) (some di) H2)
  fun x H1 => ∀ o dx m w H', Same H1 H' → H' o = some (.ins (CO K) dx (cfs m w)) → Dp K H' m (mindsD (mindsO x)) → Dp K H' w (waysD (waysO x)) → Q (.ref o) H'
theorem sc_c_read : FnScope ["cls", "text", "found"] ["cls", "text"] (defScope s_c_read) := ⟨rfl, rfl, rfl, by decide +kernel, rfl, by decide +kernel, by decide +kernel⟩
theorem sc_c_minds : FnScope ["self"] ["self"] (defScope s_c_minds) := ⟨rfl, rfl, rfl, by decide +kernel, rfl, by decide +kernel, by decide +kernel⟩
theorem sc_c_ways : FnScope ["self"] ["self"] (defScope s_c_ways) := ⟨rfl, rfl, rfl, by decide +kernel, rfl, by decide +kernel, by decide +kernel⟩
def sp_c_str (K : PySem.W.Frag) : Sp := fun vs H Q _ => ∃ (a dx : Addr) (m w : V) (x : Str), vs = [.ref a] ∧ H a = some (.ins (CO K) dx (cfs m w)) ∧ goodB x = true ∧ Dp K H m (mindsD (mindsO x)) ∧ Dp K H w (waysD (waysO x)) ∧ ∀ H', Same H H' → Q (.str x) H'
theorem sc_c_str : FnScope ["self", "lines"] ["self"] (defScope s_c_str) := ⟨rfl, rfl, rfl, by decide +kernel, rfl, by decide +kernel, by decide +kernel⟩
/-- a def's body, an error leaving it with its context None -/
theorem okN {P : Program} {w : World} {K : PySem.W.Frag} {mg : Str → Option Value} {base : Heap} {x qual : Str} {st : Stmt} {f : Addr} {fd : FuncData} {N ps : List Str} {k : Nat} {sp : Sp} (F : L2.Fun K x qual st f fd) (S : FnScope N ps (defScope st)) (len : ∀ vs H Q E, sp vs H Q E → vs.length = ps.length)
    (hbody : ∀ (cdv : Value) (A : Around) (outer : List Env) (s : Shared) (H : Hp) (vs : List V) (Q : VK) (E : XK), Room k (A.deeper (envOfC qual (defScope st) s.heap.objs.size f cdv)) → sp vs H Q E →
      ∃ t, PSs (cxOf (L2N.CX P w) P w K mg base N qual (defScope st) f cdv A outer s H E) (defBody st) t ∧ t { nx := fun _ H' => Q .non H', rt := Q } (start N vs) H) : FnOk P w K mg base (L2N.CX P w) (k + 1) f fd ps sp := by
  obtain ⟨oc, od, kV, doc, pm, an, cdv, ct, osl, rfl, lk, hcd⟩ := F.ex
  exact fn_of lk hcd S len fun A outer s H vs Q E hr hsp => hbody cdv A outer s H vs Q E hr hsp
section
variable {P : Program} {w : World} {K : PySem.W.Frag} {mg : Str → Option Value} {base : Heap}
theorem ok_text_init (T : Tx K mg) : Df P w K mg base CX0 1 (K5H.xInit K) ["self", "given"] (sp_text_init K) := by
  obtain ⟨fd, F⟩ := T.f_InvalidText___init__
  refine ⟨fd, F.ok sc_text_init (fun vs H Q E h => ?_) (fun cdv A outer s H vs Q E hr h => ⟨_, pss_one (ps_ost (pv 0) (pv 1)), ?_⟩), F.kp, F.binds fun _ _ _ _ _ _ us hl => match us, hl with | [_, _], _ => rfl⟩
  · obtain ⟨a, v, rfl, _⟩ := h
    rfl
  · obtain ⟨a, v, rfl, ha, q⟩ := h
    exact ⟨_, rfl, _, rfl, a, IT K, rfl, T.my.oex, T.my.given, .inl ⟨ha, fun dx hdx hne => q dx hdx hne⟩⟩
theorem good_parts {x : Str} (h : goodB x = true) : mindsB (mindsO x) = true ∧ waysB (waysO x) (mindsO x).length = true := by
  unfold goodB at h
  exact Bool.and_eq_true_iff.mp h
theorem szw_good {x : Str} (h : goodB x = true) : ∀ r ∈ waysO x, szW r := fun r hr => by
  obtain ⟨h1, h2⟩ := good_parts h
  obtain ⟨_, m6, _⟩ := minds_len h1
  unfold waysB at h2
  simp only [Bool.and_eq_true, decide_eq_true_eq, List.all_eq_true] at h2
  have h3 := h2.2.2 r hr
  obtain ⟨_, h5, _⟩ := way_len m6 h3
  unfold wayB at h3
  simp only [Bool.and_eq_true, decide_eq_true_eq, List.all_eq_true] at h3
  refine ⟨by rw [sizeLine_eq]; omega, fun q hq => ?_⟩
  obtain ⟨_, h6, _⟩ := row_len m6 (h3.2 q hq)
  rw [sizeLine_eq]
  omega
theorem ok_c_init (T : Tx K mg) : Df P w K mg base CX0 6 (K5H.cMeth "__init__" K) ["self", "minds", "ways"] (sp_c_init K) := by
  obtain ⟨fd, F⟩ := T.f_Council___init__
  have nd := sc_c_init.nd
  refine ⟨fd, F.ok sc_c_init (fun vs H Q E h => ?_) (fun cdv A outer s H vs Q E hr h => ⟨_, pss_cons (ps_set (i := 3) nd rfl (Or.inl rfl) (pe_d (ok_wrong_mind T) (hr.mono (by decide)) T.g_wrong_mind (pa_cons (pv 1) pa_nil)))
    (pss_cons (ps_if (pt_cmpR (op_neD hr.units) (pv 3) (pe_tup pa_nil) (nomark _)) pss_never pss_nil)
      (pss_cons (ps_set (i := 3) nd rfl (Or.inl rfl) (pe_d (ok_wrong_way T) hr T.g_wrong_way (pa_cons (pv 2) (pa_cons (pe_callB call_len_seq (by rfl) T.b_len (by decide +kernel) (pa_cons (pv 1) pa_nil)) pa_nil))))
        (pss_cons (ps_if (pt_cmpR (op_neD hr.units) (pv 3) (pe_tup pa_nil) (nomark _)) pss_never pss_nil)
          (pss_cons (ps_fld (pv 0) (pv 1) rfl) (pss_one (ps_fld (pv 0) (pv 2) rfl)))))), ?_⟩), F.kp, F.binds fun _ _ _ _ _ _ us hl => match us, hl with | [_, _, _], _ => rfl⟩
  · obtain ⟨a, dx, m, w, x, rfl, _⟩ := h
    rfl
  · obtain ⟨a, dx, m, w, x, rfl, ha, hg, hz, hm, hw, q⟩ := h
    obtain ⟨h1, h2⟩ := good_parts hg
    obtain ⟨m1, m2, m3⟩ := minds_len h1
    obtain ⟨pm, xs, rfl, hs, hx⟩ := dp_tup hm
    obtain rfl := dpa_strs hx
    refine ⟨_, rfl, _, mindsO x, rfl, hm, fun n hn => by have := m1 n hn; omega, fun p ds H1 s1 e1 b1 => ?_⟩
    refine ⟨_, rfl, by show 0 ≤ sizeLine; decide, fun pe hpe => ?_⟩
    obtain ⟨d, hd, sd, ed⟩ := bad_eqv (K := K) e1 b1
    refine ⟨d, .tuple [], dp_same (same_upd hpe) _ _ hd, .tup (.inl (.inl upd_same)) .nil, sd, by decide, _, rfl, ?_⟩
    rw [ed, h1]
    refine iteF ?_
    have s2 : Same H (upd H1 pe (.tup [])) := s1.trans (same_upd hpe)
    generalize upd H1 pe (.tup []) = H2 at s2
    refine ⟨_, rfl, _, rfl, pm, _, rfl, .inr (sqT_same s2 hs), _, waysO x, _, rfl, dp_same s2 _ _ hw, szw_good hg, fun p3 ds3 H3 s3 e3 b3 => ?_⟩
    refine ⟨_, rfl, by show 0 ≤ sizeLine; decide, fun pe3 hpe3 => ?_⟩
    obtain ⟨d3, hd3, sd3, ed3⟩ := bad_eqv (K := K) e3 b3
    refine ⟨d3, .tuple [], dp_same (same_upd hpe3) _ _ hd3, .tup (.inl (.inl upd_same)) .nil, sd3, by decide, _, rfl, ?_⟩
    rw [ed3, List.length_map, h2]
    refine iteF ?_
    have s4 : Same H (upd H3 pe3 (.tup [])) := s2.trans (s3.trans (same_upd hpe3))
    generalize upd H3 pe3 (.tup []) = H4 at s4
    have ha4 := s4 _ _ ha
    refine ⟨_, rfl, _, rfl, a, CO K, dx, [], rfl, ha4, T.c_Council, T.n_Council_heads, (show 0 < 1000 by decide), ?_⟩
    refine ⟨_, rfl, _, rfl, a, CO K, dx, _, rfl, upd_same, T.c_Council, T.n_Council_tables, (show 1 < 1000 by decide), ?_⟩
    rw [upd_upd]
    have dm : ∀ o', Dp K (upd H4 a o') (.ref pm) (mindsD (mindsO x)) := fun o' => dp_same del_upd _ _ (dp_off ha4 ins_noData _ _ (dp_same s4 _ _ hm))
    have dw : ∀ o', Dp K (upd H4 a o') w (waysD (waysO x)) := fun o' => dp_same del_upd _ _ (dp_off ha4 ins_noData _ _ (dp_same s4 _ _ hw))
    exact q _ ((SameX.of s4).trans (samex_set rfl)) upd_same (dm _) (dw _)
theorem ok_c_str (T : Tx K mg) : Df P w K mg base CX0 3 (K5H.cMeth "__str__" K) ["self"] (sp_c_str K) := by
  obtain ⟨fd, F⟩ := T.f_Council___str__
  have nd := sc_c_str.nd
  refine ⟨fd, F.ok sc_c_str (fun vs H Q E h => ?_) (fun cdv A outer s H vs Q E hr h => ⟨_, pss_cons (ps_set (i := 1) nd rfl (Or.inl rfl) (pe_d (ok_lines_of T) hr T.g_lines_of (pa_cons (pe_fld (pv 0) rfl) (pa_cons (pe_fld (pv 0) rfl) pa_nil))))
    (pss_one (ps_ret (pe_joinK K pe_str (pv 1)))), ?_⟩), F.kp, F.binds fun _ _ _ _ _ _ us hl => match us, hl with | [_], _ => rfl⟩
  · obtain ⟨a, dx, m, w, x, rfl, _⟩ := h
    rfl
  · obtain ⟨a, dx, m, w, x, rfl, ha, hg, hm, hw, q⟩ := h
    obtain ⟨h1, h2⟩ := good_parts hg
    refine ⟨_, rfl, a, CO K, dx, _, _, rfl, ha, T.c_Council, T.n_Council_heads, rfl, ?_⟩
    refine ⟨_, rfl, a, CO K, dx, _, _, rfl, ha, T.c_Council, T.n_Council_tables, rfl, ?_⟩
    refine ⟨m, w, mindsO x, waysO x, rfl, hm, hw, h1, h2, fun p H1 s1 e1 => ?_⟩
    obtain ⟨l1, l2⟩ := page_len h1 h2
    refine ⟨⟨"\n", rfl⟩, _, rfl, "\n", p, _, rfl, rfl, .inl (.inl (.inl e1)), ?_, ?_⟩
    · have := (join_len "\n" 402 7 _ l2 l1).1
      have e3 : ("\n" : Str).length = 1 := by decide
      omega
    · have := page_back hg
      unfold pageT at this
      rw [this]
      exact q H1 s1
theorem ok_c_minds (T : Tx K mg) : Df P w K mg base CX0 1 (K5H.cProp "minds" K) ["self"] (getSp (CO K) "heads") := by
  obtain ⟨fd, F⟩ := T.f_Council_minds
  refine ⟨fd, F.ok sc_c_minds (fun vs H Q E h => ?_) (fun cdv A outer s H vs Q E hr h => ⟨_, pss_one (ps_ret (pe_fld (pv 0) rfl)), ?_⟩), F.kp, F.binds fun _ _ _ _ _ _ us hl => match us, hl with | [_], _ => rfl⟩
  · obtain ⟨a, dx, fs, v, rfl, _⟩ := h
    rfl
  · obtain ⟨a, dx, fs, v, rfl, ha, hl, q⟩ := h
    exact ⟨_, rfl, a, CO K, dx, fs, v, rfl, ha, T.c_Council, T.n_Council_heads, hl, q⟩
theorem ok_c_ways (T : Tx K mg) : Df P w K mg base CX0 1 (K5H.cProp "ways" K) ["self"] (getSp (CO K) "tables") := by
  obtain ⟨fd, F⟩ := T.f_Council_ways
  refine ⟨fd, F.ok sc_c_ways (fun vs H Q E h => ?_) (fun cdv A outer s H vs Q E hr h => ⟨_, pss_one (ps_ret (pe_fld (pv 0) rfl)), ?_⟩), F.kp, F.binds fun _ _ _ _ _ _ us hl => match us, hl with | [_], _ => rfl⟩
  · obtain ⟨a, dx, fs, v, rfl, _⟩ := h
    rfl
  · obtain ⟨a, dx, fs, v, rfl, ha, hl, q⟩ := h
    exact ⟨_, rfl, a, CO K, dx, fs, v, rfl, ha, T.c_Council, T.n_Council_tables, hl, q⟩
theorem ok_c_readF (T : Tx K mg) : ∃ fd, L2.Fun K "read" "Council.read" s_c_read (K5H.cRead K) fd ∧ FnOk P w K mg base (L2N.CX P w) 8 (K5H.cRead K) fd ["cls", "text"] (sp_c_read K) := by
  obtain ⟨fd, F⟩ := T.f_Council_read
  obtain ⟨fdI, FI, kpI, bI⟩ := (ok_text_init (P := P) (w := w) (base := base) T).ex
  obtain ⟨fdC, FC, kpC, bC⟩ := (ok_c_init (P := P) (w := w) (base := base) T).ex
  have M := T.my
  have nd := sc_c_read.nd
  refine ⟨fd, F, okN F sc_c_read (fun vs H Q E h => ?_) (fun cdv A outer s H vs Q E hr h => ⟨_, pss_cons (ps_set (i := 2) nd rfl (Or.inl rfl) (pe_d (ok_read_council T) (hr.mono (by decide)) T.g_read_council (pa_cons (pv 1) pa_nil)))
    (pss_cons (ps_if (pt_cmpR op_isN (pv 2) pe_non (nomark _)) (pss_one (L2N.ps_raise rfl (L2N.takes_of rfl rfl rfl rfl) (pmk_new (CX := CX0) (k := 1) M.oex M.init M.initT FI (hr.mono (by decide)) bI (by rfl) T.g_InvalidText (pa_cons (pv 1) pa_nil)))) pss_nil)
      (pss_one (ps_ret (pe_makeL (i := 0) T.m_Council FC hr rfl (Or.inl rfl) bC pass0 (pa_cons (pe_ix ix_tup (pv 2) pe_int (fun _ _ => rfl)) (pa_cons (pe_ix ix_tup (pv 2) pe_int (fun _ _ => rfl)) pa_nil)))))), ?_⟩)⟩
  · obtain ⟨v, rfl, _⟩ := h
    rfl
  · obtain ⟨v, rfl, h⟩ := h
    have bad : ∀ H1, (∀ di H2, H1 di = none → Same H1 H2 → H2 di = some (.xd [("given", v)]) → E (.ref (IT K)) (some di) H2) →
        tMkO (IT K) (sp_text_init K) [] (tCons (tVar 1) tNil) [some (.ref (CO K)), some v, some .non] H1 fun cls d H' => E cls d H' := fun H1 q =>
      ⟨_, rfl, (show 1 ≤ 1000 by decide), fun a ha => ⟨a, v, rfl, upd_same, fun dx hdx hne => by
        have hdx1 : H1 dx = none := (upd_ne hne).symm.trans hdx
        refine ⟨rfl, dx, _, upd_same, (upd_ne hne).trans upd_same, hdx1, q dx _ hdx1 (fun b o e => ?_) upd_same⟩
        have nb : b ≠ a := ne_of_none e ha
        have nd : b ≠ dx := ne_of_none e hdx1
        rw [upd_ne nd, del_ne nb, upd_ne nb, upd_ne nd, upd_ne nb]
        exact e⟩⟩
    refine ⟨_, rfl, v, rfl, ?_⟩
    rcases h with ⟨t, ty, kt, q⟩ | ⟨x, rfl, hz, qn, qy⟩
    · exact .inl ⟨t, ty, kt, fun H1 s1 => ⟨_, rfl, rfl, _, rfl, iteT (bad H1 (q H1 s1))⟩⟩
    · refine .inr ⟨x, rfl, hz, fun hg H1 s1 => ⟨_, rfl, rfl, _, rfl, iteT (bad H1 (qn hg H1 s1))⟩, fun hg y m wv H1 s1 hy hm hw => ?_⟩
      have q := qy hg
      refine ⟨_, rfl, rfl, _, rfl, iteF ⟨rfl, _, rfl, y, _, 0, m, rfl, rfl, .inl (.inl hy), atI_nat (j := 0) rfl, _, rfl, y, _, 1, wv, rfl, rfl, .inl (.inl hy), atI_nat (j := 1) rfl, fun o dx ho hdx hne => ?_⟩⟩
      have s2 : Same H1 (upd (upd H1 dx (.own o)) o (.ins (CO K) dx [])) := fun b u e => by
        rw [upd_ne (ne_of_none e ho), upd_ne (ne_of_none e hdx)]
        exact e
      refine ⟨o, dx, m, wv, x, rfl, upd_same, hg, hz, dp_same s2 _ _ hm, dp_same s2 _ _ hw, fun H3 s3 ho3 hm3 hw3 => ⟨rfl, q o dx m wv H3 (fun b u e => ?_) ho3 hm3 hw3⟩⟩
      have nb : b ≠ o := ne_of_none (s1 _ _ e) ho
      exact s3.to b u nb (s2 _ _ (s1 _ _ e))
end
end K5
set_option Elab.async false
set_option linter.all false
set_option maxRecDepth 100000
set_option maxHeartbeats 2000000
/-! The law's defs: _law_figure, _law_is_label. -/
namespace K5
open PySem PySem.Spec PyProof.Rows L2
open TL (tl)
def okS (x : Str) : Prop := ∀ c ∈ tl x, c < 128
theorem shaped_strs {l : List Str} (h : ∀ x ∈ l, okS x) : SeqAt.shaped (.list (l.map .str)) = true := by
  have h1 : PyData.canLayAll0 (l.map .str) = true := by
    rw [PyProof.Rows.canLayAll_strs', List.all_eq_true]
    intro x hx
    unfold PyData.strOk
    rw [Array.all_eq_true']
    intro c hc
    have := h x hx c (by simpa using hc)
    exact decide_eq_true (by omega)
  have h2 : PyData.depthAll (l.map .str) = 0 := by
    clear h h1
    induction l with
    | nil => simp [PyData.depthAll]
    | cons x l ih => simp [PyData.depthAll, PyData.depth, ih]
  simp [SeqAt.shaped, PyData.canLay0, PyData.depth, h1, h2]
theorem shaped_nil : SeqAt.shaped (.list []) = true := by decide
theorem eqv_nil (ds : List PyData) : PyData.eqv (.list ds) (.list []) = ds.isEmpty := by
  cases ds with
  | nil => simp [PyData.eqv, PyData.eqvAll]
  | cons d r => simp [PyData.eqv, PyData.eqvAll]
theorem filt_empty (l : List Nat) (p : Nat → Bool) : (l.filter p).isEmpty = l.all (fun c => !p c) := by
  induction l with
  | nil => rfl
  | cons c r ih =>
    rw [List.filter_cons, List.all_cons, ← ih]
    cases p c <;> rfl
theorem sign_ok {c : Nat} (h : c < 128) : okS ⟨#[c]⟩ := fun d hd => by
  have : d = c := by simpa [tl] using hd
  omega
def figD : Option Nat → PyData
  | none => .list []
  | some n => .list [.int n]
def sp_figure (K : PySem.W.Frag) : Sp := fun vs H Q _ => ∃ x : Str, vs = [.str x] ∧ x.length ≤ 50000 ∧ okS x ∧ ∀ y H', Same H H' → Dp K (nw H H') y (figD (numO x)) → Q y H'
theorem sc_figure : FnScope ["_law_term", "_law_sign"] ["_law_term"] (defScope s_law_figure) := ⟨rfl, rfl, rfl, by decide +kernel, rfl, by decide +kernel, by decide +kernel⟩
def sp_label : Sp := fun vs H Q _ => ∃ x : Str, vs = [.str x] ∧ x.length ≤ 50000 ∧ okS x ∧ ∀ H', Same H H' → Q (.bl (nameB x)) H'
theorem sc_label : FnScope ["_law_thing", "_law_sign"] ["_law_thing"] (defScope s_law_is_label) := ⟨rfl, rfl, rfl, by decide +kernel, rfl, by decide +kernel, by decide +kernel⟩
theorem dp_new_lst {K : PySem.W.Frag} {H : Hp} {p : Addr} {xs : List V} {ds : List PyData} (hp : H p = none) (h : DpAll K (nw H H) xs ds) : Dp K (nw H (upd H p (.lst xs))) (.ref p) (.list ds) := dp_lst_new hp in_self h
theorem lt_one (a b : Nat) : decide (([a] : List Nat) < [b]) = decide (a < b) := by
  apply decide_eq_decide.mpr
  constructor
  · intro h
    cases h with
    | rel h => exact h
    | cons h => cases h
  · intro h
    exact .rel h
section
variable {P : Program} {w : World} {K : PySem.W.Frag} {mg : Str → Option Value} {base : Heap}
theorem ok_figure (T : Tx K mg) : Df P w K mg base CX0 1 (ga "_law_figure" K) ["_law_term"] (sp_figure K) := by
  obtain ⟨fd, F⟩ := T.f__law_figure
  have nd := sc_figure.nd
  refine ⟨fd, F.ok sc_figure (fun vs H Q E h => ?_) (fun cdv A outer s H vs Q E hr h => ⟨_, pss_cons (ps_if (PW.pt (pw_or (pt_cmpR op_eq (pv 0) pe_str (nomark _)) (pw_or (pt_cmpR op_gt (pe_callB call_len_str (by rfl) T.b_len (by decide +kernel) (pa_cons (pv 0) pa_nil)) pe_int (nomark _))
      (pw_or1 (pt_cmpR (op_neD hr.units) (pe_lc (own := [("_law_sign", 1)]) (g := gName 1) rfl nd (pi_str (pv 0)) (blkOk_by (N := ["_law_term", "_law_sign"]) (sc := defScope s_law_figure) (by decide +kernel)) (fun _ _ _ _ _ => pg_name (i := 1) nd rfl (Or.inl rfl))
        (fun _ _ _ _ _ => pts_one (pt_cmpR op_notIn_sign (pv 1) pe_str rfl)) (fun _ _ _ _ _ => pv 1)) (pe_lst pa_nil) (nomark _)))))) (pss_one (ps_ret (pe_lst pa_nil))) pss_nil)
    (pss_one (ps_ret (pe_ifExp (PW.pt (pw_and (pt_cmpR op_eq (pe_ix ix_str (pv 0) pe_int (fun _ _ => rfl)) pe_str (nomark _)) (pw_and1 (pt_cmpR op_ne (pv 0) pe_str (nomark _))))) (pe_lst pa_nil)
      (pe_lst (pa_cons (pe_callTy call_int_str (by rfl) T.b_int (by decide +kernel) (pa_cons (pv 0) pa_nil)) pa_nil))))), ?_⟩), F.kp,
    F.binds fun _ _ _ _ _ _ us hl => match us, hl with | [_], _ => rfl⟩
  · obtain ⟨x, rfl, _⟩ := h
    rfl
  · obtain ⟨x, rfl, hz, hok, q⟩ := h
    have hsl : x.length ≤ sizeLine := by rw [sizeLine_eq]; omega
    have hlen : (tl x).length = x.length := (TL.len_tl x).symm
    have no : numO x = none → ∀ H1, Same H H1 → (0 ≤ sizeLine ∧ ∀ p, H1 p = none → Q (.ref p) (upd H1 p (.lst []))) := fun e H1 s => ⟨Nat.zero_le _, fun p hp => by
      have := q (.ref p) (upd H1 p (.lst [])) (s.trans (same_upd hp))
      rw [e] at this
      exact this (dp_lst_new hp (told s) .nil)⟩
    have hnu : numO x = if (tl x).isEmpty = false ∧ (tl x).length ≤ 80 ∧ (tl x).all dg = true ∧ noLead (tl x) = true then some (dv (tl x)) else none := rfl
    refine ⟨_, rfl, rfl, _, rfl, ?_⟩
    by_cases h1 : x = ("" : Str)
    · rw [decide_eq_true (show V.str x = V.str "" by rw [h1])]
      exact iteT (no (by rw [h1]; decide) H (Same.refl H))
    · rw [decide_eq_false (show ¬ V.str x = V.str "" by intro e; exact h1 (V.str.inj e))]
      have hne : tl x ≠ [] := fun e => h1 (TL.ext_tl (by rw [e]; decide))
      have hne' : (tl x).isEmpty = false := by simpa using hne
      refine iteF ⟨_, rfl, x, rfl, hsl, _, _, rfl, rfl, _, rfl, ?_⟩
      by_cases h2 : x.length ≤ 80
      · rw [decide_eq_false (show ¬ (80 : Int) < (x.length : Nat) by omega)]
        refine iteF (tt1 (op1 (lc_signs (K := K) x (fun c => !dg c) hsl (fun R hR => ⟨_, rfl, hR⟩) (fun c H2 hc R hR => ⟨_, rfl, c, _, rfl, rfl, _, rfl, ?_⟩) (fun c H2 R hR => ⟨_, rfl, hR⟩) (fun D H2 s2 e => ⟨Nat.zero_le _, fun pn hpn => ?_⟩))))
        · rw [dg_in]
          exact hR
        · have s3 : Same H (upd H2 pn (.lst [])) := s2.trans (same_upd hpn)
          refine ⟨.list (((x.cps.toList.filter fun c => !dg c).map fun c => (⟨#[c]⟩ : Str)).map .str), .list [], ?_, .lst (.inl (.inl upd_same)) .nil, shaped_strs (fun z hz => ?_), shaped_nil, _, rfl, ?_⟩
          · refine .lst (.inl (.inl (same_upd hpn _ _ e))) ?_
            rw [show ((x.cps.toList.filter fun c => !dg c).map fun c => V.str ⟨#[c]⟩) = ((x.cps.toList.filter fun c => !dg c).map fun c => (⟨#[c]⟩ : Str)).map V.str from by rw [List.map_map]; rfl]
            exact dpa_of_strs
          · obtain ⟨c, hc, rfl⟩ := List.mem_map.mp hz
            exact sign_ok (hok c (List.mem_filter.mp hc).1)
          · rw [eqv_nil, List.isEmpty_map, List.isEmpty_map, filt_empty]
            have eall : (x.cps.toList.all fun c => !!dg c) = (tl x).all dg := by simp [tl]
            rw [eall]
            by_cases h3 : (tl x).all dg = true
            · rw [h3]
              obtain ⟨c, r, hc⟩ : ∃ c r, tl x = c :: r := by
                cases e : tl x with
                | nil => exact absurd e hne
                | cons c r => exact ⟨c, r, rfl⟩
              refine iteF ⟨_, rfl, x, 0, c, rfl, rfl, hsl, atI_nat (j := 0) (by rw [show x.cps.toList = c :: r from hc]; rfl), rfl, _, rfl, ?_⟩
              have yes : noLead (tl x) = true → ∃ v, (L2.start ["_law_term", "_law_sign"] [V.str x])[0]? = some (some v) ∧ ∃ a n, [v] = [V.str a] ∧ intText? a = some n ∧ a.length ≤ 640 ∧ 1 ≤ sizeLine ∧ ∀ p, upd H2 pn (.lst []) p = none → Q (.ref p) (upd (upd H2 pn (.lst [])) p (.lst [.int n])) := fun h4 => by
                refine ⟨_, rfl, x, _, rfl, int_word hne' (by omega) h3, by omega, by decide, fun p hp => ?_⟩
                have := q (.ref p) (upd (upd H2 pn (.lst [])) p (.lst [.int ((dv (tl x) : Nat) : Int)])) (s3.trans (same_upd hp))
                rw [hnu, if_pos ⟨hne', by omega, h3, h4⟩] at this
                exact this (dp_lst_new hp (told s3) (.cons (.int _) .nil))
              have no2 : noLead (tl x) = false → _ := fun h4 => no (by rw [hnu, if_neg (fun z => by rw [h4] at z; exact Bool.false_ne_true z.2.2.2)]) _ s3
              by_cases h5 : c = 48
              · rw [decide_eq_true (show V.str ⟨#[c]⟩ = V.str "0" by rw [h5]; decide)]
                refine iteT ⟨_, rfl, rfl, _, rfl, ?_⟩
                by_cases h6 : x = ("0" : Str)
                · rw [decide_eq_true (show V.str x = V.str "0" by rw [h6])]
                  refine iteF (yes ?_)
                  rw [h6]
                  decide
                · rw [decide_eq_false (show ¬ V.str x = V.str "0" by intro e; exact h6 (V.str.inj e))]
                  refine iteT (no2 ?_)
                  have : ¬ tl x = [48] := fun e => h6 (TL.ext_tl (by rw [e]; decide))
                  unfold noLead
                  rw [decide_eq_false this, hc, h5]
                  rfl
              · rw [decide_eq_false (show ¬ V.str ⟨#[c]⟩ = V.str "0" by
                  intro e
                  have e2 := congrArg tl (V.str.inj e)
                  rw [show tl ("0" : Str) = [48] by decide] at e2
                  have : [c] = [48] := e2
                  exact h5 (by injection this))]
                refine iteF (yes ?_)
                unfold noLead
                rw [hc]
                simp [h5]
            · have h3' : (tl x).all dg = false := Bool.eq_false_iff.mpr h3
              rw [h3']
              exact iteT (no (by rw [hnu, if_neg (fun z => h3 z.2.2.1)]) _ s3)
      · rw [decide_eq_true (show (80 : Int) < (x.length : Nat) by omega)]
        exact iteT (no (by rw [hnu, if_neg (fun z => by have := z.2.1; omega)]) H (Same.refl H))
end
end K5
set_option Elab.async false
set_option linter.all false
set_option maxRecDepth 100000
set_option maxHeartbeats 2000000
/-! The law's defs: _law_is_label, _law_seen. -/
namespace K5
open PySem PySem.Spec PyProof.Rows L2
open TL (tl)
section
variable {P : Program} {w : World} {K : PySem.W.Frag} {mg : Str → Option Value} {base : Heap}
theorem ok_label (T : Tx K mg) : Df P w K mg base CX0 1 (ga "_law_is_label" K) ["_law_thing"] sp_label := by
  obtain ⟨fd, F⟩ := T.f__law_is_label
  have nd := sc_label.nd
  refine ⟨fd, F.ok sc_label (fun vs H Q E h => ?_) (fun cdv A outer s H vs Q E hr h => ⟨_, pss_cons (ps_if (PW.pt (pw_or (pt_not (pt_chain op_lt op_lt pe_int (pe_callB call_len_str (by rfl) T.b_len (by decide +kernel) (pa_cons (pv 0) pa_nil)) pe_int))
      (pw_or1 (pt_not (pt_chain op_le_str op_le_str pe_str (pe_ix ix_str (pv 0) pe_int (fun _ _ => rfl)) pe_str))))) (pss_one (ps_ret pe_bl)) pss_nil)
    (pss_one (ps_ret (pe_cmpR (op_eqD hr.units) (pe_lc (own := [("_law_sign", 1)]) (g := gName 1) rfl nd (pi_str (pv 0)) (blkOk_by (N := ["_law_thing", "_law_sign"]) (sc := defScope s_law_is_label) (by decide +kernel)) (fun _ _ _ _ _ => pg_name (i := 1) nd rfl (Or.inl rfl))
        (fun _ _ _ _ _ => pts_one (pt_cmpR op_notIn_sign (pv 1) pe_str rfl)) (fun _ _ _ _ _ => pv 1)) (pe_lst pa_nil) (nomark _)))), ?_⟩), F.kp,
    F.binds fun _ _ _ _ _ _ us hl => match us, hl with | [_], _ => rfl⟩
  · obtain ⟨x, rfl, _⟩ := h
    rfl
  · obtain ⟨x, rfl, hz, hok, q⟩ := h
    have hsl : x.length ≤ sizeLine := by rw [sizeLine_eq]; omega
    have hlen : (tl x).length = x.length := (TL.len_tl x).symm
    have no : nameB x = false → Q (.bl false) H := fun e => by
      have := q H (Same.refl H)
      rwa [e] at this
    refine ⟨_, rfl, x, rfl, hsl, _, _, rfl, rfl, _, rfl, ?_⟩
    by_cases h1 : 0 < x.length
    · rw [decide_eq_true (show (0 : Int) < (x.length : Nat) by omega)]
      refine iteT ⟨_, _, rfl, rfl, _, rfl, ?_⟩
      by_cases h2 : x.length ≤ 8
      · rw [decide_eq_true (show ((x.length : Nat) : Int) < 9 by omega)]
        refine iteF ?_
        obtain ⟨c, r, hc⟩ : ∃ c r, tl x = c :: r := by
          cases e : tl x with
          | nil => rw [e] at hlen; simp at hlen; omega
          | cons c r => exact ⟨c, r, rfl⟩
        have hn : nameB x = (lo c && (tl x).all fun c => lo c || dg c) := by
          unfold nameB
          rw [hc]
          show (lo c && (decide ((c :: r).length ≤ 8) && _)) = _
          rw [decide_eq_true (by rw [← hc, hlen]; exact h2)]
          rfl
        refine ⟨_, rfl, x, 0, c, rfl, rfl, hsl, atI_nat (j := 0) (by rw [show x.cps.toList = c :: r from hc]; rfl), _, _, rfl, rfl, _, rfl, ?_⟩
        rw [show ("a" : Str).cps.toList = [97] from by decide, show ((⟨#[c]⟩ : Str)).cps.toList = [c] from rfl, lt_one]
        by_cases h3 : c < 97
        · rw [decide_eq_true h3]
          refine iteF ⟨_, rfl, iteT (no ?_)⟩
          rw [hn, show lo c = false from decide_eq_false (by omega), Bool.false_and]
        · rw [decide_eq_false h3]
          refine iteT ⟨_, _, rfl, rfl, _, rfl, ?_⟩
          rw [show ("z" : Str).cps.toList = [122] from by decide, show ((⟨#[c]⟩ : Str)).cps.toList = [c] from rfl, lt_one]
          by_cases h4 : 122 < c
          · rw [decide_eq_true h4]
            refine iteT (no ?_)
            rw [hn, show lo c = false from decide_eq_false (by omega), Bool.false_and]
          · rw [decide_eq_false h4]
            refine iteF (nx1 ?_)
            dsimp only
            refine rt1 (op1 (lc_signs (K := K) x (fun c => !(lo c || dg c)) hsl (fun R hR => ⟨_, rfl, hR⟩) (fun c H2 hc R hR => ⟨_, rfl, c, _, rfl, rfl, _, rfl, ?_⟩) (fun c H2 R hR => ⟨_, rfl, hR⟩) (fun D H2 s2 e => ⟨Nat.zero_le _, fun pn hpn => ?_⟩)))
            · rw [ld_in]
              exact hR
            · have s3 : Same H (upd H2 pn (.lst [])) := s2.trans (same_upd hpn)
              refine ⟨.list (((x.cps.toList.filter fun c => !(lo c || dg c)).map fun c => (⟨#[c]⟩ : Str)).map .str), .list [], ?_, .lst (.inl (.inl upd_same)) .nil, shaped_strs (fun z hz => ?_), shaped_nil, ?_⟩
              · refine .lst (.inl (.inl (same_upd hpn _ _ e))) ?_
                rw [show ((x.cps.toList.filter fun c => !(lo c || dg c)).map fun c => V.str ⟨#[c]⟩) = ((x.cps.toList.filter fun c => !(lo c || dg c)).map fun c => (⟨#[c]⟩ : Str)).map V.str from by rw [List.map_map]; rfl]
                exact dpa_of_strs
              · obtain ⟨c, hc, rfl⟩ := List.mem_map.mp hz
                exact sign_ok (hok c (List.mem_filter.mp hc).1)
              · rw [eqv_nil, List.isEmpty_map, List.isEmpty_map, filt_empty]
                have eall : (x.cps.toList.all fun c => !!(lo c || dg c)) = nameB x := by
                  rw [hn, show lo c = true from decide_eq_true (by omega), Bool.true_and]
                  simp [tl]
                rw [eall]
                exact q _ s3
      · rw [decide_eq_false (show ¬ ((x.length : Nat) : Int) < 9 by omega)]
        refine iteT (no ?_)
        unfold nameB
        rw [decide_eq_false (show ¬ (tl x).length ≤ 8 by omega)]
        simp
    · rw [decide_eq_false (show ¬ (0 : Int) < (x.length : Nat) by omega)]
      refine iteF ⟨_, rfl, iteT (no ?_)⟩
      have : tl x = [] := List.eq_nil_of_length_eq_zero (by omega)
      unfold nameB
      rw [this]
      rfl
end
def seenD (p : Str) (n : Nat) : PyData := if rowB (rowO p) n = true then .list [rowD (rowO p)] else .list []
def sp_seen (K : PySem.W.Frag) : Sp := fun vs H Q _ => ∃ (p : Str) (n : Nat), vs = [.str p, .int n] ∧ p.length ≤ 50000 ∧ okS p ∧ ∀ y H', Same H H' → Dp K (nw H H') y (seenD p n) → Q y H'
theorem sc_seen : FnScope ["_law_row_here_here", "_law_size", "_law_found", "_law_row_here", "_law_term", "_law_each"] ["_law_row_here_here", "_law_size"] (defScope s_law_seen) := ⟨rfl, rfl, rfl, by decide +kernel, rfl, by decide +kernel, by decide +kernel⟩
theorem okS_sub {x y : Str} (h : okS x) (s : ∀ c ∈ tl y, c ∈ tl x) : okS y := fun c hc => h c (s c hc)
theorem figs_shaped (os : List (Option Nat)) : SeqAt.shaped (.list (os.map figD)) = true := by
  have h : PyData.canLayAll0 (os.map figD) = true ∧ PyData.depthAll (os.map figD) ≤ 1 := by
    induction os with
    | nil => simp [PyData.canLayAll0, PyData.depthAll]
    | cons o r ih =>
      cases o <;> simp [PyData.canLayAll0, PyData.depthAll, PyData.canLay0, PyData.depth, figD, ih.1] <;> (have := ih.2; omega)
  simp [SeqAt.shaped, PyData.canLay0, PyData.depth, h.1]
  omega
theorem figs_any (os : List (Option Nat)) : ((os.map figD).any fun z => PyData.eqv z (.list [])) = !(os.all (·.isSome)) := by
  induction os with
  | nil => rfl
  | cons o r ih =>
    rw [List.map_cons, List.any_cons, ih, List.all_cons]
    cases o <;> simp [figD, PyData.eqv, PyData.eqvAll]
theorem some_ints : ∀ {os : List (Option Nat)}, os.all (·.isSome) = true → os.map oV = (os.map fun o => ((o.getD 0 : Nat) : Int)).map V.int ∧ (os.map fun o => ((o.getD 0 : Nat) : Int)).sum = ((sumO os : Nat) : Int)
  | [], _ => ⟨rfl, rfl⟩
  | none :: os, h => by simp at h
  | some n :: os, h => by
    rw [List.all_cons, Bool.and_eq_true] at h
    obtain ⟨h1, h2⟩ := some_ints h.2
    refine ⟨by rw [List.map_cons, h1]; rfl, ?_⟩
    unfold sumO at h2 ⊢
    rw [List.map_cons, List.sum_cons, h2, List.map_cons, List.sum_cons]
    simp
section
variable {P : Program} {w : World} {K : PySem.W.Frag} {mg : Str → Option Value} {base : Heap}
theorem ok_seen (T : Tx K mg) : Df P w K mg base CX0 2 (ga "_law_seen" K) ["_law_row_here_here", "_law_size"] (sp_seen K) := by
  obtain ⟨fd, F⟩ := T.f__law_seen
  have nd := sc_seen.nd
  refine ⟨fd, F.ok sc_seen (fun vs H Q E h => ?_) (fun cdv A outer s H vs Q E hr h => ⟨_, pss_cons (ps_setLc (i := 2) (own := [("_law_term", 4)]) (g := gName 4) (tt := tYes) rfl nd rfl rfl (sw_true rfl rfl rfl (by decide +kernel)) (pi_list (pe_splitK (pv 0) pe_str))
        (blkOk_by (N := ["_law_row_here_here", "_law_size", "_law_found", "_law_row_here", "_law_term", "_law_each"]) (sc := defScope s_law_seen) (by decide +kernel)) (fun _ _ _ _ _ => pg_name (i := 4) nd rfl (Or.inl rfl)) (fun _ _ _ _ _ => pts_nil)
        (fun _ _ _ _ _ => pe_d (ok_figure T) hr T.g__law_figure (pa_cons (pv 4) pa_nil)))
    (pss_cons (ps_if (PW.pt (pw_or (pt_cmpR (op_inD (room65 hr)) (pe_lst pa_nil) (pv 2) rfl) (pw_or1 (pt_cmpR op_ne (pe_callB call_len_seq (by rfl) T.b_len (by decide +kernel) (pa_cons (pv 2) pa_nil)) (pv 1) (nomark _))))) (pss_one (ps_ret (pe_lst pa_nil))) pss_nil)
    (pss_cons (ps_set (i := 3) nd rfl (Or.inl rfl) (pe_callTy call_tuple_of (by rfl) T.b_tuple (by decide +kernel) (pa_cons (pe_lc (own := [("_law_each", 5)]) (g := gName 5) (tt := tYes) rfl nd (pi_list (pv 2))
        (blkOk_by (N := ["_law_row_here_here", "_law_size", "_law_found", "_law_row_here", "_law_term", "_law_each"]) (sc := defScope s_law_seen) (by decide +kernel)) (fun _ _ _ _ _ => pg_name (i := 5) nd rfl (Or.inl rfl)) (fun _ _ _ _ _ => pts_nil)
        (fun _ _ _ _ _ => pe_ix (ix_listK K) (pv 5) pe_int (fun _ _ => rfl))) pa_nil)))
    (pss_one (ps_ret (pe_ifExp (PW.pt (pw_and (pt_cmpR op_lt pe_int (pe_callB (cr_sumT rfl) (by rfl) T.b_sum (by decide +kernel) (pa_cons (pv 3) pa_nil)) (nomark _))
      (pw_and1 (pt_cmpR op_le (pe_callB (cr_maxT rfl (room8 hr)) (by rfl) T.b_max (by decide +kernel) (pa_cons (pv 3) pa_nil)) (pe_op op_pow pe_int pe_int) (nomark _)))))
      (pe_lst (pa_cons (pv 3) pa_nil)) (pe_lst pa_nil)))))), ?_⟩), F.kp,
    F.binds fun _ _ _ _ _ _ us hl => match us, hl with | [_, _], _ => rfl⟩
  · obtain ⟨x, n, rfl, _⟩ := h
    rfl
  · obtain ⟨p, n, rfl, hz, hok, q⟩ := h
    have hlen : p.length + 2 ≤ sizeLine := by rw [sizeLine_eq]; omega
    have hnum := split_len (x := p) tl_co (by decide) hz
    have hq : ∀ (b : Bool) H1, rowB (rowO p) n = b → Same H H1 → b = false → (0 ≤ sizeLine ∧ ∀ pn, H1 pn = none → Q (.ref pn) (upd H1 pn (.lst []))) := fun b H1 e s eb => ⟨Nat.zero_le _, fun pn hpn => by
      have := q (.ref pn) (upd H1 pn (.lst [])) (s.trans (same_upd hpn))
      unfold seenD at this
      rw [e, eb, if_neg Bool.false_ne_true] at this
      exact this (dp_lst_new hpn (told s) .nil)⟩
    refine sq1 (asg1 (lc_list1 (K := K) H in_self ((Txt.split p ",").map V.str) (fun j => figD (numO ((Txt.split p ",").getD j Str.empty))) ?_ (fun R hR => ⟨_, rfl, ⟨p, rfl⟩, p, ",", rfl, rfl, by decide, hlen, fun pl hpl => hR pl _ (same_upd hpl) (.inl (.inl upd_same))⟩) ?_ ?_))
    · rw [List.length_map, sizeLine_eq]
      omega
    · intro j v H2 hv s2 Qy hy
      obtain ⟨rfl, hm⟩ := strs_get hv
      have hp := split_part (x := p) tl_co (by decide) hm
      exact ⟨_, rfl, _, rfl, by omega, okS_sub hok hp.1, fun y H3 s3 q3 => hy y H3 s3 q3⟩
    · intro D ys H2 s2 e q1 q2
      rw [List.length_map, range_getD (Txt.split p ",") Str.empty fun w => figD (numO w)] at q1 q2
      have eo : (Txt.split p ",").map (fun w => figD (numO w)) = (rowO p).map figD := by
        unfold rowO
        rw [List.map_map]
        rfl
      rw [eo] at q1 q2
      have hrl : (rowO p).length ≤ 50001 := by
        unfold rowO
        rw [List.length_map]
        exact hnum
      have d2 := dp_same nw_sub _ _ q2
      have hyl := dpa_mapLen q1
      have hrb : rowB (rowO p) n = (decide ((rowO p).length = n) && ((rowO p).all inB && decide (0 < sumO (rowO p)))) := rfl
      have hq2 : rowB (rowO p) n = true → ∀ y H', Same H H' → Dp K (nw H H') y (.list [rowD (rowO p)]) → Q y H' := fun e y H' s d => q y H' s (by
        unfold seenD
        rw [if_pos e]
        exact d)
      generalize rowO p = os at *
      refine ⟨by show 0 ≤ sizeLine; decide, fun pe hpe => ⟨_, rfl, .list [], _, .lst (.inl (.inl upd_same)) .nil, dp_same (same_upd hpe) _ _ d2, shaped_nil, figs_shaped os, _, rfl, ?_⟩⟩
      rw [figs_any]
      have s3 : Same H (upd H2 pe (.lst [])) := s2.trans (same_upd hpe)
      have e3 : upd H2 pe (.lst []) D = some (.lst ys) := same_upd hpe _ _ e
      have q3 : DpAll K (upd H2 pe (.lst [])) ys (os.map figD) := dp_sameAll (same_upd hpe) _ _ (dp_sameAll nw_sub _ _ q1)
      generalize upd H2 pe (.lst []) = H3 at s3 e3 q3
      by_cases hs : os.all (·.isSome) = true
      · rw [hs]
        refine iteF ⟨_, rfl, D, ys, rfl, .inl (.inl (.inl e3)), _, rfl, rfl, _, rfl, ?_⟩
        rw [hyl]
        by_cases hl : os.length = n
        · rw [decide_eq_true (show V.int (os.length : Nat) = V.int (n : Nat) by rw [hl])]
          refine iteF (nx1 ?_)
          dsimp only
          obtain ⟨ei, esum⟩ := some_ints hs
          refine sq1 (asg1 (cb1 (lc_list1 (K := K) H3 in_self ys (fun j => oD (os.getD j none)) (by rw [hyl, sizeLine_eq]; omega) (fun R hR => ⟨_, rfl, hR D H3 (Same.refl H3) (.inl (.inl e3))⟩) ?_ ?_)))
          · intro j v H4 hv s4 Qy hy
            have hj : j < os.length := by
              have := (List.getElem?_eq_some_iff.mp hv).1
              omega
            have hd : Dp K H4 v (figD os[j]) := dp_same s4 _ _ (dpa_get q3 hj hv)
            have hso := List.all_eq_true.mp hs _ (List.getElem_mem hj)
            rw [mem_getD hj] at hy
            revert hd hso hy
            cases os[j] with
            | none => intro _ _ h; cases h
            | some m =>
              intro hy hd _
              obtain ⟨a, xs, rfl, hsq, hx⟩ := dp_lst hd
              have hx2 : xs = ([((m : Nat) : Int)] : List Int).map .int := dpa_ints hx
              subst hx2
              exact ⟨_, rfl, a, _, 0, .int m, rfl, rfl, hsq, atI_nat (j := 0) rfl, hy _ _ (Same.refl _) (.int _)⟩
          · intro D2 ys2 H4 s4 e4 q4 _
            rw [hyl, range_getD os none oD] at q4
            have ey2 : ys2 = os.map oV := dpa_opts q4
            refine ⟨D2, ys2, rfl, .inl ⟨.inl (.inl e4), fun pt hpt => ?_⟩⟩
            have dpt := dp_tup_new hpt (told (s3.trans s4)) (dp_sameAll (nw_up (told s3)) _ _ q4)
            have s5 : Same H (upd H4 pt (.tup ys2)) := (s3.trans s4).trans (same_upd hpt)
            have e5 : SqT K (upd H4 pt (.tup ys2)) pt ((os.map fun o => ((o.getD 0 : Nat) : Int)).map V.int) := by
              rw [← ei, ← ey2]
              exact .inl (.inl upd_same)
            generalize upd H4 pt (.tup ys2) = H5 at dpt s5 e5
            refine ⟨_, rfl, pt, _, rfl, e5, _, _, rfl, rfl, _, rfl, ?_⟩
            rw [esum]
            by_cases h6 : 0 < sumO os
            · rw [decide_eq_true (show (0 : Int) < ((sumO os : Nat) : Int) by omega)]
              have hne : 0 < os.length := by
                rcases Nat.eq_zero_or_pos os.length with z | z
                · rw [List.eq_nil_of_length_eq_zero z] at h6
                  exact absurd h6 (by decide)
                · exact z
              refine iteT ⟨_, rfl, pt, _, rfl, e5, by rw [List.length_map]; exact hne, fun mx hm1 hm2 => ⟨_, _, rfl, rfl, ⟨by decide, by decide, by decide⟩, _, _, rfl, rfl, _, rfl, ?_⟩⟩
              have hin : os.all inB = decide (mx ≤ 1000000000) := by
                rw [Bool.eq_iff_iff, decide_eq_true_eq, List.all_eq_true]
                constructor
                · intro ha
                  obtain ⟨o, ho, rfl⟩ := List.mem_map.mp hm1
                  have h7 := ha o ho
                  have h8 := List.all_eq_true.mp hs o ho
                  cases o with
                  | none => cases h8
                  | some k =>
                    have : k ≤ 1000000000 := by simpa [inB] using h7
                    show ((k : Nat) : Int) ≤ _
                    omega
                · intro ha o ho
                  have h8 := List.all_eq_true.mp hs o ho
                  have h9 := hm2 _ (List.mem_map_of_mem ho)
                  cases o with
                  | none => cases h8
                  | some k =>
                    have h10 : ((k : Nat) : Int) ≤ mx := h9
                    show decide (k ≤ 1000000000) = true
                    exact decide_eq_true (by omega)
              have hrb2 : rowB os n = decide (mx ≤ 1000000000) := by
                rw [hrb, decide_eq_true hl, decide_eq_true h6, hin, Bool.and_true, Bool.true_and]
              by_cases h11 : mx ≤ 1000000000
              · rw [decide_eq_true (show mx ≤ (10 : Int) ^ (9 : Int).toNat from h11)]
                refine iteT ⟨_, rfl, by show 1 ≤ sizeLine; decide, fun pf hpf => ?_⟩
                exact hq2 (by rw [hrb2, decide_eq_true h11]) (.ref pf) _ (s5.trans (same_upd hpf)) (dp_lst_new hpf (told s5) (.cons dpt .nil))
              · rw [decide_eq_false (show ¬ mx ≤ (10 : Int) ^ (9 : Int).toNat from h11)]
                exact iteF (hq _ _ rfl s5 (by rw [hrb2, decide_eq_false h11]))
            · rw [decide_eq_false (show ¬ (0 : Int) < ((sumO os : Nat) : Int) by omega)]
              exact iteF (hq _ _ rfl s5 (by rw [hrb, decide_eq_false h6, Bool.and_false, Bool.and_false]))
        · rw [decide_eq_false (show ¬ V.int (os.length : Nat) = V.int (n : Nat) by intro e; have := V.int.inj e; omega)]
          exact iteT (hq _ _ rfl s3 (by rw [hrb, decide_eq_false hl, Bool.false_and]))
      · have hs' : os.all (·.isSome) = false := Bool.eq_false_iff.mpr hs
        rw [hs']
        refine iteT (hq _ _ rfl s3 ?_)
        rw [hrb]
        cases hin : os.all inB with
        | false => rw [Bool.false_and, Bool.and_false]
        | true => rw [inB_some hin] at hs'; cases hs'
end
end K5
set_option Elab.async false
set_option linter.all false
set_option maxRecDepth 100000
set_option maxHeartbeats 4000000
/-! The law's def _law_read. -/
namespace K5
open PySem PySem.Spec PyProof.Rows L2
open TL (tl)
def dueD (x : Str) : PyData := if goodB x = true then .list [mindsD (mindsO x), waysD (waysO x)] else .list []
def sp_law_read (K : PySem.W.Frag) : Sp := fun vs H Q _ => ∃ x : Str, vs = [.str x] ∧ x.length ≤ 50000 ∧ okS x ∧ ∀ y H', Same H H' → Dp K H' y (dueD x) → Q y H'
abbrev nLR : List Str := ["_law_page_here", "_law_rows_here", "_law_heads_here", "_law_talks", "_law_each", "_law_rows_read", "_law_one"]
theorem sc_law_read : FnScope nLR ["_law_page_here"] (defScope s_law_read) := ⟨rfl, rfl, rfl, by decide +kernel, rfl, by decide +kernel, by decide +kernel⟩
theorem seens_shaped (l : List Str) (n : Nat) : SeqAt.shaped (.list (l.map fun p => seenD p n)) = true := by
  have ho : ∀ os : List (Option Nat), PyData.canLayAll0 (os.map oD) = true ∧ PyData.depthAll (os.map oD) = 0 := fun os => by
    induction os with
    | nil => simp [PyData.canLayAll0, PyData.depthAll]
    | cons o r ih =>
      cases o <;> simp [PyData.canLayAll0, PyData.depthAll, PyData.canLay0, PyData.depth, oD, ih.1, ih.2]
  have h1 : ∀ p, (seenD p n).canLay0 = true ∧ (seenD p n).depth ≤ 2 := fun p => by
    unfold seenD
    split
    · simp [PyData.canLay0, PyData.canLayAll0, PyData.depth, PyData.depthAll, rowD, (ho _).1, (ho _).2]
    · simp [PyData.canLay0, PyData.canLayAll0, PyData.depth, PyData.depthAll]
  have h : PyData.canLayAll0 (l.map fun p => seenD p n) = true ∧ PyData.depthAll (l.map fun p => seenD p n) ≤ 2 := by
    induction l with
    | nil => simp [PyData.canLayAll0, PyData.depthAll]
    | cons o r ih =>
      have := h1 o
      simp [PyData.canLayAll0, PyData.depthAll, ih.1, this.1]
      have := ih.2
      omega
  simp [SeqAt.shaped, PyData.canLay0, PyData.depth, h.1]
  omega
theorem seens_any (l : List Str) (n : Nat) : ((l.map fun p => seenD p n).any fun z => PyData.eqv z (.list [])) = !(l.all fun p => rowB (rowO p) n) := by
  induction l with
  | nil => rfl
  | cons o r ih =>
    rw [List.map_cons, List.any_cons, ih, List.all_cons]
    unfold seenD
    cases rowB (rowO o) n <;> simp [PyData.eqv, PyData.eqvAll]
section
variable {P : Program} {w : World} {K : PySem.W.Frag} {mg : Str → Option Value} {base : Heap}
theorem ok_law_read (T : Tx K mg) : Df P w K mg base CX0 3 (ga "_law_read" K) ["_law_page_here"] (sp_law_read K) := by
  obtain ⟨fd, F⟩ := T.f__law_read
  have nd := sc_law_read.nd
  refine ⟨fd, F.ok sc_law_read (fun vs H Q E h => ?_) (fun cdv A outer s H vs Q E hr h => ⟨_, pss_cons (ps_set (i := 1) nd rfl (Or.inl rfl) (pe_split (pv 0) pe_str))
    (pss_cons (ps_set (i := 2) nd rfl (by first | exact Or.inl rfl | exact Or.inr rfl) (pe_callTy call_tuple_of (by rfl) T.b_tuple (by decide +kernel) (pa_cons (pe_split (pe_ix ix_list (pv 1) pe_int (fun _ _ => rfl)) pe_str) pa_nil)))
    (pss_cons (ps_if (PW.pt (pw_or (pt_not (pt_chain op_le op_le pe_int (pe_callB call_len_seq (by rfl) T.b_len (by decide +kernel) (pa_cons (pv 2) pa_nil)) pe_int))
        (pw_or (pt_cmpR op_lt (pe_lenSetT rfl (by rfl) T.b_len (by rfl) T.b_set (pv 2)) (pe_callB call_len_seq (by rfl) T.b_len (by decide +kernel) (pa_cons (pv 2) pa_nil)) (nomark _))
          (pw_or1 (pt_not (pt_chain op_le op_le pe_int (pe_callB call_len_seq (by rfl) T.b_len (by decide +kernel) (pa_cons (pv 1) pa_nil)) pe_int)))))) (pss_one (ps_ret (pe_lst pa_nil))) pss_nil)
    (pss_cons (ps_set (i := 3) nd rfl (Or.inl rfl) (pe_lst pa_nil))
    (pss_cons (ps_for PassesOwn.never rfl (pi_list (pe_slice sl_list (pv 1) (po_some pe_int) po_none)) (pg_name (i := 4) nd rfl (Or.inl rfl))
        (pss_cons (ps_setLc (i := 5) (own := [("_law_one", 6)]) (g := gName 6) (tt := tYes) rfl nd rfl rfl (sw_true rfl rfl rfl (by decide +kernel)) (pi_listK K (pe_splitK (pv 4) pe_str))
            (blkOk_by (N := nLR) (sc := defScope s_law_read) (by decide +kernel)) (fun _ _ _ _ _ => pg_name (i := 6) nd rfl (Or.inl rfl)) (fun _ _ _ _ _ => pts_nil)
            (fun _ _ _ _ _ => pe_d (ok_seen T) hr T.g__law_seen (pa_cons (pv 6) (pa_cons (pe_callB (call_lenK K) (by rfl) T.b_len (by decide +kernel) (pa_cons (pv 2) pa_nil)) pa_nil))))
        (pss_cons (ps_if (PW.pt (pw_or (pt_cmpR (op_inD (room65 hr)) (pe_lst pa_nil) (pv 5) rfl) (pw_or1 (pt_cmpR op_ne (pe_callB call_len_seq (by rfl) T.b_len (by decide +kernel) (pa_cons (pv 5) pa_nil)) (pe_callB call_len_seq (by rfl) T.b_len (by decide +kernel) (pa_cons (pv 2) pa_nil)) (nomark _))))) (pss_one (ps_ret (pe_lst pa_nil))) pss_nil)
        (pss_one (ps_expr (pe_bm PySem.F.plainAttrs_list PySem.F.slot_list_append PySem.F.type_list_append mt_append (pv 3) (pa_cons (pe_callTy call_tuple_of (by rfl) T.b_tuple (by decide +kernel) (pa_cons
            (pe_lc (own := [("_law_one", 6)]) (g := gName 6) (tt := tYes) rfl nd (pi_listK K (pv 5)) (blkOk_by (N := nLR) (sc := defScope s_law_read) (by decide +kernel)) (fun _ _ _ _ _ => pg_name (i := 6) nd rfl (Or.inl rfl)) (fun _ _ _ _ _ => pts_nil)
              (fun _ _ _ _ _ => pe_ix (ix_listK K) (pv 6) pe_int (fun _ _ => rfl))) pa_nil)) pa_nil)))))))
    (pss_one (ps_ret (pe_ifExp (pt_cmpR (op_eqD hr.units) (pe_lc (own := [("_law_one", 6)]) (g := gName 6) rfl nd (pi_tupK K (pv 2)) (blkOk_by (N := nLR) (sc := defScope s_law_read) (by decide +kernel)) (fun _ _ _ _ _ => pg_name (i := 6) nd rfl (Or.inl rfl))
        (fun _ _ _ _ _ => pts_one (pt_not (pt_val (pe_d (ok_label T) (hr.mono (by decide)) T.g__law_is_label (pa_cons (pv 6) pa_nil))))) (fun _ _ _ _ _ => pv 6)) (pe_lst pa_nil) (nomark _))
      (pe_lst (pa_cons (pv 2) (pa_cons (pe_callTy call_tuple_of (by rfl) T.b_tuple (by decide +kernel) (pa_cons (pv 3) pa_nil)) pa_nil))) (pe_lst pa_nil)))))))), ?_⟩), F.kp,
    F.binds fun _ _ _ _ _ _ us hl => match us, hl with | [_], _ => rfl⟩
  · obtain ⟨x, rfl, _⟩ := h
    rfl
  · obtain ⟨x, rfl, hz, hok, q⟩ := h
    have hsl : x.length + 2 ≤ sizeLine := by rw [sizeLine_eq]; omega
    have no : goodB x = false → ∀ H1, Same H H1 → (0 ≤ sizeLine ∧ ∀ p, H1 p = none → Q (.ref p) (upd H1 p (.lst []))) := fun e H1 s => ⟨Nat.zero_le _, fun p hp => by
      have := q (.ref p) (upd H1 p (.lst [])) (s.trans (same_upd hp))
      unfold dueD at this
      rw [e, if_neg Bool.false_ne_true] at this
      exact this (.lst (.inl (.inl upd_same)) .nil)⟩
    have yes : goodB x = true → ∀ y H', Same H H' → Dp K H' y (.list [mindsD (mindsO x), waysD (waysO x)]) → Q y H' := fun e y H' s d => q y H' s (by
      unfold dueD
      rw [if_pos e]
      exact d)
    have hg : goodB x = (mindsB (mindsO x) && waysB (waysO x) (mindsO x).length) := rfl
    refine ⟨_, rfl, ⟨x, rfl⟩, x, "\n", rfl, rfl, by decide, hsl, fun pL hL => ?_⟩
    have hne := split_ne (x := x) tl_nl (by decide)
    have hpart : ∀ l ∈ Txt.split x "\n", l.length ≤ x.length ∧ okS l := fun l hl => by
      have := split_part (x := x) tl_nl (by decide) hl
      exact ⟨this.2, okS_sub hok this.1⟩
    have hnum := split_num (x := x) tl_nl (by decide)
    have eM : mindsO x = Txt.split ((Txt.split x "\n").headD Str.empty) " " := rfl
    have eW : waysO x = (Txt.split x "\n").tail.map wayO := rfl
    revert hne hpart hnum eM eW
    generalize Txt.split x "\n" = lines
    intro hne hpart hnum eM eW
    obtain ⟨l0, r, rfl⟩ : ∃ l0 r, lines = l0 :: r := by
      cases lines with
      | nil => exact absurd rfl hne
      | cons a b => exact ⟨a, b, rfl⟩
    have h0 := hpart l0 List.mem_cons_self
    have eM' : mindsO x = Txt.split l0 " " := eM
    have eW' : waysO x = r.map wayO := eW
    have s1 : Same H (upd H pL (.lst ((l0 :: r).map V.str))) := same_upd hL
    generalize hH1 : upd H pL (.lst ((l0 :: r).map V.str)) = H1 at s1
    have hpL : H1 pL = some (.lst ((l0 :: r).map V.str)) := by rw [← hH1]; exact upd_same
    refine ⟨_, rfl, pL, _, 0, .str l0, rfl, rfl, .inl (.inl hpL), atI_nat (j := 0) rfl, ⟨l0, rfl⟩, l0, " ", rfl, rfl, by decide, by omega, fun pN hN => ?_⟩
    refine ⟨pN, _, rfl, .inl ⟨.inl (.inl upd_same), fun pM hM => ?_⟩⟩
    have s2 : Same H1 (upd (upd H1 pN (.lst ((Txt.split l0 " ").map V.str))) pM (.tup ((Txt.split l0 " ").map V.str))) := (same_upd hN).trans (same_upd hM)
    generalize hH2 : upd (upd H1 pN (.lst ((Txt.split l0 " ").map V.str))) pM (.tup ((Txt.split l0 " ").map V.str)) = H2 at s2
    have hpM : H2 pM = some (.tup ((mindsO x).map V.str)) := by
      rw [← hH2, eM']
      exact upd_same
    have hpL2 := s2 _ _ hpL
    have sHH2 := s1.trans s2
    have hnne : mindsO x ≠ [] := by rw [eM']; exact split_ne tl_sp (by decide)
    have hnok : ∀ n ∈ mindsO x, n.length ≤ 50000 ∧ okS n := fun n hn => by
      rw [eM'] at hn
      have := split_part (x := l0) tl_sp (by decide) hn
      exact ⟨by omega, okS_sub h0.2 this.1⟩
    have hmi := minds_iff (mindsO x)
    revert hpM hnne hnok hmi hg yes
    generalize mindsO x = names
    intro yes hg hpM hnne hnok hmi
    have hn1 : 1 ≤ names.length := List.length_pos_iff.mpr hnne
    refine ⟨_, rfl, pM, _, rfl, .inr (.inl (.inl hpM)), _, _, rfl, rfl, _, rfl, ?_⟩
    rw [List.length_map, decide_eq_true (show (1 : Int) ≤ (names.length : Nat) by omega)]
    refine iteT ⟨_, _, rfl, rfl, _, rfl, ?_⟩
    have badM : (¬ (names.length ≤ 6 ∧ (∀ y ∈ names, nameB y = true) ∧ names.Nodup)) → goodB x = false := fun z => by
      rw [hg]
      cases e : mindsB names with
      | false => rfl
      | true => exact absurd (hmi.mp e).2 z
    by_cases h6 : names.length ≤ 6
    · rw [decide_eq_true (show ((names.length : Nat) : Int) ≤ 6 by omega)]
      refine iteF ⟨_, rfl, pM, names, rfl, .inl (.inl hpM), by omega, _, rfl, pM, _, rfl, .inr (.inl (.inl hpM)), _, _, rfl, rfl, _, rfl, ?_⟩
      rw [List.length_map]
      have hdc := dcN_nodup names
      have hle := dcN_le names names.length
      by_cases hnd : names.Nodup
      · rw [decide_eq_false (show ¬ ((dcN names names.length : Nat) : Int) < (names.length : Nat) by have := hdc.mpr hnd; omega)]
        refine iteF ⟨_, rfl, pL, _, rfl, .inl (.inl (.inl hpL2)), _, _, rfl, rfl, _, rfl, ?_⟩
        rw [List.length_map, List.length_cons]
        by_cases hr1 : 1 ≤ r.length
        · rw [decide_eq_true (show (2 : Int) ≤ ((r.length + 1 : Nat) : Int) by omega)]
          refine iteT ⟨_, _, rfl, rfl, _, rfl, ?_⟩
          by_cases hr6 : r.length ≤ 6
          · rw [decide_eq_true (show ((r.length + 1 : Nat) : Int) ≤ 7 by omega)]
            refine iteF (nx1 ?_)
            dsimp only
            refine ⟨Nat.zero_le _, fun pT hT => ?_⟩
            have s3 : Same H2 (upd H2 pT (.lst [])) := same_upd hT
            refine ⟨_, rfl, 1, rfl, pL, _, rfl, .inl (.inl (s3 _ _ hpL2)), fun pS hS => ?_⟩
            have ecut : cutV ((l0 :: r).map V.str) (some 1) none = r.map V.str := by rw [cutV_tail _ (by simp)]; rfl
            rw [ecut]
            have nST : pS ≠ pT := fun e => by
              rw [e, upd_same] at hS
              cases hS
            refine ⟨pS, rfl, ⟨_, .inl (.inl upd_same)⟩, ?_⟩
            refine for_it (walk_list (xs := r.map V.str)) (fun i σ H3 => Same H2 H3 ∧ H3 pS = some (.lst (r.map V.str)) ∧ (∃ o1 o2 o3, σ = [some (.str x), some (.ref pL), some (.ref pM), some (.ref pT), o1, o2, o3]) ∧
              ∃ ts, H3 pT = some (.lst ts) ∧ DpAll K (del H3 pT) ts ((r.take i).map fun l => wayD (wayO l)) ∧ ∀ l ∈ r.take i, wayB (wayO l) names.length = true)
              ⟨s3.trans (same_upd hS), upd_same, ⟨_, _, _, rfl⟩, [], (upd_ne (Ne.symm nST)).trans upd_same, .nil, fun l hl => by simp at hl⟩ (fun i σ H3 _ h => .inl (.inl h.2.1)) ?_ ?_
            · rintro i v σ _ H3 hi ⟨s4, hS3, ⟨o1, o2, o3, rfl⟩, ts, hT3, dT3, hB3⟩ ⟨rfl, hv⟩
              rw [List.length_map] at hi
              have ev : v = .str r[i] := by
                rw [List.getElem?_map, List.getElem?_eq_getElem hi] at hv
                exact (Option.some.inj hv).symm
              subst ev
              have hl := hpart r[i] (List.mem_cons_of_mem _ (List.getElem_mem hi))
              have htl : (r.take (i + 1)) = r.take i ++ [r[i]] := by
                rw [List.take_add_one, List.getElem?_eq_getElem hi]
                rfl
              rw [htl]
              have hway : wayB (wayO r[i]) names.length = false → goodB x = false := fun e => by
                rw [hg, eW']
                unfold waysB
                rw [show (r.map wayO).all (wayB · names.length) = false from List.all_eq_false.mpr ⟨_, List.mem_map_of_mem (List.getElem_mem hi), by rw [e]; exact Bool.false_ne_true⟩, Bool.and_false, Bool.and_false, Bool.and_false]
              generalize r[i] = l at hl hway
              have hls := split_len (x := l) tl_sp (by decide) (Nat.le_trans hl.1 hz)
              have hwb : wayB (wayO l) names.length = (decide ((Txt.split l " ").length = names.length) && (Txt.split l " ").all fun p => rowB (rowO p) names.length) := by
                unfold wayB wayO
                rw [List.length_map, List.all_map]
                rfl
              have hwd : wayD (wayO l) = .tuple ((Txt.split l " ").map fun p => rowD (rowO p)) := by
                unfold wayD wayO
                rw [List.map_map]
                rfl
              have hpm : ∀ p ∈ Txt.split l " ", p.length ≤ 50000 ∧ okS p := fun p hp => by
                have := split_part (x := l) tl_sp (by decide) hp
                exact ⟨by omega, okS_sub hl.2 this.1⟩
              refine gn1 (sq1 (asg1 (lc_list1 (K := K) H3 in_self ((Txt.split l " ").map V.str) (fun j => seenD ((Txt.split l " ").getD j Str.empty) names.length) ?_ (fun R hR => ⟨_, rfl, ⟨l, rfl⟩, l, " ", rfl, rfl, by decide, by omega, fun p hp => hR p _ (same_upd hp) (.inl (.inl upd_same))⟩) ?_ ?_)))
              · rw [List.length_map, sizeLine_eq]
                omega
              · intro j v H4 hv s5 Qy hy
                obtain ⟨rfl, hm⟩ := strs_get hv
                have h7 := hpm _ hm
                refine ⟨_, rfl, _, rfl, pM, _, rfl, .inr (.inl (.inl (s5 _ _ (s4 _ _ hpM)))), (Txt.split l " ").getD j Str.empty, names.length, by rw [List.length_map]; rfl, h7.1, h7.2, fun y H5 s6 q6 => hy y H5 s6 q6⟩
              · intro D ys H4 s5 e4 q4 d4
                rw [List.length_map, range_getD (Txt.split l " ") Str.empty fun p => seenD p names.length] at q4 d4
                generalize Txt.split l " " = parts at *
                have hyl := dpa_mapLen q4
                have sH4 : Same H2 H4 := s4.trans s5
                refine ⟨Nat.zero_le _, fun pe hpe => ⟨_, rfl, .list [], _, .lst (.inl (.inl upd_same)) .nil, dp_same (same_upd hpe) _ _ (dp_same nw_sub _ _ d4), shaped_nil, seens_shaped parts names.length, _, rfl, ?_⟩⟩
                rw [seens_any]
                have s6 : Same H4 (upd H4 pe (.lst [])) := same_upd hpe
                have e6 : upd H4 pe (.lst []) D = some (.lst ys) := s6 _ _ e4
                generalize upd H4 pe (.lst []) = H5 at s6 e6
                by_cases hall : (parts.all fun p => rowB (rowO p) names.length) = true
                · rw [hall]
                  refine iteF ⟨_, rfl, D, ys, rfl, .inl (.inl (.inl e6)), _, rfl, pM, _, rfl, .inr (.inl (.inl (s6 _ _ (sH4 _ _ hpM)))), rfl, _, rfl, ?_⟩
                  rw [hyl, List.length_map]
                  by_cases hpl : parts.length = names.length
                  · rw [decide_eq_true (show V.int (parts.length : Nat) = V.int (names.length : Nat) by rw [hpl])]
                    refine iteF (nx1 ?_)
                    dsimp only
                    have hT5 : H5 pT = some (.lst ts) := s6 _ _ (s5 _ _ hT3)
                    refine ⟨_, rfl, .inl ⟨rfl, _, .inl (.inl hT5)⟩, ?_⟩
                    have sH5 : Same H2 H5 := sH4.trans s6
                    have s35 : Same H3 H5 := s5.trans s6
                    refine ca1 (cb1 (lc_list2 (K := K) H3 (told s35) ys (fun j => rowD (rowO (parts.getD j Str.empty))) (by rw [hyl, sizeLine_eq]; omega) (fun R hR => ⟨_, rfl, hR D H5 (Same.refl H5) (.inl (.inl e6))⟩) ?_ ?_))
                    · intro D2 hD2 j v H6 hv s7 Qy hy
                      have hj : j < parts.length := by
                        have := (List.getElem?_eq_some_iff.mp hv).1
                        omega
                      have hd := dpa_get q4 hj hv
                      have hrb := List.all_eq_true.mp hall _ (List.getElem_mem hj)
                      rw [mem_getD hj] at hy
                      unfold seenD at hd
                      rw [if_pos hrb] at hd
                      obtain ⟨a, xs, rfl, hsq, hx⟩ := dp_lst hd
                      cases hx with
                      | cons hz1 hz2 =>
                        cases hz2
                        rename_i z
                        refine ⟨_, rfl, a, _, 0, z, rfl, rfl, ((nw_sub (B := H3)).trans (s6.trans s7)).seq hsq, atI_nat (j := 0) rfl, hy _ _ (Same.refl _) (dp_same (fun b o e => ?_) _ _ hz1)⟩
                        obtain ⟨n1, n2⟩ := nw_at e
                        have n3 := s6 _ _ n2
                        have n4 : b ≠ D2 := fun z => by
                          rw [z, hD2] at n3
                          cases n3
                        rw [del_ne n4]
                        exact nw_of (s7 _ _ n3) n1
                    · intro D2 ys2 H6 s7 e7 q7
                      rw [hyl, range_getD parts Str.empty fun p => rowD (rowO p)] at q7
                      refine ⟨D2, ys2, rfl, .inl ⟨.inl (.inl e7), fun pt hpt => ?_⟩⟩
                      have dpt := dp_tup_new hpt (told (s35.trans s7)) q7
                      have s8 : Same H3 (upd H6 pt (.tup ys2)) := (s35.trans s7).trans (same_upd hpt)
                      have hT8 : upd H6 pt (.tup ys2) pT = some (.lst ts) := s8 _ _ hT3
                      generalize upd H6 pt (.tup ys2) = H7 at dpt s8 hT8
                      have hts := dpa_mapLen dT3
                      rw [List.length_take] at hts
                      have edel : del (upd H7 pT (.lst (ts ++ [.ref pt]))) pT = del H7 pT := by
                        funext b
                        by_cases e : b = pT
                        · rw [e, del_same, del_same]
                        · rw [del_ne e, del_ne e, upd_ne e]
                      refine ⟨pT, ts, .ref pt, rfl, rfl, hT8, by rw [sizeLine_eq]; omega, fun b o e => ?_, (upd_ne nST).trans (s8 _ _ hS3), ⟨_, _, _, rfl⟩, _, upd_same, ?_, ?_⟩
                      · rw [upd_ne (ne_of_none e hT)]
                        exact s8 _ _ (s4 _ _ e)
                      · rw [edel, List.map_append]
                        refine dpa_snoc (dp_sameAll (del_same2 s8) _ _ dT3) ?_
                        show Dp K (del H7 pT) (.ref pt) (wayD (wayO l))
                        rw [hwd]
                        have := nw_del (B := noH) (H := H3) (D := pT) (H4 := H7) (by rw [hT3]; rfl) noH_in
                        rw [nw_noH] at this
                        exact dp_same this _ _ dpt
                      · intro l' hl'
                        rcases List.mem_append.mp hl' with z | z
                        · exact hB3 l' z
                        · rw [List.mem_singleton.mp z, hwb, decide_eq_true hpl, hall]
                          rfl
                  · rw [decide_eq_false (show ¬ V.int (parts.length : Nat) = V.int (names.length : Nat) by intro e; have := V.int.inj e; omega)]
                    exact iteT (no (hway (by rw [hwb, decide_eq_false hpl, Bool.false_and])) H5 (sHH2.trans (sH4.trans s6)))
                · have hall' : (parts.all fun p => rowB (rowO p) names.length) = false := Bool.eq_false_iff.mpr hall
                  rw [hall']
                  exact iteT (no (hway (by rw [hwb, hall', Bool.and_false])) H5 (sHH2.trans (sH4.trans s6)))
            · rintro σ H3 ⟨s4, hS3, ⟨o1, o2, o3, rfl⟩, ts, hT3, dT3, hB3⟩
              rw [List.length_map, List.take_length] at dT3 hB3
              have sH3 : Same H H3 := sHH2.trans s4
              dsimp only
              refine rt1 (if1 (tt1 (op1 (lc_tupF (K := K) noH noH_in (names.map V.str) (fun j => .str (names.getD j Str.empty)) (fun j => !nameB (names.getD j Str.empty)) (by rw [List.length_map, sizeLine_eq]; omega) (fun R hR => ⟨_, rfl, hR pM H3 (Same.refl H3) (.inl (.inl (s4 _ _ hpM)))⟩) ?_ ?_))))
              · intro j v H4 hv s5 Qy Qn h1 h2
                obtain ⟨rfl, hm⟩ := strs_get hv
                have h7 := hnok _ hm
                refine ⟨_, rfl, _, rfl, h7.1, h7.2, fun H5 s6 => ⟨_, rfl, ?_⟩⟩
                cases e : nameB (names.getD j Str.empty) with
                | true => exact iteF (h2 (by rw [e]; rfl) _ s6)
                | false => exact iteT ⟨_, rfl, h1 (by rw [e]; rfl) _ _ s6 (.str _)⟩
              · intro D ys H4 s5 e4 q4 d4
                rw [List.length_map, range_filt names Str.empty (fun n => !nameB n) PyData.str] at q4 d4
                rw [nw_noH] at d4
                refine ⟨Nat.zero_le _, fun pe hpe => ⟨_, .list [], dp_same (same_upd hpe) _ _ d4, .lst (.inl (.inl upd_same)) .nil, shaped_strs (fun z hz => (hnok z (List.mem_filter.mp hz).1).2), shaped_nil, _, rfl, ?_⟩⟩
                rw [eqv_nil, List.isEmpty_map]
                have s6 : Same H3 (upd H4 pe (.lst [])) := s5.trans (same_upd hpe)
                generalize upd H4 pe (.lst []) = H5 at s6
                have hT5 := s6 _ _ hT3
                by_cases hall : ∀ y ∈ names, nameB y = true
                · have : (names.filter fun n => !nameB n).isEmpty = true := by
                    rw [List.isEmpty_iff, List.filter_eq_nil_iff]
                    intro y hy
                    rw [hall y hy]
                    exact Bool.false_ne_true
                  rw [this]
                  refine iteT ⟨_, rfl, _, rfl, pT, ts, rfl, .inl ⟨.inl (.inl hT5), fun pt hpt => ⟨by show 2 ≤ sizeLine; decide, fun pf hpf => ?_⟩⟩⟩
                  have s7 : Same H3 (upd (upd H5 pt (.tup ts)) pf (.lst [.ref pM, .ref pt])) := s6.trans ((same_upd hpt).trans (same_upd hpf))
                  refine yes ?_ (.ref pf) _ (sH3.trans s7) (.lst (.inl (.inl upd_same)) (.cons (.tup (.inl (.inl (s7 _ _ (s4 _ _ hpM)))) dpa_of_strs) (.cons ?_ .nil)))
                  · rw [hg, hmi.mpr ⟨hnne, h6, hall, hnd⟩, eW']
                    unfold waysB
                    rw [List.length_map, decide_eq_true hr6, show (r.map wayO).all (wayB · names.length) = true from List.all_eq_true.mpr fun y hy => by
                      obtain ⟨l, hl, rfl⟩ := List.mem_map.mp hy
                      exact hB3 l hl]
                    have : (r.map wayO).isEmpty = false := by
                      rw [List.isEmpty_map]
                      cases r with
                      | nil => simp at hr1
                      | cons a b => rfl
                    rw [this]
                    rfl
                  · have ed : waysD (waysO x) = .tuple (r.map fun l => wayD (wayO l)) := by
                      rw [eW']
                      unfold waysD
                      rw [List.map_map]
                      rfl
                    rw [ed]
                    refine .tup (.inl (.inl (same_upd hpf _ _ upd_same))) (dp_sameAll s7 _ _ (dp_sameAll del_sub _ _ dT3))
                · have : (names.filter fun n => !nameB n).isEmpty = false := by
                    rw [List.isEmpty_eq_false_iff]
                    intro e
                    rw [List.filter_eq_nil_iff] at e
                    exact hall fun y hy => by simpa using e y hy
                  rw [this]
                  exact iteF (no (badM fun z => hall z.2.1) H5 (sH3.trans s6))
          · rw [decide_eq_false (show ¬ ((r.length + 1 : Nat) : Int) ≤ 7 by omega)]
            refine iteT (no ?_ H2 sHH2)
            rw [hg, eW']
            unfold waysB
            rw [List.length_map, decide_eq_false hr6, Bool.false_and, Bool.and_false, Bool.and_false]
        · rw [decide_eq_false (show ¬ (2 : Int) ≤ ((r.length + 1 : Nat) : Int) by omega)]
          refine iteF ⟨_, rfl, iteT (no ?_ H2 sHH2)⟩
          have : r = [] := List.eq_nil_of_length_eq_zero (by omega)
          rw [hg, eW', this]
          simp [waysB]
      · rw [decide_eq_true (show ((dcN names names.length : Nat) : Int) < (names.length : Nat) by
          have : dcN names names.length ≠ names.length := fun e => hnd (hdc.mp e)
          omega)]
        exact iteT (no (badM fun z => hnd z.2.2) H2 sHH2)
    · rw [decide_eq_false (show ¬ ((names.length : Nat) : Int) ≤ 6 by omega)]
      exact iteT (no (badM fun z => h6 z.1) H2 sHH2)
end
end K5
set_option Elab.async false
set_option linter.all false
set_option maxRecDepth 100000
set_option maxHeartbeats 2000000
/-! Plain laws: the signs and lengths of joined texts. -/
namespace K5
open PySem PySem.Spec PyProof.Rows
open TL (tl)
theorem okS_append {x y : Str} (h1 : okS x) (h2 : okS y) : okS (x ++ y) := fun c hc => by
  rw [TL.tl_append] at hc
  rcases List.mem_append.mp hc with z | z
  · exact h1 c z
  · exact h2 c z
theorem joinL_mem (S : List Nat) : ∀ (l : List (List Nat)) (c : Nat), c ∈ TL.joinL S l → c ∈ S ∨ ∃ p ∈ l, c ∈ p
  | [], c, h => nomatch (show c ∈ ([] : List Nat) from h)
  | [p], c, h => .inr ⟨p, List.mem_cons_self, h⟩
  | p :: q :: r, c, h => by
    have h' : c ∈ p ++ (S ++ TL.joinL S (q :: r)) := h
    rcases List.mem_append.mp h' with z | z
    · exact .inr ⟨p, List.mem_cons_self, z⟩
    · rcases List.mem_append.mp z with z | z
      · exact .inl z
      · rcases joinL_mem S (q :: r) c z with z | ⟨t, ht, z⟩
        · exact .inl z
        · exact .inr ⟨t, List.mem_cons_of_mem _ ht, z⟩
theorem okS_join {y : Str} {ts : List Str} (h1 : okS y) (h2 : ∀ t ∈ ts, okS t) : okS (Txt.join y ts) := fun c hc => by
  rw [TL.join_eq, TL.tl_join] at hc
  rcases joinL_mem _ _ _ hc with z | ⟨p, hp, z⟩
  · exact h1 c z
  · obtain ⟨t, ht, rfl⟩ := List.mem_map.mp hp
    exact h2 t ht c z
theorem okS_num (n : Nat) : okS (Str.ofString (toString ((n : Nat) : Int))) := fun c hc => by
  rw [TL.tl_num] at hc
  have := TL.numL_digits n c hc
  omega
/-- the weight of a list of texts: their lengths, one more for each -/
def wt (ts : List Str) : Nat := (ts.map (·.length)).sum + ts.length
theorem wt_append (a b : List Str) : wt (a ++ b) = wt a + wt b := by
  unfold wt
  rw [List.map_append, List.sum_append, List.length_append]
  omega
theorem wt_cut (ts : List Str) (i : Nat) : wt (ts.take i) + wt (ts.drop i) = wt ts := by
  rw [← wt_append, List.take_append_drop]
theorem wt_take (ts : List Str) (i : Nat) : wt (ts.take i) ≤ wt ts := by
  have := wt_cut ts i
  omega
theorem wt_drop (ts : List Str) (i : Nat) : wt (ts.drop i) ≤ wt ts := by
  have := wt_cut ts i
  omega
theorem wt_one (t : Str) : wt [t] = t.length + 1 := by simp [wt]
theorem wt_mem {ts : List Str} {t : Str} (h : t ∈ ts) : t.length + 1 ≤ wt ts := by
  obtain ⟨a, b, rfl⟩ := List.append_of_mem h
  rw [show a ++ t :: b = a ++ ([t] ++ b) from rfl, wt_append, wt_append, wt_one]
  omega
theorem wt_set (ts : List Str) (i : Nat) (t : Str) : wt (ts.set i t) ≤ wt ts + t.length := by
  induction ts generalizing i with
  | nil => simp [wt]
  | cons a r ih =>
    cases i with
    | zero =>
      simp [wt]
      omega
    | succ i =>
      have := ih i
      simp [wt] at this ⊢
      omega
theorem wt_len (ts : List Str) : ts.length ≤ wt ts := by
  unfold wt
  omega
theorem join_wt {y : Str} (hy : y.length = 1) (ts : List Str) : (ts.map (·.length)).sum + ts.length * y.length = wt ts ∧ (Txt.join y ts).length ≤ wt ts := by
  have h4 : (Txt.join y ts).length ≤ (ts.map (·.length)).sum + ts.length * y.length := by
    rw [TL.join_eq]
    exact StrLaws.join_length_le y ts
  unfold wt
  rw [hy] at h4 ⊢
  omega
theorem cuts_wt (s : Nat) : ∀ (l acc : List Nat), ((cuts s acc l).map List.length).sum + (cuts s acc l).length = acc.length + l.length + 1
  | [], acc => by simp [cuts]
  | c :: r, acc => by
    unfold cuts
    split
    · have := cuts_wt s r []
      simp at this ⊢
      omega
    · have := cuts_wt s r (acc ++ [c])
      simp at this ⊢
      omega
theorem split_wt {x y : Str} {s : Nat} (hy : tl y = [s]) (hs : s < 256) : wt (Txt.split x y) = x.length + 1 := by
  have e := cuts_wt s (tl x) []
  rw [← split_cuts (x := x) hy hs, List.map_map, List.length_map] at e
  unfold wt
  rw [show (Txt.split x y).map (·.length) = (Txt.split x y).map (List.length ∘ tl) from List.map_congr_left fun t _ => TL.len_tl t, e, TL.len_tl]
  simp
end K5
set_option Elab.async false
set_option linter.all false
set_option maxRecDepth 100000
set_option maxHeartbeats 4000000
/-! The law's jug: _law_sip, _law_row, _law_talk. -/
namespace K5
open PySem PySem.Spec PyProof.Rows L2
def JugAt (H : Hp) (J : Addr) : Prop := ∃ a b c : Int, H J = some (.lst [.int a, .int b, .int c])
abbrev SJ (J : Addr) : Hp → Hp → Prop := SameX (· = J)
theorem jug_told {H : Hp} {J : Addr} (h : JugAt H J) : (H J).isSome = true := by
  obtain ⟨a, b, c, e⟩ := h
  rw [e]
  rfl
theorem jug_same {H H' : Hp} {J : Addr} (s : Same H H') (h : JugAt H J) : JugAt H' J := by
  obtain ⟨a, b, c, e⟩ := h
  exact ⟨a, b, c, s _ _ e⟩
def sp_sip : Sp := fun vs H Q _ => ∃ (J : Addr) (m : Int), vs = [.ref J, .int m] ∧ JugAt H J ∧ 0 < m ∧ m < 1000000000 ∧ ∀ k H', 0 ≤ k → k < m → SJ J H H' → JugAt H' J → Q (.int k) H'
theorem sc_sip : FnScope ["_law_jug_here", "_law_most", "_law_digit"] ["_law_jug_here", "_law_most"] (defScope s_law_sip) := ⟨rfl, rfl, rfl, by decide +kernel, rfl, by decide +kernel, by decide +kernel⟩
section
variable {P : Program} {w : World} {K : PySem.W.Frag} {mg : Str → Option Value} {base : Heap}
theorem ok_sip (T : Tx K mg) : Df P w K mg base CX0 1 (ga "_law_sip" K) ["_law_jug_here", "_law_most"] sp_sip := by
  obtain ⟨fd, F⟩ := T.f__law_sip
  have nd := sc_sip.nd
  refine ⟨fd, F.ok sc_sip (fun vs H Q E h => ?_) (fun cdv A outer s H vs Q E hr h => ⟨_, pss_cons (ps_if (pt_cmpR op_gt (pe_ix ix_list (pv 0) pe_int (fun _ _ => rfl)) pe_int (nomark _))
      (pss_cons (ps_asg (pe_callB call_divmod (by rfl) T.b_divmod (by decide +kernel) (pa_cons (pe_ix ix_list (pv 0) pe_int (fun _ _ => rfl)) (pa_cons (pv 1) pa_nil))) (pg_tup rfl (pgs_cons (pg_sub (pv 0) pe_int set_list) (pgs_cons (pg_name (i := 2) nd rfl (Or.inl rfl)) pgs_nil))))
        (pss_one (ps_ret (pv 2)))) pss_nil)
    (pss_cons (ps_asg (pe_op op_add (pe_ix ix_list (pv 0) pe_int (fun _ _ => rfl)) pe_int) (pg_sub (pv 0) pe_int set_list))
    (pss_cons (ps_asg (pe_op op_mod (pe_callTy call_int1 (by rfl) T.b_int (by decide +kernel) (pa_cons (pe_op op_add (pe_op op_mul (pe_ix ix_list (pv 0) pe_int (fun _ _ => rfl)) pe_int) (pe_op op_mul pe_int (pe_ix ix_list (pv 0) pe_int (fun _ _ => rfl)))) pa_nil)) pe_int) (pg_sub (pv 0) pe_int set_list))
    (pss_one (ps_ret (pe_op op_mod (pe_callTy call_int1 (by rfl) T.b_int (by decide +kernel) (pa_cons (pe_op op_fdiv (pe_ix ix_list (pv 0) pe_int (fun _ _ => rfl)) pe_int) pa_nil)) (pv 1)))))), ?_⟩), F.kp,
    F.binds fun _ _ _ _ _ _ us hl => match us, hl with | [_, _], _ => rfl⟩
  · obtain ⟨J, m, rfl, _⟩ := h
    rfl
  · obtain ⟨J, m, rfl, ⟨a, b, c, hJ⟩, hm, hm2, q⟩ := h
    refine ⟨_, rfl, J, _, 0, .int a, rfl, rfl, .inl (.inl hJ), atI_nat (j := 0) rfl, _, _, rfl, rfl, _, rfl, ?_⟩
    by_cases h0 : 0 < a
    · rw [decide_eq_true h0]
      refine iteT ⟨_, rfl, J, _, 0, .int a, rfl, rfl, .inl (.inl hJ), atI_nat (j := 0) rfl, _, rfl, a, m, rfl, ⟨hm, by omega⟩, fun p hp => ?_⟩
      have nJ : J ≠ p := ne_of_none hJ hp
      refine ⟨p, _, rfl, .inl (.inl upd_same), rfl, _, _, rfl, ?_⟩
      refine ⟨_, rfl, J, _, 0, 0, rfl, rfl, (upd_ne nJ).trans hJ, rfl, ?_⟩
      refine ⟨_, _, rfl, rfl, _, rfl, q _ _ (Int.emod_nonneg _ (by omega)) (Int.emod_lt_of_pos _ hm) ⟨fun x o n e => ?_, fun x e => ?_⟩ ⟨_, _, _, upd_same⟩⟩
      · rw [upd_ne n, upd_ne (ne_of_none e hp)]
        exact e
      · by_cases z : x = J
        · rw [z, upd_same]
          rfl
        · obtain ⟨o, e⟩ := Option.isSome_iff_exists.mp e
          rw [upd_ne z, upd_ne (ne_of_none e hp), e]
          rfl
    · rw [decide_eq_false h0]
      refine iteF ?_
      refine ⟨_, rfl, J, _, 2, .int c, rfl, rfl, .inl (.inl hJ), atI_nat (j := 2) rfl, _, _, rfl, rfl, ?_⟩
      refine ⟨_, rfl, J, _, 2, 2, rfl, rfl, hJ, rfl, ?_⟩
      refine ⟨_, rfl, J, _, 1, .int b, rfl, rfl, .inl (.inl upd_same), atI_nat (j := 1) rfl, _, _, rfl, rfl, .inr ⟨by decide, by decide⟩, ?_⟩
      refine ⟨_, rfl, J, _, 2, .int (c + 1), rfl, rfl, .inl (.inl upd_same), atI_nat (j := 2) rfl, _, _, rfl, rfl, .inl ⟨by decide, by decide⟩, _, _, rfl, rfl, ?_⟩
      refine .inl ⟨_, rfl, _, _, rfl, rfl, (show (0 : Int) < 2147483269 by decide), ?_⟩
      refine ⟨_, rfl, J, _, 1, 1, rfl, rfl, upd_same, rfl, ?_⟩
      rw [upd_upd]
      refine ⟨_, rfl, J, _, 1, _, rfl, rfl, .inl (.inl upd_same), atI_nat (j := 1) rfl, _, _, rfl, rfl, ⟨by decide, by decide⟩, .inl ⟨_, rfl, ?_⟩⟩
      refine ⟨_, rfl, _, _, rfl, rfl, hm, q _ _ (Int.emod_nonneg _ (by omega)) (Int.emod_lt_of_pos _ hm) (samex_set rfl) ⟨_, _, _, upd_same⟩⟩
end
end K5
set_option Elab.async false
set_option linter.all false
set_option maxRecDepth 100000
set_option maxHeartbeats 4000000
/-! The law's rows and talks. -/
namespace K5
open PySem PySem.Spec PyProof.Rows L2
def natsD (ns : List Nat) : PyData := .tuple (ns.map fun (n : Nat) => PyData.int (n : Int))
def talkD (rows : List (List Nat)) : PyData := .tuple (rows.map natsD)
/-- the rows of a talk: n by n, none above a thousand million -/
def goodRow (n : Nat) (ns : List Nat) : Prop := ns.length = n ∧ ∀ x ∈ ns, x ≤ 1000000000
def goodTalk (n : Nat) (rows : List (List Nat)) : Prop := rows.length = n ∧ ∀ r ∈ rows, goodRow n r
def sp_row (K : PySem.W.Frag) : Sp := fun vs H Q _ => ∃ (J : Addr) (n : Nat), vs = [.ref J, .int n] ∧ JugAt H J ∧ 1 ≤ n ∧ n ≤ 100 ∧ ∀ y ns H', SJ J H H' → JugAt H' J → goodRow n ns → Dp K (nw H H') y (natsD ns) → Q y H'
theorem sc_row : FnScope ["_law_jug_here", "_law_size", "_law_row_here", "_law_k"] ["_law_jug_here", "_law_size"] (defScope s_law_row) := ⟨rfl, rfl, rfl, by decide +kernel, rfl, by decide +kernel, by decide +kernel⟩
theorem jug_upd {H : Hp} {J D : Addr} {o : HO} (h : JugAt H J) (n : D ≠ J) : JugAt (upd H D o) J := by
  obtain ⟨a, b, c, e⟩ := h
  exact ⟨a, b, c, (upd_ne (Ne.symm n)).trans e⟩
/-- a comprehension over range(n) whose turns may change the jug -/
theorem lc_jugC {K : PySem.W.Frag} {te : TE} {i : Nat} {σ : L2.St} {H : Hp} {Q : V → Hp → Prop} {J : Addr} (hJ : JugAt H J) (n : Nat) (jn : Int) (ej : jn = (n : Int)) (A : List PyData → Prop) (hn : n ≤ 1000000)
    (hs : ∀ k H2 ds, SJ J H H2 → JugAt H2 J → ds.length < n → A ds → ∀ Qy : V → Hp → Prop, (∀ y d H3, SJ J H2 H3 → JugAt H3 J → Dp K (nw H2 H3) y d → A (ds ++ [d]) → Qy y H3) → te ((wipe σ [i]).set i (some (.int k))) H2 Qy)
    (h0 : A [])
    (hq : ∀ D ys ds H2, D ≠ J → H D = none → SJ J H H2 → JugAt H2 J → H2 D = some (.lst ys) → ds.length = n → A ds → DpAll K (nw H H2) ys ds → Q (.ref D) H2) :
    ∀ D, H D = none → ∃ W : Nat → Nat → Hp → Prop, (∃ m, W 0 m (upd H D (.lst []))) ∧ ∀ i' m H2, W i' m H2 →
      ((Itr 0 jn.toNat).stop i' H2 ∧ Q (.ref D) H2) ∨ ((Itr 0 jn.toNat).go i' H2 ∧ ∃ Nx : Hp → Prop, (∀ H', Nx H' → ∃ m', m' < m ∧ W (i' + 1) m' H') ∧ ∀ x H', (Itr 0 jn.toNat).yld i' H2 x H' → gName i x (wipe σ [i]) H' fun σ2 H2 => wipe σ2 [i] = wipe σ [i] ∧ tYes σ2 H2 fun b H3 =>
        if b = true then te σ2 H3 fun y H4 => ∃ acc, H4 D = some (.lst acc) ∧ acc.length < sizeLine ∧ Nx (upd H4 D (.lst (acc ++ [y]))) else Nx H3) := by
  subst ej
  intro D hD
  have nD : D ≠ J := fun z => by
    have := jug_told hJ
    rw [← z, hD] at this
    cases this
  refine lc_data (K := K) (walk_range (lo := 0) (n := n)) (· = J) H (fun H => JugAt H J) (fun i ds => ds.length = i ∧ A ds) (by rw [sizeLine_eq]; omega) hD (fun b e => by rw [e]; exact jug_told hJ) in_self hJ (fun H o h => jug_upd h nD) ⟨rfl, h0⟩ (fun _ _ _ => trivial) ?_ ?_
  · rintro j v H2 H' ds hj s2 x2 hDs ⟨hl, ha⟩ ⟨rfl, rfl⟩ Qy Qn h1 h2
    refine ⟨wipe_one _ _ _, iteT (A := te ((wipe σ [i]).set i (some (.int (0 + (j : Int))))) H' Qy) (B := Qn H') (hs _ _ ds s2 x2 (by omega) ha Qy fun y d H3 s3 x3 q3 a3 => h1 y d H3 s3 x3 (dp_same (nw_del hDs s2.dom) _ _ q3) ⟨by rw [List.length_append, hl]; rfl, a3⟩)⟩
  · rintro H2 ys ds s2 x2 ⟨hl, ha⟩ e q1 q2
    exact hq D ys ds H2 nD hD s2 x2 e hl ha (dp_sameAll del_sub _ _ q1)
theorem lc_jug {K : PySem.W.Frag} {ta : TA} {te : TE} {i : Nat} {σ : L2.St} {H : Hp} {Q : V → Hp → Prop} {J : Addr} (hJ : JugAt H J) (n : Nat) (A : List PyData → Prop) (hn : n ≤ 1000000)
    (hta : ∀ R : List V → Hp → Prop, R [.int n] H → ta σ H R)
    (hs : ∀ k H2 ds, SJ J H H2 → JugAt H2 J → ds.length < n → A ds → ∀ Qy : V → Hp → Prop, (∀ y d H3, SJ J H2 H3 → JugAt H3 J → Dp K (nw H2 H3) y d → A (ds ++ [d]) → Qy y H3) → te ((wipe σ [i]).set i (some (.int k))) H2 Qy)
    (h0 : A [])
    (hq : ∀ D ys ds H2, D ≠ J → H D = none → SJ J H H2 → JugAt H2 J → H2 D = some (.lst ys) → ds.length = n → A ds → DpAll K (nw H H2) ys ds → Q (.ref D) H2) :
    tLc (iRng1 ta) (gName i) tYes te [i] σ H Q :=
  hta _ ⟨(n : Int), rfl, by omega, by omega, lc_jugC hJ n _ rfl A hn hs h0 hq⟩
theorem lc_jug2 {K : PySem.W.Frag} {ta : TA} {te : TE} {i : Nat} {σ : L2.St} {H : Hp} {Q : V → Hp → Prop} {J : Addr} (N : Nat → Prop) (A : List PyData → Prop) (hN : ∀ n, N n → n ≤ 1000000)
    (hta : ∀ R : List V → Hp → Prop, (∀ (n : Nat) H1, N n → SJ J H H1 → JugAt H1 J → R [.int n] H1) → ta σ H R)
    (hs : ∀ H1, SJ J H H1 → ∀ k H2 ds, SJ J H1 H2 → JugAt H2 J → A ds → ∀ Qy : V → Hp → Prop, (∀ y d H3, SJ J H2 H3 → JugAt H3 J → Dp K (nw H2 H3) y d → A (ds ++ [d]) → Qy y H3) → te ((wipe σ [i]).set i (some (.int k))) H2 Qy)
    (h0 : A [])
    (hq : ∀ H1, SJ J H H1 → ∀ D ys ds H2, D ≠ J → H1 D = none → SJ J H1 H2 → JugAt H2 J → H2 D = some (.lst ys) → N ds.length → A ds → DpAll K (nw H1 H2) ys ds → Q (.ref D) H2) :
    tLc (iRng1 ta) (gName i) tYes te [i] σ H Q :=
  hta _ fun n H1 hn s1 x1 => ⟨(n : Int), rfl, by have := hN n hn; omega, by have := hN n hn; omega, lc_jugC x1 n _ rfl A (hN n hn) (fun k H2 ds s2 x2 _ a2 => hs H1 s1 k H2 ds s2 x2 a2) h0 fun D ys ds H2 nD hD s2 x2 e hl a2 q2 => hq H1 s1 D ys ds H2 nD hD s2 x2 e (by rw [hl]; exact hn) a2 q2⟩
theorem sj_told {H H' : Hp} {J : Addr} (s : SJ J H H') : ∀ b, (H b).isSome = true → (H' b).isSome = true := s.dom
theorem sj_same {H H' : Hp} {J : Addr} (s : Same H H') : SJ J H H' := .of s
/-- data that does not lean on the jug stays -/
theorem dp_jug {K : PySem.W.Frag} {H H' : Hp} {J : Addr} {B : Hp} (s : SJ J H H') (hB : (B J).isSome = true) {d : PyData} {v : V} (h : Dp K (nw B H) v d) : Dp K (nw B H') v d := dp_same (nw_same s fun b e => by rw [e]; exact hB) _ _ h
theorem dpa_jug {K : PySem.W.Frag} {H H' : Hp} {J : Addr} {B : Hp} (s : SJ J H H') (hB : (B J).isSome = true) {ds : List PyData} {vs : List V} (h : DpAll K (nw B H) vs ds) : DpAll K (nw B H') vs ds := dp_sameAll (nw_same s fun b e => by rw [e]; exact hB) _ _ h
/-- one of a written list of numbers, by the jug -/
theorem nat_ints (ns : List Nat) : ns.map (fun (n : Nat) => V.int (n : Int)) = (ns.map fun (n : Nat) => (n : Int)).map V.int := by
  rw [List.map_map]
  rfl
theorem dpa_nats {K : PySem.W.Frag} {H : Hp} : ∀ {ns : List Nat} {vs : List V}, DpAll K H vs (ns.map fun (n : Nat) => PyData.int (n : Int)) → vs = ns.map fun (n : Nat) => V.int (n : Int)
  | [], _, .nil => rfl
  | n :: ns, _, .cons h t => by
    cases h
    rw [dpa_nats t]
    rfl
theorem dpa_of_nats {K : PySem.W.Frag} {H : Hp} : ∀ {ns : List Nat}, DpAll K H (ns.map fun (n : Nat) => V.int (n : Int)) (ns.map fun (n : Nat) => PyData.int (n : Int))
  | [] => .nil
  | n :: ns => .cons (.int n) dpa_of_nats
section
variable {P : Program} {w : World} {K : PySem.W.Frag} {mg : Str → Option Value} {base : Heap}
theorem ok_row (T : Tx K mg) : Df P w K mg base CX0 2 (ga "_law_row" K) ["_law_jug_here", "_law_size"] (sp_row K) := by
  obtain ⟨fd, F⟩ := T.f__law_row
  have nd := sc_row.nd
  refine ⟨fd, F.ok sc_row (fun vs H Q E h => ?_) (fun cdv A outer s H vs Q E hr h => ⟨_, pss_cons (ps_setLc (i := 2) (own := [("_law_k", 3)]) (g := gName 3) (tt := tYes) rfl nd rfl rfl (sw_true rfl rfl rfl (by decide +kernel)) (pi_range1 (by rfl) T.b_range (pa_cons (pv 1) pa_nil))
        (blkOk_by (N := ["_law_jug_here", "_law_size", "_law_row_here", "_law_k"]) (sc := defScope s_law_row) (by decide +kernel)) (fun _ _ _ _ _ => pg_name (i := 3) nd rfl (Or.inl rfl)) (fun _ _ _ _ _ => pts_nil)
        (fun _ _ _ _ _ => pe_ix (ix_listK K) (pe_lst (pa_cons pe_int (pa_cons pe_int (pa_cons pe_int (pa_cons pe_int (pa_cons pe_int (pa_cons pe_int (pa_cons pe_int pa_nil)))))))) (pe_d (ok_sip T) hr T.g__law_sip (pa_cons (pv 0) (pa_cons pe_int pa_nil))) (fun _ _ => rfl)))
    (pss_cons (ps_if (pt_cmpR op_eq (pe_callB (cr_sum rfl) (by rfl) T.b_sum (by decide +kernel) (pa_cons (pv 2) pa_nil)) pe_int (nomark _))
        (pss_one (ps_asg (pe_ix ix_list (pe_lst (pa_cons pe_int (pa_cons pe_int (pa_cons (pe_op op_pow pe_int pe_int) pa_nil)))) (pe_d (ok_sip T) hr T.g__law_sip (pa_cons (pv 0) (pa_cons pe_int pa_nil))) (fun _ _ => rfl))
          (pg_sub (pv 2) (pe_d (ok_sip T) hr T.g__law_sip (pa_cons (pv 0) (pa_cons (pv 1) pa_nil))) set_list))) pss_nil)
    (pss_one (ps_ret (pe_callTy call_tuple_of (by rfl) T.b_tuple (by decide +kernel) (pa_cons (pv 2) pa_nil))))), ?_⟩), F.kp,
    F.binds fun _ _ _ _ _ _ us hl => match us, hl with | [_, _], _ => rfl⟩
  · obtain ⟨J, n, rfl, _⟩ := h
    rfl
  · obtain ⟨J, n, rfl, hJ, hn1, hn, q⟩ := h
    refine sq1 (asg1 (lc_jug (K := K) hJ n (fun ds => ∃ ns : List Nat, ds = ns.map (fun (n : Nat) => PyData.int (n : Int)) ∧ ∀ x ∈ ns, x ≤ 1000000000) (by omega) (fun R hR => ⟨_, rfl, hR⟩) ?_ ⟨[], rfl, fun x hx => nomatch hx⟩ ?_))
    · rintro k H2 ds s2 x2 hl ⟨ns, rfl, hb⟩ Qy hy
      refine ⟨by show 7 ≤ sizeLine; decide, fun p hp => ?_⟩
      have np : p ≠ J := fun z => by
        have := jug_told x2
        rw [← z, hp] at this
        cases this
      refine ⟨_, rfl, J, 7, rfl, jug_upd x2 np, by decide, by decide, fun j H3 hj1 hj2 s3 x3 => ?_⟩
      obtain ⟨jn, rfl⟩ : ∃ jn : Nat, j = (jn : Int) := ⟨j.toNat, by omega⟩
      have hjn : jn < 7 := by omega
      have e3 := s3.to p _ np upd_same
      obtain ⟨v, hv, hv2⟩ : ∃ v : Nat, ([V.int 0, .int 0, .int 1, .int 1, .int 2, .int 3, .int 7] : List V)[jn]? = some (.int (v : Int)) ∧ v ≤ 1000000000 := by
        have : jn = 0 ∨ jn = 1 ∨ jn = 2 ∨ jn = 3 ∨ jn = 4 ∨ jn = 5 ∨ jn = 6 := by omega
        rcases this with rfl | rfl | rfl | rfl | rfl | rfl | rfl
        · exact ⟨0, rfl, by decide⟩
        · exact ⟨0, rfl, by decide⟩
        · exact ⟨1, rfl, by decide⟩
        · exact ⟨1, rfl, by decide⟩
        · exact ⟨2, rfl, by decide⟩
        · exact ⟨3, rfl, by decide⟩
        · exact ⟨7, rfl, by decide⟩
      refine ⟨p, _, _, _, rfl, rfl, .inl (.inl e3), atI_nat hv, hy _ (.int (v : Int)) H3 ((sj_same (same_upd hp)).trans s3) x3 (.int _) ⟨ns ++ [v], by rw [List.map_append]; rfl, fun x hx => ?_⟩⟩
      rcases List.mem_append.mp hx with z | z
      · exact hb x z
      · rw [List.mem_singleton.mp z]
        exact hv2
    · rintro D ys ds H2 nD hD0 s2 x2 e2 hl ⟨ns, rfl, hb⟩ q2
      rw [List.length_map] at hl
      obtain rfl := dpa_nats q2
      have hend : ∀ (ns : List Nat) H4, SJ J H H4 → JugAt H4 J → H4 D = some (.lst (ns.map fun (n : Nat) => V.int (n : Int))) → goodRow n ns → ∃ p ys, [V.ref D] = [V.ref p] ∧ ((SqL K H4 p ys ∧ ∀ l, H4 l = none → Q (.ref l) (upd H4 l (.tup ys))) ∨ (SqT K H4 p ys ∧ Q (.ref p) H4)) := fun ns H4 s4 x4 e4 g4 =>
        ⟨D, _, rfl, .inl ⟨.inl (.inl e4), fun l hl => q _ ns _ (s4.trans (sj_same (same_upd hl))) (jug_same (same_upd hl) x4) g4 (dp_tup_new hl s4.dom dpa_of_nats)⟩⟩
      refine ⟨_, rfl, D, ns.map (fun (n : Nat) => (n : Int)), rfl, .inl (.inl (by rw [← nat_ints]; exact e2)), rfl, _, rfl, ?_⟩
      by_cases h0 : V.int ((ns.map (fun (n : Nat) => (n : Int))).sum) = V.int 0
      · rw [decide_eq_true h0]
        refine iteT ?_
        refine ⟨_, _, rfl, rfl, ⟨by decide, by decide, by decide⟩, by show 3 ≤ sizeLine; decide, fun p hp => ?_⟩
        have np : p ≠ J := fun z => by
          have := jug_told x2
          rw [← z, hp] at this
          cases this
        have npD : D ≠ p := ne_of_none e2 hp
        refine ⟨_, rfl, J, 3, rfl, jug_upd x2 np, by decide, by decide, fun j H3 hj1 hj2 s3 x3 => ?_⟩
        obtain ⟨jn, rfl⟩ : ∃ jn : Nat, j = (jn : Int) := ⟨j.toNat, by omega⟩
        have e3 := s3.to p _ np upd_same
        have eD3 := s3.to D _ nD ((upd_ne npD).trans e2)
        obtain ⟨v, hv, hv2⟩ : ∃ v : Nat, ([V.int 1, .int 2, .int ((10 : Int) ^ (9 : Int).toNat)] : List V)[jn]? = some (.int (v : Int)) ∧ v ≤ 1000000000 := by
          have : jn = 0 ∨ jn = 1 ∨ jn = 2 := by omega
          rcases this with rfl | rfl | rfl
          · exact ⟨1, rfl, by decide⟩
          · exact ⟨2, rfl, by decide⟩
          · exact ⟨1000000000, rfl, by decide⟩
        refine ⟨p, _, _, _, rfl, rfl, .inl (.inl e3), atI_nat hv, ?_⟩
        refine ⟨_, rfl, _, rfl, _, rfl, J, n, rfl, x3, by omega, by omega, fun k H4 hk1 hk2 s4 x4 => ?_⟩
        obtain ⟨kn, rfl⟩ : ∃ kn : Nat, k = (kn : Int) := ⟨k.toNat, by omega⟩
        have hkn : kn < ns.length := by omega
        have eD4 := s4.to D _ nD eD3
        refine ⟨D, _, _, kn, rfl, rfl, eD4, ?_, ?_⟩
        · unfold ixN
          rw [List.length_map, if_pos (by omega), if_pos (by omega)]
          rfl
        · have es : (ns.map fun (n : Nat) => V.int (n : Int)).set kn (.int (v : Int)) = (ns.set kn v).map fun (n : Nat) => V.int (n : Int) := by rw [List.map_set]
          rw [es]
          have s24 : SJ J H2 H4 := ((sj_same (same_upd hp)).trans s3).trans s4
          refine ⟨_, rfl, ?_⟩
          refine hend (ns.set kn v) _ ⟨fun b o nb e => ?_, fun b e => ?_⟩ (jug_upd x4 nD) upd_same ⟨by rw [List.length_set]; exact hl, fun x hx => ?_⟩
          · rw [upd_ne (ne_of_none e hD0)]
            exact s24.to b o nb (s2.to b o nb e)
          · by_cases z : b = D
            · rw [z, upd_same]
              rfl
            · rw [upd_ne z]
              exact s24.dom b (s2.dom b e)
          · rcases List.mem_or_eq_of_mem_set hx with z | z
            · exact hb x z
            · rw [z]
              exact hv2
      · rw [decide_eq_false h0]
        exact iteF ⟨_, rfl, hend ns H2 s2 x2 e2 ⟨hl, hb⟩⟩
end
end K5
set_option Elab.async false
set_option linter.all false
set_option maxRecDepth 100000
set_option maxHeartbeats 4000000
/-! The law's talks and pairs. -/
namespace K5
open PySem PySem.Spec PyProof.Rows L2
theorem erase_map {α β : Type} (f : α → β) : ∀ (l : List α) (i : Nat), (l.map f).eraseIdx i = (l.eraseIdx i).map f
  | [], _ => rfl
  | _ :: _, 0 => rfl
  | a :: l, i + 1 => congrArg (f a :: ·) (erase_map f l i)
def sp_talk (K : PySem.W.Frag) : Sp := fun vs H Q _ => ∃ (J : Addr) (n : Nat), vs = [.ref J, .int n] ∧ JugAt H J ∧ 1 ≤ n ∧ n ≤ 100 ∧ ∀ y rows H', SJ J H H' → JugAt H' J → goodTalk n rows → Dp K (nw H H') y (talkD rows) → Q y H'
theorem sc_talk : FnScope ["_law_jug_here", "_law_size", "_law_k"] ["_law_jug_here", "_law_size"] (defScope s_law_talk) := ⟨rfl, rfl, rfl, by decide +kernel, rfl, by decide +kernel, by decide +kernel⟩
def okName (x : Str) : Prop := okS x ∧ x.length ≤ 8
structure OkPair (n : Nat) (names : List Str) (talks : List (List (List Nat))) : Prop where
  len : names.length = n
  n1 : 1 ≤ n
  n4 : n ≤ 4
  nm : ∀ x ∈ names, okName x
  tl : talks.length ≤ 4
  tk : ∀ t ∈ talks, goodTalk n t
def talksD (talks : List (List (List Nat))) : PyData := .tuple (talks.map talkD)
def sp_pair (K : PySem.W.Frag) : Sp := fun vs H Q _ => ∃ (J : Addr), vs = [.ref J, .int 4] ∧ JugAt H J ∧ ∀ y n names talks H', SJ J H H' → JugAt H' J → OkPair n names talks → Dp K (nw H H') y (.list [mindsD names, talksD talks]) → Q y H'
abbrev nPA : List Str := ["_law_jug_here", "_law_most_here", "_law_size", "_law_pool", "_law_heads_here", "_law_k"]
theorem sc_pair : FnScope nPA ["_law_jug_here", "_law_most_here"] (defScope s_law_pair) := ⟨rfl, rfl, rfl, by decide +kernel, rfl, by decide +kernel, by decide +kernel⟩
def pool : List Str := ["ann", "bob", "cyd", "d2", "e", "z9999999", "abe", "x"]
theorem pool_ok : ∀ x ∈ pool, okName x := by
  intro x hx
  have : (pool.all fun x => decide (x.length ≤ 8) && (TL.tl x).all fun c => decide (c < 128)) = true := by decide
  have h := List.all_eq_true.mp this x hx
  rw [Bool.and_eq_true, decide_eq_true_eq, List.all_eq_true] at h
  exact ⟨fun c hc => by simpa using h.2 c hc, h.1⟩
section
variable {P : Program} {w : World} {K : PySem.W.Frag} {mg : Str → Option Value} {base : Heap}
theorem ok_talk (T : Tx K mg) : Df P w K mg base CX0 3 (ga "_law_talk" K) ["_law_jug_here", "_law_size"] (sp_talk K) := by
  obtain ⟨fd, F⟩ := T.f__law_talk
  have nd := sc_talk.nd
  refine ⟨fd, F.ok sc_talk (fun vs H Q E h => ?_) (fun cdv A outer s H vs Q E hr h => ⟨_, pss_one (ps_ret (pe_callTy call_tuple_of (by rfl) T.b_tuple (by decide +kernel) (pa_cons
      (pe_lc (own := [("_law_k", 2)]) (g := gName 2) (tt := tYes) rfl nd (pi_range1 (by rfl) T.b_range (pa_cons (pv 1) pa_nil))
        (blkOk_by (N := ["_law_jug_here", "_law_size", "_law_k"]) (sc := defScope s_law_talk) (by decide +kernel)) (fun _ _ _ _ _ => pg_name (i := 2) nd rfl (Or.inl rfl)) (fun _ _ _ _ _ => pts_nil)
        (fun _ _ _ _ _ => pe_d (ok_row T) hr T.g__law_row (pa_cons (pv 0) (pa_cons (pv 1) pa_nil)))) pa_nil))), ?_⟩), F.kp,
    F.binds fun _ _ _ _ _ _ us hl => match us, hl with | [_, _], _ => rfl⟩
  · obtain ⟨J, n, rfl, _⟩ := h
    rfl
  · obtain ⟨J, n, rfl, hJ, hn1, hn, q⟩ := h
    refine rt1 (cb1 (lc_jug (K := K) hJ n (fun ds => ∃ rows : List (List Nat), ds = rows.map natsD ∧ ∀ r ∈ rows, goodRow n r) (by omega) (fun R hR => ⟨_, rfl, hR⟩) ?_ ⟨[], rfl, fun x hx => nomatch hx⟩ ?_))
    · rintro k H2 ds s2 x2 hl ⟨rows, rfl, hb⟩ Qy hy
      refine ⟨_, rfl, _, rfl, J, n, rfl, x2, hn1, hn, fun y ns H3 s3 x3 g3 d3 => hy y _ H3 s3 x3 d3 ⟨rows ++ [ns], by rw [List.map_append]; rfl, fun r hr => ?_⟩⟩
      rcases List.mem_append.mp hr with z | z
      · exact hb r z
      · rw [List.mem_singleton.mp z]
        exact g3
    · rintro D ys ds H2 nD hD0 s2 x2 e2 hl ⟨rows, rfl, hb⟩ q2
      rw [List.length_map] at hl
      exact ⟨D, ys, rfl, .inl ⟨.inl (.inl e2), fun l hl2 => q _ rows _ (s2.trans (sj_same (same_upd hl2))) (jug_same (same_upd hl2) x2) ⟨hl, hb⟩ (dp_tup_new hl2 s2.dom q2)⟩⟩
theorem ok_pair (T : Tx K mg) : Df P w K mg base CX0 4 (ga "_law_pair" K) ["_law_jug_here", "_law_most_here"] (sp_pair K) := by
  obtain ⟨fd, F⟩ := T.f__law_pair
  have nd := sc_pair.nd
  refine ⟨fd, F.ok sc_pair (fun vs H Q E h => ?_) (fun cdv A outer s H vs Q E hr h => ⟨_, pss_cons (ps_set (i := 2) nd rfl (by first | exact Or.inl rfl | exact Or.inr rfl) (pe_op op_add pe_int (pe_d (ok_sip T) (hr.mono (by decide)) T.g__law_sip (pa_cons (pv 0) (pa_cons (pv 1) pa_nil)))))
    (pss_cons (ps_set (i := 3) nd rfl (Or.inl rfl) (pe_lst (pa_cons pe_str (pa_cons pe_str (pa_cons pe_str (pa_cons pe_str (pa_cons pe_str (pa_cons pe_str (pa_cons pe_str (pa_cons pe_str pa_nil))))))))))
    (pss_cons (ps_set (i := 4) nd rfl (Or.inl rfl) (pe_lst pa_nil))
    (pss_cons (ps_for PassesOwn.never rfl (pi_range1 (by rfl) T.b_range (pa_cons (pv 2) pa_nil)) (pg_name (i := 5) nd rfl (Or.inl rfl))
      (pss_one (ps_expr (pe_bm PySem.F.plainAttrs_list PySem.F.slot_list_append PySem.F.type_list_append mt_append (pv 4) (pa_cons
        (pe_bm PySem.F.plainAttrs_list PySem.F.slot_list_pop PySem.F.type_list_pop mt_popAt (pv 3) (pa_cons (pe_d (ok_sip T) (hr.mono (by decide)) T.g__law_sip (pa_cons (pv 0) (pa_cons (pe_callB call_len_seq (by rfl) T.b_len (by decide +kernel) (pa_cons (pv 3) pa_nil)) pa_nil))) pa_nil)) pa_nil)))))
    (pss_one (ps_ret (pe_lst (pa_cons (pe_callTy (call_tupleK K) (by rfl) T.b_tuple (by decide +kernel) (pa_cons (pv 4) pa_nil)) (pa_cons (pe_callTy (call_tupleK K) (by rfl) T.b_tuple (by decide +kernel) (pa_cons
      (pe_lc (own := [("_law_k", 5)]) (g := gName 5) (tt := tYes) rfl nd (pi_range1 (by rfl) T.b_range (pa_cons (pe_op op_add pe_int (pe_d (ok_sip T) (hr.mono (by decide)) T.g__law_sip (pa_cons (pv 0) (pa_cons pe_int pa_nil)))) pa_nil))
        (blkOk_by (N := nPA) (sc := defScope s_law_pair) (by decide +kernel)) (fun _ _ _ _ _ => pg_name (i := 5) nd rfl (Or.inl rfl)) (fun _ _ _ _ _ => pts_nil)
        (fun _ _ _ _ _ => pe_d (ok_talk T) hr T.g__law_talk (pa_cons (pv 0) (pa_cons (pv 2) pa_nil)))) pa_nil)) pa_nil)))))))), ?_⟩), F.kp,
    F.binds fun _ _ _ _ _ _ us hl => match us, hl with | [_, _], _ => rfl⟩
  · obtain ⟨J, rfl, _⟩ := h
    rfl
  · obtain ⟨J, rfl, hJ, q⟩ := h
    refine ⟨_, rfl, _, rfl, J, 4, rfl, hJ, by decide, by decide, fun k H1 hk1 hk2 s1 x1 => ⟨_, _, rfl, rfl, ?_⟩⟩
    obtain ⟨n, hn⟩ : ∃ n : Nat, 1 + k = (n : Int) := ⟨(1 + k).toNat, by omega⟩
    rw [show (fun i j => V.int (i + j)) (1 : Int) k = V.int (n : Int) from congrArg V.int hn]
    have hn1 : 1 ≤ n := by omega
    have hn4 : n ≤ 4 := by omega
    refine ⟨by show 8 ≤ sizeLine; decide, fun pP hP => ?_⟩
    have nPJ : pP ≠ J := fun z => by
      have := jug_told x1
      rw [← z, hP] at this
      cases this
    have x2 : JugAt (upd H1 pP (.lst (pool.map V.str))) J := jug_upd x1 nPJ
    have s2 : SJ J H (upd H1 pP (.lst (pool.map V.str))) := s1.trans (sj_same (same_upd hP))
    have e2 : upd H1 pP (.lst (pool.map V.str)) pP = some (.lst (pool.map V.str)) := upd_same
    have hP0 := s1.none hP
    show tSeq _ _ _ _ (upd H1 pP (.lst (pool.map V.str)))
    generalize upd H1 pP (.lst (pool.map V.str)) = H2 at x2 s2 e2
    refine ⟨Nat.zero_le _, fun pH hH => ?_⟩
    have nHP : pH ≠ pP := fun z => by
      rw [z, e2] at hH
      cases hH
    have nHJ : pH ≠ J := fun z => by
      have := jug_told x2
      rw [← z, hH] at this
      cases this
    have hH0 := s2.none hH
    refine ⟨_, rfl, (n : Int), rfl, by omega, by omega, ?_⟩
    rw [Int.toNat_natCast]
    refine for_it walk_range (fun i σ H3 => SJ J H H3 ∧ JugAt H3 J ∧ (∃ o, σ = [some (.ref J), some (.int 4), some (.int n), some (.ref pP), some (.ref pH), o]) ∧
      ∃ ps hs : List Str, H3 pP = some (.lst (ps.map V.str)) ∧ H3 pH = some (.lst (hs.map V.str)) ∧ ps.length + i = 8 ∧ hs.length = i ∧ (∀ x ∈ ps, okName x) ∧ ∀ x ∈ hs, okName x)
      ⟨s2.trans (sj_same (same_upd hH)), jug_upd x2 nHJ, ⟨_, rfl⟩, pool, [], (upd_ne (Ne.symm nHP)).trans e2, upd_same, rfl, rfl, pool_ok, fun x hx => nomatch hx⟩ (fun _ _ _ _ _ => trivial) ?_ ?_
    · rintro i v σ _ H3 hi ⟨s3, x3, ⟨o, rfl⟩, ps, hs, eP, eH, hpl, hhl, hpo, hho⟩ ⟨rfl, rfl⟩
      refine ⟨_, rfl, .inl ⟨rfl, _, .inl (.inl eH)⟩, _, rfl, .inl ⟨rfl, _, .inl (.inl eP)⟩, ?_⟩
      refine ⟨_, rfl, _, rfl, pP, _, rfl, .inl (.inl (.inl eP)), J, _, rfl, x3, by rw [List.length_map]; omega, by rw [List.length_map]; omega, fun j H4 hj1 hj2 s4 x4 => ?_⟩
      rw [List.length_map] at hj2
      obtain ⟨jn, rfl⟩ : ∃ jn : Nat, j = (jn : Int) := ⟨j.toNat, by omega⟩
      have hjn : jn < ps.length := by omega
      have eP4 := s4.to _ _ nPJ eP
      have eH4 := s4.to _ _ nHJ eH
      have hix : ixN (ps.map V.str).length (jn : Int) = some jn := by
        unfold ixN
        rw [List.length_map, if_pos (by omega), if_pos (by omega)]
        rfl
      refine ⟨pP, _, (jn : Int), jn, .str ps[jn], rfl, rfl, eP4, by omega, by omega, (ixN_seq hix).1, by rw [List.getElem?_map, List.getElem?_eq_getElem hjn]; rfl, ?_⟩
      have em : (ps.map V.str).eraseIdx jn = (ps.eraseIdx jn).map V.str := erase_map V.str ps jn
      have eH5 : upd H4 pP (.lst ((ps.map V.str).eraseIdx jn)) pH = some (.lst (hs.map V.str)) := (upd_ne nHP).trans eH4
      refine ⟨pH, _, .str ps[jn], rfl, rfl, eH5, by rw [List.length_map, sizeLine_eq]; omega, ?_⟩
      refine ⟨⟨fun b o nb e => ?_, fun b e => ?_⟩, jug_upd (jug_upd x4 nPJ) nHJ, ⟨_, rfl⟩, ps.eraseIdx jn, hs ++ [ps[jn]], ?_, ?_, ?_, ?_, fun x hx => hpo x (List.mem_of_mem_eraseIdx hx), fun x hx => ?_⟩
      · rw [upd_ne (ne_of_none e hH0), upd_ne (ne_of_none e hP0)]
        exact s4.to b o nb (s3.to b o nb e)
      · have h5 := s4.dom b (s3.dom b e)
        by_cases z : b = pH
        · rw [z, upd_same]
          rfl
        · rw [upd_ne z]
          by_cases z2 : b = pP
          · rw [z2, upd_same]
            rfl
          · rw [upd_ne z2]
            exact h5
      · rw [upd_ne (Ne.symm nHP), upd_same, em]
      · rw [upd_same, List.map_append]
        rfl
      · rw [List.length_eraseIdx_of_lt hjn]
        omega
      · rw [List.length_append, hhl]
        rfl
      · rcases List.mem_append.mp hx with z | z
        · exact hho x z
        · rw [List.mem_singleton.mp z]
          exact hpo _ (List.getElem_mem hjn)
    · rintro σ H3 ⟨s3, x3, ⟨o, rfl⟩, ps, hs, eP, eH, hpl, hhl, hpo, hho⟩
      refine ⟨_, rfl, pH, _, rfl, .inl ⟨.inl (.inl eH), fun pm hpm => ?_⟩⟩
      have nmJ : pm ≠ J := fun z => by
        have := jug_told x3
        rw [← z, hpm] at this
        cases this
      have dm : Dp K (nw H (upd H3 pm (.tup (hs.map V.str)))) (.ref pm) (mindsD hs) := dp_tup_new hpm s3.dom dpa_of_strs
      have s4 : SJ J H (upd H3 pm (.tup (hs.map V.str))) := s3.trans (sj_same (same_upd hpm))
      have x4 : JugAt (upd H3 pm (.tup (hs.map V.str))) J := jug_same (same_upd hpm) x3
      generalize upd H3 pm (.tup (hs.map V.str)) = H4 at dm s4 x4
      have hJs := jug_told hJ
      refine ca1 (cb1 (lc_jug2 (K := K) (J := J) (fun n => n ≤ 4) (fun ds => ∃ ts : List (List (List Nat)), ds = ts.map talkD ∧ ∀ t ∈ ts, goodTalk n t) (fun n h => Nat.le_trans h (by decide)) (fun R hR => ?_) ?_ ⟨[], rfl, fun x hx => nomatch hx⟩ ?_))
      · refine ⟨_, rfl, J, 4, rfl, x4, by decide, by decide, fun k2 H5 hk3 hk4 s5 x5 => ⟨_, _, rfl, rfl, ?_⟩⟩
        obtain ⟨kn, rfl⟩ : ∃ kn : Nat, k2 = (kn : Int) := ⟨k2.toNat, by omega⟩
        have := hR (1 + kn) H5 (by omega) s5 x5
        rw [show ((1 + kn : Nat) : Int) = 1 + (kn : Int) by omega] at this
        exact this
      · rintro H5 s5 k3 H6 ds s6 x6 ⟨ts, rfl, hb⟩ Qy hy
        refine ⟨_, rfl, _, rfl, J, n, rfl, x6, hn1, (Nat.le_trans hn4 (by decide)), fun y rows H7 s7 x7 g7 d7 => hy y _ H7 s7 x7 d7 ⟨ts ++ [rows], by rw [List.map_append]; rfl, fun t ht => ?_⟩⟩
        rcases List.mem_append.mp ht with z | z
        · exact hb t z
        · rw [List.mem_singleton.mp z]
          exact g7
      · rintro H5 s5 D ys ds H6 nD hD0 s6 x6 e6 hl ⟨ts, rfl, hb⟩ q6
        rw [List.length_map] at hl
        refine ⟨D, ys, rfl, .inl ⟨.inl (.inl e6), fun pt hpt => ⟨by show 2 ≤ sizeLine; decide, fun pf hpf => ?_⟩⟩⟩
        have s56 : SJ J H H6 := (s4.trans s5).trans s6
        have dt : Dp K (nw H (upd H6 pt (.tup ys))) (.ref pt) (talksD ts) := dp_tup_new hpt s56.dom (dp_sameAll (nw_up (s4.trans s5).dom) _ _ q6)
        have s7 : SJ J H4 (upd H6 pt (.tup ys)) := (s5.trans s6).trans (sj_same (same_upd hpt))
        have dm7 := dp_jug s7 hJs dm
        have x7 : JugAt (upd H6 pt (.tup ys)) J := jug_same (same_upd hpt) x6
        generalize upd H6 pt (.tup ys) = H7 at *
        refine q _ n hs ts _ ((s4.trans s7).trans (sj_same (same_upd hpf))) (jug_same (same_upd hpf) x7) ⟨hhl, hn1, hn4, hho, hl, hb⟩ (dp_lst_new hpf (s4.trans s7).dom (.cons dm7 (.cons dt .nil)))
end
end K5
set_option Elab.async false
set_option linter.all false
set_option maxRecDepth 100000
set_option maxHeartbeats 4000000
/-! The law's page, and its jug's making. -/
namespace K5
open PySem PySem.Spec PyProof.Rows L2
def sp_page (K : PySem.W.Frag) : Sp := fun vs H Q _ => ∃ (v v2 : V) (n : Nat) (names : List Str) (talks : List (List (List Nat))), vs = [v, v2] ∧ Dp K H v (mindsD names) ∧ Dp K H v2 (talksD talks) ∧ OkPair n names talks ∧ ∀ x H', Same H H' → okS x → x.length ≤ 1000 → Q (.str x) H'
abbrev nPG : List Str := ["_law_heads_here", "_law_talks", "_law_rows_here", "_law_talk_here", "_law_row_here", "_law_one"]
theorem sc_page : FnScope nPG ["_law_heads_here", "_law_talks"] (defScope s_law_page) := ⟨rfl, rfl, rfl, by decide +kernel, rfl, by decide +kernel, by decide +kernel⟩
def sp_jug (K : PySem.W.Frag) : Sp := fun vs H Q _ => ∃ (S : Addr) (ns : List Int) (at_ : Nat), vs = [.ref S, .int at_] ∧ SqL K H S (ns.map V.int) ∧ ∀ J H', Same H H' → H J = none → JugAt H' J → Q (.ref J) H'
abbrev nJU : List Str := ["_law_script", "_law_at", "_law_figure_here", "_law_seed", "_law_each"]
theorem sc_jug : FnScope nJU ["_law_script", "_law_at"] (defScope s_law_jug) := ⟨rfl, rfl, rfl, by decide +kernel, rfl, by decide +kernel, by decide +kernel⟩
def numX (n : Nat) : Str := Str.ofString (toString ((n : Nat) : Int))
def rowX (ns : List Nat) : Str := Txt.join "," (ns.map numX)
theorem okS_lit {x : Str} (h : (TL.tl x).all (fun c => decide (c < 128)) = true) : okS x := fun c hc => by
  have := List.all_eq_true.mp h c hc
  simpa using this
theorem row_ok {n : Nat} {ns : List Nat} (hn : n ≤ 4) (g : goodRow n ns) : okS (rowX ns) ∧ (rowX ns).length ≤ 44 ∧ (∀ t ∈ ns.map numX, t.length ≤ 10) := by
  have h1 : ∀ t ∈ ns.map numX, t.length ≤ 10 := fun t ht => by
    obtain ⟨m, hm, rfl⟩ := List.mem_map.mp ht
    exact num_len (g.2 m hm)
  refine ⟨okS_join (okS_lit (by decide)) fun t ht => ?_, (join_len "," 10 4 _ (by rw [List.length_map, g.1]; exact hn) h1).2, h1⟩
  obtain ⟨m, hm, rfl⟩ := List.mem_map.mp ht
  exact okS_num m
section
variable {P : Program} {w : World} {K : PySem.W.Frag} {mg : Str → Option Value} {base : Heap}
theorem ok_page (T : Tx K mg) : Df P w K mg base CX0 1 (ga "_law_page" K) ["_law_heads_here", "_law_talks"] (sp_page K) := by
  obtain ⟨fd, F⟩ := T.f__law_page
  have nd := sc_page.nd
  refine ⟨fd, F.ok sc_page (fun vs H Q E h => ?_) (fun cdv A outer s H vs Q E hr h => ⟨_, pss_cons (ps_set (i := 2) nd rfl (Or.inl rfl) (pe_lst (pa_cons (pe_joinK K pe_str (pv 0)) pa_nil)))
    (pss_cons (ps_for PassesOwn.never rfl (pi_tup (pv 1)) (pg_name (i := 3) nd rfl (Or.inl rfl))
      (pss_one (ps_expr (pe_bm PySem.F.plainAttrs_list PySem.F.slot_list_append PySem.F.type_list_append mt_append (pv 2) (pa_cons (pe_joinK K pe_str
        (pe_lc (own := [("_law_row_here", 4)]) (g := gName 4) (tt := tYes) rfl nd (pi_tupK K (pv 3)) (blkOk_by (N := nPG) (sc := defScope s_law_page) (by decide +kernel)) (fun _ _ _ _ _ => pg_name (i := 4) nd rfl (Or.inl rfl)) (fun _ _ _ _ _ => pts_nil)
          (fun _ _ _ _ _ => pe_joinK K pe_str
            (pe_lc (own := [("_law_one", 5)]) (g := gName 5) (tt := tYes) rfl nd (pi_tupK K (pv 4)) (blkOk_by (N := nPG) (sc := relS _ (defScope s_law_page)) (by decide +kernel)) (fun _ _ _ _ _ => pg_name (i := 5) nd rfl (Or.inl rfl)) (fun _ _ _ _ _ => pts_nil)
              (fun _ _ _ _ _ => pe_callTy call_str_int (by rfl) T.b_str (by decide +kernel) (pa_cons (pv 5) pa_nil)))))) pa_nil)))))
    (pss_one (ps_ret (pe_joinK K pe_str (pv 2))))), ?_⟩), F.kp,
    F.binds fun _ _ _ _ _ _ us hl => match us, hl with | [_, _], _ => rfl⟩
  · obtain ⟨v, v2, n, names, talks, rfl, _⟩ := h
    rfl
  · obtain ⟨v, v2, n, names, talks, rfl, hv, hv2, ok, q⟩ := h
    obtain ⟨a, xs, rfl, hs, hx⟩ := dp_tup hv
    obtain rfl := dpa_strs hx
    obtain ⟨a2, xs2, rfl, hs2, hx2⟩ := dp_tup hv2
    have hxl := dpa_mapLen hx2
    have hnl := ok.len
    have hn4 := ok.n4
    obtain ⟨j1, j2⟩ := join_len " " 8 4 names (by omega) fun t ht => (ok.nm t ht).2
    have e1 : (" " : Str).length = 1 := by decide
    have okH : okS (Txt.join " " names) := okS_join (okS_lit (by decide)) fun t ht => (ok.nm t ht).1
    refine ⟨⟨" ", rfl⟩, _, rfl, " ", a, names, rfl, rfl, .inr hs, by omega, by show 1 ≤ sizeLine; decide, fun pl hpl => ?_⟩
    refine ⟨_, rfl, a2, rfl, ⟨_, sqT_same (same_upd hpl) hs2⟩, ?_⟩
    refine for_it walk_tup (fun i σ H1 => Same H H1 ∧ (∃ o1 o2 o3, σ = [some (.ref a), some (.ref a2), some (.ref pl), o1, o2, o3]) ∧ ∃ ts : List Str, H1 pl = some (.lst (ts.map V.str)) ∧ ts.length = i + 1 ∧ ∀ t ∈ ts, okS t ∧ t.length ≤ 180)
      ⟨same_upd hpl, ⟨_, _, _, rfl⟩, [Txt.join " " names], upd_same, rfl, fun t ht => by rw [List.mem_singleton.mp ht]; exact ⟨okH, by omega⟩⟩ (fun i σ H1 _ h => sqT_same h.1 hs2) ?_ ?_
    · rintro i v σ _ H1 hi ⟨s1, ⟨o1, o2, o3, rfl⟩, ts, ht, htl, htb⟩ ⟨rfl, hv⟩
      rw [hxl] at hi
      have hd : Dp K H1 v (talkD talks[i]) := dp_same s1 _ _ (dpa_get hx2 hi hv)
      have gt := ok.tk _ (List.getElem_mem hi)
      generalize talks[i] = rows at hd gt
      obtain ⟨b, ys, rfl, hb, hy⟩ := dp_tup hd
      have hyl := dpa_mapLen hy
      have hrl := gt.1
      refine ⟨_, rfl, .inl ⟨rfl, _, .inl (.inl ht)⟩, ⟨" ", rfl⟩, ?_⟩
      refine lc_tup1 (K := K) H1 in_self ys (fun j => .str (rowX (rows.getD j []))) (by rw [hyl, sizeLine_eq]; omega) (fun R hR => ⟨_, rfl, hR b H1 (Same.refl H1) hb⟩) ?_ ?_
      · intro j v H2 hv s2 Qy hqy
        have hj : j < rows.length := by
          have := (List.getElem?_eq_some_iff.mp hv).1
          omega
        have hd2 : Dp K H2 v (natsD rows[j]) := dp_same s2 _ _ (dpa_get hy hj hv)
        have gr := gt.2 _ (List.getElem_mem hj)
        rw [mem_getD hj] at hqy
        generalize rows[j] = ns at hd2 gr hqy
        obtain ⟨d, zs, rfl, hz, hzs⟩ := dp_tup hd2
        obtain rfl := dpa_nats hzs
        obtain ⟨r1, r2, r3⟩ := row_ok hn4 gr
        have hgl := gr.1
        refine ⟨⟨",", rfl⟩, ?_⟩
        refine lc_tup1 (K := K) H2 in_self (ns.map fun (n : Nat) => V.int (n : Int)) (fun j => .str (numX (ns.getD j 0))) (by rw [List.length_map, sizeLine_eq]; omega) (fun R hR => ⟨_, rfl, hR d H2 (Same.refl H2) hz⟩) ?_ ?_
        · intro j3 v3 H3 hv3 s3 Qz hqz
          have hj3 : j3 < ns.length := by
            have := (List.getElem?_eq_some_iff.mp hv3).1
            simpa using this
          have ev : v3 = .int ((ns[j3] : Nat) : Int) := by
            rw [List.getElem?_map, List.getElem?_eq_getElem hj3] at hv3
            exact (Option.some.inj hv3).symm
          subst ev
          rw [mem_getD hj3] at hqz
          refine ⟨_, rfl, _, rfl, ?_, hqz _ _ (Same.refl _) (.str _)⟩
          rw [Int.natAbs_natCast]
          exact log_of (Nat.lt_of_le_of_lt (gr.2 _ (List.getElem_mem hj3)) (by decide))
        · intro D ws H3 s3 e3 q3 _
          rw [List.length_map, range_getD ns 0 fun n => PyData.str (numX n)] at q3
          have ew : ws = (ns.map numX).map V.str := dpa_strs (by rw [List.map_map]; exact q3)
          refine ⟨",", D, ns.map numX, rfl, rfl, .inl (.inl (.inl (by rw [← ew]; exact e3))), ?_, hqy _ _ s3 (.str _)⟩
          have := (join_len "," 10 4 (ns.map numX) (by rw [List.length_map]; omega) r3).1
          have e3 : ("," : Str).length = 1 := by decide
          omega
      · intro D ws H2 s2 e2 q2 _
        rw [hyl, range_getD rows [] fun r => PyData.str (rowX r)] at q2
        have ew : ws = (rows.map rowX).map V.str := dpa_strs (by rw [List.map_map]; exact q2)
        have hb1 : ∀ t ∈ rows.map rowX, t.length ≤ 44 := fun t ht => by
          obtain ⟨r, hr, rfl⟩ := List.mem_map.mp ht
          exact (row_ok hn4 (gt.2 r hr)).2.1
        obtain ⟨j3, j4⟩ := join_len " " 44 4 (rows.map rowX) (by rw [List.length_map]; omega) hb1
        refine ⟨" ", D, rows.map rowX, rfl, rfl, .inl (.inl (.inl (by rw [← ew]; exact e2))), by omega, ?_⟩
        refine ⟨pl, _, _, rfl, rfl, s2 _ _ ht, by rw [List.length_map, sizeLine_eq]; have := ok.tl; omega, fun c o e => ?_, ⟨_, _, _, rfl⟩, ts ++ [Txt.join " " (rows.map rowX)], by rw [upd_same, List.map_append]; rfl, by rw [List.length_append, htl]; rfl, fun t htm => ?_⟩
        · rw [upd_ne (ne_of_none e hpl)]
          exact s2 _ _ (s1 _ _ e)
        · rcases List.mem_append.mp htm with z | z
          · exact htb t z
          · rw [List.mem_singleton.mp z]
            refine ⟨okS_join (okS_lit (by decide)) fun t ht => ?_, by omega⟩
            obtain ⟨r, hr, rfl⟩ := List.mem_map.mp ht
            exact (row_ok hn4 (gt.2 r hr)).1
    · rintro σ H1 ⟨s1, ⟨o1, o2, o3, rfl⟩, ts, ht, htl, htb⟩
      rw [hxl] at htl
      have h5 := ok.tl
      obtain ⟨j3, j4⟩ := join_len "\n" 180 5 ts (by omega) fun t ht => (htb t ht).2
      have e3 : ("\n" : Str).length = 1 := by decide
      exact ⟨⟨"\n", rfl⟩, _, rfl, "\n", pl, ts, rfl, rfl, .inl (.inl (.inl ht)), by omega, q _ H1 s1 (okS_join (okS_lit (by decide)) fun t ht => (htb t ht).1) (by omega)⟩
end
end K5
set_option Elab.async false
set_option linter.all false
set_option maxRecDepth 100000
set_option maxHeartbeats 4000000
/-! The law's jug is made; a page is bent. -/
namespace K5
open PySem PySem.Spec PyProof.Rows L2
def cutL {α : Type} (l : List α) (lo hi : Option Int) : List α := (l.drop (HT.sIx l.length 0 lo)).take (HT.sIx l.length l.length hi - HT.sIx l.length 0 lo)
theorem cutV_map {α : Type} (l : List α) (f : α → V) (lo hi : Option Int) : cutV (l.map f) lo hi = (cutL l lo hi).map f := by
  unfold cutV cutL
  rw [List.length_map, ← List.map_drop, ← List.map_take]
theorem cutL_mem {α : Type} {l : List α} {lo hi : Option Int} {x : α} (h : x ∈ cutL l lo hi) : x ∈ l := List.mem_of_mem_drop (List.mem_of_mem_take h)
theorem cutL_len {α : Type} (l : List α) (lo hi : Option Int) : (cutL l lo hi).length ≤ l.length := by
  unfold cutL
  rw [List.length_take, List.length_drop]
  omega
theorem cutL_wt (l : List Str) (lo hi : Option Int) : wt (cutL l lo hi) ≤ wt l := Nat.le_trans (wt_take _ _) (wt_drop _ _)
def sp_bent : Sp := fun vs H Q _ => ∃ (J : Addr) (x : Str), vs = [.ref J, .str x] ∧ JugAt H J ∧ okS x ∧ x.length ≤ 10000 ∧ ∀ y H', SJ J H H' → JugAt H' J → okS y → y.length ≤ 5 * x.length + 100 → Q (.str y) H'
abbrev nBE : List Str := ["_law_jug_here", "_law_page_here", "_law_way_here", "_law_at", "_law_sign", "_law_rows_here", "_law_here", "_law_there", "_law_terms", "_law_k"]
theorem sc_bent : FnScope nBE ["_law_jug_here", "_law_page_here"] (defScope s_law_bent) := ⟨rfl, rfl, rfl, by decide +kernel, rfl, by decide +kernel, by decide +kernel⟩
/-! ### expressions that give a new list of texts -/
def GivesL (te : TE) (σ : L2.St) (H : Hp) (l : List Str) : Prop := ∀ R : V → Hp → Prop, (∀ p H1, Same H H1 → H1 p = some (.lst (l.map V.str)) → R (.ref p) H1) → te σ H R
theorem gives_cat {ta tb : TE} {σ : L2.St} {H : Hp} {l1 l2 : List Str} (h1 : GivesL ta σ H l1) (h2 : ∀ H1, Same H H1 → GivesL tb σ H1 l2) (hz : l1.length + l2.length ≤ 1000000) : GivesL (tOp rCat ta tb) σ H (l1 ++ l2) := fun R hR =>
  h1 _ fun p1 H1 s1 e1 => h2 H1 s1 _ fun p2 H2 s2 e2 => ⟨p1, p2, _, _, rfl, rfl, s2 _ _ e1, e2, by rw [List.length_map, List.length_map, sizeLine_eq]; omega, fun p hp => hR p _ ((s1.trans s2).trans (same_upd hp)) (by rw [upd_same, List.map_append])⟩
theorem gives_slice {K : PySem.W.Frag} {te : TE} {tl th : L2.TO} {σ : L2.St} {H : Hp} {p : Addr} {l : List Str} {lo hi : Option Int} (ht : ∀ R : V → Hp → Prop, R (.ref p) H → te σ H R) (h : H p = some (.lst (l.map V.str)))
    (hl : ∀ R : Option Int → Hp → Prop, R lo H → tl σ H R) (hh : ∀ R : Option Int → Hp → Prop, R hi H → th σ H R) : GivesL (tSl (rSlL K) te tl th) σ H (cutL l lo hi) := fun R hR =>
  ht _ (hl _ (hh _ ⟨p, _, rfl, .inl (.inl h), fun p2 hp2 => hR p2 _ (same_upd hp2) (by rw [upd_same, cutV_map])⟩))
theorem gives_one {te : TE} {σ : L2.St} {H : Hp} {t : Str} (ht : ∀ R : V → Hp → Prop, (∀ H1, Same H H1 → R (.str t) H1) → te σ H R) : GivesL (tLst (tCons te tNil)) σ H [t] := fun R hR =>
  ht _ fun H1 s1 => ⟨by show 1 ≤ sizeLine; decide, fun p hp => hR p _ (s1.trans (same_upd hp)) upd_same⟩
theorem join_gives {K : PySem.W.Frag} {te : TE} {σ : L2.St} {H : Hp} {s : Str} {l : List Str} {Q : VK} (h : GivesL te σ H l) (hs : s.length = 1) (hz : wt l ≤ 1000000) (q : ∀ H1, Same H H1 → Q (.str (Txt.join s l)) H1) : tM1 (rJoinK K) (tC (.str s)) te σ H Q :=
  ⟨⟨s, rfl⟩, h _ fun p H1 s1 e1 => ⟨s, p, l, rfl, rfl, .inl (.inl (.inl e1)), by rw [(join_wt hs l).1]; omega, q H1 s1⟩⟩
theorem po_var {i : Nat} {σ : L2.St} {H : Hp} {n : Int} (e : σ[i]? = some (some (.int n))) : ∀ R : Option Int → Hp → Prop, R (some n) H → tPart (tVar i) σ H R := fun R hR => ⟨_, e, n, rfl, hR⟩
theorem po_var1 {i : Nat} {σ : L2.St} {H : Hp} {n : Int} (e : σ[i]? = some (some (.int n))) : ∀ R : Option Int → Hp → Prop, R (some (n + 1)) H → tPart (tOp (rI0 fun i j => V.int (i + j)) (tVar i) (tC (V.int 1))) σ H R := fun R hR => ⟨_, e, n, 1, rfl, rfl, n + 1, rfl, hR⟩
theorem po_no {σ : L2.St} {H : Hp} : ∀ R : Option Int → Hp → Prop, R none H → tNoPart σ H R := fun R hR => hR
theorem okS_cut {x : Str} (h : okS x) (lo hi : Option Int) : okS (cutS x lo hi) := fun c hc => h c (List.mem_of_mem_drop (List.mem_of_mem_take hc))
section
variable {P : Program} {w : World} {K : PySem.W.Frag} {mg : Str → Option Value} {base : Heap}
theorem ok_jug (T : Tx K mg) : Df P w K mg base CX0 1 (ga "_law_jug" K) ["_law_script", "_law_at"] (sp_jug K) := by
  obtain ⟨fd, F⟩ := T.f__law_jug
  have nd := sc_jug.nd
  refine ⟨fd, F.ok sc_jug (fun vs H Q E h => ?_) (fun cdv A outer s H vs Q E hr h => ⟨_, pss_cons (ps_set (i := 2) nd rfl (Or.inl rfl) (pe_ifExp (pt_cmpR op_lt (pv 1) (pe_callB call_len_seq (by rfl) T.b_len (by decide +kernel) (pa_cons (pv 0) pa_nil)) (nomark _)) (pe_ix ix_list (pv 0) (pv 1) (fun _ _ => rfl)) (pe_op op_add (pe_op op_mul pe_int (pv 1)) pe_int)))
    (pss_cons (ps_set (i := 3) nd rfl (Or.inl rfl) (pe_op op_add pe_int (pe_op op_mul pe_int (pv 1))))
    (pss_cons (ps_for PassesOwn.never rfl (pi_list (pe_op op_cat (pe_lst (pa_cons (pv 2) pa_nil)) (pe_slice sl_list (pv 0) po_none (po_some pe_int)))) (pg_name (i := 4) nd rfl (Or.inl rfl))
      (pss_one (ps_set (i := 3) nd rfl (Or.inl rfl) (pe_op op_mod (pe_callTy call_int1 (by rfl) T.b_int (by decide +kernel) (pa_cons (pe_op op_add (pe_op op_mul (pv 3) pe_int) (pv 4)) pa_nil)) pe_int))))
    (pss_one (ps_ret (pe_lst (pa_cons (pe_ifExp (pt_cmpR op_ge (pe_callB call_abs (by rfl) T.b_abs (by decide +kernel) (pa_cons (pv 2) pa_nil)) (pe_op op_pow pe_int pe_int) (nomark _)) (pe_callB call_abs (by rfl) T.b_abs (by decide +kernel) (pa_cons (pv 2) pa_nil)) pe_int) (pa_cons (pv 3) (pa_cons pe_int pa_nil)))))))), ?_⟩), F.kp,
    F.binds fun _ _ _ _ _ _ us hl => match us, hl with | [_, _], _ => rfl⟩
  · obtain ⟨S, ns, at_, rfl, _⟩ := h
    rfl
  · obtain ⟨S, ns, at_, rfl, hS, q⟩ := h
    refine ⟨_, rfl, _, rfl, S, _, rfl, .inl hS, _, _, rfl, rfl, _, rfl, ?_⟩
    rw [List.length_map]
    refine ite2 (fun h => ?a) (fun h => ?b)
    case' a =>
      have h1 : at_ < ns.length := by have := of_decide_eq_true h; omega
      refine ⟨_, rfl, _, rfl, S, _, (at_ : Int), .int ns[at_], rfl, rfl, hS, atI_nat (by rw [List.getElem?_map, List.getElem?_eq_getElem h1]; rfl), ?_⟩
      generalize ns[at_] = f
    case' b =>
      refine ⟨_, rfl, _, _, rfl, rfl, .inl ⟨by decide, by decide⟩, _, _, rfl, rfl, ?_⟩
      show gName 2 (V.int (53 * (at_ : Int) + 11)) _ _ _
      generalize 53 * (at_ : Int) + 11 = f
    all_goals
      refine ⟨_, rfl, _, _, rfl, rfl, .inl ⟨by decide, by decide⟩, _, _, rfl, rfl, ?_⟩
      refine ⟨_, rfl, by show 1 ≤ sizeLine; decide, fun p1 hp1 => ?_⟩
      refine ⟨_, rfl, 6, rfl, S, _, rfl, (same_upd hp1).seq hS, fun p2 hp2 => ?_⟩
      rw [cutV_map]
      have s2 : Same H (upd (upd H p1 (.lst [.int f])) p2 (.lst ((cutL ns none (some 6)).map V.int))) := (same_upd hp1).trans (same_upd hp2)
      have e1 : upd (upd H p1 (.lst [.int f])) p2 (.lst ((cutL ns none (some 6)).map V.int)) p1 = some (.lst [.int f]) := same_upd hp2 _ _ upd_same
      refine ⟨p1, p2, _, _, rfl, rfl, e1, upd_same, ?_, fun pc hpc => ?_⟩
      · have := HT.sIx_nat ns.length ns.length 6
        rw [List.length_map, sizeLine_eq]
        have h9 : (cutL ns none (some 6)).length ≤ 6 := by
          unfold cutL
          rw [List.length_take]
          have : HT.sIx ns.length ns.length (some 6) ≤ 6 := by
            rw [show (6 : Int) = ((6 : Nat) : Int) from rfl, HT.sIx_nat]
            omega
          omega
        show 1 + _ ≤ _
        omega
      · have ec : ([V.int f] ++ (cutL ns none (some 6)).map V.int) = (f :: cutL ns none (some 6)).map V.int := rfl
        rw [ec]
        refine ⟨pc, rfl, ⟨_, .inl (.inl upd_same)⟩, ?_⟩
        have s3 := s2.trans (same_upd (o := .lst ((f :: cutL ns none (some 6)).map V.int)) hpc)
        refine for_it (walk_list (xs := (f :: cutL ns none (some 6)).map V.int)) (fun i σ H1 => Same H H1 ∧ H1 pc = some (.lst ((f :: cutL ns none (some 6)).map V.int)) ∧ ∃ (sd : Int) (o : Option V), σ = [some (.ref S), some (.int at_), some (.int f), some (.int sd), o])
          ⟨s3, upd_same, _, _, rfl⟩ (fun i σ H1 _ h => .inl (.inl h.2.1)) ?_ ?_
        · rintro i v σ _ H1 hi ⟨s4, e4, sd, o, rfl⟩ ⟨rfl, hv⟩
          obtain ⟨z, rfl⟩ : ∃ z : Int, v = .int z := by
            rw [List.getElem?_map] at hv
            cases e : (f :: cutL ns none (some 6))[i]? with
            | none => rw [e] at hv; cases hv
            | some z => rw [e] at hv; exact ⟨z, (Option.some.inj hv).symm⟩
          refine ⟨_, rfl, _, _, rfl, rfl, .inr ⟨by decide, by decide⟩, _, rfl, _, _, rfl, rfl, .inl ⟨_, rfl, _, _, rfl, rfl, (show (0 : Int) < 2147483269 by decide), s4, e4, _, _, rfl⟩⟩
        · rintro σ H1 ⟨s4, e4, sd, o, rfl⟩
          have fin : ∀ (z : Int) H2, H2 = H1 → (3 ≤ sizeLine ∧ ∀ p, H2 p = none → Q (.ref p) (upd H2 p (.lst [.int z, .int sd, .int 0]))) := fun z H2 e => by
            subst e
            exact ⟨by decide, fun p hp => q p _ (s4.trans (same_upd hp)) (by
              cases e : H p with
              | none => rfl
              | some o => rw [s4 _ _ e] at hp; cases hp) ⟨_, _, _, upd_same⟩⟩
          refine ⟨_, rfl, _, rfl, _, _, rfl, rfl, ⟨by decide, by decide, by decide⟩, _, _, rfl, rfl, _, rfl, ?_⟩
          refine ite2 (fun h => ⟨_, rfl, _, rfl, _, rfl, fin _ _ rfl⟩) (fun h => ⟨_, rfl, fin _ _ rfl⟩)
theorem ok_bent (T : Tx K mg) : Df P w K mg base CX0 2 (ga "_law_bent" K) ["_law_jug_here", "_law_page_here"] sp_bent := by
  obtain ⟨fd, F⟩ := T.f__law_bent
  have nd := sc_bent.nd
  have hc : (∀ {X : Cx}, True) := trivial
  refine ⟨fd, F.ok sc_bent (fun vs H Q E h => ?_) (fun cdv A outer s H vs Q E hr h => ⟨_, pss_cons (ps_par (i := 2) (j := 3) (by rfl) nd rfl rfl (by decide) rfl rfl (pa_cons (pe_d (ok_sip T) hr T.g__law_sip (pa_cons (pv 0) (pa_cons pe_int pa_nil))) (pa_cons (pe_d (ok_sip T) hr T.g__law_sip (pa_cons (pv 0) (pa_cons (pe_op op_add (pe_callB call_len_str (by rfl) T.b_len (by decide +kernel) (pa_cons (pv 1) pa_nil)) pe_int) pa_nil))) pa_nil)) (by rfl))
    (pss_cons (ps_par (i := 4) (j := 5) (by rfl) nd rfl rfl (by decide) rfl rfl (pa_cons (pe_ix ix_str pe_str (pe_d (ok_sip T) hr T.g__law_sip (pa_cons (pv 0) (pa_cons pe_int pa_nil))) (fun _ _ => rfl)) (pa_cons (pe_split (pv 1) pe_str) pa_nil)) (by rfl))
    (pss_cons (ps_if (pt_cmpR op_lt (pv 2) pe_int (nomark _)) (pss_one (ps_ret (pe_op op_add_str (pe_op op_add_str (pe_slice sl_str (pv 1) po_none (po_some (pv 3))) (pe_ifExp (pt_cmpR op_eq (pv 2) pe_int (nomark _)) pe_str (pv 4)))
        (pe_slice sl_str (pv 1) (po_some (pe_op op_add (pv 3) (pe_ix ix_list (pe_lst (pa_cons pe_int (pa_cons pe_int (pa_cons pe_int (pa_cons pe_int pa_nil))))) (pv 2) (fun _ _ => rfl)))) po_none)))) pss_nil)
    (pss_cons (ps_par (i := 6) (j := 7) (by rfl) nd rfl rfl (by decide) rfl rfl (pa_cons (pe_d (ok_sip T) hr T.g__law_sip (pa_cons (pv 0) (pa_cons (pe_callB call_len_seq (by rfl) T.b_len (by decide +kernel) (pa_cons (pv 5) pa_nil)) pa_nil))) (pa_cons (pe_d (ok_sip T) hr T.g__law_sip (pa_cons (pv 0) (pa_cons (pe_callB call_len_seq (by rfl) T.b_len (by decide +kernel) (pa_cons (pv 5) pa_nil)) pa_nil))) pa_nil)) (by rfl))
    (pss_cons (ps_if (pt_cmpR op_eq (pv 2) pe_int (nomark _)) (pss_one (ps_ret (pe_joinK K pe_str (pe_op op_cat (pe_slice sl_list (pv 5) po_none (po_some (pv 6))) (pe_slice sl_list (pv 5) (po_some (pe_op op_add (pv 6) pe_int)) po_none))))) pss_nil)
    (pss_cons (ps_if (pt_cmpR op_eq (pv 2) pe_int (nomark _)) (pss_one (ps_ret (pe_joinK K pe_str (pe_op op_cat (pe_op op_cat (pe_slice sl_list (pv 5) po_none (po_some (pv 6))) (pe_lst (pa_cons (pe_ix ix_list (pv 5) (pv 7) (fun _ _ => rfl)) pa_nil))) (pe_slice sl_list (pv 5) (po_some (pv 6)) po_none))))) pss_nil)
    (pss_cons (ps_set (i := 8) nd rfl (Or.inl rfl) (pe_split (pe_ix ix_list (pv 5) (pv 6) (fun _ _ => rfl)) pe_str))
    (pss_cons (ps_set (i := 9) nd rfl (Or.inl rfl) (pe_d (ok_sip T) hr T.g__law_sip (pa_cons (pv 0) (pa_cons (pe_callB call_len_seq (by rfl) T.b_len (by decide +kernel) (pa_cons (pv 8) pa_nil)) pa_nil))))
    (pss_cons (ps_if (pt_cmpR op_eq (pv 2) pe_int (nomark _)) (pss_one (ps_set (i := 8) nd rfl (Or.inl rfl) (pe_op op_cat (pe_slice sl_list (pv 8) po_none (po_some (pv 9))) (pe_slice sl_list (pv 8) (po_some (pe_op op_add (pv 9) pe_int)) po_none)))) pss_nil)
    (pss_cons (ps_if (pt_cmpR op_eq (pv 2) pe_int (nomark _)) (pss_one (ps_set (i := 8) nd rfl (Or.inl rfl) (pe_op op_cat (pe_op op_cat (pe_slice sl_list (pv 8) po_none (po_some (pv 9))) (pe_lst (pa_cons (pe_ix ix_list (pv 8) (pv 9) (fun _ _ => rfl)) pa_nil))) (pe_slice sl_list (pv 8) (po_some (pv 9)) po_none)))) pss_nil)
    (pss_cons (ps_if (pt_cmpR op_eq (pv 2) pe_int (nomark _)) (pss_one (ps_asg (pe_ix ix_list (pe_lst (pa_cons pe_str (pa_cons pe_str (pa_cons pe_str (pa_cons pe_str (pa_cons pe_str (pa_cons pe_str (pa_cons pe_str (pa_cons pe_str (pa_cons pe_str pa_nil)))))))))) (pe_d (ok_sip T) hr T.g__law_sip (pa_cons (pv 0) (pa_cons pe_int pa_nil))) (fun _ _ => rfl)) (pg_sub (pv 8) (pv 9) set_list))) pss_nil)
    (pss_one (ps_ret (pe_joinK K pe_str (pe_op op_cat (pe_op op_cat (pe_slice sl_list (pv 5) po_none (po_some (pv 6))) (pe_lst (pa_cons (pe_joinK K pe_str (pv 8)) pa_nil))) (pe_slice sl_list (pv 5) (po_some (pe_op op_add (pv 6) pe_int)) po_none))))))))))))))), ?_⟩), F.kp,
    F.binds fun _ _ _ _ _ _ us hl => match us, hl with | [_, _], _ => rfl⟩
  · obtain ⟨J, x, rfl, _⟩ := h
    rfl
  · obtain ⟨J, x, rfl, hJ, hok, hz, q⟩ := h
    have hsl : x.length ≤ sizeLine := by rw [sizeLine_eq]; omega
    refine ⟨_, rfl, J, 9, rfl, hJ, by decide, by decide, fun w H1 hw1 hw2 s1 x1 => ?_⟩
    refine ⟨_, rfl, _, rfl, x, rfl, hsl, _, _, rfl, rfl, J, _, rfl, x1, by omega, by omega, fun a H2 ha1 ha2 s2 x2 => ⟨_, _, rfl, ?_⟩⟩
    refine ⟨_, rfl, J, 10, rfl, x2, by decide, by decide, fun g H3 hg1 hg2 s3 x3 => ?_⟩
    obtain ⟨gn, rfl⟩ : ∃ gn : Nat, g = (gn : Int) := ⟨g.toNat, by omega⟩
    obtain ⟨c, hc, hc2⟩ : ∃ c : Nat, (" ,0129a-\nA" : Str).cps.toList[gn]? = some c ∧ c < 128 := by
      have e : (" ,0129a-\nA" : Str).cps.toList = [32, 44, 48, 49, 50, 57, 97, 45, 10, 65] := by decide
      rw [e]
      have : gn = 0 ∨ gn = 1 ∨ gn = 2 ∨ gn = 3 ∨ gn = 4 ∨ gn = 5 ∨ gn = 6 ∨ gn = 7 ∨ gn = 8 ∨ gn = 9 := by omega
      rcases this with rfl | rfl | rfl | rfl | rfl | rfl | rfl | rfl | rfl | rfl <;> exact ⟨_, rfl, by decide⟩
    refine ⟨" ,0129a-\nA", gn, c, rfl, rfl, by decide, atI_nat hc, ?_⟩
    refine ⟨_, rfl, ⟨x, rfl⟩, x, "\n", rfl, rfl, by decide, by rw [sizeLine_eq]; omega, fun pR hR => ⟨_, _, rfl, ?_⟩⟩
    have nRJ : pR ≠ J := fun z => by
      have := jug_told x3
      rw [← z, hR] at this
      cases this
    have sH4 : SJ J H (upd H3 pR (.lst ((Txt.split x "\n").map V.str))) := ((s1.trans s2).trans s3).trans (sj_same (same_upd hR))
    have x4 : JugAt (upd H3 pR (.lst ((Txt.split x "\n").map V.str))) J := jug_upd x3 nRJ
    have e4 : upd H3 pR (.lst ((Txt.split x "\n").map V.str)) pR = some (.lst ((Txt.split x "\n").map V.str)) := upd_same
    have hne := split_ne (x := x) tl_nl (by decide)
    have hpart : ∀ l ∈ Txt.split x "\n", okS l ∧ l.length ≤ x.length := fun l hl => by
      have := split_part (x := x) tl_nl (by decide) hl
      exact ⟨okS_sub hok this.1, this.2⟩
    have hwt := split_wt (x := x) tl_nl (by decide)
    show tSeq _ _ _ _ (upd H3 pR (.lst ((Txt.split x "\n").map V.str)))
    generalize upd H3 pR (.lst ((Txt.split x "\n").map V.str)) = H4 at sH4 x4 e4
    generalize Txt.split x "\n" = rows at *
    have hr1 : 1 ≤ rows.length := List.length_pos_iff.mpr hne
    have hr2 := wt_len rows
    refine ⟨_, rfl, _, _, rfl, rfl, _, rfl, ?_⟩
    by_cases hw4 : w < 4
    · rw [decide_eq_true hw4]
      refine iteT ?_
      refine ⟨_, rfl, _, rfl, a, rfl, x, rfl, hsl, ?_⟩
      refine ⟨_, rfl, rfl, _, rfl, ?_⟩
      have c1 := cutS_length x none (some a)
      obtain ⟨v, hv⟩ : ∃ v : Int, ([V.int 1, .int 0, .int 1, .int 0] : List V)[w.toNat]? = some (.int v) := by
        have : w.toNat = 0 ∨ w.toNat = 1 ∨ w.toNat = 2 ∨ w.toNat = 3 := by omega
        rcases this with e | e | e | e <;> rw [e] <;> exact ⟨_, rfl⟩
      have ew : w = ((w.toNat : Nat) : Int) := by omega
      have fin : ∀ sx : Str, okS sx → sx.length ≤ 1 → ∀ H5, H5 = H4 → ∃ i j, V.str (cutS x none (some a)) = V.str i ∧ V.str sx = V.str j ∧ i.length + j.length ≤ sizeLine ∧ (tSl rSlS (tVar 1) (tPart (tOp (rI0 fun i j => V.int (i + j)) (tVar 3) (tOp (rIxL K) (tLst (tCons (tC (.int 1)) (tCons (tC (.int 0)) (tCons (tC (.int 1)) (tCons (tC (.int 0)) tNil))))) (tVar 2)))) tNoPart
          [some (.ref J), some (.str x), some (.int w), some (.int a), some (.str ⟨#[c]⟩), some (.ref pR), none, none, none, none] H5 fun y H6 => ∃ i2 j2, V.str (i ++ j) = V.str i2 ∧ y = V.str j2 ∧ i2.length + j2.length ≤ sizeLine ∧ Q (.str (i2 ++ j2)) H6) := fun sx ok1 l1 H5 e5 => by
        subst e5
        refine ⟨_, _, rfl, rfl, by rw [sizeLine_eq]; omega, ?_⟩
        refine ⟨_, rfl, _, rfl, by show 4 ≤ sizeLine; decide, fun pl hpl => ⟨_, rfl, pl, _, w, .int v, rfl, rfl, .inl (.inl upd_same), by rw [ew]; exact atI_nat hv, _, _, rfl, rfl, _, rfl, x, rfl, hsl, ?_⟩⟩
        have c2 := cutS_length x (some (a + v)) none
        have l3 : (cutS x none (some a) ++ sx).length = (cutS x none (some a)).length + sx.length := by rw [TL.len_tl, TL.len_tl, TL.len_tl, TL.tl_append, List.length_append]
        refine ⟨_, _, rfl, rfl, by rw [l3, sizeLine_eq]; omega, ?_⟩
        have l4 : (cutS x none (some a) ++ sx ++ cutS x (some (a + v)) none).length = (cutS x none (some a) ++ sx).length + (cutS x (some (a + v)) none).length := by rw [TL.len_tl, TL.len_tl, TL.len_tl, TL.tl_append, List.length_append]
        exact q _ _ (sH4.trans (sj_same (same_upd hpl))) (jug_same (same_upd hpl) x4) (okS_append (okS_append (okS_cut hok _ _) ok1) (okS_cut hok _ _)) (by omega)
      refine ite2 (fun h => ?_) (fun h => ?_)
      · exact fin "" (okS_lit (by decide)) (by decide) H4 rfl
      · exact ⟨_, rfl, fin ⟨#[c]⟩ (sign_ok hc2) (Nat.le_refl 1) H4 rfl⟩
    · rw [decide_eq_false hw4]
      refine iteF (nx1 ?_)
      dsimp only
      have hm1 : (0 : Int) < ((rows.map V.str).length : Nat) := by rw [List.length_map]; omega
      have hm2 : ((rows.map V.str).length : Int) < 1000000000 := by rw [List.length_map]; omega
      refine ⟨_, rfl, _, rfl, pR, _, rfl, .inl (.inl (.inl e4)), J, _, rfl, x4, hm1, hm2, fun he H5 he1 he2 s5 x5 => ?_⟩
      have e5 := s5.to _ _ nRJ e4
      refine ⟨_, rfl, _, rfl, pR, _, rfl, .inl (.inl (.inl e5)), J, _, rfl, x5, hm1, hm2, fun th H6 ht1 ht2 s6 x6 => ⟨_, _, rfl, ?_⟩⟩
      have e6 := s6.to _ _ nRJ e5
      have sH6 : SJ J H H6 := (sH4.trans s5).trans s6
      rw [List.length_map] at he2 ht2
      obtain ⟨hn, rfl⟩ : ∃ hn : Nat, he = (hn : Int) := ⟨he.toNat, by omega⟩
      obtain ⟨tn, rfl⟩ : ∃ tn : Nat, th = (tn : Int) := ⟨th.toNat, by omega⟩
      have hhn : hn < rows.length := by omega
      have htn : tn < rows.length := by omega
      have gT := hpart _ (List.getElem_mem htn)
      have gH := hpart _ (List.getElem_mem hhn)
      have fin : ∀ (l : List Str) H7, Same H6 H7 → (∀ t ∈ l, okS t) → wt l ≤ 5 * x.length + 100 → Q (.str (Txt.join "\n" l)) H7 := fun l H7 s7 ok1 l1 =>
        q _ H7 (sH6.trans (sj_same s7)) (jug_same s7 x6) (okS_join (okS_lit (by decide)) ok1) (Nat.le_trans (join_wt (by decide) l).2 l1)
      have sub : ∀ lo hi, (∀ t ∈ cutL rows lo hi, okS t) ∧ wt (cutL rows lo hi) ≤ x.length + 1 ∧ (cutL rows lo hi).length ≤ rows.length := fun lo hi => ⟨fun t ht => (hpart t (cutL_mem ht)).1, by have := cutL_wt rows lo hi; omega, cutL_len rows lo hi⟩
      have subA : ∀ (a b : List Str), (∀ t ∈ a, okS t) → (∀ t ∈ b, okS t) → ∀ t ∈ a ++ b, okS t := fun a b h1 h2 t ht => (List.mem_append.mp ht).elim (h1 t) (h2 t)
      have hcase : w = 4 ∨ w = 5 ∨ w = 6 ∨ w = 7 ∨ w = 8 := by omega
      rcases hcase with rfl | rfl | hw6
      · refine ⟨_, rfl, rfl, _, rfl, iteT ?_⟩
        refine rt1 (join_gives (gives_cat (gives_slice (K := K) (lo := none) (hi := some (hn : Int)) (fun R hR => ⟨_, rfl, hR⟩) e6 po_no (po_var rfl)) (fun H7 s7 => gives_slice (K := K) (lo := some ((hn : Int) + 1)) (hi := none) (fun R hR => ⟨_, rfl, hR⟩) (s7 _ _ e6) (po_var1 rfl) po_no) (by have := (sub none (some (hn : Int))).2.2; have := (sub (some ((hn : Int) + 1)) none).2.2; omega)) (by decide) ?_ fun H7 s7 => fin _ H7 s7 (subA _ _ (sub _ _).1 (sub _ _).1) ?_)
        all_goals
          rw [wt_append]
          have := (sub none (some (hn : Int))).2.1
          have := (sub (some ((hn : Int) + 1)) none).2.1
          omega
      · refine ⟨_, rfl, rfl, _, rfl, iteF (nx1 ?_)⟩
        dsimp only
        refine ⟨_, rfl, rfl, _, rfl, iteT ?_⟩
        refine rt1 (join_gives (gives_cat (gives_cat (gives_slice (K := K) (lo := none) (hi := some (hn : Int)) (fun R hR => ⟨_, rfl, hR⟩) e6 po_no (po_var rfl)) (fun H7 s7 => gives_one (t := rows[tn]) ?one) (by have := (sub none (some (hn : Int))).2.2; simp; omega))
          (fun H7 s7 => gives_slice (K := K) (lo := some (hn : Int)) (hi := none) (fun R hR => ⟨_, rfl, hR⟩) (s7 _ _ e6) (po_var rfl) po_no) (by have := (sub none (some (hn : Int))).2.2; have := (sub (some (hn : Int)) none).2.2; rw [List.length_append]; simp; omega)) (by decide) ?_ fun H7 s7 => fin _ H7 s7 (subA _ _ (subA _ _ (sub _ _).1 (fun t ht => by rw [List.mem_singleton.mp ht]; exact gT.1)) (sub _ _).1) ?_)
        case one =>
          intro R hR
          exact ⟨_, rfl, _, rfl, pR, _, (tn : Int), .str rows[tn], rfl, rfl, .inl (.inl (s7 _ _ e6)), atI_nat (by rw [List.getElem?_map, List.getElem?_eq_getElem htn]; rfl), hR H7 (Same.refl H7)⟩
        all_goals
          rw [wt_append, wt_append, wt_one]
          have := (sub none (some (hn : Int))).2.1
          have := (sub (some (hn : Int)) none).2.1
          have := gT.2
          omega
      · have h4 : decide (V.int w = V.int 4) = false := decide_eq_false fun e => by have := V.int.inj e; omega
        have h5 : decide (V.int w = V.int 5) = false := decide_eq_false fun e => by have := V.int.inj e; omega
        refine ⟨_, rfl, rfl, _, rfl, ?_⟩
        rw [h4]
        refine iteF (nx1 ?_)
        dsimp only
        refine ⟨_, rfl, rfl, _, rfl, ?_⟩
        rw [h5]
        refine iteF (nx1 ?_)
        dsimp only
        refine ⟨_, rfl, _, rfl, pR, _, (hn : Int), .str rows[hn], rfl, rfl, .inl (.inl e6), atI_nat (by rw [List.getElem?_map, List.getElem?_eq_getElem hhn]; rfl), ⟨rows[hn], rfl⟩, rows[hn], " ", rfl, rfl, by decide, by rw [sizeLine_eq]; have := gH.2; omega, fun pT hT => ?_⟩
        have tne := split_ne (x := rows[hn]) tl_sp (by decide)
        have tpart : ∀ l ∈ Txt.split rows[hn] " ", okS l := fun l hl => okS_sub gH.1 (split_part (x := rows[hn]) tl_sp (by decide) hl).1
        have twt := split_wt (x := rows[hn]) tl_sp (by decide)
        have nTJ : pT ≠ J := fun z => by
          have := jug_told x6
          rw [← z, hT] at this
          cases this
        have s7 : Same H6 (upd H6 pT (.lst ((Txt.split rows[hn] " ").map V.str))) := same_upd hT
        have e7 : upd H6 pT (.lst ((Txt.split rows[hn] " ").map V.str)) pT = some (.lst ((Txt.split rows[hn] " ").map V.str)) := upd_same
        show tSeq _ _ _ _ (upd H6 pT (.lst ((Txt.split rows[hn] " ").map V.str)))
        generalize upd H6 pT (.lst ((Txt.split rows[hn] " ").map V.str)) = H7 at s7 e7
        generalize Txt.split rows[hn] " " = terms at *
        have t1 : 1 ≤ terms.length := List.length_pos_iff.mpr tne
        have t2 := wt_len terms
        have x7 := jug_same s7 x6
        have hm3 : (0 : Int) < ((terms.map V.str).length : Nat) := by rw [List.length_map]; omega
        have hm4 : ((terms.map V.str).length : Int) < 1000000000 := by rw [List.length_map]; omega
        refine ⟨_, rfl, _, rfl, pT, _, rfl, .inl (.inl (.inl e7)), J, _, rfl, x7, hm3, hm4, fun kk H8 hk1 hk2 s8 x8 => ?_⟩
        have e8 := s8.to _ _ nTJ e7
        have r8 := s8.to _ _ nRJ (s7 _ _ e6)
        have sH8 : SJ J H H8 := (sH6.trans (sj_same s7)).trans s8
        rw [List.length_map] at hk2
        obtain ⟨kn, rfl⟩ : ∃ kn : Nat, kk = (kn : Int) := ⟨kk.toNat, by omega⟩
        have hkn : kn < terms.length := by omega
        -- the last line: the terms at p, in H9
        have last : ∀ (p : Addr) (ts : List Str) (H9 : Hp), SJ J H H9 → JugAt H9 J → H9 pR = some (.lst (rows.map V.str)) → H9 p = some (.lst (ts.map V.str)) → (∀ t ∈ ts, okS t) → wt ts ≤ 3 * x.length + 30 →
            tM1 (rJoinK K) (tC (.str "\n")) (tOp rCat (tOp rCat (tSl (rSlL K) (tVar 5) tNoPart (tPart (tVar 6))) (tLst (tCons (tM1 (rJoinK K) (tC (.str " ")) (tVar 8)) tNil))) (tSl (rSlL K) (tVar 5) (tPart (tOp (rI0 fun i j => V.int (i + j)) (tVar 6) (tC (V.int 1)))) tNoPart))
              [some (.ref J), some (.str x), some (.int w), some (.int a), some (.str ⟨#[c]⟩), some (.ref pR), some (.int hn), some (.int tn), some (.ref p), some (.int kn)] H9 Q := fun p ts H9 sH9 x9 r9 p9 ok9 w9 => by
          have jw := join_wt (y := (" " : Str)) (by decide) ts
          refine join_gives (gives_cat (gives_cat (gives_slice (K := K) (lo := none) (hi := some (hn : Int)) (fun R hR => ⟨_, rfl, hR⟩) r9 po_no (po_var rfl)) (fun H10 s10 => gives_one (t := Txt.join " " ts) fun R hR => ⟨⟨" ", rfl⟩, _, rfl, " ", p, ts, rfl, rfl, .inl (.inl (.inl (s10 _ _ p9))), by rw [jw.1]; omega, hR H10 (Same.refl H10)⟩) (by have := (sub none (some (hn : Int))).2.2; simp; omega))
            (fun H10 s10 => gives_slice (K := K) (lo := some ((hn : Int) + 1)) (hi := none) (fun R hR => ⟨_, rfl, hR⟩) (s10 _ _ r9) (po_var1 rfl) po_no) (by have := (sub none (some (hn : Int))).2.2; have := (sub (some ((hn : Int) + 1)) none).2.2; rw [List.length_append]; simp; omega)) (by decide) ?_ fun H10 s10 => ?_
          · rw [wt_append, wt_append, wt_one]
            have := (sub none (some (hn : Int))).2.1
            have := (sub (some ((hn : Int) + 1)) none).2.1
            omega
          · have l1 : wt (cutL rows none (some (hn : Int)) ++ [Txt.join " " ts] ++ cutL rows (some ((hn : Int) + 1)) none) ≤ 5 * x.length + 100 := by
              rw [wt_append, wt_append, wt_one]
              have := (sub none (some (hn : Int))).2.1
              have := (sub (some ((hn : Int) + 1)) none).2.1
              omega
            exact q _ H10 (sH9.trans (sj_same s10)) (jug_same s10 x9) (okS_join (okS_lit (by decide)) (subA _ _ (subA _ _ (sub _ _).1 (fun t ht => by rw [List.mem_singleton.mp ht]; exact okS_join (okS_lit (by decide)) ok9)) (sub _ _).1)) (Nat.le_trans (join_wt (by decide) _).2 l1)
        have subT : ∀ lo hi, (∀ t ∈ cutL terms lo hi, okS t) ∧ wt (cutL terms lo hi) ≤ x.length + 1 ∧ (cutL terms lo hi).length ≤ terms.length := fun lo hi => ⟨fun t ht => tpart t (cutL_mem ht), by have := cutL_wt terms lo hi; have := gH.2; omega, cutL_len terms lo hi⟩
        have gK := tpart _ (List.getElem_mem hkn)
        have gK2 := wt_mem (List.getElem_mem hkn)
        have gh2 := gH.2
        rcases hw6 with rfl | rfl | rfl
        · refine ⟨_, rfl, rfl, _, rfl, iteT ?_⟩
          refine asg1 (gives_cat (gives_slice (K := K) (lo := none) (hi := some (kn : Int)) (fun R hR => ⟨_, rfl, hR⟩) e8 po_no (po_var rfl)) (fun H9 s9 => gives_slice (K := K) (lo := some ((kn : Int) + 1)) (hi := none) (fun R hR => ⟨_, rfl, hR⟩) (s9 _ _ e8) (po_var1 rfl) po_no) (by have := (subT none (some (kn : Int))).2.2; have := (subT (some ((kn : Int) + 1)) none).2.2; omega) _ fun p H9 s9 e9 => ?_)
          refine gn1 ?_
          dsimp only
          refine ⟨_, rfl, rfl, _, rfl, iteF (nx1 ?_)⟩
          dsimp only
          refine ⟨_, rfl, rfl, _, rfl, iteF (nx1 ?_)⟩
          dsimp only
          exact rt1 (last p _ H9 (sH8.trans (sj_same s9)) (jug_same s9 x8) (s9 _ _ r8) e9 (subA _ _ (subT _ _).1 (subT _ _).1) (by
            rw [wt_append]
            have := (subT none (some (kn : Int))).2.1
            have := (subT (some ((kn : Int) + 1)) none).2.1
            omega))
        · refine ⟨_, rfl, rfl, _, rfl, iteF (nx1 ?_)⟩
          dsimp only
          refine ⟨_, rfl, rfl, _, rfl, iteT ?_⟩
          refine asg1 (gives_cat (gives_cat (gives_slice (K := K) (lo := none) (hi := some (kn : Int)) (fun R hR => ⟨_, rfl, hR⟩) e8 po_no (po_var rfl)) (fun H9 s9 => gives_one (t := terms[kn]) ?one) (by have := (subT none (some (kn : Int))).2.2; simp; omega))
            (fun H9 s9 => gives_slice (K := K) (lo := some (kn : Int)) (hi := none) (fun R hR => ⟨_, rfl, hR⟩) (s9 _ _ e8) (po_var rfl) po_no) (by have := (subT none (some (kn : Int))).2.2; have := (subT (some (kn : Int)) none).2.2; rw [List.length_append]; simp; omega) _ fun p H9 s9 e9 => ?_)
          case one =>
            intro R hR
            exact ⟨_, rfl, _, rfl, pT, _, (kn : Int), .str terms[kn], rfl, rfl, .inl (.inl (s9 _ _ e8)), atI_nat (by rw [List.getElem?_map, List.getElem?_eq_getElem hkn]; rfl), hR H9 (Same.refl H9)⟩
          refine gn1 ?_
          dsimp only
          refine ⟨_, rfl, rfl, _, rfl, iteF (nx1 ?_)⟩
          dsimp only
          exact rt1 (last p _ H9 (sH8.trans (sj_same s9)) (jug_same s9 x8) (s9 _ _ r8) e9 (subA _ _ (subA _ _ (subT _ _).1 (fun t ht => by rw [List.mem_singleton.mp ht]; exact gK)) (subT _ _).1) (by
            rw [wt_append, wt_append, wt_one]
            have := (subT none (some (kn : Int))).2.1
            have := (subT (some (kn : Int)) none).2.1
            omega))
        · refine ⟨_, rfl, rfl, _, rfl, iteF (nx1 ?_)⟩
          dsimp only
          refine ⟨_, rfl, rfl, _, rfl, iteF (nx1 ?_)⟩
          dsimp only
          refine ⟨_, rfl, rfl, _, rfl, iteT ?_⟩
          refine ⟨by show 9 ≤ sizeLine; decide, fun pl hpl => ?_⟩
          have nlJ : pl ≠ J := fun z => by
            have := jug_told x8
            rw [← z, hpl] at this
            cases this
          refine ⟨_, rfl, J, 9, rfl, jug_upd x8 nlJ, by decide, by decide, fun g2 H10 hg3 hg4 s10 x10 => ?_⟩
          obtain ⟨gm, rfl⟩ : ∃ gm : Nat, g2 = (gm : Int) := ⟨g2.toNat, by omega⟩
          obtain ⟨t, ht, ht2, ht3⟩ : ∃ t : Str, ((["", "0", "1,1", "zed", "01", "0,0", "1000000001", "1000000000", "ann"] : List Str).map V.str)[gm]? = some (.str t) ∧ okS t ∧ t.length ≤ 10 := by
            have : gm = 0 ∨ gm = 1 ∨ gm = 2 ∨ gm = 3 ∨ gm = 4 ∨ gm = 5 ∨ gm = 6 ∨ gm = 7 ∨ gm = 8 := by omega
            rcases this with rfl | rfl | rfl | rfl | rfl | rfl | rfl | rfl | rfl <;> exact ⟨_, rfl, okS_lit (by decide), by decide⟩
          have el := s10.to pl _ nlJ upd_same
          have eT := s10.to pT _ nTJ (same_upd hpl _ _ e8)
          have eR := s10.to pR _ nRJ (same_upd hpl _ _ r8)
          have hix : ixN (terms.map V.str).length (kn : Int) = some kn := by
            unfold ixN
            rw [List.length_map, if_pos (by omega), if_pos (by omega)]
            rfl
          refine ⟨pl, _, _, .str t, rfl, rfl, .inl (.inl el), atI_nat ht, ?_⟩
          refine ⟨_, rfl, _, rfl, pT, _, (kn : Int), kn, rfl, rfl, eT, hix, ?_⟩
          have nTR : pR ≠ pT := ne_of_none e6 hT
          have hT0 := sH6.none hT
          have s11 : SJ J H H10 := (sH8.trans (sj_same (same_upd hpl))).trans s10
          dsimp only
          refine rt1 (last pT (terms.set kn t) _ ⟨fun b o nb e => ?_, fun b e => ?_⟩ (jug_upd x10 nTJ) ((upd_ne nTR).trans eR) (by rw [upd_same, List.map_set]) (fun y hy => ?_) ?_)
          · rw [upd_ne (ne_of_none e hT0)]
            exact s11.to b o nb e
          · by_cases z : b = pT
            · rw [z, upd_same]
              rfl
            · rw [upd_ne z]
              exact s11.dom b e
          · rcases List.mem_or_eq_of_mem_set hy with z | z
            · exact tpart y z
            · rw [z]
              exact ht2
          · have := wt_set terms kn t
            omega
end
end K5
set_option Elab.async false
set_option linter.all false
set_option maxRecDepth 100000
set_option maxHeartbeats 4000000
/-! The two lambdas of _law_is_read. -/
namespace K5
open PySem PySem.Spec PyProof.Rows L2
open TL (tl)
def lamAt (k : Bool) : Expr := match k with
  | false => (match (((defBody s_law_is_read) : List Stmt).drop 1 : List Stmt) with
    | (Stmt.Assign _ (Expr.List [e] _) _) :: _ => e
    | _ => .Name "x" ⟨0, 0, 0, 0⟩)
  | true => (match (((defBody s_law_is_read) : List Stmt).drop 2 : List Stmt) with
    | (Stmt.Expr (Expr.Call _ [e] _ _) _) :: _ => e
    | _ => .Name "x" ⟨0, 0, 0, 0⟩)
def lamS (k : Bool) : Scope := match lamAt k with
  | .Lambda _ _ s _ => s
  | _ => defScope s_law_is_read
def lamP (k : Bool) : Arguments := match lamAt k with
  | .Lambda p _ _ _ => p
  | _ => defArgs s_law_is_read
def lamB (k : Bool) : Expr := match lamAt k with
  | .Lambda _ b _ _ => b
  | e => e
theorem lam_shape (k : Bool) : ∃ pos, lamAt k = .Lambda (lamP k) (lamB k) (lamS k) pos := by
  cases k <;> exact ⟨_, rfl⟩
abbrev lamQ : Str := "_law_is_read.<locals>.<lambda>"
abbrev tY : Str := "_law_thing"
theorem lam_one (k : Bool) : LamOne tY (lamS k) := by
  cases k <;> exact ⟨rfl, rfl, rfl, by decide +kernel, by decide +kernel, by decide +kernel⟩
theorem tn1 {σ : L2.St} {H : Hp} {Q : List V → Hp → Prop} (h : Q [] H) : tNil σ H Q := h
theorem pe_of {X : Cx} {e : Expr} {t t' : TE} (h : PE X e t) (m : ∀ σ H Q, t' σ H Q → t σ H Q) : PE X e t' := ⟨fun pins s σ H Q I q => h.run pins s σ H Q I (m σ H Q q)⟩
/-- what an act gives for the thing v -/
def actP (K : PySem.W.Frag) (v : V) (H : Hp) (Q : VK) (E : XK) : Prop := rdP K v H (fun H' => ∀ di H2, H' di = none → Same H' H2 → H2 di = some (.xd [("given", v)]) → E (.ref (IT K)) (some di) H2)
  fun x H1 => ∀ r H', Same H1 H' → Dp K H' r (.list [mindsD (mindsO x), waysD (waysO x)]) → Q r H'
def actT (K : PySem.W.Frag) (E : XK) : TE := fun σ H Q => ∃ v, σ = [some v] ∧ actP K v H Q E
section
variable {P : Program} {w : World} {K : PySem.W.Frag} {mg : Str → Option Value} {base : Heap}
theorem lam_body (T : Tx K mg) (k : Bool) (A : Around) (outer : List Env) (s : Shared) (H : Hp) (E : XK) (f c' cc : Addr) (hg : A.guards = some []) (hr : Room 8 (A.deeper (envL lamQ (lamS k) s.heap.objs.size f c' tY cc))) :
    PE (cxL (L2N.CX P w) P w K mg base lamQ (lamS k) tY f c' cc A outer s H E) (lamB k) (actT K E) := by
  have M := T.my
  obtain ⟨pc, cm⟩ := M.cm
  obtain ⟨fdR, F0, FR⟩ := ok_c_readF (P := P) (w := w) (base := base) T
  have bR : Binds K fdR ["cls", "text"] [] := F0.binds fun _ _ _ _ _ _ us hl => match us, hl with | [_, _], _ => rfl
  have bK : ∀ (s : Shared) (ws : List Value), (Value.ref (CO K) :: ws).length = (["cls", "text"] : List Str).length → BindsTo s fdR ⟨[.ref (CO K)], (["text"] : List Str).zip ws⟩ ((["cls", "text"] : List Str).zip (Value.ref (CO K) :: ws)) := fun s ws hl => by
    obtain ⟨oc, od, kV, doc, pm, an, cdv, ct, osl, rfl, lk, hcd⟩ := F0.ex
    match ws, hl with
    | [v], _ => exact .of_eq rfl
  obtain ⟨fdM, FM, kpM, bM⟩ := (ok_c_minds (P := P) (w := w) (base := base) T).ex
  obtain ⟨fdW, FW, kpW, bW⟩ := (ok_c_ways (P := P) (w := w) (base := base) T).ex
  obtain ⟨fdS, FS, kpS, bS⟩ := (ok_c_str (P := P) (w := w) (base := base) T).ex
  have hx : Passes (L2N.CX P w) (cxL (L2N.CX P w) P w K mg base lamQ (lamS k) tY f c' cc A outer s H E) E := L2N.passes_call (L2N.takes_of rfl rfl rfl rfl) fun _ _ _ _ h => h
  have RR := FR.raw bR .nil
  -- two reads of the same text
  have rd2 : ∀ {H1 : Hp} {Q2 : VK} {E2 : XK} {x : Str}, goodB x = true → x.length ≤ 50000 → (∀ o dx m w H', Same H1 H' → H' o = some (.ins (CO K) dx (cfs m w)) → Dp K H' m (mindsD (mindsO x)) → Dp K H' w (waysD (waysO x)) → Q2 (.ref o) H') → sp_c_read K ([V.ref (CO K), .str x] ++ []) H1 Q2 E2 :=
    fun {H1 Q2 E2 x} hg hz q => ⟨.str x, rfl, .inr ⟨x, rfl, hz, (fun e => by rw [hg] at e; cases e), (fun _ => q)⟩⟩
  cases k with
  | false =>
    refine pe_of (pe_lst (pa_cons (pe_prop (ClX.pe_cmeth (pe_glob (v := .ref (CO K)) rfl T.g_Council rfl) M.rd cm RR hr hx (pa_cons (pv 0) pa_nil)) T.c_Council M.pm FM (hr.mono (show 2 ≤ 8 by decide)) bM .nil pass0 rfl)
      (pa_cons (pe_prop (ClX.pe_cmeth (pe_glob (v := .ref (CO K)) rfl T.g_Council rfl) M.rd cm RR hr hx (pa_cons (pv 0) pa_nil)) T.c_Council M.pw FW (hr.mono (show 2 ≤ 8 by decide)) bW .nil pass0 rfl) pa_nil))) fun σ H1 Q h => ?_
    obtain ⟨v, rfl, h⟩ := h
    refine ⟨rfl, _, rfl, v, rfl, ?_⟩
    rcases h with ⟨t, ty, kt, q⟩ | ⟨x, rfl, hz, qn, qy⟩
    · exact .inl ⟨t, ty, kt, fun H2 s2 => q H2 s2⟩
    · refine .inr ⟨x, rfl, hz, fun hg H2 s2 => qn hg H2 s2, fun hg o dx m wv H2 s2 ho hm hw => ?_⟩
      refine ⟨o, dx, _, rfl, ho, o, dx, _, m, rfl, ho, rfl, rfl, _, rfl, ?_⟩
      refine tn1 ?_
      show sp_c_read K _ _ _ _
      refine rd2 hg hz fun o2 dx2 m2 w2 H3 s3 ho2 hm2 hw2 => ?_
      refine ⟨o2, dx2, _, rfl, ho2, o2, dx2, _, w2, rfl, ho2, rfl, by show 2 ≤ sizeLine; decide, fun p hp => ?_⟩
      exact qy hg _ _ ((s2.trans s3).trans (same_upd hp)) (.lst (.inl (.inl upd_same)) (.cons (dp_same (s3.trans (same_upd hp)) _ _ hm) (.cons (dp_same (same_upd hp) _ _ hw2) .nil)))
  | true =>
    refine pe_of (pe_lst (pa_cons (pe_prop (pe_cmethK (pe_glob (v := .ref (CO K)) rfl T.g_Council rfl) M.rd cm FR hr hx (pk_cons (pv 0) pk_nil) bK) T.c_Council M.pm FM (hr.mono (show 2 ≤ 8 by decide)) bM .nil pass0 rfl)
      (pa_cons (pe_prop (ClX.pe_cmeth (pe_glob (v := .ref (CO K)) rfl T.g_Council rfl) M.rd cm RR hr hx (pa_cons (pe_strO FS (hr.mono (show 5 ≤ 8 by decide)) (by rfl) T.b_str bS M.str M.strF
        (ClX.pe_cmeth (pe_glob (v := .ref (CO K)) rfl T.g_Council rfl) M.rd cm RR hr hx (pa_cons (pv 0) pa_nil))) pa_nil)) T.c_Council M.pw FW (hr.mono (show 2 ≤ 8 by decide)) bW .nil pass0 rfl) pa_nil))) fun σ H1 Q h => ?_
    obtain ⟨v, rfl, h⟩ := h
    refine ⟨rfl, _, rfl, v, rfl, ?_⟩
    rcases h with ⟨t, ty, kt, q⟩ | ⟨x, rfl, hz, qn, qy⟩
    · exact .inl ⟨t, ty, kt, fun H2 s2 => q H2 s2⟩
    · refine .inr ⟨x, rfl, hz, fun hg H2 s2 => qn hg H2 s2, fun hg o dx m wv H2 s2 ho hm hw => ?_⟩
      refine ⟨o, dx, _, rfl, ho, o, dx, _, m, rfl, ho, rfl, ?_⟩
      refine ⟨rfl, rfl, _, rfl, ?_⟩
      refine tn1 ?_
      show sp_c_read K _ _ _ _
      refine rd2 hg hz fun o2 dx2 m2 w2 H3 s3 ho2 hm2 hw2 => ?_
      refine ⟨o2, dx2, _, rfl, ho2, o2, dx2, m2, w2, x, rfl, ho2, hg, hm2, hw2, fun H4 s4 => ⟨⟨x, rfl⟩, ?_⟩⟩
      refine tn1 ?_
      show sp_c_read K _ _ _ _
      refine rd2 hg hz fun o3 dx3 m3 w3 H5 s5 ho3 hm3 hw3 => ?_
      refine ⟨o3, dx3, _, rfl, ho3, o3, dx3, _, w3, rfl, ho3, rfl, by show 2 ≤ sizeLine; decide, fun p hp => ?_⟩
      have s6 := (s3.trans s4).trans s5
      exact qy hg _ _ ((s2.trans s6).trans (same_upd hp)) (.lst (.inl (.inl upd_same)) (.cons (dp_same (s6.trans (same_upd hp)) _ _ hm) (.cons (dp_same (same_upd hp) _ _ hw3) .nil)))
end
end K5
set_option Elab.async false
set_option linter.all false
set_option maxRecDepth 100000
set_option maxHeartbeats 4000000
/-! What the reader is given, and what an act does with it. -/
namespace K5
open PySem PySem.Spec PyProof.Rows L2
open TL (tl)
/-- things that are no text -/
def OddV (H : Hp) (v : V) (dv : PyData) : Prop := (v = .non ∧ dv = .none) ∨ (∃ i : Int, v = .int i ∧ dv = .int i ∧ i.natAbs.log2 < 1920 ∧ (PyData.shown (.int i)).length ≤ 80) ∨ (∃ b, v = .bl b ∧ dv = .bool b) ∨
  (∃ a x, v = .ref a ∧ H a = some (.tup [.str x]) ∧ dv = .tuple [.str x] ∧ okS x ∧ x.length ≤ 50000) ∨ (∃ a x, v = .ref a ∧ H a = some (.lst [.str x]) ∧ dv = .list [.str x] ∧ okS x ∧ x.length ≤ 50000) ∨ (∃ a, v = .ref a ∧ H a = some (.dK []) ∧ dv = .dict [])
def dueO (x : Str) : Option PyData := if goodB x = true then some (.list [mindsD (mindsO x), waysD (waysO x)]) else none
def Thing (H : Hp) (v : V) (dv : PyData) (due : Option PyData) : Prop := (OddV H v dv ∧ due = none) ∨ ∃ x, v = .str x ∧ dv = .str x ∧ okS x ∧ x.length ≤ 50000 ∧ due = dueO x
section
variable {K : PySem.W.Frag} {H H' : Hp} {v : V} {dv : PyData} {due : Option PyData}
theorem odd_to (s : ∀ b o, (o = .dK [] ∨ (∃ xs, o = .lst xs) ∨ ∃ xs, o = .tup xs) → H b = some o → H' b = some o) (h : OddV H v dv) : OddV H' v dv := by
  rcases h with h | h | h | ⟨a, x, e, h, r⟩ | ⟨a, x, e, h, r⟩ | ⟨a, e, h, r⟩
  · exact .inl h
  · exact .inr (.inl h)
  · exact .inr (.inr (.inl h))
  · exact .inr (.inr (.inr (.inl ⟨a, x, e, s _ _ (.inr (.inr ⟨_, rfl⟩)) h, r⟩)))
  · exact .inr (.inr (.inr (.inr (.inl ⟨a, x, e, s _ _ (.inr (.inl ⟨_, rfl⟩)) h, r⟩))))
  · exact .inr (.inr (.inr (.inr (.inr ⟨a, e, s _ _ (.inl rfl) h, r⟩))))
theorem thing_to (s : ∀ b o, (o = .dK [] ∨ (∃ xs, o = .lst xs) ∨ ∃ xs, o = .tup xs) → H b = some o → H' b = some o) (h : Thing H v dv due) : Thing H' v dv due := h.elim (fun h => .inl ⟨odd_to s h.1, h.2⟩) .inr
theorem thing_same (s : Same H H') (h : Thing H v dv due) : Thing H' v dv due := thing_to (fun b o _ e => s b o e) h
theorem pin_plain {a : Addr} {o : Obj} {u : HO} (h : u = .dK [] ∨ (∃ xs, u = .lst xs) ∨ ∃ xs, u = .tup xs) : pinO a o ≠ u := by
  rcases h with rfl | ⟨xs, rfl⟩ | ⟨xs, rfl⟩
  · intro z; unfold pinO at z; cases z
  · intro z; unfold pinO at z; cases z
  · exact pinO_tup
theorem thing_off {cc : Addr} {o : Obj} (hc : H cc = some (pinO cc o)) (h : Thing H v dv due) : Thing (del H cc) v dv due := thing_to (fun b u k e => (del_ne (at_ne hc e (pin_plain k))).trans e) h
theorem thing_pin {cc : Addr} {o : Obj} (hc : H cc = none) (h : Thing H v dv due) : Thing (upd H cc (pinO cc o)) v dv due := thing_same (same_upd hc) h
theorem thing_dpx (h : Thing H v dv due) : DpX K H v dv := by
  rcases h with ⟨h, _⟩ | ⟨x, rfl, rfl, _⟩
  · rcases h with ⟨rfl, rfl⟩ | ⟨i, rfl, rfl, _⟩ | ⟨b, rfl, rfl⟩ | ⟨a, x, rfl, h, rfl, _⟩ | ⟨a, x, rfl, h, rfl, _⟩ | ⟨a, rfl, h, rfl⟩
    · exact .inl .non
    · exact .inl (.int i)
    · exact .inl (.bl b)
    · exact .inl (.tup (.inl (.inl h)) (.cons (.str x) .nil))
    · exact .inl (.lst (.inl (.inl h)) (.cons (.str x) .nil))
    · exact .inr ⟨a, rfl, h, rfl⟩
  · exact .inl (.str x)
/-- small enough to be shown -/
structure Small (d : PyData) : Prop where
  sh : d.showable = true
  dp : d.depth ≤ 7
  ln : d.shown.length ≤ sizeLine
theorem small_of {d : PyData} (h1 : d.showable = true) (h2 : d.depth ≤ 7) (h3 : d.leavesShort 80 = true) (h4 : d.weight ≤ 100000) : Small d := by
  refine ⟨h1, h2, ?_⟩
  have := PyData.shown_le 80 (by decide) d h3
  rw [sizeLine_eq]
  omega
theorem okS_short {x : Str} (h : okS x) : x.cps.toList.all (fun c => decide (c < 16 ^ 8)) = true := by
  rw [List.all_eq_true]
  intro c hc
  have := h c hc
  exact decide_eq_true (Nat.lt_trans this (by decide))
theorem str_small {x : Str} (h : okS x) (hl : x.length ≤ 50000) : Small (.str x) :=
  small_of (by simp [PyData.showable]) (by simp [PyData.depth]) (by simp only [PyData.leavesShort]; exact okS_short h) (by simp only [PyData.weight]; exact Nat.le_trans (show x.cps.size ≤ 50000 from hl) (by decide))
theorem one_small {x : Str} (h : okS x) (hl : x.length ≤ 50000) : Small (.tuple [.str x]) ∧ Small (.list [.str x]) := by
  have h2 := okS_short h
  have h3 : x.cps.size ≤ 50000 := hl
  constructor
  · exact small_of (by simp [PyData.showable, PyData.showableAll]) (by simp [PyData.depth, PyData.depthAll]) (by simp only [PyData.leavesShort, PyData.leavesShortAll, h2]; rfl) (by simp only [PyData.weight, PyData.weightAll]; omega)
  · exact small_of (by simp [PyData.showable, PyData.showableAll]) (by simp [PyData.depth, PyData.depthAll]) (by simp only [PyData.leavesShort, PyData.leavesShortAll, h2]; rfl) (by simp only [PyData.weight, PyData.weightAll]; omega)
theorem thing_small (h : Thing H v dv due) : Small dv := by
  rcases h with ⟨h, _⟩ | ⟨x, rfl, rfl, h1, h2, _⟩
  · rcases h with ⟨rfl, rfl⟩ | ⟨i, rfl, rfl, h1, h2⟩ | ⟨b, rfl, rfl⟩ | ⟨a, x, rfl, h, rfl, h1, h2⟩ | ⟨a, x, rfl, h, rfl, h1, h2⟩ | ⟨a, rfl, h, rfl⟩
    · exact ⟨by decide, by decide, by decide⟩
    · exact ⟨by simp [PyData.showable, h1], by simp [PyData.depth], Nat.le_trans h2 (by decide)⟩
    · cases b <;> exact ⟨by decide, by decide, by decide⟩
    · exact (one_small h1 h2).1
    · exact (one_small h1 h2).2
    · exact ⟨by decide, by decide, by decide⟩
  · exact str_small h1 h2
structure Leaf (b dd : Nat) (d : PyData) : Prop where
  sh : d.showable = true
  dp : d.depth ≤ dd
  ls : d.leavesShort 80 = true
  wt : d.weight ≤ b
theorem leaf_all {α : Type} {f : α → PyData} {b dd n : Nat} : ∀ {l : List α}, (∀ x ∈ l, Leaf b dd (f x)) → l.length ≤ n → PyData.showableAll (l.map f) = true ∧ PyData.depthAll (l.map f) ≤ dd ∧ PyData.leavesShortAll 80 (l.map f) = true ∧ PyData.weightAll (l.map f) ≤ n * (b + 1)
  | [], _, _ => ⟨by simp [PyData.showableAll], by simp [PyData.depthAll], by simp [PyData.leavesShortAll], by simp [PyData.weightAll]⟩
  | x :: l, h, hn => by
    obtain ⟨m, rfl⟩ : ∃ m, n = m + 1 := ⟨n - 1, by simp at hn; omega⟩
    obtain ⟨a1, a2, a3, a4⟩ := leaf_all (n := m) (l := l) (fun y hy => h y (List.mem_cons_of_mem _ hy)) (by simp at hn; omega)
    have hx := h x List.mem_cons_self
    have h1 := hx.dp
    have h2 := hx.wt
    refine ⟨by simp [PyData.showableAll, hx.sh, a1], by simp only [List.map_cons, PyData.depthAll]; omega, by simp [PyData.leavesShortAll, hx.ls, a3], ?_⟩
    simp only [List.map_cons, PyData.weightAll]
    rw [Nat.succ_mul]
    omega
theorem leaf_tup {α : Type} {f : α → PyData} {b dd n : Nat} {l : List α} (h : ∀ x ∈ l, Leaf b dd (f x)) (hn : l.length ≤ n) : Leaf (n * (b + 1)) (dd + 1) (.tuple (l.map f)) := by
  obtain ⟨a1, a2, a3, a4⟩ := leaf_all h hn
  exact ⟨by simp only [PyData.showable]; exact a1, by simp only [PyData.depth]; omega, by simp only [PyData.leavesShort]; exact a3, by simp only [PyData.weight]; exact a4⟩
theorem name_leaf {x : Str} (h : nameB x = true) : Leaf 8 0 (.str x) := by
  have hl := name_len h
  have hc : ∀ c ∈ tl x, c < 128 := fun c hc => by
    unfold nameB at h
    simp only [Bool.and_eq_true, decide_eq_true_eq, List.all_eq_true] at h
    have := h.2.2 c hc
    simp only [Bool.or_eq_true, lo, dg, decide_eq_true_eq] at this
    omega
  exact ⟨by simp [PyData.showable], by simp [PyData.depth], by simp only [PyData.leavesShort]; exact okS_short hc, by simp only [PyData.weight]; exact hl⟩
theorem int_leaf {o : Option Nat} (h : inB o = true) : Leaf 32 0 (oD o) := by
  cases o with
  | none => cases h
  | some n =>
    have hn : n ≤ 1000000000 := by simpa [inB] using h
    have hlog : n.log2 < 30 := by
      by_cases h0 : n = 0
      · rw [h0]
        decide
      · rw [Nat.log2_lt h0]
        exact Nat.lt_of_le_of_lt hn (by decide)
    refine ⟨?_, by simp [oD, PyData.depth], ?_, ?_⟩
    · simp only [oD, PyData.showable, Int.natAbs_natCast, decide_eq_true_eq]
      omega
    · simp only [oD, PyData.leavesShort, decide_eq_true_eq]
      have := num_len hn
      exact Nat.le_trans this (by decide)
    · simp only [oD, PyData.weight, Int.natAbs_natCast]
      split <;> omega
theorem due_small {x : Str} {d : PyData} (h : dueO x = some d) : Small d := by
  unfold dueO at h
  split at h
  · rename_i hg
    cases h
    obtain ⟨h1, h2⟩ := good_parts hg
    obtain ⟨_, m6, _⟩ := minds_len h1
    have hm : Leaf (6 * 9) 1 (mindsD (mindsO x)) := leaf_tup (fun n hn => name_leaf (((minds_iff _).mp h1).2.2.1 n hn)) m6
    have hw : Leaf (6 * (6 * (6 * 33 + 1) + 1)) 3 (waysD (waysO x)) := by
      unfold waysB at h2
      simp only [Bool.and_eq_true, decide_eq_true_eq, List.all_eq_true] at h2
      refine leaf_tup (fun way hway => leaf_tup (fun row hrow => leaf_tup (fun o ho => int_leaf ?_) ?_) ?_) h2.2.1
      all_goals
        have hwb := h2.2.2 way hway
        obtain ⟨w1, w2, w3⟩ := way_len m6 hwb
        unfold wayB at hwb
        simp only [Bool.and_eq_true, decide_eq_true_eq, List.all_eq_true] at hwb
      · have hr := hwb.2 row hrow
        unfold rowB at hr
        simp only [Bool.and_eq_true, decide_eq_true_eq, List.all_eq_true] at hr
        exact hr.2.1 o ho
      · exact (row_len m6 (hwb.2 row hrow)).2.1
      · exact w2
    have c1 := hm.dp
    have c2 := hw.dp
    have c3 := hm.wt
    have c4 := hw.wt
    exact small_of (by simp only [PyData.showable, PyData.showableAll, hm.sh, hw.sh]; rfl) (by simp only [PyData.depth, PyData.depthAll]; omega) (by simp only [PyData.leavesShort, PyData.leavesShortAll, hm.ls, hw.ls]; rfl) (by simp only [PyData.weight, PyData.weightAll]; omega)
  · cases h
theorem thing_due {d : PyData} (h : Thing H v dv due) (e : due = some d) : Small d := by
  rcases h with ⟨_, z⟩ | ⟨x, _, _, _, _, z⟩
  · rw [z] at e
    cases e
  · rw [z] at e
    exact due_small e
theorem thing_act {Q : VK} {E : XK} (h : Thing H v dv due) (hy : ∀ d, due = some d → ∀ r H', Same H H' → Dp K H' r d → Q r H') (hn : due = none → ∀ di H', H di = none → Same H H' → H' di = some (.xd [("given", v)]) → E (.ref (IT K)) (some di) H') : actP K v H Q E := by
  have no : due = none → ∀ H1, Same H H1 → ∀ di H2, H1 di = none → Same H1 H2 → H2 di = some (.xd [("given", v)]) → E (.ref (IT K)) (some di) H2 := fun e H1 s1 di H2 d1 s2 e2 => hn e di H2 (s1.free d1) (s1.trans s2) e2
  rcases h with ⟨h, z⟩ | ⟨x, rfl, rfl, ok, hl, z⟩
  · refine .inl ?_
    have : ∃ t, TyX K H v (.type t) ∧ PySem.W.kitOne K (.type t) (.type "str") = some false := by
      rcases h with ⟨rfl, rfl⟩ | ⟨i, rfl, rfl, _⟩ | ⟨b, rfl, rfl⟩ | ⟨a, x, rfl, h, rfl, _⟩ | ⟨a, x, rfl, h, rfl, _⟩ | ⟨a, rfl, h, rfl⟩
      · exact ⟨_, .base .non, kit_ty (by decide +kernel)⟩
      · exact ⟨_, .base (.int i), kit_ty (by decide +kernel)⟩
      · exact ⟨_, .base (.bl b), kit_ty (by decide +kernel)⟩
      · exact ⟨_, .base (.tup h), kit_ty (by decide +kernel)⟩
      · exact ⟨_, .base (.lst h), kit_ty (by decide +kernel)⟩
      · exact ⟨_, .base (.dK h), kit_ty (by decide +kernel)⟩
    obtain ⟨t, ty, kt⟩ := this
    exact ⟨t, ty, kt, fun H1 s1 => no z H1 s1⟩
  · refine .inr ⟨x, rfl, hl, fun hg H1 s1 => no (by rw [z]; unfold dueO; rw [hg]; rfl) H1 s1, fun hg r H1 s1 d1 => hy _ (by rw [z]; unfold dueO; rw [if_pos hg]) r H1 s1 d1⟩
end
end K5
set_option Elab.async false
set_option linter.all false
set_option maxRecDepth 100000
set_option maxHeartbeats 4000000
/-! An act of _law_is_read, held by a name; rules within an except suite. -/
namespace K5
open PySem PySem.Spec PyProof.Rows L2
open TL (tl)
/-- at f: one of the two lambdas, its captured thing is v -/
def LamsAt (H : Hp) (f : Addr) (v : V) : Prop := ∃ (k : Bool) (cc : Addr) (o : Obj), LamAt lamQ (lamP k) (lamB k) (lamS k) tY H f cc o v
theorem lams_same {H H' : Hp} {f : Addr} {v : V} (s : Same H H') (h : LamsAt H f v) : LamsAt H' f v := by
  obtain ⟨k, cc, o, ⟨c', pm, ct, h1, h2⟩, h3, h4⟩ := h
  exact ⟨k, cc, o, ⟨c', pm, ct, s _ _ h1, s _ _ h2⟩, s _ _ h3, h4⟩
def APt (K : PySem.W.Frag) (f : Addr) (H : Hp) (Q : VK) (E : XK) : Prop := ∃ (v : V) (dv : PyData) (due : Option PyData), LamsAt H f v ∧ Thing H v dv due ∧ (∀ d, due = some d → ∀ r H', Same H H' → Dp K H' r d → Q r H') ∧
  (due = none → ∀ di H', H di = none → Same H H' → H' di = some (.xd [("given", v)]) → E (.ref (IT K)) (some di) H')
theorem apt_fn {P : Program} {w : World} {K : PySem.W.Frag} {f : Addr} {H : Hp} {h : Heap} {Q : VK} {E : XK} (a : APt K f H Q E) (ok : HOk P w H h) : PySem.W.FnAt f h := by
  obtain ⟨v, dv, due, ⟨k, cc, o, ⟨c', pm, ct, h1, h2⟩, h3, h4⟩, _⟩ := a
  exact ⟨_, _, _, _, pinO_at ok h1⟩
theorem apt_weak {K : PySem.W.Frag} {f : Addr} {H : Hp} {Q : VK} {E : XK} (a : APt K f H Q E) : APt K f H (fun _ _ => True) (fun _ _ _ => True) := by
  obtain ⟨v, dv, due, h1, h2, _⟩ := a
  exact ⟨v, dv, due, h1, h2, fun _ _ _ _ _ _ => trivial, fun _ _ _ _ _ _ => trivial⟩
section
variable {P : Program} {w : World} {K : PySem.W.Frag} {mg : Str → Option Value} {base : Heap}
theorem ap_run (T : Tx K mg) {A : Around} {outer : List Env} {s : Shared} {H : Hp} {Q : VK} {E : XK} {f : Addr} (hg : A.guards = some []) (hr : Room 9 A) (h : APt K f H Q E) (e0 : Env0 P w K mg base A outer s H) :
    codeAny (model P w) A (.call (.ref f) ⟨[], []⟩) (CR (L2N.CX P w) outer P w H s Q E) s := by
  obtain ⟨v, dv, due, ⟨k, cc, o, hl⟩, ht, hy, hn⟩ := h
  refine lam_run (k := 8) (tb := actT K) (lam_one k) (fun _ _ _ _ => by cases k <;> rfl) (fun A outer s H E f c' cc hg hr => lam_body T k A outer s H E f c' cc hg hr) hg hr e0 hl ?_
  have back : ∀ {H' : Hp}, H' cc = none → Same (del H cc) H' → Same H (upd H' cc (pinO cc o)) := fun {H'} n s' b u e => by
    by_cases hb : b = cc
    · subst hb
      rw [hl.cell] at e
      cases e
      exact upd_same
    · rw [upd_ne hb]
      exact s' b u ((del_ne hb).trans e)
  refine ⟨v, rfl, thing_act (thing_off hl.cell ht) (fun d e r H' s' hd n => ?_) fun e di H' n s' hd n2 => ?_⟩
  · exact hy d e r _ (back n s') (dp_same (same_upd n) _ _ hd)
  · have ne : di ≠ cc := fun z => by
      rw [z, n2] at hd
      cases hd
    exact hn e di _ ((del_ne ne).symm.trans n) (back n2 s') ((upd_ne ne).trans hd)
end
/-! ### what never comes -/
theorem pe_never {X : Cx} {e : Expr} : PE X e (fun _ _ _ => False) := ⟨fun _ _ _ _ _ _ h => False.elim h⟩
theorem pss_never {X : Cx} {l : List Stmt} : PSs X l (fun _ _ _ => False) := ⟨fun _ _ _ _ _ _ h => False.elim h⟩
/-! ### expressions that make data -/
def tD (K : PySem.W.Frag) (pre : L2.St → Hp → Prop) (d : PyData) : TE := fun σ H Q => pre σ H ∧ ∀ y H', Same H H' → Dp K H' y d → Q y H'
def tL (K : PySem.W.Frag) (pre : L2.St → Hp → Prop) (ds : List PyData) : TE := fun σ H Q => pre σ H ∧ ∀ a xs H', Same H H' → H' a = some (.lst xs) → DpAll K H' xs ds → Q (.ref a) H'
def Stay (pre : L2.St → Hp → Prop) : Prop := ∀ σ H H', Same H H' → pre σ H → pre σ H'
section
variable {X : Cx} {K : PySem.W.Frag} {pre pre' : L2.St → Hp → Prop} {d : PyData} {ds es : List PyData} {e e1 e2 : Expr}
theorem pd_sub (h : PE X e (tD K pre d)) (m : ∀ σ H, pre' σ H → pre σ H) : PE X e (tD K pre' d) := pe_of h fun σ H Q q => ⟨m _ _ q.1, q.2⟩
theorem pl_sub (h : PE X e (tL K pre ds)) (m : ∀ σ H, pre' σ H → pre σ H) : PE X e (tL K pre' ds) := pe_of h fun σ H Q q => ⟨m _ _ q.1, q.2⟩
theorem pd_str {x : Str} {j : Nat} {pos : Pos} : PE X (.Constant (.str x) j pos) (tD K pre (.str x)) := pe_of pe_str fun σ H Q q => q.2 _ _ (Same.refl H) (.str x)
theorem pl_nil {pos : Pos} : PE X (.List [] pos) (tL K pre []) := pe_of (pe_lst pa_nil) fun σ H Q q => ⟨Nat.zero_le _, fun p hp => q.2 _ _ _ (same_upd hp) upd_same .nil⟩
theorem pd_lst (h : PE X e (tL K pre ds)) : PE X e (tD K pre (.list ds)) := pe_of h fun σ H Q q => ⟨q.1, fun a xs H' s ha hd => q.2 _ _ s (.lst (.inl (.inl ha)) hd)⟩
theorem pl_one (st : Stay pre) {pos : Pos} (h1 : PE X e1 (tD K pre d)) (q1 : starEach [e1] X.env = (false, eval e1 X.env) :: starEach [] X.env := by rfl) : PE X (.List [e1] pos) (tL K pre [d]) := pe_of (pe_lst (pa_cons h1 pa_nil q1)) fun σ H Q q =>
  ⟨q.1, fun y H1 s1 d1 => ⟨by show 1 ≤ sizeLine; decide, fun p hp => q.2 _ _ _ (s1.trans (same_upd hp)) upd_same (.cons (dp_same (same_upd hp) _ _ d1) .nil)⟩⟩
theorem pl_two {d2 : PyData} (st : Stay pre) {pos : Pos} (h1 : PE X e1 (tD K pre d)) (h2 : PE X e2 (tD K pre d2)) (q1 : starEach [e1, e2] X.env = (false, eval e1 X.env) :: starEach [e2] X.env := by rfl) (q2 : starEach [e2] X.env = (false, eval e2 X.env) :: starEach [] X.env := by rfl) : PE X (.List [e1, e2] pos) (tL K pre [d, d2]) := pe_of (pe_lst (pa_cons h1 (pa_cons h2 pa_nil q2) q1)) fun σ H Q q =>
  ⟨q.1, fun y H1 s1 d1 => ⟨st _ _ _ s1 q.1, fun y2 H2 s2 d2' => ⟨by show 2 ≤ sizeLine; decide, fun p hp => q.2 _ _ _ ((s1.trans s2).trans (same_upd hp)) upd_same (.cons (dp_same (s2.trans (same_upd hp)) _ _ d1) (.cons (dp_same (same_upd hp) _ _ d2') .nil))⟩⟩⟩
theorem pl_three {d2 d3 : PyData} {e3 : Expr} (st : Stay pre) {pos : Pos} (h1 : PE X e1 (tD K pre d)) (h2 : PE X e2 (tD K pre d2)) (h3 : PE X e3 (tD K pre d3)) (q1 : starEach [e1, e2, e3] X.env = (false, eval e1 X.env) :: starEach [e2, e3] X.env := by rfl) (q2 : starEach [e2, e3] X.env = (false, eval e2 X.env) :: starEach [e3] X.env := by rfl) (q3 : starEach [e3] X.env = (false, eval e3 X.env) :: starEach [] X.env := by rfl) : PE X (.List [e1, e2, e3] pos) (tL K pre [d, d2, d3]) := pe_of (pe_lst (pa_cons h1 (pa_cons h2 (pa_cons h3 pa_nil q3) q2) q1)) fun σ H Q q =>
  ⟨q.1, fun y H1 s1 d1 => ⟨st _ _ _ s1 q.1, fun y2 H2 s2 d2' => ⟨st _ _ _ (s1.trans s2) q.1, fun y3 H3 s3 d3' => ⟨by show 3 ≤ sizeLine; decide, fun p hp => q.2 _ _ _ (((s1.trans s2).trans s3).trans (same_upd hp)) upd_same (.cons (dp_same ((s2.trans s3).trans (same_upd hp)) _ _ d1) (.cons (dp_same (s3.trans (same_upd hp)) _ _ d2') (.cons (dp_same (same_upd hp) _ _ d3') .nil)))⟩⟩⟩⟩
theorem pl_four {d2 d3 d4 : PyData} {e3 e4 : Expr} (st : Stay pre) {pos : Pos} (h1 : PE X e1 (tD K pre d)) (h2 : PE X e2 (tD K pre d2)) (h3 : PE X e3 (tD K pre d3)) (h4 : PE X e4 (tD K pre d4)) (q1 : starEach [e1, e2, e3, e4] X.env = (false, eval e1 X.env) :: starEach [e2, e3, e4] X.env := by rfl) (q2 : starEach [e2, e3, e4] X.env = (false, eval e2 X.env) :: starEach [e3, e4] X.env := by rfl) (q3 : starEach [e3, e4] X.env = (false, eval e3 X.env) :: starEach [e4] X.env := by rfl) (q4 : starEach [e4] X.env = (false, eval e4 X.env) :: starEach [] X.env := by rfl) : PE X (.List [e1, e2, e3, e4] pos) (tL K pre [d, d2, d3, d4]) := pe_of (pe_lst (pa_cons h1 (pa_cons h2 (pa_cons h3 (pa_cons h4 pa_nil q4) q3) q2) q1)) fun σ H Q q =>
  ⟨q.1, fun y H1 s1 d1 => ⟨st _ _ _ s1 q.1, fun y2 H2 s2 d2' => ⟨st _ _ _ (s1.trans s2) q.1, fun y3 H3 s3 d3' => ⟨st _ _ _ ((s1.trans s2).trans s3) q.1, fun y4 H4 s4 d4' => ⟨by show 4 ≤ sizeLine; decide, fun p hp => q.2 _ _ _ ((((s1.trans s2).trans s3).trans s4).trans (same_upd hp)) upd_same
    (.cons (dp_same (((s2.trans s3).trans s4).trans (same_upd hp)) _ _ d1) (.cons (dp_same ((s3.trans s4).trans (same_upd hp)) _ _ d2') (.cons (dp_same (s4.trans (same_upd hp)) _ _ d3') (.cons (dp_same (same_upd hp) _ _ d4') .nil))))⟩⟩⟩⟩⟩
theorem room64 {k : Nat} {A : Around} (r : Room k A) : A.units + 64 < cLine := by have := r.un; omega
theorem dpa_app {H : Hp} : ∀ {ds es : List PyData} {xs ys : List V}, DpAll K H xs ds → DpAll K H ys es → DpAll K H (xs ++ ys) (ds ++ es)
  | _, _, _, _, .nil, h => h
  | _, _, _, _, .cons a b, h => .cons a (dpa_app b h)
theorem pl_cat (st : Stay pre) {pos : Pos} (h1 : PE X e1 (tL K pre ds)) (h2 : PE X e2 (tL K pre es)) (hz : ds.length + es.length ≤ 1000) : PE X (.BinOp e1 .Add e2 pos) (tL K pre (ds ++ es)) := pe_of (pe_op op_cat h1 h2) fun σ H Q q =>
  ⟨q.1, fun a xs H1 s1 ha ad => ⟨st _ _ _ s1 q.1, fun b ys H2 s2 hb bd => ⟨a, b, xs, ys, rfl, rfl, s2 _ _ ha, hb, by rw [dpa_len ad, dpa_len bd, sizeLine_eq]; omega, fun p hp => q.2 _ _ _ ((s1.trans s2).trans (same_upd hp)) upd_same (dpa_app (dp_sameAll (s2.trans (same_upd hp)) _ _ ad) (dp_sameAll (same_upd hp) _ _ bd))⟩⟩⟩
theorem pl_var {i : Nat} {x : Str} {pos : Pos} (h : PE X (.Name x pos) (tVar i)) (hp : ∀ σ H, pre σ H → ∃ a xs, σ[i]? = some (some (.ref a)) ∧ H a = some (.lst xs) ∧ DpAll K H xs ds) : PE X (.Name x pos) (tL K pre ds) := pe_of h fun σ H Q q => by
  obtain ⟨a, xs, h1, h2, h3⟩ := hp _ _ q.1
  exact ⟨_, h1, q.2 _ _ _ (Same.refl H) h2 h3⟩
end
/-! ### isinstance of the caught error -/
section
variable {X : Cx} {K : PySem.W.Frag} {mg : Str → Option Value} {a : Addr} {oe : Obj} {cls : Value} {d : Option Addr} {pn : List (Addr × Obj)}
/-- what is known of the caught error, held by the i-th name -/
def Cau (K : PySem.W.Frag) (i : Nat) (a : Addr) (cls : Value) (d : Option Addr) (v : V) : L2.St → Hp → Prop := fun σ H => cls = .ref (IT K) ∧ σ[i]? = some (some (.ref a)) ∧ ∃ dd, d = some dd ∧ H dd = some (.xd [("given", v)])
theorem cau_stay {i : Nat} {v : V} : Stay (Cau K i a cls d v) := fun σ H H' s ⟨h1, h2, dd, h3, h4⟩ => ⟨h1, h2, dd, h3, s _ _ h4⟩
theorem call_isE (hK : X.K = K) (T : Tx K mg) (hz : L2N.Zn cls d oe) (hf : ∃ vs, oe.data = .fields vs) :
    CallR (X.suite a ((a, oe) :: pn)) (.builtin "isinstance") (fun xs H Q => cls = .ref (IT K) ∧ ∃ dd, d = some dd ∧ rIsD K (IT K) a dd xs H Q) := by
  subst hK
  intro pins s σ H xs us Q I r h
  obtain ⟨rfl, dd, rfl, h⟩ := h
  exact call_isD T.my.exc hz.zc hf pins s σ H xs us Q I r h
theorem pd_isE {i : Nat} {x en : Str} {b : Bool} {v : V} {p1 p2 p3 p4 : Pos} (hK : X.K = K) (hM : X.mg = mg) (T : Tx K mg) (hz : L2N.Zn cls d oe) (hf : ∃ vs, oe.data = .fields vs) (hi : Gl X "isinstance") (he : PE (X.suite a ((a, oe) :: pn)) (.Name en p2) (tVar i)) (hx : Gl X x) (hm : mg x = some (.ref (ga x K)))
    (hb : PySem.W.kitOne K (.ref (IT K)) (.ref (ga x K)) = some b) (hdb : (x == ("__debug__" : Str)) = false := by decide)
    (hs : starEach [.Name en p2, .Name x p3] X.env = [(false, eval (.Name en p2) X.env), (false, eval (.Name x p3) X.env)] := by rfl) (hpl : (backTo p4 (starEach [.Name en p2, .Name x p3] X.env)).any (·.1) = false := by rfl) :
    PE (X.suite a ((a, oe) :: pn)) (.Call (.Name "isinstance" p1) [.Name en p2, .Name x p3] [] p4) (tD K (Cau K i a cls d v) (.bool b)) := by
  subst hM
  refine pe_of (pe_callB (call_isE (pn := pn) hK T hz hf) hi (T.b_isinstance) (by decide +kernel) (pa_cons he (pa_cons (pe_glob (X := X.suite a ((a, oe) :: pn)) (v := .ref (ga x K)) hx hm rfl hdb) pa_nil))) fun σ H Q q => ?_
  obtain ⟨⟨h1, h2, dd, h3, h4⟩, q⟩ := q
  exact ⟨_, h2, h1, dd, h3, .ref (ga x K), .ref (ga x K), b, rfl, ⟨_, h4⟩, fun u ru => ru, hb, q _ _ (Same.refl H) (.bl b)⟩
end
end K5
set_option Elab.async false
set_option linter.all false
set_option maxRecDepth 100000
set_option maxHeartbeats 4000000
/-! The except suite of _law_ended. -/
namespace K5
open PySem PySem.Spec PyProof.Rows L2
open TL (tl)
open L2H (HotC Hot1 TurnH PIH PIEH pi_range1H)
theorem pss_of {X : Cx} {l : List Stmt} {t t' : TS} (h : PSs X l t) (m : ∀ D σ H, t' D σ H → t D σ H) : PSs X l t' := ⟨fun pins s σ H D I q => h.run pins s σ H D I (m D σ H q)⟩
theorem noH_told {H : Hp} : ∀ b, (noH b).isSome = true → (H b).isSome = true := noH_in
/-- a comprehension over a list of data that is made -/
theorem lc_listG {K : PySem.W.Frag} {tl te : TE} {tt : TT} {i : Nat} {σ : L2.St} {H : Hp} {Q : V → Hp → Prop} (ds : List PyData) (f : Nat → PyData) (p : Nat → Bool) (hn : ds.length ≤ sizeLine)
    (htl : ∀ R : V → Hp → Prop, (∀ a xs H1, Same H H1 → H1 a = some (.lst xs) → DpAll K H1 xs ds → R (.ref a) H1) → tl σ H R)
    (hs : ∀ j d x H2, ds[j]? = some d → Dp K H2 x d → Same H H2 → ∀ (Qy : V → Hp → Prop) (Qn : Hp → Prop), (p j = true → ∀ y H3, Same H2 H3 → Dp K (nw H2 H3) y (f j) → Qy y H3) → (p j = false → ∀ H3, Same H2 H3 → Qn H3) →
      tt ((wipe σ [i]).set i (some x)) H2 fun b H3 => if b = true then te ((wipe σ [i]).set i (some x)) H3 Qy else Qn H3)
    (hq : ∀ D ys H2, Same H H2 → H2 D = some (.lst ys) → DpAll K H2 ys (((List.range ds.length).filter p).map f) → Q (.ref D) H2) :
    tLc (iList K tl) (gName i) tt te [i] σ H Q := by
  refine htl _ fun pp xs H1 s1 q1 dd => ⟨pp, rfl, ⟨xs, .inl (.inl q1)⟩, ?_⟩
  have el := dpa_len dd
  refine lc_oneF (K := K) (walk_list (xs := xs)) noH f p (by rw [el]; exact hn) noH_in (fun H2 s => s.seq (.inl (.inl q1))) (fun _ _ _ _ y => y.1) (fun j x H2 hj y s2 => ?_) fun D ys H2 s2 e d1 _ => hq D ys H2 (s1.trans s2) e (by rw [← el]; exact dp_sameAll (nw_sub (B := noH)) _ _ d1)
  obtain ⟨d, e1, e2⟩ := dpa_at dd y.2
  exact hs j d x H2 e1 (dp_same s2 _ _ e2) (s1.trans s2)
theorem if1s {t : TT} {u v : TS} {D : Ends} {σ : L2.St} {H : Hp} (h : t σ H fun b H1 => if b = true then u D σ H1 else v D σ H1) : tIfS t u v D σ H := h
/-- a comprehension over range(n) -/
theorem lc_rng1 {K : PySem.W.Frag} {ta : TA} {te : TE} {i : Nat} {σ : L2.St} {H : Hp} {Q : V → Hp → Prop} (n : Nat) (f : Nat → PyData) (hn : n ≤ 1000) (hta : ∀ R : List V → Hp → Prop, R [.int n] H → ta σ H R)
    (hs : ∀ j H2, j < n → Same H H2 → ∀ Qy : V → Hp → Prop, (∀ y H3, Same H2 H3 → Dp K (nw H2 H3) y (f j) → Qy y H3) → te ((wipe σ [i]).set i (some (.int (0 + (j : Nat))))) H2 Qy)
    (hq : ∀ D ys H2, Same H H2 → H2 D = some (.lst ys) → Dp K H2 (.ref D) (.list ((List.range n).map f)) → Q (.ref D) H2) : tLc (iRng1 ta) (gName i) tYes te [i] σ H Q := by
  refine hta _ ⟨n, rfl, by omega, by omega, ?_⟩
  rw [show ((n : Int)).toNat = n from Int.toNat_natCast n]
  exact lc_one (K := K) (walk_range (lo := 0) (n := n)) noH f (by rw [sizeLine_eq]; omega) noH_in (fun _ _ => trivial) (fun _ _ _ _ y => y.1) (fun j x Hj hj y sj Qy hy => by
    rw [show x = V.int (0 + (j : Nat)) from y.2]
    exact hs j Hj hj sj Qy hy) fun D ys H2 s2 h2 _ d2 => hq D ys H2 s2 h2 (dp_same (nw_sub (B := noH)) _ _ d2)
abbrev nEd : List Str := ["_law_act", "_law_came", "e", "_law_names", "_law_word_here", "_law_bases", "_law_base", "_law_pair_here", "_law_k"]
theorem sc_ended : FnScope nEd ["_law_act"] (defScope s_law_ended) := ⟨rfl, rfl, rfl, by decide +kernel, rfl, by decide +kernel, by decide +kernel⟩
def edS : List Stmt := match ((defBody s_law_ended) : List Stmt) with
  | (Stmt.Try _ [.ExceptHandler _ _ b _] _ _ _) :: _ => b
  | _ => []
def pairD (p : Bool × Str) : PyData := .list [.bool p.1, .str p.2]
abbrev prs : List (Bool × Str) := [(true, "text"), (false, "number"), (false, "index"), (false, "council"), (false, "minds"), (false, "ways"), (false, "word"), (false, "thoughts"), (false, "unknown"), (false, "no days"), (false, "many")]
/-- the suite ends so -/
def tEnd (K : PySem.W.Frag) (a : Addr) (cls : Value) (d : Option Addr) (v : V) (dv : PyData) : TS := fun D σ H => cls = .ref (IT K) ∧ (∃ dd, d = some dd ∧ H dd = some (.xd [("given", v)])) ∧ (∃ f, σ = [some (.ref f), none, some (.ref a), none, none, none, none, none, none]) ∧ DpX K H v dv ∧ Small dv ∧
  ∀ l H', H l = none → Same H H' → H' l = some (.lst [.str "text", .str dv.shown]) → D.rt (.ref l) H'
theorem dpx_same {K : PySem.W.Frag} {H H' : Hp} {v : V} {d : PyData} (s : Same H H') (h : DpX K H v d) : DpX K H' v d := by
  rcases h with h | ⟨a, h1, h2, h3⟩
  · exact .inl (dp_same s _ _ h)
  · exact .inr ⟨a, h1, s _ _ h2, h3⟩
section
variable {P : Program} {w : World} {K : PySem.W.Frag} {mg : Str → Option Value} {base : Heap}
theorem ended_suite (T : Tx K mg) {f : Addr} {cdv : Value} {A : Around} {outer : List Env} {s : Shared} {H : Hp} {E : XK} (hg : A.guards = some []) (hr : Room 9 (A.deeper (envOfC "_law_ended" (defScope s_law_ended) s.heap.objs.size f cdv)))
    {a : Addr} {oe : Obj} {cls : Value} {d : Option Addr} {pn : List (Addr × Obj)} (hz : L2N.Zn cls d oe) (hf : ∃ vs, oe.data = .fields vs) (v : V) (dv : PyData) :
    PSs ((cxOf CX0 P w K mg base nEd "_law_ended" (defScope s_law_ended) f cdv A outer s H E).suite a ((a, oe) :: pn)) edS (tEnd K a cls d v dv) := by
  have nd := sc_ended.nd
  have M := T.my
  have hu := room64 hr
  have hu5 := room65 hr
  have st : Stay (Cau K 2 a cls d v) := cau_stay
  have st2 : ∀ k : Nat, Stay (fun σ H => Cau K 2 a cls d v σ H ∧ ∃ q xs, σ[3]? = some (some (.ref q)) ∧ H q = some (.lst xs) ∧ DpAll K H xs ((prs.take k).map pairD)) := fun k σ H H' s h => ⟨st _ _ _ s h.1, h.2.elim fun q h => h.elim fun xs h => ⟨q, xs, h.1, s _ _ h.2.1, dp_sameAll s _ _ h.2.2⟩⟩
  have stT : Stay (fun _ _ => True) := fun _ _ _ _ _ => trivial
  have hh : Hot1 ((cxOf CX0 P w K mg base nEd "_law_ended" (defScope s_law_ended) f cdv A outer s H E).suite a ((a, oe) :: pn)).A (a, oe) := ⟨rfl, hf.elim fun vs e => ⟨vs, e, hz.2.2 vs e⟩⟩
  refine pss_of (pss_cons (ps_set (i := 3) nd rfl (Or.inl rfl) (pl_two st (pd_lst (pl_two st (pd_isE (x := "InvalidText") (b := true) rfl rfl T hz hf (by rfl) (pv 2) (by rfl) T.g_InvalidText (M.is ("InvalidText", true) (by decide))) pd_str)) (pd_lst (pl_two st (pd_isE (x := "InvalidNumber") (b := false) rfl rfl T hz hf (by rfl) (pv 2) (by rfl) T.g_InvalidNumber (M.is ("InvalidNumber", false) (by decide))) pd_str))))
    (pss_cons (ps_set (i := 3) nd rfl (Or.inl rfl) (pl_cat (pre := (fun σ H => Cau K 2 a cls d v σ H ∧ ∃ q xs, σ[3]? = some (some (.ref q)) ∧ H q = some (.lst xs) ∧ DpAll K H xs ((prs.take 2).map pairD))) (st2 2) (pl_var (ds := (prs.take 2).map pairD) (pv 3) (fun σ H h => h.2)) (pl_sub (pl_two st (pd_lst (pl_two st (pd_isE (x := "InvalidIndex") (b := false) rfl rfl T hz hf (by rfl) (pv 2) (by rfl) T.g_InvalidIndex (M.is ("InvalidIndex", false) (by decide))) pd_str)) (pd_lst (pl_two st (pd_isE (x := "NotACouncil") (b := false) rfl rfl T hz hf (by rfl) (pv 2) (by rfl) T.g_NotACouncil (M.is ("NotACouncil", false) (by decide))) pd_str))) (fun σ H h => h.1)) (by decide)))
    (pss_cons (ps_set (i := 3) nd rfl (Or.inl rfl) (pl_cat (pre := (fun σ H => Cau K 2 a cls d v σ H ∧ ∃ q xs, σ[3]? = some (some (.ref q)) ∧ H q = some (.lst xs) ∧ DpAll K H xs ((prs.take 4).map pairD))) (st2 4) (pl_var (ds := (prs.take 4).map pairD) (pv 3) (fun σ H h => h.2)) (pl_sub (pl_two st (pd_lst (pl_two st (pd_isE (x := "InvalidMinds") (b := false) rfl rfl T hz hf (by rfl) (pv 2) (by rfl) T.g_InvalidMinds (M.is ("InvalidMinds", false) (by decide))) pd_str)) (pd_lst (pl_two st (pd_isE (x := "InvalidWays") (b := false) rfl rfl T hz hf (by rfl) (pv 2) (by rfl) T.g_InvalidWays (M.is ("InvalidWays", false) (by decide))) pd_str))) (fun σ H h => h.1)) (by decide)))
    (pss_cons (ps_set (i := 3) nd rfl (Or.inl rfl) (pl_cat (pre := (fun σ H => Cau K 2 a cls d v σ H ∧ ∃ q xs, σ[3]? = some (some (.ref q)) ∧ H q = some (.lst xs) ∧ DpAll K H xs ((prs.take 6).map pairD))) (st2 6) (pl_var (ds := (prs.take 6).map pairD) (pv 3) (fun σ H h => h.2)) (pl_sub (pl_two st (pd_lst (pl_two st (pd_isE (x := "InvalidWord") (b := false) rfl rfl T hz hf (by rfl) (pv 2) (by rfl) T.g_InvalidWord (M.is ("InvalidWord", false) (by decide))) pd_str)) (pd_lst (pl_two st (pd_isE (x := "InvalidThoughts") (b := false) rfl rfl T hz hf (by rfl) (pv 2) (by rfl) T.g_InvalidThoughts (M.is ("InvalidThoughts", false) (by decide))) pd_str))) (fun σ H h => h.1)) (by decide)))
    (pss_cons (ps_set (i := 3) nd rfl (Or.inl rfl) (pl_cat (pre := (fun σ H => Cau K 2 a cls d v σ H ∧ ∃ q xs, σ[3]? = some (some (.ref q)) ∧ H q = some (.lst xs) ∧ DpAll K H xs ((prs.take 8).map pairD))) (st2 8) (pl_var (ds := (prs.take 8).map pairD) (pv 3) (fun σ H h => h.2)) (pl_sub (pl_two st (pd_lst (pl_two st (pd_isE (x := "UnknownName") (b := false) rfl rfl T hz hf (by rfl) (pv 2) (by rfl) T.g_UnknownName (M.is ("UnknownName", false) (by decide))) pd_str)) (pd_lst (pl_two st (pd_isE (x := "NoDays") (b := false) rfl rfl T hz hf (by rfl) (pv 2) (by rfl) T.g_NoDays (M.is ("NoDays", false) (by decide))) pd_str))) (fun σ H h => h.1)) (by decide)))
    (pss_cons (ps_set (i := 4) nd rfl (Or.inl rfl) (pe_joinK (K := K) pe_str (pe_lcH (own := [("_law_pair_here", 7)]) (g := gName 7) hh List.mem_cons_self nd (pi_listH (pl_cat (pre := (fun σ H => Cau K 2 a cls d v σ H ∧ ∃ q xs, σ[3]? = some (some (.ref q)) ∧ H q = some (.lst xs) ∧ DpAll K H xs ((prs.take 10).map pairD))) (st2 10) (pl_var (ds := (prs.take 10).map pairD) (pv 3) (fun σ H h => h.2)) (pl_sub (pl_one st (pd_lst (pl_two st (pd_isE (x := "TooMany") (b := false) rfl rfl T hz hf (by rfl) (pv 2) (by rfl) T.g_TooMany (M.is ("TooMany", false) (by decide))) pd_str))) (fun σ H h => h.1)) (by decide)))
      (blkOk_by (N := nEd) (sc := defScope s_law_ended) (by decide +kernel)) (fun _ _ _ _ _ => pg_name (i := 7) nd rfl (Or.inl rfl)) (fun _ _ _ _ _ => pts_one (pt_val (pe_ix (ix_listK K) (pv 7) pe_int (fun _ _ => rfl)))) (fun _ _ _ _ _ => pe_ix (ix_listK K) (pv 7) pe_int (fun _ _ => rfl)))))
    (pss_cons (ps_set (i := 5) nd rfl (Or.inl rfl) (pl_three st (pd_isE (x := "WrongValue") (b := true) rfl rfl T hz hf (by rfl) (pv 2) (by rfl) T.g_WrongValue (M.is ("WrongValue", true) (by decide))) (pd_isE (x := "WrongName") (b := false) rfl rfl T hz hf (by rfl) (pv 2) (by rfl) T.g_WrongName (M.is ("WrongName", false) (by decide))) (pd_isE (x := "NoAnswer") (b := false) rfl rfl T hz hf (by rfl) (pv 2) (by rfl) T.g_NoAnswer (M.is ("NoAnswer", false) (by decide)))))
    (pss_cons (ps_set (i := 6) nd rfl (by first | exact Or.inl rfl | exact Or.inr rfl) (pe_ifExp (pt_cmpR op_eq (pv 4) pe_str (nomark _)) pe_int (pe_ifExp (pt_cmpR (op_inD hu5) (pv 4) (pl_two (K := K) (pre := fun _ _ => True) stT pd_str pd_str) rfl) pe_int pe_int)))
    (pss_cons (ps_if (pt_cmpR (op_neD hr.units) (pv 5) (pe_lcH (own := [("_law_k", 8)]) (g := gName 8) (tt := tYes) hh List.mem_cons_self nd (pi_range1H (by rfl) T.b_range (pa_cons pe_int pa_nil)) (blkOk_by (N := nEd) (sc := defScope s_law_ended) (by decide +kernel)) (fun _ _ _ _ _ => pg_name (i := 8) nd rfl (Or.inl rfl)) (fun _ _ _ _ _ => pts_nil)
      (fun _ _ _ _ _ => pe_cmpR op_eq (pv 8) (pv 6) (nomark _))) (nomark _)) pss_never pss_nil)
    (pss_cons (ps_if (pt_cmpR op_eq (pv 4) pe_str (nomark _)) pss_never pss_nil)
    (pss_one (ps_ret (pe_lst (pa_cons (pv 4) (pa_cons (pe_ifExp (pt_cmpR (op_inD hu5) (pv 4) (pl_four (K := K) (pre := fun _ _ => True) stT pd_str pd_str pd_str pd_str) rfl) pe_never (pe_callB (call_repr hg hu) (by rfl) T.b_repr (by decide +kernel) (pa_cons (pe_xf M.xf M.given hz.zc hf (pv 2)) pa_nil))) pa_nil))))))))))))))) ?_
  intro D σ H1 h
  obtain ⟨ec, ⟨dd, ed, hdd⟩, ⟨f0, rfl⟩, hv, sm, q⟩ := h
  have cau : ∀ (σ' : L2.St) (H' : Hp), σ'[2]? = some (some (.ref a)) → Same H1 H' → Cau K 2 a cls d v σ' H' := fun σ' H' e s => ⟨ec, e, dd, ed, s _ _ hdd⟩
  refine sq1 (asg1 ⟨cau _ _ rfl (Same.refl _), fun p1 xs1 H2 s2 h2 d2 => gn1 ?_⟩)
  dsimp only
  refine sq1 (asg1 ⟨⟨cau _ _ rfl s2, p1, xs1, rfl, h2, d2⟩, fun p2 xs2 H3 s3 h3 d3 => gn1 ?_⟩)
  dsimp only
  have t3 := s2.trans s3
  refine sq1 (asg1 ⟨⟨cau _ _ rfl t3, p2, xs2, rfl, h3, d3⟩, fun p3 xs3 H4 s4 h4 d4 => gn1 ?_⟩)
  dsimp only
  have t4 := t3.trans s4
  refine sq1 (asg1 ⟨⟨cau _ _ rfl t4, p3, xs3, rfl, h4, d4⟩, fun p4 xs4 H5 s5 h5 d5 => gn1 ?_⟩)
  dsimp only
  have t5 := t4.trans s5
  refine sq1 (asg1 ⟨⟨cau _ _ rfl t5, p4, xs4, rfl, h5, d5⟩, fun p5 xs5 H6 s6 h6 d6 => gn1 ?_⟩)
  dsimp only
  have t6 := t5.trans s6
  refine sq1 (asg1 ⟨⟨_, rfl⟩, lc_listG (K := K) (prs.map pairD) (fun j => .str (prs.getD j (false, "")).2) (fun j => (prs.getD j (false, "")).1) (by decide) (fun R hR => ⟨⟨cau _ _ rfl t6, p5, xs5, rfl, h6, d6⟩, fun p6 xs6 H7 s7 h7 d7 => hR p6 xs6 H7 s7 h7 d7⟩) (fun j dj x Hj ej hx sj Qy Qn hy hn => ?_) fun DD ys H7 s7 h7 d7 => ?_⟩)
  · rw [List.getElem?_map] at ej
    cases e : prs[j]? with
    | none => 
      rw [e] at ej
      cases ej
    | some pr =>
      rw [e] at ej
      obtain rfl : pairD pr = dj := Option.some.inj ej
      have eg : prs.getD j (false, "") = pr := by rw [List.getD_eq_getElem?_getD, e]; rfl
      rw [eg] at hy hn
      obtain ⟨pa, pxs, rfl, hp1, hp2⟩ := dp_lst hx
      cases hp2 with
      | cons b1 r1 =>
      cases b1 with
      | bl b =>
      cases r1 with
      | cons b2 r2 =>
      cases b2 with
      | str z =>
      cases r2
      refine ⟨_, rfl, pa, _, 0, .bl pr.1, rfl, rfl, hp1, rfl, _, rfl, ?_⟩
      cases hb : pr.1 with
      | true => exact iteT ⟨_, rfl, pa, _, 1, .str pr.2, rfl, rfl, hp1, rfl, hy hb _ _ (Same.refl _) (.str _)⟩
      | false => exact iteF (hn hb _ (Same.refl _))
  have t7 := t6.trans s7
  have d7' : DpAll K H7 ys ((["text"] : List Str).map .str) := d7
  have ey : ys = (["text"] : List Str).map V.str := dpa_strs d7'
  subst ey
  refine ⟨"", DD, ["text"], rfl, rfl, .inl (.inl (.inl h7)), by decide, gn1 ?_⟩
  rw [show Txt.join "" (["text"] : List Str) = "text" from by decide]
  dsimp only
  refine sq1 (asg1 ⟨cau _ _ rfl t7, fun p8 xs8 H8 s8 h8 d8 => gn1 ?_⟩)
  dsimp only
  have t8 := t7.trans s8
  refine sq1 (asg1 (if1 ⟨_, rfl, rfl, _, rfl, ?_⟩))
  rw [show decide (V.str "text" = V.str "unknown") = false from by decide]
  refine iteF (if1 ⟨_, rfl, trivial, fun p9 xs9 H9 s9 h9 d9 => ⟨.str "text", _, .str _, .lst (.inl (.inl h9)) d9, by decide +kernel, by decide +kernel, _, rfl, ?_⟩⟩)
  rw [show ((([.str "no days", .str "many"] : List PyData)).any fun z => PyData.eqv z (.str "text")) = false from by decide]
  refine iteF (gn1 ?_)
  dsimp only
  have t9 := t8.trans s9
  refine sq1 (if1s ⟨_, rfl, lc_rng1 (K := K) 3 (fun j => .bool (decide (V.int (0 + (j : Nat)) = V.int 0))) (by decide) (fun R hR => hR) (fun j Hj hj sj Qy hy => ?_) fun DD ys H10 s10 h10 d10 => ?_⟩)
  · exact ⟨_, rfl, _, rfl, rfl, hy _ _ (Same.refl _) (.bl _)⟩
  have t10 := t9.trans s10
  refine ⟨.list [.bool true, .bool false, .bool false], .list [.bool true, .bool false, .bool false], .lst (.inl (.inl ((s9.trans s10) _ _ h8))) (dp_sameAll (s9.trans s10) _ _ d8), d10, by decide, by decide, _, rfl, ?_⟩
  rw [show (!PyData.eqv (.list [.bool true, .bool false, .bool false]) (.list [.bool true, .bool false, .bool false])) = false from by decide]
  refine iteF (nx1 ?_)
  dsimp only
  refine sq1 ⟨_, rfl, rfl, _, rfl, ?_⟩
  rw [show decide (V.str "text" = V.str "no days") = false from by decide]
  refine iteF (nx1 ?_)
  dsimp only
  refine rt1 ⟨_, rfl, if1 ⟨_, rfl, trivial, fun p11 xs11 H11 s11 h11 d11 => ⟨.str "text", _, .str _, .lst (.inl (.inl h11)) d11, by decide +kernel, by decide +kernel, _, rfl, ?_⟩⟩⟩
  rw [show ((([.str "minds", .str "ways", .str "word", .str "thoughts"] : List PyData)).any fun z => PyData.eqv z (.str "text")) = false from by decide]
  have t11 := t10.trans s11
  refine iteF ⟨_, rfl, rfl, ec, dd, _, v, ed, t11 _ _ hdd, rfl, v, dv, rfl, dpx_same t11 hv, sm.sh, sm.dp, sm.ln, by show 2 ≤ sizeLine; decide, fun p hp => ?_⟩
  exact q p _ (t11.free hp) (t11.trans (same_upd hp)) upd_same
end
end K5
set_option Elab.async false
set_option linter.all false
set_option maxRecDepth 100000
set_option maxHeartbeats 4000000
/-! _law_ended. -/
namespace K5
open PySem PySem.Spec PyProof.Rows L2
open TL (tl)
def endL (dv : PyData) : Option PyData → List V
  | some d => [.str "told", .str d.shown]
  | none => [.str "text", .str dv.shown]
def sp_ended (K : PySem.W.Frag) : Sp := fun vs H Q _ => ∃ f v dv due, vs = [.ref f] ∧ LamsAt H f v ∧ Thing H v dv due ∧ ∀ l H', H l = none → Same H H' → H' l = some (.lst (endL dv due)) → Q (.ref l) H'
section
variable {P : Program} {w : World} {K : PySem.W.Frag} {mg : Str → Option Value} {base : Heap}
theorem ok_ended (T : Tx K mg) : Dg P w K mg base CX0 10 (ga "_law_ended" K) ["_law_act"] (sp_ended K) := by
  obtain ⟨fd, F⟩ := T.f__law_ended
  have nd := sc_ended.nd
  have M := T.my
  refine ⟨fd, fnG_of F sc_ended (fun vs H Q E h => ?_) (fun cdv A outer s H vs Q E hcd hg hr h => ?_), F.kp, F.binds fun _ _ _ _ _ _ us hl => match us, hl with | [_], _ => rfl⟩
  · obtain ⟨f, v, dv, due, rfl, _⟩ := h
    rfl
  · obtain ⟨f, v, dv, due, rfl, hl, ht, q⟩ := h
    have hu := room64 hr
    refine ⟨_, pss_cons (ps_try_tup (i := 2) rfl rfl nd rfl rfl ⟨by rfl, T.g_WrongValue, by decide⟩ ⟨by rfl, T.g_WrongName, by decide⟩ ⟨by rfl, T.g_NoAnswer, by decide⟩
        (fun W pn xe tk _ => pss_one (ps_set (i := 1) nd rfl (Or.inl rfl) (pe_actS (i := 0) (APt K) (fun f H s h ok => apt_fn h ok) (fun f H Q E h => apt_weak h) (fun f H Q E s h e0 => ap_run T hg hr h e0) (fun σ => L2N.passAt tk σ) rfl (Or.inl rfl))))
        (fun a oe cls d pn hz hf => ended_suite T hg hr hz hf v dv))
      (pss_one (ps_ret (pe_lst (pa_cons pe_str (pa_cons (pe_callB (call_repr hg hu) (by rfl) T.b_repr (by decide +kernel) (pa_cons (pv 1) pa_nil)) pa_nil))))), ?_⟩
    refine sq1 ?_
    refine asg1 ⟨f, rfl, v, dv, due, hl, ht, fun d e r H' s hd => gn1 ?_, fun e di H' hn s hdi => ⟨?_, fun a ha => ?_⟩⟩
    · have sm := thing_due ht e
      dsimp only
      refine rt1 ⟨_, rfl, r, d, rfl, .inl hd, sm.sh, sm.dp, sm.ln, by show 2 ≤ sizeLine; decide, fun p hp => ?_⟩
      subst e
      exact q p _ (s.free hp) (s.trans (same_upd hp)) upd_same
    · show PySem.W.exmAny K (.ref (IT K)) _ = some true
      simp [PySem.W.exmAny, M.x1, M.x2, M.x3]
    · subst e
      show tEnd K a (.ref (IT K)) (some di) v dv _ _ _
      exact ⟨rfl, ⟨di, rfl, hdi⟩, ⟨f, rfl⟩, dpx_same s (thing_dpx ht), thing_small ht, fun l H2 n2 s2 h2 => q l H2 (s.free n2) (s.trans s2) h2⟩
end
end K5
set_option Elab.async false
set_option linter.all false
set_option maxRecDepth 100000
set_option maxHeartbeats 4000000
/-! _law_is_ended. -/
namespace K5
open PySem PySem.Spec PyProof.Rows L2
open TL (tl)
theorem pe_dg {X : Cx} {k : Nat} {f : Addr} {ps : List Str} {sp : Sp} {x : Str} {p pos : Pos} {e : Expr} {es : List Expr} {t : TA} (D : Dg X.prog X.w X.K X.mg X.base CX0 k f ps sp) (hG : X.A.guards = some []) (hr : Room k X.A) (hm : X.mg x = some (.ref f)) (ha : PA X (e :: es) t) (hg : Gl X x := by rfl) (hdb : (x == ("__debug__" : Str)) = false := by decide)
    (he : starEach (e :: es) X.env = (false, eval e X.env) :: starEach es X.env := by rfl) (hpl : (backTo pos (starEach es X.env)).any (·.1) = false := by rfl) : PE X (.Call (.Name x p) (e :: es) [] pos) (fun σ H Q => t σ H fun vs H1 => sp vs H1 Q E0) := by
  obtain ⟨fd, F, kp, b⟩ := D.ex
  exact pe_callG F hG hr hg hm kp b pass0 ha hdb he hpl
def endS (dv : PyData) : Option PyData → List Str
  | some d => ["told", d.shown]
  | none => ["text", dv.shown]
theorem endL_eq (dv : PyData) (due : Option PyData) : endL dv due = (endS dv due).map V.str := by cases due <;> rfl
theorem eqv_strs {K : PySem.W.Frag} {H : Hp} {n : Nat} : ∀ (l : List Str), Paired (EqV K H (n + 1)) (l.map V.str) (l.map V.str)
  | [] => .nil
  | x :: l => .cons (.inl ⟨rfl, rfl⟩) (eqv_strs l)
theorem eqv_dp {K : PySem.W.Frag} {H : Hp} {n : Nat} {x y : V} {l : List Str} (h1 : Dp K H x (.list (l.map .str))) (h2 : Dp K H y (.list (l.map .str))) : EqV K H (n + 2) x y := by
  obtain ⟨a, xs, rfl, s1, d1⟩ := dp_lst h1
  obtain ⟨b, ys, rfl, s2, d2⟩ := dp_lst h2
  have e1 := dpa_strs d1
  have e2 := dpa_strs d2
  subst e1 e2
  exact .inr (.inr (.inl ⟨a, b, _, _, rfl, rfl, s1, s2, eqv_strs l⟩))
theorem paired_rep {K : PySem.W.Frag} {H : Hp} {F : V → V → Prop} {v : V} {e : PyData} (h : ∀ x, Dp K H x e → F x v) : ∀ {ds : List PyData} {xs : List V}, DpAll K H xs ds → (∀ d ∈ ds, d = e) → Paired F xs (List.replicate ds.length v)
  | _, _, .nil, _ => .nil
  | d :: ds, _, .cons a b, q => by
    obtain rfl := q d List.mem_cons_self
    exact .cons (h _ a) (paired_rep h b fun d hd => q d (List.mem_cons_of_mem _ hd))
def sp_is_ended (K : PySem.W.Frag) : Sp := fun vs H Q _ => ∃ (L d : Addr) (fs : List Addr) (v : V) (dv : PyData) (due : Option PyData), vs = [.ref L, .ref d] ∧ fs.length ≤ 10 ∧ H L = some (.lst (fs.map V.ref)) ∧ (∀ f ∈ fs, LamsAt H f v) ∧ Thing H v dv due ∧ H d = some (.lst (endL dv due)) ∧ ∀ H', Same H H' → Q (.bl true) H'
abbrev nIe : List Str := ["_law_acts", "_law_due", "_law_act"]
theorem sc_is_ended : FnScope nIe ["_law_acts", "_law_due"] (defScope s_law_is_ended) := ⟨rfl, rfl, rfl, by decide +kernel, rfl, by decide +kernel, by decide +kernel⟩
section
variable {P : Program} {w : World} {K : PySem.W.Frag} {mg : Str → Option Value} {base : Heap}
theorem ok_is_ended (T : Tx K mg) : Dg P w K mg base CX0 11 (ga "_law_is_ended" K) ["_law_acts", "_law_due"] (sp_is_ended K) := by
  obtain ⟨fd, F⟩ := T.f__law_is_ended
  have nd := sc_is_ended.nd
  refine ⟨fd, fnG_of F sc_is_ended (fun vs H Q E h => ?_) (fun cdv A outer s H vs Q E hcd hg hr h => ?_), F.kp, F.binds fun _ _ _ _ _ _ us hl => match us, hl with | [_, _], _ => rfl⟩
  · obtain ⟨L, d, fs, v, dv, due, rfl, _⟩ := h
    rfl
  · obtain ⟨L, d, fs, v, dv, due, rfl, hn, hL, hl, ht, hd, q⟩ := h
    have hu := room64 hr
    refine ⟨_, pss_one (ps_ret (pe_cmpR (op_eqV hu) (pe_lc (own := [("_law_act", 2)]) (g := gName 2) (tt := tYes) rfl nd (pi_listK K (pv 0)) (blkOk_by (N := nIe) (sc := defScope s_law_is_ended) (by decide +kernel)) (fun _ _ _ _ _ => pg_name (i := 2) nd rfl (Or.inl rfl)) (fun _ _ _ _ _ => pts_nil)
        (fun _ _ _ _ _ => pe_dg (ok_ended T) hg hr T.g__law_ended (pa_cons (pv 2) pa_nil)))
      (pe_op op_rep (pe_lst (pa_cons (pv 1) pa_nil)) (pe_callB call_len_seq (by rfl) T.b_len (by decide +kernel) (pa_cons (pv 0) pa_nil))) (nomark _))), ?_⟩
    refine rt1 (op1 (lc_list1 (K := K) noH noH_in (fs.map V.ref) (fun _ => .list ((endS dv due).map .str)) (by rw [List.length_map, sizeLine_eq]; omega) (fun R hR => ⟨_, rfl, hR _ H (Same.refl _) (.inl (.inl hL))⟩) (fun j x H2 hj s Qy hy => ?_) fun D ys H2 s2 h2 d2 _ => ?_))
    · rw [List.getElem?_map] at hj
      cases e : fs[j]? with
      | none =>
        rw [e] at hj
        cases hj
      | some f =>
        rw [e] at hj
        obtain rfl : V.ref f = x := Option.some.inj hj
        refine ⟨_, rfl, f, v, dv, due, rfl, lams_same s (hl f (List.mem_of_getElem? e)), thing_same s ht, fun l H' n s' h' => hy _ _ s' (.lst (.inl (.inl (nw_of h' n))) ?_)⟩
        rw [endL_eq]
        exact dpa_of_strs
    · refine op1 ⟨_, rfl, by show 1 ≤ sizeLine; decide, fun p hp => cb1 ⟨_, rfl, L, fs.map V.ref, rfl, .inl (.inl (.inl (same_upd hp _ _ (s2 _ _ hL)))), p, _, _, rfl, rfl, upd_same, by omega, by rw [List.length_map]; omega, by rw [List.length_map, sizeLine_eq]; simp; omega, fun p2 hp2 => ⟨3, by decide, ?_, ?_⟩⟩⟩
      · have er : (List.replicate (((fs.map V.ref).length : Nat) : Int).toNat [V.ref d]).flatten = List.replicate fs.length (V.ref d) := by rw [Int.toNat_natCast, List.flatten_replicate_singleton, List.length_map]
        rw [er]
        have s3 : Same H2 (upd (upd H2 p (.lst [.ref d])) p2 (.lst (List.replicate fs.length (.ref d)))) := (same_upd hp).trans (same_upd hp2)
        refine .inl ⟨D, p2, ys, _, rfl, rfl, .inl (.inl (s3 _ _ h2)), .inl (.inl upd_same), ?_⟩
        have hp3 := paired_rep (K := K) (H := upd (upd H2 p (.lst [.ref d])) p2 (.lst (List.replicate fs.length (.ref d)))) (F := EqV K (upd (upd H2 p (.lst [.ref d])) p2 (.lst (List.replicate fs.length (.ref d)))) 3) (v := .ref d) (e := .list ((endS dv due).map .str)) (fun x hx => eqv_dp (n := 1) hx (.lst (.inl (.inl (s3 _ _ (s2 _ _ hd)))) (by rw [endL_eq]; exact dpa_of_strs)))
          (dp_sameAll (fun b o e => s3 b o ((nw_sub (B := noH)) b o e)) _ _ d2) (fun d hd => by obtain ⟨_, _, rfl⟩ := List.mem_map.mp hd; rfl)
        rw [List.length_map, List.length_range, List.length_map] at hp3
        exact hp3
      · exact q _ ((s2.trans (same_upd hp)).trans (same_upd hp2))
end
end K5
set_option Elab.async false
set_option linter.all false
set_option maxRecDepth 100000
set_option maxHeartbeats 4000000
/-! _law_is_read. -/
namespace K5
open PySem PySem.Spec PyProof.Rows L2
open TL (tl)
/-! ### all but the tables stays -/
mutual
theorem dp_ext {K : PySem.W.Frag} {H H' : Hp} (e : LamX.ExtN H H') : ∀ (d : PyData) (v : V), Dp K H v d → Dp K H' v d
  | .none, _, .non => .non
  | .bool _, _, .bl b => .bl b
  | .int _, _, .int i => .int i
  | .str _, _, .str x => .str x
  | .list ds, _, .lst s a => .lst (by
      rcases s with (s | ⟨o, s⟩) | s
      · exact .inl (.inl (e _ _ s (fun _ z => nomatch z)))
      · exact .inl (.inr ⟨o, e _ _ s (fun _ z => nomatch z)⟩)
      · exact .inr s) (dp_extAll e ds _ a)
  | .tuple ds, _, .tup s a => .tup (by
      rcases s with (s | ⟨o, s⟩) | s
      · exact .inl (.inl (e _ _ s (fun _ z => nomatch z)))
      · exact .inl (.inr ⟨o, e _ _ s (fun _ z => nomatch z)⟩)
      · exact .inr s) (dp_extAll e ds _ a)
  | .dict _, _, h => nomatch h
theorem dp_extAll {K : PySem.W.Frag} {H H' : Hp} (e : LamX.ExtN H H') : ∀ (ds : List PyData) (vs : List V), DpAll K H vs ds → DpAll K H' vs ds
  | [], _, .nil => .nil
  | d :: ds, _, .cons h t => .cons (dp_ext e d _ h) (dp_extAll e ds _ t)
end
theorem thing_ext {H H' : Hp} {v : V} {dv : PyData} {due : Option PyData} (s : LamX.ExtN H H') (h : Thing H v dv due) : Thing H' v dv due := thing_to (fun b o k e => s b o e (by
  intro ps z
  rcases k with rfl | ⟨_, rfl⟩ | ⟨_, rfl⟩ <;> cases z)) h
theorem tabs_set {T : List (Addr × Str)} {H : Hp} {p : Addr} {xs : List V} {o : HO} (e : H p = some (.lst xs)) (t : LamX.Tabs T H) : LamX.Tabs T (upd H p o) := fun q hq => by
  obtain ⟨ps, h1, h2, h3⟩ := t q hq
  refine ⟨ps, (upd_ne (fun z => ?_)).trans h1, h2, fun pos cv hc => ?_⟩
  · rw [z, e] at h1
    cases h1
  · obtain ⟨c, e1, e2⟩ := h3 pos cv hc
    refine ⟨c, e1, (upd_ne (fun z => ?_)).trans e2⟩
    rw [z, e] at e2
    unfold LamX.CodeO at e2
    cases e2
/-! ### what is due is shaped -/
theorem lay_all {α : Type} {f : α → PyData} : ∀ {l : List α}, (∀ x ∈ l, (f x).canLay0 = true) → PyData.canLayAll0 (l.map f) = true
  | [], _ => by simp [PyData.canLayAll0]
  | x :: l, h => by
    rw [List.map_cons]
    simp only [PyData.canLayAll0, h x List.mem_cons_self, lay_all fun y hy => h y (List.mem_cons_of_mem _ hy)]
    rfl
theorem lay_strs {l : List Str} (h : ∀ x ∈ l, okS x) : PyData.canLayAll0 (l.map .str) = true := by
  have := shaped_strs h
  unfold SeqAt.shaped at this
  have := (Bool.and_eq_true_iff.mp this).1
  simpa only [PyData.canLay0] using this
theorem due_shaped {x : Str} {d : PyData} (h : dueO x = some d) : SeqAt.shaped d = true := by
  have hs := (due_small h).dp
  unfold dueO at h
  split at h
  · rename_i hg
    cases h
    obtain ⟨h1, h2⟩ := good_parts hg
    unfold SeqAt.shaped
    rw [decide_eq_true (show _ ≤ 64 from Nat.le_trans hs (by decide)), Bool.and_true]
    have c1 : (mindsD (mindsO x)).canLay0 = true := by
      unfold mindsD
      simp only [PyData.canLay0]
      refine lay_strs fun n hn c hc => ?_
      have := ((minds_iff _).mp h1).2.2.1 n hn
      unfold nameB at this
      simp only [Bool.and_eq_true, decide_eq_true_eq, List.all_eq_true] at this
      have := this.2.2 c hc
      simp only [Bool.or_eq_true, lo, dg, decide_eq_true_eq] at this
      omega
    have c2 : (waysD (waysO x)).canLay0 = true := by
      unfold waysD
      simp only [PyData.canLay0]
      refine lay_all fun way _ => ?_
      unfold wayD
      simp only [PyData.canLay0]
      refine lay_all fun row _ => ?_
      unfold rowD
      simp only [PyData.canLay0]
      refine lay_all fun o _ => ?_
      cases o <;> simp only [oD, PyData.canLay0]
    simp only [PyData.canLay0, PyData.canLayAll0, c1, c2]
    rfl
  · cases h
theorem due_cons {x : Str} {d : PyData} (h : dueO x = some d) : ∃ ds, d = .list ds ∧ ds.isEmpty = false ∧ goodB x = true := by
  unfold dueO at h
  split at h
  · rename_i hg
    cases h
    exact ⟨_, rfl, rfl, hg⟩
  · cases h
abbrev dueL (due : Option PyData) : PyData := due.getD (.list [])
theorem dueD_eq (x : Str) : dueD x = dueL (dueO x) := by
  unfold dueD dueO
  split <;> rfl
/-! ### the def's code object -/
abbrev cR (K : PySem.W.Frag) : Addr := (He.cT K ("_law_is_read", none)).1
abbrev tR (K : PySem.W.Frag) : Addr := (He.cT K ("_law_is_read", none)).2
abbrev Tb (K : PySem.W.Frag) : List (Addr × Str) := [(tR K, lamQ)]
theorem code_read {K : PySem.W.Frag} {fd : FuncData} (F : L2.Fun K "_law_is_read" "_law_is_read" K5.s_law_is_read (ga "_law_is_read" K) fd) : fd.code = .ref (cR K) := by
  obtain ⟨oc, od, kV, doc, pm, an, cdv, ct, osl, e, lk, hcd⟩ := F.ex
  obtain ⟨c, rfl⟩ := He.codeIn_ref hcd
  have e2 : fd.code = .ref c := by rw [e] <;> rfl
  rw [e2]
  exact congrArg Value.ref (He.codeOf_eq (p := ("_law_is_read", none)) lk e2).symm
def sp_is_read (K : PySem.W.Frag) : Sp := fun vs H Q _ => ∃ (v : V) (dv : PyData) (due : Option PyData), vs = [v] ∧ LamX.Tabs (Tb K) H ∧ Thing H v dv due ∧ ∀ H', LamX.ExtN H H' → LamX.Tabs (Tb K) H' → Q (.bl true) H'
abbrev nIr : List Str := ["_law_thing", "_law_due", "_law_acts"]
theorem sc_is_read : FnScope nIr ["_law_thing"] (defScope s_law_is_read) := ⟨rfl, rfl, rfl, by decide +kernel, rfl, by decide +kernel, by decide +kernel⟩
end K5
set_option Elab.async false
set_option linter.all false
set_option maxRecDepth 100000
set_option maxHeartbeats 4000000
/-! _law_is_read: its walk. -/
namespace K5
open PySem PySem.Spec PyProof.Rows L2
open TL (tl)
section
variable {P : Program} {w : World} {K : PySem.W.Frag} {mg : Str → Option Value} {base : Heap}
theorem odd_ty {H : Hp} {v : V} {dv : PyData} (h : OddV H v dv) : ∃ t, TyX K H v (.type t) ∧ PySem.W.kitOne K (.type t) (.type "str") = some false := by
  rcases h with ⟨rfl, rfl⟩ | ⟨i, rfl, rfl, _⟩ | ⟨b, rfl, rfl⟩ | ⟨a, x, rfl, h, rfl, _⟩ | ⟨a, x, rfl, h, rfl, _⟩ | ⟨a, rfl, h, rfl⟩
  · exact ⟨_, .base .non, kit_ty (by decide +kernel)⟩
  · exact ⟨_, .base (.int i), kit_ty (by decide +kernel)⟩
  · exact ⟨_, .base (.bl b), kit_ty (by decide +kernel)⟩
  · exact ⟨_, .base (.tup h), kit_ty (by decide +kernel)⟩
  · exact ⟨_, .base (.lst h), kit_ty (by decide +kernel)⟩
  · exact ⟨_, .base (.dK h), kit_ty (by decide +kernel)⟩
theorem due_run {H : Hp} {v : V} {dv : PyData} {due : Option PyData} {R : VK} (h : Thing H v dv due) (hR : ∀ y H1, Same H H1 → Dp K H1 y (dueL due) → R y H1) :
    tIf (tB (tIsB K "str" (tVar 0))) (tCall (sp_law_read K) [] E0 (tCons (tVar 0) tNil)) (tLst tNil) (L2.start nIr [v]) H R := by
  rcases h with ⟨h, rfl⟩ | ⟨x, rfl, rfl, ok, hl, rfl⟩
  · obtain ⟨t, ty, kt⟩ := odd_ty (K := K) h
    exact if1 ⟨v, rfl, isB_of ty kt ⟨false, rfl, iteF ⟨Nat.zero_le _, fun p hp => hR _ _ (same_upd hp) (.lst (.inl (.inl upd_same)) .nil)⟩⟩⟩
  · refine if1 ⟨_, rfl, isB_of (t := "str") (.base (.str x)) (kit_ty (by decide +kernel)) ⟨true, rfl, iteT ⟨_, rfl, x, rfl, hl, ok, fun y H' s d => hR y H' s ?_⟩⟩⟩
    rw [← dueD_eq]
    exact d
theorem dueL_shaped {H : Hp} {v : V} {dv : PyData} {due : Option PyData} (h : Thing H v dv due) : SeqAt.shaped (dueL due) = true := by
  rcases h with ⟨_, rfl⟩ | ⟨x, _, _, _, _, z⟩
  · exact shaped_nil
  · cases due with
    | none => exact shaped_nil
    | some d => exact due_shaped z.symm
theorem args_run {H : Hp} {v y : V} {p : Addr} {dv : PyData} {due : Option PyData} {R : List V → Hp → Prop} (h : Thing H v dv due) (hd : Dp K H y (dueL due)) (hR : ∀ e H8, Same H H8 → H8 e = some (.lst (endL dv due)) → R [.ref p, .ref e] H8) :
    tCons (tVar 2) (tCons (tIf (tTest (tOp (rEqD K) (tVar 1) (tLst tNil))) (tLst (tCons (tC (.str "text")) (tCons (tCB (rRepr K) (tCons (tVar 0) tNil)) tNil))) (tLst (tCons (tC (.str "told")) (tCons (tCB (rRepr K) (tCons (tVar 1) tNil)) tNil)))) tNil) [some v, some y, some (.ref p)] H R := by
  refine ⟨_, rfl, if1 ⟨y, rfl, Nat.zero_le _, fun q hq => ⟨dueL due, .list [], dp_same (same_upd hq) _ _ hd, .lst (.inl (.inl upd_same)) .nil, dueL_shaped h, shaped_nil, _, rfl, ?_⟩⟩⟩
  have s1 := same_upd (o := HO.lst []) hq
  cases due with
  | none =>
    have sm := thing_small h
    rw [show PyData.eqv (dueL none) (.list []) = true from by rw [show dueL none = .list [] from rfl, eqv_nil]; rfl]
    exact iteT ⟨v, rfl, v, dv, rfl, dpx_same s1 (thing_dpx h), sm.sh, sm.dp, sm.ln, by show 2 ≤ sizeLine; decide, fun e he => hR e _ (s1.trans (same_upd he)) upd_same⟩
  | some d =>
    have sm := thing_due h rfl
    rcases h with ⟨_, z⟩ | ⟨x, _, _, _, _, z⟩
    · cases z
    · obtain ⟨ds, rfl, hne, _⟩ := due_cons z.symm
      rw [show PyData.eqv (dueL (some (.list ds))) (.list []) = false from by rw [show dueL (some (.list ds)) = .list ds from rfl, eqv_nil, hne]]
      exact iteF ⟨y, rfl, y, .list ds, rfl, .inl (dp_same s1 _ _ hd), sm.sh, sm.dp, sm.ln, by show 2 ≤ sizeLine; decide, fun e he => hR e _ (s1.trans (same_upd he)) upd_same⟩
theorem ok_is_read (T : Tx K mg) (TB : LamX.TabB base mg (cR K) (tR K)) : Dg P w K mg base CX0 12 (ga "_law_is_read" K) ["_law_thing"] (sp_is_read K) := by
  obtain ⟨fd, F⟩ := T.f__law_is_read
  have nd := sc_is_read.nd
  have M := T.my
  obtain ⟨pc, cm⟩ := M.cm
  obtain ⟨fdR, F0, FR⟩ := ok_c_readF (P := P) (w := w) (base := base) T
  have bR : Binds K fdR ["cls", "text"] [] := F0.binds fun _ _ _ _ _ _ us hl => match us, hl with | [_, _], _ => rfl
  have RR := FR.raw bR .nil
  obtain ⟨fdS, FS, kpS, bS⟩ := (ok_c_str (P := P) (w := w) (base := base) T).ex
  obtain ⟨fdI, FI, kpI, bI⟩ := (ok_is_ended (P := P) (w := w) (base := base) T).ex
  refine ⟨fd, fnG_of F sc_is_read (fun vs H Q E h => ?_) (fun cdv A outer s H vs Q E hcd hg hr h => ?_), F.kp, F.binds fun _ _ _ _ _ _ us hl => match us, hl with | [_], _ => rfl⟩
  · obtain ⟨v, dv, due, rfl, _⟩ := h
    rfl
  · obtain ⟨v, dv, due, rfl, hT, ht, q⟩ := h
    have hu := room64 hr
    obtain rfl : cdv = .ref (cR K) := hcd.symm.trans (code_read F)
    have hx : Passes (L2N.CX P w) (cxOf CX0 P w K mg base nIr "_law_is_read" (defScope s_law_is_read) (ga "_law_is_read" K) (.ref (cR K)) A outer s H E) (fun _ _ _ => False) := fun pins σ H s e s' I z => by
      obtain ⟨_, _, _, _, _, _, _, _, _, _, _, _, z⟩ := z
      exact z.elim
    have hq : ("_law_is_read.<locals>." : Str) ++ "<lambda>" = lamQ := by decide +kernel
    refine ⟨_, pss_cons (ps_set (i := 1) nd rfl (Or.inl rfl) (pe_ifExp (pt_val (pe_isB "str" T.b_isinstance T.b_str (by decide +kernel) (pv 0))) (pe_d (ok_law_read T) (hr.mono (show 3 ≤ 11 by decide)) T.g__law_read (pa_cons (pv 0) pa_nil)) (pe_lst pa_nil)))
      (pss_cons (ps_set (i := 2) nd rfl (Or.inl rfl) (pe_lst (pa_cons (pe_lam (T := Tb K) (q := lamQ) (y := tY) TB rfl hq rfl rfl ?hf1 (by rfl)) pa_nil)))
      (pss_cons (ps_expr (pe_bm PySem.F.plainAttrs_list PySem.F.slot_list_append PySem.F.type_list_append mt_append (pv 2) (pa_cons (pe_lam (T := Tb K) (q := lamQ) (y := tY) TB rfl hq rfl rfl ?hf2 (by rfl)) pa_nil)))
      (pss_cons (ps_if (pt_not (pt_val (pe_callC (i := 0) (y := tY) FI hg hr (by rfl) T.g__law_is_ended kpI bI (pa_cons (pv 2) (pa_cons (pe_ifExp (pt_cmpR (op_eqD hu) (pv 1) (pe_lst pa_nil) (nomark _))
          (pe_lst (pa_cons pe_str (pa_cons (pe_callB (call_repr hg hu) (by rfl) T.b_repr (by decide +kernel) (pa_cons (pv 0) pa_nil)) pa_nil)))
          (pe_lst (pa_cons pe_str (pa_cons (pe_callB (call_repr hg hu) (by rfl) T.b_repr (by decide +kernel) (pa_cons (pv 1) pa_nil)) pa_nil)))) pa_nil)) rfl rfl rfl rfl rfl))) pss_never pss_nil)
      (pss_one (ps_ret (pe_or (pe_cmpR (op_eqD hu) (pv 1) (pe_lst pa_nil) (nomark _)) (pe_one (pe_cmpR op_eq (pe_strO FS (hr.mono (show 5 ≤ 11 by decide)) (by rfl) T.b_str bS M.str M.strF
        (ClX.pe_cmeth (pe_glob (v := .ref (CO K)) rfl T.g_Council rfl) M.rd cm RR (hr.mono (show 8 ≤ 11 by decide)) hx (pa_cons (pv 0) pa_nil))) (pv 0) (nomark _))))))))), ?hr⟩
    case hf1 =>
      intro z hz e
      rw [(lam_one false).one z hz e]
      exact ⟨_, rfl⟩
    case hf2 =>
      intro z hz e
      rw [(lam_one true).one z hz e]
      exact ⟨_, rfl⟩
    generalize ccOf _ _ = cc
    refine sq1 (asg1 (due_run ht fun y H1 s1 d1 => gn1 ?_))
    dsimp only
    have t1 : LamX.Tabs (Tb K) H1 := hT.ext s1
    refine sq1 (asg1 ⟨t1, fun f1 c1 pm1 ct1 H2 x2 t2 n2 e2 => ⟨by show 1 ≤ sizeLine; decide, fun p hp => gn1 ?_⟩⟩)
    dsimp only
    generalize ho1 : lamObj lamQ _ _ _ [(tY, cc)] pm1 c1 ct1 = o1 at hp ⊢
    have ho1' : lamObj lamQ (lamP false) (lamB false) (lamS false) [(tY, cc)] pm1 c1 ct1 = o1 := ho1
    clear ho1
    have sf1 := same_upd (o := pinO f1 o1) n2
    have sp1 := same_upd (o := HO.lst [.ref f1]) hp
    have s24 : Same H2 (upd (upd H2 f1 (pinO f1 o1)) p (.lst [.ref f1])) := sf1.trans sp1
    have e4p : (upd (upd H2 f1 (pinO f1 o1)) p (.lst [.ref f1])) p = some (.lst [.ref f1]) := upd_same
    have e4f : (upd (upd H2 f1 (pinO f1 o1)) p (.lst [.ref f1])) f1 = some (pinO f1 o1) := sp1 _ _ upd_same
    have nfp : f1 ≠ p := ne_of_none upd_same hp
    have np2 : ∀ b o, H2 b = some o → b ≠ p := fun b o e => ne_of_none (sf1 _ _ e) hp
    clear sp1
    generalize upd (upd H2 f1 (pinO f1 o1)) p (HO.lst [V.ref f1]) = H4 at s24 e4p e4f ⊢
    refine sq1 ⟨_, rfl, .inl ⟨rfl, _, .inl (.inl e4p)⟩, t2.ext s24, fun f2 c2 pm2 ct2 H5 x5 t5 n5 e5 => ?_⟩
    generalize ho2 : lamObj lamQ _ _ _ [(tY, cc)] pm2 c2 ct2 = o2
    have ho2' : lamObj lamQ (lamP true) (lamB true) (lamS true) [(tY, cc)] pm2 c2 ct2 = o2 := ho2
    clear ho2
    have e5p : H5 p = some (.lst [.ref f1]) := x5 _ _ e4p (fun _ z => nomatch z)
    have np5 : p ≠ f2 := ne_of_none e5p n5
    have e5q : upd H5 f2 (pinO f2 o2) p = some (.lst [.ref f1]) := (upd_ne np5).trans e5p
    refine ⟨p, _, _, rfl, rfl, e5q, by show 1 < sizeLine; decide, ?_⟩
    dsimp only
    have k6 : ∀ b o, H4 b = some o → b ≠ p → (∀ ps, o ≠ .tbl ps) → upd (upd H5 f2 (pinO f2 o2)) p (.lst ([.ref f1] ++ [.ref f2])) b = some o := fun b o e n1 n2 => by
      rw [upd_ne n1]
      exact same_upd n5 _ _ (x5 _ _ e n2)
    have t6 : LamX.Tabs (Tb K) (upd (upd H5 f2 (pinO f2 o2)) p (.lst ([.ref f1] ++ [.ref f2]))) := tabs_set e5q (t5.ext (same_upd n5))
    have pinN : ∀ {a : Addr} {o : Obj} (ps : Array Value), pinO a o ≠ .tbl ps := fun ps => pinO_tbl
    have e6f1 := k6 _ _ e4f nfp pinN
    have e6c1 := k6 _ _ (s24 _ _ e2) (np2 _ _ e2) LamX.codeO_ne
    have e6f2 : upd (upd H5 f2 (pinO f2 o2)) p (.lst ([.ref f1] ++ [.ref f2])) f2 = some (pinO f2 o2) := (upd_ne np5.symm).trans upd_same
    have e6c2 : upd (upd H5 f2 (pinO f2 o2)) p (.lst ([.ref f1] ++ [.ref f2])) c2 = some (LamX.CodeO c2 lamQ) := (upd_ne (fun z => by
      rw [z, e5p] at e5
      unfold LamX.CodeO at e5
      cases e5)).trans (same_upd n5 _ _ e5)
    have e6p : upd (upd H5 f2 (pinO f2 o2)) p (.lst ([.ref f1] ++ [.ref f2])) p = some (.lst [.ref f1, .ref f2]) := upd_same
    have x16 : LamX.ExtN H1 (upd (upd H5 f2 (pinO f2 o2)) p (.lst ([.ref f1] ++ [.ref f2]))) := fun b o e n => k6 _ _ (s24 _ _ (x2 _ _ e n)) (np2 _ _ (x2 _ _ e n)) n
    generalize upd (upd H5 f2 (pinO f2 o2)) p (.lst ([.ref f1] ++ [.ref f2])) = H6 at t6 e6f1 e6c1 e6f2 e6c2 e6p x16 ⊢
    clear k6
    have x6 : LamX.ExtN H H6 := (LamX.ExtN.of s1).trans x16
    have d6 : Dp K H6 y (dueL due) := dp_ext x16 _ _ d1
    have ht6 : Thing H6 v dv due := thing_ext x6 ht
    refine sq1 (if1s ⟨v, rfl, args_run ht6 d6 fun e H8 s8 h8 o ho nc => ?_⟩)
    have s8' : Same H6 (upd H8 cc (pinO cc o)) := s8.trans (same_upd nc)
    refine ⟨p, e, [f1, f2], v, dv, due, rfl, by show 2 ≤ 10; decide, s8' _ _ e6p, fun f hf => ?_, thing_same s8' ht6, same_upd nc _ _ h8, fun H9 s9 => ⟨s9 _ _ upd_same, true, rfl, iteF (nx1 ?_)⟩⟩
    · rcases List.mem_cons.mp hf with rfl | hf
      · exact ⟨false, cc, o, ⟨c1, pm1, ct1, by rw [ho1']; exact s8' _ _ e6f1, s8' _ _ e6c1⟩, upd_same, ho⟩
      · obtain rfl := List.mem_singleton.mp hf
        exact ⟨true, cc, o, ⟨c2, pm2, ct2, by rw [ho2']; exact s8' _ _ e6f2, s8' _ _ e6c2⟩, upd_same, ho⟩
    · dsimp only
      have s10 : Same H6 (del H9 cc) := fun b u e => by
        have nb : b ≠ cc := ne_of_none (s8 _ _ e) nc
        rw [del_ne nb]
        exact s9 _ _ ((upd_ne nb).trans (s8 _ _ e))
      generalize del H9 cc = H10 at s10 ⊢
      refine rt1 ⟨y, rfl, Nat.zero_le _, fun l hl => ⟨dueL due, .list [], dp_same (s10.trans (same_upd hl)) _ _ d6, .lst (.inl (.inl upd_same)) .nil, dueL_shaped ht6, shaped_nil, _, rfl, ?_⟩⟩
      have q11 : ∀ H11, Same H6 H11 → Q (.bl true) H11 := fun H11 s11 => q _ (x6.trans (LamX.ExtN.of s11)) (t6.ext s11)
      have s11 := s10.trans (same_upd (o := HO.lst []) hl)
      cases due with
      | none =>
        rw [show PyData.eqv (dueL none) (.list []) = true from by rw [show dueL none = .list [] from rfl, eqv_nil]; rfl]
        exact iteT (q11 _ s11)
      | some d =>
        rcases ht6 with ⟨_, z⟩ | ⟨x, rfl, rfl, ok, hz, z⟩
        · cases z
        · obtain ⟨ds, rfl, hne, hg2⟩ := due_cons z.symm
          rw [show PyData.eqv (dueL (some (.list ds))) (.list []) = false from by rw [show dueL (some (.list ds)) = .list ds from rfl, eqv_nil, hne]]
          refine iteF (op1 ⟨rfl, _, rfl, .str x, rfl, .inr ⟨x, rfl, hz, (fun e => by rw [hg2] at e; cases e), fun _ o dx m wv H12 s12 ho hm hw => ?_⟩⟩)
          refine ⟨o, dx, _, rfl, ho, o, dx, m, wv, x, rfl, ho, hg2, hm, hw, fun H13 s13 => ⟨⟨x, rfl⟩, _, rfl, rfl, ?_⟩⟩
          rw [decide_eq_true (show V.str x = V.str x from rfl)]
          exact q11 _ ((s11.trans s12).trans s13)
end
end K5
set_option Elab.async false
set_option linter.all false
set_option maxRecDepth 100000
set_option maxHeartbeats 4000000
/-! _law_right. -/
namespace K5
open PySem PySem.Spec PyProof.Rows L2
open TL (tl)
/-- all but the jug and the tables stays -/
def KJ (J : Addr) (H H' : Hp) : Prop := ∀ b o, b ≠ J → H b = some o → (∀ ps, o ≠ .tbl ps) → H' b = some o
theorem KJ.refl (J : Addr) (H : Hp) : KJ J H H := fun _ _ _ e _ => e
theorem KJ.trans {J : Addr} {H H1 H2 : Hp} (a : KJ J H H1) (b : KJ J H1 H2) : KJ J H H2 := fun c o n e t => b c o n (a c o n e t) t
theorem kj_sj {J : Addr} {H H' : Hp} (s : SJ J H H') : KJ J H H' := fun b o n e _ => s.to b o n e
theorem kj_ext {J : Addr} {H H' : Hp} (s : LamX.ExtN H H') : KJ J H H' := fun b o _ e t => s b o e t
theorem kj_same {J : Addr} {H H' : Hp} (s : Same H H') : KJ J H H' := fun b o _ e _ => s b o e
theorem jug_ext {H H' : Hp} {J : Addr} (s : LamX.ExtN H H') (h : JugAt H J) : JugAt H' J := by
  obtain ⟨a, b, c, e⟩ := h
  exact ⟨a, b, c, s _ _ e (fun _ z => nomatch z)⟩
theorem tabs_sj {T : List (Addr × Str)} {H H' : Hp} {J : Addr} (s : SJ J H H') (hJ : JugAt H J) (t : LamX.Tabs T H) : LamX.Tabs T H' := fun q hq => by
  obtain ⟨a, b, c, eJ⟩ := hJ
  obtain ⟨ps, h1, h2, h3⟩ := t q hq
  refine ⟨ps, s.to _ _ (fun z => ?_) h1, h2, fun pos cv hc => ?_⟩
  · rw [z, eJ] at h1
    cases h1
  · obtain ⟨c, e1, e2⟩ := h3 pos cv hc
    refine ⟨c, e1, s.to _ _ (fun z => ?_) e2⟩
    rw [z, eJ] at e2
    unfold LamX.CodeO at e2
    cases e2
def sp_right (K : PySem.W.Frag) : Sp := fun vs H Q _ => ∃ J : Addr, vs = [.ref J] ∧ JugAt H J ∧ LamX.Tabs (Tb K) H ∧ ∀ H', KJ J H H' → JugAt H' J → LamX.Tabs (Tb K) H' → Q (.bl true) H'
abbrev nRi : List Str := ["_law_jug_here", "_law_again", "_law_heads_here", "_law_talks", "_law_page_here", "_law_step", "_law_bent_here", "_law_odds"]
theorem sc_right : FnScope nRi ["_law_jug_here"] (defScope s_law_right) := ⟨rfl, rfl, rfl, by decide +kernel, rfl, by decide +kernel, by decide +kernel⟩
theorem thing_strT {H : Hp} {x : Str} (h : okS x) (hl : x.length ≤ 50000) : Thing H (.str x) (.str x) (dueO x) := .inr ⟨x, rfl, rfl, h, hl, rfl⟩
/-- a text, bent or not -/
theorem bent_call {σ : L2.St} {H : Hp} {R : VK} {J : Addr} {i : Nat} {x : Str} (n : Nat) (h0 : σ[0]? = some (some (.ref J))) (hi : σ[i]? = some (some (.str x))) (hJ : JugAt H J) (ox : okS x) (hl : x.length ≤ 10000) (hn : 5 * x.length + 100 ≤ n)
    (hR : ∀ y H', SJ J H H' → JugAt H' J → okS y → y.length ≤ n → R (.str y) H') : tCall sp_bent [] E0 (tCons (tVar 0) (tCons (tVar i) tNil)) σ H R :=
  ⟨_, h0, _, hi, J, x, rfl, hJ, ox, hl, fun y H' s j oy ly => hR y H' s j oy (Nat.le_trans ly hn)⟩
theorem bent_if {b : Bool} {σ : L2.St} {H : Hp} {R : VK} {J : Addr} {i : Nat} {x : Str} (n : Nat) (h0 : σ[0]? = some (some (.ref J))) (hi : σ[i]? = some (some (.str x))) (hJ : JugAt H J) (ox : okS x) (hl : x.length ≤ 10000) (hn : 5 * x.length + 100 ≤ n)
    (hR : ∀ y H', SJ J H H' → JugAt H' J → okS y → y.length ≤ n → R (.str y) H') : if b = true then tVar i σ H R else tCall sp_bent [] E0 (tCons (tVar 0) (tCons (tVar i) tNil)) σ H R := by
  cases b with
  | true => exact ⟨_, hi, hR x H (SameX.refl _ _) hJ ox (by omega)⟩
  | false => exact bent_call n h0 hi hJ ox hl hn hR
theorem bent_if2 {b : Bool} {σ : L2.St} {H : Hp} {R : VK} {J : Addr} {i : Nat} {x : Str} (n : Nat) (h0 : σ[0]? = some (some (.ref J))) (hi : σ[i]? = some (some (.str x))) (hJ : JugAt H J) (ox : okS x) (hl : x.length ≤ 10000) (hn : 5 * x.length + 100 ≤ n)
    (hR : ∀ y H', SJ J H H' → JugAt H' J → okS y → y.length ≤ n → R (.str y) H') : if b = true then tCall sp_bent [] E0 (tCons (tVar 0) (tCons (tVar i) tNil)) σ H R else tVar i σ H R := by
  cases b with
  | true => exact bent_call n h0 hi hJ ox hl hn hR
  | false => exact ⟨_, hi, hR x H (SameX.refl _ _) hJ ox (by omega)⟩
def oddsL (pt pl pd : Addr) (x : Str) : List V := [.non, .int 5, .bl true, .ref pt, .ref pl, .ref pd, .str "", .str "\n", .str "ann", .str "ann\n", .str "ann\n0", .str "ann\n1", .int (10 ^ (30 : Int).toNat)]
theorem okS_by {x : Str} (h : (tl x).all (fun c => decide (c < 128)) = true) : okS x := fun c hc => of_decide_eq_true (List.all_eq_true.mp h c hc)
theorem odd_at {H : Hp} {pt pl pd : Addr} {x : Str} (h1 : H pt = some (.tup [.str "ann"])) (h2 : H pl = some (.lst [.str x])) (h3 : H pd = some (.dK [])) (ox : okS x) (lx : x.length ≤ 1000) : ∀ n, n < 13 → ∃ v, (oddsL pt pl pd x)[n]? = some v ∧ ∃ dv due, Thing H v dv due
  | 0, _ => ⟨_, rfl, _, _, .inl ⟨.inl ⟨rfl, rfl⟩, rfl⟩⟩
  | 1, _ => ⟨_, rfl, _, _, .inl ⟨.inr (.inl ⟨5, rfl, rfl, by decide +kernel, by decide +kernel⟩), rfl⟩⟩
  | 2, _ => ⟨_, rfl, _, _, .inl ⟨.inr (.inr (.inl ⟨true, rfl, rfl⟩)), rfl⟩⟩
  | 3, _ => ⟨_, rfl, _, _, .inl ⟨.inr (.inr (.inr (.inl ⟨pt, "ann", rfl, h1, rfl, okS_by (by decide), by decide⟩))), rfl⟩⟩
  | 4, _ => ⟨_, rfl, _, _, .inl ⟨.inr (.inr (.inr (.inr (.inl ⟨pl, x, rfl, h2, rfl, ox, by omega⟩)))), rfl⟩⟩
  | 5, _ => ⟨_, rfl, _, _, .inl ⟨.inr (.inr (.inr (.inr (.inr ⟨pd, rfl, h3, rfl⟩)))), rfl⟩⟩
  | 6, _ => ⟨_, rfl, _, _, thing_strT (x := "") (okS_by (by decide)) (by decide)⟩
  | 7, _ => ⟨_, rfl, _, _, thing_strT (x := "\n") (okS_by (by decide)) (by decide)⟩
  | 8, _ => ⟨_, rfl, _, _, thing_strT (x := "ann") (okS_by (by decide)) (by decide)⟩
  | 9, _ => ⟨_, rfl, _, _, thing_strT (x := "ann\n") (okS_by (by decide)) (by decide)⟩
  | 10, _ => ⟨_, rfl, _, _, thing_strT (x := "ann\n0") (okS_by (by decide)) (by decide)⟩
  | 11, _ => ⟨_, rfl, _, _, thing_strT (x := "ann\n1") (okS_by (by decide)) (by decide)⟩
  | 12, _ => ⟨_, rfl, _, _, .inl ⟨.inr (.inl ⟨10 ^ (30 : Int).toNat, rfl, rfl, by decide +kernel, by decide +kernel⟩), rfl⟩⟩
  | n + 13, h => absurd h (by omega)
theorem nb1 {t : TE} {σ : L2.St} {H : Hp} {Q : Bool → Hp → Prop} (h : t σ H fun x H1 => ∃ c, x = .bl c ∧ Q (!c) H1) : tNot (tB t) σ H Q := h
section
variable {P : Program} {w : World} {K : PySem.W.Frag} {mg : Str → Option Value} {base : Heap}
theorem ok_right (T : Tx K mg) (TB : LamX.TabB base mg (cR K) (tR K)) : Dg P w K mg base CX0 13 (ga "_law_right" K) ["_law_jug_here"] (sp_right K) := by
  obtain ⟨fd, F⟩ := T.f__law_right
  have nd := sc_right.nd
  refine ⟨fd, fnG_of F sc_right (fun vs H Q E h => ?_) (fun cdv A outer s H vs Q E hcd hg hr h => ?_), F.kp, F.binds fun _ _ _ _ _ _ us hl => match us, hl with | [_], _ => rfl⟩
  · obtain ⟨J, rfl, _⟩ := h
    rfl
  · obtain ⟨J, rfl, hJ, hT, q⟩ := h
    have hr1 := hr.mono (show 1 ≤ 12 by decide)
    have hr2 := hr.mono (show 2 ≤ 12 by decide)
    have hr4 := hr.mono (show 4 ≤ 12 by decide)
    refine ⟨_, PSs.nox (pss_cons (ps_for PassesOwn.never rfl (pi_range1 (by rfl) T.b_range (pa_cons pe_int pa_nil)) (pg_name (i := 1) nd rfl (Or.inl rfl))
        (pss_cons (ps_asg (pe_d (ok_pair T) hr4 T.g__law_pair (pa_cons (pv 0) (pa_cons pe_int pa_nil))) (pg_lst rfl (pgs_cons (pg_name (i := 2) nd rfl (Or.inl rfl)) (pgs_cons (pg_name (i := 3) nd rfl (Or.inl rfl)) pgs_nil))))
        (pss_cons (ps_set (i := 4) nd rfl (Or.inl rfl) (pe_d (ok_page T) hr1 T.g__law_page (pa_cons (pv 2) (pa_cons (pv 3) pa_nil))))
        (pss_one (ps_for PassesOwn.never rfl (pi_range1 (by rfl) T.b_range (pa_cons pe_int pa_nil)) (pg_name (i := 5) nd rfl (Or.inl rfl))
          (pss_cons (ps_set (i := 6) nd rfl (Or.inl rfl) (pe_ifExp (pt_cmpR op_eq (pv 5) pe_int (nomark _)) (pv 4) (pe_d (ok_bent T) hr2 T.g__law_bent (pa_cons (pv 0) (pa_cons (pv 4) pa_nil)))))
          (pss_one (ps_if (pt_not (pt_val (pe_dg (ok_is_read T TB) hg hr T.g__law_is_read (pa_cons (pe_ifExp (pt_cmpR op_eq (pe_d (ok_sip T) hr1 T.g__law_sip (pa_cons (pv 0) (pa_cons pe_int pa_nil))) pe_int (nomark _)) (pe_d (ok_bent T) hr2 T.g__law_bent (pa_cons (pv 0) (pa_cons (pv 6) pa_nil))) (pv 6)) pa_nil))))
            pss_never pss_nil))))))))
      (pss_cons (ps_set (i := 7) nd rfl (Or.inl rfl) (pe_lst (pa_cons pe_non (pa_cons pe_int (pa_cons pe_bl (pa_cons (pe_tup (pa_cons pe_str pa_nil)) (pa_cons (pe_lst (pa_cons (pv 4) pa_nil)) (pa_cons pe_dnewK (pa_cons pe_str (pa_cons pe_str (pa_cons pe_str (pa_cons pe_str (pa_cons pe_str (pa_cons pe_str (pa_cons (pe_op op_pow pe_int pe_int) pa_nil)))))))))))))))
      (pss_one (ps_ret (pe_dg (ok_is_read T TB) hg hr T.g__law_is_read (pa_cons (pe_ix ix_list (pv 7) (pe_d (ok_sip T) hr1 T.g__law_sip (pa_cons (pv 0) (pa_cons pe_int pa_nil))) (fun _ _ => rfl)) pa_nil)))))), ?_⟩
    refine sq1 ⟨2, rfl, by decide, by decide, ?_⟩
    refine for_it (walk_range (lo := 0) (n := 2)) (fun i σ H3 => KJ J H H3 ∧ JugAt H3 J ∧ LamX.Tabs (Tb K) H3 ∧ ∃ o1 o2 o3 o4 o5 o6, σ = [some (.ref J), o1, o2, o3, o4, o5, o6, none] ∧ (0 < i → ∃ x : Str, o4 = some (.str x) ∧ okS x ∧ x.length ≤ 1000))
      ⟨KJ.refl _ _, hJ, hT, _, _, _, _, _, _, rfl, fun z => absurd z (by decide)⟩ (fun _ _ _ _ _ => trivial) ?_ ?_
    · rintro i v σ _ H3 hi ⟨k3, j3, t3, o1, o2, o3, o4, o5, o6, rfl, _⟩ ⟨rfl, rfl⟩
      refine gn1 (sq1 (asg1 ⟨_, rfl, J, rfl, j3, fun y n names talks H4 s4 j4 okp d4 => ?_⟩))
      obtain ⟨a, xs, rfl, hsq, hds⟩ := dp_lst d4
      cases hds with
      | cons dm r1 =>
      cases r1 with
      | cons dt r2 =>
      cases r2
      rename_i m1 m2
      refine ⟨a, _, rfl, (nw_sub (B := H3)).seq hsq, rfl, _, _, rfl, gn1 ⟨_, _, rfl, gn1 ⟨rfl, ?_⟩⟩⟩
      dsimp only
      refine sq1 (asg1 ⟨_, rfl, _, rfl, _, _, n, names, talks, rfl, dp_same (nw_sub (B := H3)) _ _ dm, dp_same (nw_sub (B := H3)) _ _ dt, okp, fun x H5 s5 ox lx => gn1 ?_⟩)
      dsimp only
      refine ⟨12, rfl, by decide, by decide, ?_⟩
      refine for_it (walk_range (lo := 0) (n := 12)) (fun i' σ H6 => KJ J H H6 ∧ JugAt H6 J ∧ LamX.Tabs (Tb K) H6 ∧ ∃ o1 o2 o3 o5 o6, σ = [some (.ref J), o1, o2, o3, some (.str x), o5, o6, none])
        ⟨(k3.trans (kj_sj s4)).trans (kj_same s5), jug_same s5 j4, (tabs_sj s4 j3 t3).ext s5, _, _, _, _, _, rfl⟩ (fun _ _ _ _ _ => trivial) ?_ ?_
      · rintro i' v' σ' _ H6 hi' ⟨k6, j6, t6, p1, p2, p3, p5, p6, rfl⟩ ⟨rfl, rfl⟩
        refine gn1 (sq1 (asg1 (if1 ⟨_, rfl, rfl, _, rfl, bent_if (J := J) (x := x) 5100 rfl rfl j6 ox (by omega) (by omega) fun y H7 s7 j7 oy ly => gn1 ?_⟩)))
        dsimp only
        refine if1s (nb1 (ca1 (if1 ⟨_, rfl, J, 4, rfl, j7, by decide, by decide, fun k H8 _ _ s8 j8 => ⟨rfl, _, rfl, bent_if2 (J := J) (x := y) 25600 rfl rfl j8 oy (by omega) (by omega) fun z H9 s9 j9 oz lz => ?_⟩⟩)))
        have t9 := tabs_sj s9 j8 (tabs_sj s8 j7 (tabs_sj s7 j6 t6))
        exact ⟨.str z, .str z, dueO z, rfl, t9, thing_strT oz (by omega), fun H10 x10 t10 => ⟨true, rfl, iteF ⟨(((k6.trans (kj_sj s7)).trans (kj_sj s8)).trans (kj_sj s9)).trans (kj_ext x10), jug_ext x10 j9, t10, _, _, _, _, _, rfl⟩⟩⟩
      · rintro σ' H6 ⟨k6, j6, t6, p1, p2, p3, p5, p6, rfl⟩
        exact ⟨k6, j6, t6, _, _, _, _, _, _, rfl, fun _ => ⟨x, rfl, ox, lx⟩⟩
    · rintro σ H3 ⟨k3, j3, t3, o1, o2, o3, o4, o5, o6, rfl, hx⟩
      obtain ⟨x, rfl, ox, lx⟩ := hx (by decide)
      dsimp only
      refine sq1 (asg1 ?_)
      refine ⟨by show 1 ≤ sizeLine; decide, fun pt hpt => ⟨_, rfl, by show 1 ≤ sizeLine; decide, fun pl hpl => ?_⟩⟩
      intro pd hpd
      refine ⟨_, _, rfl, rfl, ⟨by decide, by decide, by decide⟩, ?_⟩
      refine ⟨by show 13 ≤ sizeLine; decide, fun po hpo => gn1 ?_⟩
      dsimp only
      have eJ := j3
      obtain ⟨ja, jb, jc, eJ⟩ := eJ
      have n1 : J ≠ pt := ne_of_none eJ hpt
      have eJ1 := same_upd (o := HO.tup [.str "ann"]) hpt _ _ eJ
      have n2 : J ≠ pl := ne_of_none eJ1 hpl
      have eJ2 := same_upd (o := HO.lst [.str x]) hpl _ _ eJ1
      have n3 : J ≠ pd := ne_of_none eJ2 hpd
      have eJ3 := same_upd (o := HO.dK []) hpd _ _ eJ2
      have n4 : J ≠ po := ne_of_none eJ3 hpo
      have e1 := same_upd (o := HO.lst (oddsL pt pl pd x)) hpo _ _ (same_upd (o := HO.dK []) hpd _ _ (same_upd (o := HO.lst [.str x]) hpl _ _ (upd_same (H := H3) (a := pt) (o := HO.tup [.str "ann"]))))
      have e2 := same_upd (o := HO.lst (oddsL pt pl pd x)) hpo _ _ (same_upd (o := HO.dK []) hpd _ _ (upd_same (H := upd H3 pt (HO.tup [.str "ann"])) (a := pl) (o := HO.lst [.str x])))
      have e3 := same_upd (o := HO.lst (oddsL pt pl pd x)) hpo _ _ (upd_same (H := upd (upd H3 pt (HO.tup [.str "ann"])) pl (HO.lst [.str x])) (a := pd) (o := HO.dK []))
      have e4 : upd (upd (upd (upd H3 pt (HO.tup [.str "ann"])) pl (HO.lst [.str x])) pd (HO.dK [])) po (HO.lst (oddsL pt pl pd x)) po = some (HO.lst (oddsL pt pl pd x)) := upd_same
      have s4 : Same H3 (upd (upd (upd (upd H3 pt (HO.tup [.str "ann"])) pl (HO.lst [.str x])) pd (HO.dK [])) po (HO.lst (oddsL pt pl pd x))) := (((same_upd hpt).trans (same_upd hpl)).trans (same_upd hpd)).trans (same_upd hpo)
      show tRet _ _ _ (upd (upd (upd (upd H3 pt (HO.tup [.str "ann"])) pl (HO.lst [.str x])) pd (HO.dK [])) po (HO.lst (oddsL pt pl pd x)))
      generalize upd (upd (upd (upd H3 pt (HO.tup [.str "ann"])) pl (HO.lst [.str x])) pd (HO.dK [])) po (HO.lst (oddsL pt pl pd x)) = H4 at e1 e2 e3 e4 s4 ⊢
      refine rt1 (ca1 (op1 ⟨_, rfl, _, rfl, J, 13, rfl, jug_same s4 j3, by decide, by decide, fun k H12 hk0 hk1 s12 j12 => ?_⟩))
      obtain ⟨n, rfl⟩ : ∃ n : Nat, k = n := ⟨k.toNat, by omega⟩
      obtain ⟨v, hv, dv, due, ht⟩ := odd_at (s12.to _ _ (Ne.symm n1) e1) (s12.to _ _ (Ne.symm n2) e2) (s12.to _ _ (Ne.symm n3) e3) ox lx n (by omega)
      exact ⟨po, _, n, v, rfl, rfl, .inl (.inl (s12.to _ _ (Ne.symm n4) e4)), atI_nat hv, v, dv, due, rfl, tabs_sj s12 (jug_same s4 j3) (t3.ext s4), ht, fun H' x' t' => q H' (((k3.trans (kj_same s4)).trans (kj_sj s12)).trans (kj_ext x')) (jug_ext x' j12) t'⟩
end
end K5
set_option Elab.async false
set_option linter.all false
set_option maxRecDepth 100000
set_option maxHeartbeats 4000000
/-! _law_quiet, law. -/
namespace K5
open PySem PySem.Spec PyProof.Rows L2
open TL (tl)
abbrev nQu : List Str := ["_law_jug_here", "_law_is_right"]
theorem sc_quiet : FnScope nQu ["_law_jug_here"] (defScope s_law_quiet) := ⟨rfl, rfl, rfl, by decide +kernel, rfl, by decide +kernel, by decide +kernel⟩
def sp_law (K : PySem.W.Frag) : Sp := fun vs H Q _ => ∃ (S : Addr) (ns : List Int), vs = [.ref S] ∧ SqL K H S (ns.map V.int) ∧ LamX.Tabs (Tb K) H ∧ ∀ H', Q (.bl true) H'
abbrev nLw : List Str := ["_law_script", "_law_at"]
theorem sc_law : FnScope nLw ["_law_script"] (defScope s_law) := ⟨rfl, rfl, rfl, by decide +kernel, rfl, by decide +kernel, by decide +kernel⟩
section
variable {P : Program} {w : World} {K : PySem.W.Frag} {mg : Str → Option Value} {base : Heap}
theorem ok_quiet (T : Tx K mg) (TB : LamX.TabB base mg (cR K) (tR K)) : Dg P w K mg base CX0 14 (ga "_law_quiet" K) ["_law_jug_here"] (sp_right K) := by
  obtain ⟨fd, F⟩ := T.f__law_quiet
  have nd := sc_quiet.nd
  refine ⟨fd, fnG_of F sc_quiet (fun vs H Q E h => ?_) (fun cdv A outer s H vs Q E hcd hg hr h => ?_), F.kp, F.binds fun _ _ _ _ _ _ us hl => match us, hl with | [_], _ => rfl⟩
  · obtain ⟨J, rfl, _⟩ := h
    rfl
  · obtain ⟨J, rfl, hJ, hT, q⟩ := h
    refine ⟨_, pss_cons (ps_try_thru0 (pss_one (ps_set (i := 1) nd rfl (Or.inl rfl) (pe_dg (ok_right T TB) hg hr T.g__law_right (pa_cons (pv 0) pa_nil)))))
      (pss_one (ps_ret (pv 1))), ?_⟩
    refine sq1 (asg1 ⟨_, rfl, J, rfl, hJ, hT, fun H' k' j' t' => gn1 ?_⟩)
    dsimp only
    exact rt1 ⟨_, rfl, q H' k' j' t'⟩
/-- a comprehension over a range of at most five -/
theorem lc_rngW {ta : TA} {te : TE} {i : Nat} {σ : L2.St} {H : Hp} {Q : VK} (Pv : Addr → Nat → Hp → Prop) (hta : ∀ R : List V → Hp → Prop, (∀ z : Int, 0 ≤ z → z ≤ 5 → R [.int z] H) → ta σ H R)
    (h0 : ∀ D, H D = none → Pv D 0 (upd H D (.lst [])))
    (hs : ∀ D, H D = none → ∀ j H3, j < 5 → Pv D j H3 → te ((wipe σ [i]).set i (some (.int (0 + (j : Nat))))) H3 fun y H4 => ∃ acc, H4 D = some (.lst acc) ∧ acc.length < sizeLine ∧ Pv D (j + 1) (upd H4 D (.lst (acc ++ [y]))))
    (hd : ∀ D n H3, Pv D n H3 → Q (.ref D) H3) : tLc (iRng1 ta) (gName i) tYes te [i] σ H Q := by
  refine hta _ fun z hz0 hz5 => ⟨z, rfl, by omega, by omega, fun D hD => ?_⟩
  refine lc_it (Qd := fun H => Q (.ref D) H) (walk_range (lo := 0) (n := z.toNat)) (Pv D) (h0 D hD) (fun _ _ _ _ => trivial) ?_ (fun H3 p => hd D _ H3 p)
  rintro j x H3 H4 hj p ⟨e1, rfl⟩
  subst e1
  exact ⟨wipe_one _ _ _, iteT (B := Pv D (j + 1) H4) (hs D hD j _ (by omega) p)⟩
/-- the script stays -/
def Zs (K : PySem.W.Frag) (D S : Addr) (xs : List V) (H : Hp) : Prop := (S ≠ D ∧ (H S = some (.lst xs) ∨ ∃ o, H S = some (.frz o (.lst xs)))) ∨ ∀ H', SqL K H' S xs
theorem zs_sq {D S : Addr} {xs : List V} {H : Hp} (z : Zs K D S xs H) : SqL K H S xs := by
  rcases z with ⟨_, h | h⟩ | h
  · exact .inl (.inl h)
  · exact .inl (.inr h)
  · exact h H
theorem zs_of {D S : Addr} {xs : List V} {H : Hp} (h : SqL K H S xs) (hD : H D = none) : Zs K D S xs H := by
  rcases h with (h | ⟨o, h⟩) | h
  · exact .inl ⟨ne_of_none h hD, .inl h⟩
  · exact .inl ⟨ne_of_none h hD, .inr ⟨o, h⟩⟩
  · exact .inr fun _ => .inr h
theorem zs_to {D S : Addr} {xs : List V} {H H' : Hp} (e : ∀ b o, b ≠ D → H b = some o → (∀ ps, o ≠ .tbl ps) → H' b = some o) (z : Zs K D S xs H) : Zs K D S xs H' := by
  rcases z with ⟨n, h | ⟨o, h⟩⟩ | h
  · exact .inl ⟨n, .inl (e _ _ n h (fun _ z => nomatch z))⟩
  · exact .inl ⟨n, .inr ⟨o, e _ _ n h (fun _ z => nomatch z)⟩⟩
  · exact .inr h
theorem ok_law (T : Tx K mg) (TB : LamX.TabB base mg (cR K) (tR K)) : Dg P w K mg base CX0 15 (ga "law" K) ["_law_script"] (sp_law K) := by
  obtain ⟨fd, F⟩ := T.f_law
  have nd := sc_law.nd
  refine ⟨fd, fnG_of F sc_law (fun vs H Q E h => ?_) (fun cdv A outer s H vs Q E hcd hg hr h => ?_), F.kp, F.binds fun _ _ _ _ _ _ us hl => match us, hl with | [_], _ => rfl⟩
  · obtain ⟨S, ns, rfl, _⟩ := h
    rfl
  · obtain ⟨S, ns, rfl, hS, hT, q⟩ := h
    refine ⟨_, pss_one (ps_ret (pe_callB (cr_all rfl) (by rfl) T.b_all (by decide +kernel) (pa_cons
      (pe_lc (own := [("_law_at", 1)]) (g := gName 1) (tt := tYes) rfl nd (pi_range1 (by rfl) T.b_range (pa_cons (pe_callB (call_max2 rfl) (by rfl) T.b_max (by decide +kernel) (pa_cons pe_int (pa_cons (pe_callB (call_min2 rfl) (by rfl) T.b_min (by decide +kernel)
          (pa_cons (pe_callB call_len_seq (by rfl) T.b_len (by decide +kernel) (pa_cons (pv 0) pa_nil)) (pa_cons pe_int pa_nil))) pa_nil))) pa_nil))
        (blkOk_by (N := nLw) (sc := defScope s_law) (by decide +kernel)) (fun _ _ _ _ _ => pg_name (i := 1) nd rfl (Or.inl rfl)) (fun _ _ _ _ _ => pts_nil)
        (fun _ _ _ _ _ => pe_dg (ok_quiet T TB) hg hr T.g__law_quiet (pa_cons (pe_d (ok_jug T) (hr.mono (show 1 ≤ 14 by decide)) T.g__law_jug (pa_cons (pv 0) (pa_cons (pv 1) pa_nil))) pa_nil))) pa_nil))), ?_⟩
    refine rt1 (cb1 (lc_rngW (fun D i H' => H' D = some (.lst (List.replicate i (.bl true))) ∧ Zs K D S (ns.map V.int) H' ∧ LamX.Tabs (Tb K) H') (fun R hR => ?_) (fun D hD => ⟨upd_same, zs_to (fun b o n e _ => (upd_ne n).trans e) (zs_of hS hD), hT.ext (same_upd hD)⟩) (fun D hD i H3 hi p => ?_) (fun D n H3 p => ?_)))
    · refine ⟨_, rfl, S, _, rfl, .inl hS, _, _, rfl, 2, _, rfl, hR _ ?_ ?_⟩
      · split
        · split <;> omega
        · omega
      · split
        · split <;> omega
        · omega
    · obtain ⟨e3, z3, t3⟩ := p
      refine ca1 ⟨_, rfl, _, rfl, S, ns, i, by rw [Int.zero_add]; rfl, zs_sq z3, fun J H4 s4 nJ j4 => ⟨J, rfl, j4, t3.ext s4, fun H5 k5 j5 t5 => ?_⟩⟩
      have nDJ : D ≠ J := ne_of_none e3 nJ
      have e5 : H5 D = some (.lst (List.replicate i (.bl true))) := k5 _ _ nDJ (s4 _ _ e3) (fun _ z => nomatch z)
      refine ⟨_, e5, by rw [List.length_replicate, sizeLine_eq]; omega, by rw [← List.replicate_succ']; exact upd_same, ?_, tabs_set e5 t5⟩
      refine zs_to (H := H3) (fun b o n e nt => ?_) z3
      rw [upd_ne n]
      exact k5 _ _ (ne_of_none e nJ) (s4 _ _ e) nt
    · obtain ⟨e3, _, _⟩ := p
      refine ⟨D, List.replicate n true, rfl, .inl (.inl (by rw [List.map_replicate]; exact e3)), ?_⟩
      rw [show (List.replicate n true).all id = true from by simp]
      exact q H3
end
end K5
set_option Elab.async false
set_option linter.all false
set_option maxRecDepth 100000
set_option maxHeartbeats 4000000
/-! The end of the walk: no repr runs at the caller, one table of code objects. -/
namespace K5
open PySem PySem.Spec PyProof.Rows L2
/-- what is told at the start: the table, the script -/
def hp0 (K : PySem.W.Frag) (P a : Addr) (o : Obj) (xs : List V) : Hp := fun b => if b = P then some (.tbl #[]) else if b = a ∧ K.lookup a = none then some (.frz o (.lst xs)) else none
theorem law_end {P : Program} {w : World} {K : PySem.W.Frag} {mg mb : Str → Option Value} {fa a : Addr} {s₁ : Shared} {vs : List Value} {ns : List Int} (c t : Addr)
    (KX : K.In s₁.heap) (hns : s₁.heap.Ns mainGlobals mg) (hb : s₁.heap.Ns builtinsNs mb) (hbb : ∀ x : Str, x ≠ "__name__" → mb x = bootBuiltins x) (hlim : s₁.heap.NoLimit) (hg : s₁.gens = #[])
    (hT : s₁.heap.get? t = some { cls := .none, data := .fields #[] }) (nT : K.lookup t = none) (C : PySem.W.CodeHd s₁.heap c t)
    (hbm : ∃ (bm : Addr) (ob : Obj), mg "__builtins__" = some (.ref bm) ∧ bm ≠ builtinsNs ∧ s₁.heap.get? bm = some ob ∧ ob.cls = .type "module" ∧ ob.dict = some builtinsNs ∧ ob.data = .plain)
    (ha : s₁.heap.get? a = some { cls := .type "list", data := .seq vs.toArray }) (hi : IntsAre vs ns) (hl : ns.length ≤ sizeLine) (hr : Room 15 callerA) {sp : Sp} {x : Str}
    (F : ∀ base : Heap, K.In base → base.Ns mainGlobals mg → LamX.TabB base mg c t → ∃ fd, FnG P w K mg base CX0 15 fa fd [x] sp ∧ BindsTo s₁ fd ⟨[.ref a], []⟩ [(x, .ref a)])
    (hsp : ∀ H : Hp, H t = some (.tbl #[]) → SqL K H a (ns.map V.int) → sp [.ref a] H (fun v _ => v = .bl true) E0) :
    codeAny (model P w) callerA (.call (.ref fa) ⟨[.ref a], []⟩) (fun r s' => r = .ok (.ret (.bool true)) ∧ OldK s₁.heap s'.heap ∧ s'.os = s₁.os ∧ AllBare s'.gens) s₁ := by
  have rv := vals_ints hi
  have lenV := hi.length
  have aT : a ≠ t := fun z => by
    rw [z, hT] at ha
    have z2 : Data.fields #[] = Data.seq vs.toArray _ := congrArg Obj.data (Option.some.inj ha)
    cases z2
  obtain ⟨H, hH⟩ : ∃ H, H = hp0 K t a { cls := .type "list", data := .seq vs.toArray } (ns.map V.int) := ⟨_, rfl⟩
  have eT : H t = some (.tbl #[]) := by rw [hH]; exact if_pos rfl
  -- what may be told
  have may : ∀ b u, H b = some u → (b = t ∧ u = .tbl #[]) ∨ (b = a ∧ K.lookup a = none ∧ u = .frz { cls := .type "list", data := .seq vs.toArray } (.lst (ns.map V.int))) := fun b u e => by
    rw [hH] at e
    unfold hp0 at e
    split at e
    · rename_i h
      exact .inl ⟨h, (Option.some.inj e).symm⟩
    · split at e
      · rename_i h
        exact .inr ⟨h.1, h.2, (Option.some.inj e).symm⟩
      · cases e
  have eS : SqL K H a (ns.map V.int) := by
    cases hk : K.lookup a with
    | none => exact .inl (.inr ⟨_, by rw [hH]; unfold hp0; rw [if_neg aT, if_pos ⟨rfl, hk⟩]⟩)
    | some o =>
      have e := KX a o hk
      rw [ha] at e
      cases e
      exact .inr ⟨_, vs.toArray, _, hk, rfl, rfl, rfl, by rw [List.size_toArray, lenV]; exact hl, by simpa using rv⟩
  have ok : HOk P w H s₁.heap := fun b u e => by
    rcases may b u e with ⟨rfl, rfl⟩ | ⟨rfl, hk, rfl⟩
    · exact hT
    · exact ⟨ha, by rw [List.length_map]; exact hl, vs, _, rv, ha⟩
  have base_of : ∀ {b : Addr} {o : Obj}, s₁.heap.get? b = some o → H b = none → (hidT s₁.heap H).get? b = some o := fun e n => hidT_get e n
  -- an object that is neither list nor empty table is not told
  have off : ∀ {b : Addr} {o : Obj}, s₁.heap.get? b = some o → (∀ xs n, o.data ≠ .seq xs n) → o.data ≠ .fields #[] → H b = none := fun {b o} e h1 h2 => by
    cases q : H b with
    | none => rfl
    | some u =>
      rcases may b u q with ⟨rfl, _⟩ | ⟨rfl, _, _⟩
      · rw [hT] at e
        cases e
        exact (h2 rfl).elim
      · rw [ha] at e
        cases e
        exact (h1 _ _ rfl).elim
  have offD : ∀ {b : Addr} {o : Obj} {es : Array DictEntry} {ep : Nat}, s₁.heap.get? b = some o → o.data = .dict es ep → H b = none := fun {b o es ep} e d => off e (fun xs n z => by rw [d] at z; cases z) (fun z => by rw [d] at z; cases z)
  have nsK : ∀ {b : Addr} {m : Str → Option Value}, s₁.heap.Ns b m → (hidT s₁.heap H).Ns b m := fun {b m} ⟨o, es, ep, e, d, r⟩ => ⟨o, es, ep, base_of e (offD e d), d, r⟩
  have hKb : K.In (hidT s₁.heap H) := fun b o e => base_of (KX b o e) (by
    cases q : H b with
    | none => rfl
    | some u =>
      rcases may b u q with ⟨rfl, _⟩ | ⟨rfl, hk, _⟩
      · rw [nT] at e
        cases e
      · rw [hk] at e
        cases e)
  have hM : L2.Mod K mg (hidT s₁.heap H) := ⟨hKb, nsK hns, ⟨mb, nsK hb, hbb⟩, let ⟨mc, h1, h2⟩ := hlim; ⟨mc, nsK h1, h2⟩⟩
  have TB : LamX.TabB (hidT s₁.heap H) mg c t := by
    refine ⟨?_, ?_, fun z => ?_⟩
    · obtain ⟨o, us, file, tf, flags, tg, inF, text, tt, e1, r1, r2, r3, r⟩ := id C
      exact ⟨o, us, file, tf, flags, tg, inF, text, tt, base_of e1 (off e1 (fun xs n z => by rw [r2] at z; cases z) (fun z => by
        rw [r2] at z
        cases z
        simp at r3)), r1, r2, r3, r⟩
    · obtain ⟨bm, ob, b1, b2, b3, b4, b5, b6⟩ := hbm
      refine ⟨bm, ob, b1, b2, fun q => ?_, fun q => ?_, base_of b3 (off b3 (fun xs n z => by rw [b6] at z; cases z) (fun z => by rw [b6] at z; cases z)), b4, b5, b6⟩
      · obtain ⟨o, es, ep, e, hd, _⟩ := hns
        rw [q, e] at b3
        cases b3
        rw [hd] at b6
        cases b6
      · rw [q, hT] at b3
        cases b3
        cases b6
    · obtain ⟨o, es, ep, e, hd, _⟩ := hns
      rw [z, hT] at e
      cases e
      cases hd
  have e0 : Env0 P w K mg (hidT s₁.heap H) callerA [] s₁ H := ⟨rfl, hM, fun b o e => of_hidT e, Nat.le_of_eq (hidT_size _ _), trivial, fun b z => absurd (show b ∈ ([] : List Addr) from z) (by simp), ok, .of_eq hg⟩
  obtain ⟨fd, FF, hbind⟩ := F _ hKb (nsK hns) TB
  refine codeAny_mono (FF.run callerA [] s₁ H ⟨[.ref a], []⟩ [.ref a] [.ref a] _ _ rfl hr e0 hbind (.cons rfl .nil) (hsp H eT eS)) fun r s' h => ?_
  cases r with
  | error e => exact (show False from h).elim
  | ok fl =>
    cases fl with
    | next => exact False.elim h
    | brk => exact False.elim h
    | cont => exact False.elim h
    | ret u =>
      obtain ⟨v, H', os, bare, un, ok', r', q⟩ := h
      have q' : v = .bl true := q
      subst q'
      obtain rfl : u = Value.bool true := r'
      obtain ⟨more, hm⟩ : ∃ more : Array Value, s'.heap.get? t = some { cls := .none, data := .fields more } := by
        obtain ⟨more, z⟩ := un.tbls t #[] eT
        exact ⟨_, ok' t _ z⟩
      have key : ∀ b o, b ≠ t → s₁.heap.get? b = some o → s'.heap.get? b = some o := fun b o nb e => by
        cases q : H b with
        | none => exact un.keep b o e q (fun z => absurd (show b ∈ ([] : List Addr) from z) (by simp)) (by simp)
        | some u =>
          rcases may b u q with ⟨z, _⟩ | ⟨rfl, _, rfl⟩
          · exact absurd z nb
          · have z2 := un.frzs b _ _ q
            obtain ⟨e2, _⟩ := ok' b _ z2
            rw [ha] at e
            cases e
            exact e2
      refine ⟨rfl, ⟨fun b o e => ?_, fun b o e => ?_⟩, os, bare⟩
      · by_cases hb : b = t
        · subst hb
          rw [hT] at e
          cases e
          exact .inr (.inl ⟨(C.tab hT).isCodeTable, rfl, #[], more, rfl, by rw [Array.empty_append]; exact hm⟩)
        · exact .inl (key b o hb e)
      · by_cases hb : b = t
        · subst hb
          exact ⟨_, hm⟩
        · exact ⟨o, key b o hb e⟩
end K5
set_option Elab.async false
set_option linter.all false
set_option maxRecDepth 100000
set_option maxHeartbeats 0
/-! The row. -/
open PySem PySem.W PySem.Calls PyProof.Rows
theorem PySem.Challenge.cw_alwaysagree_k05_whole_councils_read_holds : PySem.Challenge.rw_alwaysagree_k05_whole_councils_read.Holds := by
  w_on; o_law
  refine HandSHeadRun.head_any (r := K5H.R) (q := view K5H.R.prog [54]) (H := K5H.hk 6) (ob := K5H.ob 6) (M := 40000) (loose := K5H.names) (d := HandSHeadRun.topDef K5H.R.prog 54) (kwd := []) (K5H.ob_eq 6)
    (by kernel_rfl) (fun s => by kernel_rfl) K5H.run (by kernel_rfl) (by kernel_rfl) (by kernel_rfl) (by rfl) (by first | assumption | decide +kernel) (by decide +kernel) ⟨rfl, rfl, rfl, rfl, rfl, by decide +kernel⟩ ?hw ?hc
  case hw => w_witness2
  case hc =>
    refine Att.attach_callB (l := PySem.Challenge.rw_alwaysagree_k05_whole_councils_read) (n := 63) rfl (by kernel_rfl) fun w s0 s1 mg mb fa o pm cd doc a vs ns G Y ho hd hcd hmg0 hobj hints hlen hbits hg => ?_
    obtain ⟨K, KX, c⟩ := Y
    have hmg : mg ("law" : PySem.Str) = some (.ref fa) := by
      have e : (HandSHeadRun.topDef K5H.R.prog 54).name = ("law" : PySem.Str) := by kernel_rfl
      rw [← e]
      exact hmg0
    have T : K5.Tx K mg := ⟨s1.heap, KX, G.T.g, c⟩
    have efa : fa = K5.ga "law" K := by
      have z := hmg.symm.trans T.g_law
      cases z
      rfl
    subst efa
    have m1 : (("_law_is_read", none) : He.Defn) ∈ K5H.tf := List.mem_cons_self
    exact K5.law_end (sp := K5.sp_law K) (x := "_law_script") (K5.cR K) (K5.tR K) KX G.T.g G.T.b G.T.builtins G.T.nolimit hg (c.empty _ m1) (c.out _ m1) (codeHd_of_K KX (c.hd _ m1)) G.T.bmain hobj hints (Nat.le_trans hlen (by decide)) ⟨rfl, by decide, by decide⟩
      (fun base hb1 hb2 TB => by
        obtain ⟨fd, F, kp, bd⟩ := (K5.ok_law (P := (PySem.Challenge.rw_alwaysagree_k05_whole_councils_read).prog) (w := w) (base := base) T TB).ex
        exact ⟨fd, F, bd s1 [.ref a] KX rfl⟩)
      (fun H hT hS => ⟨a, ns, rfl, hS, fun p hp => by
        obtain rfl := List.mem_singleton.mp hp
        exact LamX.TabS.nil hT, fun _ => rfl⟩)
