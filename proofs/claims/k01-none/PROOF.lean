import PyProof.Rows.All
import Wide.All
import OpenK.AllK
import Wide.FinOn
import KE.KStateDown
import Lean
import HandS.Base
import HandS.Call
import HandS.Ends
import HandS.More
import HandS.Words
import HandS.WordsExc
import HandS.Defaults
import HandS.Head0
import HandS.Head1
import HandS.Head2
import HandS.HeadEnd
import HandS.HeadHook1
import HandS.HeadHook2
import HandS.HeadHook4
import HandS.ForMost
import HandS.IsInst
import KE.KAssignIn
import HandS.SortInts
import HandS.Zip
import HandS.Style
import HandS.Exc
import HandS.ExcOwn
import HandS.ExcIs
import HandS.ExcField
import HandS.TryOnly
import HandS.Lambda
import HandS.EndTab
import HandS.HeadWalk
import KE.KExcIs
import HandS.ExcInit
import HandS.ClsMeth
import KE.KDflt
import HandS.Nested
import HandS.TupAny
import PySem.Challenge.RW_ackbits_k01_what_is_none
set_option Elab.async false
set_option linter.all false
set_option maxRecDepth 100000
set_option maxHeartbeats 8000000
namespace Ak
open PySem PySem.Spec PyProof.Rows L2
def top (i : Nat) : Stmt := PySem.Challenge.pw_ackbits_k01_what_is_none.main.body.getD i (.Pass ⟨0, 0, 0, 0⟩)
abbrev s_l_dice : Stmt := top 39
abbrev s_l_next : Stmt := top 40
abbrev s_need_setting : Stmt := top 13
abbrev s_need_mark : Stmt := top 14
abbrev s_need_bits : Stmt := top 15
abbrev s_Ear_init : Stmt := inClass (top 20) 0
abbrev s_Ear_taken : Stmt := inClass (top 20) 1
abbrev s_Ear_last : Stmt := inClass (top 20) 4
abbrev s_Ear_come : Stmt := inClass (top 20) 2
abbrev s_Ear_tell : Stmt := inClass (top 20) 3
abbrev s_Mouth_init : Stmt := inClass (top 18) 0
abbrev s_Mouth_is_full : Stmt := inClass (top 18) 1
abbrev s_Mouth_last : Stmt := inClass (top 18) 5
abbrev s_Mouth_sure : Stmt := inClass (top 18) 4
abbrev s_Mouth_send : Stmt := inClass (top 18) 2
abbrev s_Mouth_hear : Stmt := inClass (top 18) 3
abbrev s_is_safe : Stmt := top 16
abbrev s_judged : Stmt := top 35
abbrev s_played : Stmt := top 34
abbrev s_written : Stmt := top 28
abbrev s_read : Stmt := top 30
abbrev s_fewest : Stmt := top 37
abbrev s_Load_init : Stmt := inClass (top 24) 0
abbrev s_l_setting : Stmt := top 42
abbrev s_l_safe : Stmt := top 43
abbrev s_l_like : Stmt := top 41
abbrev s_BadSetting_init : Stmt := inClass (top 3) 0
abbrev s_l_told : Stmt := top 44
abbrev s_l_bad : Stmt := top 45
abbrev s_l_bits : Stmt := top 47
abbrev s_l_bounds : Stmt := top 46
abbrev s_law : Stmt := top 48
abbrev veTail : List Value := [.type "ValueError", .type "Exception", .type "BaseException", .type "object"]
def exKB (K : PySem.W.Frag) (C : Addr) : Bool := PySem.W.keepIn K (.ref C) && (PySem.W.excIn K C veTail "ValueError.__new__" && (decide (PySem.W.subIn K (.ref C) (.type "BaseException") = some true) && decide (PySem.W.typeIn K (.ref C) = some (.type "type"))))
def excCB (K : PySem.W.Frag) (D : Addr) : Bool :=
  decide (PySem.W.findIn K (.ref D) "__getattribute__" = some (some (.builtin "BaseException.__getattribute__"))) && (decide (PySem.W.findIn K (.ref D) "__getattr__" = some none) && (decide (PySem.W.subIn K (.ref D) (.type "BaseException") = some true) && (PySem.W.hasDictIn K D &&
  (decide (PySem.W.findIn K (.ref D) "__class__" = some (some (.builtin "object.__class__"))) && (decide (PySem.W.specialIn K (.builtin "object.__class__") "__get__" = some (some (.builtin "getset_descriptor.__get__"))) && (decide (PySem.W.takesIn K (.builtin "object.__class__") = some true) && decide (PySem.W.mroIn K D (.type "object") = some true)))))))
def kofB (K : PySem.W.Frag) (c1 c2 c3 c4 c5 c6 cb D : Addr) (n : Nat) : Bool :=
  excCB K D && (decide (PySem.W.kitOne K (.ref D) (.ref c1) = some (decide (n = 1))) && (decide (PySem.W.kitOne K (.ref D) (.ref c2) = some (decide (n = 2))) && (decide (PySem.W.kitOne K (.ref D) (.ref c3) = some (decide (n = 3))) && (decide (PySem.W.kitOne K (.ref D) (.ref c4) = some (decide (n = 4))) &&
  (decide (PySem.W.kitOne K (.ref D) (.ref c5) = some (decide (n = 5))) && (decide (PySem.W.kitOne K (.ref D) (.ref c6) = some (decide (n = 6))) && (decide (PySem.W.kitOne K (.ref D) (.type "ValueError") = some true) && decide (PySem.W.exmOne K (.ref D) (.ref cb) = some true))))))))
def valOf : Option PySem.W.CFound → Option Value
  | some (.val v) => some v
  | _ => none
def baseIB (K : PySem.W.Frag) (B : Addr) : Bool := PySem.W.readsIn K B (.type "type") && (decide (PySem.W.specialIn K (.ref B) "__getattribute__" = some (some (.builtin "type.__getattribute__"))) && decide (valOf (PySem.W.findCls K (.ref B) (.type "type") "__init__") = some (.builtin "ValueError.__init__")))
def oexB (K : PySem.W.Frag) (C : Addr) : Bool := (match K.lookup C with
  | some ⟨.type t, _, .cls cd, sl⟩ => decide (t = "type") && ((match cd.mro with
    | .ref D :: bm => decide (D = C) && PySem.HandSPX.refsVE bm
    | _ => false) && (cd.hasDict && (!cd.hasDel && (match sl.toList with
    | [_, _, _, _, some (.builtin n), _] => decide (n = "ValueError.__new__")
    | _ => false))))
  | _ => false) && (decide (PySem.W.findIn K (.ref C) "__setattr__" = some (some (.builtin "object.__setattr__"))) && (decide (PySem.W.subIn K (.ref C) (.type "BaseException") = some true) && (decide (PySem.W.typeIn K (.ref C) = some (.type "type")) && PySem.W.keepIn K (.ref C))))
def kinXB (K : PySem.W.Frag) (c1 c5 c6 : Addr) : Bool := xfB K c1 && (xfB K c5 && (xfB K c6 && (decide (PySem.W.findIn K (.ref c1) "word" = some none) && (decide (PySem.W.findIn K (.ref c5) "number" = some none) && decide (PySem.W.findIn K (.ref c6) "place" = some none)))))
def asY (g : Addr → Option Obj) (n : Nat) : List Addr := He.asD g n ++ [cStatics]
def obsY (n : Nat) (fa : List He.Fa) (fn : List He.DefD) (tf : List He.Defn) (ex : PySem.W.Frag → Bool) (g : Addr → Option Obj) : He.AlX := (He.obsT fa fn [] (He.frT g (asY g n)), ex (He.frT g (asY g n)) && He.tabsB g tf (He.frT g (asY g n)))
theorem saysY {n : Nat} {fa : List He.Fa} {fn : List He.DefD} {tf : List He.Defn} {ex : PySem.W.Frag → Bool} {w : World} {h : Heap} (e : obsY n fa fn tf ex h.get? = He.valX fn [] w) : He.SaysX fa fn [] tf ex w h (He.frT h.get? (asY h.get? n)) := by
  generalize hK : He.frT h.get? (asY h.get? n) = K
  have e1 : He.obsT fa fn [] K = He.valT fn [] w := by rw [← hK]; exact congrArg Prod.fst e
  have e2 : (ex K && He.tabsB h.get? tf K) = true := by rw [← hK]; exact congrArg Prod.snd e
  obtain ⟨e3, e4⟩ := Bool.and_eq_true_iff.mp e2
  have tab : ∀ p ∈ tf, PySem.W.codeHdIn K (He.cT K p).1 (He.cT K p).2 = true ∧ ∃ o, h.get? (He.cT K p).2 = some o ∧ He.emptyTab o = true := by
    intro p hp
    obtain ⟨q1, q2⟩ := Bool.and_eq_true_iff.mp (List.all_eq_true.mp e4 p hp)
    refine ⟨q1, ?_⟩
    split at q2
    · rename_i o ho
      exact ⟨o, ho, q2⟩
    · cases q2
  refine { t := e1, more := e3, hd := fun p hp => (tab p hp).1, out := ?_, empty := ?_ }
  · intro p hp
    obtain ⟨_, o, ho, z⟩ := tab p hp
    have y := He.frT_none (as := asY h.get? n) ho z
    rw [hK] at y
    exact y
  · intro p hp
    obtain ⟨_, o, ho, z⟩ := tab p hp
    rw [ho, He.emptyTab_eq z]
def hookY (n : Nat) (fa : List He.Fa) (fn : List He.DefD) (tf : List He.Defn) (ex : PySem.W.Frag → Bool) : PySem.W.Hook where
  α := He.AlX
  obs := fun s => obsY n fa fn tf ex s.heap.get?
  val := fun w => He.valX fn [] w
  says := fun w h => ∃ K : PySem.W.Frag, K.In h ∧ He.SaysX fa fn [] tf ex w h K
  of := fun _ _ e => ⟨_, He.frT_in, saysY e⟩
  keeps := fun _ _ _ ⟨K, hK, c⟩ k => ⟨K, PySem.W.Frag.In.keeps hK k, { t := c.t, more := c.more, hd := c.hd, out := c.out, empty := fun p hp => k _ _ (c.empty p hp) }⟩
/-! ### the head: facts by names, the run of the top -/
def d_l_dice : He.DefD := ⟨("_law_dice", none), "_law_dice", "_law_dice", defArgs s_l_dice, defBody s_l_dice, defScope s_l_dice, [], []⟩
def d_l_next : He.DefD := ⟨("_law_next", none), "_law_next", "_law_next", defArgs s_l_next, defBody s_l_next, defScope s_l_next, [], []⟩
def d_need_setting : He.DefD := ⟨("need_setting", none), "need_setting", "need_setting", defArgs s_need_setting, defBody s_need_setting, defScope s_need_setting, [], []⟩
def d_need_mark : He.DefD := ⟨("need_mark", none), "need_mark", "need_mark", defArgs s_need_mark, defBody s_need_mark, defScope s_need_mark, [], []⟩
def d_need_bits : He.DefD := ⟨("need_bits", none), "need_bits", "need_bits", defArgs s_need_bits, defBody s_need_bits, defScope s_need_bits, [], []⟩
def d_l_like : He.DefD := ⟨("_law_like", none), "_law_like", "_law_like", defArgs s_l_like, defBody s_l_like, defScope s_l_like, [], []⟩
def d_Ear_init : He.DefD := ⟨("Ear", some "__init__"), "__init__", "Ear.__init__", defArgs s_Ear_init, defBody s_Ear_init, defScope s_Ear_init, [], []⟩
def d_Ear_taken : He.DefD := ⟨("Ear", some "taken"), "taken", "Ear.taken", defArgs s_Ear_taken, defBody s_Ear_taken, defScope s_Ear_taken, [], []⟩
def d_Ear_come : He.DefD := ⟨("Ear", some "come"), "come", "Ear.come", defArgs s_Ear_come, defBody s_Ear_come, defScope s_Ear_come, [], []⟩
def d_Ear_tell : He.DefD := ⟨("Ear", some "tell"), "tell", "Ear.tell", defArgs s_Ear_tell, defBody s_Ear_tell, defScope s_Ear_tell, [], []⟩
def d_Ear_last : He.DefD := ⟨("Ear", some "last"), "last", "Ear.last", defArgs s_Ear_last, defBody s_Ear_last, defScope s_Ear_last, [], []⟩
def d_Mouth_init : He.DefD := ⟨("Mouth", some "__init__"), "__init__", "Mouth.__init__", defArgs s_Mouth_init, defBody s_Mouth_init, defScope s_Mouth_init, [], []⟩
def d_Mouth_is_full : He.DefD := ⟨("Mouth", some "is_full"), "is_full", "Mouth.is_full", defArgs s_Mouth_is_full, defBody s_Mouth_is_full, defScope s_Mouth_is_full, [], []⟩
def d_Mouth_send : He.DefD := ⟨("Mouth", some "send"), "send", "Mouth.send", defArgs s_Mouth_send, defBody s_Mouth_send, defScope s_Mouth_send, [], []⟩
def d_Mouth_hear : He.DefD := ⟨("Mouth", some "hear"), "hear", "Mouth.hear", defArgs s_Mouth_hear, defBody s_Mouth_hear, defScope s_Mouth_hear, [], []⟩
def d_Mouth_last : He.DefD := ⟨("Mouth", some "last"), "last", "Mouth.last", defArgs s_Mouth_last, defBody s_Mouth_last, defScope s_Mouth_last, [], []⟩
def d_Mouth_sure : He.DefD := ⟨("Mouth", some "sure"), "sure", "Mouth.sure", defArgs s_Mouth_sure, defBody s_Mouth_sure, defScope s_Mouth_sure, [], []⟩
def d_Load_init : He.DefD := ⟨("Load", some "__init__"), "__init__", "Load.__init__", defArgs s_Load_init, defBody s_Load_init, defScope s_Load_init, [], []⟩
def d_is_safe : He.DefD := ⟨("is_safe", none), "is_safe", "is_safe", defArgs s_is_safe, defBody s_is_safe, defScope s_is_safe, [], []⟩
def d_judged : He.DefD := ⟨("judged", none), "judged", "judged", defArgs s_judged, defBody s_judged, defScope s_judged, [], []⟩
def d_played : He.DefD := ⟨("played", none), "played", "played", defArgs s_played, defBody s_played, defScope s_played, [], []⟩
def d_written : He.DefD := ⟨("written", none), "written", "written", defArgs s_written, defBody s_written, defScope s_written, [], []⟩
def d_read : He.DefD := ⟨("read", none), "read", "read", defArgs s_read, defBody s_read, defScope s_read, [], []⟩
def d_fewest : He.DefD := ⟨("fewest", none), "fewest", "fewest", defArgs s_fewest, defBody s_fewest, defScope s_fewest, [], []⟩
def d_BadSetting_init : He.DefD := ⟨("BadSetting", some "__init__"), "__init__", "BadSetting.__init__", defArgs s_BadSetting_init, defBody s_BadSetting_init, defScope s_BadSetting_init, [], []⟩
def d_l_setting : He.DefD := ⟨("_law_setting", none), "_law_setting", "_law_setting", defArgs s_l_setting, defBody s_l_setting, defScope s_l_setting, [], []⟩
def d_l_bad : He.DefD := ⟨("_law_bad", none), "_law_bad", "_law_bad", defArgs s_l_bad, defBody s_l_bad, defScope s_l_bad, [], []⟩
def d_l_bits : He.DefD := ⟨("_law_bits", none), "_law_bits", "_law_bits", defArgs s_l_bits, defBody s_l_bits, defScope s_l_bits, [], []⟩
def d_l_bounds : He.DefD := ⟨("_law_bounds", none), "_law_bounds", "_law_bounds", defArgs s_l_bounds, defBody s_l_bounds, defScope s_l_bounds, [], []⟩
def d_l_told : He.DefD := ⟨("_law_told", none), "_law_told", "_law_told", defArgs s_l_told, defBody s_l_told, defScope s_l_told, [], []⟩
def d_law : He.DefD := ⟨("law", none), "law", "law", defArgs s_law, defBody s_law, defScope s_law, [], []⟩
def fn : List He.DefD := [d_l_dice, d_l_next, d_need_setting, d_need_mark, d_need_bits, d_l_like, d_Ear_init, d_Ear_taken, d_Ear_come, d_Ear_tell, d_Ear_last, d_Mouth_init, d_Mouth_is_full, d_Mouth_send, d_Mouth_hear, d_Mouth_last, d_Mouth_sure, d_Load_init, d_is_safe, d_judged, d_played, d_written, d_read, d_fewest, d_BadSetting_init, d_l_setting, d_l_bad, d_l_bits, d_l_bounds, d_l_told, d_law]
def fa : List He.Fa := [.glo "_law_dice", .glo "_law_next", .glo "need_setting", .glo "need_mark", .glo "need_bits", .glo "_law_like", .glo "is_safe", .glo "judged", .glo "played", .glo "written", .glo "read", .glo "fewest", .glo "_law_setting", .glo "_law_bad", .glo "_law_bits", .glo "_law_bounds", .glo "_law_told", .glo "law", .free "len", .free "int", .free "isinstance", .free "range", .free "sorted", .free "list", .free "tuple", .free "max", .free "min", .free "set", .free "str", .free "enumerate", .free "bool", .free "dict", .glo "LEAST", .glo "MOST", .glo "WORDS", .int "MOST_ROOM" 8, .int "MOST_WAIT" 20, .glo "Ear", .cls "Ear", .noat "Ear" "marks", .noat "Ear" "wide", .noat "Ear" "late", .noat "Ear" "ahead", .noat "Ear" "setting", .noat "Ear" "newest", .noat "Ear" "met", .mkr "Ear", .glo "Mouth", .cls "Mouth", .noat "Mouth" "marks", .noat "Mouth" "wide", .noat "Mouth" "late", .noat "Mouth" "ahead", .noat "Mouth" "setting", .noat "Mouth" "sent", .noat "Mouth" "certain", .noat "Mouth" "top", .mkr "Mouth", .glo "Load", .cls "Load", .noat "Load" "room", .noat "Load" "wait", .noat "Load" "latest", .noat "Load" "rows", .noat "Load" "many", .mkr "Load", .glo "BadSetting", .meth "BadSetting" "__init__", .meth "Ear" "taken", .meth "Ear" "come", .meth "Ear" "tell", .meth "Ear" "last", .meth "Mouth" "is_full", .meth "Mouth" "send", .meth "Mouth" "hear", .meth "Mouth" "last", .meth "Mouth" "sure", .glo "BadSetting", .glo "BadMark", .glo "BadBits", .glo "Full", .glo "BadEvent", .glo "BadText", .glo "BitsError", .free "ValueError"]
abbrev R : PySem.W.OpenRow := PySem.W.OpenLaw.row PySem.Challenge.rw_ackbits_k01_what_is_none
def xb (K : PySem.W.Frag) : Bool := He.tupB K "LEAST" [.int 2, .int 0, .int 0, .int 1] && (He.tupB K "MOST" [.int 64, .int 16, .int 8, .int 16] && (He.tupB K "WORDS" [.str "marks", .str "wide", .str "late", .str "ahead"] && (exKB K (He.ga K "BadMark") && (exKB K (He.ga K "BadBits") && (kofB K (He.ga K "BadSetting") (He.ga K "BadMark") (He.ga K "BadBits") (He.ga K "Full") (He.ga K "BadEvent") (He.ga K "BadText") (He.ga K "BitsError") (He.ga K "BadSetting") 1 && (kofB K (He.ga K "BadSetting") (He.ga K "BadMark") (He.ga K "BadBits") (He.ga K "Full") (He.ga K "BadEvent") (He.ga K "BadText") (He.ga K "BitsError") (He.ga K "BadMark") 2 && (kofB K (He.ga K "BadSetting") (He.ga K "BadMark") (He.ga K "BadBits") (He.ga K "Full") (He.ga K "BadEvent") (He.ga K "BadText") (He.ga K "BitsError") (He.ga K "BadBits") 3 && (baseIB K (He.ga K "BitsError") && (kinXB K (He.ga K "BadSetting") (He.ga K "BadEvent") (He.ga K "BadText") && (oexB K (He.ga K "BadSetting")))))))))))
def tf : List He.Defn := [("law", none)]
def hk : PySem.W.Hook := hookY 6 fa fn tf xb
def ob (s : PySem.W.SharedT) : He.AlX := obsY 6 fa fn tf xb (HandSHeadRun.getT s)
theorem ob_eq (s : PySem.W.SharedT) : ob s = hk.obs s.abs := congrArg (obsY 6 fa fn tf xb) (funext fun a => HandSHeadRun.getT_eq s a)
def looseN : List PySem.Str := [("_wall" : PySem.Str), ("BitsError" : PySem.Str), ("BadSetting" : PySem.Str), ("BadMark" : PySem.Str), ("BadBits" : PySem.Str), ("Full" : PySem.Str), ("BadEvent" : PySem.Str), ("BadText" : PySem.Str), ("LEAST" : PySem.Str), ("MOST" : PySem.Str), ("WORDS" : PySem.Str), ("need_setting" : PySem.Str), ("need_mark" : PySem.Str), ("need_bits" : PySem.Str), ("is_safe" : PySem.Str), ("Mouth" : PySem.Str), ("Ear" : PySem.Str), ("MOST_ROOM" : PySem.Str), ("MOST_WAIT" : PySem.Str), ("Load" : PySem.Str), ("FIGURES" : PySem.Str), ("NONE" : PySem.Str), ("written" : PySem.Str), ("is_right" : PySem.Str), ("read" : PySem.Str), ("MOST_EVENTS" : PySem.Str), ("World" : PySem.Str), ("played" : PySem.Str), ("judged" : PySem.Str), ("first_wrong" : PySem.Str), ("fewest" : PySem.Str), ("_law_dice" : PySem.Str), ("_law_next" : PySem.Str), ("_law_like" : PySem.Str), ("_law_setting" : PySem.Str), ("_law_safe" : PySem.Str), ("_law_told" : PySem.Str), ("_law_bad" : PySem.Str), ("_law_bounds" : PySem.Str), ("_law_bits" : PySem.Str)]
theorem run (w : World) : HandSHeadRun.RunEq R (PySem.W.view R.prog [48]) hk ob 4000 looseN w := by
  intro os
  kernel_rfl
end Ak
/-! The common part: what a def keeps (Aft), what stands now (Now), the dice, calls by name. -/
namespace Ak
open PySem PySem.Spec PyProof.Rows L2

/-! ### what is kept -/
structure Aft (M : List Addr) (H H' : Hp) : Prop where
  k : ∀ b o, H b = some o → b ∉ M → H' b = some o
  t : ∀ b xs, H b = some (.tup xs) → H' b = some (.tup xs)
  z : ∀ b u o, H b = some (.frz u o) → H' b = some (.frz u o)
section
variable {M M' : List Addr} {H H' H1 H2 : Hp} {p : Addr} {o u : HO} {K : PySem.W.Frag} {a : Addr} {xs : List V}
theorem Aft.refl : Aft M H H := ⟨fun _ _ h _ => h, fun _ _ h => h, fun _ _ _ h => h⟩
theorem Aft.trans (a : Aft M H H1) (b : Aft M H1 H2) : Aft M H H2 :=
  ⟨fun c o h hm => b.k c o (a.k c o h hm) hm, fun c xs h => b.t c xs (a.t c xs h), fun c v o h => b.z c v o (a.z c v o h)⟩
theorem Aft.mono (a : Aft M H H') (h : ∀ x ∈ M, x ∈ M') : Aft M' H H' := ⟨fun b o e hm => a.k b o e fun z => hm (h b z), a.t, a.z⟩
/-- behind a call that changes M' -/
theorem Aft.call (a : Aft M H H1) (b : Aft M' H1 H2) (h : ∀ x ∈ M', x ∈ M ∨ H x = none) : Aft M H H2 :=
  ⟨fun c o e hm => b.k c o (a.k c o e hm) fun z => (h c z).elim hm fun n => (by rw [n] at e; cases e), fun c xs h => b.t c xs (a.t c xs h), fun c v o h => b.z c v o (a.z c v o h)⟩
theorem Aft.new (a : Aft M H H') (hp : H' p = none) : Aft M H (upd H' p o) :=
  ⟨fun b v e hm => by rw [upd_ne (ne_of_none (a.k b v e hm) hp)]; exact a.k b v e hm,
   fun b xs e => by rw [upd_ne (ne_of_none (a.t b xs e) hp)]; exact a.t b xs e,
   fun b v w e => by rw [upd_ne (ne_of_none (a.z b v w e) hp)]; exact a.z b v w e⟩
theorem Aft.put (a : Aft M H H') (hp : H' p = some u) (hn : Mut (some u)) (hw : p ∈ M ∨ H p = none) : Aft M H (upd H' p o) := by
  refine ⟨fun b v e hm => ?_, fun b xs e => ?_, fun b v w e => ?_⟩
  · have ne : b ≠ p := by
      rintro rfl
      rcases hw with z | z
      · exact hm z
      · rw [z] at e; cases e
    rw [upd_ne ne]; exact a.k b v e hm
  · have ne : b ≠ p := by
      rintro rfl
      have q := a.t b xs e
      rw [hp] at q
      cases q
      exact hn
    rw [upd_ne ne]; exact a.t b xs e
  · have ne : b ≠ p := by
      rintro rfl
      have q := a.z b v w e
      rw [hp] at q
      cases q
      exact hn
    rw [upd_ne ne]; exact a.z b v w e
theorem Aft.free (a : Aft M H H') (hm : p ∉ M) (h : H' p = none) : H p = none := by
  cases q : H p with
  | none => rfl
  | some o => rw [a.k p o q hm] at h; cases h
theorem Aft.sqt (e : Aft M H H') (h : SqT K H a xs) : SqT K H' a xs := by
  rcases h with (h | ⟨o, h⟩) | h
  · exact .inl (.inl (e.t _ _ h))
  · exact .inl (.inr ⟨o, e.z _ _ _ h⟩)
  · exact .inr h
/-- the script: locked, or the module's own -/
def Scr (K : PySem.W.Frag) (H : Hp) (a : Addr) (xs : List V) : Prop := (∃ u, H a = some (.frz u (.lst xs))) ∨
  ∃ (o : Obj) (its : Array Value) (n : Nat), K.lookup a = some o ∧ o.cls = .type "list" ∧ o.dict = none ∧ o.data = .seq its n ∧ its.size ≤ sizeLine ∧ Vals xs its.toList
theorem Scr.sq (h : Scr K H a xs) : SqL K H a xs := h.elim (fun ⟨u, h⟩ => .inl (.inr ⟨u, h⟩)) .inr
theorem Scr.keep (h : Scr K H a xs) (e : Aft M H H') : Scr K H' a xs := h.elim (fun ⟨u, h⟩ => .inl ⟨u, e.z _ _ _ h⟩) .inr
theorem Scr.only (hO : Only H) (h : SqL K H a xs) : Scr K H a xs := by
  rcases h with (h | h) | h
  · rcases hO a with z | ⟨u, ys, z⟩
    · rw [z] at h; cases h
    · rw [z] at h; cases h
  · exact .inl h
  · exact .inr h
end

/-! ### the dice: a list of the script, a place, two numbers -/
abbrev dO (a : Addr) (i m r : Int) : HO := .lst [.ref a, .int i, .int m, .int r]
structure Dice (K : PySem.W.Frag) (H : Hp) (d : Addr) : Prop where
  ex : ∃ (a : Addr) (ns : List Int) (i m r : Int), H d = some (dO a i m r) ∧ Scr K H a (ns.map V.int) ∧ ns.length ≤ 63 ∧ 0 ≤ i ∧ 0 ≤ m ∧ m < 2147483647
section
variable {K : PySem.W.Frag} {H H' : Hp} {d : Addr} {M : List Addr}
theorem Dice.lst (h : Dice K H d) : ∃ xs, H d = some (.lst xs) := by
  obtain ⟨a, ns, i, m, r, h, _⟩ := h.ex
  exact ⟨_, h⟩
theorem Dice.keep (h : Dice K H d) (e : Aft M H H') (hd : d ∉ M) : Dice K H' d := by
  obtain ⟨a, ns, i, m, r, h1, h2, h3⟩ := h.ex
  exact ⟨a, ns, i, m, r, e.k _ _ h1 hd, h2.keep e, h3⟩
end

/-! ### what stands now -/
structure Cel where
  w : Bool
  a : Addr
  o : HO
/-- l: the cells, the own ones (w) may be changed; ts: tuples; M: what may be changed of H0's; D: the dice -/
structure Now (K : PySem.W.Frag) (D : Option Addr) (M : List Addr) (H0 H : Hp) (l : List Cel) (ts : List (Addr × List V)) : Prop where
  nd : (l.map Cel.a).Nodup
  at_ : ∀ c ∈ l, H c.a = some c.o
  mu : ∀ c ∈ l, Mut (some c.o)
  ow : ∀ c ∈ l, c.w = true → c.a ∈ M ∨ H0 c.a = none
  tp : ∀ p ∈ ts, H p.1 = some (.tup p.2)
  af : Aft M H0 H
  dc : ∀ d, D = some d → Dice K H d ∧ (d ∈ M ∨ H0 d = none) ∧ d ∉ l.map Cel.a
section
variable {K : PySem.W.Frag} {D : Option Addr} {M M' : List Addr} {H0 H H' : Hp} {l l' : List Cel} {ts : List (Addr × List V)} {p a d : Addr} {o u : HO} {xs : List V} {c : Cel} {w : Bool}
theorem Now.get (N : Now K D M H0 H l ts) (i : Nat) (h : l[i]? = some c) : H c.a = some c.o := N.at_ c (List.mem_of_getElem? h)
theorem Now.cell (N : Now K D M H0 H l ts) (i : Nat) (h : l[i]? = some ⟨w, a, o⟩) : H a = some o := N.get i h
theorem Now.tup (N : Now K D M H0 H l ts) (i : Nat) (h : ts[i]? = some (a, xs)) : H a = some (.tup xs) := N.tp _ (List.mem_of_getElem? h)
theorem Now.free (N : Now K D M H0 H l ts) (hp : H p = none) : p ∉ l.map Cel.a := fun m => by
  obtain ⟨c, hc, e⟩ := List.mem_map.mp m
  have q := N.at_ c hc
  rw [e, hp] at q; cases q
/-- a new tuple -/
theorem Now.newT (N : Now K D M H0 H l ts) (hp : H p = none) : Now K D M H0 (upd H p (.tup xs)) l ((p, xs) :: ts) where
  nd := N.nd
  at_ := fun c hc => by rw [upd_ne (ne_of_none (N.at_ c hc) hp)]; exact N.at_ c hc
  mu := N.mu
  ow := N.ow
  tp := fun q hq => by
    rcases List.mem_cons.mp hq with e | hq
    · subst e; exact upd_same
    · rw [upd_ne (ne_of_none (N.tp q hq) hp)]; exact N.tp q hq
  af := N.af.new hp
  dc := fun d e => by
    obtain ⟨h1, h2, h3⟩ := N.dc d e
    exact ⟨h1.keep (M := []) (Aft.refl.new hp) (by simp), h2, h3⟩
/-- a new cell -/
theorem Now.newC (N : Now K D M H0 H l ts) (hp : H p = none) (hm : Mut (some o)) : Now K D M H0 (upd H p o) (⟨true, p, o⟩ :: l) ts where
  nd := List.nodup_cons.mpr ⟨N.free hp, N.nd⟩
  at_ := fun c hc => by
    rcases List.mem_cons.mp hc with e | hc
    · subst e; exact upd_same
    · rw [upd_ne (ne_of_none (N.at_ c hc) hp)]; exact N.at_ c hc
  mu := fun c hc => by
    rcases List.mem_cons.mp hc with e | hc
    · subst e; exact hm
    · exact N.mu c hc
  ow := fun c hc hw => by
    rcases List.mem_cons.mp hc with e | hc
    · subst e
      by_cases z : p ∈ M
      · exact .inl z
      · exact .inr (N.af.free z hp)
    · exact N.ow c hc hw
  tp := fun q hq => by rw [upd_ne (ne_of_none (N.tp q hq) hp)]; exact N.tp q hq
  af := N.af.new hp
  dc := fun d e => by
    obtain ⟨h1, h2, h3⟩ := N.dc d e
    refine ⟨h1.keep (M := []) (Aft.refl.new hp) (by simp), h2, ?_⟩
    intro m
    rcases List.mem_cons.mp m with q | q
    · obtain ⟨ys, hy⟩ := h1.lst
      rw [q] at hy
      have z : H p = some (.lst ys) := hy
      rw [hp] at z; cases z
    · exact h3 q
theorem nodup_at {l : List Cel} (nd : (l.map Cel.a).Nodup) {i j : Nat} {c c' : Cel} (h : l[i]? = some c) (h' : l[j]? = some c') (e : c.a = c'.a) : i = j := by
  have h1 : (l.map Cel.a)[i]? = some c.a := by rw [List.getElem?_map, h]; rfl
  have h2 : (l.map Cel.a)[j]? = some c.a := by rw [List.getElem?_map, h', e]; rfl
  obtain ⟨b1, e1⟩ := List.getElem?_eq_some_iff.mp h1
  obtain ⟨b2, e2⟩ := List.getElem?_eq_some_iff.mp h2
  exact (List.getElem_inj nd).mp (e1.trans e2.symm)
theorem set_map {l : List Cel} {i : Nat} {o o' : HO} (h : l[i]? = some ⟨w, a, o⟩) : (l.set i ⟨w, a, o'⟩).map Cel.a = l.map Cel.a := by
  rw [List.map_set]
  have h1 : (l.map Cel.a)[i]? = some a := by rw [List.getElem?_map, h]; rfl
  obtain ⟨b, e⟩ := List.getElem?_eq_some_iff.mp h1
  show (l.map Cel.a).set i a = _
  rw [← e]
  exact List.set_getElem_self b
/-- a cell is written: directly, or by a call that changes it alone -/
theorem Now.set (N : Now K D M H0 H l ts) (i : Nat) (h : l[i]? = some ⟨true, a, o⟩) (A : Aft [a] H H') (hu : H' a = some u) (hm : Mut (some u)) : Now K D M H0 H' (l.set i ⟨true, a, u⟩) ts := by
  have mem := List.mem_of_getElem? h
  have other : ∀ c ∈ l, c.a ≠ a → H' c.a = some c.o := fun c hc ne => A.k _ _ (N.at_ c hc) (by simpa using ne)
  have cases_ : ∀ c ∈ l.set i ⟨true, a, u⟩, c = ⟨true, a, u⟩ ∨ (c ∈ l ∧ c.a ≠ a) := fun c hc => by
    obtain ⟨j, hj⟩ := List.getElem?_of_mem hc
    by_cases e : i = j
    · subst e
      rw [List.getElem?_set_self (List.getElem?_eq_some_iff.mp h).1] at hj
      exact .inl (Option.some.inj hj).symm
    · rw [List.getElem?_set_ne e] at hj
      exact .inr ⟨List.mem_of_getElem? hj, fun q => e (nodup_at N.nd h hj q.symm)⟩
  refine ⟨by rw [set_map h]; exact N.nd, fun c hc => ?_, fun c hc => ?_, fun c hc hw => ?_, fun q hq => A.t _ _ (N.tp q hq), N.af.call A (by simpa using N.ow _ mem rfl), fun d e => ?_⟩
  · rcases cases_ c hc with e | ⟨hc, ne⟩
    · subst e; exact hu
    · exact other c hc ne
  · rcases cases_ c hc with e | ⟨hc, ne⟩
    · subst e; exact hm
    · exact N.mu c hc
  · rcases cases_ c hc with e | ⟨hc, ne⟩
    · subst e; exact N.ow ⟨true, a, o⟩ mem rfl
    · exact N.ow c hc hw
  · obtain ⟨h1, h2, h3⟩ := N.dc d e
    rw [set_map h]
    exact ⟨h1.keep A (by
      intro m
      have e : d = a := by simpa using m
      subst e
      exact h3 (List.mem_map.mpr ⟨_, mem, rfl⟩)), h2, h3⟩
theorem Now.put (N : Now K D M H0 H l ts) (i : Nat) (h : l[i]? = some ⟨true, a, o⟩) (hm : Mut (some u)) : Now K D M H0 (upd H a u) (l.set i ⟨true, a, u⟩) ts :=
  N.set i h (Aft.refl.put (N.cell i h) (N.mu _ (List.mem_of_getElem? h)) (.inl (by simp))) upd_same hm
/-- a call that changes nothing -/
theorem Now.pure (N : Now K D M H0 H l ts) (A : Aft [] H H') : Now K D M H0 H' l ts where
  nd := N.nd
  at_ := fun c hc => A.k _ _ (N.at_ c hc) (by simp)
  mu := N.mu
  ow := N.ow
  tp := fun q hq => A.t _ _ (N.tp q hq)
  af := N.af.call A (by simp)
  dc := fun d e => by
    obtain ⟨h1, h2, h3⟩ := N.dc d e
    exact ⟨h1.keep A (by simp), h2, h3⟩
/-- a call that rolls the dice -/
theorem Now.roll (N : Now K (some d) M H0 H l ts) (A : Aft [d] H H') (hd : Dice K H' d) : Now K (some d) M H0 H' l ts where
  nd := N.nd
  at_ := fun c hc => A.k _ _ (N.at_ c hc) (by
    intro m
    have e : c.a = d := by simpa using m
    exact (N.dc d rfl).2.2 (List.mem_map.mpr ⟨c, hc, e⟩))
  mu := N.mu
  ow := N.ow
  tp := fun q hq => A.t _ _ (N.tp q hq)
  af := N.af.call A (by simpa using (N.dc d rfl).2.1)
  dc := fun d' e => by
    cases e
    exact ⟨hd, (N.dc d rfl).2⟩
/-- cells are forgotten, or in another order -/
theorem Now.sub (N : Now K D M H0 H l ts) (l' : List Cel) (h : ∀ c ∈ l', c ∈ l) (nd : (l'.map Cel.a).Nodup) : Now K D M H0 H l' ts where
  nd := nd
  at_ := fun c hc => N.at_ c (h c hc)
  mu := fun c hc => N.mu c (h c hc)
  ow := fun c hc => N.ow c (h c hc)
  tp := N.tp
  af := N.af
  dc := fun d e => by
    obtain ⟨h1, h2, h3⟩ := N.dc d e
    exact ⟨h1, h2, fun m => by
      obtain ⟨c, hc, e⟩ := List.mem_map.mp m
      exact h3 (List.mem_map.mpr ⟨c, h c hc, e⟩)⟩
theorem Now.tl (N : Now K D M H0 H (c :: l) ts) : Now K D M H0 H l ts := N.sub l (fun _ h => List.mem_cons_of_mem _ h) (List.nodup_cons.mp N.nd).2
theorem Now.tl1 {c' : Cel} (N : Now K D M H0 H (c' :: c :: l) ts) : Now K D M H0 H (c' :: l) ts := N.sub _ (fun x h => by
  rcases List.mem_cons.mp h with e | h
  · exact List.mem_cons.mpr (.inl e)
  · exact List.mem_cons_of_mem _ (List.mem_cons_of_mem _ h)) (by
  have := N.nd
  simp only [List.map_cons, List.nodup_cons, List.mem_cons, not_or] at this ⊢
  exact ⟨this.1.2, this.2.2⟩)
theorem Now.subT (N : Now K D M H0 H l ts) (ts' : List (Addr × List V)) (h : ∀ p ∈ ts', p ∈ ts) : Now K D M H0 H l ts' := ⟨N.nd, N.at_, N.mu, N.ow, fun p hp => N.tp p (h p hp), N.af, N.dc⟩
theorem Now.moreT (N : Now K D M H0 H l ts) (h : H p = some (.tup xs)) : Now K D M H0 H l ((p, xs) :: ts) := ⟨N.nd, N.at_, N.mu, N.ow, fun q hq => by
  rcases List.mem_cons.mp hq with e | hq
  · subst e; exact h
  · exact N.tp q hq, N.af, N.dc⟩
/-- the start of a def -/
theorem Now.start (nd : (l.map Cel.a).Nodup) (at_ : ∀ c ∈ l, H c.a = some c.o ∧ Mut (some c.o) ∧ (c.w = true → c.a ∈ M)) (tp : ∀ p ∈ ts, H p.1 = some (.tup p.2)) (dc : ∀ d, D = some d → Dice K H d ∧ d ∈ M ∧ d ∉ l.map Cel.a) : Now K D M H H l ts :=
  ⟨nd, fun c hc => (at_ c hc).1, fun c hc => (at_ c hc).2.1, fun c hc hw => .inl ((at_ c hc).2.2 hw), tp, .refl, fun d e => ⟨(dc d e).1, .inl (dc d e).2.1, (dc d e).2.2⟩⟩
theorem Now.start0 (tp : ∀ p ∈ ts, H p.1 = some (.tup p.2)) : Now K none M H H [] ts := .start (by simp) (by simp) tp (by simp)
theorem Now.startD (hd : Dice K H d) (tp : ∀ p ∈ ts, H p.1 = some (.tup p.2)) : Now K (some d) [d] H H [] ts := .start (by simp) (by simp) tp (by simp [hd])
end
end Ak
namespace Ak
open PySem PySem.Spec PyProof.Rows L2
/-! ### readings, step by step -/
section
variable {σ : L2.St} {H : Hp} {D : Ends} {t u : TS} {te ta tb tc : TE} {tr : TA} {g : TG} {Q : VK} {tt tu : TT} {v x y : V} {i : Nat} {K : PySem.W.Frag}
variable {nx bk ct : L2.St → Hp → Prop} {rt : VK}
theorem k_seq (h : t ⟨u ⟨nx, rt, bk, ct⟩, rt, bk, ct⟩ σ H) : tSeq t u ⟨nx, rt, bk, ct⟩ σ H := h
theorem k_next (h : nx σ H) : tNext ⟨nx, rt, bk, ct⟩ σ H := h
theorem k_asg (h : te σ H fun x H1 => g x σ H1 nx) : tAsg te g ⟨nx, rt, bk, ct⟩ σ H := h
theorem k_gname {Q : L2.St → Hp → Prop} (h : Q (σ.set i (some v)) H) : gName i v σ H Q := h
theorem k_drop (h : te σ H fun _ H1 => nx σ H1) : tDrop te ⟨nx, rt, bk, ct⟩ σ H := h
theorem k_ret (h : te σ H rt) : tRet te ⟨nx, rt, bk, ct⟩ σ H := h
theorem k_retN (h : rt .non H) : tRetN ⟨nx, rt, bk, ct⟩ σ H := h
/-- the two ways of an if -/
def cIf (t u : TS) (D : Ends) (σ : L2.St) : Bool → Hp → Prop := fun b H => if b = true then t D σ H else u D σ H
theorem k_if (h : tt σ H (cIf t u D σ)) : tIfS tt t u D σ H := h
theorem c_ifT (h : t D σ H) : cIf t u D σ true H := h
theorem c_ifF (h : u D σ H) : cIf t u D σ false H := h
theorem c_if {b : Bool} (h1 : b = true → t D σ H) (h2 : b = false → u D σ H) : cIf t u D σ b H := by
  cases b with
  | true => exact h1 rfl
  | false => exact h2 rfl
theorem c_ifd {p : Prop} [Decidable p] (h1 : p → t D σ H) (h2 : ¬ p → u D σ H) : cIf t u D σ (decide p) H :=
  c_if (fun e => h1 (of_decide_eq_true e)) (fun e => h2 (of_decide_eq_false e))
theorem c_ifdT {p : Prop} [Decidable p] (hp : p) (h1 : t D σ H) : cIf t u D σ (decide p) H := c_ifd (fun _ => h1) fun n => (n hp).elim
theorem c_ifdF {p : Prop} [Decidable p] (hp : ¬ p) (h1 : u D σ H) : cIf t u D σ (decide p) H := c_ifd (fun n => (hp n).elim) fun _ => h1
/-- two names at once -/
def cPar (i j : Nat) (nx : L2.St → Hp → Prop) (σ : L2.St) : List V → Hp → Prop := fun vs H1 => ∃ v w, vs = [v, w] ∧ nx ((σ.set i (some v)).set j (some w)) H1
theorem k_par {i j : Nat} (h : tr σ H (cPar i j nx σ)) : tPar i j tr ⟨nx, rt, bk, ct⟩ σ H := h
theorem e_par {i j : Nat} {v w : V} (h : nx ((σ.set i (some v)).set j (some w)) H) : cPar i j nx σ [v, w] H := ⟨v, w, rfl, h⟩
/-- loops -/
def cFor (K : PySem.W.Frag) (g : TG) (tb : TS) (D : Ends) (σ : L2.St) : VK := fun x H1 => ∃ a, x = .ref a ∧ (∃ xs, SqL K H1 a xs) ∧
  ∃ W : Nat → Nat → L2.St → Hp → Prop, (∃ m, W 0 m σ H1) ∧ ∀ i m σ H, W i m σ H →
  ((Itl K a).stop i H ∧ D.nx σ H) ∨ ((Itl K a).go i H ∧ ∃ N : L2.St → Hp → Prop, (∀ σ' H', N σ' H' → ∃ m', m' < m ∧ W (i + 1) m' σ' H') ∧ ∀ x H', (Itl K a).yld i H x H' → g x σ H' fun σ2 H2 => tb { D with nx := N, ct := N, bk := D.nx } σ2 H2)
theorem k_for {tl : TE} (h : tl σ H (cFor K g t D σ)) : tFor (iList K tl) g t D σ H := h
theorem c_for {a : Addr} {xs : List V} (Pv : Nat → L2.St → Hp → Prop) (h0 : Pv 0 σ H) (hl : ∀ i σ H, i ≤ xs.length → Pv i σ H → SqL K H a xs)
    (hs : ∀ i x σ H, xs[i]? = some x → Pv i σ H → g x σ H fun σ2 H2 => t ⟨Pv (i + 1), rt, nx, Pv (i + 1)⟩ σ2 H2) (hd : ∀ σ H, Pv xs.length σ H → nx σ H) : cFor K g t ⟨nx, rt, bk, ct⟩ σ (.ref a) H :=
  ⟨a, rfl, ⟨xs, hl 0 σ H (Nat.zero_le _) h0⟩, for_list (D := ⟨nx, rt, bk, ct⟩) Pv h0 hl hs hd⟩
def cForT (K : PySem.W.Frag) (g : TG) (tb : TS) (D : Ends) (σ : L2.St) : VK := fun x H1 => ∃ a, x = .ref a ∧ (∃ xs, SqT K H1 a xs) ∧
  ∃ W : Nat → Nat → L2.St → Hp → Prop, (∃ m, W 0 m σ H1) ∧ ∀ i m σ H, W i m σ H →
  ((Itt K a).stop i H ∧ D.nx σ H) ∨ ((Itt K a).go i H ∧ ∃ N : L2.St → Hp → Prop, (∀ σ' H', N σ' H' → ∃ m', m' < m ∧ W (i + 1) m' σ' H') ∧ ∀ x H', (Itt K a).yld i H x H' → g x σ H' fun σ2 H2 => tb { D with nx := N, ct := N, bk := D.nx } σ2 H2)
theorem k_forT {tl : TE} (h : tl σ H (cForT K g t D σ)) : tFor (iTup K tl) g t D σ H := h
theorem c_forT {a : Addr} {xs : List V} (Pv : Nat → L2.St → Hp → Prop) (h0 : Pv 0 σ H) (hl : ∀ i σ H, i ≤ xs.length → Pv i σ H → SqT K H a xs)
    (hs : ∀ i x σ H, xs[i]? = some x → Pv i σ H → g x σ H fun σ2 H2 => t ⟨Pv (i + 1), rt, nx, Pv (i + 1)⟩ σ2 H2) (hd : ∀ σ H, Pv xs.length σ H → nx σ H) : cForT K g t ⟨nx, rt, bk, ct⟩ σ (.ref a) H :=
  ⟨a, rfl, ⟨xs, hl 0 σ H (Nat.zero_le _) h0⟩, for_tup (D := ⟨nx, rt, bk, ct⟩) Pv h0 hl hs hd⟩
def cForR (g : TG) (tb : TS) (D : Ends) (σ : L2.St) : List V → Hp → Prop := fun vs H1 => ∃ j : Int, vs = [.int j] ∧ -(2 ^ 62) ≤ j ∧ j < 2 ^ 62 ∧
  ∃ W : Nat → Nat → L2.St → Hp → Prop, (∃ m, W 0 m σ H1) ∧ ∀ i m σ H, W i m σ H →
  ((Itr 0 j.toNat).stop i H ∧ D.nx σ H) ∨ ((Itr 0 j.toNat).go i H ∧ ∃ N : L2.St → Hp → Prop, (∀ σ' H', N σ' H' → ∃ m', m' < m ∧ W (i + 1) m' σ' H') ∧ ∀ x H', (Itr 0 j.toNat).yld i H x H' → g x σ H' fun σ2 H2 => tb { D with nx := N, ct := N, bk := D.nx } σ2 H2)
theorem k_forR (h : tr σ H (cForR g t D σ)) : tFor (iRng1 tr) g t D σ H := h
theorem c_forR {n : Int} (hn : -100000 ≤ n ∧ n ≤ 100000) (Pv : Nat → L2.St → Hp → Prop) (h0 : Pv 0 σ H)
    (hs : ∀ (i : Nat) σ H, (i : Int) < n → Pv i σ H → g (.int (i : Int)) σ H fun σ2 H2 => t ⟨Pv (i + 1), rt, nx, Pv (i + 1)⟩ σ2 H2) (hd : ∀ σ H, Pv n.toNat σ H → nx σ H) : cForR g t ⟨nx, rt, bk, ct⟩ σ [.int n] H :=
  ⟨n, rfl, by omega, by omega, for_range (D := ⟨nx, rt, bk, ct⟩) (lo := 0) Pv h0 (fun i σ H hi p => by
    rw [show (0 : Int) + (i : Int) = (i : Int) from Int.zero_add _]
    exact hs i σ H (by omega) p) hd⟩
theorem k_var (h : σ[i]? = some (some v)) (k : Q v H) : tVar i σ H Q := ⟨v, h, k⟩
theorem k_c (h : Q v H) : tC v σ H Q := h
theorem k_op {r : R2} (h : ta σ H fun x H1 => tb σ H1 fun y H2 => r x y H2 Q) : tOp r ta tb σ H Q := h
theorem k_un {r : V → Hp → VK → Prop} (h : ta σ H fun x H1 => r x H1 Q) : tUn r ta σ H Q := h
def cCh (r' : R2) (tc : TE) (σ : L2.St) (y : V) (Q : VK) : VK := fun z H3 => ∃ k, z = .bl k ∧ (if k = true then tc σ H3 fun w' H4 => r' y w' H4 Q else Q (.bl false) H3)
theorem k_chain {r r' : R2} (h : ta σ H fun x H1 => tb σ H1 fun y H2 => r x y H2 (cCh r' tc σ y Q)) : tChain r r' ta tb tc σ H Q := h
theorem c_ch {r' : R2} {y : V} {b : Bool} (h1 : b = true → tc σ H fun w' H4 => r' y w' H4 Q) (h2 : b = false → Q (.bl false) H) : cCh r' tc σ y Q (.bl b) H := ⟨b, rfl, by
  cases b with
  | true => exact h1 rfl
  | false => exact h2 rfl⟩
def cT (Q : Bool → Hp → Prop) : VK := fun x H' => ∃ k, x = .bl k ∧ Q k H'
theorem k_test {Q : Bool → Hp → Prop} (h : te σ H (cT Q)) : tTest te σ H Q := h
theorem k_tB {Q : Bool → Hp → Prop} (h : te σ H (cT Q)) : tB te σ H Q := h
theorem e_bl {Q : Bool → Hp → Prop} {b : Bool} (h : Q b H) : cT Q (.bl b) H := ⟨b, rfl, h⟩
def cNt (Q : Bool → Hp → Prop) : Bool → Hp → Prop := fun c H1 => Q (!c) H1
theorem k_not {Q : Bool → Hp → Prop} (h : tt σ H (cNt Q)) : tNot tt σ H Q := h
theorem c_nt {Q : Bool → Hp → Prop} {b : Bool} (h : Q (!b) H) : cNt Q b H := h
theorem c_ntT {Q : Bool → Hp → Prop} (h : Q false H) : cNt Q true H := h
theorem c_ntF {Q : Bool → Hp → Prop} (h : Q true H) : cNt Q false H := h
theorem c_ntD {Q : Bool → Hp → Prop} {p : Prop} [Decidable p] (h : Q (decide (¬ p)) H) : cNt Q (decide p) H := by
  show Q (!decide p) H
  rw [← decide_not]
  exact h
def cAnd (u : TT) (σ : L2.St) (Q : Bool → Hp → Prop) : Bool → Hp → Prop := fun c H1 => if c = true then u σ H1 Q else Q false H1
def cOr (u : TT) (σ : L2.St) (Q : Bool → Hp → Prop) : Bool → Hp → Prop := fun c H1 => if c = true then Q true H1 else u σ H1 Q
theorem k_and {Q : Bool → Hp → Prop} (h : tt σ H (cAnd tu σ Q)) : tAnd tt tu σ H Q := h
theorem k_or {Q : Bool → Hp → Prop} (h : tt σ H (cOr tu σ Q)) : tOr tt tu σ H Q := h
theorem c_and {Q : Bool → Hp → Prop} {b : Bool} (h1 : b = true → tu σ H Q) (h2 : b = false → Q false H) : cAnd tu σ Q b H := by
  cases b with
  | true => exact h1 rfl
  | false => exact h2 rfl
theorem c_or {Q : Bool → Hp → Prop} {b : Bool} (h1 : b = true → Q true H) (h2 : b = false → tu σ H Q) : cOr tu σ Q b H := by
  cases b with
  | true => exact h1 rfl
  | false => exact h2 rfl
/-- the second test's answer is told whatever the first is -/
theorem c_and' {Q : Bool → Hp → Prop} {b c : Bool} (h1 : ∀ Q', Q' c H → tu σ H Q') (h : Q (b && c) H) : cAnd tu σ Q b H := by
  cases b with
  | true => exact h1 _ h
  | false => exact h
theorem c_or' {Q : Bool → Hp → Prop} {b c : Bool} (h1 : ∀ Q', Q' c H → tu σ H Q') (h : Q (b || c) H) : cOr tu σ Q b H := by
  cases b with
  | true => exact h
  | false => exact h1 _ h
def cAndV (tb : TE) (σ : L2.St) (Q : VK) : VK := fun x H1 => ∃ c, x = .bl c ∧ if c = true then tb σ H1 Q else Q (.bl false) H1
def cOrV (tb : TE) (σ : L2.St) (Q : VK) : VK := fun x H1 => ∃ c, x = .bl c ∧ if c = true then Q (.bl true) H1 else tb σ H1 Q
def cNotV (Q : VK) : VK := fun x H1 => ∃ c, x = .bl c ∧ Q (.bl (!c)) H1
theorem k_andV (h : ta σ H (cAndV tb σ Q)) : tAndV ta tb σ H Q := h
theorem k_orV (h : ta σ H (cOrV tb σ Q)) : tOrV ta tb σ H Q := h
theorem e_andV {b : Bool} (h1 : b = true → tb σ H Q) (h2 : b = false → Q (.bl false) H) : cAndV tb σ Q (.bl b) H := ⟨b, rfl, by
  cases b with
  | true => exact h1 rfl
  | false => exact h2 rfl⟩
theorem e_orV {b : Bool} (h1 : b = true → Q (.bl true) H) (h2 : b = false → tb σ H Q) : cOrV tb σ Q (.bl b) H := ⟨b, rfl, by
  cases b with
  | true => exact h1 rfl
  | false => exact h2 rfl⟩
theorem k_notV (h : ta σ H (cNotV Q)) : tNotV ta σ H Q := h
def cIfE (ta tb : TE) (σ : L2.St) (Q : VK) : Bool → Hp → Prop := fun c H1 => if c = true then ta σ H1 Q else tb σ H1 Q
theorem k_ifE (h : tt σ H (cIfE ta tb σ Q)) : tIf tt ta tb σ H Q := h
theorem c_ifE {b : Bool} (h1 : b = true → ta σ H Q) (h2 : b = false → tb σ H Q) : cIfE ta tb σ Q b H := by
  cases b with
  | true => exact h1 rfl
  | false => exact h2 rfl
theorem c_ifEV {b : Bool} {v : V} (h1 : b = true → ∀ Q' : VK, Q' v H → ta σ H Q') (h2 : b = false → ∀ Q' : VK, Q' v H → tb σ H Q') (q : Q v H) : cIfE ta tb σ Q b H := by
  cases b with
  | true => exact h1 rfl _ q
  | false => exact h2 rfl _ q
theorem k_cons {Q : List V → Hp → Prop} (h : ta σ H fun x H1 => tr σ H1 fun xs H2 => Q (x :: xs) H2) : tCons ta tr σ H Q := h
theorem k_nil {Q : List V → Hp → Prop} (h : Q [] H) : tNil σ H Q := h
def cTup (Q : VK) : List V → Hp → Prop := fun xs H1 => xs.length ≤ sizeLine ∧ ∀ p, H1 p = none → Q (.ref p) (upd H1 p (.tup xs))
def cLst (Q : VK) : List V → Hp → Prop := fun xs H1 => xs.length ≤ sizeLine ∧ ∀ p, H1 p = none → Q (.ref p) (upd H1 p (.lst xs))
theorem k_tup (h : tr σ H (cTup Q)) : tTup tr σ H Q := h
theorem k_lst (h : tr σ H (cLst Q)) : tLst tr σ H Q := h
theorem k_call {sp : Sp} {dvs : List V} {E : XK} (h : tr σ H fun vs H1 => sp (vs ++ dvs) H1 Q E) : tCall sp dvs E tr σ H Q := h
theorem k_cb {r : List V → Hp → VK → Prop} (h : tr σ H fun vs H1 => r vs H1 Q) : tCB r tr σ H Q := h
theorem k_I0 {f : Int → Int → V} {a b : Int} (h : Q (f a b) H) : rI0 f (.int a) (.int b) H Q := ⟨a, b, rfl, rfl, h⟩
theorem k_I {C : Int → Int → Prop} {f : Int → Int → V} {a b : Int} (hc : C a b) (h : Q (f a b) H) : rI C f (.int a) (.int b) H Q := ⟨a, b, rfl, rfl, hc, h⟩
theorem k_U {f : Int → V} {a : Int} (h : Q (f a) H) : rU f (.int a) H Q := ⟨a, rfl, h⟩
theorem k_eq (hs : scal x y = true) (h : Q (.bl (decide (x = y))) H) : rEq x y H Q := ⟨hs, h⟩
theorem k_ne (hs : scal x y = true) (h : Q (.bl (!decide (x = y))) H) : rNe x y H Q := ⟨hs, h⟩
theorem k_eqI {a b : Int} (h : Q (.bl (decide (a = b))) H) : rEq (.int a) (.int b) H Q := ⟨rfl, by
  have e : decide (V.int a = V.int b) = decide (a = b) := by by_cases q : a = b <;> simp [q]
  rw [e]; exact h⟩
theorem k_neI {a b : Int} (h : Q (.bl (decide (a ≠ b))) H) : rNe (.int a) (.int b) H Q := ⟨rfl, by
  have e : (!decide (V.int a = V.int b)) = decide (a ≠ b) := by by_cases q : a = b <;> simp [q]
  rw [e]; exact h⟩
end

/-! ### answers that are known -/
section
variable {σ : L2.St} {H : Hp} {t u : TS} {D : Ends} {ta tb : TE} {tu : TT} {Q : VK} {x : V}
theorem k_eqS (hs : scal x x = true) (h : Q (.bl true) H) : rEq x x H Q := ⟨hs, by rw [decide_eq_true rfl]; exact h⟩
theorem k_neS (hs : scal x x = true) (h : Q (.bl false) H) : rNe x x H Q := ⟨hs, by rw [decide_eq_true rfl]; exact h⟩
theorem k_eqB {a b : Bool} (h : Q (.bl (decide (a = b))) H) : rEq (.bl a) (.bl b) H Q := ⟨rfl, by
  have e : decide (V.bl a = V.bl b) = decide (a = b) := by cases a <;> cases b <;> rfl
  rw [e]; exact h⟩
theorem e_andT (h : tb σ H Q) : cAndV tb σ Q (.bl true) H := ⟨true, rfl, h⟩
theorem e_andF (h : Q (.bl false) H) : cAndV tb σ Q (.bl false) H := ⟨false, rfl, h⟩
theorem e_orT (h : Q (.bl true) H) : cOrV tb σ Q (.bl true) H := ⟨true, rfl, h⟩
theorem e_orF (h : tb σ H Q) : cOrV tb σ Q (.bl false) H := ⟨false, rfl, h⟩
theorem e_notT (h : Q (.bl false) H) : cNotV Q (.bl true) H := ⟨true, rfl, h⟩
theorem e_notF (h : Q (.bl true) H) : cNotV Q (.bl false) H := ⟨false, rfl, h⟩
theorem e_notV {b : Bool} (h : Q (.bl (!b)) H) : cNotV Q (.bl b) H := ⟨b, rfl, h⟩
variable {Qb : Bool → Hp → Prop}
theorem c_andT (h : tu σ H Qb) : cAnd tu σ Qb true H := h
theorem c_andF (h : Qb false H) : cAnd tu σ Qb false H := h
theorem c_orT (h : Qb true H) : cOr tu σ Qb true H := h
theorem c_orF (h : tu σ H Qb) : cOr tu σ Qb false H := h
theorem c_ifET (h : ta σ H Q) : cIfE ta tb σ Q true H := h
theorem c_ifEF (h : tb σ H Q) : cIfE ta tb σ Q false H := h
def rIsNo : R2 := fun x y H Q => y = .non ∧ Q (.bl (decide (x = .non))) H
def rNotNo : R2 := fun x y H Q => y = .non ∧ Q (.bl (!decide (x = .non))) H
theorem op_isNo {X : Cx} : OpR X (compareOp .Is) rIsNo := op_isN
theorem op_notNo {X : Cx} : OpR X (compareOp .IsNot) rNotNo := op_notN
theorem k_isY (h : Q (.bl true) H) : rIsNo .non .non H Q := ⟨rfl, h⟩
theorem k_isX (hx : x ≠ .non) (h : Q (.bl false) H) : rIsNo x .non H Q := ⟨rfl, by rw [decide_eq_false hx]; exact h⟩
theorem k_ntY (h : Q (.bl false) H) : rNotNo .non .non H Q := ⟨rfl, h⟩
theorem k_ntX (hx : x ≠ .non) (h : Q (.bl true) H) : rNotNo x .non H Q := ⟨rfl, by rw [decide_eq_false hx]; exact h⟩
end

/-! ### defs, methods, classes by name -/
section
variable (P : Program) (w : World) (K : PySem.W.Frag) (mg : Str → Option Value) (base : Heap) (CX : CXT)
/-- a def of the top, as it is called: the name x, k the level -/
structure Cal (k : Nat) (x : Str) (ps : List Str) (sp : Sp) : Prop where
  ex : ∃ (f : Addr) (fd : FuncData), FnOk P w K mg base CX k f fd ps sp ∧ Binds K fd ps [] ∧ PySem.W.keepIn K (.ref f) = true ∧ mg x = some (.ref f)
/-- a method of the class at C -/
structure CalM (C : Addr) (k : Nat) (m : Str) (ps : List Str) (sp : Sp) : Prop where
  ex : ∃ (f : Addr) (fd : FuncData), FnOk P w K mg base CX k f fd ps sp ∧ Binds K fd ps [] ∧ Meth K C m f
/-- the class at C, called by the name x; sp: its __init__ 's -/
structure CalC (C : Addr) (k : Nat) (x : Str) (ps : List Str) (sp : Sp) : Prop where
  ex : ∃ (f : Addr) (fd : FuncData), FnOk P w K mg base CX k f fd ps sp ∧ Binds K fd ps [] ∧ Mk K C f ∧ mg x = some (.ref C)
end
section
variable {X : Cx} {CX : CXT} {k : Nat} {C : Addr} {ps : List Str} {sp : Sp} {E : XK} {x m : Str} {p pos apos : Pos} {e o : Expr} {es : List Expr} {ta : TE} {t : TA}
theorem pe_cal (c : Cal X.prog X.w X.K X.mg X.base CX k x ps sp) (hr : Room k X.A) (hx : Passes CX X E) (ha : PA X (e :: es) t) (hg : Gl X x := by rfl) (hdb : (x == ("__debug__" : Str)) = false := by decide)
    (he : starEach (e :: es) X.env = (false, eval e X.env) :: starEach es X.env := by rfl) (hpl : (backTo pos (starEach es X.env)).any (·.1) = false := by rfl) :
    PE X (.Call (.Name x p) (e :: es) [] pos) (tCall sp [] E t) := by
  obtain ⟨f, fd, F, b, kp, hm⟩ := c.ex
  exact pe_call F hr hg hm kp b .nil hx ha hdb he hpl
theorem pe_cal0 (c : Cal X.prog X.w X.K X.mg X.base CX k x ps sp) (hr : Room k X.A) (hx : Passes CX X E) (hg : Gl X x := by rfl) (hdb : (x == ("__debug__" : Str)) = false := by decide) :
    PE X (.Call (.Name x p) [] [] pos) (tCall sp [] E tNil) := by
  obtain ⟨f, fd, F, b, kp, hm⟩ := c.ex
  exact pe_call0 F hr hg hm kp b .nil hx hdb
theorem pe_calM {pl : Sem Bool} (he : PE X o ta) (c : Cls X.K C) (cm : CalM X.prog X.w X.K X.mg X.base CX C k m ps sp) (hr : Room k X.A) (hx : Passes CX X E) (ha : PA X (e :: es) t)
    (hst : starEach (e :: es) X.env = (false, eval e X.env) :: starEach es X.env := by rfl) (hpl : (backTo pos (starEach es X.env)).any (·.1) = false := by rfl)
    (ht : eval (.Call (.Attribute o m apos) (e :: es) [] pos) X.env = (do
      let ov ← eval o X.env
      standAt apos.atName
      let (f, first) ← holding [ov] (getMethod ov m pl)
      callWith pos f first (backTo pos (starEach (e :: es) X.env)) (backToKw pos (keywordEach [] X.env))) := by rfl) :
    PE X (.Call (.Attribute o m apos) (e :: es) [] pos) (tMeth C m sp [] E ta t) := by
  obtain ⟨f, fd, F, b, M⟩ := cm.ex
  exact pe_meth he c M F hr b .nil hx ha hst hpl ht
theorem pe_calM0 {pl : Sem Bool} (he : PE X o ta) (c : Cls X.K C) (cm : CalM X.prog X.w X.K X.mg X.base CX C k m ps sp) (hr : Room k X.A) (hx : Passes CX X E)
    (ht : eval (.Call (.Attribute o m apos) [] [] pos) X.env = (do
      let ov ← eval o X.env
      standAt apos.atName
      let (f, first) ← holding [ov] (getMethod ov m pl)
      callWith pos f first (backTo pos (starEach [] X.env)) (backToKw pos (keywordEach [] X.env))) := by rfl) :
    PE X (.Call (.Attribute o m apos) [] [] pos) (tMeth C m sp [] E ta tNil) := by
  obtain ⟨f, fd, F, b, M⟩ := cm.ex
  exact pe_meth0 he c M F hr b .nil hx ht
theorem pe_calC (c : CalC X.prog X.w X.K X.mg X.base CX C k x ps sp) (hr : Room (k + 1) X.A) (hx : Passes CX X E) (ha : PA X (e :: es) t) (hg : Gl X x := by rfl) (hdb : (x == ("__debug__" : Str)) = false := by decide)
    (he : starEach (e :: es) X.env = (false, eval e X.env) :: starEach es X.env := by rfl) (hpl : (backTo pos (starEach es X.env)).any (·.1) = false := by rfl) :
    PE X (.Call (.Name x p) (e :: es) [] pos) (tMake C sp [] E t) := by
  obtain ⟨f, fd, F, b, M, hm⟩ := c.ex
  exact pe_make M F hr hg hm b .nil hx ha hdb he hpl
end

/-! ### what is now, through the steps -/
section
variable {K : PySem.W.Frag} {D : Option Addr} {M : List Addr} {H0 H : Hp} {l : List Cel} {ts : List (Addr × List V)} {p a d : Addr} {o u : HO} {xs : List V} {Q : VK} {E : XK}
theorem g_tup (N : Now K D M H0 H l ts) (hl : xs.length ≤ 100000) (h : ∀ p H', Now K D M H0 H' l ((p, xs) :: ts) → Q (.ref p) H') : cTup Q xs H := ⟨Nat.le_trans hl (by decide), fun p hp => h p _ (N.newT hp)⟩
theorem g_lst (N : Now K D M H0 H l ts) (hl : xs.length ≤ 100000) (h : ∀ p H', Now K D M H0 H' (⟨true, p, .lst xs⟩ :: l) ts → Q (.ref p) H') : cLst Q xs H := ⟨Nat.le_trans hl (by decide), fun p hp => h p _ (N.newC hp trivial)⟩
/-- the dice's promise -/
def spNext (K : PySem.W.Frag) : Sp := fun vs H Q _ => ∃ (d : Addr) (n : Int), vs = [.ref d, .int n] ∧ Dice K H d ∧ 0 < n ∧ n < 1073741824 ∧ ∀ v H', Aft [d] H H' → Dice K H' d → 0 ≤ v → v < n → Q (.int v) H'
theorem g_next {n : Int} (N : Now K (some d) M H0 H l ts) (hn : 0 < n ∧ n < 1073741824) (h : ∀ v H', Now K (some d) M H0 H' l ts → 0 ≤ v → v < n → Q (.int v) H') : spNext K [.ref d, .int n] H Q E :=
  ⟨d, n, rfl, (N.dc d rfl).1, hn.1, hn.2, fun v H' A hd h0 h1 => h v H' (N.roll A hd) h0 h1⟩
end
end Ak
namespace Ak
open PySem PySem.Spec PyProof.Rows L2
/-! ### the built-ins stand, constants by name -/
structure Bt (mg : Str → Option Value) : Prop where
  m_len : mg "len" = none
  m_int : mg "int" = none
  m_isinstance : mg "isinstance" = none
  m_range : mg "range" = none
  m_sorted : mg "sorted" = none
  m_list : mg "list" = none
  m_tuple : mg "tuple" = none
  m_max : mg "max" = none
  m_min : mg "min" = none
  m_set : mg "set" = none
  m_str : mg "str" = none
  m_enumerate : mg "enumerate" = none
  m_bool : mg "bool" = none
  m_dict : mg "dict" = none
theorem pe_gint {X : Cx} {x : Str} {i : Int} {pos : Pos} (hg : Gl X x) (h : ∃ t, X.mg x = some (.int i t)) (hd : (x == ("__debug__" : Str)) = false := by decide) : PE X (.Name x pos) (tC (.int i)) := by
  obtain ⟨t, h⟩ := h
  exact pe_glob hg h ⟨t, rfl⟩ hd
theorem pe_gstr {X : Cx} {x : Str} {z : Str} {pos : Pos} (hg : Gl X x) (h : ∃ t, X.mg x = some (.str z t)) (hd : (x == ("__debug__" : Str)) = false := by decide) : PE X (.Name x pos) (tC (.str z)) := by
  obtain ⟨t, h⟩ := h
  exact pe_glob hg h ⟨t, rfl⟩ hd
theorem pe_gref {X : Cx} {x : Str} {a : Addr} {pos : Pos} (hg : Gl X x) (h : X.mg x = some (.ref a)) (hd : (x == ("__debug__" : Str)) = false := by decide) : PE X (.Name x pos) (tC (.ref a)) := pe_glob hg h rfl hd

/-! ### readings by name -/
section
variable {X : Cx} {K : PySem.W.Frag} {H : Hp} {Q : VK} {p : Addr} {xs : List V}
def rLn (K : PySem.W.Frag) : List V → Hp → VK → Prop := fun xs H Q => ∃ p ys, xs = [.ref p] ∧ (SqL K H p ys ∨ SqT K H p ys) ∧ Q (.int ys.length) H
theorem cr_ln : CallR X (.builtin "len") (rLn X.K) := call_len_seq
theorem g_lnL (h : SqL K H p xs) (q : Q (.int xs.length) H) : rLn K [.ref p] H Q := ⟨p, xs, rfl, .inl h, q⟩
theorem g_lnT (h : SqT K H p xs) (q : Q (.int xs.length) H) : rLn K [.ref p] H Q := ⟨p, xs, rfl, .inr h, q⟩
def rIntB : List V → Hp → VK → Prop := fun xs H Q => ∃ k, xs = [.bl k] ∧ Q (.int (if k then 1 else 0)) H
theorem cr_intB : CallR X (.type "int") rIntB := fun pins s σ H xs us Q I r h => call_int1 pins s σ H xs us Q I r (.inr h)
theorem g_intB {b : Bool} (q : Q (.int (if b then 1 else 0)) H) : rIntB [.bl b] H Q := ⟨b, rfl, q⟩
theorem g_ixL {i : Int} {v : V} (h : SqL K H p xs) (ha : atI xs i = some v) (q : Q v H) : rIxL K (.ref p) (.int i) H Q := ⟨p, xs, i, v, rfl, rfl, h, ha, q⟩
theorem g_ixT {i : Int} {v : V} (h : SqT K H p xs) (ha : atI xs i = some v) (q : Q v H) : rIxT K (.ref p) (.int i) H Q := ⟨p, xs, i, v, rfl, rfl, h, ha, q⟩
theorem g_setL {Q : Hp → Prop} {i : Int} {j : Nat} {v : V} (h : H p = some (.lst xs)) (hi : ixN xs.length i = some j) (q : Q (upd H p (.lst (xs.set j v)))) : rSetL (.ref p) (.int i) v H Q := ⟨p, xs, i, j, rfl, rfl, h, hi, q⟩
section
variable {D : Option Addr} {M : List Addr} {H0 : Hp} {l : List Cel} {ts : List (Addr × List V)} {c0 c1 c2 c3 : Cel} {i : Int} {j : Nat} {v : V} {Qh : Hp → Prop}
theorem g_set0 (N : Now K D M H0 H (⟨true, p, .lst xs⟩ :: l) ts) (hi : ixN xs.length i = some j) (q : ∀ H', Now K D M H0 H' (⟨true, p, .lst (xs.set j v)⟩ :: l) ts → Qh H') : rSetL (.ref p) (.int i) v H Qh := g_setL (N.cell 0 rfl) hi (q _ (N.put 0 rfl trivial))
theorem g_set1 (N : Now K D M H0 H (c0 :: ⟨true, p, .lst xs⟩ :: l) ts) (hi : ixN xs.length i = some j) (q : ∀ H', Now K D M H0 H' (c0 :: ⟨true, p, .lst (xs.set j v)⟩ :: l) ts → Qh H') : rSetL (.ref p) (.int i) v H Qh := g_setL (N.cell 1 rfl) hi (q _ (N.put 1 rfl trivial))
def rApp (K : PySem.W.Frag) : V → List V → Hp → VK → Prop := fun x vs H Q => ∃ l xs y, x = .ref l ∧ vs = [y] ∧ H l = some (.lst xs) ∧ xs.length < sizeLine ∧ Q .non (upd H l (.lst (xs ++ [y])))
theorem g_app0 (N : Now K D M H0 H (⟨true, p, .lst xs⟩ :: l) ts) (hz : xs.length < 100000) (q : ∀ H', Now K D M H0 H' (⟨true, p, .lst (xs ++ [v])⟩ :: l) ts → Q .non H') : rAppend (.ref p) [v] H Q := ⟨p, xs, v, rfl, rfl, N.cell 0 rfl, Nat.lt_of_lt_of_le hz (by decide), q _ (N.put 0 rfl trivial)⟩
theorem g_app1 (N : Now K D M H0 H (c0 :: ⟨true, p, .lst xs⟩ :: l) ts) (hz : xs.length < 100000) (q : ∀ H', Now K D M H0 H' (c0 :: ⟨true, p, .lst (xs ++ [v])⟩ :: l) ts → Q .non H') : rAppend (.ref p) [v] H Q := ⟨p, xs, v, rfl, rfl, N.cell 1 rfl, Nat.lt_of_lt_of_le hz (by decide), q _ (N.put 1 rfl trivial)⟩
end
theorem k_gsub {σ : L2.St} {to ti : TE} {t : TSet} {v : V} {Q : L2.St → Hp → Prop} (h : to σ H fun o H1 => ti σ H1 fun i H2 => t o i v H2 fun H3 => Q σ H3) : gSub to ti t v σ H Q := h
end
/-! ### o.f = .. among several targets -/
def gAttr (K : PySem.W.Frag) (ta : TE) (f : Str) : TG := fun v σ H Q => ta σ H fun x H2 => ∃ a C dx fs, x = .ref a ∧ H2 a = some (.ins C dx fs) ∧ Cls K C ∧ NoAttr K C f ∧ fs.length < 1000 ∧ Q σ (upd H2 a (.ins C dx (putF f v fs)))
theorem pg_attr {X : Cx} {o : Expr} {f : Str} {pos : Pos} {ta : TE} (ha : PE X o ta) : PG X (.Attribute o f pos) (gAttr X.K ta f) := by
  refine ⟨fun pins s σ H v u Q I r h => ?_⟩
  refine PySem.W.kas_attr (thn (ha.run pins s σ H _ I h) fun ov s2 ⟨x, H2, I2, rx, a, C, dx, fs, ex, ea, c, n, l, q2⟩ => ?_)
  subst ex
  obtain rfl : ov = Value.ref a := rx
  exact setattr_ok I2 ea c n l r fun s3 I3 => ⟨σ, _, I3, q2⟩

/-! ### sorted of a dict with int keys, any number of them -/
def rSortedDA : List V → Hp → VK → Prop := fun xs H Q => ∃ (a : Addr) (kvs : List (Key × V)) (ks : List Int), xs = [.ref a] ∧ Rd H a (.dK kvs) ∧ kvs.map (·.1) = ks.map Sum.inl ∧
    ∀ (ys : List Int) (p : Addr), ys.Perm ks → ys.Pairwise (· ≤ ·) → H p = none → Q (.ref p) (upd H p (.lst (ys.map V.int)))
theorem call_sortedDA {X : Cx} (hcalm : X.calm = true) : CallR X (.builtin "sorted") rSortedDA := by
  intro pins s σ H xs us Q I r q
  obtain ⟨a, kvs, ks, ex, hd, hks, q⟩ := q
  subst ex
  obtain ⟨u, eu, rx⟩ := vals1 r
  subst eu
  cases rx
  obtain ⟨z, lo, vs, rel, dd⟩ := dk_rd I.hok hd
  obtain ⟨ep, hat⟩ := dd.dictAt
  have hkeys : vs.map (·.1) = ks.map Sum.inl := rel.keys.symm.trans hks
  have hl : vs.length = ks.length := by
    have e := congrArg List.length hkeys
    rw [List.length_map, List.length_map] at e
    exact e
  have hl2 : kvs.length = ks.length := by
    have e := congrArg List.length hks
    rw [List.length_map, List.length_map] at e
    exact e
  have h16 : vs.length ≤ sizeLine := by rw [hl, ← hl2]; exact z
  refine Calls.call_function_entry PyProof.Rows.kind_sorted PyProof.Rows.plain_sorted PyProof.Rows.entry_sorted (PyProof.Rows.args_sorted1 _) ?_
  unfold Builtin.«sorted»
  refine wpAny_bind (m := checkCount "sorted" 1 1 _) (wpAny_pure ?_)
  refine wpAny_bind (PySem.W.kdu_collect (A := X.A.in1) (PySem.W.kdl_dict (knd := mixKind X.prog X.w) (kvs := vs) (ep := ep) lo) (I.ok.hd hcalm) hat h16 fun h' tk acc hk hacc => ?_)
  have hal : acc.toList.length = ks.length := by rw [Array.length_toList, hacc.1, hl]
  have hS : IntsAre acc.toList ks := ints_each hal fun j v e => by
    obtain ⟨k, x, e1, e2⟩ := hacc.2 j v (by rw [← Array.getElem?_toList]; exact e)
    have e3 : (vs.map (·.1))[j]? = some k := by rw [List.getElem?_map, e1]; rfl
    rw [hkeys, List.getElem?_map] at e3
    cases e4 : ks[j]? with
    | none => rw [e4] at e3; cases e3
    | some y =>
      rw [e4] at e3
      have e5 : Sum.inl y = k := Option.some.inj e3
      subst e5
      rcases keyIs_shape (show keyIs (Sum.inl y) v = true from e2) with ⟨i, t, ek, ev⟩ | ⟨z, t, ek, ev⟩
      · cases ek
        exact ⟨y, t, rfl, ev⟩
      · cases ek
  have I1 : Inv X pins σ H { s with heap := h', toks := tk } := I.kept hk
  have hz2 : acc.toList.length ≤ sizeLine := by rw [hal, ← hl]; exact h16
  refine wpAny_bind (wpAny_newList ?_ hz2)
  have hoL : (h'.push (seqObj "list" acc.toList.toArray 0)).get? h'.objs.size = some (seqObj "list" acc.toList.toArray 0) := Heap.get?_push_size _ rfl
  show wpAny _ _ _ _ _ { s with heap := h'.push (seqObj "list" acc.toList.toArray 0), toks := tk }
  refine wpAny_bind (wpAny_holding (wpAny_call_entry PyProof.Rows.slot_list_sort ⟨_, hoL, rfl⟩ PyProof.Rows.entry_list_sort
    (SrtO.list_sort_ord (s := { s with heap := h'.push (seqObj "list" acc.toList.toArray 0), toks := tk }) SrtO.swo_int hoL hz2 (fun h2 => SrtO.ints_sortable hS h2) fun out h1 h2 => ⟨_, rfl, ?_⟩) (PyProof.Rows.args_list_sort _)))
  obtain ⟨k1, k2, k3⟩ := SrtO.ints_out hS h1 h2
  obtain ⟨e', he'⟩ := PyProof.Rows.sortedHeap_at (vs := acc.toList) (out := out.toArray) hoL
  have hlen : ((out.map SrtO.iv).map V.int).length ≤ sizeLine := by
    rw [List.length_map, k2.length_eq, ← hl]
    exact h16
  refine wpAny_pure ⟨_, rfl, .ref h'.objs.size, upd H h'.objs.size (.lst ((out.map SrtO.iv).map V.int)), I1.laid (t' := tk) (fun b u e => ?_) (Nat.le_refl _)
    (show ObjOk X.prog X.w _ _ _ (.lst ((out.map SrtO.iv).map V.int)) from ⟨hlen, out, e', vals_of_ints k1, he'⟩), rfl, q _ _ k2 k3 (I1.hok.fresh (Nat.le_refl _))⟩
  have hb : b < h'.objs.size := Heap.lt_size e
  rw [PyProof.Rows.sortedHeap_old (Nat.ne_of_lt hb) (by rw [size_push']; exact Nat.lt_succ_of_lt hb)]
  exact Heap.get?_push_of_some _ e

/-! ### a def of the text by name -/
def Bd (x qual : Str) (st : Stmt) (ps : List Str) : Prop := ∀ (kV doc pm : Value) (an : Option Addr) (cdv ct : Value) (us : List Value), us.length = ps.length → bindArgs (PySem.W.fnOf x qual (defArgs st) (defBody st) (defScope st) .none kV doc pm an cdv ct) ⟨us, []⟩ = pure (ps.zip us)
structure Def (K : PySem.W.Frag) (mg : Str → Option Value) (x : Str) (st : Stmt) : Prop where
  ex : ∃ (f : Addr) (fd : FuncData), FunD K x x (defArgs st) (defBody st) (defScope st) [] [] f fd ∧ mg x = some (.ref f)
structure DefM (K : PySem.W.Frag) (C : Addr) (m qual : Str) (st : Stmt) : Prop where
  ex : ∃ (f : Addr) (fd : FuncData), FunD K m qual (defArgs st) (defBody st) (defScope st) [] [] f fd ∧ Meth K C m f
structure DefC (K : PySem.W.Frag) (mg : Str → Option Value) (C : Addr) (x qual : Str) (st : Stmt) : Prop where
  ex : ∃ (f : Addr) (fd : FuncData), FunD K "__init__" qual (defArgs st) (defBody st) (defScope st) [] [] f fd ∧ Mk K C f ∧ mg x = some (.ref C)
section
variable {P : Program} {w : World} {K : PySem.W.Frag} {mg : Str → Option Value} {base : Heap} {CX : CXT} {x m qual : Str} {st : Stmt} {N ps : List Str} {k : Nat} {sp : Sp} {C : Addr}
theorem Def.ok (F : Def K mg x st) (S : FnScope N ps (defScope st)) (b : Bd x x st ps) (len : ∀ vs H Q E, sp vs H Q E → vs.length = ps.length)
    (hbody : ∀ (f : Addr) (cdv : Value) (A : Around) (outer : List Env) (s : Shared) (H : Hp) (vs : List V) (Q : VK) (E : XK), Room k (A.deeper (envOfC x (defScope st) s.heap.objs.size f cdv)) → sp vs H Q E →
      ∃ t, PSs (cxOf CX P w K mg base N x (defScope st) f cdv A outer s H E) (defBody st) t ∧ t { nx := fun _ H' => Q .non H', rt := Q } (start N vs) H) : Cal P w K mg base CX (k + 1) x ps sp := by
  obtain ⟨f, fd, F, hm⟩ := F.ex
  exact ⟨f, fd, F.ok S len (hbody f), F.bindsN b, F.kp, hm⟩
theorem DefM.ok (F : DefM K C m qual st) (S : FnScope N ps (defScope st)) (b : Bd m qual st ps) (len : ∀ vs H Q E, sp vs H Q E → vs.length = ps.length)
    (hbody : ∀ (f : Addr) (cdv : Value) (A : Around) (outer : List Env) (s : Shared) (H : Hp) (vs : List V) (Q : VK) (E : XK), Room k (A.deeper (envOfC qual (defScope st) s.heap.objs.size f cdv)) → sp vs H Q E →
      ∃ t, PSs (cxOf CX P w K mg base N qual (defScope st) f cdv A outer s H E) (defBody st) t ∧ t { nx := fun _ H' => Q .non H', rt := Q } (start N vs) H) : CalM P w K mg base CX C (k + 1) m ps sp := by
  obtain ⟨f, fd, F, hm⟩ := F.ex
  exact ⟨f, fd, F.ok S len (hbody f), F.bindsN b, hm⟩
theorem DefC.ok (F : DefC K mg C x qual st) (S : FnScope N ps (defScope st)) (b : Bd "__init__" qual st ps) (len : ∀ vs H Q E, sp vs H Q E → vs.length = ps.length)
    (hbody : ∀ (f : Addr) (cdv : Value) (A : Around) (outer : List Env) (s : Shared) (H : Hp) (vs : List V) (Q : VK) (E : XK), Room k (A.deeper (envOfC qual (defScope st) s.heap.objs.size f cdv)) → sp vs H Q E →
      ∃ t, PSs (cxOf CX P w K mg base N qual (defScope st) f cdv A outer s H E) (defBody st) t ∧ t { nx := fun _ H' => Q .non H', rt := Q } (start N vs) H) : CalC P w K mg base CX C (k + 1) x ps sp := by
  obtain ⟨f, fd, F, M, hm⟩ := F.ex
  exact ⟨f, fd, F.ok S len (hbody f), F.bindsN b, M, hm⟩
end
end Ak
namespace Ak
open PySem PySem.Spec PyProof.Rows L2
/-! ### data: what _law_like compares -/
section
variable {K : PySem.W.Frag} {H H' : Hp} {M : List Addr}
theorem Aft.sql (e : Aft [] H H') {a : Addr} {xs : List V} (h : SqL K H a xs) : SqL K H' a xs := by
  rcases h with (h | ⟨o, h⟩) | h
  · exact .inl (.inl (e.k _ _ h (by simp)))
  · exact .inl (.inr ⟨o, e.z _ _ _ h⟩)
  · exact .inr h
mutual
theorem dp_keep (e : Aft [] H H') : ∀ {d : PyData} {v : V}, Dp K H v d → Dp K H' v d
  | .none, _, h => by cases h; exact .non
  | .bool b, _, h => by cases h; exact .bl b
  | .int i, _, h => by cases h; exact .int i
  | .str x, _, h => by cases h; exact .str x
  | .list ds, _, h => by
    cases h with
    | lst h1 h2 => exact .lst (e.sql h1) (dpa_keep e h2)
  | .tuple ds, _, h => by
    cases h with
    | tup h1 h2 => exact .tup (e.sqt h1) (dpa_keep e h2)
theorem dpa_keep (e : Aft [] H H') : ∀ {ds : List PyData} {vs : List V}, DpAll K H vs ds → DpAll K H' vs ds
  | [], _, h => by cases h; exact .nil
  | d :: ds, _, h => by
    cases h with
    | cons h1 h2 => exact .cons (dp_keep e h1) (dpa_keep e h2)
end
theorem dpa_len : ∀ {ds : List PyData} {vs : List V}, DpAll K H vs ds → vs.length = ds.length
  | _, _, .nil => rfl
  | _, _, .cons _ t => congrArg (· + 1) (dpa_len t)
theorem dpa_at : ∀ {ds : List PyData} {vs : List V}, DpAll K H vs ds → ∀ (i : Nat) (h : i < ds.length), ∃ v, vs[i]? = some v ∧ Dp K H v ds[i]
  | _, _, .nil, i, h => absurd h (by simp)
  | _, _, .cons h1 _, 0, _ => ⟨_, rfl, h1⟩
  | _, _, .cons _ t, i + 1, h => by
    obtain ⟨v, h1, h2⟩ := dpa_at t i (by simpa using h)
    exact ⟨v, by simpa using h1, by simpa using h2⟩
theorem dpa_ints : ∀ ns : List Int, DpAll K H (ns.map V.int) (ns.map PyData.int)
  | [] => .nil
  | n :: ns => .cons (.int n) (dpa_ints ns)
/-- how deep, how long -/
def dOk : Nat → PyData → Prop
  | 0, .list _ => False
  | 0, .tuple _ => False
  | n + 1, .list ds => ds.length ≤ 100000 ∧ ∀ d ∈ ds, dOk n d
  | n + 1, .tuple ds => ds.length ≤ 100000 ∧ ∀ d ∈ ds, dOk n d
  | _, _ => True
/-- what isinstance asks -/
theorem sql_ty {a : Addr} {xs : List V} (h : SqL K H a xs) : TyX K H (.ref a) (.type "list") := by
  rcases h with (h | ⟨o, h⟩) | ⟨o, its, n, h1, h2, _⟩
  · exact .base (.lst h)
  · exact .base (.frz h)
  · exact .kList h1 h2
theorem sqt_ty {a : Addr} {xs : List V} (h : SqT K H a xs) : TyX K H (.ref a) (.type "tuple") := by
  rcases h with (h | ⟨o, h⟩) | ⟨o, its, n, h1, h2, _⟩
  · exact .base (.tup h)
  · exact .fTuple h
  · exact .kTuple h1 h2
theorem tyx_non : TyX K H .non (.type "NoneType") := .base .non
theorem tyx_bl {b : Bool} : TyX K H (.bl b) (.type "bool") := .base (.bl b)
theorem tyx_int {b : Int} : TyX K H (.int b) (.type "int") := .base (.int b)
theorem tyx_str {b : Str} : TyX K H (.str b) (.type "str") := .base (.str b)
theorem g_isi {x : V} {a b : String} {r : Bool} {Q : VK} (ht : TyX K H x (.type a)) (hk : kitB a b = some r) (q : Q (.bl r) H) : rIsi K [x, .ty b] H Q := ⟨x, .ty b, .type a, .type b, r, rfl, .ty b, ht, kit_ty hk, q⟩
theorem g_ixQ {p : Addr} {xs : List V} {i : Int} {v : V} {Q : VK} (h : SqL K H p xs ∨ SqT K H p xs) (ha : atI xs i = some v) (q : Q v H) : rIx K (.ref p) (.int i) H Q := by
  rcases h with h | h
  · exact .inl ⟨p, xs, i, v, rfl, rfl, h, ha, q⟩
  · exact .inr (.inl ⟨p, xs, i, v, rfl, rfl, h, ha, q⟩)
/-- the promise, by depth -/
def spLike (K : PySem.W.Frag) : Nat → Sp
  | 0 => fun _ _ _ _ => False
  | n + 1 => fun vs H Q _ => ∃ (x y : V) (d : PyData), vs = [x, y] ∧ Dp K H x d ∧ Dp K H y d ∧ dOk n d ∧ ∀ H', Aft [] H H' → Q (.bl true) H'
theorem kb_bb : kitB "bool" "bool" = some true := by decide +kernel
theorem kb_ib : kitB "int" "bool" = some false := by decide +kernel
theorem kb_sb : kitB "str" "bool" = some false := by decide +kernel
theorem kb_nb : kitB "NoneType" "bool" = some false := by decide +kernel
theorem kb_lb : kitB "list" "bool" = some false := by decide +kernel
theorem kb_tb : kitB "tuple" "bool" = some false := by decide +kernel
theorem kb_is : kitB "int" "str" = some false := by decide +kernel
theorem kb_ss : kitB "str" "str" = some true := by decide +kernel
theorem kb_ns : kitB "NoneType" "str" = some false := by decide +kernel
theorem kb_ls : kitB "list" "str" = some false := by decide +kernel
theorem kb_ts : kitB "tuple" "str" = some false := by decide +kernel
theorem kb_ii : kitB "int" "int" = some true := by decide +kernel
theorem kb_ni : kitB "NoneType" "int" = some false := by decide +kernel
theorem kb_li : kitB "list" "int" = some false := by decide +kernel
theorem kb_ti : kitB "tuple" "int" = some false := by decide +kernel
theorem kb_ld : kitB "list" "dict" = some false := by decide +kernel
theorem kb_td : kitB "tuple" "dict" = some false := by decide +kernel
theorem kb_lt : kitB "list" "tuple" = some false := by decide +kernel
theorem kb_tt : kitB "tuple" "tuple" = some true := by decide +kernel
theorem kb_ll : kitB "list" "list" = some true := by decide +kernel
theorem kb_tl : kitB "tuple" "list" = some false := by decide +kernel
theorem kb_il : kitB "int" "list" = some false := by decide +kernel
end
/-! ### the rules with their written part told -/
section
variable {X : Cx} {e o : Expr} {es : List Expr} {te to tl ta tv : TE} {t : TA} {f : Str} {pos apos cpos pos' : Pos} {name : Str} {T id : String} {r : V → List V → Hp → VK → Prop} {value : Expr} {tg : Expr} {l : Expr}
theorem ix_listK (K : PySem.W.Frag) (h : X.K = K) : IxR X (rIxL K) := h ▸ ix_list
theorem ix_tupK (K : PySem.W.Frag) (h : X.K = K) : IxR X (rIxT K) := h ▸ ix_tup
theorem ix_seqK (K : PySem.W.Frag) (h : X.K = K) : IxR X (rIx K) := h ▸ ix_seq
theorem op_in_seqK (K : PySem.W.Frag) (h : X.K = K) : OpR X (compareOp .In) (rIn K false) := h ▸ op_in_seq
theorem op_notIn_seqK (K : PySem.W.Frag) (h : X.K = K) : OpR X (compareOp .NotIn) (rIn K true) := h ▸ op_notIn_seq
theorem cr_lnK (K : PySem.W.Frag) (h : X.K = K) : CallR X (.builtin "len") (rLn K) := h ▸ cr_ln
theorem call_isiQ (K : PySem.W.Frag) (h : X.K = K) : CallR X (.builtin "isinstance") (rIsi K) := h ▸ call_isi
theorem sl_listK (K : PySem.W.Frag) (h : X.K = K) : SlR X (rSlL K) := h ▸ sl_list
theorem op_eqDK (K : PySem.W.Frag) (h : X.K = K) (hu : X.A.units + 64 < cLine) : OpR X (compareOp .Eq) (rEqD K) := h ▸ op_eqD hu
theorem op_neDK (K : PySem.W.Frag) (h : X.K = K) (hu : X.A.units + 64 < cLine) : OpR X (compareOp .NotEq) (rNeD K) := h ▸ op_neD hu
theorem pe_fldK (K : PySem.W.Frag) (h : X.K = K) (he : PE X e te) (hb : attributeBase e f X.env (eval e X.env) = eval e X.env) : PE X (.Attribute e f pos) (tFld K te f) := h ▸ pe_fld he hb
theorem pe_bm0K (K : PySem.W.Frag) (h : X.K = K) (pa : PlainAttrs T) (slot : Slot T name id) (hty : typeOf (.builtin id) = pure (.type "method_descriptor")) (hm : MtR X id r) (ho : PE X o to)
    (hbase : attributeBase o name X.env (eval o X.env) = eval o X.env := by rfl) (hline : (apos.endLine == cpos.line) = true := by rfl) : PE X (.Call (.Attribute o name apos) [] [] cpos) (tBM0 K T r to) := h ▸ pe_bm0 pa slot hty hm ho hbase hline
theorem pe_bmK (K : PySem.W.Frag) (h : X.K = K) (pa : PlainAttrs T) (slot : Slot T name id) (hty : typeOf (.builtin id) = pure (.type "method_descriptor")) (hm : MtR X id r) (ho : PE X o to) (ha : PA X (e :: es) t)
    (hbase : attributeBase o name X.env (eval o X.env) = eval o X.env := by rfl)
    (hfew : ((backTo cpos (starEach (e :: es) X.env)).all (fun x => !x.1) && (backToKw cpos (keywordEach [] X.env)).all (fun x => x.1.isSome)
      && decide ((e :: es).length + ([] : List Keyword).length + (if ([] : List Keyword).isEmpty then 0 else 1) < 30)) = true := by rfl)
    (hline : (apos.endLine == cpos.line) = true := by rfl) (hs : starEach (e :: es) X.env = (false, eval e X.env) :: starEach es X.env := by rfl) (hplain : (backTo cpos (starEach es X.env)).any (·.1) = false := by rfl) :
    PE X (.Call (.Attribute o name apos) (e :: es) [] cpos) (tBM K T r to t) := h ▸ pe_bm pa slot hty hm ho ha hbase hfew hline hs hplain
theorem ps_fldK (K : PySem.W.Frag) (h : X.K = K) (ha : PE X o ta) (hv : PE X value tv) (hs : swapsWith value (some (.Attribute o f pos')) pos.line X.env = pure false) : PS X (.Assign [.Attribute o f pos'] value pos) (sFld K ta tv f) := h ▸ ps_fld ha hv hs
theorem pi_listK (K : PySem.W.Frag) (h : X.K = K) (hl : PE X l tl) : PI X tg l (iList K tl) := h ▸ pi_list hl
theorem pi_tupK (K : PySem.W.Frag) (h : X.K = K) (hl : PE X l tl) : PI X tg l (iTup K tl) := h ▸ pi_tup hl
theorem cr_sortedIK (K : PySem.W.Frag) (h : X.K = K) : CallR X (.builtin "sorted") (rSortedI K) := h ▸ cr_sortedI
end
/-- a def that is never called keeps what it likes -/
theorem cal_never {P : Program} {w : World} {K : PySem.W.Frag} {mg : Str → Option Value} {base : Heap} {CX : CXT} {x : Str} {st : Stmt} {ps : List Str} (F : Def K mg x st) (b : Bd x x st ps) : Cal P w K mg base CX 1 x ps (fun _ _ _ _ => False) := by
  obtain ⟨f, fd, F, hm⟩ := F.ex
  exact ⟨f, fd, ⟨fun _ _ _ _ h => h.elim, fun _ _ _ _ _ _ _ _ _ _ _ _ _ h => h.elim⟩, F.bindsN b, F.kp, hm⟩
theorem Cal.mono {P : Program} {w : World} {K : PySem.W.Frag} {mg : Str → Option Value} {base : Heap} {CX : CXT} {x : Str} {ps : List Str} {j k : Nat} {sp : Sp} (c : Cal P w K mg base CX j x ps sp) (h : j ≤ k) : Cal P w K mg base CX k x ps sp := by
  obtain ⟨f, fd, F, r⟩ := c.ex
  exact ⟨f, fd, F.mono h, r⟩
end Ak
namespace Ak
open PySem PySem.Spec PyProof.Rows L2
section
variable {K : PySem.W.Frag} {D : Option Addr} {M M' : List Addr} {H0 H H' : Hp} {l l' r fp fp' : List Cel} {ts ts' : List (Addr × List V)} {p q a d : Addr} {o u : HO} {xs : List V} {c : Cel} {w : Bool}
/-- an object that H does not know may change as it likes -/
theorem Aft.own (a : Aft M H H') (hp : H p = none) : Aft M H (upd H' p o) :=
  ⟨fun b v e hm => by rw [upd_ne (ne_of_none e hp)]; exact a.k b v e hm, fun b xs e => by rw [upd_ne (ne_of_none e hp)]; exact a.t b xs e, fun b v w e => by rw [upd_ne (ne_of_none e hp)]; exact a.z b v w e⟩
/-- something new that is no cell -/
theorem Now.alloc (N : Now K D M H0 H l ts) (hp : H p = none) : Now K D M H0 (upd H p o) l ts := N.pure (Aft.refl.new hp)
/-- a call, l = fp ++ r: fp becomes fp' -/
structure Aftr (fp fp' : List Cel) (H H' : Hp) : Prop where
  af : Aft (fp.map Cel.a) H H'
  nd : (fp'.map Cel.a).Nodup
  at_ : ∀ c ∈ fp', H' c.a = some c.o ∧ Mut (some c.o)
  nw : ∀ c ∈ fp', c.w = true ∧ (c.a ∈ fp.map Cel.a ∨ H c.a = none)
theorem Now.done (N : Now K D (fp.map Cel.a) H H' fp' ts) (hw : ∀ c ∈ fp', c.w = true) : Aftr fp fp' H H' :=
  ⟨N.af, N.nd, fun c hc => ⟨N.at_ c hc, N.mu c hc⟩, fun c hc => ⟨hw c hc, N.ow c hc (hw c hc)⟩⟩
theorem Now.call (N : Now K D M H0 H (fp ++ r) ts) (hw : ∀ c ∈ fp, c.w = true) (A : Aftr fp fp' H H') : Now K D M H0 H' (fp' ++ r) ts := by
  have nd := N.nd
  rw [List.map_append, List.nodup_append] at nd
  obtain ⟨nd1, nd2, dis⟩ := nd
  have mr : ∀ c ∈ r, c.a ∉ fp.map Cel.a := fun c hc m => dis _ m _ (List.mem_map.mpr ⟨c, hc, rfl⟩) rfl
  have fpw : ∀ a ∈ fp.map Cel.a, a ∈ M ∨ H0 a = none := fun a m => by
    obtain ⟨c, hc, rfl⟩ := List.mem_map.mp m
    exact N.ow c (List.mem_append_left _ hc) (hw c hc)
  refine ⟨?_, fun c hc => ?_, fun c hc => ?_, fun c hc hcw => ?_, fun q hq => A.af.t _ _ (N.tp q hq), N.af.call A.af fpw, fun d e => ?_⟩
  · rw [List.map_append, List.nodup_append]
    refine ⟨A.nd, nd2, fun a m b m' => ?_⟩
    rintro rfl
    obtain ⟨c, hc, rfl⟩ := List.mem_map.mp m
    obtain ⟨c', hc', e⟩ := List.mem_map.mp m'
    rcases (A.nw c hc).2 with z | z
    · exact mr c' hc' (e ▸ z)
    · have y := N.at_ c' (List.mem_append_right _ hc')
      rw [e, z] at y; cases y
  · rcases List.mem_append.mp hc with hc | hc
    · exact (A.at_ c hc).1
    · exact A.af.k _ _ (N.at_ c (List.mem_append_right _ hc)) (mr c hc)
  · rcases List.mem_append.mp hc with hc | hc
    · exact (A.at_ c hc).2
    · exact N.mu c (List.mem_append_right _ hc)
  · rcases List.mem_append.mp hc with hc | hc
    · rcases (A.nw c hc).2 with z | z
      · exact fpw _ z
      · by_cases m : c.a ∈ M
        · exact .inl m
        · exact .inr (N.af.free m z)
    · exact N.ow c (List.mem_append_right _ hc) hcw
  · obtain ⟨h1, h2, h3⟩ := N.dc d e
    rw [List.map_append, List.mem_append, not_or] at h3
    refine ⟨h1.keep A.af h3.1, h2, ?_⟩
    rw [List.map_append, List.mem_append, not_or]
    refine ⟨fun m => ?_, h3.2⟩
    obtain ⟨c, hc, e⟩ := List.mem_map.mp m
    rcases (A.nw c hc).2 with z | z
    · exact h3.1 (e ▸ z)
    · obtain ⟨ys, hy⟩ := h1.lst
      rw [e, hy] at z; cases z
/-- a call whose footprint is the front, written l = fp ++ r -/
theorem Now.perm (N : Now K D M H0 H l ts) (h : l'.Perm l) : Now K D M H0 H l' ts := N.sub l' (fun c hc => h.mem_iff.mp hc) ((h.map Cel.a).nodup_iff.mpr N.nd)
/-- some of the cells, by their places -/
theorem Now.sel (N : Now K D M H0 H l ts) (is : List Nat) (h : is.map (fun i => l[i]?) = l'.map some) (hn : is.Nodup) : Now K D M H0 H l' ts := by
  have at_ : ∀ (j : Nat) (c : Cel), l'[j]? = some c → ∃ i, is[j]? = some i ∧ l[i]? = some c := fun j c e => by
    have e1 : (l'.map some)[j]? = some (some c) := by rw [List.getElem?_map, e]; rfl
    rw [← h, List.getElem?_map] at e1
    cases e2 : is[j]? with
    | none => rw [e2] at e1; cases e1
    | some i => rw [e2] at e1; exact ⟨i, rfl, Option.some.inj e1⟩
  refine N.sub l' (fun c hc => ?_) ?_
  · obtain ⟨j, hj⟩ := List.getElem?_of_mem hc
    obtain ⟨i, _, e⟩ := at_ j c hj
    exact List.mem_of_getElem? e
  · refine List.pairwise_iff_getElem.mpr fun i j hi hj hij e => ?_
    have hi' : i < l'.length := by simpa using hi
    have hj' : j < l'.length := by simpa using hj
    rw [List.getElem_map, List.getElem_map] at e
    obtain ⟨a, ha, ea⟩ := at_ i _ (List.getElem?_eq_getElem hi')
    obtain ⟨b, hb, eb⟩ := at_ j _ (List.getElem?_eq_getElem hj')
    have q := nodup_at N.nd ea eb e
    subst q
    exact absurd (nd_ix hn ha hb) (by omega)
/-- a new cell that a call laid -/
theorem Now.grow (N : Now K D M H0 H l ts) (N' : Now K D M H0 H' l' ts') (hl : ∀ a ∈ l'.map Cel.a, a ∈ l.map Cel.a ∨ a ≠ q) (hq : H q = none) (h : H' q = some o) (hm : Mut (some o)) : Now K D M H0 H' (⟨true, q, o⟩ :: l') ts' where
  nd := List.nodup_cons.mpr ⟨fun m => (hl q m).elim (N.free hq) (fun z => z rfl), N'.nd⟩
  at_ := fun c hc => by
    rcases List.mem_cons.mp hc with e | hc
    · subst e; exact h
    · exact N'.at_ c hc
  mu := fun c hc => by
    rcases List.mem_cons.mp hc with e | hc
    · subst e; exact hm
    · exact N'.mu c hc
  ow := fun c hc hw => by
    rcases List.mem_cons.mp hc with e | hc
    · subst e
      by_cases z : q ∈ M
      · exact .inl z
      · exact .inr (N.af.free z hq)
    · exact N'.ow c hc hw
  tp := N'.tp
  af := N'.af
  dc := fun d e => by
    obtain ⟨h1, h2, h3⟩ := N'.dc d e
    refine ⟨h1, h2, ?_⟩
    intro m
    rcases List.mem_cons.mp m with z | z
    · obtain ⟨g1, _, _⟩ := N.dc d e
      obtain ⟨ys, hy⟩ := g1.lst
      rw [z, hq] at hy; cases hy
    · exact h3 z
/-- the start of a method -/
theorem Now.begin (hc : (fp.map Cel.a).Nodup ∧ ∀ c ∈ fp, H c.a = some c.o ∧ Mut (some c.o)) (tp : ∀ p ∈ ts, H p.1 = some (.tup p.2)) : Now K none (fp.map Cel.a) H H fp ts :=
  .start hc.1 (fun c h => ⟨(hc.2 c h).1, (hc.2 c h).2, fun _ => List.mem_map.mpr ⟨c, h, rfl⟩⟩) tp (by simp)
theorem Now.front (N : Now K D M H0 H (fp ++ r) ts) : (fp.map Cel.a).Nodup ∧ ∀ c ∈ fp, H c.a = some c.o ∧ Mut (some c.o) := by
  have nd := N.nd
  rw [List.map_append, List.nodup_append] at nd
  exact ⟨nd.1, fun c h => ⟨N.at_ c (List.mem_append_left _ h), N.mu c (List.mem_append_left _ h)⟩⟩
end
/-! ### fields, methods, made instances -/
section
variable {r' : R2} {tc : TE} {σ : L2.St} {y : V} {Q : VK} {H : Hp} {p : Prop} [Decidable p]
theorem c_chD (hp : p) (h : tc σ H fun w' H4 => r' y w' H4 Q) : cCh r' tc σ y Q (.bl (decide p)) H := c_ch (fun _ => h) fun e => absurd hp (of_decide_eq_false e)
theorem c_chN (hp : ¬ p) (h : Q (.bl false) H) : cCh r' tc σ y Q (.bl (decide p)) H := c_ch (fun e => absurd (of_decide_eq_true e) hp) fun _ => h
end
section
variable {K : PySem.W.Frag} {D : Option Addr} {M M' : List Addr} {H0 H H' : Hp} {l : List Cel} {ts : List (Addr × List V)} {p a C dx : Addr} {o u : HO} {c0 c1 c2 c3 : Cel} {σ : L2.St} {ta tv te : TE} {t : TA} {f m : Str} {fs fs' : List (Str × V)} {v y : V} {Q : VK} {sp : Sp} {dvs : List V} {E : XK} {nx bk ct : L2.St → Hp → Prop} {rt : VK} {w : Bool}
def cFld (K : PySem.W.Frag) (f : Str) (Q : VK) : VK := fun x H1 => ∃ a C dx fs v, x = .ref a ∧ H1 a = some (.ins C dx fs) ∧ Cls K C ∧ NoAttr K C f ∧ fs.lookup f = some v ∧ Q v H1
theorem k_fld (h : ta σ H (cFld K f Q)) : tFld K ta f σ H Q := h
theorem g_fld (h : H a = some (.ins C dx fs)) (cl : Cls K C) (na : NoAttr K C f) (hl : fs.lookup f = some v) (q : Q v H) : cFld K f Q (.ref a) H := ⟨a, C, dx, fs, v, rfl, h, cl, na, hl, q⟩
def cSF (K : PySem.W.Frag) (f : Str) (y : V) (nx : L2.St → Hp → Prop) (σ : L2.St) : VK := fun x H2 => ∃ a C dx fs, x = .ref a ∧ H2 a = some (.ins C dx fs) ∧ Cls K C ∧ NoAttr K C f ∧ fs.length < 1000 ∧ nx σ (upd H2 a (.ins C dx (putF f y fs)))
theorem k_sfld (h : tv σ H fun y H1 => ta σ H1 (cSF K f y nx σ)) : sFld K ta tv f ⟨nx, rt, bk, ct⟩ σ H := h
theorem g_sf0 (N : Now K D M H0 H (⟨true, p, .ins C dx fs⟩ :: l) ts) (cl : Cls K C) (na : NoAttr K C f) (hl : fs.length < 1000) (he : putF f y fs = fs') (q : ∀ H', Now K D M H0 H' (⟨true, p, .ins C dx fs'⟩ :: l) ts → nx σ H') : cSF K f y nx σ (.ref p) H :=
  ⟨p, C, dx, fs, rfl, N.cell 0 rfl, cl, na, hl, by rw [he]; exact q _ (N.put 0 rfl trivial)⟩
theorem g_sf1 (N : Now K D M H0 H (c0 :: ⟨true, p, .ins C dx fs⟩ :: l) ts) (cl : Cls K C) (na : NoAttr K C f) (hl : fs.length < 1000) (he : putF f y fs = fs') (q : ∀ H', Now K D M H0 H' (c0 :: ⟨true, p, .ins C dx fs'⟩ :: l) ts → nx σ H') : cSF K f y nx σ (.ref p) H :=
  ⟨p, C, dx, fs, rfl, N.cell 1 rfl, cl, na, hl, by rw [he]; exact q _ (N.put 1 rfl trivial)⟩
theorem g_sf2 (N : Now K D M H0 H (c0 :: c1 :: ⟨true, p, .ins C dx fs⟩ :: l) ts) (cl : Cls K C) (na : NoAttr K C f) (hl : fs.length < 1000) (he : putF f y fs = fs') (q : ∀ H', Now K D M H0 H' (c0 :: c1 :: ⟨true, p, .ins C dx fs'⟩ :: l) ts → nx σ H') : cSF K f y nx σ (.ref p) H :=
  ⟨p, C, dx, fs, rfl, N.cell 2 rfl, cl, na, hl, by rw [he]; exact q _ (N.put 2 rfl trivial)⟩
def cMeth (C : Addr) (m : Str) (sp : Sp) (dvs : List V) (E : XK) (t : TA) (σ : L2.St) (Q : VK) : VK := fun x H1 => ∃ a dx fs, x = .ref a ∧ H1 a = some (.ins C dx fs) ∧ fs.lookup m = none ∧ t σ H1 fun vs H2 => sp (x :: (vs ++ dvs)) H2 Q E
theorem k_meth (h : ta σ H (cMeth C m sp dvs E t σ Q)) : tMeth C m sp dvs E ta t σ H Q := h
theorem g_meth (h : H a = some (.ins C dx fs)) (hl : fs.lookup m = none) (q : t σ H fun vs H2 => sp (.ref a :: (vs ++ dvs)) H2 Q E) : cMeth C m sp dvs E t σ Q (.ref a) H := ⟨a, dx, fs, rfl, h, hl, q⟩
def cMake (C : Addr) (sp : Sp) (dvs : List V) (E : XK) (Q : VK) : List V → Hp → Prop := fun vs H1 => ∀ x dx, H1 x = none → H1 dx = none → dx ≠ x → sp (.ref x :: (vs ++ dvs)) (upd (upd H1 dx (.own x)) x (.ins C dx [])) (fun v H2 => v = .non ∧ Q (.ref x) H2) E
theorem k_make (h : t σ H (cMake C sp dvs E Q)) : tMake C sp dvs E t σ H Q := h
theorem g_make {vs : List V} (N : Now K D M H0 H l ts) (q : ∀ x dx H', H x = none → Now K D M H0 H' (⟨true, x, .ins C dx []⟩ :: l) ts → sp (.ref x :: (vs ++ dvs)) H' (fun v H2 => v = .non ∧ Q (.ref x) H2) E) : cMake C sp dvs E Q vs H := fun x dx hx hd ne =>
  q x dx _ hx ((N.alloc (o := .own x) hd).newC (by rw [upd_ne ne.symm]; exact hx) trivial)
end
/-! ### dicts -/
section
variable {K : PySem.W.Frag} {D : Option Addr} {M M' : List Addr} {H0 H H' : Hp} {l : List Cel} {ts : List (Addr × List V)} {p a : Addr} {kvs kvs' : List (Key × V)} {c0 c1 c2 : Cel} {σ : L2.St} {td ty tv te : TE} {v y : V} {Q : VK} {nx bk ct : L2.St → Hp → Prop} {rt : VK} {n : Int} {z : Str} {ro : Option V}
def cDGet (x : V) (Q : VK) : VK := fun y H2 => ∃ a v, x = .ref a ∧ DGet H2 a y (some v) ∧ Q v H2
theorem k_dget (h : td σ H fun x H1 => ty σ H1 (cDGet x Q)) : tDGet td ty σ H Q := h
theorem g_dgetI (h : H a = some (.dK kvs)) (hv : valV kvs (Sum.inl n) = some v) (q : Q v H) : cDGet (.ref a) Q (.int n) H := ⟨a, v, rfl, by rw [← hv]; exact DGet.k (k := Sum.inl n) h, q⟩
def lkS (z : Str) : List (Key × V) → Option V
  | [] => none
  | (Sum.inr y, v) :: r => if y = z then some v else lkS z r
  | (Sum.inl _, _) :: r => lkS z r
theorem valV_lk (z : Str) : ∀ kvs : List (Key × V), valV kvs (Sum.inr z) = lkS z kvs
  | [] => rfl
  | (Sum.inr y, v) :: r => by
    show _ = if y = z then some v else lkS z r
    by_cases e : y = z
    · subst e
      rw [if_pos rfl, valV_pos rfl]
    · rw [if_neg e, valV_neg (by simpa using e), valV_lk z r]
  | (Sum.inl i, v) :: r => by
    show _ = lkS z r
    rw [valV_neg (by simp), valV_lk z r]
theorem g_dgetS (h : H a = some (.dK kvs)) (hv : lkS z kvs = some v) (q : Q v H) : cDGet (.ref a) Q (.str z) H := ⟨a, v, rfl, by rw [← hv, ← valV_lk]; exact DGet.k (k := Sum.inr z) h, q⟩
def cDIn (y : V) (Q : VK) : VK := fun x H2 => ∃ a o, x = .ref a ∧ DGet H2 a y o ∧ Q (.bl o.isSome) H2
def cDNin (y : V) (Q : VK) : VK := fun x H2 => ∃ a o, x = .ref a ∧ DGet H2 a y o ∧ Q (.bl (!o.isSome)) H2
theorem k_din (h : ty σ H fun y H1 => td σ H1 (cDIn y Q)) : tDIn ty td σ H Q := h
theorem k_dnin (h : ty σ H fun y H1 => td σ H1 (cDNin y Q)) : tDNotIn ty td σ H Q := h
theorem g_dinI (h : H a = some (.dK kvs)) (q : Q (.bl (valV kvs (Sum.inl n)).isSome) H) : cDIn (.int n) Q (.ref a) H := ⟨a, _, rfl, DGet.k (k := Sum.inl n) h, q⟩
theorem g_dninI (h : H a = some (.dK kvs)) (q : Q (.bl (!(valV kvs (Sum.inl n)).isSome)) H) : cDNin (.int n) Q (.ref a) H := ⟨a, _, rfl, DGet.k (k := Sum.inl n) h, q⟩
def cDPut (v x : V) (nx : L2.St → Hp → Prop) (σ : L2.St) : VK := fun y H3 => ∃ a H4, x = .ref a ∧ DPut H3 a y v H4 ∧ nx σ H4
theorem k_dput (h : tv σ H fun v H1 => td σ H1 fun x H2 => ty σ H2 (cDPut v x nx σ)) : sDPut td ty tv ⟨nx, rt, bk, ct⟩ σ H := h
theorem g_dputI0 (N : Now K D M H0 H (⟨true, p, .dK kvs⟩ :: l) ts) (hl : kvs.length < 100000) (q : ∀ H', Now K D M H0 H' (⟨true, p, .dK (putK kvs (Sum.inl n) v)⟩ :: l) ts → nx σ H') : cDPut v (.ref p) nx σ (.int n) H :=
  ⟨p, _, rfl, DPut.k (k := Sum.inl n) (N.cell 0 rfl) (Nat.lt_of_lt_of_le hl (by decide)), q _ (N.put 0 rfl trivial)⟩
theorem g_dputI1 (N : Now K D M H0 H (c0 :: ⟨true, p, .dK kvs⟩ :: l) ts) (hl : kvs.length < 100000) (q : ∀ H', Now K D M H0 H' (c0 :: ⟨true, p, .dK (putK kvs (Sum.inl n) v)⟩ :: l) ts → nx σ H') : cDPut v (.ref p) nx σ (.int n) H :=
  ⟨p, _, rfl, DPut.k (k := Sum.inl n) (N.cell 1 rfl) (Nat.lt_of_lt_of_le hl (by decide)), q _ (N.put 1 rfl trivial)⟩
theorem g_dputI2 (N : Now K D M H0 H (c0 :: c1 :: ⟨true, p, .dK kvs⟩ :: l) ts) (hl : kvs.length < 100000) (q : ∀ H', Now K D M H0 H' (c0 :: c1 :: ⟨true, p, .dK (putK kvs (Sum.inl n) v)⟩ :: l) ts → nx σ H') : cDPut v (.ref p) nx σ (.int n) H :=
  ⟨p, _, rfl, DPut.k (k := Sum.inl n) (N.cell 2 rfl) (Nat.lt_of_lt_of_le hl (by decide)), q _ (N.put 2 rfl trivial)⟩
theorem g_dputS0 (N : Now K D M H0 H (⟨true, p, .dK kvs⟩ :: l) ts) (hl : kvs.length < 100000) (he : putK kvs (Sum.inr z) v = kvs') (q : ∀ H', Now K D M H0 H' (⟨true, p, .dK kvs'⟩ :: l) ts → nx σ H') : cDPut v (.ref p) nx σ (.str z) H :=
  ⟨p, _, rfl, DPut.k (k := Sum.inr z) (N.cell 0 rfl) (Nat.lt_of_lt_of_le hl (by decide)), by rw [he]; exact q _ (N.put 0 rfl trivial)⟩
theorem g_dputS1 (N : Now K D M H0 H (c0 :: ⟨true, p, .dK kvs⟩ :: l) ts) (hl : kvs.length < 100000) (he : putK kvs (Sum.inr z) v = kvs') (q : ∀ H', Now K D M H0 H' (c0 :: ⟨true, p, .dK kvs'⟩ :: l) ts → nx σ H') : cDPut v (.ref p) nx σ (.str z) H :=
  ⟨p, _, rfl, DPut.k (k := Sum.inr z) (N.cell 1 rfl) (Nat.lt_of_lt_of_le hl (by decide)), by rw [he]; exact q _ (N.put 1 rfl trivial)⟩
theorem g_dputS2 (N : Now K D M H0 H (c0 :: c1 :: ⟨true, p, .dK kvs⟩ :: l) ts) (hl : kvs.length < 100000) (he : putK kvs (Sum.inr z) v = kvs') (q : ∀ H', Now K D M H0 H' (c0 :: c1 :: ⟨true, p, .dK kvs'⟩ :: l) ts → nx σ H') : cDPut v (.ref p) nx σ (.str z) H :=
  ⟨p, _, rfl, DPut.k (k := Sum.inr z) (N.cell 2 rfl) (Nat.lt_of_lt_of_le hl (by decide)), by rw [he]; exact q _ (N.put 2 rfl trivial)⟩
theorem k_dnew {Q : VK} (N : Now K D M H0 H l ts) (q : ∀ p H', Now K D M H0 H' (⟨true, p, .dK []⟩ :: l) ts → Q (.ref p) H') : tDNewK σ H Q := fun p hp => q p _ (N.newC hp trivial)
/-- pop of a key that is there -/
def cDPop (σ : L2.St) (ty : TE) (Q : VK) : VK := fun x H1 => ∃ a, x = .ref a ∧ IsD H1 a ∧ ty σ H1 fun y H2 => ∃ kvs k v, H2 a = some (.dK kvs) ∧ y = kV k ∧ valV kvs k = some v ∧ Q v (upd H2 a (.dK (dropK kvs k)))
theorem k_dpop (h : td σ H (cDPop σ ty Q)) : tDPop1 td ty σ H Q := h
end
end Ak
namespace Ak
open PySem PySem.Spec PyProof.Rows L2
/-! ### comprehensions -/
section
variable {K : PySem.W.Frag} {D : Option Addr} {M : List Addr} {H0 H : Hp} {l : List Cel} {ts : List (Addr × List V)} {a p : Addr} {xs acc : List V} {σ : L2.St} {g : TG} {tt : TT} {te tl : TE} {tr : TA} {vs : List Nat} {Q : VK} {j : Nat} {y : V}
def cPut (Dd : Addr) (P : Hp → Prop) : VK := fun y H4 => ∃ acc, H4 Dd = some (.lst acc) ∧ acc.length < sizeLine ∧ P (upd H4 Dd (.lst (acc ++ [y])))
def cElt (te : TE) (σ : L2.St) (Dd : Addr) (P : Hp → Prop) : Bool → Hp → Prop := fun b H3 => if b = true then te σ H3 (cPut Dd P) else P H3
def LcW (J : It) (g : TG) (tt : TT) (te : TE) (vs : List Nat) (σ : L2.St) (Q : VK) (H1 : Hp) : Prop := ∀ D, H1 D = none → ∃ W : Nat → Nat → Hp → Prop, (∃ m, W 0 m (upd H1 D (.lst []))) ∧ ∀ i m H, W i m H →
  (J.stop i H ∧ Q (.ref D) H) ∨ (J.go i H ∧ ∃ Nx : Hp → Prop, (∀ H', Nx H' → ∃ m', m' < m ∧ W (i + 1) m' H') ∧ ∀ x H', J.yld i H x H' → g x (wipe σ vs) H' fun σ2 H2 => wipe σ2 vs = wipe σ vs ∧ tt σ2 H2 fun b H3 =>
    if b = true then te σ2 H3 fun y H4 => ∃ acc, H4 D = some (.lst acc) ∧ acc.length < sizeLine ∧ Nx (upd H4 D (.lst (acc ++ [y]))) else Nx H3)
def cLc (K : PySem.W.Frag) (g : TG) (tt : TT) (te : TE) (vs : List Nat) (σ : L2.St) (Q : VK) : VK := fun x H1 => ∃ a, x = .ref a ∧ (∃ xs, SqL K H1 a xs) ∧ LcW (Itl K a) g tt te vs σ Q H1
def cLcT (K : PySem.W.Frag) (g : TG) (tt : TT) (te : TE) (vs : List Nat) (σ : L2.St) (Q : VK) : VK := fun x H1 => ∃ a, x = .ref a ∧ (∃ xs, SqT K H1 a xs) ∧ LcW (Itt K a) g tt te vs σ Q H1
def cLcR (g : TG) (tt : TT) (te : TE) (vs : List Nat) (σ : L2.St) (Q : VK) : List V → Hp → Prop := fun us H1 => ∃ j : Int, us = [.int j] ∧ -(2 ^ 62) ≤ j ∧ j < 2 ^ 62 ∧ LcW (Itr 0 j.toNat) g tt te vs σ Q H1
def cLcR2 (g : TG) (tt : TT) (te : TE) (vs : List Nat) (σ : L2.St) (Q : VK) : List V → Hp → Prop := fun us H1 => ∃ i j : Int, us = [.int i, .int j] ∧ (-(2 ^ 62) ≤ i ∧ i < 2 ^ 62 ∧ -(2 ^ 62) ≤ j ∧ j < 2 ^ 62) ∧ LcW (Itr i (j - i).toNat) g tt te vs σ Q H1
theorem k_lc (h : tl σ H (cLc K g tt te vs σ Q)) : tLc (iList K tl) g tt te vs σ H Q := h
theorem k_lcT (h : tl σ H (cLcT K g tt te vs σ Q)) : tLc (iTup K tl) g tt te vs σ H Q := h
theorem k_lcR (h : tr σ H (cLcR g tt te vs σ Q)) : tLc (iRng1 tr) g tt te vs σ H Q := h
theorem k_lcR2 (h : tr σ H (cLcR2 g tt te vs σ Q)) : tLc (iRng2 tr) g tt te vs σ H Q := h
/-- what is made so far: R -/
def LcP (K : PySem.W.Frag) (D : Option Addr) (M : List Addr) (H0 : Hp) (l : List Cel) (ts : List (Addr × List V)) (R : Nat → List V → Prop) (Dd : Addr) (i : Nat) : Hp → Prop := fun H => ∃ acc, Now K D M H0 H (⟨true, Dd, .lst acc⟩ :: l) ts ∧ R i acc
theorem c_put {R : Nat → List V → Prop} {Dd : Addr} {i : Nat} (N : Now K D M H0 H (⟨true, Dd, .lst acc⟩ :: l) ts) (hz : acc.length < 100000) (h : R i (acc ++ [y])) : cPut Dd (LcP K D M H0 l ts R Dd i) y H :=
  ⟨acc, N.cell 0 rfl, Nat.lt_of_lt_of_le hz (by decide), _, N.put 0 rfl trivial, h⟩
theorem c_elT {Dd : Addr} {P : Hp → Prop} (h : te σ H (cPut Dd P)) : cElt te σ Dd P true H := h
theorem c_elF {R : Nat → List V → Prop} {Dd : Addr} {i : Nat} (N : Now K D M H0 H (⟨true, Dd, .lst acc⟩ :: l) ts) (h : R i acc) : cElt te σ Dd (LcP K D M H0 l ts R Dd i) false H := ⟨acc, N, h⟩
theorem c_el {Dd : Addr} {P : Hp → Prop} {b : Bool} (h1 : b = true → te σ H (cPut Dd P)) (h2 : b = false → P H) : cElt te σ Dd P b H := by
  cases b with
  | true => exact h1 rfl
  | false => exact h2 rfl
theorem k_yes {Q : Bool → Hp → Prop} (h : Q true H) : tYes σ H Q := h
theorem c_lc (N : Now K D M H0 H l ts) (xs : List V) (R : Nat → List V → Prop) (h0 : R 0 []) (hl : ∀ (H' : Hp) (Dd : Addr) (acc : List V), Now K D M H0 H' (⟨true, Dd, .lst acc⟩ :: l) ts → SqL K H' a xs)
    (hw : ∀ x, wipe ((wipe σ vs).set j (some x)) vs = wipe σ vs)
    (hs : ∀ i x (Dd : Addr) (H' : Hp) (acc : List V), xs[i]? = some x → Now K D M H0 H' (⟨true, Dd, .lst acc⟩ :: l) ts → R i acc → tt ((wipe σ vs).set j (some x)) H' (cElt te ((wipe σ vs).set j (some x)) Dd (LcP K D M H0 l ts R Dd (i + 1))))
    (hd : ∀ (p : Addr) (H' : Hp) (acc : List V), Now K D M H0 H' (⟨true, p, .lst acc⟩ :: l) ts → R xs.length acc → Q (.ref p) H') (hx : SqL K H a xs) : cLc K (gName j) tt te vs σ Q (.ref a) H := by
  refine ⟨a, rfl, ⟨xs, hx⟩, fun Dd hD => ?_⟩
  refine lc_list (K := K) (a := a) (xs := xs) (LcP K D M H0 l ts R Dd) ⟨[], N.newC hD trivial, h0⟩ (fun i H' _ ⟨acc, N', _⟩ => hl _ _ _ N') (fun i x H' hi ⟨acc, N', r⟩ => ?_) fun H' ⟨acc, N', r⟩ => hd _ _ _ N' r
  exact ⟨hw x, hs i x Dd H' acc hi N' r⟩
theorem c_lcT (N : Now K D M H0 H l ts) (xs : List V) (R : Nat → List V → Prop) (h0 : R 0 []) (hl : ∀ (H' : Hp) (l' : List Cel), Now K D M H0 H' l' ts → SqT K H' a xs)
    (hw : ∀ x, wipe ((wipe σ vs).set j (some x)) vs = wipe σ vs)
    (hs : ∀ i x (Dd : Addr) (H' : Hp) (acc : List V), xs[i]? = some x → Now K D M H0 H' (⟨true, Dd, .lst acc⟩ :: l) ts → R i acc → tt ((wipe σ vs).set j (some x)) H' (cElt te ((wipe σ vs).set j (some x)) Dd (LcP K D M H0 l ts R Dd (i + 1))))
    (hd : ∀ (p : Addr) (H' : Hp) (acc : List V), Now K D M H0 H' (⟨true, p, .lst acc⟩ :: l) ts → R xs.length acc → Q (.ref p) H') : cLcT K (gName j) tt te vs σ Q (.ref a) H := by
  refine ⟨a, rfl, ⟨xs, hl _ _ N⟩, fun Dd hD => ?_⟩
  refine lc_tup (K := K) (a := a) (xs := xs) (LcP K D M H0 l ts R Dd) ⟨[], N.newC hD trivial, h0⟩ (fun i H' _ ⟨acc, N', _⟩ => hl _ _ N') (fun i x H' hi ⟨acc, N', r⟩ => ?_) fun H' ⟨acc, N', r⟩ => hd _ _ _ N' r
  exact ⟨hw x, hs i x Dd H' acc hi N' r⟩
theorem c_lcR {n : Int} (N : Now K D M H0 H l ts) (hn : -100000 ≤ n ∧ n ≤ 100000) (R : Nat → List V → Prop) (h0 : R 0 [])
    (hw : ∀ x, wipe ((wipe σ vs).set j (some x)) vs = wipe σ vs)
    (hs : ∀ (i : Nat) (Dd : Addr) (H' : Hp) (acc : List V), (i : Int) < n → Now K D M H0 H' (⟨true, Dd, .lst acc⟩ :: l) ts → R i acc → tt ((wipe σ vs).set j (some (.int (i : Int)))) H' (cElt te ((wipe σ vs).set j (some (.int (i : Int)))) Dd (LcP K D M H0 l ts R Dd (i + 1))))
    (hd : ∀ (p : Addr) (H' : Hp) (acc : List V), Now K D M H0 H' (⟨true, p, .lst acc⟩ :: l) ts → R n.toNat acc → Q (.ref p) H') : cLcR (gName j) tt te vs σ Q [.int n] H := by
  refine ⟨n, rfl, by omega, by omega, fun Dd hD => ?_⟩
  refine lc_range (lo := 0) (n := n.toNat) (LcP K D M H0 l ts R Dd) ⟨[], N.newC hD trivial, h0⟩ (fun i H' hi ⟨acc, N', r⟩ => ?_) fun H' ⟨acc, N', r⟩ => hd _ _ _ N' r
  rw [show (0 : Int) + (i : Int) = (i : Int) from Int.zero_add _]
  exact ⟨hw _, hs i Dd H' acc (by omega) N' r⟩
theorem c_lcR2 {lo n : Int} (N : Now K D M H0 H l ts) (hn : -100000 ≤ n ∧ n ≤ 100000 ∧ -100000 ≤ lo ∧ lo ≤ 100000) (R : Nat → List V → Prop) (h0 : R 0 [])
    (hw : ∀ x, wipe ((wipe σ vs).set j (some x)) vs = wipe σ vs)
    (hs : ∀ (i : Nat) (Dd : Addr) (H' : Hp) (acc : List V), lo + (i : Int) < n → Now K D M H0 H' (⟨true, Dd, .lst acc⟩ :: l) ts → R i acc → tt ((wipe σ vs).set j (some (.int (lo + (i : Int))))) H' (cElt te ((wipe σ vs).set j (some (.int (lo + (i : Int))))) Dd (LcP K D M H0 l ts R Dd (i + 1))))
    (hd : ∀ (p : Addr) (H' : Hp) (acc : List V), Now K D M H0 H' (⟨true, p, .lst acc⟩ :: l) ts → R (n - lo).toNat acc → Q (.ref p) H') : cLcR2 (gName j) tt te vs σ Q [.int lo, .int n] H := by
  refine ⟨lo, n, rfl, by omega, fun Dd hD => ?_⟩
  refine lc_range (lo := lo) (n := (n - lo).toNat) (LcP K D M H0 l ts R Dd) ⟨[], N.newC hD trivial, h0⟩ (fun i H' hi ⟨acc, N', r⟩ => ?_) fun H' ⟨acc, N', r⟩ => hd _ _ _ N' r
  exact ⟨hw _, hs i Dd H' acc (by omega) N' r⟩
end
/-! ### methods of lists -/
section
variable {K : PySem.W.Frag} {D : Option Addr} {M : List Addr} {H0 H : Hp} {l : List Cel} {ts : List (Addr × List V)} {a p : Addr} {xs : List V} {σ : L2.St} {to : TE} {t : TA} {Q : VK} {r : V → List V → Hp → VK → Prop} {T : String} {c0 c1 c2 : Cel} {v : V} {kvs : List (Key × V)} {n : Int} {nx : L2.St → Hp → Prop}
def cBM (K : PySem.W.Frag) (T : String) (r : V → List V → Hp → VK → Prop) (t : TA) (σ : L2.St) (Q : VK) : VK := fun x H1 => tyV K T x H1 ∧ t σ H1 fun xs H2 => r x xs H2 Q
theorem k_bm (h : to σ H (cBM K T r t σ Q)) : tBM K T r to t σ H Q := h
theorem g_bmL (h : SqL K H p xs) (q : t σ H fun xs H2 => r (.ref p) xs H2 Q) : cBM K "list" r t σ Q (.ref p) H := ⟨.inl ⟨rfl, _, h⟩, q⟩
def cBM0 (K : PySem.W.Frag) (T : String) (r : V → List V → Hp → VK → Prop) (Q : VK) : VK := fun x H1 => tyV K T x H1 ∧ r x [] H1 Q
theorem k_bm0 (h : to σ H (cBM0 K T r Q)) : tBM0 K T r to σ H Q := h
theorem g_bmL0 (h : SqL K H p xs) (q : r (.ref p) [] H Q) : cBM0 K "list" r Q (.ref p) H := ⟨.inl ⟨rfl, _, h⟩, q⟩
theorem g_app2 (N : Now K D M H0 H (c0 :: c1 :: ⟨true, p, .lst xs⟩ :: l) ts) (hz : xs.length < 100000) (q : ∀ H', Now K D M H0 H' (c0 :: c1 :: ⟨true, p, .lst (xs ++ [v])⟩ :: l) ts → Q .non H') : rAppend (.ref p) [v] H Q := ⟨p, xs, v, rfl, rfl, N.cell 2 rfl, Nat.lt_of_lt_of_le hz (by decide), q _ (N.put 2 rfl trivial)⟩
theorem g_app3 (N : Now K D M H0 H (c0 :: c1 :: c2 :: ⟨true, p, .lst xs⟩ :: l) ts) (hz : xs.length < 100000) (q : ∀ H', Now K D M H0 H' (c0 :: c1 :: c2 :: ⟨true, p, .lst (xs ++ [v])⟩ :: l) ts → Q .non H') : rAppend (.ref p) [v] H Q := ⟨p, xs, v, rfl, rfl, N.cell 3 rfl, Nat.lt_of_lt_of_le hz (by decide), q _ (N.put 3 rfl trivial)⟩
/-- cells as a callee wants them -/
def CelOk (H : Hp) (fp : List Cel) : Prop := (fp.map Cel.a).Nodup ∧ ∀ c ∈ fp, H c.a = some c.o ∧ Mut (some c.o)
theorem Now.ok (N : Now K D M H0 H l ts) : CelOk H l := ⟨N.nd, fun c hc => ⟨N.at_ c hc, N.mu c hc⟩⟩
end
/-! ### slices, tuple(..), list(..) -/
section
variable {K : PySem.W.Frag} {D : Option Addr} {M : List Addr} {H0 H : Hp} {l : List Cel} {ts : List (Addr × List V)} {a p : Addr} {xs : List V} {σ : L2.St} {te : TE} {tl th : TO} {Q : VK} {r : V → Option Int → Option Int → Hp → VK → Prop}
theorem k_sl (h : te σ H fun x H1 => tl σ H1 fun l H2 => th σ H2 fun u H3 => r x l u H3 Q) : tSl r te tl th σ H Q := h
theorem k_nopart {Q : Option Int → Hp → Prop} (h : Q none H) : tNoPart σ H Q := h
def cPart (Q : Option Int → Hp → Prop) : VK := fun x H1 => ∃ i, x = .int i ∧ Q (some i) H1
theorem k_part {Q : Option Int → Hp → Prop} (h : te σ H (cPart Q)) : tPart te σ H Q := h
theorem c_part {Q : Option Int → Hp → Prop} {i : Int} (h : Q (some i) H) : cPart Q (.int i) H := ⟨i, rfl, h⟩
theorem g_slL {lo hi : Option Int} (N : Now K D M H0 H l ts) (hx : SqL K H a xs) (q : ∀ p H', Now K D M H0 H' (⟨true, p, .lst (cutV xs lo hi)⟩ :: l) ts → Q (.ref p) H') : rSlL K (.ref a) lo hi H Q := ⟨a, xs, rfl, hx, fun p hp => q p _ (N.newC hp trivial)⟩
theorem cut_take {xs : List V} (n : Nat) : cutV xs none (some (n : Int)) = xs.take n := by
  unfold cutV
  rw [HT.sIx_none, HT.sIx_nat, List.drop_zero, Nat.sub_zero]
  by_cases h : n ≤ xs.length
  · rw [Nat.min_eq_left h]
  · rw [Nat.min_eq_right (by omega), List.take_of_length_le (by omega), List.take_of_length_le (by omega)]
theorem cut_drop {xs : List V} (n : Nat) : cutV xs (some (n : Int)) none = xs.drop n := by
  unfold cutV
  rw [HT.sIx_nat, HT.sIx_none]
  by_cases h : n ≤ xs.length
  · rw [Nat.min_eq_left h]
    exact List.take_of_length_le (by rw [List.length_drop]; omega)
  · rw [Nat.min_eq_right (by omega), List.drop_of_length_le (by omega : xs.length ≤ n)]
    simp
def rTupL (K : PySem.W.Frag) : List V → Hp → VK → Prop := fun xs H Q => ∃ p ys, xs = [.ref p] ∧ SqL K H p ys ∧ ∀ l, H l = none → Q (.ref l) (upd H l (.tup ys))
theorem cr_tupL {X : Cx} : CallR X (.type "tuple") (rTupL X.K) := fun pins s σ H xs us Q I r h => call_tuple_of pins s σ H xs us Q I r (let ⟨p, ys, e, h1, h2⟩ := h; ⟨p, ys, e, .inl ⟨h1, h2⟩⟩)
theorem cr_tupLK {X : Cx} (K : PySem.W.Frag) (h : X.K = K) : CallR X (.type "tuple") (rTupL K) := h ▸ cr_tupL
theorem g_tupL (N : Now K D M H0 H l ts) (hx : SqL K H a xs) (q : ∀ p H', Now K D M H0 H' l ((p, xs) :: ts) → Q (.ref p) H') : rTupL K [.ref a] H Q := ⟨a, xs, rfl, hx, fun p hp => q p _ (N.newT hp)⟩
def rLstS (K : PySem.W.Frag) : List V → Hp → VK → Prop := fun xs H Q => ∃ p ys, xs = [.ref p] ∧ (SqL K H p ys ∨ SqT K H p ys) ∧ ∀ l, H l = none → Q (.ref l) (upd H l (.lst ys))
theorem cr_lstS {X : Cx} : CallR X (.type "list") (rLstS X.K) := call_list_of
theorem cr_lstSK {X : Cx} (K : PySem.W.Frag) (h : X.K = K) : CallR X (.type "list") (rLstS K) := h ▸ cr_lstS
theorem g_lstL (N : Now K D M H0 H l ts) (hx : SqL K H a xs) (q : ∀ p H', Now K D M H0 H' (⟨true, p, .lst xs⟩ :: l) ts → Q (.ref p) H') : rLstS K [.ref a] H Q := ⟨a, xs, rfl, .inl hx, fun p hp => q p _ (N.newC hp trivial)⟩
theorem g_lstT (N : Now K D M H0 H l ts) (hx : SqT K H a xs) (q : ∀ p H', Now K D M H0 H' (⟨true, p, .lst xs⟩ :: l) ts → Q (.ref p) H') : rLstS K [.ref a] H Q := ⟨a, xs, rfl, .inr hx, fun p hp => q p _ (N.newC hp trivial)⟩
/-- sorted of a dict, of a list of ints: a new cell -/
theorem g_sortD {kvs : List (Key × V)} {ks : List Int} (N : Now K D M H0 H l ts) (hd : H a = some (.dK kvs)) (hk : kvs.map (·.1) = ks.map Sum.inl) (q : ∀ p H' (ys : List Int), ys.Perm ks → ys.Pairwise (· ≤ ·) → Now K D M H0 H' (⟨true, p, .lst (ys.map V.int)⟩ :: l) ts → Q (.ref p) H') : rSortedDA [.ref a] H Q :=
  ⟨a, kvs, ks, rfl, .of hd, hk, fun ys p h1 h2 hp => q p _ ys h1 h2 (N.newC hp trivial)⟩
theorem g_sortL {ks : List Int} (N : Now K D M H0 H l ts) (hx : SqL K H a (ks.map V.int)) (q : ∀ p H' (ys : List Int), ys.Perm ks → ys.Pairwise (· ≤ ·) → Now K D M H0 H' (⟨true, p, .lst (ys.map V.int)⟩ :: l) ts → Q (.ref p) H') : rSortedI K [.ref a] H Q :=
  ⟨a, ks, rfl, hx, fun ys p h1 h2 hp => q p _ ys h1 h2 (N.newC hp trivial)⟩
/-- xs + ys: a new cell -/
theorem g_cat {b : Addr} {ys : List V} (N : Now K D M H0 H l ts) (hx : H a = some (.lst xs)) (hy : H b = some (.lst ys)) (hz : xs.length + ys.length ≤ 100000) (q : ∀ p H', Now K D M H0 H' (⟨true, p, .lst (xs ++ ys)⟩ :: l) ts → Q (.ref p) H') : rCat (.ref a) (.ref b) H Q :=
  ⟨a, b, xs, ys, rfl, rfl, hx, hy, Nat.le_trans hz (by decide), fun p hp => q p _ (N.newC hp trivial)⟩
/-- x in xs, ints -/
theorem inV_ints {n : Int} : ∀ {ns : List Int}, inV (.int n) (ns.map V.int) = decide (n ∈ ns)
  | [] => by simp [inV]
  | m :: ns => by
    have ih := inV_ints (n := n) (ns := ns)
    unfold inV at ih ⊢
    rw [List.map_cons, List.any_cons, ih]
    by_cases e : n = m
    · subst e; simp [eqV]
    · have e' : ¬ m = n := fun z => e z.symm
      simp [eqV, e, e']
theorem flat_ints {ns : List Int} : (ns.map V.int).all flatV = true := by
  rw [List.all_eq_true]
  intro x hx
  obtain ⟨n, _, rfl⟩ := List.mem_map.mp hx
  rfl
theorem g_inI {n : Int} {ns : List Int} (h : SqL K H a (ns.map V.int) ∨ SqT K H a (ns.map V.int)) (q : Q (.bl (decide (n ∈ ns))) H) : rIn K false (.int n) (.ref a) H Q :=
  ⟨a, _, rfl, h, rfl, flat_ints, by rw [inV_ints]; exact q⟩
theorem g_ninI {n : Int} {ns : List Int} (h : SqL K H a (ns.map V.int) ∨ SqT K H a (ns.map V.int)) (q : Q (.bl (decide (n ∉ ns))) H) : rIn K true (.int n) (.ref a) H Q :=
  ⟨a, _, rfl, h, rfl, flat_ints, by
    rw [inV_ints, if_pos rfl, ← decide_not]
    exact q⟩
/-- == and != of lists of ints -/
theorem eqv_ints : ∀ {a b : List Int}, PyData.eqvAll (a.map PyData.int) (b.map PyData.int) = decide (a = b)
  | [], [] => by simp [PyData.eqvAll]
  | [], _ :: _ => by simp [PyData.eqvAll]
  | _ :: _, [] => by simp [PyData.eqvAll]
  | x :: a, y :: b => by
    have ih := eqv_ints (a := a) (b := b)
    rw [List.map_cons, List.map_cons, PyData.eqvAll, ih]
    by_cases e : x = y
    · subst e; by_cases e2 : a = b <;> simp [PyData.eqv, e2]
    · simp [PyData.eqv, e]
theorem lay_ints : ∀ ns : List Int, PyData.canLayAll0 (ns.map PyData.int) = true ∧ PyData.depthAll (ns.map PyData.int) ≤ 1
  | [] => by simp [PyData.canLayAll0, PyData.depthAll]
  | n :: ns => by
    obtain ⟨h1, h2⟩ := lay_ints ns
    simp only [List.map_cons, PyData.canLayAll0, PyData.depthAll, PyData.canLay0, PyData.depth, h1, Bool.and_self, true_and]
    omega
theorem shaped_ints (ns : List Int) : SeqAt.shaped (.list (ns.map PyData.int)) = true := by
  obtain ⟨h1, h2⟩ := lay_ints ns
  unfold SeqAt.shaped
  simp only [PyData.canLay0, PyData.depth, h1, Bool.true_and]
  exact decide_eq_true (by omega)
theorem shaped_intsT (ns : List Int) : SeqAt.shaped (.tuple (ns.map PyData.int)) = true := by
  obtain ⟨h1, h2⟩ := lay_ints ns
  unfold SeqAt.shaped
  simp only [PyData.canLay0, PyData.depth, h1, Bool.true_and]
  exact decide_eq_true (by omega)
variable {b : Addr}
theorem g_eqL {m n : List Int} (h1 : SqL K H a (m.map V.int)) (h2 : SqL K H b (n.map V.int)) (q : Q (.bl (decide (m = n))) H) : rEqD K (.ref a) (.ref b) H Q :=
  ⟨_, _, .lst h1 (dpa_ints m), .lst h2 (dpa_ints n), shaped_ints m, shaped_ints n, by rw [PyData.eqv, eqv_ints]; exact q⟩
theorem g_neL {m n : List Int} (h1 : SqL K H a (m.map V.int)) (h2 : SqL K H b (n.map V.int)) (q : Q (.bl (decide (m ≠ n))) H) : rNeD K (.ref a) (.ref b) H Q :=
  ⟨_, _, .lst h1 (dpa_ints m), .lst h2 (dpa_ints n), shaped_ints m, shaped_ints n, by rw [PyData.eqv, eqv_ints, ← decide_not]; exact q⟩
theorem g_eqT {m n : List Int} (h1 : SqT K H a (m.map V.int)) (h2 : SqT K H b (n.map V.int)) (q : Q (.bl (decide (m = n))) H) : rEqD K (.ref a) (.ref b) H Q :=
  ⟨_, _, .tup h1 (dpa_ints m), .tup h2 (dpa_ints n), shaped_intsT m, shaped_intsT n, by rw [PyData.eqv, eqv_ints]; exact q⟩
theorem g_neT {m n : List Int} (h1 : SqT K H a (m.map V.int)) (h2 : SqT K H b (n.map V.int)) (q : Q (.bl (decide (m ≠ n))) H) : rNeD K (.ref a) (.ref b) H Q :=
  ⟨_, _, .tup h1 (dpa_ints m), .tup h2 (dpa_ints n), shaped_intsT m, shaped_intsT n, by rw [PyData.eqv, eqv_ints, ← decide_not]; exact q⟩
end
end Ak
namespace Ak
open PySem PySem.Spec PyProof.Rows L2
/-! ### a locked dict is walked -/
section
variable {K : PySem.W.Frag} {D : Option Addr} {M : List Addr} {H0 H : Hp} {l : List Cel} {ts : List (Addr × List V)} {a p d : Addr} {u o' : HO} {ob : Obj} {σ : L2.St} {te td ty : TE} {t : TS} {g : TG} {Q : VK} {c0 c1 c2 : Cel} {v : V} {kvs : List (Key × V)} {n : Int} {nx bk ct : L2.St → Hp → Prop} {rt : VK}
theorem Now.lock (N : Now K D M H0 H (⟨true, d, u⟩ :: l) ts) (hM : d ∉ M) : Now K D M H0 (upd H d o') l ts := by
  have h0 : H0 d = none := (N.ow ⟨true, d, u⟩ List.mem_cons_self rfl).resolve_left hM
  have hd : H d = some u := N.cell 0 rfl
  have hmu : Mut (some u) := N.mu ⟨true, d, u⟩ List.mem_cons_self
  have nd := List.nodup_cons.mp N.nd
  have A : Aft [d] H (upd H d o') := Aft.refl.put hd hmu (.inl (by simp))
  exact {
    nd := nd.2
    at_ := fun c hc => A.k _ _ (N.at_ c (List.mem_cons_of_mem _ hc)) (by
      intro m
      have e : c.a = d := by simpa using m
      exact nd.1 (List.mem_map.mpr ⟨c, hc, e⟩))
    mu := fun c hc => N.mu c (List.mem_cons_of_mem _ hc)
    ow := fun c hc => N.ow c (List.mem_cons_of_mem _ hc)
    tp := fun q hq => A.t _ _ (N.tp q hq)
    af := N.af.own h0
    dc := fun e he => by
      obtain ⟨h1, h2, h3⟩ := N.dc e he
      refine ⟨h1.keep A ?_, h2, fun m => h3 (List.mem_cons_of_mem _ m)⟩
      intro m
      have q : e = d := by simpa using m
      subst q
      exact h3 List.mem_cons_self }
/-- the lock is taken off again -/
theorem Now.unlock (N : Now K none M H0 H l ts) (h0 : H0 d = none) (hd : H d = some (.frz ob o')) : Now K none M H0 (upd H d u) l ts where
  nd := N.nd
  at_ := fun c hc => by
    have q := N.at_ c hc
    have m := N.mu c hc
    rw [upd_ne]
    · exact q
    · intro e
      rw [e, hd] at q
      rw [← Option.some.inj q] at m
      exact m
  mu := N.mu
  ow := N.ow
  tp := fun q hq => by
    have z := N.tp q hq
    rw [upd_ne]
    · exact z
    · intro e
      rw [e, hd] at z; cases z
  af := N.af.own h0
  dc := fun e he => by cases he
def cForK (g : TG) (tb : TS) (D : Ends) (σ : L2.St) : VK := fun x H1 => ∃ d o, x = .ref d ∧ ((∃ kvs, H1 d = some (.frz o (.dK kvs)) ∧ ∃ W : Nat → Nat → L2.St → Hp → Prop, (∃ m, W 0 m σ H1) ∧ ∀ i m σ H, W i m σ H →
    ((Itk d o kvs).stop i H ∧ D.nx σ H) ∨ ((Itk d o kvs).go i H ∧ ∃ N : L2.St → Hp → Prop, (∀ σ' H', N σ' H' → ∃ m', m' < m ∧ W (i + 1) m' σ' H') ∧ ∀ x H', (Itk d o kvs).yld i H x H' → g x σ H' fun σ2 H2 => tb { D with nx := N, ct := N, bk := D.nx } σ2 H2)) ∨
  ∃ kvs, H1 d = some (.frz o (.dT kvs)) ∧ ∃ W : Nat → Nat → L2.St → Hp → Prop, (∃ m, W 0 m σ H1) ∧ ∀ i m σ H, W i m σ H →
    ((Itkt d o kvs).stop i H ∧ D.nx σ H) ∨ ((Itkt d o kvs).go i H ∧ ∃ N : L2.St → Hp → Prop, (∀ σ' H', N σ' H' → ∃ m', m' < m ∧ W (i + 1) m' σ' H') ∧ ∀ x H', (Itkt d o kvs).yld i H x H' → g x σ H' fun σ2 H2 => tb { D with nx := N, ct := N, bk := D.nx } σ2 H2))
theorem k_forK (h : td σ H (cForK g t ⟨nx, rt, bk, ct⟩ σ)) : tFor (iKeys td) g t ⟨nx, rt, bk, ct⟩ σ H := h
theorem c_forK (Pv : Nat → L2.St → Hp → Prop) (h0 : Pv 0 σ H) (hl : ∀ i σ H, Pv i σ H → H d = some (.frz ob (.dK kvs)))
    (hs : ∀ i k v σ H, kvs[i]? = some (k, v) → Pv i σ H → g (kV k) σ H fun σ2 H2 => t ⟨Pv (i + 1), rt, nx, Pv (i + 1)⟩ σ2 H2) (hd : ∀ σ H, Pv kvs.length σ H → nx σ H) : cForK g t ⟨nx, rt, bk, ct⟩ σ (.ref d) H := by
  refine ⟨d, ob, rfl, .inl ⟨kvs, hl _ _ _ h0, fun i m σ H => m = kvs.length - i ∧ i ≤ kvs.length ∧ Pv i σ H, ⟨kvs.length, by simp, Nat.zero_le _, h0⟩, ?_⟩⟩
  rintro i m σ H ⟨rfl, hi, q⟩
  by_cases lt : i < kvs.length
  · refine .inr ⟨⟨hl _ _ _ q, lt⟩, Pv (i + 1), fun σ' H' q' => ⟨kvs.length - (i + 1), by omega, rfl, lt, q'⟩, ?_⟩
    rintro x H' ⟨rfl, k, v, hk, rfl⟩
    exact hs i k v σ _ hk q
  · have e : i = kvs.length := by omega
    subst e
    exact .inl ⟨⟨hl _ _ _ q, Nat.le_refl _⟩, hd σ H q⟩
def cLock (t : TS) (D : Ends) (σ : L2.St) (H : Hp) : Prop := ∃ d u, H d = some u ∧ Mut (some u) ∧ ∀ od, t ⟨fun σ' H' => H' d = some (.frz od u) ∧ D.nx σ' (upd H' d u), fun v H' => H' d = some (.frz od u) ∧ D.rt v (upd H' d u), fun σ' H' => H' d = some (.frz od u) ∧ D.bk σ' (upd H' d u), fun σ' H' => H' d = some (.frz od u) ∧ D.ct σ' (upd H' d u)⟩ σ (upd H d (.frz od u))
theorem k_lock (hd : H d = some u) (hm : Mut (some u)) (q : ∀ od, t ⟨fun σ' H' => H' d = some (.frz od u) ∧ nx σ' (upd H' d u), fun v H' => H' d = some (.frz od u) ∧ rt v (upd H' d u), fun σ' H' => H' d = some (.frz od u) ∧ bk σ' (upd H' d u), fun σ' H' => H' d = some (.frz od u) ∧ ct σ' (upd H' d u)⟩ σ (upd H d (.frz od u))) :
    tLock t ⟨nx, rt, bk, ct⟩ σ H := ⟨d, u, hd, hm, q⟩
theorem g_dpop1 (N : Now K D M H0 H (c0 :: ⟨true, p, .dK kvs⟩ :: l) ts) (q : ty σ H fun y H2 => ∃ kvs k v, H2 p = some (.dK kvs) ∧ y = kV k ∧ valV kvs k = some v ∧ Q v (upd H2 p (.dK (dropK kvs k)))) : cDPop σ ty Q (.ref p) H := ⟨p, rfl, .inl ⟨kvs, .of (N.cell 1 rfl)⟩, q⟩
end
end Ak
namespace Ak
open PySem PySem.Spec PyProof.Rows L2
/-! ### dict displays, names by pattern, a cut -/
section
variable {K : PySem.W.Frag} {D : Option Addr} {M : List Addr} {H0 H H' : Hp} {l : List Cel} {ts : List (Addr × List V)} {a p : Addr} {σ : L2.St} {te ta tb : TE} {t : TS} {g : TG} {Q : VK} {c0 c1 c2 : Cel} {v w x : V} {kvs kvs' : List (Key × V)} {n i j : Nat} {nx bk ct : L2.St → Hp → Prop} {rt : VK} {trs : List (TE × TE)} {ps : List (V × V)}
def cDisp (p : Addr) (Q : VK) : List (V × V) → Hp → Prop := fun ps H2 => H2 p = some (.dK []) ∧ ∃ kvs : List (Key × V), ps = kvs.map (fun kv => (kV kv.1, kv.2)) ∧ kvs.length ≤ 15 ∧ Q (.ref p) (upd H2 p (.dK (mergeK [] kvs)))
theorem k_disp (N : Now K D M H0 H l ts) (q : ∀ p H', Now K D M H0 H' (⟨true, p, .dK []⟩ :: l) ts → tPairs trs σ H' (cDisp p Q)) : tDisp trs σ H Q := fun p hp => q p _ (N.newC hp trivial)
theorem k_pairs0 {Q : List (V × V) → Hp → Prop} (h : Q [] H) : tPairs [] σ H Q := h
theorem k_pairs {Q : List (V × V) → Hp → Prop} (h : ta σ H fun x H1 => tb σ H1 fun y H2 => tPairs trs σ H2 fun ps H3 => Q ((x, y) :: ps) H3) : tPairs ((ta, tb) :: trs) σ H Q := h
theorem g_disp0 (N : Now K D M H0 H (⟨true, p, .dK []⟩ :: l) ts) (hk : ps = kvs.map (fun kv => (kV kv.1, kv.2))) (hl : kvs.length ≤ 15) (hm : mergeK [] kvs = kvs') (q : ∀ H', Now K D M H0 H' (⟨true, p, .dK kvs'⟩ :: l) ts → Q (.ref p) H') : cDisp p Q ps H :=
  ⟨N.cell 0 rfl, kvs, hk, hl, by rw [hm]; exact q _ (N.put 0 rfl trivial)⟩
theorem g_un {QQ : L2.St → Hp → Prop} (h : SqT K H a [v, w]) (hn : n = 2) (hq : QQ ((σ.set i (some v)).set j (some w)) H) : gTup K n (gCons (gName i) (gCons (gName j) gNil)) (.ref a) σ H QQ :=
  ⟨a, [v, w], rfl, h, hn.symm, v, [w], rfl, w, [], rfl, rfl, hq⟩
/-- what comes after is told once -/
theorem k_cut {R : L2.St → Hp → Prop} (q : ∀ σ H, R σ H → nx σ H) (h : ∀ nx' : L2.St → Hp → Prop, (∀ σ H, R σ H → nx' σ H) → t ⟨nx', rt, bk, ct⟩ σ H) : t ⟨nx, rt, bk, ct⟩ σ H := h nx q
theorem k_cut3 {R : L2.St → Hp → Prop} {t1 t2 t3 : TS} (q : ∀ σ H, R σ H → t3 ⟨nx, rt, bk, ct⟩ σ H) (h : ∀ nx' : L2.St → Hp → Prop, (∀ σ H, R σ H → nx' σ H) → tSeq t1 t2 ⟨nx', rt, bk, ct⟩ σ H) : tSeq t1 (tSeq t2 t3) ⟨nx, rt, bk, ct⟩ σ H := h _ q
theorem g_like {E : XK} {y : V} {d : PyData} {m : Nat} (h1 : Dp K H x d) (h2 : Dp K H y d) (h3 : dOk m d) (q : ∀ H', Aft [] H H' → Q (.bl true) H') : spLike K (m + 1) [x, y] H Q E := ⟨x, y, d, rfl, h1, h2, h3, q⟩
theorem dOk_ints {m : Nat} {ns : List Int} (h : ns.length ≤ 100000) : dOk (m + 1) (.list (ns.map PyData.int)) ∧ dOk (m + 1) (.tuple (ns.map PyData.int)) := by
  have q : ∀ d ∈ ns.map PyData.int, dOk m d := fun d hd => by
    obtain ⟨n, _, rfl⟩ := List.mem_map.mp hd
    cases m <;> trivial
  constructor
  · exact ⟨by rw [List.length_map]; exact h, q⟩
  · exact ⟨by rw [List.length_map]; exact h, q⟩
theorem Now.fresh {o : HO} (N : Now K D M H0 H l ts) (A : Aft [] H H') (hp : H p = none) (h : H' p = some o) (hm : Mut (some o)) : Now K D M H0 H' (⟨true, p, o⟩ :: l) ts :=
  Now.grow N (N.pure A) (fun _ h => .inl h) hp h hm
theorem sorted_eq {a b c : List Int} (h1 : a.Perm c) (h2 : a.Pairwise (· ≤ ·)) (h3 : b.Perm c) (h4 : b.Pairwise (· ≤ ·)) : a = b :=
  (h1.trans h3.symm).eq_of_pairwise (fun x y _ _ e1 e2 => by omega) h2 h4
end
end Ak
namespace Ak
open PySem PySem.Spec PyProof.Rows L2
/-! ### max, min, tuple of a tuple, patterns, constants of the written part -/
section
variable {X : Cx} {K : PySem.W.Frag} {D : Option Addr} {M : List Addr} {H0 H H' : Hp} {l : List Cel} {ts : List (Addr × List V)} {a p : Addr} {σ : L2.St} {te ta tb : TE} {t : TGs} {g : TG} {Q : VK} {v w x : V} {xs vs : List V} {n : Nat} {QQ : L2.St → Hp → Prop} {f : Str} {u : TGs}
def rMax2 : List V → Hp → VK → Prop := fun xs H Q => ∃ i j, xs = [.int i, .int j] ∧ Q (.int (max i j)) H
def rMin2 : List V → Hp → VK → Prop := fun xs H Q => ∃ i j, xs = [.int i, .int j] ∧ Q (.int (min i j)) H
theorem cr_max2 (hc : X.calm = true) : CallR X (.builtin "max") rMax2 := fun pins s σ H xs us Q I r ⟨i, j, e, q⟩ => call_max2 hc pins s σ H xs us Q I r ⟨i, j, e, by
  have z : (if j > i then j else i) = max i j := by omega
  rw [z]; exact q⟩
theorem cr_min2 (hc : X.calm = true) : CallR X (.builtin "min") rMin2 := fun pins s σ H xs us Q I r ⟨i, j, e, q⟩ => call_min2 hc pins s σ H xs us Q I r ⟨i, j, e, by
  have z : (if j < i then j else i) = min i j := by omega
  rw [z]; exact q⟩
theorem g_max2 {i j : Int} (q : Q (.int (max i j)) H) : rMax2 [.int i, .int j] H Q := ⟨i, j, rfl, q⟩
theorem g_min2 {i j : Int} (q : Q (.int (min i j)) H) : rMin2 [.int i, .int j] H Q := ⟨i, j, rfl, q⟩
def rTupT (K : PySem.W.Frag) : List V → Hp → VK → Prop := fun xs H Q => ∃ a ys, xs = [.ref a] ∧ SqT K H a ys ∧ Q (.ref a) H
theorem cr_tupT : CallR X (.type "tuple") (rTupT X.K) := call_tupleT
theorem cr_tupTK (K : PySem.W.Frag) (h : X.K = K) : CallR X (.type "tuple") (rTupT K) := h ▸ cr_tupT
theorem g_tupT (h : SqT K H a xs) (q : Q (.ref a) H) : rTupT K [.ref a] H Q := ⟨a, xs, rfl, h, q⟩
theorem cr_minLK (K : PySem.W.Frag) (h : X.K = K) (hc : X.calm = true) : CallR X (.builtin "min") (rMin K) := h ▸ cr_min hc
theorem cr_maxLK (K : PySem.W.Frag) (h : X.K = K) (hc : X.calm = true) : CallR X (.builtin "max") (rMax K) := h ▸ cr_max hc
theorem g_minL {ns : List Int} (h : SqL K H a (ns.map V.int)) (h0 : 0 < ns.length) (q : ∀ m, m ∈ ns → (∀ y, y ∈ ns → m ≤ y) → Q (.int m) H) : rMin K [.ref a] H Q := ⟨a, ns, rfl, h, h0, q⟩
theorem g_maxL {ns : List Int} (h : SqL K H a (ns.map V.int)) (h0 : 0 < ns.length) (q : ∀ m, m ∈ ns → (∀ y, y ∈ ns → y ≤ m) → Q (.int m) H) : rMax K [.ref a] H Q := ⟨a, ns, rfl, h, h0, q⟩
theorem k_gtup (h : SqT K H a xs) (hn : xs.length = n) (q : t xs σ H QQ) : gTup K n t (.ref a) σ H QQ := ⟨a, xs, rfl, h, hn, q⟩
theorem k_gcons (q : g v σ H fun σ' H' => u vs σ' H' QQ) : gCons g u (v :: vs) σ H QQ := ⟨v, vs, rfl, q⟩
theorem k_gnil (q : QQ σ H) : gNil [] σ H QQ := ⟨rfl, q⟩
theorem k_gattr (h : ta σ H (cSF K f v QQ σ)) : gAttr K ta f v σ H QQ := h
/-- a constant tuple of the top -/
structure Cst (K : PySem.W.Frag) (mg : Str → Option Value) (x : Str) (a : Addr) (xs : List V) : Prop where
  g : mg x = some (.ref a)
  at_ : ∀ H, SqT K H a xs
def Cel.ro (c : Cel) : Cel := { c with w := false }
/-- a method that only reads -/
theorem Now.read {fp : List Cel} (h : CelOk H fp) (tp : ∀ p ∈ ts, H p.1 = some (.tup p.2)) : Now K none M H H (fp.map Cel.ro) ts :=
  .start (by rw [List.map_map]; exact h.1) (fun c hc => by
    obtain ⟨b, hb, rfl⟩ := List.mem_map.mp hc
    exact ⟨(h.2 b hb).1, (h.2 b hb).2, fun z => by cases z⟩) tp (by simp)
theorem filt_snoc {α : Type} {p : α → Bool} {l : List α} {i : Nat} {z : α} (h : l[i]? = some z) : (l.take (i + 1)).filter p = if p z = true then (l.take i).filter p ++ [z] else (l.take i).filter p := by
  rw [List.take_add_one, h, List.filter_append]
  by_cases c : p z = true
  · simp [c]
  · simp [c]
theorem filt_len {α : Type} {p : α → Bool} {l : List α} {i : Nat} : ((l.take i).filter p).length ≤ l.length :=
  Nat.le_trans (List.length_filter_le _ _) (by rw [List.length_take]; omega)
def cPar3 (i j l : Nat) (nx : L2.St → Hp → Prop) (σ : L2.St) : List V → Hp → Prop := fun vs H1 => ∃ u v w, vs = [u, v, w] ∧ nx (((σ.set i (some u)).set j (some v)).set l (some w)) H1
theorem k_par3 {i j l : Nat} {tr : TA} {nx bk ct : L2.St → Hp → Prop} {rt : VK} (h : tr σ H (cPar3 i j l nx σ)) : tPar3 i j l tr ⟨nx, rt, bk, ct⟩ σ H := h
theorem e_par3 {i j l : Nat} {nx : L2.St → Hp → Prop} {u v w : V} (h : nx (((σ.set i (some u)).set j (some v)).set l (some w)) H) : cPar3 i j l nx σ [u, v, w] H := ⟨u, v, w, rfl, h⟩
theorem k_lenSet {K : PySem.W.Frag} (h : te σ H fun x H1 => ∃ (l : Addr) (ns : List Int), x = .ref l ∧ SqL K H1 l (ns.map V.int) ∧ ns.Nodup ∧ ns.length ≤ 4000 ∧ Q (.int (ns.length : Nat)) H1) : RZ.tLenSetI K te σ H Q := h
theorem k_eqStr {a b : Str} (h : a ≠ b) (q : Q (.bl false) H) : rEq (.str a) (.str b) H Q := k_eq rfl (by rw [decide_eq_false (fun e => h (V.str.inj e))]; exact q)
def scRetCmp : Stmt → Scope
  | .Return (some (.Compare (.ListComp _ _ sc _) _ _ _)) _ => sc
  | _ => ⟨.function, [], false, false, []⟩
theorem atI_neg1 {α : Type} {xs : List α} (h : 0 < xs.length) : atI xs (-1) = xs[xs.length - 1]? := by
  have e : ixN xs.length (-1) = some (xs.length - 1) := by
    unfold ixN
    rw [if_neg (by omega), if_pos (by omega)]
    congr 1
    omega
  unfold atI
  rw [e]
  rfl
/-! ### menus -/
theorem g_menu2 {b c i : Int} (h : SqL K H p [.int b, .int c]) (hi : 0 ≤ i ∧ i < 2) (q : ∀ v, v = b ∨ v = c → Q (.int v) H) : rIxL K (.ref p) (.int i) H Q := by
  have : i = 0 ∨ i = 1 := by omega
  rcases this with rfl | rfl
  · exact g_ixL h rfl (q _ (.inl rfl))
  · exact g_ixL h rfl (q _ (.inr rfl))
theorem g_menu3 {b c d i : Int} (h : SqL K H p [.int b, .int c, .int d]) (hi : 0 ≤ i ∧ i < 3) (q : ∀ v, v = b ∨ v = c ∨ v = d → Q (.int v) H) : rIxL K (.ref p) (.int i) H Q := by
  have : i = 0 ∨ i = 1 ∨ i = 2 := by omega
  rcases this with rfl | rfl | rfl
  · exact g_ixL h rfl (q _ (.inl rfl))
  · exact g_ixL h rfl (q _ (.inr (.inl rfl)))
  · exact g_ixL h rfl (q _ (.inr (.inr rfl)))
theorem g_menu4 {b c d e i : Int} (h : SqL K H p [.int b, .int c, .int d, .int e]) (hi : 0 ≤ i ∧ i < 4) (q : ∀ v, v = b ∨ v = c ∨ v = d ∨ v = e → Q (.int v) H) : rIxL K (.ref p) (.int i) H Q := by
  have : i = 0 ∨ i = 1 ∨ i = 2 ∨ i = 3 := by omega
  rcases this with rfl | rfl | rfl | rfl
  · exact g_ixL h rfl (q _ (.inl rfl))
  · exact g_ixL h rfl (q _ (.inr (.inl rfl)))
  · exact g_ixL h rfl (q _ (.inr (.inr (.inl rfl))))
  · exact g_ixL h rfl (q _ (.inr (.inr (.inr rfl))))
theorem g_menu5 {b c d e f i : Int} (h : SqL K H p [.int b, .int c, .int d, .int e, .int f]) (hi : 0 ≤ i ∧ i < 5) (q : ∀ v, v = b ∨ v = c ∨ v = d ∨ v = e ∨ v = f → Q (.int v) H) : rIxL K (.ref p) (.int i) H Q := by
  have : i = 0 ∨ i = 1 ∨ i = 2 ∨ i = 3 ∨ i = 4 := by omega
  rcases this with rfl | rfl | rfl | rfl | rfl
  · exact g_ixL h rfl (q _ (.inl rfl))
  · exact g_ixL h rfl (q _ (.inr (.inl rfl)))
  · exact g_ixL h rfl (q _ (.inr (.inr (.inl rfl))))
  · exact g_ixL h rfl (q _ (.inr (.inr (.inr (.inl rfl)))))
  · exact g_ixL h rfl (q _ (.inr (.inr (.inr (.inr rfl)))))
/-! ### sorted -/
def srt (l : List Int) : List Int := l.mergeSort fun a b => decide (a ≤ b)
theorem srt_perm (l : List Int) : (srt l).Perm l := List.mergeSort_perm l _
theorem srt_sorted (l : List Int) : (srt l).Pairwise (· ≤ ·) := by
  have h : (srt l).Pairwise fun a b => decide (a ≤ b) = true := List.pairwise_mergeSort (fun a b c h1 h2 => by
    have := of_decide_eq_true h1
    have := of_decide_eq_true h2
    exact decide_eq_true (by omega)) (fun a b => by
    by_cases c : a ≤ b
    · simp [c]
    · simp [show b ≤ a by omega]) l
  exact h.imp fun {a b} h => of_decide_eq_true h
theorem srt_eq {ys l : List Int} (hp : ys.Perm l) (hs : ys.Pairwise (· ≤ ·)) : ys = srt l := sorted_eq hp hs (srt_perm l) (srt_sorted l)
theorem srt_len (l : List Int) : (srt l).length = l.length := (srt_perm l).length_eq
theorem srt_mem {l : List Int} {x : Int} : x ∈ srt l ↔ x ∈ l := (srt_perm l).mem_iff
theorem g_srt {ks : List Int} (N : Now K D M H0 H l ts) (hx : SqL K H a (ks.map V.int)) (q : ∀ p H', Now K D M H0 H' (⟨true, p, .lst ((srt ks).map V.int)⟩ :: l) ts → Q (.ref p) H') : rSortedI K [.ref a] H Q :=
  g_sortL N hx fun p H' ys h1 h2 N' => q p H' (by rw [← srt_eq h1 h2]; exact N')
end
end Ak
namespace Ak
open PySem PySem.Spec PyProof.Rows L2
/-! ### while, by counted turns -/
section
variable {σ : L2.St} {H : Hp} {c : TT} {tb : TS} {Pv : Nat → L2.St → Hp → Prop} {n i : Nat} {nx bk ct : L2.St → Hp → Prop} {rt : VK}
def WW (Pv : Nat → L2.St → Hp → Prop) (n : Nat) : Nat → L2.St → Hp → Prop := fun m σ H => ∃ i, i ≤ n ∧ m = n - i ∧ Pv i σ H
def cWh (Pv : Nat → L2.St → Hp → Prop) (n i : Nat) (tb : TS) (D : Ends) (σ : L2.St) : Bool → Hp → Prop := fun b H1 => if b = true then ∃ N : L2.St → Hp → Prop, (∀ σ' H', N σ' H' → ∃ m', m' < n - i ∧ WW Pv n m' σ' H') ∧ tb { D with nx := N, ct := N, bk := D.nx } σ H1 else D.nx σ H1
theorem k_while (Pv : Nat → L2.St → Hp → Prop) (n : Nat) (h0 : Pv 0 σ H) (hs : ∀ i σ H, i ≤ n → Pv i σ H → c σ H (cWh Pv n i tb ⟨nx, rt, bk, ct⟩ σ)) : tWhile c tb ⟨nx, rt, bk, ct⟩ σ H :=
  ⟨WW Pv n, ⟨n, 0, Nat.zero_le _, rfl, h0⟩, fun m σ H ⟨i, hi, e, p⟩ => by
    subst e
    exact hs i σ H hi p⟩
theorem c_whT (hi : i < n) (q : tb ⟨Pv (i + 1), rt, nx, Pv (i + 1)⟩ σ H) : cWh Pv n i tb ⟨nx, rt, bk, ct⟩ σ true H := ⟨Pv (i + 1), fun σ' H' p => ⟨n - (i + 1), by omega, i + 1, hi, rfl, p⟩, q⟩
theorem c_whF (q : nx σ H) : cWh Pv n i tb ⟨nx, rt, bk, ct⟩ σ false H := q
end
/-! ### for over range(a, b) -/
section
variable {σ : L2.St} {H : Hp} {g : TG} {t : TS} {tr : TA} {nx bk ct : L2.St → Hp → Prop} {rt : VK}
def cForR2 (g : TG) (tb : TS) (D : Ends) (σ : L2.St) : List V → Hp → Prop := fun vs H1 => ∃ i j : Int, vs = [.int i, .int j] ∧ (-(2 ^ 62) ≤ i ∧ i < 2 ^ 62 ∧ -(2 ^ 62) ≤ j ∧ j < 2 ^ 62) ∧
  ∃ W : Nat → Nat → L2.St → Hp → Prop, (∃ m, W 0 m σ H1) ∧ ∀ k m σ H, W k m σ H →
  ((Itr i (j - i).toNat).stop k H ∧ D.nx σ H) ∨ ((Itr i (j - i).toNat).go k H ∧ ∃ N : L2.St → Hp → Prop, (∀ σ' H', N σ' H' → ∃ m', m' < m ∧ W (k + 1) m' σ' H') ∧ ∀ x H', (Itr i (j - i).toNat).yld k H x H' → g x σ H' fun σ2 H2 => tb { D with nx := N, ct := N, bk := D.nx } σ2 H2)
theorem k_forR2 (h : tr σ H (cForR2 g t ⟨nx, rt, bk, ct⟩ σ)) : tFor (iRng2 tr) g t ⟨nx, rt, bk, ct⟩ σ H := h
theorem c_forR2 {lo hi : Int} (hn : (-100000 ≤ lo ∧ lo ≤ 100000) ∧ -100000 ≤ hi ∧ hi ≤ 100000) (Pv : Nat → L2.St → Hp → Prop) (h0 : Pv 0 σ H)
    (hs : ∀ (i : Nat) σ H, lo + (i : Int) < hi → Pv i σ H → g (.int (lo + (i : Int))) σ H fun σ2 H2 => t ⟨Pv (i + 1), rt, nx, Pv (i + 1)⟩ σ2 H2) (hd : ∀ σ H, Pv (hi - lo).toNat σ H → nx σ H) : cForR2 g t ⟨nx, rt, bk, ct⟩ σ [.int lo, .int hi] H :=
  ⟨lo, hi, rfl, ⟨by omega, by omega, by omega, by omega⟩, for_range (D := ⟨nx, rt, bk, ct⟩) Pv h0 (fun i σ H h p => hs i σ H (by omega) p) hd⟩
end
/-- nothing was written yet -/
theorem Now.back {K : PySem.W.Frag} {D : Option Addr} {H0 H : Hp} {fp l : List Cel} {ts : List (Addr × List V)} (N : Now K D (fp.map Cel.a) H0 H l ts) (h : ∀ c ∈ fp, c ∈ l ∧ H0 c.a = some c.o) : Aft [] H0 H :=
  ⟨fun b o e _ => by
    by_cases m : b ∈ fp.map Cel.a
    · obtain ⟨c, hc, rfl⟩ := List.mem_map.mp m
      obtain ⟨h1, h2⟩ := h c hc
      rw [h2] at e
      rw [← e]
      exact N.at_ c h1
    · exact N.af.k b o e m, N.af.t, N.af.z⟩
theorem CelOk.keep {H H' : Hp} {fp : List Cel} (h : CelOk H fp) (A : Aft [] H H') : CelOk H' fp := ⟨h.1, fun c hc => ⟨A.k _ _ (h.2 c hc).1 (by simp), (h.2 c hc).2⟩⟩
theorem CelOk.sel {H : Hp} {l l' : List Cel} (h : CelOk H l) (is : List Nat) (e : is.map (fun i => l[i]?) = l'.map some) (hn : is.Nodup) : CelOk H l' := ((Now.begin (K := []) (ts := []) h (by simp)).sel is e hn).ok
/-- the least number from a place on with a rest -/
theorem least_ne {m lo k : Int} {i : Nat} (hm : 0 < m) (hk : 0 ≤ k ∧ k < m) (hi : (i : Int) < (k - lo) % m) : (lo + i) % m ≠ k := fun e => by
  have h1 : (k - lo - (i : Int)) % m = 0 := by
    have : k - lo - (i : Int) = k - (lo + i) := by omega
    rw [this, ← e, Int.sub_emod, Int.emod_emod, Int.sub_self, Int.zero_emod]
  have h2 := Int.emod_lt_of_pos (k - lo) hm
  have h3 : ((k - lo) % m - (i : Int)) % m = 0 := by rw [Int.sub_emod, Int.emod_emod, ← Int.sub_emod]; exact h1
  rw [Int.emod_eq_of_lt (by omega) (by omega)] at h3
  omega
theorem least_eq {m lo k : Int} (hm : 0 < m) (hk : 0 ≤ k ∧ k < m) : (lo + (k - lo) % m) % m = k := by
  rw [Int.add_emod, Int.emod_emod, ← Int.add_emod]
  rw [show lo + (k - lo) = k by omega]
  exact Int.emod_eq_of_lt hk.1 hk.2
theorem most_ne {m hi k : Int} {i : Nat} (hm : 0 < m) (hk : 0 ≤ k ∧ k < m) (h : (i : Int) < (hi - k) % m) : (hi - i) % m ≠ k := fun e => by
  have h1 : (hi - k - (i : Int)) % m = 0 := by
    have : hi - k - (i : Int) = (hi - i) - k := by omega
    rw [this, ← e, Int.sub_emod, Int.emod_emod, Int.sub_self, Int.zero_emod]
  have h2 := Int.emod_lt_of_pos (hi - k) hm
  have h3 : ((hi - k) % m - (i : Int)) % m = 0 := by rw [Int.sub_emod, Int.emod_emod, ← Int.sub_emod]; exact h1
  rw [Int.emod_eq_of_lt (by omega) (by omega)] at h3
  omega
theorem most_eq {m hi k : Int} (hm : 0 < m) (hk : 0 ≤ k ∧ k < m) : (hi - (hi - k) % m) % m = k := by
  rw [Int.sub_emod, Int.emod_emod, ← Int.sub_emod]
  rw [show hi - (hi - k) = k by omega]
  exact Int.emod_eq_of_lt hk.1 hk.2
end Ak
namespace Ak
open PySem PySem.Spec PyProof.Rows L2
/-! ### tuples of numbers and words -/
abbrev Sc := Int ⊕ Str
def scV : Sc → V
  | .inl n => .int n
  | .inr s => .str s
def scD : Sc → PyData
  | .inl n => .int n
  | .inr s => .str s
theorem eqv_sc : ∀ {a b : List Sc}, PyData.eqvAll (a.map scD) (b.map scD) = decide (a = b)
  | [], [] => by simp [PyData.eqvAll]
  | [], _ :: _ => by simp [PyData.eqvAll]
  | _ :: _, [] => by simp [PyData.eqvAll]
  | x :: a, y :: b => by
    have ih := eqv_sc (a := a) (b := b)
    rw [List.map_cons, List.map_cons, PyData.eqvAll, ih]
    cases x with
    | inl x =>
      cases y with
      | inl y =>
        by_cases e : x = y
        · subst e; by_cases e2 : a = b <;> simp [scD, PyData.eqv, e2]
        · simp [scD, PyData.eqv, e]
      | inr y => simp [scD, PyData.eqv]
    | inr x =>
      cases y with
      | inl y => simp [scD, PyData.eqv]
      | inr y =>
        by_cases e : x = y
        · subst e; by_cases e2 : a = b <;> simp [scD, PyData.eqv, e2]
        · simp [scD, PyData.eqv, e]
def scOk : Sc → Bool
  | .inl _ => true
  | .inr s => PySem.PyData.strOk s
theorem lay_sc : ∀ ns : List Sc, ns.all scOk = true → PyData.canLayAll0 (ns.map scD) = true ∧ PyData.depthAll (ns.map scD) ≤ 1
  | [], _ => by simp [PyData.canLayAll0, PyData.depthAll]
  | .inl n :: ns, h => by
    obtain ⟨h1, h2⟩ := lay_sc ns (by simpa [scOk] using h)
    simp only [List.map_cons, scD, PyData.canLayAll0, PyData.depthAll, PyData.canLay0, PyData.depth, h1, Bool.and_self, true_and]
    omega
  | .inr n :: ns, h => by
    have h : PySem.PyData.strOk n = true ∧ ns.all scOk = true := by simpa [scOk] using h
    obtain ⟨h1, h2⟩ := lay_sc ns h.2
    simp only [List.map_cons, scD, PyData.canLayAll0, PyData.depthAll, PyData.canLay0, PyData.depth, h1, h.1, Bool.and_self, true_and]
    omega
theorem shaped_sc {ns : List Sc} (h : ns.all scOk = true) : SeqAt.shaped (.tuple (ns.map scD)) = true := by
  obtain ⟨h1, h2⟩ := lay_sc ns h
  unfold SeqAt.shaped
  simp only [PyData.canLay0, PyData.depth, h1, Bool.true_and]
  exact decide_eq_true (by omega)
section
variable {K : PySem.W.Frag} {H : Hp} {a b : Addr} {Q : VK}
theorem dpa_sc : ∀ ns : List Sc, DpAll K H (ns.map scV) (ns.map scD)
  | [] => .nil
  | .inl n :: ns => .cons (.int n) (dpa_sc ns)
  | .inr n :: ns => .cons (.str n) (dpa_sc ns)
theorem g_eqSc {m n : List Sc} (o1 : m.all scOk = true) (o2 : n.all scOk = true) (h1 : SqT K H a (m.map scV)) (h2 : SqT K H b (n.map scV)) (q : Q (.bl (decide (m = n))) H) : rEqD K (.ref a) (.ref b) H Q :=
  ⟨_, _, .tup h1 (dpa_sc m), .tup h2 (dpa_sc n), shaped_sc o1, shaped_sc o2, by rw [PyData.eqv, eqv_sc]; exact q⟩
theorem g_neSc {m n : List Sc} (o1 : m.all scOk = true) (o2 : n.all scOk = true) (h1 : SqT K H a (m.map scV)) (h2 : SqT K H b (n.map scV)) (q : Q (.bl (decide (m ≠ n))) H) : rNeD K (.ref a) (.ref b) H Q :=
  ⟨_, _, .tup h1 (dpa_sc m), .tup h2 (dpa_sc n), shaped_sc o1, shaped_sc o2, by rw [PyData.eqv, eqv_sc, ← decide_not]; exact q⟩
end
/-! ### enumerate of a list -/
section
variable {K : PySem.W.Frag} {σ : L2.St} {H : Hp} {g : TG} {t : TS} {tr : TA} {nx bk ct : L2.St → Hp → Prop} {rt : VK} {a : Addr} {xs : List V}
def cForE (K : PySem.W.Frag) (g : TG) (tb : TS) (D : Ends) (σ : L2.St) : List V → Hp → Prop := fun vs H1 => ∃ a xs, vs = [.ref a] ∧ SqL K H1 a xs ∧
  ∃ W : Nat → Nat → L2.St → Hp → Prop, (∃ m, W 0 m σ H1) ∧ ∀ i m σ H, W i m σ H →
  ((Ite K a).stop i H ∧ D.nx σ H) ∨ ((Ite K a).go i H ∧ ∃ N : L2.St → Hp → Prop, (∀ σ' H', N σ' H' → ∃ m', m' < m ∧ W (i + 1) m' σ' H') ∧ ∀ x H', (Ite K a).yld i H x H' → g x σ H' fun σ2 H2 => tb { D with nx := N, ct := N, bk := D.nx } σ2 H2)
theorem k_forE (h : tr σ H (cForE K g t ⟨nx, rt, bk, ct⟩ σ)) : tFor (iEnum K tr) g t ⟨nx, rt, bk, ct⟩ σ H := h
theorem c_forE (Pv : Nat → L2.St → Hp → Prop) (h0 : Pv 0 σ H) (hl : ∀ i σ H, i ≤ xs.length → Pv i σ H → SqL K H a xs)
    (hs : ∀ i x σ H T, xs[i]? = some x → Pv i σ H → H T = none → g (.ref T) σ (upd H T (.tup [.int (i : Nat), x])) fun σ2 H2 => t ⟨Pv (i + 1), rt, nx, Pv (i + 1)⟩ σ2 H2) (hd : ∀ σ H, Pv xs.length σ H → nx σ H) : cForE K g t ⟨nx, rt, bk, ct⟩ σ [.ref a] H := by
  refine ⟨a, xs, rfl, hl 0 σ H (Nat.zero_le _) h0, fun i m σ H => m = xs.length - i ∧ i ≤ xs.length ∧ Pv i σ H, ⟨xs.length, by simp, Nat.zero_le _, h0⟩, ?_⟩
  rintro i m σ H ⟨rfl, hi, q⟩
  have sq := hl i σ H hi q
  by_cases lt : i < xs.length
  · refine .inr ⟨⟨xs, xs[i], sq, by simp [lt]⟩, Pv (i + 1), fun σ' H' q' => ⟨xs.length - (i + 1), by omega, rfl, lt, q'⟩, ?_⟩
    rintro x H' ⟨T, y, rfl, hT, rfl, hy⟩
    exact hs i y σ H T (hy xs sq) q hT
  · have e : i = xs.length := by omega
    subst e
    exact .inl ⟨⟨xs, sq, Nat.le_refl _⟩, hd σ H q⟩
end
/-! ### events -/
inductive Ev where
  | send
  | come (n : Int)
  | tell
  | hear (n : Int)
  deriving DecidableEq
def Ev.sc : Ev → List Sc
  | .send => [.inr "send"]
  | .come n => [.inr "come", .inl n]
  | .tell => [.inr "tell"]
  | .hear n => [.inr "hear", .inl n]
theorem Ev.scOk (e : Ev) : e.sc.all Ak.scOk = true := by
  cases e
  · show (PySem.PyData.strOk (PySem.Str.ofString "send") && true) = true
    decide +kernel
  · show (PySem.PyData.strOk (PySem.Str.ofString "come") && true) = true
    decide +kernel
  · show (PySem.PyData.strOk (PySem.Str.ofString "tell") && true) = true
    decide +kernel
  · show (PySem.PyData.strOk (PySem.Str.ofString "hear") && true) = true
    decide +kernel
theorem Ev.sc_inj {e f : Ev} (h : e.sc = f.sc) : e = f := by
  have d1 : ("send" : Str) ≠ "tell" := by decide
  have d2 : ("come" : Str) ≠ "hear" := by decide
  cases e <;> cases f <;> simp_all [Ev.sc]
abbrev Ev.v (e : Ev) : List V := e.sc.map scV
section
variable {K : PySem.W.Frag} {H : Hp} {a b : Addr} {Q : VK}
def Ev.isSend : Ev → Bool
  | .send => true
  | _ => false
def Ev.isTell : Ev → Bool
  | .tell => true
  | _ => false
theorem ev_send (e : Ev) : decide (e.sc = [.inr "send"]) = e.isSend := by
  have d1 : ("come" : Str) ≠ "send" := by decide
  have d2 : ("tell" : Str) ≠ "send" := by decide
  have d3 : ("hear" : Str) ≠ "send" := by decide
  cases e <;> simp_all [Ev.sc, Ev.isSend]
theorem ev_tell (e : Ev) : decide (e.sc = [.inr "tell"]) = e.isTell := by
  have d1 : ("come" : Str) ≠ "tell" := by decide
  have d2 : ("send" : Str) ≠ "tell" := by decide
  have d3 : ("hear" : Str) ≠ "tell" := by decide
  cases e <;> simp_all [Ev.sc, Ev.isTell]
theorem g_evSend {e : Ev} {r : Bool} (hr : e.isSend = r) (h1 : SqT K H a e.v) (h2 : SqT K H b [.str "send"]) (q : Q (.bl r) H) : rEqD K (.ref a) (.ref b) H Q :=
  g_eqSc (m := e.sc) (n := [.inr "send"]) e.scOk (Ev.scOk .send) h1 h2 (by rw [ev_send, hr]; exact q)
theorem g_evTell {e : Ev} {r : Bool} (hr : e.isTell = r) (h1 : SqT K H a e.v) (h2 : SqT K H b [.str "tell"]) (q : Q (.bl r) H) : rEqD K (.ref a) (.ref b) H Q :=
  g_eqSc (m := e.sc) (n := [.inr "tell"]) e.scOk (Ev.scOk .tell) h1 h2 (by rw [ev_tell, hr]; exact q)
/-- a word in a tuple of words -/
theorem g_inW {neg r : Bool} {s : Str} {ws : List V} (h : SqL K H a ws ∨ SqT K H a ws) (hf : ws.all flatV = true) (hr : (if neg then !inV (.str s) ws else inV (.str s) ws) = r) (q : Q (.bl r) H) : rIn K neg (.str s) (.ref a) H Q := ⟨a, ws, rfl, h, rfl, hf, by rw [hr]; exact q⟩
end
/-! ### tuples that stand: many at once -/
section
variable {K : PySem.W.Frag} {D : Option Addr} {M : List Addr} {H0 H H' : Hp} {l : List Cel} {ts : List (Addr × List V)} {a p : Addr} {Q : VK} {xs : List V}
theorem Now.addTs (N : Now K D M H0 H l ts) {L : List (Addr × List V)} (h : ∀ p ∈ L, H p.1 = some (.tup p.2)) : Now K D M H0 H l (ts ++ L) := ⟨N.nd, N.at_, N.mu, N.ow, fun p hp => (List.mem_append.mp hp).elim (N.tp p) (h p), N.af, N.dc⟩
/-- what tuples tell of a list of values -/
def Held (R : Hp → Prop) (H : Hp) : Prop := ∃ L : List (Addr × List V), (∀ p ∈ L, H p.1 = some (.tup p.2)) ∧ ∀ H', (∀ p ∈ L, H' p.1 = some (.tup p.2)) → R H'
theorem held_paired {α : Type} {R : Hp → V → α → Prop} (hR : ∀ H v x, R H v x → Held (fun H' => R H' v x) H) : ∀ {H : Hp} {vs : List V} {xs : List α}, Paired (R H) vs xs → Held (fun H' => Paired (R H') vs xs) H
  | _, _, _, .nil => ⟨[], by simp, fun _ _ => .nil⟩
  | H, _, _, .cons h1 h2 => by
    obtain ⟨L1, a1, b1⟩ := hR _ _ _ h1
    obtain ⟨L2, a2, b2⟩ := held_paired hR h2
    exact ⟨L1 ++ L2, fun p hp => (List.mem_append.mp hp).elim (a1 p) (a2 p), fun H' h => .cons (b1 H' fun p hp => h p (List.mem_append_left _ hp)) (b2 H' fun p hp => h p (List.mem_append_right _ hp))⟩
theorem g_rep {k : Int} {n : Nat} (N : Now K D M H0 H l ts) (hx : H a = some (.lst xs)) (hk : k = (n : Int)) (hn : n ≤ 1000) (hz : xs.length ≤ 100) (q : ∀ p H', Now K D M H0 H' (⟨true, p, .lst (List.replicate n xs).flatten⟩ :: l) ts → Q (.ref p) H') : rRep (.ref a) (.int k) H Q := by
  subst hk
  refine ⟨a, (n : Int), xs, rfl, rfl, hx, by omega, by omega, ?_, fun p hp => ?_⟩
  · have : xs.length * n ≤ 100 * 1000 := Nat.mul_le_mul hz hn
    exact Nat.le_trans this (by decide)
  · have := q p _ (N.newC hp (o := .lst (List.replicate n xs).flatten) trivial)
    exact this
theorem g_rep0 (N : Now K D M H0 H l ts) (hx : H a = some (.lst xs)) (hz : xs.length ≤ 100) (q : ∀ p H', Now K D M H0 H' (⟨true, p, .lst []⟩ :: l) ts → Q (.ref p) H') : rRep (.ref a) (.int 0) H Q :=
  g_rep (n := 0) N hx rfl (by omega) hz fun p H' N' => q p H' N'
theorem g_rep1 (N : Now K D M H0 H l ts) (hx : H a = some (.lst xs)) (hz : xs.length ≤ 100) (q : ∀ p H', Now K D M H0 H' (⟨true, p, .lst xs⟩ :: l) ts → Q (.ref p) H') : rRep (.ref a) (.int 1) H Q :=
  g_rep (n := 1) N hx rfl (by omega) hz fun p H' N' => q p H' (by
    have e : (List.replicate 1 xs).flatten = xs := by simp
    rw [e] at N'
    exact N')
/-- how many cells: another order of three parts -/
theorem Now.turn {l1 l2 l3 : List Cel} (N : Now K D M H0 H (l1 ++ (l2 ++ l3)) ts) : Now K D M H0 H (l2 ++ (l1 ++ l3)) ts := N.perm (List.perm_append_comm_assoc l2 l1 l3)
end
end Ak
namespace Ak
open PySem PySem.Spec PyProof.Rows L2
/-! ### exceptions: own classes without own __init__ -/
structure ExK (K : PySem.W.Frag) (mg : Str → Option Value) (x : Str) (C : Addr) : Prop where
  g : mg x = some (.ref C)
  kp : PySem.W.keepIn K (.ref C) = true
  ei : PySem.W.excIn K C veTail "ValueError.__new__" = true
  sb : PySem.W.subIn K (.ref C) (.type "BaseException") = some true
  ty : PySem.W.typeIn K (.ref C) = some (.type "type")
theorem exKB_ok {K : PySem.W.Frag} {mg : Str → Option Value} {x : Str} {C : Addr} (g : mg x = some (.ref C)) (h : exKB K C = true) : ExK K mg x C := by
  unfold exKB at h
  simp only [Bool.and_eq_true, decide_eq_true_eq] at h
  exact ⟨g, h.1, h.2.1, h.2.2.1, h.2.2.2⟩
theorem ps_raiseK {X : Cx} {W : WX} {x m : Str} {C : Addr} {j : Nat} {p p2 pos pos2 : Pos} (hc : X.calm = true) (tk : Takes X W) (T : ExK X.K X.mg x C) (hg : Gl X x) (hdb : (x == ("__debug__" : Str)) = false := by decide) :
    PS X (.Raise (some (.Call (.Name x p) [.Constant (.str m) j p2] [] pos)) none pos2) (fun _ σ H => W (.ref C) none σ H) :=
  ps_raise hc tk (pmk_own PySem.F.excBase_ValueError T.ei T.g T.kp (raises_own T.sb T.ty) hg hdb)
theorem pe_nev {X : Cx} {e : Expr} : PE X e (fun _ _ _ => False) := ⟨fun _ _ _ _ _ _ h => h.elim⟩
/-- a def that makes lambdas: its code object is told -/
theorem okC {P : Program} {w : World} {K : PySem.W.Frag} {mg : Str → Option Value} {base : Heap} {x qual : Str} {params : Arguments} {body : List Stmt} {scope : Scope} {dvs : List V} {kws : List (Str × V)} {f : Addr} {fd : FuncData}
    {CX : CXT} {N ps : List Str} {k : Nat} {sp : Sp} (F : FunD K x qual params body scope dvs kws f fd) (S : FnScope N ps scope) (len : ∀ vs H Q E, sp vs H Q E → vs.length = ps.length)
    (hbody : ∀ (c : Addr) (A : Around) (outer : List Env) (s : Shared) (H : Hp) (vs : List V) (Q : VK) (E : XK), fd.code = .ref c → Room k (A.deeper (envOfC qual scope s.heap.objs.size f (.ref c))) → sp vs H Q E →
      ∃ t, PSs (cxOf CX P w K mg base N qual scope f (.ref c) A outer s H E) body t ∧ t { nx := fun _ H' => Q .non H', rt := Q } (start N vs) H) : FnOk P w K mg base CX (k + 1) f fd ps sp := by
  obtain ⟨oc, od, dV, kV, doc, pm, an, cdv, ct, osl, rfl, lk, hcd, _, _⟩ := F.ex
  obtain ⟨c, rfl⟩ := He.codeIn_ref hcd
  exact fn_of lk hcd S len fun A outer s H vs Q E hr hsp => hbody c A outer s H vs Q E rfl hr hsp
/-! ### list.count, flat items -/
theorem mt_countF_eq {ys : List V} {its : List Value} {y : V} {uy : Value} (rv : Vals ys its) (ry : RelV y uy) (fys : ys.all flatV = true) : its.countP (eqU y) = ys.countP fun z => eqV z y := by
  induction rv with
  | nil => rfl
  | cons r rv ih =>
    rename_i v u vs us
    have h := List.all_eq_true.mp fys
    have h1 : flatV v = true := h v List.mem_cons_self
    have h2 : vs.all flatV = true := List.all_eq_true.mpr fun z hz => h z (List.mem_cons_of_mem _ hz)
    rw [List.countP_cons, List.countP_cons, ih h2, eqU_of r h1]
def rCntF (K : PySem.W.Frag) : V → List V → Hp → VK → Prop := fun x xs H Q => ∃ (p : Addr) (ys : List V) (y : V), x = .ref p ∧ xs = [y] ∧ SqL K H p ys ∧ flatV y = true ∧ ys.all flatV = true ∧ Q (.int ((ys.countP fun z => eqV z y : Nat) : Int)) H
theorem mt_countF {X : Cx} : MtR X "list.count" (rCntF X.K) := by
  intro pins s σ H x xs v us Q I rx rxs h
  obtain ⟨p, ys, y, rfl, rfl, hs, fy, fys, q⟩ := h
  cases rx
  cases rxs with
  | cons ry rt =>
    rename_i uy ut
    cases rt
    obtain ⟨its, rv, ⟨⟨cls, dd, data, sl⟩, n, ho, hc, hdn, hd⟩, hlen⟩ := I.list hs
    simp only at hc hd
    subst hc hd
    refine call_meets PySem.F.slot_list_count ⟨_, ho, rfl⟩ PySem.F.entry_list_count (PySem.F.args_list_count_2 _ _)
      (SeqAt.list_countAt p its.toArray n dd sl uy (eqU y)) ⟨ho, fun u' hu' => mem_eqAt ry fy rv fys u' (by simpa using hu'), ?_⟩
    have ec : its.toArray.toList.countP (eqU y) = ys.countP fun z => eqV z y := mt_countF_eq rv ry fys
    refine ⟨.int ((ys.countP fun z => eqV z y : Nat) : Int), H, I.tok _, ⟨s.toks, ?_⟩, q⟩
    show Value.int ((its.toArray.toList.countP (eqU y) : Nat) : Int) s.toks = Value.int ((ys.countP fun z => eqV z y : Nat) : Int) s.toks
    rw [ec]
/-! ### a caught exception -/
theorem takes_len {X : Cx} {W : WX} (tk : Takes X W) : Takes X (fun cls d σ H => σ.length = X.N.length → W cls d σ H) := fun u s' ⟨a, B, sI, pins, σ, H, cls, d, e, I, nb, up, sky, na, os, ag, h⟩ =>
  tk u s' ⟨a, B, sI, pins, σ, H, cls, d, e, I, nb, up, sky, na, os, ag, h I.len⟩
/-- isinstance(e, c), e the exception of the suite -/
def rIsEg (K : PySem.W.Frag) (cls : Value) (d : Option Addr) (a : Addr) : List V → Hp → VK → Prop := fun xs H Q => ∃ (D : Addr) (c : V) (cv : Value) (b : Bool), cls = .ref D ∧ d = none ∧ ExcC K D ∧ xs = [.ref a, c] ∧ (∀ u, RelV c u → u = cv) ∧ PySem.W.kitOne K (.ref D) cv = some b ∧ Q (.bl b) H
theorem call_isEg {X : Cx} {a : Addr} {cls : Value} {d : Option Addr} {oe : Obj} {pn : List (Addr × Obj)} (hz : Zc cls d oe) (hf : ∃ vs, oe.data = .fields vs) : CallR (X.suite a ((a, oe) :: pn)) (.builtin "isinstance") (rIsEg X.K cls d a) := by
  intro pins s σ H xs us Q I r h
  obtain ⟨D, c, cv, b, rfl, rfl, C, e1, e2, e3, q⟩ := h
  exact call_isE C hz hf pins s σ H xs us Q I r ⟨c, cv, b, e1, e2, e3, q⟩
/-- the kinds of refusals by name -/
structure Kin (mg : Str → Option Value) (c1 c2 c3 c4 c5 c6 cb : Addr) : Prop where
  g1 : mg "BadSetting" = some (.ref c1)
  g2 : mg "BadMark" = some (.ref c2)
  g3 : mg "BadBits" = some (.ref c3)
  g4 : mg "Full" = some (.ref c4)
  g5 : mg "BadEvent" = some (.ref c5)
  g6 : mg "BadText" = some (.ref c6)
  gb : mg "BitsError" = some (.ref cb)
  ve : mg "ValueError" = none
/-- D is the kind n among them -/
structure Kof (K : PySem.W.Frag) (c1 c2 c3 c4 c5 c6 cb D : Addr) (n : Nat) : Prop where
  c : ExcC K D
  k1 : PySem.W.kitOne K (.ref D) (.ref c1) = some (decide (n = 1))
  k2 : PySem.W.kitOne K (.ref D) (.ref c2) = some (decide (n = 2))
  k3 : PySem.W.kitOne K (.ref D) (.ref c3) = some (decide (n = 3))
  k4 : PySem.W.kitOne K (.ref D) (.ref c4) = some (decide (n = 4))
  k5 : PySem.W.kitOne K (.ref D) (.ref c5) = some (decide (n = 5))
  k6 : PySem.W.kitOne K (.ref D) (.ref c6) = some (decide (n = 6))
  kv : PySem.W.kitOne K (.ref D) (.type "ValueError") = some true
  m : PySem.W.exmOne K (.ref D) (.ref cb) = some true
theorem excCB_ok {K : PySem.W.Frag} {D : Addr} (h : excCB K D = true) : ExcC K D := by
  unfold excCB at h
  simp only [Bool.and_eq_true, decide_eq_true_eq] at h
  obtain ⟨h1, h2, h3, h4, h5, h6, h7, h8⟩ := h
  exact ⟨h1, h2, h3, h4, h5, h6, h7, h8⟩
theorem kofB_ok {K : PySem.W.Frag} {c1 c2 c3 c4 c5 c6 cb D : Addr} {n : Nat} (h : kofB K c1 c2 c3 c4 c5 c6 cb D n = true) : Kof K c1 c2 c3 c4 c5 c6 cb D n := by
  unfold kofB at h
  simp only [Bool.and_eq_true, decide_eq_true_eq] at h
  obtain ⟨h0, h1, h2, h3, h4, h5, h6, h7, h8⟩ := h
  exact ⟨excCB_ok h0, h1, h2, h3, h4, h5, h6, h7, h8⟩
def kWord : Nat → Str
  | 1 => "setting"
  | 2 => "mark"
  | 3 => "bits"
  | 4 => "full"
  | 5 => "event"
  | _ => "text"
/-- what _law_told makes of a lambda's reading, where no field is asked -/
def TTold (K : PySem.W.Frag) (c1 c2 c3 c4 c5 c6 cb : Addr) : (XK → Hp → VK → Prop) → Hp → VK → Prop := fun tl H Q =>
  tl (fun cls d H' => ∃ (D : Addr) (n : Nat), cls = .ref D ∧ d = none ∧ Kof K c1 c2 c3 c4 c5 c6 cb D n ∧ (n = 2 ∨ n = 3 ∨ n = 4) ∧ ∀ p H'', Aft [] H' H'' → H'' p = some (.tup [.str (kWord n)]) → Q (.ref p) H'') H Q
theorem g_cntF {K : PySem.W.Frag} {H : Hp} {p : Addr} {ys : List V} {y : V} {n : Nat} {Q : VK} (h : SqL K H p ys) (f1 : flatV y = true) (f2 : ys.all flatV = true) (hn : (ys.countP fun z => eqV z y) = n) (q : Q (.int (n : Int)) H) : rCntF K (.ref p) [y] H Q := ⟨p, ys, y, rfl, rfl, h, f1, f2, by rw [hn]; exact q⟩
theorem g_idx {K : PySem.W.Frag} {H : Hp} {p : Addr} {ys : List V} {y z : V} (j : Nat) {Q : VK} (h : SqL K H p ys) (f1 : flatV y = true) (f2 : ys.all flatV = true) (hz : ys[j]? = some z) (hj : eqV z y = true) (hno : ∀ (m : Nat) (z' : V), m < j → ys[m]? = some z' → eqV z' y = false) (q : Q (.int (j : Int)) H) : rIndex K (.ref p) [y] H Q :=
  ⟨p, ys, y, j, z, rfl, rfl, h, f1, f2, hz, hj, hno, q⟩
theorem mt_indexK {X : Cx} (K : PySem.W.Frag) (h : X.K = K) : MtR X "list.index" (rIndex K) := h ▸ mt_index
theorem mt_countFK {X : Cx} (K : PySem.W.Frag) (h : X.K = K) : MtR X "list.count" (rCntF K) := h ▸ mt_countF
theorem call_isEgK {X : Cx} (K : PySem.W.Frag) (h : X.K = K) {a : Addr} {cls : Value} {d : Option Addr} {oe : Obj} {pn : List (Addr × Obj)} (hz : Zc cls d oe) (hf : ∃ vs, oe.data = .fields vs) : CallR (X.suite a ((a, oe) :: pn)) (.builtin "isinstance") (rIsEg K cls d a) := h ▸ call_isEg hz hf
/-! ### lambdas: tables of code objects beside the cells -/
def plainO : HO → Bool
  | .lst _ => true
  | .dK _ => true
  | .ins _ _ _ => true
  | _ => false
theorem tabs_aft {T : List (Addr × Str)} {M : List Addr} {H H' : Hp} (t : LamX.Tabs T H) (A : Aft M H H') (hM : ∀ b ∈ M, ∃ o, H b = some o ∧ plainO o = true) : LamX.Tabs T H' := fun p hp => by
  obtain ⟨ps, h1, h2, h3⟩ := t p hp
  have nP : p.1 ∉ M := fun m => by
    obtain ⟨o, e1, e2⟩ := hM _ m
    rw [h1] at e1
    rw [← Option.some.inj e1] at e2
    cases e2
  refine ⟨ps, A.k _ _ h1 nP, h2, fun pos cv hc => ?_⟩
  obtain ⟨c, e, hco⟩ := h3 pos cv hc
  refine ⟨c, e, A.k _ _ hco fun m => ?_⟩
  obtain ⟨o, e1, e2⟩ := hM _ m
  rw [hco] at e1
  rw [← Option.some.inj e1] at e2
  cases e2
section
variable {K : PySem.W.Frag} {M : List Addr} {H0 H H1 H2 : Hp} {l : List Cel} {ts : List (Addr × List V)} {d : Addr} {T : List (Addr × Str)}
theorem Now.tabs (N : Now K (some d) M H0 H l ts) (t : LamX.Tabs T H) (hl : ∀ c ∈ l, plainO c.o = true) (A : Aft (d :: l.map Cel.a) H H2) : LamX.Tabs T H2 := tabs_aft t A fun b hb => by
  rcases List.mem_cons.mp hb with e | e
  · subst e
    obtain ⟨_, _, _, _, _, h, _⟩ := (N.dc b rfl).1.ex
    exact ⟨_, h, rfl⟩
  · obtain ⟨c, hc, rfl⟩ := List.mem_map.mp e
    exact ⟨_, N.at_ c hc, hl c hc⟩
theorem Now.reb (N : Now K (some d) M H0 H l ts) : Now K (some d) (d :: l.map Cel.a) H H l ts :=
  .start N.nd (fun c hc => ⟨N.at_ c hc, N.mu c hc, fun _ => List.mem_cons_of_mem _ (List.mem_map.mpr ⟨c, hc, rfl⟩)⟩) N.tp fun e he => by
    cases he
    obtain ⟨h1, h2, h3⟩ := N.dc d rfl
    exact ⟨h1, List.mem_cons_self, h3⟩
theorem Now.extN (N : Now K (some d) M H0 H l ts) (e : LamX.ExtN H H1) : Now K (some d) (d :: l.map Cel.a) H1 H1 l ts :=
  .start N.nd (fun c hc => ⟨e _ _ (N.at_ c hc) (fun ps z => by
      have m := N.mu c hc
      rw [z] at m
      exact m), N.mu c hc, fun _ => List.mem_cons_of_mem _ (List.mem_map.mpr ⟨c, hc, rfl⟩)⟩) (fun p hp => e _ _ (N.tp p hp) (fun ps z => by cases z)) fun e' he => by
    cases he
    obtain ⟨⟨a, ns, i, m, r, h1, h2, h3⟩, _, h5⟩ := N.dc d rfl
    refine ⟨⟨a, ns, i, m, r, e _ _ h1 (fun ps z => by cases z), ?_, h3⟩, List.mem_cons_self, h5⟩
    rcases h2 with ⟨u, h⟩ | h
    · exact .inl ⟨u, e _ _ h (fun ps z => by cases z)⟩
    · exact .inr h
theorem k_lam {TT : (XK → Hp → VK → Prop) → Hp → VK → Prop} {t : XK → TE} {σ : L2.St} {Q : VK} (hT : LamX.Tabs T H) (h : ∀ H1, LamX.ExtN H H1 → LamX.Tabs T H1 → TT (fun E H' Q' => t E σ H' Q') H1 Q) : LamX.tLam T TT t σ H Q := ⟨hT, h⟩
end
/-! ### a block under a lock, or as it is -/
theorem pss_lockA {X : Cx} {sts : List Stmt} {t : TS} (h : PSs X sts t) : PSs X sts (fun D σ H => t D σ H ∨ tLock t D σ H) := ⟨fun pins s σ H D I z => by
  rcases z with z | ⟨e, o, he, mo, z⟩
  · exact h.run pins s σ H D I z
  · obtain ⟨oo, J⟩ := I.lock he mo
    have back : ∀ {σ' : L2.St} {H' : Hp} {s' : Shared}, Inv X pins σ' H' s' → H' e = some (.frz oo o) → Inv X pins σ' (upd H' e o) s' := fun J' q => J'.unlock q (I.nofrz he mo)
    refine wpAny_mono (h.run pins s σ _ _ J (z oo)) (fun f s1 q => ?_) (fun _ _ q => q)
    cases f with
    | ret v =>
      obtain ⟨x, σ1, H1, J1, rx, q1, q2⟩ := q
      exact ⟨x, σ1, upd H1 e o, back J1 q1, rx, q2⟩
    | next =>
      obtain ⟨σ1, H1, J1, q1, q2⟩ := q
      exact ⟨σ1, upd H1 e o, back J1 q1, q2⟩
    | brk =>
      obtain ⟨σ1, H1, J1, q1, q2⟩ := q
      exact ⟨σ1, upd H1 e o, back J1 q1, q2⟩
    | cont =>
      obtain ⟨σ1, H1, J1, q1, q2⟩ := q
      exact ⟨σ1, upd H1 e o, back J1 q1, q2⟩⟩
/-- tables and locks -/
structure TZ (T : List (Addr × Str)) (Z : List (Addr × Obj × HO)) (H : Hp) : Prop where
  t : LamX.Tabs T H
  z : ∀ p ∈ Z, H p.1 = some (.frz p.2.1 p.2.2)
section
variable {K : PySem.W.Frag} {M : List Addr} {H0 H H1 H2 : Hp} {l : List Cel} {ts : List (Addr × List V)} {d : Addr} {T : List (Addr × Str)} {Z : List (Addr × Obj × HO)}
theorem TZ.aft (h : TZ T Z H) (N : Now K (some d) M H0 H l ts) (hl : ∀ c ∈ l, plainO c.o = true) (A : Aft (d :: l.map Cel.a) H H2) : TZ T Z H2 := ⟨N.tabs h.t hl A, fun p hp => A.z _ _ _ (h.z p hp)⟩
theorem TZ.aft0 (h : TZ T Z H) (A : Aft [] H H2) : TZ T Z H2 := ⟨tabs_aft h.t A (by simp), fun p hp => A.z _ _ _ (h.z p hp)⟩
theorem TZ.ext (h : TZ T Z H) (e : LamX.ExtN H H1) (t : LamX.Tabs T H1) : TZ T Z H1 := ⟨t, fun p hp => e _ _ (h.z p hp) (fun ps q => by cases q)⟩
/-- the law's core, for a script that is locked, written or not -/
theorem law_core {X : Cx} {sts : List Stmt} {t : TS} {Q : VK} {N : List Str} {a P : Addr} {q : Str} {xs : List V} (hp : PSs X sts t) (hS : SqL X.K H a xs) (hP : H P = some (.tbl #[]))
    (core : ∀ (H : Hp) (Z : List (Addr × Obj × HO)) (D : Ends), (∃ ns : List V, ns = xs) → ((∃ u, H a = some (.frz u (.lst xs))) ∨ (∃ (o : Obj) (its : Array Value) (n : Nat), X.K.lookup a = some o ∧ o.cls = .type "list" ∧ o.dict = none ∧ o.data = .seq its n ∧ its.size ≤ sizeLine ∧ Vals xs its.toList)) → TZ [(P, q)] Z H → (∀ H', (∀ p ∈ Z, H' p.1 = some (.frz p.2.1 p.2.2)) → D.rt (.bl true) H') → t D (L2.start N [.ref a]) H)
    (k : ∀ H', Q (.bl true) H') : ∃ t', PSs X sts t' ∧ t' { nx := fun _ H' => Q .non H', rt := Q } (L2.start N [.ref a]) H := by
  have tb : ∀ H' : Hp, H' P = some (.tbl #[]) → LamX.Tabs [(P, q)] H' := fun H' e p hp => by
    cases List.mem_singleton.mp hp
    exact .nil e
  refine ⟨_, pss_lockA hp, ?_⟩
  rcases hS with (h | h) | h
  · refine .inr ⟨a, .lst xs, h, trivial, fun od => ?_⟩
    have ne : P ≠ a := fun e => by rw [e, h] at hP; cases hP
    refine core _ [(a, od, .lst xs)] _ ⟨_, rfl⟩ (.inl ⟨od, upd_same⟩) ⟨tb _ (by rw [upd_ne ne]; exact hP), fun p hp => ?_⟩ (fun H' hz => ⟨hz (a, od, .lst xs) (by simp), k _⟩)
    cases List.mem_singleton.mp hp
    exact upd_same
  · exact .inl (core H [] _ ⟨_, rfl⟩ (.inl h) ⟨tb _ hP, by simp⟩ (fun H' _ => k H'))
  · exact .inl (core H [] _ ⟨_, rfl⟩ (.inr h) ⟨tb _ hP, by simp⟩ (fun H' _ => k H'))
end
end Ak
namespace Ak
open PySem PySem.Spec PyProof.Rows L2
/-! ### refusals with an own __init__ -/
/-- an own base class at B, by whose name ValueError's __init__ is called -/
structure BaseI (K : PySem.W.Frag) (mg : Str → Option Value) (x : Str) (B : Addr) : Prop where
  g : mg x = some (.ref B)
  rd : PySem.W.readsIn K B (.type "type") = true
  ga : PySem.W.specialIn K (.ref B) "__getattribute__" = some (some (.builtin "type.__getattribute__"))
  at_ : PySem.W.findCls K (.ref B) (.type "type") "__init__" = some (.val (.builtin "ValueError.__init__"))
theorem valOf_ok {o : Option PySem.W.CFound} {v : Value} (h : valOf o = some v) : o = some (.val v) := by
  cases o with
  | none => cases h
  | some c =>
    cases c with
    | val u => cases h; rfl
    | get a b c d => cases h
theorem baseIB_ok {K : PySem.W.Frag} {mg : Str → Option Value} {x : Str} {B : Addr} (g : mg x = some (.ref B)) (h : baseIB K B = true) : BaseI K mg x B := by
  unfold baseIB at h
  simp only [Bool.and_eq_true, decide_eq_true_eq] at h
  exact ⟨g, h.1, h.2.1, valOf_ok h.2.2⟩
/-- B.__init__(self, ..), B an own class over ValueError -/
theorem pe_baseInit {X : Cx} {x : Str} {B : Addr} {e : Expr} {es : List Expr} {ta : TA} {p1 p2 pos : Pos} {pl : Sem Bool} (T : BaseI X.K X.mg x B) (hg : Gl X x) (ha : PA X (e :: es) ta) (hdb : (x == ("__debug__" : Str)) = false := by decide)
    (hc : eval (.Call (.Attribute (.Name x p1) "__init__" p2) (e :: es) [] pos) X.env = (do
      let ov ← eval (.Name x p1) X.env
      standAt p2.atName
      let (f, first) ← holding [ov] (getMethod ov "__init__" pl)
      callWith pos f first (backTo pos (starEach (e :: es) X.env)) (backToKw pos (keywordEach [] X.env))) := by rfl)
    (he : starEach (e :: es) X.env = (false, eval e X.env) :: starEach es X.env := by rfl) (hpl : (backTo pos (starEach es X.env)).any (·.1) = false := by rfl) :
    PE X (.Call (.Attribute (.Name x p1) "__init__" p2) (e :: es) [] pos) (tVeI X.K ta) := by
  refine ⟨fun pins s σ H Q I h => PySem.W.methodCall_KW (ld_glob I hg T.g ?_ hdb) hc⟩
  refine PySem.W.method_cls I.kIn T.ga (PySem.W.cls_value I.kIn T.rd T.at_ (by rfl) ?_)
  refine PyProof.Rows.callWith_method1 (thn (ha.run pos pins _ σ H _ (I.tok _) h) fun us s1 ⟨vs, H1, I1, r1, a, C, ws, ev, hl, T', ea, q⟩ => ?_) he hpl
  subst ev
  cases r1 with
  | @cons _ u0 _ ur ra rw' =>
    cases (show u0 = Value.ref a from ra)
    exact oinit_ok T' I1 ea (by rw [← Paired.length rw', sizeLine_eq]; omega) fun s' J => ⟨.non, H1, J, rfl, q⟩
/-! ### C(v): an own class whose __init__ keeps v under one name -/
def spXI (K : PySem.W.Frag) (C : Addr) (f : Str) : Sp := fun vs H Q _ => ∃ (a : Addr) (v : V), vs = [.ref a, v] ∧ H a = some (exo a C none) ∧ ∀ dx, H dx = none → dx ≠ a → Q .non (upd (upd H dx (exd dx [(f, v)])) a (exo a C (some dx)))
structure ExI (P : Program) (w : World) (K : PySem.W.Frag) (mg : Str → Option Value) (base : Heap) (CX : CXT) (C : Addr) (k : Nat) (x f : Str) : Prop where
  T : OexC K C
  ex : ∃ (fI : Addr) (fd : FuncData) (ps : List Str), FnOk P w K mg base CX k fI fd ps (spXI K C f) ∧ Binds K fd ps [] ∧ PySem.W.findIn K (.ref C) "__init__" = some (some (.ref fI)) ∧ PySem.W.typeIn K (.ref fI) = some (.type "function")
  g : mg x = some (.ref C)
/-- the __init__ of such a class, in the text -/
structure DefX (K : PySem.W.Frag) (mg : Str → Option Value) (C : Addr) (x qual : Str) (st : Stmt) : Prop where
  ex : ∃ (f : Addr) (fd : FuncData), FunD K "__init__" qual (defArgs st) (defBody st) (defScope st) [] [] f fd ∧ Meth K C "__init__" f
  g : mg x = some (.ref C)
theorem DefX.ok {P : Program} {w : World} {K : PySem.W.Frag} {mg : Str → Option Value} {base : Heap} {CX : CXT} {x fl qual : Str} {st : Stmt} {N ps : List Str} {k : Nat} {C : Addr} (F : DefX K mg C x qual st) (T : OexC K C) (S : FnScope N ps (defScope st)) (b : Bd "__init__" qual st ps) (h2 : ps.length = 2)
    (hbody : ∀ (f : Addr) (cdv : Value) (A : Around) (outer : List Env) (s : Shared) (H : Hp) (vs : List V) (Q : VK) (E : XK), Room k (A.deeper (envOfC qual (defScope st) s.heap.objs.size f cdv)) → spXI K C fl vs H Q E →
      ∃ t, PSs (cxOf CX P w K mg base N qual (defScope st) f cdv A outer s H E) (defBody st) t ∧ t { nx := fun _ H' => Q .non H', rt := Q } (start N vs) H) : ExI P w K mg base CX C (k + 1) x fl := by
  obtain ⟨f, fd, F', M⟩ := F.ex
  refine ⟨T, ⟨f, fd, ps, F'.ok S (fun vs H Q E h => ?_) (hbody f), F'.bindsN b, M.at_, ?_⟩, F.g⟩
  · obtain ⟨a, v, rfl, _⟩ := h
    exact h2.symm
  · exact beq_iff_eq.mp M.fn
def cMkO (K : PySem.W.Frag) (C : Addr) (f : Str) (Q : XK) : List V → Hp → Prop := fun vs H1 => vs.length ≤ 1000 ∧ ∀ a, H1 a = none → spXI K C f (.ref a :: (vs ++ [])) (upd H1 a (exo a C none))
  (fun v H2 => v = .non ∧ ∃ (d : Addr) (fs : List (Str × V)), H2 a = some (exo a C (some d)) ∧ H2 d = some (exd d fs) ∧ H1 d = none ∧ Q (.ref C) (some d) (upd (del H2 a) d (.xd fs))) (fun _ _ _ => False)
theorem c_mkO {K : PySem.W.Frag} {C : Addr} {f : Str} {Q : XK} {v : V} {H : Hp} (h : ∀ d, H d = none → Q (.ref C) (some d) (upd H d (.xd [(f, v)]))) : cMkO K C f Q [v] H := by
  refine ⟨by simp, fun a ha => ⟨a, v, rfl, upd_same, fun dx hdx hne => ⟨rfl, dx, [(f, v)], upd_same, ?_, ?_, ?_⟩⟩⟩
  · rw [upd_ne hne]
    exact upd_same
  · rw [← hdx, upd_ne hne]
  · have q := h dx (by rw [← hdx, upd_ne hne])
    have e : upd (del (upd (upd (upd H a (exo a C none)) dx (exd dx [(f, v)])) a (exo a C (some dx))) a) dx (.xd [(f, v)]) = upd H dx (.xd [(f, v)]) := by
      funext b
      by_cases h1 : b = dx
      · rw [h1, upd_same, upd_same]
      · rw [upd_ne h1, upd_ne h1]
        by_cases h2 : b = a
        · rw [h2, del_same, ha]
        · rw [del_ne h2, upd_ne h2, upd_ne h1, upd_ne h2]
    rw [e]
    exact q
def tRaiseI (K : PySem.W.Frag) (C : Addr) (f : Str) (W : WX) (ta : TA) : TS := fun _ σ H => ta σ H (cMkO K C f fun cls d H' => W cls d σ H')
theorem ps_raiseI {X : Cx} {W : WX} {CX : CXT} {C : Addr} {k : Nat} {x f : Str} {e : Expr} {ta : TA} {p pos pos2 : Pos} (hc : X.calm = true) (tk : Takes X W) (T : ExI X.prog X.w X.K X.mg X.base CX C k x f) (hr : Room (k + 1) X.A) (hx : Passes CX X (fun _ _ _ => False)) (hg : Gl X x) (ha : PA X [e] ta)
    (hdb : (x == ("__debug__" : Str)) = false := by decide) (he : starEach [e] X.env = (false, eval e X.env) :: starEach [] X.env := by rfl) (hpl : (backTo pos (starEach [] X.env)).any (·.1) = false := by rfl) :
    PS X (.Raise (some (.Call (.Name x p) [e] [] pos)) none pos2) (tRaiseI X.K C f W ta) := by
  obtain ⟨fI, fd, ps, F1, hb, iC, tI⟩ := T.ex
  exact ps_raise hc tk (pmk_oex T.T iC tI F1 hr hb .nil hx hg T.g ha hdb he hpl)
theorem k_raiseI {K : PySem.W.Frag} {C : Addr} {f : Str} {W : WX} {ta : TA} {D : Ends} {σ : L2.St} {H : Hp} (h : ta σ H (cMkO K C f fun cls d H' => W cls d σ H')) : tRaiseI K C f W ta D σ H := h
/-! steps inside such an __init__ -/
theorem k_veI {K : PySem.W.Frag} {ta : TA} {σ : L2.St} {H : Hp} {Q : VK} (h : ta σ H fun vs H1 => ∃ (a C : Addr) (ws : List V), vs = .ref a :: ws ∧ ws.length ≤ 1000 ∧ OexC K C ∧ H1 a = some (exo a C none) ∧ Q .non H1) : tVeI K ta σ H Q := h
theorem k_ost {K : PySem.W.Frag} {f : Str} {to te : TE} {D : Ends} {σ : L2.St} {H : Hp} (h : te σ H fun y H1 => to σ H1 fun x H2 => ∃ a C : Addr, x = .ref a ∧ OexC K C ∧ PySem.W.findIn K (.ref C) f = some none ∧
  ((H2 a = some (exo a C none) ∧ ∀ dx, H2 dx = none → dx ≠ a → D.nx σ (upd (upd H2 dx (exd dx [(f, y)])) a (exo a C (some dx)))) ∨
    ∃ (dx : Addr) (fs : List (Str × V)), H2 a = some (exo a C (some dx)) ∧ H2 dx = some (exd dx fs) ∧ fs.length ≤ 900 ∧ D.nx σ (upd H2 dx (exd dx ((f, y) :: fs))))) : tOst K f to te D σ H := h
/-! ### facts of the head -/
theorem oexB_ok {K : PySem.W.Frag} {C : Addr} (h : oexB K C = true) : OexC K C := by
  unfold oexB at h
  obtain ⟨h0, h⟩ := Bool.and_eq_true_iff.mp h
  simp only [Bool.and_eq_true, decide_eq_true_eq] at h
  obtain ⟨h1, h2, h3, h4⟩ := h
  refine ⟨?_, h1, h2, h3, h4⟩
  split at h0
  · rename_i t dd cd sl hl
    obtain ⟨q1, g1⟩ := Bool.and_eq_true_iff.mp h0
    obtain ⟨q2, g2⟩ := Bool.and_eq_true_iff.mp g1
    obtain ⟨q3, g3⟩ := Bool.and_eq_true_iff.mp g2
    obtain ⟨q4, q5⟩ := Bool.and_eq_true_iff.mp g3
    clear h0 g1 g2 g3
    have e1 := of_decide_eq_true q1
    subst e1
    obtain ⟨nm, bs, mro, ns, qn, hd, sn, sub, ab, col, del⟩ := cd
    dsimp only at q2 q3 q4
    subst q3
    have e4 : del = false := by simpa using q4
    subst e4
    split at q2
    · rename_i D bm
      obtain ⟨z1, z2⟩ := Bool.and_eq_true_iff.mp q2
      have e2 := of_decide_eq_true z1
      subst e2
      split at q5
      · rename_i k0 k1 k2 k3 n k5 hs
        have e5 := of_decide_eq_true q5
        subst e5
        obtain ⟨l⟩ := sl
        have e6 : l = [k0, k1, k2, k3, some (.builtin "ValueError.__new__"), k5] := hs
        subst e6
        exact ⟨nm, qn, ns, bs, bm, sn, sub, ab, col, dd, k0, k1, k2, k3, k5, hl, z2⟩
      · cases q5
    · cases q2
  · cases h0
/-! ### isinstance of a caught refusal, with or without fields -/
def XDic (d : Option Addr) (H : Hp) : Prop := d = none ∨ ∃ (dd : Addr) (fs : List (Str × V)), d = some dd ∧ H dd = some (.xd fs)
theorem XDic.keep {d : Option Addr} {H H' : Hp} (h : XDic d H) (A : Aft [] H H') : XDic d H' := h.imp id fun ⟨dd, fs, e, z⟩ => ⟨dd, fs, e, A.k _ _ z (by simp)⟩
def rIsEz (K : PySem.W.Frag) (cls : Value) (d : Option Addr) (a : Addr) : List V → Hp → VK → Prop := fun xs H Q => ∃ (D : Addr) (c : V) (cv : Value) (b : Bool), cls = .ref D ∧ XDic d H ∧ ExcC K D ∧ xs = [.ref a, c] ∧ (∀ u, RelV c u → u = cv) ∧ PySem.W.kitOne K (.ref D) cv = some b ∧ Q (.bl b) H
theorem call_isEz {X : Cx} {a : Addr} {cls : Value} {d : Option Addr} {oe : Obj} {pn : List (Addr × Obj)} (hz : Zc cls d oe) (hf : ∃ vs, oe.data = .fields vs) : CallR (X.suite a ((a, oe) :: pn)) (.builtin "isinstance") (rIsEz X.K cls d a) := by
  intro pins s σ H xs us Q I r h
  obtain ⟨D, c, cv, b, rfl, hd, C, rfl, e2, e3, q⟩ := h
  rcases hd with rfl | ⟨dd, fs, rfl, hdd⟩
  · exact call_isE C hz hf pins s σ H _ us Q I r ⟨c, cv, b, rfl, e2, e3, q⟩
  · obtain ⟨u1, u2, rfl, r1, r2⟩ : ∃ u1 u2, us = [u1, u2] ∧ RelV (.ref a) u1 ∧ RelV c u2 := by
      cases r with
      | cons ra rr =>
        cases rr with
        | cons rb rc =>
          cases rc
          exact ⟨_, _, rfl, ra, rb⟩
    cases r1
    cases e2 _ r2
    obtain ⟨ga, _⟩ := I.pin (a, oe) (List.mem_append_left _ List.mem_cons_self)
    obtain ⟨vs, hv⟩ := hf
    have xo : ObjOk X.prog X.w H s.heap dd (.xd fs) := I.hok dd _ hdd
    obtain ⟨mA, hns, _⟩ := xo
    obtain ⟨od, ho, _⟩ := lookIn_ns hns
    have J : PySem.W.InstAt s.heap a oe D (some od) := ⟨ga, hz.1, by unfold PySem.W.notCls; rw [hv] <;> rfl, by rw [hz.2]; exact ho⟩
    obtain ⟨cd, hcd, _⟩ := PySem.W.any_some C.hd
    exact PySem.W.kia_one (PySem.W.kitx_exc (od := some od) (by rw [hcd]; rfl) C.hg C.hk C.hs C.ha C.hn C.ht C.hm) I.kIn J e3 (fun z => nomatch z) fun tk => ⟨.bl b, H, I.kept (t' := tk) fun _ _ z => z, rfl, q⟩
theorem call_isEzK {X : Cx} (K : PySem.W.Frag) (h : X.K = K) {a : Addr} {cls : Value} {d : Option Addr} {oe : Obj} {pn : List (Addr × Obj)} (hz : Zc cls d oe) (hf : ∃ vs, oe.data = .fields vs) : CallR (X.suite a ((a, oe) :: pn)) (.builtin "isinstance") (rIsEz K cls d a) := h ▸ call_isEz hz hf
def cXf (a : Addr) (cls : Value) (d : Option Addr) (C : Addr) (f : Str) (Q : VK) : VK := fun x H1 => x = .ref a ∧ cls = .ref C ∧ ∃ (dd : Addr) (fs : List (Str × V)) (v : V), d = some dd ∧ H1 dd = some (.xd fs) ∧ fs.lookup f = some v ∧ Q v H1
theorem k_xf {a C : Addr} {cls : Value} {d : Option Addr} {f : Str} {te : TE} {σ : L2.St} {H : Hp} {Q : VK} (h : te σ H (cXf a cls d C f Q)) : tXf a cls d C f te σ H Q := h
theorem g_xf {a C dd : Addr} {f : Str} {H : Hp} {Q : VK} {fs : List (Str × V)} {v : V} (h1 : H dd = some (.xd fs)) (h2 : fs.lookup f = some v) (q : Q v H) : cXf a (.ref C) (some dd) C f Q (.ref a) H := ⟨rfl, rfl, dd, fs, v, rfl, h1, h2, q⟩
/-- the fields of the three kinds that have one -/
structure KinX (K : PySem.W.Frag) (c1 c5 c6 : Addr) : Prop where
  x1 : XfC K c1
  x5 : XfC K c5
  x6 : XfC K c6
  n1 : PySem.W.findIn K (.ref c1) "word" = some none
  n5 : PySem.W.findIn K (.ref c5) "number" = some none
  n6 : PySem.W.findIn K (.ref c6) "place" = some none
theorem kinXB_ok {K : PySem.W.Frag} {c1 c5 c6 : Addr} (h : kinXB K c1 c5 c6 = true) : KinX K c1 c5 c6 := by
  unfold kinXB at h
  simp only [Bool.and_eq_true, decide_eq_true_eq] at h
  obtain ⟨h1, h2, h3, h4, h5, h6⟩ := h
  exact ⟨xfB_ok h1, xfB_ok h2, xfB_ok h3, h4, h5, h6⟩
/-- which of them a refusal is, and its field -/
def RefX (K : PySem.W.Frag) (c1 c2 c3 c4 c5 c6 cb : Addr) (cls : Value) (d : Option Addr) (H : Hp) (xs : List V) : Prop := ∃ (D : Addr) (n : Nat), cls = .ref D ∧ Kof K c1 c2 c3 c4 c5 c6 cb D n ∧
  ((d = none ∧ (n = 2 ∨ n = 3 ∨ n = 4) ∧ xs = [.str (kWord n)]) ∨ ∃ (dd : Addr) (fs : List (Str × V)) (v : V), d = some dd ∧ H dd = some (.xd fs) ∧ xs = [.str (kWord n), v] ∧
    ((n = 1 ∧ D = c1 ∧ fs.lookup ("word" : Str) = some v) ∨ (n = 5 ∧ D = c5 ∧ fs.lookup ("number" : Str) = some v) ∨ (n = 6 ∧ D = c6 ∧ fs.lookup ("place" : Str) = some v)))
/-- what _law_told makes of a lambda's reading -/
def TToldX (K : PySem.W.Frag) (c1 c2 c3 c4 c5 c6 cb : Addr) : (XK → Hp → VK → Prop) → Hp → VK → Prop := fun tl H Q =>
  tl (fun cls d H' => ∃ xs, RefX K c1 c2 c3 c4 c5 c6 cb cls d H' xs ∧ ∀ p H'', Aft [] H' H'' → H'' p = some (.tup xs) → Q (.ref p) H'') H Q
theorem k_toldx {K : PySem.W.Frag} {c1 c2 c3 c4 c5 c6 cb : Addr} {t : XK → TE} {σ : L2.St} {H : Hp} {Q : VK}
    (h : t (fun cls d H' => ∃ xs, RefX K c1 c2 c3 c4 c5 c6 cb cls d H' xs ∧ ∀ p H'', Aft [] H' H'' → H'' p = some (.tup xs) → Q (.ref p) H'') σ H Q) : TToldX K c1 c2 c3 c4 c5 c6 cb (fun E H' Q' => t E σ H' Q') H Q := h
/-! ### the observation of the head, the statics with it -/
end Ak
/-! lambdas kept as values: made, held in the heap's picture, run later -/
namespace Lv
open PySem PySem.Spec PyProof.Rows L2
/-- what a lambda is made of -/
structure LF where
  qual : Str
  ar : Arguments
  ex : Expr
  sc : Scope
  cl : List (Str × Addr)
  co : Addr
  dv : Value
abbrev LF.fd (F : LF) (doc pm tv : Value) : FuncData := PySem.W.kdv_fn "<lambda>" F.qual F.ar (.expr F.ex) F.sc F.cl F.dv doc pm (.ref F.co) tv
abbrev LF.nf (F : LF) : NdefX.NF := ⟨"<lambda>", F.qual, F.ar, [], F.sc, F.cl, F.co⟩
/-- the lambda F lies at f -/
def LO (f : Addr) (F : LF) : HO := .ext fun h => ∃ (od : Option Addr) (sl : Array (Option Value)) (doc pm tv : Value), h.get? f = some (⟨.type "function", od, .func (F.fd doc pm tv), sl⟩ : Obj)
theorem lo_ok {P : Program} {w : World} {H : Hp} {h : Heap} {f : Addr} {F : LF} {od : Option Addr} {sl : Array (Option Value)} {doc pm tv : Value} (e : h.get? f = some (⟨.type "function", od, .func (F.fd doc pm tv), sl⟩ : Obj)) : ObjOk P w H h f (LO f F) :=
  ⟨⟨od, sl, doc, pm, tv, e⟩, ⟨_, e⟩, fun _ _ ⟨d1, s1, x1, x2, x3, q⟩ st => ⟨d1, s1, x1, x2, x3, st _ q⟩⟩
theorem lo_at {P : Program} {w : World} {H : Hp} {h : Heap} {f : Addr} {F : LF} (k : HOk P w H h) (e : H f = some (LO f F)) : ∃ (od : Option Addr) (sl : Array (Option Value)) (doc pm tv : Value), h.get? f = some (⟨.type "function", od, .func (F.fd doc pm tv), sl⟩ : Obj) := (k f _ e).1
theorem lo_ne {f : Addr} {F : LF} (ps : Array Value) : LO f F ≠ .tbl ps := fun z => by
  unfold LO at z
  cases z
/-- one more row in the table -/
theorem more_row {H : Hp} {T : List (Addr × Str)} {P c : Addr} {q : Str} {ps : Array Value} {pos : Pos} (hT : LamX.Tabs T H) (hP : H P = some (.tbl ps)) (hs : TriplesOk ps.toList) (ha : ∀ (p : Pos) (v : Value), codeAmong p ps.toList = some v → ∃ a, v = .ref a ∧ H a = some (LamX.CodeO a q))
    (hu : ∀ p ∈ T, p.1 = P → p.2 = q) (hc : H c = none) :
    LamX.ExtN H (upd (upd H P (.tbl (ps ++ #[rawInt pos.line, rawInt pos.col, .ref c]))) c (LamX.CodeO c q)) ∧ LamX.Tabs T (upd (upd H P (.tbl (ps ++ #[rawInt pos.line, rawInt pos.col, .ref c]))) c (LamX.CodeO c q)) := by
  have pc : P ≠ c := fun z => by
    rw [z, hc] at hP
    cases hP
  have old : LamX.ExtN H (upd (upd H P (.tbl (ps ++ #[rawInt pos.line, rawInt pos.col, .ref c]))) c (LamX.CodeO c q)) := fun b o hb hn => by
    have bc : b ≠ c := fun z => by
      rw [z, hc] at hb
      cases hb
    have bP : b ≠ P := fun z => by
      rw [z, hP] at hb
      exact hn ps (Option.some.inj hb).symm
    rw [upd_ne bc, upd_ne bP, hb]
  refine ⟨old, fun p hp => ?_⟩
  have key : ∀ (p' : Pos) (v : Value) (a : Addr), v = .ref a → H a = some (LamX.CodeO a p.2) → ∃ a, v = .ref a ∧ upd (upd H P (.tbl (ps ++ #[rawInt pos.line, rawInt pos.col, .ref c]))) c (LamX.CodeO c q) a = some (LamX.CodeO a p.2) := fun _ v a e1 e2 => ⟨a, e1, old a _ e2 LamX.codeO_ne⟩
  by_cases hb : p.1 = P
  · have hq := hu p hp hb
    rw [hb]
    refine ⟨ps ++ #[rawInt pos.line, rawInt pos.col, .ref c], (upd_ne pc).trans upd_same, ?_, fun p' v hv => ?_⟩
    · rw [Array.toList_append]
      exact PySem.TriplesOk_snoc _ _ _ _ hs
    · rw [Array.toList_append] at hv
      rcases LamX.among_app _ hs hv with z | z
      · obtain ⟨a, e1, e2⟩ := ha p' v z
        exact key p' v a e1 (by rw [hq]; exact e2)
      · exact ⟨c, z, by rw [hq]; exact upd_same⟩
  · obtain ⟨ps', a1, a2, a3⟩ := hT p hp
    have a1c : p.1 ≠ c := fun z => by
      rw [z, hc] at a1
      cases a1
    refine ⟨ps', ((upd_ne a1c).trans (upd_ne hb)).trans a1, a2, fun p' v hv => ?_⟩
    obtain ⟨a, e1, e2⟩ := a3 p' v hv
    exact key p' v a e1 e2
section
variable {X : Cx} {pins : List (Addr × Obj)} {σ : L2.St} {H : Hp} {s : Shared}
/-- a new lambda object is tracked -/
theorem lay {h' : Heap} {tk : Tok} {F : LF} {doc pm tv : Value} (J : Inv X pins σ H { s with heap := h', toks := tk }) : Inv X pins σ (upd H h'.objs.size (LO h'.objs.size F)) { s with heap := h'.push { cls := .type "function", data := .func (F.fd doc pm tv) }, toks := tk } :=
  J.laid (t' := tk) (a := h'.objs.size) (o := LO h'.objs.size F) (h' := h'.push { cls := .type "function", data := .func (F.fd doc pm tv) }) (fun b u z => Heap.get?_push_of_some _ z) (Nat.le_refl _) (lo_ok (Heap.get?_push_size _ rfl))
/-- the lambda comes to be -/
theorem born {T : List (Addr × Str)} {c P : Addr} {q : Str} {ar : Arguments} {ex : Expr} {sc : Scope} {pos : Pos} {dv : Value} {E : Value → Shared → Prop} {Q : Value → Shared → Prop} (I : Inv X pins σ H s) (TB : LamX.TabB X.base X.mg c P) (hco : X.env.code = .ref c)
    (hm : (P, q) ∈ T) (hu : ∀ p ∈ T, p.1 = P → p.2 = q) (hT : LamX.Tabs T H) (hfr : ∀ y ∈ sc.names, y.2 = .free → ∃ a, X.env.cells.lookup y.1 = some a)
    (k : ∀ (f c' : Addr) (H1 : Hp) (s1 : Shared), Inv X pins σ H1 s1 → LamX.ExtN H H1 → LamX.Tabs T H1 → H f = none → H1 f = some (LO f ⟨q, ar, ex, sc, cloFrom X.env.cells sc.names [], c', dv⟩) → H1 c' = some (LamX.CodeO c' q) → Q (.ref f) s1) :
    wpAny (model X.prog X.w) X.A (makeTail "<lambda>" q ar (.expr ex) sc X.env dv .none none pos pos.line) Q E s := by
  obtain ⟨ps, hP, hs, ha⟩ := hT _ hm
  have hp0 : s.heap.get? P = some { cls := .none, data := .fields ps } := I.hok P _ hP
  cases e : codeAmong pos ps.toList with
  | some v =>
    obtain ⟨c', rfl, hc'⟩ := ha pos v e
    refine PySem.W.kdv_makeTailHit (closure_ok hfr) I.ok.glob (I.mod.glob.keeps I.bk) hco (TB.code.keeps I.bk) hp0 hs e (TB.bm.keeps I.bk) fun tv doc h' tk kp hz => ?_
    have J : Inv X pins σ H { s with heap := h', toks := tk } := I.kept kp
    have nf : H h'.objs.size = none := J.hok.fresh (Nat.le_refl _)
    have J2 := lay (F := ⟨q, ar, ex, sc, cloFrom X.env.cells sc.names [], c', dv⟩) (doc := doc) (pm := (X.mg "__name__").getD .none) (tv := tv) J
    have up : ∀ b o, H b = some o → upd H h'.objs.size (LO h'.objs.size ⟨q, ar, ex, sc, cloFrom X.env.cells sc.names [], c', dv⟩) b = some o := fun b o z => by
      rw [upd_ne (ne_of_none z nf), z]
    exact k _ c' _ _ J2 (.of up) (hT.ext up) nf upd_same (up _ _ hc')
  | none =>
    refine PySem.W.kdv_makeTail (closure_ok hfr) I.ok.glob (I.mod.glob.keeps I.bk) hco (TB.code.keeps I.bk) hp0 hs e TB.gP (TB.bm.keeps I.bk) fun c' tv doc h' tk kx c1 c2 rc tb => ?_
    obtain ⟨c3, oc, vs, t, e3, r1, r2, r3⟩ := rc
    cases e3
    have nc : H c' = none := I.hok.fresh c1
    obtain ⟨xn, xt⟩ := more_row (pos := pos) hT hP hs ha hu nc
    have J := LamX.inv_table (t' := tk) (h' := h') (more := #[rawInt pos.line, rawInt pos.col, .ref c']) (q := q) I hP (fun b o hb z => kx b o hb z) tb c1 ⟨oc, vs, t, r1, r2, r3⟩
    generalize hH : upd (upd H P (.tbl (ps ++ #[rawInt pos.line, rawInt pos.col, .ref c']))) c' (LamX.CodeO c' q) = H1 at J xn xt
    have h1c : H1 c' = some (LamX.CodeO c' q) := by
      rw [← hH]
      exact upd_same
    have nf : H1 h'.objs.size = none := J.hok.fresh (Nat.le_refl _)
    have nf0 : H h'.objs.size = none := I.hok.fresh (Nat.le_trans c1 (Nat.le_of_lt c2))
    have J2 := lay (F := ⟨q, ar, ex, sc, cloFrom X.env.cells sc.names [], c', dv⟩) (doc := doc) (pm := (X.mg "__name__").getD .none) (tv := tv) J
    have up : ∀ b o, H1 b = some o → upd H1 h'.objs.size (LO h'.objs.size ⟨q, ar, ex, sc, cloFrom X.env.cells sc.names [], c', dv⟩) b = some o := fun b o z => by
      rw [upd_ne (ne_of_none z nf), z]
    exact k _ c' _ _ J2 (xn.trans (.of up)) (xt.ext up) nf0 upd_same (up _ _ h1c)
end
/-! ### as an expression -/
/-- the reading: mk tells the lambda by its code object and its default's tuple; B: what that tuple holds -/
def tLv (T : List (Addr × Str)) (mk : List (Str × Addr) → Addr → LF) (X : Cx) (sc : Scope) (fr : List Str) (js : List Nat) : TE := fun _ H Q => LamX.Tabs T H ∧
  ∀ (f c' : Addr) (H1 : Hp), LamX.ExtN H H1 → LamX.Tabs T H1 → H f = none → H1 f = some (LO f (mk (cloFrom X.env.cells sc.names []) c')) → H1 c' = some (LamX.CodeO c' (mk (cloFrom X.env.cells sc.names []) c').qual) → NdefX.Caps X (cloFrom X.env.cells sc.names []) fr js → Q (.ref f) H1
section
variable {X : Cx}
theorem pe_lv {T : List (Addr × Str)} {c P : Addr} {ar : Arguments} {ex : Expr} {sc : Scope} {pos : Pos} {fr : List Str} {js : List Nat} (TB : LamX.TabB X.base X.mg c P) (hco : X.env.code = .ref c) (hm : (P, X.env.qual ++ "<lambda>") ∈ T) (hu : ∀ p ∈ T, p.1 = P → p.2 = X.env.qual ++ "<lambda>")
    (hb : NdefX.ndefB X.env.scope sc fr = true) (hjs : js.map (fun j => X.N[j]?) = fr.map some) (hdef : defaultsOf ar X.env = ([], [])) :
    PE X (.Lambda ar ex sc pos) (tLv T (fun cl c' => ⟨X.env.qual ++ "<lambda>", ar, ex, sc, cl, c', .none⟩) X sc fr js) := by
  refine ⟨fun pins s σ H Q I h => ?_⟩
  obtain ⟨hT, h⟩ := h
  have hf : ∀ y ∈ sc.names, y.2 = .free → ∃ a, X.env.cells.lookup y.1 = some a := fun y hy e => (NdefX.ndef_free hb y hy e).elim (fun z => I.ok.has _ (.inl z)) fun z => I.ok.has _ (.inr z)
  refine PySem.W.kla_eval hdef ?_
  rw [makeFunction_eq]
  simp only [List.zip_nil_right, List.filterMap_nil, List.isEmpty_nil, if_true, pure_bind]
  refine born I TB hco hm hu hT hf fun f c' H1 s1 I1 xn xt h0 h1 h2 => ?_
  exact ⟨.ref f, H1, I1, rfl, h f c' H1 xn xt h0 h1 h2 (NdefX.Caps.made I.ok (NdefX.ndef_free hb) (NdefX.ndef_fr hb) hjs)⟩
/-- with one default -/
def tLv1 (T : List (Addr × Str)) (mk : List (Str × Addr) → Addr → Addr → LF) (X : Cx) (sc : Scope) (fr : List Str) (js : List Nat) (te : TE) : TE := fun σ H Q => te σ H fun v H0 => ∀ d, H0 d = none → LamX.Tabs T (upd H0 d (.tup [v])) ∧
  ∀ (f c' : Addr) (H1 : Hp), LamX.ExtN (upd H0 d (.tup [v])) H1 → LamX.Tabs T H1 → H0 f = none → H1 f = some (LO f (mk (cloFrom X.env.cells sc.names []) c' d)) → H1 c' = some (LamX.CodeO c' (mk (cloFrom X.env.cells sc.names []) c' d).qual) → NdefX.Caps X (cloFrom X.env.cells sc.names []) fr js → Q (.ref f) H1
theorem pe_lv1 {T : List (Addr × Str)} {c P : Addr} {ar : Arguments} {ex e0 : Expr} {sc : Scope} {pos : Pos} {fr : List Str} {js : List Nat} {te : TE} (TB : LamX.TabB X.base X.mg c P) (hco : X.env.code = .ref c) (hm : (P, X.env.qual ++ "<lambda>") ∈ T) (hu : ∀ p ∈ T, p.1 = P → p.2 = X.env.qual ++ "<lambda>")
    (hb : NdefX.ndefB X.env.scope sc fr = true) (hjs : js.map (fun j => X.N[j]?) = fr.map some) (hd : ar.defaults = [e0]) (hk : ar.kw_defaults = []) (he : PE X e0 te) :
    PE X (.Lambda ar ex sc pos) (tLv1 T (fun cl c' d => ⟨X.env.qual ++ "<lambda>", ar, ex, sc, cl, c', .ref d⟩) X sc fr js te) := by
  refine ⟨fun pins s σ H Q I h => ?_⟩
  have hf : ∀ y ∈ sc.names, y.2 = .free → ∃ a, X.env.cells.lookup y.1 = some a := fun y hy e => (NdefX.ndef_free hb y hy e).elim (fun z => I.ok.has _ (.inl z)) fun z => I.ok.has _ (.inr z)
  refine PySem.W.kdv_lam (by rw [hd]; rfl) hk ?_
  rw [hd]
  refine PySem.W.kdv_all1 (thn (he.run pins s σ H _ I h) fun u s1 ⟨v, H0, I1, r, q⟩ => PySem.W.kdv_all0 ?_)
  rw [makeFunction_eq]
  simp only [List.zip_nil_right, List.filterMap_nil, List.isEmpty_nil, List.isEmpty_cons, Bool.false_eq_true, if_false, if_true, pure_bind]
  refine wpAny_bind (wpAny_newTextTuple ?_)
  have nd : H0 s1.heap.objs.size = none := I1.hok.fresh (Nat.le_refl _)
  obtain ⟨qT, q⟩ := q _ nd
  have J := I1.laid (t' := s1.toks) (o := .tup [v]) (h' := s1.heap.push { cls := .type "tuple", data := .seq [u].toArray }) (fun b z e => Heap.get?_push_of_some _ e) (Nat.le_refl _) ⟨by show 1 ≤ sizeLine; decide, [u], .cons r .nil, ⟨_, Heap.get?_push_size _ rfl, rfl, _, rfl⟩⟩
  refine born J TB hco hm hu qT hf fun f c' H1 s2 I2 xn xt h0 h1 h2 => ?_
  have hf0 : H0 f = none := by
    by_cases z : f = s1.heap.objs.size
    · rw [z]
      exact nd
    · rw [upd_ne z] at h0
      exact h0
  exact ⟨.ref f, H1, I2, rfl, q f c' H1 xn xt hf0 h1 h2 (NdefX.Caps.made I.ok (NdefX.ndef_free hb) (NdefX.ndef_fr hb) hjs)⟩
end
/-! ### its run -/
/-- what of the cells is known stays so -/
theorem cells_un {cl : List (Str × Addr)} {fr : List Str} {ws : List (Option V)} {fs ex : List Addr} {H H' : Hp} {h h' : Heap} (C : NdefX.CellsAt cl fr ws h H) (u : Un fs ex H H' h h') (hx : ∀ y c, cl.lookup y = some c → c ∉ ex) : NdefX.CellsAt cl fr ws h' H' := by
  have st : ∀ y c v, cl.lookup y = some c → h.IsCell c v → h'.IsCell c v := fun y c v e ⟨o, e1, e2⟩ => by
    obtain ⟨sl, q⟩ := u.any e1 (C.all y c e).1 (hx y c e)
    exact ⟨_, q, e2⟩
  refine ⟨C.len, fun y c e => ?_, C.inj, fun i y e => ?_⟩
  · obtain ⟨n, v, z⟩ := C.all y c e
    obtain ⟨o, e1, _⟩ := id z
    exact ⟨u.free c o e1 n (hx y c e), v, st y c v e z⟩
  · obtain ⟨c, e1, e2⟩ := C.has i y e
    exact ⟨c, e1, fun v ev => let ⟨u', r, z⟩ := e2 v ev; ⟨u', r, st y c _ e1 z⟩⟩
/-- what a kept lambda's run needs to be known of it: its names N (parameters ps, captured fr), its own arguments' values vs, the condition B that holds of these, its body's reading tb -/
structure LvB (P : Program) (w : World) (K : PySem.W.Frag) (mg : Str → Option Value) (base : Heap) (k : Nat) (f : Addr) (F : LF) (N ps fr : List Str) (vs : List V) (B : Hp → Prop) (tb : XK → TE) : Prop where
  sc : NdefX.NScope N ps fr F.sc
  len : vs.length = ps.length
  bind : ∀ (s : Shared) (H : Hp) (doc pm tv : Value), HOk P w H s.heap → B H → ∃ us : List Value, Vals vs us ∧ BindsTo s (F.fd doc pm tv) ⟨[], []⟩ (ps.zip us)
  body : ∀ (A : Around) (outer : List Env) (s : Shared) (H : Hp) (E : XK), Room k (A.deeper (NdefX.envF F.nf f s.heap.objs.size)) → PE (NdefX.ncx (L2.CX P w) P w K mg base N F.nf f A outer s H E) F.ex (tb E)
section
variable {P : Program} {w : World} {K : PySem.W.Frag} {mg : Str → Option Value} {base : Heap} {k : Nat} {f : Addr} {F : LF} {N ps fr : List Str} {vs : List V} {B : Hp → Prop} {tb : XK → TE}
theorem LvB.run (L : LvB P w K mg base k f F N ps fr vs B tb) {A : Around} {outer : List Env} {s : Shared} {H : Hp} {ws : List (Option V)} {Q : VK} {E : XK} (hr : Room (k + 1) A) (e0 : Env0 P w K mg base A outer s H) (hf : H f = some (LO f F)) (hc : H F.co = some (LamX.CodeO F.co F.qual))
    (C : NdefX.CellsAt F.cl fr ws s.heap H) (hB : B H) (q : tb E (NdefX.startF N vs ws) H Q) : codeAny (model P w) A (.call (.ref f) ⟨[], []⟩) (CR (L2.CX P w) outer P w H s Q E) s := by
  obtain ⟨od, sl, doc, pm, tv, ho⟩ := lo_at e0.hok hf
  have lim : s.heap.NoLimit := e0.mod.nolimit.keeps fun b o e => (e0.bs b o e).1
  obtain ⟨us, rel, bind⟩ := L.bind s H doc pm tv e0.hok hB
  refine PySem.W.kla_callFunE hr.depth ho rfl L.sc.co L.sc.gen rfl (NdefX.codeO_at e0.hok hc) (bind _ _ _ _ ?_)
  refine wpAny_newFunctionEnv L.sc.nocell (fun p hp => L.sc.par p.1 (List.of_mem_zip (a := p.1) (b := p.2) hp).1) (fun h1 hn hs => ⟨lim.fresh _ hs, ?_⟩) L.sc.kind
  show codeAny _ _ (.expr F.ex (NdefX.envF F.nf f s.heap.objs.size)) _ _
  have old : ∀ b o, s.heap.get? b = some o → h1.get? b = some o := fun b o e => hs.extBut b o (Nat.ne_of_lt (Heap.lt_size e)) (Heap.get?_push_of_some _ e)
  have J : Inv (NdefX.ncx (L2.CX P w) P w K mg base N F.nf f A outer s H E) [] (NdefX.startF N vs ws) H { s with heap := h1, toks := s.toks + (ps.zip us).length } := NdefX.inv_startN L.sc hr.hd e0 L.len rel C hn old
  refine PySem.W.kla_codeExpr (wpAny_mono ((L.body A outer s H E (hr.deeper _)).run [] _ _ H Q J q) (fun v s' z => ?_) fun _ _ z => z)
  obtain ⟨v', H', J', rv, q'⟩ := z
  exact ⟨v', H', J'.os, J'.bare, J'.base, J'.hok, rv, q'⟩
/-- what the caller of the kept lambda must bring -/
def tlv (f : Addr) (F : LF) (N : List Str) (vs : List V) (ws : List (Option V)) (B : Hp → Prop) (tb : XK → TE) : XK → Hp → VK → Prop := fun E H Q => H f = some (LO f F) ∧ B H ∧ tb E (NdefX.startF N vs ws) H Q
/-- x(), in the def that got it -/
theorem act_lv {ws : List (Option V)} {CXg : CXT} {Eg : XK} {Ng : List Str} {qg : Str} {sg : Scope} {g : Addr} {cdg : Value} {A : Around} {stack : List Env} {s : Shared} {H : Hp} {i : Nat} {a : Str} {pn : List (Addr × Obj)} {xe : Value → Shared → Prop} {W : WX} {E : XK} {p1 p2 : Pos}
    (L : LvB P w K mg base k f F N ps fr vs B tb) (C : NdefX.CellsAt F.cl fr ws s.heap H) (tk : Takes ((cxOf CXg P w K mg base Ng qg sg g cdg A stack s H Eg).tr pn xe) W) (hW : ∀ cls d σ' H', E cls d H' → W cls d σ' H') (hr : Room (k + 1) (A.deeper (envOfC qg sg s.heap.objs.size g cdg)))
    (hN : Ng[i]? = some a) (hv : Vis sg a) (hd : (a == ("__debug__" : Str)) = false := by decide) (hcd : (a == ("__classdict__" : Str)) = false := by decide) :
    PE ((cxOf CXg P w K mg base Ng qg sg g cdg A stack s H Eg).tr pn xe) (.Call (.Name a p1) [] [] p2)
      (fun σZ HZ Q => σZ[i]? = some (some (.ref f)) ∧ HZ F.co = some (LamX.CodeO F.co F.qual) ∧ tlv f F N vs ws B tb E HZ Q) := by
  refine ⟨fun pinsZ sZ σZ HZ Q IZ h => ?_⟩
  obtain ⟨h1, h2, h3, h4, h5⟩ := h
  refine wpAny_Call_Name_kw (thn ((pe_var (pos := p1) (i := i) hN hv hd hcd).run pinsZ sZ σZ HZ (fun v H1 => v = .ref f ∧ H1 = HZ) IZ ⟨.ref f, h1, rfl, rfl⟩) fun u s1 ⟨v, H1, I1, r1, ev, eH⟩ => ?_)
  subst ev
  rw [eH] at I1
  obtain rfl : u = Value.ref f := r1
  have C1 : NdefX.CellsAt F.cl fr ws s1.heap HZ := cells_un C I1.base fun _ _ _ z => nomatch (show _ ∈ ([] : List Addr) from z)
  obtain ⟨od, sl, doc, pm, tv, ho⟩ := lo_at I1.hok h3
  refine PySem.W.callWith_F0 ⟨_, _, _, _, ho⟩ ?_
  refine wpAny_call (codeAny_mono (L.run (E := E) (Q := Q) hr I1.env0 h3 h2 C1 h4 h5) fun r s' z => ?_)
  match r, z with
  | .error e, z => exact passes_call tk hW pinsZ σZ HZ s1 e s' I1 z
  | .ok (.ret u), z => exact I1.after z
end
end Lv
/-! a list comprehension whose tests all say no; its tests know the def's cells -/
namespace Lv
open PySem PySem.Spec PyProof.Rows L2
def tNone (wi : TI) (g : TG) (tt : L2.St → TT) (vs : List Nat) : TE := fun σ H Q => wi σ H fun J H1 => ∀ D, H1 D = none → ∃ (n : Nat) (W : Nat → Hp → Prop), W 0 (upd H1 D (.lst [])) ∧ (∀ H2, W n H2 → J.stop n H2 ∧ Q (.ref D) H2) ∧
  ∀ i H2, i < n → W i H2 → J.go i H2 ∧ ∀ x H3, J.yld i H2 x H3 → g x (wipe σ vs) H3 fun σ4 H4 => wipe σ4 vs = wipe σ vs ∧ tt σ σ4 H4 fun b H5 => b = false ∧ W (i + 1) H5
/-- in every state of the block that began at s, H the def's cells hold what they held -/
def Known (X : Cx) (σ : L2.St) (Z : Cx) : Prop := ∀ (cc : List (Str × Addr)) (fr : List Str) (js : List Nat), NdefX.Caps X cc fr js → ∀ (pins : List (Addr × Obj)) (σ' : L2.St) (H' : Hp) (s' : Shared), Inv Z pins σ' H' s' → NdefX.CellsAt cc fr (js.map (NdefX.slotAt σ)) s'.heap H'
section
variable {X : Cx}
theorem known {pins : List (Addr × Obj)} {σ : L2.St} {H : Hp} {s : Shared} {Z : Cx} (I : Inv X pins σ H s) (e1 : Z.s_0 = s) (e2 : Z.H_0 = H) (hx : ∀ b ∈ Z.ex, ∀ y c, X.env.cells.lookup y = some c → c ≠ b) : Known X σ Z := by
  intro cc fr js cp pins' σ' H' s' J
  have C := NdefX.cells_of I cp
  have u := J.base
  rw [e1, e2] at u
  exact cells_un C u fun y c e z => hx c z y c (cp.sub y c e) rfl
theorem pe_none {elt tg iter : Expr} {ifs : List Expr} {scope : Scope} {own : List (Str × Nat)} {pos : Pos} {wi : TI} {g : TG} {tt : L2.St → TT} (hc : X.calm = true) (hN : X.N.Nodup) (hi : PI X tg iter wi) (ok : BlkOk X.N X.env.scope scope own)
    (hg : ∀ (s : Shared) (H : Hp) (C : Addr) (cl : List (Str × Addr)) (fp : List Addr), PG (X.blk s H scope (compEnvC scope cl C X.env) fp) tg g)
    (ht : ∀ (σ : L2.St) (s : Shared) (H : Hp) (C : Addr) (cl : List (Str × Addr)) (fp : List Addr), Known X σ (X.blk s H scope (compEnvC scope cl C X.env) fp) → PTs (X.blk s H scope (compEnvC scope cl C X.env) fp) ifs (tt σ))
    (hs : ∀ x, foldedSetIterable iter X.env x = pure x := by intro _; rfl) :
    PE X (.ListComp elt [⟨tg, iter, ifs, 0⟩] scope pos) (tNone wi g tt (own.map (·.2))) := by
  refine ⟨fun pins s σ H Q I h => ?_⟩
  rw [eval_ListComp]
  have caught : ∀ y ∈ scope.names, y.2 = .free → ∃ c, X.env.cells.lookup y.1 = some c := fun y hy e => (ok.free y hy e).elim (fun z => I.ok.has _ (.inl z)) fun z => I.ok.has _ (.inr z)
  refine wpAny_comprehension_free (use := none) rfl hs (closure_ok caught) ok.kind (fun y hy e => by rw [ok.uniq y hy, e]) ?_
  refine thn (hi.run pins s σ H _ I h) fun xv sA hA => thn hA fun itv sB hB => ?_
  obtain ⟨it, fp, tn, J, HB, rfl, IB, T, tB, fB, k⟩ := hB
  refine wpAny_newObj_type (newEnv_comp ?_) (by show 0 ≤ sizeLine; decide)
  -- the list, still empty
  have nD : HB sB.heap.objs.size = none := IB.hok.fresh (Nat.le_refl _)
  obtain ⟨n, W, w0, wEnd, wTurn⟩ := k _ nD
  generalize hHL : upd HB sB.heap.objs.size (.lst []) = HL at w0
  obtain ⟨sL, hsL⟩ : ∃ sL : Shared, sL = { sB with heap := sB.heap.push { cls := .type "list", data := .seq ([] : List Value).toArray } } := ⟨_, rfl⟩
  have hpL : sL.heap = sB.heap.push { cls := .type "list", data := .seq ([] : List Value).toArray } := by rw [hsL]
  have IL : Inv X pins σ HL sL := by
    rw [← hHL, hsL]
    exact IB.laid (t' := sB.toks) (fun b o e => Heap.get?_push_of_some _ e) (Nat.le_refl _) ⟨Nat.zero_le _, [], 0, .nil, Heap.get?_push_size _ rfl⟩
  have small : ∀ b ∈ fp, b < sB.heap.objs.size := fun b hb => let ⟨_, e, _⟩ := T.obj _ _ tB b hb; Heap.lt_size e
  have fL : ∀ b ∈ fp, FpOk X pins HL b ∧ b < sL.heap.objs.size := fun b hb => by
    obtain ⟨f1, f2⟩ := fB b hb
    refine ⟨⟨?_, f2⟩, ?_⟩
    · rw [← hHL, upd_ne (Nat.ne_of_lt (small b hb))]
      exact f1
    · rw [hpL, Heap.size_push]
      exact Nat.lt_succ_of_lt (small b hb)
  have tL : tn 0 sL.heap := T.keep _ _ _ tB fun b _ o e => by
    rw [hpL]
    exact Heap.get?_push_of_some _ e
  have kn : Known X σ (X.blk sL HL scope (compEnvC scope (cellsFrom (sL.heap.objs.size + 1) scope.names (cloFrom X.env.cells scope.names [])) sL.heap.objs.size X.env) fp) := known IL rfl rfl fun b hb y c e => (fL b hb).1.2.2.2.2.1 y c e
  have whole : codeAny (model X.prog X.w) X.A (.compStart (.ListComp elt [⟨tg, iter, ifs, 0⟩] scope pos) 0 (.ref it) (.ref sB.heap.objs.size) (compEnvC scope (cellsFrom (sL.heap.objs.size + 1) scope.names (cloFrom X.env.cells scope.names [])) sL.heap.objs.size X.env))
      (compPost (model X.prog X.w) X.A X.xe none (EP X pins σ Q) (.ref sB.heap.objs.size) sL.heap.objs.size) { sL with heap := pushCells (sL.heap.push { cls := .type "dict", data := .dict #[] }) scope.names } := by
    have IZ := block_start IL ok hN fL
    have pt := ht σ sL HL _ _ fp kn
    have pg := hg sL HL sL.heap.objs.size (cellsFrom (sL.heap.objs.size + 1) scope.names (cloFrom X.env.cells scope.names [])) fp
    have tZ : tn 0 ({ sL with heap := pushCells (sL.heap.push { cls := .type "dict", data := .dict #[] }) scope.names } : Shared).heap := T.keep _ _ _ tL fun b _ o e => pushCells_keeps _ _ _ _ (Heap.get?_push_of_some _ e)
    clear kn
    have loc : (compEnvC scope (cellsFrom (sL.heap.objs.size + 1) scope.names (cloFrom X.env.cells scope.names [])) sL.heap.objs.size X.env).locals = sL.heap.objs.size := rfl
    generalize compEnvC scope (cellsFrom (sL.heap.objs.size + 1) scope.names (cloFrom X.env.cells scope.names [])) sL.heap.objs.size X.env = ce at IZ pt pg loc ⊢
    generalize ({ sL with heap := pushCells (sL.heap.push { cls := .type "dict", data := .dict #[] }) scope.names } : Shared) = sZ at IZ tZ ⊢
    have spot : ∀ {σ' : L2.St} {H' : Hp} {s' : Shared}, Inv (X.blk sL HL scope ce fp) [] σ' H' s' → (∀ b ∈ fp, H' b = none) → ∀ b ∈ fp, FpOk (X.blk sL HL scope ce fp) [] H' b := fun {_ _ _} J no b hb =>
      ⟨no b hb, (J.ok.exf b hb).1, J.ok.exfs b hb, .inl hb, fun y c e => (J.ok.exf b hb).2 y c e, fun p hp => by cases hp⟩
    have loop : codeAny (model X.prog X.w) X.A (.compLoop (.ListComp elt [⟨tg, iter, ifs, 0⟩] scope pos) 0 (.ref it) (.ref sB.heap.objs.size) ce) (compPost (model X.prog X.w) X.A X.xe none (EP X pins σ Q) (.ref sB.heap.objs.size) sL.heap.objs.size) sZ := by
      refine compLoop_any (fun m s' => ∃ i H', m = n - i ∧ i ≤ n ∧ Inv (X.blk sL HL scope ce fp) [] (wipe σ (own.map (·.2))) H' s' ∧ tn i s'.heap ∧ (∀ b ∈ fp, H' b = none) ∧ W i H') ?_ n ⟨0, HL, rfl, Nat.zero_le _, IZ, tZ, fun b hb => (fL b hb).1.1, w0⟩
      rintro m s1 ⟨i, H1, rfl, hin, J1, t1, n1, w1⟩
      by_cases e : i = n
      · subst e
        obtain ⟨st, q⟩ := wEnd H1 w1
        refine thnF (T.done (X.blk sL HL scope ce fp) rfl rfl rfl hc i [] s1 _ H1 (fun _ _ => False) J1 (spot J1 n1) t1 st) fun r s2 ⟨hr, J2⟩ => ?_
        subst hr
        have I2 : Inv X pins σ H1 s2 := IL.call' (ch := fp) J2.os J2.base J2.hok J2.bare fun b hb => by
          obtain ⟨_, f1, _, f3, f4, f5⟩ := (fL b hb).1
          exact ⟨f3, f1, f4, f5⟩
        obtain ⟨mm, hn, _⟩ := J2.loc
        have hn : s2.heap.Ns ce.locals mm := hn
        have no : H1 ce.locals = none := J2.free
        rw [loc] at hn no
        obtain ⟨f0, f1, _, f3, f4, f5⟩ := IL.fpOk (H' := H1) (Nat.le_refl _) no
        exact ⟨mm, hn, fun h' sb => ⟨.ref _, H1, I2.turned (t' := s2.toks) (fun b o hb e => (sb.2 b hb).trans e) f0 f1 f3 f4 f5, rfl, q⟩⟩
      · obtain ⟨go, step⟩ := wTurn i H1 (by omega) w1
        refine thnF (T.item (X.blk sL HL scope ce fp) rfl rfl rfl hc i [] s1 _ H1 (fun _ _ => False) J1 (spot J1 n1) t1 go) fun r s2 ⟨u, hr, z⟩ => ?_
        subst hr
        refine thnF z fun _ s3 ⟨x, H3, J3, rx, y3, t3, n3⟩ => ?_
        refine thnF (pg.run _ s3 _ H3 x u _ (J3.pinned (spot J3 n3) (T.obj _ _ t3)) rx (step x H3 y3)) fun _ s4 ⟨σ4, H4, J4, e4, q4⟩ => ?_
        refine thnF (pt.run _ s4 σ4 H4 _ J4 q4) fun b s5 ⟨H5, J5, hb5, w5⟩ => ?_
        subst hb5
        have held : ∀ b ∈ fp, ∀ o, s3.heap.get? b = some o → s5.heap.get? b = some o ∧ H5 b = none := fun b hb o e => by
          obtain ⟨p1, p2, _⟩ := J5.pin (b, o) (List.mem_append_right _ (List.mem_append_right _ (mem_pinsAt hb e)))
          exact ⟨p1, p2⟩
        simp only [Bool.false_eq_true, if_false]
        refine ⟨n - (i + 1), by omega, i + 1, H5, rfl, by omega, (J5.unpinned (pins := [])).weak ?_ (fun j v e => ?_), T.keep _ _ _ t3 fun b hb o e => (held b hb o e).1, fun b hb => ?_, w5⟩
        · rw [← e4, wipe_length]
        · rw [← e4] at e
          exact (wipe_some e).1
        · obtain ⟨o, e, _⟩ := T.obj _ _ t3 b hb
          exact (held b hb o e).2
    exact codeAny_compStart_list loop (T.self X.A 0 _ _ _ tZ loop)
  subst hsL
  exact whole
end
end Lv
/-! x(f), f a kept lambda, x a def that calls what it gets -/
namespace Lv
open PySem PySem.Spec PyProof.Rows L2
/-- f is a kept lambda of the def X; its captured names hold what X's slots σ hold; tl: its reading -/
def IsLv (X : Cx) (k : Nat) (σ : L2.St) (f : Addr) (H : Hp) (tl : XK → Hp → VK → Prop) : Prop := ∃ (F : LF) (N ps fr : List Str) (vs : List V) (B : Hp → Prop) (tb : XK → TE) (js : List Nat), NdefX.Caps X F.cl fr js ∧ H F.co = some (LamX.CodeO F.co F.qual) ∧
  LvB X.prog X.w X.K X.mg X.base k f F N ps fr vs B tb ∧ tl = tlv f F N vs (js.map (NdefX.slotAt σ)) B tb
section
variable {X Z : Cx}
theorem pe_toldv {σ0 : L2.St} (kn : Known X σ0 Z) (eP : Z.prog = X.prog) (eW : Z.w = X.w) (eK : Z.K = X.K) (eM : Z.mg = X.mg) (eB : Z.base = X.base) {TT : (XK → Hp → VK → Prop) → Hp → VK → Prop} {x a : Str} {g : Addr} {k : Nat} {pg : Arguments} {bg : List Stmt} {sg : Scope} {dV kV doc pm cdv ct oc : Value} {an od : Option Addr} {osl : Array (Option Value)} {Ng : List Str} {e : Expr} {ta : TA} {p pos : Pos}
    (hg : Gl Z x) (hm : Z.mg x = some (.ref g)) (hk : PySem.W.keepIn Z.K (.ref g) = true) (lk : Z.K.lookup g = some ⟨oc, od, .func (PySem.W.fnOf x x pg bg sg dV kV doc pm an cdv ct), osl⟩) (hcg : PySem.W.codeIn Z.K cdv x = true) (hb : L2.Binds Z.K (PySem.W.fnOf x x pg bg sg dV kV doc pm an cdv ct) [a] []) (Sg : FnScope Ng [a] sg)
    (hNg : Ng[0]? = some a) (hva : Vis sg a) (hG : ∀ q, LamX.GivesTo Z Ng x sg g cdv bg a q TT) (hr : Room (k + 2) Z.A) (ha : PA Z [e] ta)
    (hdb : (x == ("__debug__" : Str)) = false := by decide) (hd : (a == ("__debug__" : Str)) = false := by decide) (hcd : (a == ("__classdict__" : Str)) = false := by decide)
    (he : starEach [e] Z.env = (false, eval e Z.env) :: starEach [] Z.env := by rfl) (hpl : (backTo pos (starEach [] Z.env)).any (·.1) = false := by rfl) :
    PE Z (.Call (.Name x p) [e] [] pos) (fun σ H Q => ta σ H fun vs H1 => ∃ (f : Addr) (tl : XK → Hp → VK → Prop), vs = [.ref f] ∧ IsLv X k σ0 f H1 tl ∧ TT tl H1 Q) := by
  refine ⟨fun pins s σ H Q I h => ?_⟩
  refine wpAny_Call_Name_kw (ld_glob I hg hm ?_ hdb)
  refine PySem.W.callWith_K (h₀ := Z.base) I.ok.mod.kin hk (thn (ha.run pos pins _ σ H _ I h) fun us s1 ⟨vs, H1, I1, r, f, tl, e1, lv, q⟩ => ⟨I1.kIn, ?_⟩) he hpl
  subst e1
  obtain ⟨F, N, ps, fr, vs', B, tb, js, cp, hco, L, rfl⟩ := lv
  cases r with
  | @cons _ u _ ur r1 r2 =>
    cases r2
    obtain rfl : u = Value.ref f := r1
    rw [← eP, ← eW, ← eK, ← eM, ← eB] at L
    have C := kn F.cl fr js cp pins σ H1 s1 I1
    have rc : codeAny (model Z.prog Z.w) Z.A (.call (.ref g) ⟨[.ref f], []⟩) (CR C8.CX0 Z.stack Z.prog Z.w H1 s1 Q C8.E0) s1 := by
      refine LamX.run_ofS (N := Ng) (ps := [a]) (us := [.ref f]) (vs := [.ref f]) lk hcg Sg hr I1.env0 (hb s1 [.ref f] I1.kIn rfl) (.cons rfl .nil) rfl fun hr' => ?_
      obtain ⟨t', ht', hq'⟩ := hG F.qual f F.co s1 H1 Q _ (fun W pn xe E p1 p2 tk hW => act_lv (i := 0) L C tk hW hr' hNg hva hd hcd) hco q
      exact ⟨t', ht'.nox, hq'⟩
    refine wpAny_call (codeAny_mono rc fun r s2 hq => ?_)
    cases r with
    | error e => exact (show False from hq).elim
    | ok fl =>
      cases fl with
      | ret u => exact I1.after hq
      | next => exact False.elim hq
      | brk => exact False.elim hq
      | cont => exact False.elim hq
end
end Lv
/-! kept lambdas: made with what their runs need; steps for the walk -/
namespace Lv
open PySem PySem.Spec PyProof.Rows L2
def tLvB (T : List (Addr × Str)) (X : Cx) (k : Nat) (N fr : List Str) (js : List Nat) (tb : XK → TE) : TE := fun _ H Q => LamX.Tabs T H ∧ ∀ (f : Addr) (H1 : Hp) (F : LF), LamX.ExtN H H1 → LamX.Tabs T H1 → H f = none → H1 f = some (LO f F) → H1 F.co = some (LamX.CodeO F.co F.qual) →
  NdefX.Caps X F.cl fr js → LvB X.prog X.w X.K X.mg X.base k f F N [] fr [] (fun _ => True) tb → Q (.ref f) H1
def tLvD (T : List (Addr × Str)) (X : Cx) (k : Nat) (N : List Str) (p : Str) (fr : List Str) (js : List Nat) (i : Int) (tb : XK → TE) : TE := fun _ H Q => ∀ d, H d = none → LamX.Tabs T (upd H d (.tup [.int i])) ∧ ∀ (f : Addr) (H1 : Hp) (F : LF), LamX.ExtN (upd H d (.tup [.int i])) H1 → LamX.Tabs T H1 → H f = none → H1 f = some (LO f F) → H1 F.co = some (LamX.CodeO F.co F.qual) →
  NdefX.Caps X F.cl fr js → LvB X.prog X.w X.K X.mg X.base k f F N [p] fr [.int i] (fun H => H d = some (.tup [.int i])) tb → Q (.ref f) H1
section
variable {X : Cx}
theorem pe_lvB {T : List (Addr × Str)} {c P : Addr} {k : Nat} {ar : Arguments} {ex : Expr} {sc : Scope} {pos : Pos} {N fr : List Str} {js : List Nat} {tb : XK → TE} (TB : LamX.TabB X.base X.mg c P) (hco : X.env.code = .ref c) (hm : (P, X.env.qual ++ "<lambda>") ∈ T) (hu : ∀ p ∈ T, p.1 = P → p.2 = X.env.qual ++ "<lambda>")
    (hb : NdefX.ndefB X.env.scope sc fr = true) (hjs : js.map (fun j => X.N[j]?) = fr.map some) (hdef : defaultsOf ar X.env = ([], [])) (S : NdefX.NScope N [] fr sc) (hbind : ∀ (q : Str) (cl : List (Str × Addr)) (doc pm cv tv : Value), bindArgs (PySem.W.kdv_fn "<lambda>" q ar (.expr ex) sc cl .none doc pm cv tv) ⟨[], []⟩ = pure [])
    (hbody : ∀ (cl : List (Str × Addr)) (c' f : Addr) (A : Around) (outer : List Env) (s : Shared) (H : Hp) (E : XK), Room k (A.deeper (NdefX.envF (LF.nf ⟨X.env.qual ++ "<lambda>", ar, ex, sc, cl, c', .none⟩) f s.heap.objs.size)) → PE (NdefX.ncx (L2.CX X.prog X.w) X.prog X.w X.K X.mg X.base N (LF.nf ⟨X.env.qual ++ "<lambda>", ar, ex, sc, cl, c', .none⟩) f A outer s H E) ex (tb E)) :
    PE X (.Lambda ar ex sc pos) (tLvB T X k N fr js tb) := by
  refine ⟨fun pins s σ H Q I h => (pe_lv TB hco hm hu hb hjs hdef).run pins s σ H Q I ⟨h.1, fun f c' H1 xn xt h0 h1 h2 cp => h.2 f H1 _ xn xt h0 h1 h2 cp ⟨S, rfl, fun s H doc pm tv _ _ => ⟨[], .nil, .of_eq (hbind _ _ _ _ _ _)⟩, fun A outer s H E hr => hbody _ _ _ A outer s H E hr⟩⟩⟩
theorem pe_lvD {T : List (Addr × Str)} {c P : Addr} {k : Nat} {ar : Arguments} {ex e0 : Expr} {sc : Scope} {pos : Pos} {N : List Str} {p : Str} {fr : List Str} {js : List Nat} {i : Int} {tb : XK → TE} (TB : LamX.TabB X.base X.mg c P) (hco : X.env.code = .ref c) (hm : (P, X.env.qual ++ "<lambda>") ∈ T) (hu : ∀ p ∈ T, p.1 = P → p.2 = X.env.qual ++ "<lambda>")
    (hb : NdefX.ndefB X.env.scope sc fr = true) (hjs : js.map (fun j => X.N[j]?) = fr.map some) (hd : ar.defaults = [e0]) (hk : ar.kw_defaults = []) (he : PE X e0 (tC (.int i))) (S : NdefX.NScope N [p] fr sc)
    (hbind : ∀ (q : Str) (cl : List (Str × Addr)) (dv doc pm cv tv : Value), ∃ kk : Option (Array Value) → Sem (List (Str × Value)), bindArgs (PySem.W.kdv_fn "<lambda>" q ar (.expr ex) sc cl dv doc pm cv tv) ⟨[], []⟩ = seqItems? dv >>= kk ∧ ∀ u, kk (some #[u]) = pure [(p, u)])
    (hbody : ∀ (cl : List (Str × Addr)) (c' d f : Addr) (A : Around) (outer : List Env) (s : Shared) (H : Hp) (E : XK), Room k (A.deeper (NdefX.envF (LF.nf ⟨X.env.qual ++ "<lambda>", ar, ex, sc, cl, c', .ref d⟩) f s.heap.objs.size)) → PE (NdefX.ncx (L2.CX X.prog X.w) X.prog X.w X.K X.mg X.base N (LF.nf ⟨X.env.qual ++ "<lambda>", ar, ex, sc, cl, c', .ref d⟩) f A outer s H E) ex (tb E)) :
    PE X (.Lambda ar ex sc pos) (tLvD T X k N p fr js i tb) := by
  refine ⟨fun pins s σ H Q I h => (pe_lv1 TB hco hm hu hb hjs hd hk he).run pins s σ H Q I fun d nd => ⟨(h d nd).1, fun f c' H1 xn xt h0 h1 h2 cp => (h d nd).2 f H1 _ xn xt h0 h1 h2 cp ⟨S, rfl, fun s H doc pm tv ho hB => ?_, fun A outer s H E hr => hbody _ _ _ _ A outer s H E hr⟩⟩⟩
  obtain ⟨_, its, r, o, e1, e2, n, e3⟩ := ho d _ hB
  cases r with
  | @cons _ u _ ur r1 r2 =>
    cases r2
    obtain ⟨kk, k1, k2⟩ := hbind (X.env.qual ++ "<lambda>") (cloFrom X.env.cells sc.names []) (.ref d) doc pm (.ref c') tv
    exact ⟨[u], .cons r1 .nil, .of_defaults rfl e1 e3 k1 (k2 u)⟩
end
end Lv
/-! steps of the walk: kept lambdas in a list, told one after the other -/
namespace Ak
open PySem PySem.Spec PyProof.Rows L2
/-- what stands: tables, locks, lambdas -/
structure TL (T : List (Addr × Str)) (Z : List (Addr × Obj × HO)) (L : List (Addr × HO)) (H : Hp) : Prop where
  tz : TZ T Z H
  l : ∀ p ∈ L, H p.1 = some p.2 ∧ ∃ φ, p.2 = .ext φ
section
variable {K : PySem.W.Frag} {M : List Addr} {H0 H H1 H2 : Hp} {l : List Cel} {ts : List (Addr × List V)} {d : Addr} {T : List (Addr × Str)} {Z : List (Addr × Obj × HO)} {L : List (Addr × HO)}
theorem TL.aft (h : TL T Z L H) (N : Now K (some d) M H0 H l ts) (hl : ∀ c ∈ l, plainO c.o = true) (A : Aft (d :: l.map Cel.a) H H2) : TL T Z L H2 := ⟨h.tz.aft N hl A, fun p hp => by
  obtain ⟨e, φ, q⟩ := h.l p hp
  refine ⟨A.k _ _ e fun z => ?_, φ, q⟩
  rcases List.mem_cons.mp z with z | z
  · obtain ⟨_, _, _, _, _, h1, _⟩ := (N.dc d rfl).1.ex
    rw [z, h1, q] at e
    cases e
  · obtain ⟨c, hc, z⟩ := List.mem_map.mp z
    have e2 := N.at_ c hc
    rw [z, e, q] at e2
    have := hl c hc
    rw [← Option.some.inj e2] at this
    cases this⟩
theorem TL.aft0 (h : TL T Z L H) (A : Aft [] H H2) : TL T Z L H2 := ⟨h.tz.aft0 A, fun p hp => ⟨A.k _ _ (h.l p hp).1 (by simp), (h.l p hp).2⟩⟩
theorem TL.ext (h : TL T Z L H) (e : LamX.ExtN H H1) (t : LamX.Tabs T H1) : TL T Z L H1 := ⟨h.tz.ext e t, fun p hp => by
  obtain ⟨q, φ, z⟩ := h.l p hp
  exact ⟨e _ _ q (fun ps y => by rw [z] at y; cases y), φ, z⟩⟩
theorem TL.add {a : Addr} {φ : Heap → Prop} (h : TL T Z L H) (e : H a = some (.ext φ)) : TL T Z ((a, .ext φ) :: L) H := ⟨h.tz, fun p hp => by
  rcases List.mem_cons.mp hp with z | z
  · rw [z]
    exact ⟨e, φ, rfl⟩
  · exact h.l p z⟩
end
/-- told, f gives xs -/
def Gives (X : Cx) (k : Nat) (σ : L2.St) (c1 c2 c3 c4 c5 c6 cb : Addr) (f : Addr) (xs : List V) (H : Hp) : Prop := ∀ H', Aft [] H H' → ∃ tl : XK → Hp → VK → Prop, Lv.IsLv X k σ f H' tl ∧
  ∀ Q : VK, (∀ p H'', Aft [] H' H'' → H'' p = some (.tup xs) → Q (.ref p) H'') → TToldX X.K c1 c2 c3 c4 c5 c6 cb tl H' Q
theorem gives_of {X : Cx} {k : Nat} {σ : L2.St} {c1 c2 c3 c4 c5 c6 cb : Addr} {f : Addr} {xs : List V} {H : Hp} {F : Lv.LF} {N ps fr : List Str} {vs : List V} {B : Hp → Prop} {tb : XK → TE} {js : List Nat} (hf : H f = some (Lv.LO f F)) (hc : H F.co = some (LamX.CodeO F.co F.qual)) (cp : NdefX.Caps X F.cl fr js)
    (L : Lv.LvB X.prog X.w X.K X.mg X.base k f F N ps fr vs B tb) (hB : ∀ H', Aft [] H H' → B H')
    (h : ∀ (H' : Hp) (Q : VK) (E : XK), Aft [] H H' → (∀ cls d H'', RefX X.K c1 c2 c3 c4 c5 c6 cb cls d H'' xs → Aft [] H' H'' → E cls d H'') → tb E (NdefX.startF N vs (js.map (NdefX.slotAt σ))) H' Q) : Gives X k σ c1 c2 c3 c4 c5 c6 cb f xs H := fun H' A => by
  refine ⟨_, ⟨F, N, ps, fr, vs, B, tb, js, cp, A.k _ _ hc (by simp), L, rfl⟩, fun Q q => ?_⟩
  refine ⟨A.k _ _ hf (by simp), hB H' A, h H' Q _ A fun cls d H'' r A2 => ⟨xs, r, fun p H3 A3 hp => q p H3 (A2.trans A3) hp⟩⟩
theorem Gives.keep {X : Cx} {k : Nat} {σ : L2.St} {c1 c2 c3 c4 c5 c6 cb : Addr} {f : Addr} {xs : List V} {H H' : Hp} (g : Gives X k σ c1 c2 c3 c4 c5 c6 cb f xs H) (A : Aft [] H H') : Gives X k σ c1 c2 c3 c4 c5 c6 cb f xs H' := fun H2 A2 => g H2 (A.trans A2)
/-- the reading of the comprehension's test: told, it is not xs -/
def tNe (X : Cx) (k : Nat) (c1 c2 c3 c4 c5 c6 cb : Addr) (r : R2) (ta : TA) (tu : TE) (σ0 : L2.St) : TT := tTest (tOp r (fun σ H Q => ta σ H fun vs H1 => ∃ (f : Addr) (tl : XK → Hp → VK → Prop), vs = [.ref f] ∧ Lv.IsLv X k σ0 f H1 tl ∧ TToldX X.K c1 c2 c3 c4 c5 c6 cb tl H1 Q) tu)
section
variable {X : Cx} {K : PySem.W.Frag} {D : Option Addr} {M : List Addr} {H0 H : Hp} {l : List Cel} {ts : List (Addr × List V)} {a : Addr} {xs : List V} {σ : L2.St} {tt : L2.St → TT} {tl : TE} {vs : List Nat} {Q : VK} {j : Nat}
/-- no item passes: the empty list -/
theorem c_none (hx : SqL K H a xs) (hl : ∀ k : VK, k (.ref a) H → tl σ H k) (hw : ∀ x, wipe ((wipe σ vs).set j (some x)) vs = wipe σ vs)
    (hs : ∀ (x : V) (H' : Hp) (R : Bool → Hp → Prop), x ∈ xs → Aft [] H H' → (∀ H2, Aft [] H' H2 → R false H2) → tt σ ((wipe σ vs).set j (some x)) H' R) (q : ∀ p H', H p = none → Aft [] H H' → H' p = some (.lst []) → Q (.ref p) H') : Lv.tNone (iList K tl) (gName j) tt vs σ H Q := by
  refine hl _ ?_
  refine ⟨a, rfl, ⟨xs, hx⟩, fun Dd hD => ⟨xs.length, fun _ H' => Aft [] H H' ∧ H' Dd = some (.lst []), ⟨Aft.refl.new hD, upd_same⟩, fun H' ⟨A, e⟩ => ⟨⟨xs, A.sql hx, Nat.le_refl _⟩, q Dd H' hD A e⟩, fun i H' hi ⟨A, e⟩ => ⟨⟨xs, xs[i], A.sql hx, List.getElem?_eq_getElem hi⟩, fun x H2 ⟨e2, hy⟩ => ?_⟩⟩⟩
  subst e2
  have hxi := hy xs (A.sql hx)
  exact ⟨hw x, hs x _ _ (List.mem_of_getElem? hxi) A fun H3 A3 => ⟨rfl, A.trans A3, A3.k _ _ e (by simp)⟩⟩
/-- .. as what was told is just the one thing -/
theorem c_noneT {k : Nat} {c1 c2 c3 c4 c5 c6 cb : Addr} {ta : TA} {tu : TE} {zs : List Sc} (hx : SqL X.K H a xs) (hl : ∀ k : VK, k (.ref a) H → tl σ H k) (hw : ∀ x, wipe ((wipe σ vs).set j (some x)) vs = wipe σ vs)
    (hta : ∀ (x : V) (H' : Hp) (k : List V → Hp → Prop), k [x] H' → ta ((wipe σ vs).set j (some x)) H' k) (htu : ∀ x H' (R : VK), Aft [] H H' → (∀ p H2, Aft [] H' H2 → H2 p = some (.tup (zs.map scV)) → R (.ref p) H2) → tu ((wipe σ vs).set j (some x)) H' R) (ok : zs.all scOk = true)
    (hg : ∀ x ∈ xs, ∃ f, x = .ref f ∧ Gives X k σ c1 c2 c3 c4 c5 c6 cb f (zs.map scV) H)
    (q : ∀ p H', H p = none → Aft [] H H' → H' p = some (.lst []) → Q (.ref p) H') : Lv.tNone (iList X.K tl) (gName j) (tNe X k c1 c2 c3 c4 c5 c6 cb (rNeD X.K) ta tu) vs σ H Q := by
  refine c_none hx hl hw (fun x H' R hm A fin => ?_) q
  obtain ⟨f, rfl, g⟩ := hg x hm
  obtain ⟨t', lv, told⟩ := g H' A
  show ta _ H' _
  refine hta _ _ _ ?_
  refine ⟨f, t', rfl, lv, told _ fun p H2 A2 hp => ?_⟩
  refine htu _ _ _ (A.trans A2) fun p2 H3 A3 hp2 => ?_
  refine g_neSc (m := zs) (n := zs) ok ok (.of (A3.k _ _ hp (by simp))) (.of hp2) ?_
  rw [decide_eq_false (fun q => q rfl)]
  exact ⟨false, rfl, fin _ (A2.trans A3)⟩
end
end Ak
namespace Ak
open PySem PySem.Spec PyProof.Rows L2
local macro_rules | `(tactic| walk_at "ty") => `(tactic| first
  | assumption | exact tyx_non | exact tyx_bl | exact tyx_int | exact tyx_str
  | (refine sql_ty (xs := ?x0) ?_; walk_at "sq") | (refine sqt_ty (xs := ?x0) ?_; walk_at "sq"))
local macro_rules | `(tactic| walk_at "kb") => `(tactic| with_reducible first
  | exact kb_bb | exact kb_ib | exact kb_sb | exact kb_nb | exact kb_lb | exact kb_tb | exact kb_is | exact kb_ss | exact kb_ns | exact kb_ls | exact kb_ts
  | exact kb_ii | exact kb_ni | exact kb_li | exact kb_ti | exact kb_ld | exact kb_td | exact kb_lt | exact kb_tt | exact kb_ll | exact kb_tl | exact kb_il)
local macro_rules | `(tactic| walk_at "arith") => `(tactic| first
  | (show (0 : Int) < _; first | decide | omega)
  | (show CDiv _ _; exact ⟨by first | decide | omega, by first | decide | omega⟩)
  | (show CMul _ _; exact Or.inr ⟨by decide, by decide⟩)
  | (show CMul _ _; exact Or.inl ⟨by omega, by omega⟩)
  | (show CMul _ _; exact Or.inr ⟨by omega, by omega⟩)
  | (show CPow _ _; exact ⟨by decide, by decide, by decide⟩))
local macro_rules | `(tactic| walk_at "c") => `(tactic| first
  | assumption
  | ((refine Now.cell (K := ?K0) (D := ?D0) (M := ?M0) (H0 := ?H00) (w := ?w0) (l := ?l0) (ts := ?t0) ?n0 0 ?h0); (case n0 => assumption); (case h0 => rfl))
  | ((refine Now.cell (K := ?K0) (D := ?D0) (M := ?M0) (H0 := ?H00) (w := ?w0) (l := ?l0) (ts := ?t0) ?n0 1 ?h0); (case n0 => assumption); (case h0 => rfl))
  | ((refine Now.cell (K := ?K0) (D := ?D0) (M := ?M0) (H0 := ?H00) (w := ?w0) (l := ?l0) (ts := ?t0) ?n0 2 ?h0); (case n0 => assumption); (case h0 => rfl))
  | ((refine Now.cell (K := ?K0) (D := ?D0) (M := ?M0) (H0 := ?H00) (w := ?w0) (l := ?l0) (ts := ?t0) ?n0 3 ?h0); (case n0 => assumption); (case h0 => rfl))
  | ((refine Now.cell (K := ?K0) (D := ?D0) (M := ?M0) (H0 := ?H00) (w := ?w0) (l := ?l0) (ts := ?t0) ?n0 4 ?h0); (case n0 => assumption); (case h0 => rfl))
  | ((refine Now.cell (K := ?K0) (D := ?D0) (M := ?M0) (H0 := ?H00) (w := ?w0) (l := ?l0) (ts := ?t0) ?n0 5 ?h0); (case n0 => assumption); (case h0 => rfl))
  | ((refine Now.cell (K := ?K0) (D := ?D0) (M := ?M0) (H0 := ?H00) (w := ?w0) (l := ?l0) (ts := ?t0) ?n0 6 ?h0); (case n0 => assumption); (case h0 => rfl))
  | ((refine Now.cell (K := ?K0) (D := ?D0) (M := ?M0) (H0 := ?H00) (w := ?w0) (l := ?l0) (ts := ?t0) ?n0 7 ?h0); (case n0 => assumption); (case h0 => rfl))
  | ((refine Now.cell (K := ?K0) (D := ?D0) (M := ?M0) (H0 := ?H00) (w := ?w0) (l := ?l0) (ts := ?t0) ?n0 8 ?h0); (case n0 => assumption); (case h0 => rfl))
  | ((refine Now.cell (K := ?K0) (D := ?D0) (M := ?M0) (H0 := ?H00) (w := ?w0) (l := ?l0) (ts := ?t0) ?n0 9 ?h0); (case n0 => assumption); (case h0 => rfl))
  | ((refine Now.cell (K := ?K0) (D := ?D0) (M := ?M0) (H0 := ?H00) (w := ?w0) (l := ?l0) (ts := ?t0) ?n0 10 ?h0); (case n0 => assumption); (case h0 => rfl))
  | ((refine Now.cell (K := ?K0) (D := ?D0) (M := ?M0) (H0 := ?H00) (w := ?w0) (l := ?l0) (ts := ?t0) ?n0 11 ?h0); (case n0 => assumption); (case h0 => rfl))
  | ((refine Now.cell (K := ?K0) (D := ?D0) (M := ?M0) (H0 := ?H00) (w := ?w0) (l := ?l0) (ts := ?t0) ?n0 12 ?h0); (case n0 => assumption); (case h0 => rfl))
  | ((refine Now.tup (K := ?K0) (D := ?D0) (M := ?M0) (H0 := ?H00) (l := ?l0) (ts := ?t0) ?n0 0 ?h0); (case n0 => assumption); (case h0 => rfl))
  | ((refine Now.tup (K := ?K0) (D := ?D0) (M := ?M0) (H0 := ?H00) (l := ?l0) (ts := ?t0) ?n0 1 ?h0); (case n0 => assumption); (case h0 => rfl))
  | ((refine Now.tup (K := ?K0) (D := ?D0) (M := ?M0) (H0 := ?H00) (l := ?l0) (ts := ?t0) ?n0 2 ?h0); (case n0 => assumption); (case h0 => rfl))
  | ((refine Now.tup (K := ?K0) (D := ?D0) (M := ?M0) (H0 := ?H00) (l := ?l0) (ts := ?t0) ?n0 3 ?h0); (case n0 => assumption); (case h0 => rfl))
  | ((refine Now.tup (K := ?K0) (D := ?D0) (M := ?M0) (H0 := ?H00) (l := ?l0) (ts := ?t0) ?n0 4 ?h0); (case n0 => assumption); (case h0 => rfl))
  | ((refine Now.tup (K := ?K0) (D := ?D0) (M := ?M0) (H0 := ?H00) (l := ?l0) (ts := ?t0) ?n0 5 ?h0); (case n0 => assumption); (case h0 => rfl))
  | ((refine Now.tup (K := ?K0) (D := ?D0) (M := ?M0) (H0 := ?H00) (l := ?l0) (ts := ?t0) ?n0 6 ?h0); (case n0 => assumption); (case h0 => rfl)))
local macro_rules | `(tactic| walk_at "sq") => `(tactic| first
  | assumption
  | (refine Scr.sq ?_; assumption)
  | ((refine Scr.sq (Scr.keep (M := ?m0) (H := ?h00) ?hs (Now.af (K := ?K0) (D := ?D0) (l := ?l0) (ts := ?t0) ?hn)); (case hn => assumption); (case hs => assumption)))
  | (refine SqL.of ?_; walk_at "c")
  | (refine SqT.of ?_; walk_at "c")
  | ((refine Cst.at_ (K := ?K0) (mg := ?m0) (x := ?x0) ?hc _); (case hc => assumption)))
local macro_rules | `(tactic| walk_at "k1") => `(tactic| first
  | (with_reducible refine k_seq ?_)
  | (with_reducible refine k_asg ?_)
  | (with_reducible refine k_gname ?_)
  | ((with_reducible refine k_var (v := ?kv) ?kh ?kk); (case kh => exact rfl))
  | (with_reducible refine k_c ?_)
  | (with_reducible refine k_cons ?_)
  | (with_reducible refine k_nil ?_)
  | (with_reducible refine k_op ?_)
  | (with_reducible refine k_I0 ?_)
  | ((with_reducible refine k_I ?kh ?kk); (case kh => walk_at "arith"))
  | (with_reducible refine g_intB ?_)
  | ((with_reducible refine g_lnL (xs := ?kx) ?kh ?kk); (case kh => walk_at "sq"))
  | ((with_reducible refine g_lnT (xs := ?kx) ?kh ?kk); (case kh => walk_at "sq"))
  | ((with_reducible refine g_ixL (xs := ?kx) (v := ?kv) ?kh ?ki ?kk); (case kh => walk_at "sq"); (case ki => rfl))
  | ((with_reducible refine g_ixT (xs := ?kx) (v := ?kv) ?kh ?ki ?kk); (case kh => walk_at "sq"); (case ki => rfl))
  | (with_reducible refine k_gsub ?_)
  | ((with_reducible refine g_set0 (l := ?kl) (xs := ?kx) (ts := ?kt) (D := ?kd) (H0 := ?k0) (M := ?km) (K := ?kK) (j := ?kj) ?kn ?ki (fun H' N' => ?kk)); (case kn => with_reducible assumption); (case ki => rfl))
  | ((with_reducible refine g_set1 (c0 := ?kc) (l := ?kl) (xs := ?kx) (ts := ?kt) (D := ?kd) (H0 := ?k0) (M := ?km) (K := ?kK) (j := ?kj) ?kn ?ki (fun H' N' => ?kk)); (case kn => with_reducible assumption); (case ki => rfl))
  | ((with_reducible refine g_tup (l := ?kl) (ts := ?kt) (D := ?kd) (H0 := ?k0) (M := ?km) (K := ?kK) ?kn ?ki (fun p H' N' => ?kk)); (case kn => with_reducible assumption); (case ki => exact Nat.le_of_ble_eq_true rfl))
  | ((with_reducible refine g_lst (l := ?kl) (ts := ?kt) (D := ?kd) (H0 := ?k0) (M := ?km) (K := ?kK) ?kn ?ki (fun p H' N' => ?kk)); (case kn => with_reducible assumption); (case ki => exact Nat.le_of_ble_eq_true rfl))
  | (with_reducible refine c_ifT ?_)
  | (with_reducible refine c_ifF ?_)
  | (with_reducible refine c_andT ?_)
  | (with_reducible refine c_andF ?_)
  | (with_reducible refine c_orT ?_)
  | (with_reducible refine c_orF ?_)
  | (with_reducible refine c_ifET ?_)
  | (with_reducible refine c_ifEF ?_)
  | (with_reducible refine e_andT ?_)
  | (with_reducible refine e_andF ?_)
  | (with_reducible refine e_orT ?_)
  | (with_reducible refine e_orF ?_)
  | (with_reducible refine e_notT ?_)
  | (with_reducible refine e_notF ?_)
  | (with_reducible refine c_ntT ?_)
  | (with_reducible refine c_ntF ?_)
  | (with_reducible refine c_ntD ?_)
  | (with_reducible refine k_isY ?_)
  | ((with_reducible refine k_isX ?kh ?kk); (case kh => intro z; cases z))
  | (with_reducible refine k_ntY ?_)
  | ((with_reducible refine k_ntX ?kh ?kk); (case kh => intro z; cases z))
  | ((with_reducible refine g_isi (a := ?ka) (r := ?kr) ?kt ?kb ?kk); (case kt => walk_at "ty"); (case kb => walk_at "kb"))
  | (with_reducible refine k_fld ?_)
  | ((with_reducible refine g_fld (C := ?kC) (dx := ?kdx) (fs := ?kfs) (v := ?kv) ?kh ?kcl ?kna ?kl ?kk); (case kh => walk_at "c"); (case kcl => assumption); (case kna => assumption); (case kl => rfl))
  | (with_reducible refine k_sfld ?_)
  | ((with_reducible refine g_sf0 (K := ?kK) (D := ?kd) (M := ?km) (H0 := ?k0) (l := ?kl) (ts := ?kt) (C := ?kC) (dx := ?kdx) (fs := ?kfs) (fs' := ?kfs') ?kn ?kcl ?kna ?kll ?ke (fun H' N' => ?kk)); (case kn => with_reducible assumption); (case kcl => assumption); (case kna => assumption); (case kll => exact Nat.le_of_ble_eq_true rfl); (case ke => rfl))
  | ((with_reducible refine g_sf1 (K := ?kK) (D := ?kd) (M := ?km) (H0 := ?k0) (c0 := ?kc0) (l := ?kl) (ts := ?kt) (C := ?kC) (dx := ?kdx) (fs := ?kfs) (fs' := ?kfs') ?kn ?kcl ?kna ?kll ?ke (fun H' N' => ?kk)); (case kn => with_reducible assumption); (case kcl => assumption); (case kna => assumption); (case kll => exact Nat.le_of_ble_eq_true rfl); (case ke => rfl))
  | ((with_reducible refine g_sf2 (K := ?kK) (D := ?kd) (M := ?km) (H0 := ?k0) (c0 := ?kc0) (c1 := ?kc1) (l := ?kl) (ts := ?kt) (C := ?kC) (dx := ?kdx) (fs := ?kfs) (fs' := ?kfs') ?kn ?kcl ?kna ?kll ?ke (fun H' N' => ?kk)); (case kn => with_reducible assumption); (case kcl => assumption); (case kna => assumption); (case kll => exact Nat.le_of_ble_eq_true rfl); (case ke => rfl))
  | (with_reducible refine k_meth ?_)
  | ((with_reducible refine g_meth (dx := ?kdx) (fs := ?kfs) ?kh ?kl ?kk); (case kh => walk_at "c"); (case kl => rfl))
  | (with_reducible refine k_make ?_)
  | (with_reducible refine k_dget ?_)
  | (with_reducible refine k_din ?_)
  | (with_reducible refine k_dnin ?_)
  | (with_reducible refine k_dput ?_)
  | (with_reducible refine k_dpop ?_)
  | ((with_reducible refine g_dgetS (kvs := ?kkv) (v := ?kv) ?kh ?kl ?kk); (case kh => walk_at "c"); (case kl => rfl))
  | ((with_reducible refine k_dnew (K := ?kK) (D := ?kd) (M := ?km) (H0 := ?k0) (l := ?kl) (ts := ?kt) ?kn (fun p H' N' => ?kk)); (case kn => with_reducible assumption))
  | ((with_reducible refine c_chD ?kh ?kk); (case kh => omega))
  | ((with_reducible refine c_chN ?kh ?kk); (case kh => omega))
  | ((with_reducible refine c_ifdT ?kh ?kk); (case kh => omega))
  | ((with_reducible refine c_ifdF ?kh ?kk); (case kh => omega))
  | (with_reducible refine k_lc ?_)
  | (with_reducible refine k_lcT ?_)
  | (with_reducible refine k_lcR ?_)
  | (with_reducible refine k_lcR2 ?_)
  | (with_reducible refine k_yes ?_)
  | (with_reducible refine c_elT ?_)
  | (with_reducible refine k_sl ?_)
  | (with_reducible refine k_nopart ?_)
  | (with_reducible refine k_part ?_)
  | (with_reducible refine c_part ?_)
  | ((with_reducible refine g_slL (K := ?kK) (D := ?kd) (M := ?km) (H0 := ?k0) (l := ?kl) (ts := ?kt) (xs := ?kxs) ?kn ?kx (fun p H' N' => ?kk)); (case kn => with_reducible assumption); (case kx => walk_at "sq"))
  | ((with_reducible refine g_tupL (K := ?kK) (D := ?kd) (M := ?km) (H0 := ?k0) (l := ?kl) (ts := ?kt) (xs := ?kxs) ?kn ?kx (fun p H' N' => ?kk)); (case kn => with_reducible assumption); (case kx => walk_at "sq"))
  | ((with_reducible refine g_lstL (K := ?kK) (D := ?kd) (M := ?km) (H0 := ?k0) (l := ?kl) (ts := ?kt) (xs := ?kxs) ?kn ?kx (fun p H' N' => ?kk)); (case kn => with_reducible assumption); (case kx => walk_at "sq"))
  | ((with_reducible refine g_lstT (K := ?kK) (D := ?kd) (M := ?km) (H0 := ?k0) (l := ?kl) (ts := ?kt) (xs := ?kxs) ?kn ?kx (fun p H' N' => ?kk)); (case kn => with_reducible assumption); (case kx => walk_at "sq"))
  | ((with_reducible refine g_cat (K := ?kK) (D := ?kd) (M := ?km) (H0 := ?k0) (l := ?kl) (ts := ?kt) (xs := ?kxs) (ys := ?kys) ?kn ?kx ?ky ?kz (fun p H' N' => ?kk)); (case kn => with_reducible assumption); (case kx => walk_at "c"); (case ky => walk_at "c"); (case kz => first | (simp only [List.length_map, List.length_cons, List.length_nil]; omega) | omega))
  | (with_reducible refine k_bm ?_)
  | (with_reducible refine k_bm0 ?_)
  | ((with_reducible refine g_bmL (xs := ?kxs) ?kx ?kk); (case kx => walk_at "sq"))
  | ((with_reducible refine g_bmL0 (xs := ?kxs) ?kx ?kk); (case kx => walk_at "sq"))
  | (with_reducible refine k_forK ?_)
  | ((with_reducible refine g_inI (ns := ?kns) ?kx ?kk); (case kx => first | (refine Or.inl ?_; walk_at "sq") | (refine Or.inr ?_; walk_at "sq")))
  | ((with_reducible refine g_ninI (ns := ?kns) ?kx ?kk); (case kx => first | (refine Or.inl ?_; walk_at "sq") | (refine Or.inr ?_; walk_at "sq")))
  | (with_reducible refine k_if ?_)
  | (with_reducible refine k_test ?_)
  | (with_reducible refine e_bl ?_)
  | ((with_reducible refine k_eqS ?kh ?kk); (case kh => rfl))
  | ((with_reducible refine k_neS ?kh ?kk); (case kh => rfl))
  | (with_reducible refine k_eqI ?_)
  | (with_reducible refine k_neI ?_)
  | (with_reducible refine k_call ?_)
  | (with_reducible refine k_cb ?_)
  | (with_reducible refine k_tup ?_)
  | (with_reducible refine k_lst ?_)
  | (with_reducible refine k_drop ?_)
  | (with_reducible refine k_ret ?_)
  | (with_reducible refine k_for ?_)
  | (with_reducible refine k_forT ?_)
  | (with_reducible refine k_forR ?_)
  | (with_reducible refine k_forR2 ?_)
  | (with_reducible refine k_forE ?_)
  | (with_reducible refine k_tB ?_)
  | (with_reducible refine k_not ?_)
  | (with_reducible refine k_and ?_)
  | (with_reducible refine k_or ?_)
  | (with_reducible refine k_andV ?_)
  | (with_reducible refine k_orV ?_)
  | (with_reducible refine k_notV ?_)
  | (with_reducible refine k_ifE ?_)
  | (with_reducible refine k_par ?_)
  | (with_reducible refine k_par3 ?_)
  | (with_reducible refine e_par3 ?_)
  | (with_reducible refine k_lenSet ?_)
  | (with_reducible refine e_par ?_)
  | (with_reducible refine k_next ?_)
  | (with_reducible refine k_un ?_)
  | (with_reducible refine k_U ?_)
  | (with_reducible refine k_chain ?_)
  | (with_reducible refine k_pairs ?_)
  | ((with_reducible refine k_gtup (xs := ?kx) ?kh ?kn ?kk); (case kh => walk_at "sq"); (case kn => rfl))
  | (with_reducible refine k_gcons ?_)
  | (with_reducible refine k_gnil ?_)
  | (with_reducible refine k_gattr ?_)
  | (with_reducible refine g_max2 ?_)
  | (with_reducible refine g_min2 ?_)
  | ((with_reducible refine g_tupT (xs := ?kx) ?kh ?kk); (case kh => walk_at "sq"))
  | (with_reducible refine k_pairs0 ?_)
  | ((with_reducible refine k_disp (K := ?kK) (D := ?kd) (M := ?km) (H0 := ?k0) (l := ?kl) (ts := ?kt) ?kn (fun p H' N' => ?kk)); (case kn => with_reducible assumption)))
local macro_rules | `(tactic| walk_at "k") => `(tactic| repeat (walk_at "k1"))
local macro_rules | `(tactic| walk_at "go") => `(tactic| (dsimp only [cxOf, Cx.nox, Cx.wish, L2.start, List.map_cons, List.map_nil, List.length_cons, List.length_nil, Nat.reduceAdd, Nat.reduceSub, List.replicate, List.cons_append, List.nil_append]; walk_at "k"))
local macro_rules | `(tactic| walk_at "kn1") => `(tactic| first
  | walk_at "k1"
  | ((with_reducible refine g_menu2 (b := ?mb) (c := ?mc) ?kh ?ki (fun v hv => ?kk)); (case kh => walk_at "sq"); (case ki => omega))
  | ((with_reducible refine g_menu3 (b := ?mb) (c := ?mc) (d := ?md) ?kh ?ki (fun v hv => ?kk)); (case kh => walk_at "sq"); (case ki => omega))
  | ((with_reducible refine g_menu4 (b := ?mb) (c := ?mc) (d := ?md) (e := ?me) ?kh ?ki (fun v hv => ?kk)); (case kh => walk_at "sq"); (case ki => omega))
  | ((with_reducible refine g_menu5 (b := ?mb) (c := ?mc) (d := ?md) (e := ?me) (f := ?mf) ?kh ?ki (fun v hv => ?kk)); (case kh => walk_at "sq"); (case ki => omega))
  | ((show spNext _ _ _ _ _); (refine g_next (K := ?kK) (M := ?km) (H0 := ?k0) (l := ?kl) (ts := ?kt) (n := ?kz) ?kn ?kb (fun v H' N' b1 b2 => ?kk)); (case kn => with_reducible assumption); (case kb => first | decide | omega)))
local macro_rules | `(tactic| walk_at "kn") => `(tactic| repeat (walk_at "kn1"))
local macro_rules | `(tactic| walk_at "gon") => `(tactic| (dsimp only [cxOf, Cx.nox, Cx.wish, L2.start, List.map_cons, List.map_nil, List.length_cons, List.length_nil, Nat.reduceAdd, Nat.reduceSub, List.replicate, List.cons_append, List.nil_append]; walk_at "kn"))
/-! ### the dice -/
section
variable {P : Program} {w : World} {K : PySem.W.Frag} {mg : Str → Option Value} {base : Heap}
theorem sc_l_dice : FnScope ["_law_script", "_law_mixed", "_law_cell"] ["_law_script"] (defScope s_l_dice) := ⟨rfl, rfl, rfl, by decide +kernel, rfl, by decide +kernel, by decide +kernel⟩
theorem bd_l_dice : Bd "_law_dice" "_law_dice" s_l_dice ["_law_script"] := fun _ _ _ _ _ _ us hl => match us, hl with | [_], _ => rfl
def spDice (K : PySem.W.Frag) : Sp := fun vs H Q _ => ∃ (a : Addr) (ns : List Int), vs = [.ref a] ∧ Scr K H a (ns.map V.int) ∧ ns.length ≤ 63 ∧ ∀ d H', Aft [] H H' → H d = none → Dice K H' d → Q (.ref d) H'
theorem ok_dice (F : Def K mg "_law_dice" s_l_dice) (B : Bt mg) : Cal P w K mg base CX0 1 "_law_dice" ["_law_script"] (spDice K) := by
  refine F.ok sc_l_dice bd_l_dice (fun vs H Q E h => ?_) (fun f cdv A outer s H vs Q E hr h => ?_)
  · obtain ⟨a, ns, rfl, _⟩ := h
    rfl
  · obtain ⟨a, ns, rfl, hS, hl, k⟩ := h
    refine ⟨_, PSs.nox (pss_cons (ps_set (i := 1) sc_l_dice.nd rfl (by first | exact Or.inl rfl | exact Or.inr rfl) pe_int)
      (pss_cons (ps_for PassesOwn.never rfl (pi_listK K rfl (pv 0)) (pg_name (i := 2) sc_l_dice.nd rfl (by first | exact Or.inl rfl | exact Or.inr rfl))
      (pss_one (ps_set (i := 1) sc_l_dice.nd rfl (by first | exact Or.inl rfl | exact Or.inr rfl) (pe_op op_mod (pe_op op_add (pe_op op_add (pe_op op_mul (pv 1) pe_int) (pe_op op_mul (pe_op op_mod (pv 2) pe_int) pe_int)) pe_int) pe_int))))
      (pss_one (ps_ret (pe_lst (pa_cons (pv 0) (pa_cons pe_int (pa_cons (pe_op op_mul (pv 1) (pe_callTy cr_intB (by rfl) B.m_int (by decide +kernel) (pa_cons (pe_cmpR op_gt (pe_callB (cr_lnK K rfl) (by rfl) B.m_len (by decide +kernel) (pa_cons (pv 0) pa_nil)) pe_int (nomark _)) pa_nil))) (pa_cons pe_int pa_nil))))))))), ?_⟩
    walk_at "go"
    refine c_for (xs := ns.map V.int) (fun i σ H' => ∃ m v, σ = [some (.ref a), some (.int m), v] ∧ H' = H ∧ 0 ≤ m ∧ m < 2147483647) ⟨0, _, rfl, rfl, by decide, by decide⟩ (fun i σ H' _ ⟨_, _, _, e, _⟩ => e ▸ hS.sq) ?_ ?_
    · rintro i x σ H' hx ⟨m, v, rfl, rfl, h0, h1⟩
      rw [List.getElem?_map] at hx
      obtain ⟨z, hz, rfl⟩ := Option.map_eq_some_iff.mp hx
      walk_at "k"
      exact ⟨_, _, rfl, rfl, Int.emod_nonneg _ (by decide), Int.emod_lt_of_pos _ (by decide)⟩
    · rintro σ H' ⟨m, v, rfl, rfl, h0, h1⟩
      walk_at "k"
      refine ⟨by show 4 ≤ sizeLine; decide, fun p hp => ?_⟩
      refine k p _ (Aft.refl.new hp) hp ⟨a, ns, 0, _, 0, upd_same, hS.keep (M := []) (Aft.refl.new hp), hl, Int.le_refl 0, ?_, ?_⟩
      all_goals (split <;> omega)
end
section
variable {P : Program} {w : World} {K : PySem.W.Frag} {mg : Str → Option Value} {base : Heap}
theorem sc_l_next : FnScope ["_law_dice_here", "_law_many", "_law_found", "_law_cell"] ["_law_dice_here", "_law_many"] (defScope s_l_next) := ⟨rfl, rfl, rfl, by decide +kernel, rfl, by decide +kernel, by decide +kernel⟩
theorem bd_l_next : Bd "_law_next" "_law_next" s_l_next ["_law_dice_here", "_law_many"] := fun _ _ _ _ _ _ us hl => match us, hl with | [_, _], _ => rfl
theorem ok_next (F : Def K mg "_law_next" s_l_next) (B : Bt mg) : Cal P w K mg base CX0 1 "_law_next" ["_law_dice_here", "_law_many"] (spNext K) := by
  refine F.ok sc_l_next bd_l_next (fun vs H Q E h => ?_) (fun f cdv A outer s H vs Q E hr h => ?_)
  · obtain ⟨a, ns, rfl, _⟩ := h
    rfl
  · obtain ⟨d, n, rfl, hD, h0, h1, k⟩ := h
    obtain ⟨a, ns, i, m, r, hd, hS, hl, hi, hm0, hm1⟩ := hD.ex
    refine ⟨_, PSs.nox (pss_cons (ps_if (pt_cmpR op_gt (pe_ix (ix_listK K rfl) (pv 0) pe_int (fun _ _ => rfl)) pe_int (nomark _)) (pss_cons (ps_set (i := 2) sc_l_next.nd rfl (by first | exact Or.inl rfl | exact Or.inr rfl) (pe_op op_mod (pe_ix (ix_listK K rfl) (pv 0) pe_int (fun _ _ => rfl)) (pv 1)))
      (pss_cons (ps_asg (pe_op op_fdiv (pe_ix (ix_listK K rfl) (pv 0) pe_int (fun _ _ => rfl)) (pv 1)) (pg_sub (pv 0) pe_int set_list))
      (pss_one (ps_ret (pv 2))))) pss_nil)
      (pss_cons (ps_asg (pe_op op_add (pe_ix (ix_listK K rfl) (pv 0) pe_int (fun _ _ => rfl)) pe_int) (pg_sub (pv 0) pe_int set_list))
      (pss_cons (ps_if (pt_cmpR op_le (pe_ix (ix_listK K rfl) (pv 0) pe_int (fun _ _ => rfl)) (pe_callB (cr_lnK K rfl) (by rfl) B.m_len (by decide +kernel) (pa_cons (pe_ix (ix_listK K rfl) (pv 0) pe_int (fun _ _ => rfl)) pa_nil)) (nomark _)) (pss_cons (ps_set (i := 3) sc_l_next.nd rfl (by first | exact Or.inl rfl | exact Or.inr rfl) (pe_ix (ix_listK K rfl) (pe_ix (ix_listK K rfl) (pv 0) pe_int (fun _ _ => rfl)) (pe_op op_sub (pe_ix (ix_listK K rfl) (pv 0) pe_int (fun _ _ => rfl)) pe_int) (fun _ _ => rfl)))
      (pss_cons (ps_asg (pe_ifExp (pt_cmpR op_ge (pv 3) (pe_op op_pow pe_int pe_int) (nomark _)) (pe_op op_fdiv (pv 3) (pv 1)) pe_int) (pg_sub (pv 0) pe_int set_list))
      (pss_one (ps_ret (pe_op op_mod (pv 3) (pv 1)))))) pss_nil)
      (pss_cons (ps_asg (pe_op op_mod (pe_op op_mul (pe_ix (ix_listK K rfl) (pv 0) pe_int (fun _ _ => rfl)) pe_int) pe_int) (pg_sub (pv 0) pe_int set_list))
      (pss_one (ps_ret (pe_op op_mod (pe_op op_fdiv (pe_ix (ix_listK K rfl) (pv 0) pe_int (fun _ _ => rfl)) pe_int) (pv 1)))))))), ?_⟩
    have N : Now K none [d] H H [⟨true, d, dO a i m r⟩] [] := .start (by simp) (by simp [hd, Mut]) (by simp) (by simp)
    have fin : ∀ (i' m' r' : Int) (H' : Hp) (v : Int), Now K none [d] H H' [⟨true, d, dO a i' m' r'⟩] [] → 0 ≤ i' → 0 ≤ m' → m' < 2147483647 → 0 ≤ v → v < n → Q (.int v) H' := fun i' m' r' H' v N' e1 e2 e3 e4 e5 =>
      k v H' N'.af ⟨a, ns, i', m', r', N'.cell 0 rfl, hS.keep N'.af, hl, e1, e2, e3⟩ e4 e5
    have b1 : ∀ z : Int, 0 ≤ z % n := fun z => Int.emod_nonneg z (by omega)
    have b2 : ∀ z : Int, z % n < n := fun z => Int.emod_lt_of_pos z h0
    walk_at "go"
    refine c_ifd (fun c1 => ?_) (fun c1 => ?_)
    · walk_at "k"
      exact fin i m (r / n) _ _ (by assumption) hi hm0 hm1 (b1 _) (b2 _)
    · walk_at "k"
      refine c_ifd (fun c2 => ?_) (fun c2 => ?_)
      · rw [List.length_map] at c2
        have e : (i + 1 - 1 : Int) = ((i.toNat : Nat) : Int) := by omega
        have lt : i.toNat < ns.length := by omega
        have at_ : atI (ns.map V.int) (i + 1 - 1) = some (V.int ns[i.toNat]) := at_of e (by rw [List.getElem?_map, List.getElem?_eq_getElem lt]; rfl)
        walk_at "k"
        refine g_ixL (xs := ns.map V.int) (v := V.int ns[i.toNat]) (by walk_at "sq") at_ ?_
        walk_at "k"
        refine c_ifE (fun c3 => ?_) (fun c3 => ?_)
        · walk_at "k"
          exact fin (i + 1) m (ns[i.toNat] / n) _ _ (by assumption) (by omega) hm0 hm1 (b1 _) (b2 _)
        · walk_at "k"
          exact fin (i + 1) m 0 _ _ (by assumption) (by omega) hm0 hm1 (b1 _) (b2 _)
      · walk_at "k"
        exact fin (i + 1) (m * 48271 % 2147483647) r _ _ (by assumption) (by omega) (Int.emod_nonneg _ (by decide)) (Int.emod_lt_of_pos _ (by decide)) (b1 _) (b2 _)
end
/-! ### settings, marks, bits as they should be -/
abbrev StV (m w l a : Int) : List V := [.int m, .int w, .int l, .int a]
def OkS (m w l a : Int) : Prop := (2 ≤ m ∧ m ≤ 64) ∧ (0 ≤ w ∧ w ≤ 16) ∧ (0 ≤ l ∧ l ≤ 8) ∧ (1 ≤ a ∧ a ≤ 16)
section
variable {P : Program} {w : World} {K : PySem.W.Frag} {mg : Str → Option Value} {base : Heap} {aL aM : Addr}
theorem sc_need_setting : FnScope ["setting", "at"] ["setting"] (defScope s_need_setting) := ⟨rfl, rfl, rfl, by decide +kernel, rfl, by decide +kernel, by decide +kernel⟩
theorem bd_need_setting : Bd "need_setting" "need_setting" s_need_setting ["setting"] := fun _ _ _ _ _ _ us hl => match us, hl with | [_], _ => rfl
def spNeedS : Sp := fun vs H Q _ => ∃ (t : Addr) (m w l a : Int), vs = [.ref t] ∧ H t = some (.tup (StV m w l a)) ∧ OkS m w l a ∧ Q .non H
theorem ok_needS (F : Def K mg "need_setting" s_need_setting) (B : Bt mg) (CL : Cst K mg "LEAST" aL (StV 2 0 0 1)) (CM : Cst K mg "MOST" aM (StV 64 16 8 16)) : Cal P w K mg base CX0 1 "need_setting" ["setting"] spNeedS := by
  refine F.ok sc_need_setting bd_need_setting (fun vs H Q E h => ?_) (fun f cdv A outer s H vs Q E hr h => ?_)
  · obtain ⟨t, m, w, l, a, rfl, _⟩ := h
    rfl
  · obtain ⟨t, m, w, l, a, rfl, ht, ⟨⟨h1, h2⟩, ⟨h3, h4⟩, ⟨h5, h6⟩, h7, h8⟩, k⟩ := h
    have g_LEAST := CL.g
    have g_MOST := CM.g
    refine ⟨_, PSs.nox (pss_one (ps_for PassesOwn.never rfl (pi_range1 (by rfl) B.m_range (pa_cons pe_int pa_nil)) (pg_name (i := 1) sc_need_setting.nd rfl (by first | exact Or.inl rfl | exact Or.inr rfl))
      (pss_one (ps_if (pt_not (pt_chain op_le op_le (pe_ix (ix_tupK K rfl) (pe_gref (by rfl) g_LEAST) (pv 1) (fun _ _ => rfl)) (pe_ix (ix_tupK K rfl) (pv 0) (pv 1) (fun _ _ => rfl)) (pe_ix (ix_tupK K rfl) (pe_gref (by rfl) g_MOST) (pv 1) (fun _ _ => rfl)))) (pss_one ps_never) pss_nil)))), ?_⟩
    walk_at "go"
    refine c_forR (by decide) (fun i σ H' => ∃ x, σ = [some (.ref t), x] ∧ H' = H) ⟨_, rfl, rfl⟩ ?_ ?_
    · rintro i σ H' hi ⟨x, rfl, rfl⟩
      have hq : SqT K H' t (StV m w l a) := .of ht
      have : i = 0 ∨ i = 1 ∨ i = 2 ∨ i = 3 := by omega
      rcases this with rfl | rfl | rfl | rfl
      · walk_at "k"
        exact ⟨_, rfl, rfl⟩
      · walk_at "k"
        exact ⟨_, rfl, rfl⟩
      · walk_at "k"
        exact ⟨_, rfl, rfl⟩
      · walk_at "k"
        exact ⟨_, rfl, rfl⟩
    · rintro σ H' ⟨x, rfl, rfl⟩
      walk_at "k"
      exact k
theorem sc_need_mark : FnScope ["setting", "mark"] ["setting", "mark"] (defScope s_need_mark) := ⟨rfl, rfl, rfl, by decide +kernel, rfl, by decide +kernel, by decide +kernel⟩
theorem bd_need_mark : Bd "need_mark" "need_mark" s_need_mark ["setting", "mark"] := fun _ _ _ _ _ _ us hl => match us, hl with | [_, _], _ => rfl
def spNeedM : Sp := fun vs H Q _ => ∃ (t : Addr) (m w l a n : Int), vs = [.ref t, .int n] ∧ H t = some (.tup (StV m w l a)) ∧ (0 ≤ n ∧ n < m) ∧ Q .non H
theorem ok_needM (F : Def K mg "need_mark" s_need_mark) (B : Bt mg) : Cal P w K mg base CX0 1 "need_mark" ["setting", "mark"] spNeedM := by
  refine F.ok sc_need_mark bd_need_mark (fun vs H Q E h => ?_) (fun f cdv A outer s H vs Q E hr h => ?_)
  · obtain ⟨t, m, w, l, a, n, rfl, _⟩ := h
    rfl
  · obtain ⟨t, m, w, l, a, n, rfl, ht, ⟨h1, h2⟩, k⟩ := h
    refine ⟨_, PSs.nox (pss_one (ps_if (pt_not (pt_chain op_le op_lt pe_int (pv 1) (pe_ix (ix_tupK K rfl) (pv 0) pe_int (fun _ _ => rfl)))) (pss_one ps_never) pss_nil)), ?_⟩
    have hq : SqT K H t (StV m w l a) := .of ht
    walk_at "go"
    exact k
end
section
variable {P : Program} {w : World} {K : PySem.W.Frag} {mg : Str → Option Value} {base : Heap}
theorem sc_need_bits : FnScope ["setting", "told", "mark", "bits", "bit"] ["setting", "told"] (defScope s_need_bits) := ⟨rfl, rfl, rfl, by decide +kernel, rfl, by decide +kernel, by decide +kernel⟩
theorem bd_need_bits : Bd "need_bits" "need_bits" s_need_bits ["setting", "told"] := fun _ _ _ _ _ _ us hl => match us, hl with | [_, _], _ => rfl
def spNeedB : Sp := fun vs H Q _ => ∃ (t q b : Addr) (m w l a n : Int) (bs : List Int), vs = [.ref t, .ref q] ∧ H t = some (.tup (StV m w l a)) ∧ H q = some (.tup [.int n, .ref b]) ∧ H b = some (.tup (bs.map V.int)) ∧ (0 ≤ n ∧ n < m) ∧ (bs.length : Int) = w ∧ w ≤ 16 ∧ (∀ x ∈ bs, x = 0 ∨ x = 1) ∧ ∀ H', Aft [] H H' → Q .non H'
theorem ok_needB (F : Def K mg "need_bits" s_need_bits) (B : Bt mg) (c_need_mark : Cal P w K mg base CX0 1 "need_mark" ["setting", "mark"] spNeedM) : Cal P w K mg base CX0 2 "need_bits" ["setting", "told"] spNeedB := by
  refine F.ok sc_need_bits bd_need_bits (fun vs H Q E h => ?_) (fun f cdv A outer s H vs Q E hr h => ?_)
  · obtain ⟨t, q, b, m, w, l, a, n, bs, rfl, _⟩ := h
    rfl
  · obtain ⟨t, q, b, m, w, l, a, n, bs, rfl, ht, hq, hb, hn, hl, hw, h01, k⟩ := h
    refine ⟨_, PSs.nox (pss_cons (ps_asg (pv 1) (pg_tup rfl (pgs_cons (pg_name (i := 2) sc_need_bits.nd rfl (by first | exact Or.inl rfl | exact Or.inr rfl)) (pgs_cons (pg_name (i := 3) sc_need_bits.nd rfl (by first | exact Or.inl rfl | exact Or.inr rfl)) pgs_nil))))
      (pss_cons (ps_expr (pe_cal c_need_mark (hr.mono (by decide)) pass0 (pa_cons (pv 0) (pa_cons (pv 2) pa_nil))))
      (pss_one (ps_if (PW.pt (pw_or (pt_cmpR op_ne (pe_callB (cr_lnK K rfl) (by rfl) B.m_len (by decide +kernel) (pa_cons (pv 3) pa_nil)) (pe_ix (ix_tupK K rfl) (pv 0) pe_int (fun _ _ => rfl)) (nomark _)) (pw_or1 (pt_cmpR (op_neDK K rfl hr.units) (pe_lc (own := [("bit", 4)]) (g := (gName 4)) rfl sc_need_bits.nd (pi_tupK K rfl (pv 3)) (blkOk_by (own := [("bit", 4)]) (N := ["setting", "told", "mark", "bits", "bit"]) (sc := defScope s_need_bits) (by decide +kernel)) (fun _ _ _ _ _ => (pg_name (i := 4) sc_need_bits.nd rfl (by first | exact Or.inl rfl | exact Or.inr rfl))) (fun _ _ _ _ _ => (pts_one (pt_cmpR (op_notIn_seqK K rfl) (pv 4) (pe_tup (pa_cons pe_int (pa_cons pe_int pa_nil))) (by rfl)))) (fun _ _ _ _ _ => (pv 4))) (pe_lst pa_nil) (nomark _))))) (pss_one ps_never) pss_nil)))), ?_⟩
    have N : Now K none [] H H [] [(t, StV m w l a), (q, [.int n, .ref b]), (b, bs.map V.int)] := .start0 (by simp [ht, hq, hb])
    walk_at "go"
    refine ⟨t, m, w, l, a, n, rfl, ht, hn, ?_⟩
    walk_at "k"
    refine c_or (fun c => absurd (of_decide_eq_true c) (by rw [List.length_map]; omega)) (fun c => ?_)
    walk_at "k"
    refine c_lcT N (bs.map V.int) (fun i acc => acc = []) rfl (fun H' l' N' => .of (N'.tup 2 rfl)) (fun _ => rfl) (fun i x Dd H2 acc hx N2 r => ?_) (fun p H2 acc N2 r => ?_)
    · subst r
      rw [List.getElem?_map] at hx
      obtain ⟨z, hz, rfl⟩ := Option.map_eq_some_iff.mp hx
      have z01 := h01 z (List.mem_of_getElem? hz)
      walk_at "k"
      rename_i tp H3 N3
      refine g_ninI (ns := [0, 1]) (.inr (.of (N3.tup 0 rfl))) ?_
      walk_at "k"
      refine c_el (fun c => absurd (of_decide_eq_true c) (by rcases z01 with e | e <;> simp [e])) (fun c => ?_)
      exact ⟨[], N3.subT _ (by simp), rfl⟩
    · subst r
      walk_at "k"
      rename_i ep H3 N3
      refine g_neL (m := []) (n := []) (.of (N3.cell 1 rfl)) (.of (N3.cell 0 rfl)) ?_
      walk_at "k"
      refine c_ifdF (fun q => q rfl) ?_
      walk_at "k"
      exact k _ N3.af
end
/-! ### marks and bits that may be refused -/
section
variable {P : Program} {w : World} {K : PySem.W.Frag} {mg : Str → Option Value} {base : Heap} {C2 C3 : Addr}
def spNeedME (C2 : Addr) : Sp := fun vs H Q E => ∃ (t : Addr) (m w l a n : Int), vs = [.ref t, .int n] ∧ H t = some (.tup (StV m w l a)) ∧ ((0 ≤ n ∧ n < m) → Q .non H) ∧ (¬ (0 ≤ n ∧ n < m) → E (.ref C2) none H)
theorem ok_needME (F : Def K mg "need_mark" s_need_mark) (T2 : ExK K mg "BadMark" C2) : Cal P w K mg base (L2.CX P w) 1 "need_mark" ["setting", "mark"] (spNeedME C2) := by
  refine F.ok sc_need_mark bd_need_mark (fun vs H Q E h => ?_) (fun f cdv A outer s H vs Q E hr h => ?_)
  · obtain ⟨t, m, w, l, a, n, rfl, _⟩ := h
    rfl
  · obtain ⟨t, m, w, l, a, n, rfl, ht, k1, k2⟩ := h
    refine ⟨_, (pss_one (ps_if (pt_not (pt_chain op_le op_lt pe_int (pv 1) (pe_ix (ix_tupK K rfl) (pv 0) pe_int (fun _ _ => rfl)))) (pss_one (ps_raiseK rfl (takes_of rfl rfl rfl rfl) T2 (by rfl))) pss_nil)), ?_⟩
    have hq : SqT K H t (StV m w l a) := .of ht
    by_cases h1 : 0 ≤ n
    · by_cases h2 : n < m
      · walk_at "go"
        exact k1 ⟨h1, h2⟩
      · walk_at "go"
        exact k2 fun z => h2 z.2
    · walk_at "go"
      exact k2 fun z => h1 z.1
def BitsOk (w : Int) (bs : List Int) : Prop := (bs.length : Int) = w ∧ ∀ x ∈ bs, x = 0 ∨ x = 1
def spNeedBE (C2 C3 : Addr) : Sp := fun vs H Q E => ∃ (t q b : Addr) (m w l a n : Int) (bs : List Int), vs = [.ref t, .ref q] ∧ H t = some (.tup (StV m w l a)) ∧ H q = some (.tup [.int n, .ref b]) ∧ H b = some (.tup (bs.map V.int)) ∧ bs.length ≤ 1000 ∧
  (((0 ≤ n ∧ n < m) ∧ BitsOk w bs) → ∀ H', Aft [] H H' → Q .non H') ∧ (¬ (0 ≤ n ∧ n < m) → ∀ H', Aft [] H H' → E (.ref C2) none H') ∧ (((0 ≤ n ∧ n < m) ∧ ¬ BitsOk w bs) → ∀ H', Aft [] H H' → E (.ref C3) none H')
theorem ok_needBE (F : Def K mg "need_bits" s_need_bits) (B : Bt mg) (T3 : ExK K mg "BadBits" C3) (c_need_markE : Cal P w K mg base (L2.CX P w) 1 "need_mark" ["setting", "mark"] (spNeedME C2)) : Cal P w K mg base (L2.CX P w) 2 "need_bits" ["setting", "told"] (spNeedBE C2 C3) := by
  refine F.ok sc_need_bits bd_need_bits (fun vs H Q E h => ?_) (fun f cdv A outer s H vs Q E hr h => ?_)
  · obtain ⟨t, q, b, m, w, l, a, n, bs, rfl, _⟩ := h
    rfl
  · obtain ⟨t, q, b, m, w, l, a, n, bs, rfl, ht, hq, hb, hlen, k1, k2, k3⟩ := h
    refine ⟨_, (pss_cons (ps_asg (pv 1) (pg_tup rfl (pgs_cons (pg_name (i := 2) sc_need_bits.nd rfl (by first | exact Or.inl rfl | exact Or.inr rfl)) (pgs_cons (pg_name (i := 3) sc_need_bits.nd rfl (by first | exact Or.inl rfl | exact Or.inr rfl)) pgs_nil))))
      (pss_cons (ps_expr (pe_cal c_need_markE (hr.mono (by decide)) (passes_call (takes_of rfl rfl rfl rfl) (fun _ _ _ _ h => h)) (pa_cons (pv 0) (pa_cons (pv 2) pa_nil))))
      (pss_one (ps_if (PW.pt (pw_or (pt_cmpR op_ne (pe_callB (cr_lnK K rfl) (by rfl) B.m_len (by decide +kernel) (pa_cons (pv 3) pa_nil)) (pe_ix (ix_tupK K rfl) (pv 0) pe_int (fun _ _ => rfl)) (nomark _)) (pw_or1 (pt_cmpR (op_neDK K rfl hr.units) (pe_lc (own := [("bit", 4)]) (g := (gName 4)) rfl sc_need_bits.nd (pi_tupK K rfl (pv 3)) (blkOk_by (own := [("bit", 4)]) (N := ["setting", "told", "mark", "bits", "bit"]) (sc := defScope s_need_bits) (by decide +kernel)) (fun _ _ _ _ _ => (pg_name (i := 4) sc_need_bits.nd rfl (by first | exact Or.inl rfl | exact Or.inr rfl))) (fun _ _ _ _ _ => (pts_one (pt_cmpR (op_notIn_seqK K rfl) (pv 4) (pe_tup (pa_cons pe_int (pa_cons pe_int pa_nil))) (by rfl)))) (fun _ _ _ _ _ => (pv 4))) (pe_lst pa_nil) (nomark _))))) (pss_one (ps_raiseK rfl (takes_of rfl rfl rfl rfl) T3 (by rfl))) pss_nil)))), ?_⟩
    have N : Now K none [] H H [] [(t, StV m w l a), (q, [.int n, .ref b]), (b, bs.map V.int)] := .start0 (by simp [ht, hq, hb])
    walk_at "go"
    refine ⟨t, m, w, l, a, n, rfl, ht, fun hn => ?_, fun hn => k2 hn _ N.af⟩
    walk_at "k"
    have bad : ¬ BitsOk w bs → ∀ H', Aft [] H H' → E (.ref C3) none H' := fun z => k3 ⟨hn, z⟩
    have lm : (bs.map V.int).length = bs.length := List.length_map ..
    rw [lm]
    refine c_or (fun c => ?_) (fun c => ?_)
    · walk_at "k"
      exact bad (fun z => of_decide_eq_true c z.1) _ N.af
    walk_at "k"
    have c := of_decide_eq_false c
    have hw : (bs.length : Int) = w := by omega
    refine c_lcT N (bs.map V.int) (fun i acc => acc = ((bs.take i).filter fun x => decide (x ∉ [0, 1])).map V.int) rfl (fun H' l' N' => .of (N'.tup 2 rfl)) (fun _ => rfl) (fun i x Dd H2 acc hx N2 r => ?_) (fun p H2 acc N2 r => ?_)
    · rw [List.getElem?_map] at hx
      obtain ⟨z, hz, rfl⟩ := Option.map_eq_some_iff.mp hx
      have la : acc.length ≤ bs.length := by
        rw [r, List.length_map]
        exact filt_len
      walk_at "k"
      rename_i tp H3 N3
      refine g_ninI (ns := [0, 1]) (.inr (.of (N3.tup 0 rfl))) ?_
      walk_at "k"
      refine c_el (fun c => ?_) (fun c => ?_)
      · walk_at "k"
        refine c_put (N3.subT _ (by simp)) (by omega) ?_
        show acc ++ [V.int z] = _
        rw [r, filt_snoc hz, if_pos c, List.map_append]
        rfl
      · refine ⟨acc, N3.subT _ (by simp), ?_⟩
        show acc = _
        rw [r, filt_snoc hz, if_neg (fun q => by rw [c] at q; cases q)]
    · rw [List.length_map, List.take_length] at r
      subst r
      walk_at "k"
      rename_i ep H3 N3
      refine g_neL (m := bs.filter fun x => decide (x ∉ [0, 1])) (n := []) (.of (N3.cell 1 rfl)) (.of (N3.cell 0 rfl)) ?_
      walk_at "k"
      refine c_ifd (fun c => ?_) (fun c => ?_)
      · walk_at "k"
        refine bad (fun z => c ?_) _ N3.af
        refine List.filter_eq_nil_iff.mpr fun x hx => ?_
        rcases z.2 x hx with e | e <;> simp [e]
      · walk_at "k"
        refine k1 ⟨hn, hw, fun x hx => ?_⟩ _ N3.af
        have c := Decidable.not_not.mp c
        have := List.filter_eq_nil_iff.mp c x hx
        by_cases e : x = 0
        · exact .inl e
        · exact .inr (by simpa [e] using this)
end
/-! ### a setting that is refused -/
def BadS (m w l a : Int) (z : Str) : Prop := (¬ (2 ≤ m ∧ m ≤ 64) ∧ z = "marks") ∨ ((2 ≤ m ∧ m ≤ 64) ∧ ¬ (0 ≤ w ∧ w ≤ 16) ∧ z = "wide") ∨ ((2 ≤ m ∧ m ≤ 64) ∧ (0 ≤ w ∧ w ≤ 16) ∧ ¬ (0 ≤ l ∧ l ≤ 8) ∧ z = "late") ∨ ((2 ≤ m ∧ m ≤ 64) ∧ (0 ≤ w ∧ w ≤ 16) ∧ (0 ≤ l ∧ l ≤ 8) ∧ ¬ (1 ≤ a ∧ a ≤ 16) ∧ z = "ahead")
/-- what is told of the word z -/
def RefW (C1 : Addr) (z : Str) (H : Hp) (E : XK) : Prop := ∀ (dd : Addr) (H' : Hp), Aft [] H H' → H' dd = some (.xd [("word", .str z)]) → E (.ref C1) (some dd) H'
def RefS (C1 t : Addr) (H : Hp) (E : XK) : Prop := ∃ (m w l a : Int) (z : Str), H t = some (.tup (StV m w l a)) ∧ BadS m w l a z ∧ RefW C1 z H E
section
variable {P : Program} {w : World} {K : PySem.W.Frag} {mg : Str → Option Value} {base : Heap} {aL aM aW C1 C2 C3 C : Addr}
def spNeedSX (C1 : Addr) : Sp := fun vs H _ E => ∃ t : Addr, vs = [.ref t] ∧ RefS C1 t H E
theorem ok_needSX (F : Def K mg "need_setting" s_need_setting) (B : Bt mg) (CL : Cst K mg "LEAST" aL (StV 2 0 0 1)) (CM : Cst K mg "MOST" aM (StV 64 16 8 16)) (CW : Cst K mg "WORDS" aW [.str "marks", .str "wide", .str "late", .str "ahead"]) (XS : ExI P w K mg base CX0 C1 1 "BadSetting" "word") :
    Cal P w K mg base (L2.CX P w) 3 "need_setting" ["setting"] (spNeedSX C1) := by
  refine F.ok sc_need_setting bd_need_setting (fun vs H Q E h => ?_) (fun f cdv A outer s H vs Q E hr h => ?_)
  · obtain ⟨t, rfl, _⟩ := h
    rfl
  · obtain ⟨t, rfl, m, w, l, a, z, ht, hb, k⟩ := h
    have g_LEAST := CL.g
    have g_MOST := CM.g
    have g_WORDS := CW.g
    refine ⟨_, (pss_one (ps_for (passes_of rfl) rfl (pi_range1 (by rfl) B.m_range (pa_cons pe_int pa_nil)) (pg_name (i := 1) sc_need_setting.nd rfl (by first | exact Or.inl rfl | exact Or.inr rfl))
      (pss_one (ps_if (pt_not (pt_chain op_le op_le (pe_ix (ix_tupK K rfl) (pe_gref (by rfl) g_LEAST) (pv 1) (fun _ _ => rfl)) (pe_ix (ix_tupK K rfl) (pv 0) (pv 1) (fun _ _ => rfl)) (pe_ix (ix_tupK K rfl) (pe_gref (by rfl) g_MOST) (pv 1) (fun _ _ => rfl)))) (pss_one (ps_raiseI rfl (takes_of rfl rfl rfl rfl) XS (hr.mono (by decide)) pass0 (by rfl) (pa_cons (pe_ix (ix_tupK K rfl) (pe_gref (by rfl) g_WORDS) (pv 1) (fun _ _ => rfl)) pa_nil))) pss_nil)))), ?_⟩
    have out : ∀ z', z = z' → cMkO K C1 "word" (fun cls d H' => E cls d H') [.str z'] H := fun z' e => c_mkO fun d hd => by
      rw [← e]
      exact k d _ (Aft.refl.new hd) upd_same
    walk_at "go"
    refine c_forR (by decide) (fun i σ H' => ∃ x, σ = [some (.ref t), x] ∧ H' = H ∧ (0 < i → 2 ≤ m ∧ m ≤ 64) ∧ (1 < i → 0 ≤ w ∧ w ≤ 16) ∧ (2 < i → 0 ≤ l ∧ l ≤ 8) ∧ (3 < i → 1 ≤ a ∧ a ≤ 16)) ⟨_, rfl, rfl, by omega, by omega, by omega, by omega⟩ ?_ ?_
    · rintro i σ H' hi ⟨x, rfl, rfl, p1, p2, p3, p4⟩
      have hq : SqT K H' t (StV m w l a) := .of ht
      have : i = 0 ∨ i = 1 ∨ i = 2 ∨ i = 3 := by omega
      rcases this with rfl | rfl | rfl | rfl
      · have ez : ¬ (2 ≤ m ∧ m ≤ 64) → z = "marks" := fun n => by
          rcases hb with ⟨_, e⟩ | ⟨g, _⟩ | ⟨g, _⟩ | ⟨g, _⟩
          · exact e
          all_goals exact absurd g n
        by_cases c1 : 2 ≤ m
        · by_cases c2 : m ≤ 64
          · walk_at "k"
            exact ⟨_, rfl, rfl, fun _ => ⟨c1, c2⟩, by omega, by omega, by omega⟩
          · walk_at "k"
            refine k_raiseI ?_
            walk_at "k"
            exact out _ (ez fun z => c2 z.2)
        · walk_at "k"
          refine k_raiseI ?_
          walk_at "k"
          exact out _ (ez fun z => c1 z.1)
      · have p1 := p1 (by omega)
        have ez : ¬ (0 ≤ w ∧ w ≤ 16) → z = "wide" := fun n => by
          rcases hb with ⟨g, _⟩ | ⟨_, _, e⟩ | ⟨_, g, _⟩ | ⟨_, g, _⟩
          · exact absurd p1 g
          · exact e
          all_goals exact absurd g n
        by_cases c1 : 0 ≤ w
        · by_cases c2 : w ≤ 16
          · walk_at "k"
            exact ⟨_, rfl, rfl, fun _ => p1, fun _ => ⟨c1, c2⟩, by omega, by omega⟩
          · walk_at "k"
            refine k_raiseI ?_
            walk_at "k"
            exact out _ (ez fun z => c2 z.2)
        · walk_at "k"
          refine k_raiseI ?_
          walk_at "k"
          exact out _ (ez fun z => c1 z.1)
      · have p1 := p1 (by omega)
        have p2 := p2 (by omega)
        have ez : ¬ (0 ≤ l ∧ l ≤ 8) → z = "late" := fun n => by
          rcases hb with ⟨g, _⟩ | ⟨_, g, _⟩ | ⟨_, _, _, e⟩ | ⟨_, _, g, _⟩
          · exact absurd p1 g
          · exact absurd p2 g
          · exact e
          · exact absurd g n
        by_cases c1 : 0 ≤ l
        · by_cases c2 : l ≤ 8
          · walk_at "k"
            exact ⟨_, rfl, rfl, fun _ => p1, fun _ => p2, fun _ => ⟨c1, c2⟩, by omega⟩
          · walk_at "k"
            refine k_raiseI ?_
            walk_at "k"
            exact out _ (ez fun z => c2 z.2)
        · walk_at "k"
          refine k_raiseI ?_
          walk_at "k"
          exact out _ (ez fun z => c1 z.1)
      · have p1 := p1 (by omega)
        have p2 := p2 (by omega)
        have p3 := p3 (by omega)
        have ez : ¬ (1 ≤ a ∧ a ≤ 16) → z = "ahead" := fun n => by
          rcases hb with ⟨g, _⟩ | ⟨_, g, _⟩ | ⟨_, _, g, _⟩ | ⟨_, _, _, _, e⟩
          · exact absurd p1 g
          · exact absurd p2 g
          · exact absurd p3 g
          · exact e
        by_cases c1 : 1 ≤ a
        · by_cases c2 : a ≤ 16
          · walk_at "k"
            exact ⟨_, rfl, rfl, fun _ => p1, fun _ => p2, fun _ => p3, fun _ => ⟨c1, c2⟩⟩
          · walk_at "k"
            refine k_raiseI ?_
            walk_at "k"
            exact out _ (ez fun z => c2 z.2)
        · walk_at "k"
          refine k_raiseI ?_
          walk_at "k"
          exact out _ (ez fun z => c1 z.1)
    · rintro σ H' ⟨x, rfl, rfl, p1, p2, p3, p4⟩
      have p1 := p1 (by omega)
      have p2 := p2 (by omega)
      have p3 := p3 (by omega)
      have p4 := p4 (by omega)
      exfalso
      rcases hb with ⟨g, _⟩ | ⟨_, g, _⟩ | ⟨_, _, g, _⟩ | ⟨_, _, _, g, _⟩
      · exact g p1
      · exact g p2
      · exact g p3
      · exact g p4
end
/-! ### an Ear -/
structure ES where
  (m w l a newest : Int)
  met : List Int
abbrev fsE (e : ES) (st ml : Addr) : List (Str × V) := [("marks", .int e.m), ("wide", .int e.w), ("late", .int e.l), ("ahead", .int e.a), ("setting", .ref st), ("newest", .int e.newest), ("met", .ref ml)]
abbrev earC (C p dx ml st : Addr) (e : ES) : List Cel := [⟨true, p, .ins C dx (fsE e st ml)⟩, ⟨true, ml, .lst (e.met.map V.int)⟩]
structure ETx (K : PySem.W.Frag) (C : Addr) : Prop where
  cl : Cls K C
  n1 : NoAttr K C "marks"
  n2 : NoAttr K C "wide"
  n3 : NoAttr K C "late"
  n4 : NoAttr K C "ahead"
  n5 : NoAttr K C "setting"
  n6 : NoAttr K C "newest"
  n7 : NoAttr K C "met"
def ES.least (e : ES) : Int := max 0 (e.newest - e.l)
def ES.taken (e : ES) (k : Int) : Int := e.least + (k - e.least) % e.m
def ES.put (e : ES) (n : Int) : ES := { e with newest := max e.newest n, met := (e.met ++ [n]).filter fun x => decide (x ≥ max e.newest n - e.w) }
def ES.come (e : ES) (n : Int) : ES := if n ∈ e.met then e else if n < e.newest - e.w then e else e.put n
def ES.word (e : ES) (n : Int) : Str := if n ∈ e.met then "again" else if n < e.newest - e.w then "old" else "new"
def ES.bits (e : ES) : List Int := (List.range e.w.toNat).map fun (k : Nat) => if e.newest - 1 - (k : Int) ∈ e.met then 1 else 0
structure EOk (e : ES) : Prop where
  ok : OkS e.m e.w e.l e.a
  lo : -1 ≤ e.newest
  nd : e.met.Nodup
  met : ∀ x ∈ e.met, e.newest - e.w ≤ x ∧ x ≤ e.newest ∧ 0 ≤ x
theorem nd_len' : ∀ {a b : List Int}, a.Nodup → (∀ x ∈ a, x ∈ b) → a.length ≤ b.length
  | [], _, _, _ => Nat.zero_le _
  | x :: a, b, hn, hs => by
    obtain ⟨h1, h2⟩ := List.nodup_cons.mp hn
    have hx : x ∈ b := hs x List.mem_cons_self
    have ih := nd_len' (a := a) (b := b.erase x) h2 fun y hy => by
      have hne : y ≠ x := fun e => h1 (e ▸ hy)
      exact (List.mem_erase_of_ne hne).2 (hs y (List.mem_cons_of_mem _ hy))
    have e := List.length_erase_of_mem hx
    have hp : 0 < b.length := List.length_pos_of_mem hx
    rw [List.length_cons]
    omega
/-- different numbers of a stretch -/
theorem nd_span {a : List Int} {lo : Int} {n : Nat} (hn : a.Nodup) (h : ∀ x ∈ a, lo ≤ x ∧ x < lo + n) : a.length ≤ n := by
  have := nd_len' (b := (List.range n).map fun (k : Nat) => lo + (k : Int)) hn fun x hx => by
    have := h x hx
    exact List.mem_map.mpr ⟨(x - lo).toNat, List.mem_range.mpr (by omega), by omega⟩
  rwa [List.length_map, List.length_range] at this
theorem EOk.len {e : ES} (h : EOk e) : e.met.length ≤ 17 := by
  have hw := h.ok.2.1
  refine nd_span (lo := e.newest - 16) h.nd fun x hx => ?_
  have := h.met x hx
  omega
theorem taken_lo {e : ES} (h : EOk e) (k : Int) : 0 ≤ e.taken k := by
  have h1 := h.ok.1
  have : 0 ≤ (k - e.least) % e.m := Int.emod_nonneg _ (by omega)
  have : 0 ≤ e.least := by unfold ES.least; omega
  unfold ES.taken
  omega
theorem put_ok {e : ES} (h : EOk e) {n : Int} (hn : 0 ≤ n) (hm : n ∉ e.met) : EOk (e.put n) where
  ok := h.ok
  lo := by
    show -1 ≤ max e.newest n
    omega
  nd := by
    refine List.Pairwise.filter _ ?_
    refine (List.nodup_append (l₁ := e.met) (l₂ := [n])).mpr ⟨h.nd, by simp, fun a ha b hb => ?_⟩
    rintro rfl
    have : a = n := by simpa using hb
    exact hm (this ▸ ha)
  met := fun x hx => by
    have hx := List.mem_filter.mp hx
    have h1 := of_decide_eq_true hx.2
    show max e.newest n - e.w ≤ x ∧ x ≤ max e.newest n ∧ 0 ≤ x
    rcases List.mem_append.mp hx.1 with q | q
    · have := h.met x q
      omega
    · have : x = n := by simpa using q
      omega
theorem come_ok {e : ES} (h : EOk e) {n : Int} (hn : 0 ≤ n) : EOk (e.come n) := by
  unfold ES.come
  split
  · exact h
  · rename_i c
    split
    · exact h
    · exact put_ok h hn c
section
variable {P : Program} {w : World} {K : PySem.W.Frag} {mg : Str → Option Value} {base : Heap} {C : Addr}
theorem sc_Ear_init : FnScope ["self", "setting"] ["self", "setting"] (defScope s_Ear_init) := ⟨rfl, rfl, rfl, by decide +kernel, rfl, by decide +kernel, by decide +kernel⟩
theorem bd_Ear_init : Bd "__init__" "Ear.__init__" s_Ear_init ["self", "setting"] := fun _ _ _ _ _ _ us hl => match us, hl with | [_, _], _ => rfl
def spEInit (C : Addr) : Sp := fun vs H Q _ => ∃ (p dx t : Addr) (m w l a : Int), vs = [.ref p, .ref t] ∧ H p = some (.ins C dx []) ∧ H t = some (.tup (StV m w l a)) ∧ OkS m w l a ∧
  ∀ (ml : Addr) (H' : Hp), Aftr [⟨true, p, .ins C dx []⟩] (earC C p dx ml t ⟨m, w, l, a, -1, []⟩) H H' → Q .non H'
theorem ok_EInit (F : DefC K mg C "Ear" "Ear.__init__" s_Ear_init) (T : ETx K C) (B : Bt mg) (c_need_setting : Cal P w K mg base CX0 1 "need_setting" ["setting"] spNeedS) : CalC P w K mg base CX0 C 2 "Ear" ["self", "setting"] (spEInit C) := by
  refine F.ok sc_Ear_init bd_Ear_init (fun vs H Q E h => ?_) (fun f cdv A outer s H vs Q E hr h => ?_)
  · obtain ⟨p, dx, t, m, w, l, a, rfl, _⟩ := h
    rfl
  · obtain ⟨p, dx, t, m, w, l, a, rfl, hp, ht, hs, k⟩ := h
    obtain ⟨cl, n1, n2, n3, n4, n5, n6, n7⟩ := T
    refine ⟨_, PSs.nox (pss_cons (ps_expr (pe_cal c_need_setting (hr.mono (by decide)) pass0 (pa_cons (pv 1) pa_nil)))
      (pss_cons (ps_asg (pv 1) (pg_tup rfl (pgs_cons (pg_attr (pv 0)) (pgs_cons (pg_attr (pv 0)) (pgs_cons (pg_attr (pv 0)) (pgs_cons (pg_attr (pv 0)) pgs_nil))))))
      (pss_cons (ps_fldK K rfl (pv 0) (pe_callTy (cr_tupTK K rfl) (by rfl) B.m_tuple (by decide +kernel) (pa_cons (pv 1) pa_nil)) rfl)
      (pss_cons (ps_fldK K rfl (pv 0) (pe_un un_neg pe_int) rfl)
      (pss_one (ps_fldK K rfl (pv 0) (pe_lst pa_nil) rfl)))))), ?_⟩
    have N : Now K none [p] H H [⟨true, p, .ins C dx []⟩] [(t, StV m w l a)] := .start (by simp) (by simp [hp, Mut]) (by simp [ht]) (by simp)
    walk_at "go"
    refine ⟨t, m, w, l, a, rfl, ht, hs, ?_⟩
    walk_at "k"
    rename_i N9
    exact k _ _ (Now.done (N9.sel [1, 0] rfl (by decide)) (by simp))
theorem sc_Ear_taken : FnScope ["self", "mark", "least"] ["self", "mark"] (defScope s_Ear_taken) := ⟨rfl, rfl, rfl, by decide +kernel, rfl, by decide +kernel, by decide +kernel⟩
theorem bd_Ear_taken : Bd "taken" "Ear.taken" s_Ear_taken ["self", "mark"] := fun _ _ _ _ _ _ us hl => match us, hl with | [_, _], _ => rfl
def spETaken (K : PySem.W.Frag) (C : Addr) : Sp := fun vs H Q _ => ∃ (p dx ml st : Addr) (e : ES) (n : Int), vs = [.ref p, .int n] ∧ CelOk H (earC C p dx ml st e) ∧ EOk e ∧ Q (.int (e.taken n)) H
theorem ok_ETaken (F : DefM K C "taken" "Ear.taken" s_Ear_taken) (T : ETx K C) (B : Bt mg) : CalM P w K mg base CX0 C 1 "taken" ["self", "mark"] (spETaken K C) := by
  refine F.ok sc_Ear_taken bd_Ear_taken (fun vs H Q E h => ?_) (fun f cdv A outer s H vs Q E hr h => ?_)
  · obtain ⟨p, dx, ml, st, e, n, rfl, _⟩ := h
    rfl
  · obtain ⟨p, dx, ml, st, e, n, rfl, hc, he, k⟩ := h
    obtain ⟨cl, n1, n2, n3, n4, n5, n6, n7⟩ := T
    refine ⟨_, PSs.nox (pss_cons (ps_set (i := 2) sc_Ear_taken.nd rfl (by first | exact Or.inl rfl | exact Or.inr rfl) (pe_callB (cr_max2 rfl) (by rfl) B.m_max (by decide +kernel) (pa_cons pe_int (pa_cons (pe_op op_sub (pe_fldK K rfl (pv 0) rfl) (pe_fldK K rfl (pv 0) rfl)) pa_nil))))
      (pss_one (ps_ret (pe_op op_add (pv 2) (pe_op op_mod (pe_op op_sub (pv 1) (pv 2)) (pe_fldK K rfl (pv 0) rfl)))))), ?_⟩
    have hm := he.ok.1.1
    have N : Now K none _ H H (earC C p dx ml st e) [] := .begin hc (by simp)
    walk_at "go"
    exact k
theorem sc_Ear_last : FnScope ["self"] ["self"] (defScope s_Ear_last) := ⟨rfl, rfl, rfl, by decide +kernel, rfl, by decide +kernel, by decide +kernel⟩
theorem bd_Ear_last : Bd "last" "Ear.last" s_Ear_last ["self"] := fun _ _ _ _ _ _ us hl => match us, hl with | [_], _ => rfl
def spELast (K : PySem.W.Frag) (C : Addr) : Sp := fun vs H Q _ => ∃ (p dx ml st : Addr) (e : ES), vs = [.ref p] ∧ CelOk H (earC C p dx ml st e) ∧ Q (.int e.newest) H
theorem ok_ELast (F : DefM K C "last" "Ear.last" s_Ear_last) (T : ETx K C) : CalM P w K mg base CX0 C 1 "last" ["self"] (spELast K C) := by
  refine F.ok sc_Ear_last bd_Ear_last (fun vs H Q E h => ?_) (fun f cdv A outer s H vs Q E hr h => ?_)
  · obtain ⟨p, dx, ml, st, e, rfl, _⟩ := h
    rfl
  · obtain ⟨p, dx, ml, st, e, rfl, hc, k⟩ := h
    obtain ⟨cl, n1, n2, n3, n4, n5, n6, n7⟩ := T
    refine ⟨_, PSs.nox (pss_one (ps_ret (pe_fldK K rfl (pv 0) rfl))), ?_⟩
    have N : Now K none _ H H (earC C p dx ml st e) [] := .begin hc (by simp)
    walk_at "go"
    exact k
theorem sc_Ear_come : FnScope ["self", "mark", "number", "one"] ["self", "mark"] (defScope s_Ear_come) := ⟨rfl, rfl, rfl, by decide +kernel, rfl, by decide +kernel, by decide +kernel⟩
theorem bd_Ear_come : Bd "come" "Ear.come" s_Ear_come ["self", "mark"] := fun _ _ _ _ _ _ us hl => match us, hl with | [_, _], _ => rfl
def spECome (K : PySem.W.Frag) (C : Addr) : Sp := fun vs H Q _ => ∃ (p dx ml st : Addr) (e : ES) (k : Int), vs = [.ref p, .int k] ∧ CelOk H (earC C p dx ml st e) ∧ H st = some (.tup (StV e.m e.w e.l e.a)) ∧ EOk e ∧ (0 ≤ k ∧ k < e.m) ∧
  ∀ (t ml' : Addr) H', Aftr (earC C p dx ml st e) (earC C p dx ml' st (e.come (e.taken k))) H H' → H' t = some (.tup [.int (e.taken k), .str (e.word (e.taken k))]) → Q (.ref t) H'
theorem ok_ECome (F : DefM K C "come" "Ear.come" s_Ear_come) (T : ETx K C) (B : Bt mg) (c_need_mark : Cal P w K mg base CX0 1 "need_mark" ["setting", "mark"] spNeedM) (c_Ear_taken : CalM P w K mg base CX0 C 1 "taken" ["self", "mark"] (spETaken K C)) :
    CalM P w K mg base CX0 C 2 "come" ["self", "mark"] (spECome K C) := by
  refine F.ok sc_Ear_come bd_Ear_come (fun vs H Q E h => ?_) (fun f cdv A outer s H vs Q E hr h => ?_)
  · obtain ⟨p, dx, ml, st, e, n, rfl, _⟩ := h
    rfl
  · obtain ⟨p, dx, ml, st, e, n, rfl, hc, hst, he, hn, k⟩ := h
    obtain ⟨cl_Ear, n1, n2, n3, n4, n5, n6, n7⟩ := T
    refine ⟨_, PSs.nox (pss_cons (ps_expr (pe_cal c_need_mark (hr.mono (by decide)) pass0 (pa_cons (pe_fldK K rfl (pv 0) rfl) (pa_cons (pv 1) pa_nil))))
      (pss_cons (ps_set (i := 2) sc_Ear_come.nd rfl (by first | exact Or.inl rfl | exact Or.inr rfl) (pe_calM (pv 0) cl_Ear c_Ear_taken (hr.mono (by decide)) pass0 (pa_cons (pv 1) pa_nil)))
      (pss_cons (ps_if (pt_cmpR (op_in_seqK K rfl) (pv 2) (pe_fldK K rfl (pv 0) rfl) (by rfl)) (pss_one (ps_ret (pe_tup (pa_cons (pv 2) (pa_cons pe_str pa_nil))))) pss_nil)
      (pss_cons (ps_if (pt_cmpR op_lt (pv 2) (pe_op op_sub (pe_fldK K rfl (pv 0) rfl) (pe_fldK K rfl (pv 0) rfl)) (nomark _)) (pss_one (ps_ret (pe_tup (pa_cons (pv 2) (pa_cons pe_str pa_nil))))) pss_nil)
      (pss_cons (ps_fldK K rfl (pv 0) (pe_callB (cr_max2 rfl) (by rfl) B.m_max (by decide +kernel) (pa_cons (pe_fldK K rfl (pv 0) rfl) (pa_cons (pv 2) pa_nil))) rfl)
      (pss_cons (ps_fldK K rfl (pv 0) (pe_lc (own := [("one", 3)]) (g := (gName 3)) rfl sc_Ear_come.nd (pi_listK K rfl (pe_op op_cat (pe_fldK K rfl (pv 0) rfl) (pe_lst (pa_cons (pv 2) pa_nil)))) (blkOk_by (own := [("one", 3)]) (N := ["self", "mark", "number", "one"]) (sc := defScope s_Ear_come) (by decide +kernel)) (fun _ _ _ _ _ => (pg_name (i := 3) sc_Ear_come.nd rfl (by first | exact Or.inl rfl | exact Or.inr rfl))) (fun _ _ _ _ _ => (pts_one (pt_cmpR op_ge (pv 3) (pe_op op_sub (pe_fldK K rfl (pv 0) rfl) (pe_fldK K rfl (pv 0) rfl)) (nomark _)))) (fun _ _ _ _ _ => (pv 3))) rfl)
      (pss_one (ps_ret (pe_tup (pa_cons (pv 2) (pa_cons pe_str pa_nil))))))))))), ?_⟩
    have hlen := he.len
    have N : Now K none _ H H (earC C p dx ml st e) [(st, StV e.m e.w e.l e.a)] := .begin hc (by simp [hst])
    walk_at "go"
    refine ⟨st, e.m, e.w, e.l, e.a, n, rfl, hst, hn, ?_⟩
    walk_at "k"
    refine ⟨p, dx, ml, st, e, n, rfl, N.ok, he, ?_⟩
    walk_at "k"
    have ec : ∀ z, z = e.taken n → e.come z = if z ∈ e.met then e else if z < e.newest - e.w then e else e.put z := fun _ _ => rfl
    refine c_if (fun c => ?_) (fun c => ?_)
    · have c := of_decide_eq_true c
      have e1 : e.come (e.taken n) = e := if_pos c
      have e2 : e.word (e.taken n) = "again" := if_pos c
      walk_at "k"
      rename_i t H2 N2
      refine k t ml _ (by rw [e1]; exact Now.done N2 (by simp)) (by rw [e2]; exact N2.tup 0 rfl)
    · have c := of_decide_eq_false c
      walk_at "k"
      refine c_ifd (fun d => ?_) (fun d => ?_)
      · have e1 : e.come (e.taken n) = e := (if_neg c).trans (if_pos d)
        have e2 : e.word (e.taken n) = "old" := (if_neg c).trans (if_pos d)
        walk_at "k"
        rename_i t H2 N2
        refine k t ml _ (by rw [e1]; exact Now.done N2 (by simp)) (by rw [e2]; exact N2.tup 0 rfl)
      · have e1 : e.come (e.taken n) = e.put (e.taken n) := (if_neg c).trans (if_neg d)
        have e2 : e.word (e.taken n) = "new" := (if_neg c).trans (if_neg d)
        walk_at "k"
        rename_i p1 H2 N2 p2 H3 N3
        have ey : e.met.map V.int ++ [V.int (e.taken n)] = (e.met ++ [e.taken n]).map V.int := by rw [List.map_append]; rfl
        rw [ey] at N3
        have l18 : (e.met ++ [e.taken n]).length ≤ 18 := by rw [List.length_append]; exact Nat.add_le_add_right hlen 1
        refine c_lc N3 ((e.met ++ [e.taken n]).map V.int) (fun i acc => acc = (((e.met ++ [e.taken n]).take i).filter fun x => decide (x ≥ max e.newest (e.taken n) - e.w)).map V.int) rfl (fun H' Dd acc N' => .of (N'.cell 1 rfl)) (fun _ => rfl) (fun i x Dd H4 acc hx N4 r => ?_) (fun pf H4 acc N4 r => ?_) (.of (N3.cell 0 rfl))
        · rw [List.getElem?_map] at hx
          obtain ⟨z, hz, rfl⟩ := Option.map_eq_some_iff.mp hx
          have la : acc.length ≤ 18 := by
            rw [r, List.length_map]
            exact Nat.le_trans (List.length_filter_le _ _) (by rw [List.length_take]; omega)
          walk_at "k"
          refine c_el (fun c => ?_) (fun c => ?_)
          · walk_at "k"
            refine c_put N4 (by omega) ?_
            show acc ++ [V.int z] = _
            rw [r, filt_snoc hz, if_pos c, List.map_append]
            rfl
          · refine ⟨acc, N4, ?_⟩
            show acc = _
            rw [r, filt_snoc hz, if_neg (fun q => by rw [show decide (z ≥ max e.newest (e.taken n) - e.w) = _ from c] at q; cases q)]
        · rw [List.length_map, List.take_length] at r
          subst r
          have N5 := N4.sel [3, 0, 1, 2, 4] (l' := ⟨true, p, .ins C dx (putF "newest" (V.int (max e.newest (e.taken n))) (fsE e st ml))⟩ :: ⟨true, pf, .lst ((e.put (e.taken n)).met.map V.int)⟩ :: ⟨true, p2, .lst ((e.met ++ [e.taken n]).map V.int)⟩ :: ⟨true, p1, .lst [V.int (e.taken n)]⟩ :: ⟨true, ml, .lst (e.met.map V.int)⟩ :: []) rfl (by decide)
          clear N4
          walk_at "k"
          rename_i H6 N6 t H7 N7
          exact k t pf _ (by rw [e1]; exact Now.done (N7.sel [0, 1] rfl (by decide)) (by simp)) (by rw [e2]; exact N7.tup 0 rfl)
theorem sc_Ear_tell : FnScope ["self", "bits", "k"] ["self"] (defScope s_Ear_tell) := ⟨rfl, rfl, rfl, by decide +kernel, rfl, by decide +kernel, by decide +kernel⟩
theorem bd_Ear_tell : Bd "tell" "Ear.tell" s_Ear_tell ["self"] := fun _ _ _ _ _ _ us hl => match us, hl with | [_], _ => rfl
def spETell (K : PySem.W.Frag) (C : Addr) : Sp := fun vs H Q _ => ∃ (p dx ml st : Addr) (e : ES), vs = [.ref p] ∧ CelOk H (earC C p dx ml st e) ∧ EOk e ∧ 0 ≤ e.newest ∧
  ∀ (t b : Addr) H', Aft [] H H' → H' t = some (.tup [.int (e.newest % e.m), .ref b]) → H' b = some (.tup (e.bits.map V.int)) → Q (.ref t) H'
theorem ok_ETell (F : DefM K C "tell" "Ear.tell" s_Ear_tell) (T : ETx K C) (B : Bt mg) : CalM P w K mg base CX0 C 1 "tell" ["self"] (spETell K C) := by
  refine F.ok sc_Ear_tell bd_Ear_tell (fun vs H Q E h => ?_) (fun f cdv A outer s H vs Q E hr h => ?_)
  · obtain ⟨p, dx, ml, st, e, rfl, _⟩ := h
    rfl
  · obtain ⟨p, dx, ml, st, e, rfl, hc, he, h0, k⟩ := h
    obtain ⟨cl_Ear, n1, n2, n3, n4, n5, n6, n7⟩ := T
    refine ⟨_, PSs.nox (pss_cons (ps_if (pt_cmpR op_lt (pe_fldK K rfl (pv 0) rfl) pe_int (nomark _)) (pss_one ps_never) pss_nil)
      (pss_cons (ps_setLc (i := 1) (own := [("k", 2)]) (g := (gName 2)) rfl sc_Ear_tell.nd rfl rfl (sw_true rfl rfl rfl (by decide +kernel)) (pi_range1 (by rfl) B.m_range (pa_cons (pe_fldK K rfl (pv 0) rfl) pa_nil)) (blkOk_by (own := [("k", 2)]) (N := ["self", "bits", "k"]) (sc := defScope s_Ear_tell) (by decide +kernel)) (fun _ _ _ _ _ => (pg_name (i := 2) sc_Ear_tell.nd rfl (by first | exact Or.inl rfl | exact Or.inr rfl))) (fun _ _ _ _ _ => pts_nil) (fun _ _ _ _ _ => (pe_callTy cr_intB (by rfl) B.m_int (by decide +kernel) (pa_cons (pe_cmpR (op_in_seqK K rfl) (pe_op op_sub (pe_op op_sub (pe_fldK K rfl (pv 0) rfl) pe_int) (pv 2)) (pe_fldK K rfl (pv 0) rfl) (by rfl)) pa_nil))))
      (pss_one (ps_ret (pe_tup (pa_cons (pe_op op_mod (pe_fldK K rfl (pv 0) rfl) (pe_fldK K rfl (pv 0) rfl)) (pa_cons (pe_callTy (cr_tupLK K rfl) (by rfl) B.m_tuple (by decide +kernel) (pa_cons (pv 1) pa_nil)) pa_nil))))))), ?_⟩
    have hlen := he.len
    have hok := he.ok
    unfold OkS at hok
    have N : Now K none [] H H ((earC C p dx ml st e).map Cel.ro) [] := .read hc (by simp)
    walk_at "go"
    refine c_lcR N (by omega) (fun k acc => acc = ((List.range k).map fun (k : Nat) => V.int (if e.newest - 1 - (k : Int) ∈ e.met then 1 else 0))) rfl (fun _ => rfl) (fun i Dd H2 acc hi N2 r => ?_) (fun q H2 acc N2 r => ?_)
    · have la : acc.length = i := by rw [r, List.length_map, List.length_range]
      walk_at "k"
      refine c_put N2 (by omega) ?_
      show acc ++ [V.int (if decide (e.newest - 1 - (i : Int) ∈ e.met) = true then 1 else 0)] = _
      rw [r, List.range_succ, List.map_append]
      simp only [decide_eq_true_eq]
      rfl
    · have eb : acc = e.bits.map V.int := by
        rw [r]
        unfold ES.bits
        rw [List.map_map]
        rfl
      rw [eb] at N2
      walk_at "k"
      rename_i H3 N3 t H4 N4
      exact k t _ _ N4.af (N4.tup 0 rfl) (N4.tup 1 rfl)
end
/-! ### a Mouth -/
structure MS where
  (m w l a sent top : Int)
  certain : List Int
abbrev fsM (s : MS) (st cl : Addr) : List (Str × V) := [("marks", .int s.m), ("wide", .int s.w), ("late", .int s.l), ("ahead", .int s.a), ("setting", .ref st), ("sent", .int s.sent), ("certain", .ref cl), ("top", .int s.top)]
abbrev mouthC (C p dx cl st : Addr) (s : MS) : List Cel := [⟨true, p, .ins C dx (fsM s st cl)⟩, ⟨true, cl, .lst (s.certain.map V.int)⟩]
structure MTx (K : PySem.W.Frag) (C : Addr) : Prop where
  cl : Cls K C
  n1 : NoAttr K C "marks"
  n2 : NoAttr K C "wide"
  n3 : NoAttr K C "late"
  n4 : NoAttr K C "ahead"
  n5 : NoAttr K C "setting"
  n6 : NoAttr K C "sent"
  n7 : NoAttr K C "certain"
  n8 : NoAttr K C "top"
def MS.full (s : MS) : Bool := decide (s.sent - s.top > s.a)
def MS.send (s : MS) : MS := { s with sent := s.sent + 1 }
def MS.number (s : MS) (k : Int) : Int := s.sent - 1 - (s.sent - 1 - k) % s.m
def MS.far (s : MS) (k : Int) (bs : List Int) (n : Nat) : List Int := ((List.range n).filter fun i => decide (bs.getD i 0 = 1)).map fun (i : Nat) => s.number k - 1 - (i : Int)
def MS.some (s : MS) (k : Int) (bs : List Int) : List Int := s.far k bs s.w.toNat ++ [s.number k]
def MS.found (s : MS) (k : Int) (bs : List Int) : List Int := srt ((s.some k bs).filter fun x => decide (x ∉ s.certain))
def MS.hear (s : MS) (k : Int) (bs : List Int) : MS := { s with certain := srt (s.certain ++ s.found k bs), top := max s.top (s.number k) }
structure MOk (s : MS) : Prop where
  ok : OkS s.m s.w s.l s.a
  len : s.certain.length ≤ 50000
theorem far_len (s : MS) (k : Int) (bs : List Int) (n : Nat) : (s.far k bs n).length ≤ n := by
  unfold MS.far
  rw [List.length_map]
  exact Nat.le_trans (List.length_filter_le _ _) (by rw [List.length_range]; exact Nat.le_refl _)
theorem some_len {s : MS} (h : MOk s) (k : Int) (bs : List Int) : (s.some k bs).length ≤ 17 := by
  have := far_len s k bs s.w.toNat
  have := h.ok.2.1
  unfold MS.some
  rw [List.length_append]
  simp
  omega
theorem foundM_len {s : MS} (h : MOk s) (k : Int) (bs : List Int) : (s.found k bs).length ≤ 17 := by
  have := some_len h k bs
  unfold MS.found
  rw [srt_len]
  exact Nat.le_trans (List.length_filter_le _ _) this
section
variable {P : Program} {w : World} {K : PySem.W.Frag} {mg : Str → Option Value} {base : Heap} {C : Addr}
theorem sc_Mouth_init : FnScope ["self", "setting"] ["self", "setting"] (defScope s_Mouth_init) := ⟨rfl, rfl, rfl, by decide +kernel, rfl, by decide +kernel, by decide +kernel⟩
theorem bd_Mouth_init : Bd "__init__" "Mouth.__init__" s_Mouth_init ["self", "setting"] := fun _ _ _ _ _ _ us hl => match us, hl with | [_, _], _ => rfl
def spMInit (C : Addr) : Sp := fun vs H Q _ => ∃ (p dx t : Addr) (m w l a : Int), vs = [.ref p, .ref t] ∧ H p = some (.ins C dx []) ∧ H t = some (.tup (StV m w l a)) ∧ OkS m w l a ∧
  ∀ (cl : Addr) (H' : Hp), Aftr [⟨true, p, .ins C dx []⟩] (mouthC C p dx cl t ⟨m, w, l, a, 0, -1, []⟩) H H' → Q .non H'
theorem ok_MInit (F : DefC K mg C "Mouth" "Mouth.__init__" s_Mouth_init) (T : MTx K C) (B : Bt mg) (c_need_setting : Cal P w K mg base CX0 1 "need_setting" ["setting"] spNeedS) : CalC P w K mg base CX0 C 2 "Mouth" ["self", "setting"] (spMInit C) := by
  refine F.ok sc_Mouth_init bd_Mouth_init (fun vs H Q E h => ?_) (fun f cdv A outer s H vs Q E hr h => ?_)
  · obtain ⟨p, dx, t, m, w, l, a, rfl, _⟩ := h
    rfl
  · obtain ⟨p, dx, t, m, w, l, a, rfl, hp, ht, hs, k⟩ := h
    obtain ⟨cl, n1, n2, n3, n4, n5, n6, n7, n8⟩ := T
    refine ⟨_, PSs.nox (pss_cons (ps_expr (pe_cal c_need_setting (hr.mono (by decide)) pass0 (pa_cons (pv 1) pa_nil)))
      (pss_cons (ps_asg (pv 1) (pg_tup rfl (pgs_cons (pg_attr (pv 0)) (pgs_cons (pg_attr (pv 0)) (pgs_cons (pg_attr (pv 0)) (pgs_cons (pg_attr (pv 0)) pgs_nil))))))
      (pss_cons (ps_fldK K rfl (pv 0) (pe_callTy (cr_tupTK K rfl) (by rfl) B.m_tuple (by decide +kernel) (pa_cons (pv 1) pa_nil)) rfl)
      (pss_cons (ps_fldK K rfl (pv 0) pe_int rfl)
      (pss_cons (ps_fldK K rfl (pv 0) (pe_lst pa_nil) rfl)
      (pss_one (ps_fldK K rfl (pv 0) (pe_un un_neg pe_int) rfl))))))), ?_⟩
    have N : Now K none [p] H H [⟨true, p, .ins C dx []⟩] [(t, StV m w l a)] := .start (by simp) (by simp [hp, Mut]) (by simp [ht]) (by simp)
    walk_at "go"
    refine ⟨t, m, w, l, a, rfl, ht, hs, ?_⟩
    walk_at "k"
    rename_i N9
    exact k _ _ (Now.done (N9.sel [1, 0] rfl (by decide)) (by simp))
theorem sc_Mouth_is_full : FnScope ["self"] ["self"] (defScope s_Mouth_is_full) := ⟨rfl, rfl, rfl, by decide +kernel, rfl, by decide +kernel, by decide +kernel⟩
theorem bd_Mouth_is_full : Bd "is_full" "Mouth.is_full" s_Mouth_is_full ["self"] := fun _ _ _ _ _ _ us hl => match us, hl with | [_], _ => rfl
def spMFull (K : PySem.W.Frag) (C : Addr) : Sp := fun vs H Q _ => ∃ (p dx cl st : Addr) (s : MS), vs = [.ref p] ∧ CelOk H (mouthC C p dx cl st s) ∧ Q (.bl s.full) H
theorem ok_MFull (F : DefM K C "is_full" "Mouth.is_full" s_Mouth_is_full) (T : MTx K C) : CalM P w K mg base CX0 C 1 "is_full" ["self"] (spMFull K C) := by
  refine F.ok sc_Mouth_is_full bd_Mouth_is_full (fun vs H Q E h => ?_) (fun f cdv A outer s H vs Q E hr h => ?_)
  · obtain ⟨p, dx, cl, st, e, rfl, _⟩ := h
    rfl
  · obtain ⟨p, dx, cl, st, e, rfl, hc, k⟩ := h
    obtain ⟨cl_Mouth, n1, n2, n3, n4, n5, n6, n7, n8⟩ := T
    refine ⟨_, PSs.nox (pss_one (ps_ret (pe_cmpR op_gt (pe_op op_sub (pe_fldK K rfl (pv 0) rfl) (pe_fldK K rfl (pv 0) rfl)) (pe_fldK K rfl (pv 0) rfl) (nomark _)))), ?_⟩
    have N : Now K none [] H H ((mouthC C p dx cl st e).map Cel.ro) [] := .read hc (by simp)
    walk_at "go"
    exact k
theorem sc_Mouth_last : FnScope ["self"] ["self"] (defScope s_Mouth_last) := ⟨rfl, rfl, rfl, by decide +kernel, rfl, by decide +kernel, by decide +kernel⟩
theorem bd_Mouth_last : Bd "last" "Mouth.last" s_Mouth_last ["self"] := fun _ _ _ _ _ _ us hl => match us, hl with | [_], _ => rfl
def spMLast (K : PySem.W.Frag) (C : Addr) : Sp := fun vs H Q _ => ∃ (p dx cl st : Addr) (s : MS), vs = [.ref p] ∧ CelOk H (mouthC C p dx cl st s) ∧ Q (.int (s.sent - 1)) H
theorem ok_MLast (F : DefM K C "last" "Mouth.last" s_Mouth_last) (T : MTx K C) : CalM P w K mg base CX0 C 1 "last" ["self"] (spMLast K C) := by
  refine F.ok sc_Mouth_last bd_Mouth_last (fun vs H Q E h => ?_) (fun f cdv A outer s H vs Q E hr h => ?_)
  · obtain ⟨p, dx, cl, st, e, rfl, _⟩ := h
    rfl
  · obtain ⟨p, dx, cl, st, e, rfl, hc, k⟩ := h
    obtain ⟨cl_Mouth, n1, n2, n3, n4, n5, n6, n7, n8⟩ := T
    refine ⟨_, PSs.nox (pss_one (ps_ret (pe_op op_sub (pe_fldK K rfl (pv 0) rfl) pe_int))), ?_⟩
    have N : Now K none [] H H ((mouthC C p dx cl st e).map Cel.ro) [] := .read hc (by simp)
    walk_at "go"
    exact k
theorem sc_Mouth_sure : FnScope ["self"] ["self"] (defScope s_Mouth_sure) := ⟨rfl, rfl, rfl, by decide +kernel, rfl, by decide +kernel, by decide +kernel⟩
theorem bd_Mouth_sure : Bd "sure" "Mouth.sure" s_Mouth_sure ["self"] := fun _ _ _ _ _ _ us hl => match us, hl with | [_], _ => rfl
def spMSure (K : PySem.W.Frag) (C : Addr) : Sp := fun vs H Q _ => ∃ (p dx cl st : Addr) (s : MS), vs = [.ref p] ∧ CelOk H (mouthC C p dx cl st s) ∧ ∀ l H', H l = none → Aft [] H H' → H' l = some (.lst (s.certain.map V.int)) → Q (.ref l) H'
theorem ok_MSure (F : DefM K C "sure" "Mouth.sure" s_Mouth_sure) (T : MTx K C) (B : Bt mg) : CalM P w K mg base CX0 C 1 "sure" ["self"] (spMSure K C) := by
  refine F.ok sc_Mouth_sure bd_Mouth_sure (fun vs H Q E h => ?_) (fun f cdv A outer s H vs Q E hr h => ?_)
  · obtain ⟨p, dx, cl, st, e, rfl, _⟩ := h
    rfl
  · obtain ⟨p, dx, cl, st, e, rfl, hc, k⟩ := h
    obtain ⟨cl_Mouth, n1, n2, n3, n4, n5, n6, n7, n8⟩ := T
    refine ⟨_, PSs.nox (pss_one (ps_ret (pe_callTy (cr_lstSK K rfl) (by rfl) B.m_list (by decide +kernel) (pa_cons (pe_fldK K rfl (pv 0) rfl) pa_nil)))), ?_⟩
    have N : Now K none [] H H ((mouthC C p dx cl st e).map Cel.ro) [] := .read hc (by simp)
    walk_at "go"
    rename_i l H2 N2
    exact k _ _ ((N2.ow ⟨true, l, _⟩ List.mem_cons_self rfl).resolve_left (by simp)) N2.af (N2.cell 0 rfl)
theorem sc_Mouth_send : FnScope ["self", "number"] ["self"] (defScope s_Mouth_send) := ⟨rfl, rfl, rfl, by decide +kernel, rfl, by decide +kernel, by decide +kernel⟩
theorem bd_Mouth_send : Bd "send" "Mouth.send" s_Mouth_send ["self"] := fun _ _ _ _ _ _ us hl => match us, hl with | [_], _ => rfl
def spMSend (K : PySem.W.Frag) (C : Addr) : Sp := fun vs H Q _ => ∃ (p dx cl st : Addr) (s : MS), vs = [.ref p] ∧ CelOk H (mouthC C p dx cl st s) ∧ OkS s.m s.w s.l s.a ∧ s.full = false ∧
  ∀ t H', Aftr (mouthC C p dx cl st s) (mouthC C p dx cl st s.send) H H' → H' t = some (.tup [.int s.sent, .int (s.sent % s.m)]) → Q (.ref t) H'
theorem ok_MSend (F : DefM K C "send" "Mouth.send" s_Mouth_send) (T : MTx K C) (c_Mouth_is_full : CalM P w K mg base CX0 C 1 "is_full" ["self"] (spMFull K C)) : CalM P w K mg base CX0 C 2 "send" ["self"] (spMSend K C) := by
  refine F.ok sc_Mouth_send bd_Mouth_send (fun vs H Q E h => ?_) (fun f cdv A outer s H vs Q E hr h => ?_)
  · obtain ⟨p, dx, cl, st, e, rfl, _⟩ := h
    rfl
  · obtain ⟨p, dx, cl, st, e, rfl, hc, hs, hf, k⟩ := h
    obtain ⟨cl_Mouth, n1, n2, n3, n4, n5, n6, n7, n8⟩ := T
    have hm := hs.1
    refine ⟨_, PSs.nox (pss_cons (ps_if (pt_val (pe_calM0 (pv 0) cl_Mouth c_Mouth_is_full (hr.mono (by decide)) pass0)) (pss_one ps_never) pss_nil)
      (pss_cons (ps_set (i := 1) sc_Mouth_send.nd rfl (by first | exact Or.inl rfl | exact Or.inr rfl) (pe_fldK K rfl (pv 0) rfl))
      (pss_cons (ps_fldK K rfl (pv 0) (pe_op op_add (pe_fldK K rfl (pv 0) rfl) pe_int) rfl)
      (pss_one (ps_ret (pe_tup (pa_cons (pv 1) (pa_cons (pe_op op_mod (pv 1) (pe_fldK K rfl (pv 0) rfl)) pa_nil)))))))), ?_⟩
    have N : Now K none _ H H (mouthC C p dx cl st e) [] := .begin hc (by simp)
    walk_at "go"
    refine ⟨p, dx, cl, st, e, rfl, hc, ?_⟩
    rw [hf]
    walk_at "k"
    rename_i H2 N2 t H3 N3
    exact k t _ (Now.done N3 (by simp)) (N3.tup 0 rfl)
theorem sc_Mouth_hear : FnScope ["self", "told", "mark", "bits", "last", "number", "some", "k", "found", "one"] ["self", "told"] (defScope s_Mouth_hear) := ⟨rfl, rfl, rfl, by decide +kernel, rfl, by decide +kernel, by decide +kernel⟩
theorem bd_Mouth_hear : Bd "hear" "Mouth.hear" s_Mouth_hear ["self", "told"] := fun _ _ _ _ _ _ us hl => match us, hl with | [_, _], _ => rfl
def spMHear (K : PySem.W.Frag) (C : Addr) : Sp := fun vs H Q _ => ∃ (p dx cl st q b : Addr) (s : MS) (n : Int) (bs : List Int), vs = [.ref p, .ref q] ∧ CelOk H (mouthC C p dx cl st s) ∧ H st = some (.tup (StV s.m s.w s.l s.a)) ∧ H q = some (.tup [.int n, .ref b]) ∧ H b = some (.tup (bs.map V.int)) ∧ MOk s ∧
  (0 ≤ n ∧ n < s.m) ∧ (bs.length : Int) = s.w ∧ (∀ x ∈ bs, x = 0 ∨ x = 1) ∧ (∀ x ∈ s.some n bs, 0 ≤ x) ∧
  ∀ (l cl' : Addr) H', H l = none → l ≠ cl' → Aftr (mouthC C p dx cl st s) (mouthC C p dx cl' st (s.hear n bs)) H H' → H' l = some (.lst ((s.found n bs).map V.int)) → Q (.ref l) H'
theorem ok_MHear (F : DefM K C "hear" "Mouth.hear" s_Mouth_hear) (T : MTx K C) (B : Bt mg) (c_need_bits : Cal P w K mg base CX0 2 "need_bits" ["setting", "told"] spNeedB) : CalM P w K mg base CX0 C 3 "hear" ["self", "told"] (spMHear K C) := by
  refine F.ok sc_Mouth_hear bd_Mouth_hear (fun vs H Q E h => ?_) (fun f cdv A outer s H vs Q E hr h => ?_)
  · obtain ⟨p, dx, cl, st, q, b, e, n, bs, rfl, _⟩ := h
    rfl
  · obtain ⟨p, dx, cl, st, q, b, e, n, bs, rfl, hc, hst, hq, hb, hok, hn, hl, h01, h0, k⟩ := h
    obtain ⟨cl_Mouth, n1, n2, n3, n4, n5, n6, n7, n8⟩ := T
    have hm := hok.ok.1
    have hw := hok.ok.2.1
    have hlen := hok.len
    refine ⟨_, PSs.nox (pss_cons (ps_expr (pe_cal c_need_bits (hr.mono (by decide)) pass0 (pa_cons (pe_fldK K rfl (pv 0) rfl) (pa_cons (pv 1) pa_nil))))
      (pss_cons (ps_asg (pv 1) (pg_tup rfl (pgs_cons (pg_name (i := 2) sc_Mouth_hear.nd rfl (by first | exact Or.inl rfl | exact Or.inr rfl)) (pgs_cons (pg_name (i := 3) sc_Mouth_hear.nd rfl (by first | exact Or.inl rfl | exact Or.inr rfl)) pgs_nil))))
      (pss_cons (ps_set (i := 4) sc_Mouth_hear.nd rfl (by first | exact Or.inl rfl | exact Or.inr rfl) (pe_op op_sub (pe_fldK K rfl (pv 0) rfl) pe_int))
      (pss_cons (ps_set (i := 5) sc_Mouth_hear.nd rfl (by first | exact Or.inl rfl | exact Or.inr rfl) (pe_op op_sub (pv 4) (pe_op op_mod (pe_op op_sub (pv 4) (pv 2)) (pe_fldK K rfl (pv 0) rfl))))
      (pss_cons (ps_set (i := 6) sc_Mouth_hear.nd rfl (by first | exact Or.inl rfl | exact Or.inr rfl) (pe_op op_cat (pe_lc (own := [("k", 7)]) (g := (gName 7)) rfl sc_Mouth_hear.nd (pi_range1 (by rfl) B.m_range (pa_cons (pe_fldK K rfl (pv 0) rfl) pa_nil)) (blkOk_by (own := [("k", 7)]) (N := ["self", "told", "mark", "bits", "last", "number", "some", "k", "found", "one"]) (sc := defScope s_Mouth_hear) (by decide +kernel)) (fun _ _ _ _ _ => (pg_name (i := 7) sc_Mouth_hear.nd rfl (by first | exact Or.inl rfl | exact Or.inr rfl))) (fun _ _ _ _ _ => (pts_one (pt_cmpR op_eq (pe_ix (ix_tupK K rfl) (pv 3) (pv 7) (fun _ _ => rfl)) pe_int (nomark _)))) (fun _ _ _ _ _ => (pe_op op_sub (pe_op op_sub (pv 5) pe_int) (pv 7)))) (pe_lst (pa_cons (pv 5) pa_nil))))
      (pss_cons (ps_if (pt_cmpR op_lt (pe_callB (cr_minLK K rfl rfl) (by rfl) B.m_min (by decide +kernel) (pa_cons (pv 6) pa_nil)) pe_int (nomark _)) (pss_one ps_never) pss_nil)
      (pss_cons (ps_set (i := 8) sc_Mouth_hear.nd rfl (by first | exact Or.inl rfl | exact Or.inr rfl) (pe_callB (cr_sortedIK K rfl) (by rfl) B.m_sorted (by decide +kernel) (pa_cons (pe_lc (own := [("one", 9)]) (g := (gName 9)) rfl sc_Mouth_hear.nd (pi_listK K rfl (pv 6)) (blkOk_by (own := [("one", 9)]) (N := ["self", "told", "mark", "bits", "last", "number", "some", "k", "found", "one"]) (sc := defScope s_Mouth_hear) (by decide +kernel)) (fun _ _ _ _ _ => (pg_name (i := 9) sc_Mouth_hear.nd rfl (by first | exact Or.inl rfl | exact Or.inr rfl))) (fun _ _ _ _ _ => (pts_one (pt_cmpR (op_notIn_seqK K rfl) (pv 9) (pe_fldK K rfl (pv 0) rfl) (by rfl)))) (fun _ _ _ _ _ => (pv 9))) pa_nil)))
      (pss_cons (ps_fldK K rfl (pv 0) (pe_callB (cr_sortedIK K rfl) (by rfl) B.m_sorted (by decide +kernel) (pa_cons (pe_op op_cat (pe_fldK K rfl (pv 0) rfl) (pv 8)) pa_nil)) rfl)
      (pss_cons (ps_fldK K rfl (pv 0) (pe_callB (cr_max2 rfl) (by rfl) B.m_max (by decide +kernel) (pa_cons (pe_fldK K rfl (pv 0) rfl) (pa_cons (pv 5) pa_nil))) rfl)
      (pss_one (ps_ret (pv 8)))))))))))), ?_⟩
    have N : Now K none _ H H (mouthC C p dx cl st e) [(st, StV e.m e.w e.l e.a), (q, [.int n, .ref b]), (b, bs.map V.int)] := .begin hc (by simp [hst, hq, hb])
    walk_at "go"
    refine ⟨st, q, b, e.m, e.w, e.l, e.a, n, bs, rfl, hst, hq, hb, hn, hl, hw.2, h01, fun H1 A1 => ?_⟩
    have N1 := N.pure A1
    clear N
    walk_at "k"
    refine c_lcR N1 (by omega) (fun i acc => acc = (e.far n bs i).map V.int) rfl (fun _ => rfl) (fun i Dd H2 acc hi N2 r => ?_) (fun pf H2 acc N2 r => ?_)
    · have li : i < bs.length := by omega
      have la : acc.length ≤ i := by
        rw [r, List.length_map]
        exact far_len _ _ _ _
      have eg : bs.getD i 0 = bs[i] := by rw [List.getD_eq_getElem?_getD, List.getElem?_eq_getElem li]; rfl
      have nxt : e.far n bs (i + 1) = if bs[i] = 1 then e.far n bs i ++ [e.number n - 1 - (i : Int)] else e.far n bs i := by
        unfold MS.far
        rw [List.range_succ, List.filter_append, List.map_append]
        by_cases c : bs[i] = 1
        · rw [if_pos c, List.filter_cons_of_pos (by rw [eg]; simpa using c)]
          rfl
        · rw [if_neg c, List.filter_cons_of_neg (by rw [eg]; simpa using c)]
          simp
      walk_at "k"
      refine g_ixT (xs := bs.map V.int) (v := .int bs[i]) (.of (N2.tup 2 rfl)) (atI_nat (by rw [List.getElem?_map, List.getElem?_eq_getElem li]; rfl)) ?_
      walk_at "k"
      refine c_el (fun c => ?_) (fun c => ?_)
      · walk_at "k"
        refine c_put N2 (by omega) ?_
        show acc ++ [V.int (e.number n - 1 - (i : Int))] = _
        rw [nxt, if_pos (of_decide_eq_true c), List.map_append, r]
        rfl
      · refine ⟨acc, N2, ?_⟩
        show acc = _
        rw [nxt, if_neg (of_decide_eq_false c), r]
    · subst r
      have l1 := far_len e n bs e.w.toNat
      walk_at "k"
      rename_i p1 H3 N3 p2 H4 N4
      have ey : (e.far n bs e.w.toNat).map V.int ++ [V.int (e.sent - 1 - (e.sent - 1 - n) % e.m)] = (e.some n bs).map V.int := by
        unfold MS.some
        rw [List.map_append]
        rfl
      rw [ey] at N4
      have l17 := some_len hok n bs
      refine g_minL (ns := e.some n bs) (.of (N4.cell 0 rfl)) (by unfold MS.some; rw [List.length_append]; simp) fun mn hmn _ => ?_
      have := h0 mn hmn
      walk_at "k"
      refine c_lc N4 ((e.some n bs).map V.int) (fun i acc => acc = (((e.some n bs).take i).filter fun x => decide (x ∉ e.certain)).map V.int) rfl (fun H' Dd acc N' => .of (N'.cell 1 rfl)) (fun _ => rfl) (fun i x Dd H5 acc hx N5 r => ?_) (fun pf2 H5 acc N5 r => ?_) (.of (N4.cell 0 rfl))
      · rw [List.getElem?_map] at hx
        obtain ⟨z, hz, rfl⟩ := Option.map_eq_some_iff.mp hx
        have la : acc.length ≤ 17 := by
          rw [r, List.length_map]
          exact Nat.le_trans filt_len l17
        walk_at "k"
        refine c_el (fun c => ?_) (fun c => ?_)
        · walk_at "k"
          refine c_put N5 (by omega) ?_
          show acc ++ [V.int z] = _
          rw [r, filt_snoc hz, if_pos c, List.map_append]
          rfl
        · refine ⟨acc, N5, ?_⟩
          show acc = _
          rw [r, filt_snoc hz, if_neg (fun q => by rw [c] at q; cases q)]
      · rw [List.length_map, List.take_length] at r
        subst r
        walk_at "k"
        refine g_srt N5 (.of (N5.cell 0 rfl)) fun fl H6 N6 => ?_
        have N6 : Now K none _ H H6 (⟨true, fl, .lst ((e.found n bs).map V.int)⟩ :: _) _ := N6
        have lf := foundM_len hok n bs
        walk_at "k"
        rename_i p3 H7 N7
        have ec : e.certain.map V.int ++ (e.found n bs).map V.int = (e.certain ++ e.found n bs).map V.int := by rw [List.map_append]
        rw [ec] at N7
        refine g_srt N7 (.of (N7.cell 0 rfl)) fun nc H8 N8 => ?_
        have N9 := N8.sel [7, 0, 2, 8] (l' := ⟨true, p, .ins C dx (fsM e st cl)⟩ :: ⟨true, nc, .lst ((srt (e.certain ++ e.found n bs)).map V.int)⟩ :: ⟨true, fl, .lst ((e.found n bs).map V.int)⟩ :: ⟨true, cl, .lst (e.certain.map V.int)⟩ :: []) rfl (by decide)
        have hfl := (N6.ow ⟨true, fl, _⟩ List.mem_cons_self rfl)
        clear N8
        walk_at "k"
        rename_i H10 N10 H11 N11
        have nd := N11.nd
        have lM : fl ∉ (mouthC C p dx cl st e).map Cel.a := by
          intro m
          have m : fl = p ∨ fl = cl := by simpa using m
          have nd : [p, nc, fl, cl].Nodup := nd
          simp only [List.nodup_cons, List.mem_cons, not_or] at nd
          rcases m with z | z
          · exact nd.1.2.1 z.symm
          · exact nd.2.2.1.1 z
        refine k fl nc _ (hfl.resolve_left lM) ?_ (Now.done (N11.sel [0, 1] rfl (by decide)) (by simp)) (N11.cell 2 rfl)
        intro z
        have nd : [p, nc, fl, cl].Nodup := nd
        simp only [List.nodup_cons, List.mem_cons, not_or] at nd
        exact nd.2.1.1 z.symm
end
/-! ### judged, where marks are enough -/
section
variable {P : Program} {w : World} {K : PySem.W.Frag} {mg : Str → Option Value} {base : Heap}
theorem sc_is_safe : FnScope ["setting"] ["setting"] (defScope s_is_safe) := ⟨rfl, rfl, rfl, by decide +kernel, rfl, by decide +kernel, by decide +kernel⟩
theorem bd_is_safe : Bd "is_safe" "is_safe" s_is_safe ["setting"] := fun _ _ _ _ _ _ us hl => match us, hl with | [_], _ => rfl
def spIsSafe : Sp := fun vs H Q _ => ∃ (st : Addr) (m w l a : Int), vs = [.ref st] ∧ H st = some (.tup (StV m w l a)) ∧ Q (.bl (decide (m > l + a))) H
theorem ok_isSafe (F : Def K mg "is_safe" s_is_safe) : Cal P w K mg base CX0 1 "is_safe" ["setting"] spIsSafe := by
  refine F.ok sc_is_safe bd_is_safe (fun vs H Q E h => ?_) (fun f cdv A outer s H vs Q E hr h => ?_)
  · obtain ⟨st, m, w, l, a, rfl, _⟩ := h
    rfl
  · obtain ⟨st, m, w, l, a, rfl, ht, k⟩ := h
    refine ⟨_, PSs.nox (pss_one (ps_ret (pe_cmpR op_gt (pe_ix (ix_tupK K rfl) (pv 0) pe_int (fun _ _ => rfl)) (pe_op op_add (pe_ix (ix_tupK K rfl) (pv 0) pe_int (fun _ _ => rfl)) (pe_ix (ix_tupK K rfl) (pv 0) pe_int (fun _ _ => rfl))) (nomark _)))), ?_⟩
    have hq : SqT K H st (StV m w l a) := .of ht
    walk_at "gon"
    exact k
theorem sc_judged : FnScope ["setting", "marks", "wide", "late", "ahead", "events", "number", "step"] ["setting"] (defScope s_judged) := ⟨rfl, rfl, rfl, by decide +kernel, rfl, by decide +kernel, by decide +kernel⟩
theorem bd_judged : Bd "judged" "judged" s_judged ["setting"] := fun _ _ _ _ _ _ us hl => match us, hl with | [_], _ => rfl
def spJudgedS : Sp := fun vs H Q _ => ∃ (st : Addr) (m w l a : Int), vs = [.ref st] ∧ H st = some (.tup (StV m w l a)) ∧ OkS m w l a ∧ l + a + 1 ≤ m ∧ ∀ t H', Aft [] H H' → H' t = some (.tup [.str "safe"]) → Q (.ref t) H'
theorem ok_judgedS (F : Def K mg "judged" s_judged) (c_need_setting : Cal P w K mg base CX0 1 "need_setting" ["setting"] spNeedS) (c_is_safe : Cal P w K mg base CX0 1 "is_safe" ["setting"] spIsSafe) : Cal P w K mg base CX0 2 "judged" ["setting"] spJudgedS := by
  refine F.ok sc_judged bd_judged (fun vs H Q E h => ?_) (fun f cdv A outer s H vs Q E hr h => ?_)
  · obtain ⟨st, m, w, l, a, rfl, _⟩ := h
    rfl
  · obtain ⟨st, m, w, l, a, rfl, ht, hok, hsafe, k⟩ := h
    refine ⟨_, PSs.nox (pss_cons (ps_expr (pe_cal c_need_setting (hr.mono (by decide)) pass0 (pa_cons (pv 0) pa_nil)))
      (pss_cons (ps_if (pt_val (pe_cal c_is_safe (hr.mono (by decide)) pass0 (pa_cons (pv 0) pa_nil))) (pss_one (ps_ret (pe_tup (pa_cons pe_str pa_nil)))) pss_nil)
      (pss_cons ps_never
      (pss_cons ps_never
      (pss_cons ps_never
      (pss_cons ps_never
      (pss_one ps_never))))))), ?_⟩
    have N : Now K none [] H H [] [(st, StV m w l a)] := .start0 (by simp [ht])
    walk_at "gon"
    refine ⟨st, m, w, l, a, rfl, ht, hok, ?_⟩
    walk_at "kn"
    refine ⟨st, m, w, l, a, rfl, ht, ?_⟩
    rw [decide_eq_true (by omega)]
    walk_at "kn"
    rename_i t H2 N2
    exact k t _ N2.af (N2.tup 0 rfl)
end
/-! ### who refuses a setting -/
section
variable {P : Program} {w : World} {K : PySem.W.Frag} {mg : Str → Option Value} {base : Heap} {C1 C2 C3 C : Addr}
def spS1X (C1 : Addr) : Sp := fun vs H _ E => ∃ (t : Addr), vs = [.ref t] ∧ RefS C1 t H E
def spS2X (C1 : Addr) : Sp := fun vs H _ E => ∃ (t : Addr) (x : V), vs = [.ref t, x] ∧ RefS C1 t H E
def spSIX (C1 : Addr) : Sp := fun vs H _ E => ∃ (p t : Addr), vs = [.ref p, .ref t] ∧ RefS C1 t H E
theorem ok_EarSX (F : DefC K mg C "Ear" "Ear.__init__" s_Ear_init) (c_needSX : Cal P w K mg base (L2.CX P w) 3 "need_setting" ["setting"] (spNeedSX C1)) : CalC P w K mg base (L2.CX P w) C 4 "Ear" ["self", "setting"] (spSIX C1) := by
  refine F.ok sc_Ear_init bd_Ear_init (fun vs H Q E h => ?_) (fun f cdv A outer s H vs Q E hr h => ?_)
  · obtain ⟨p, t, rfl, _⟩ := h
    rfl
  · obtain ⟨p, t, rfl, h⟩ := h
    refine ⟨_, (pss_cons (ps_expr (pe_cal c_needSX (hr.mono (by decide)) (passes_call (takes_of rfl rfl rfl rfl) (fun _ _ _ _ h => h)) (pa_cons (pv 1) pa_nil)))
      (pss_cons ps_never
      (pss_cons ps_never
      (pss_cons ps_never
      (pss_one ps_never))))), ?_⟩
    walk_at "go"
    exact ⟨t, rfl, h⟩
theorem ok_MouthSX (F : DefC K mg C "Mouth" "Mouth.__init__" s_Mouth_init) (c_needSX : Cal P w K mg base (L2.CX P w) 3 "need_setting" ["setting"] (spNeedSX C1)) : CalC P w K mg base (L2.CX P w) C 4 "Mouth" ["self", "setting"] (spSIX C1) := by
  refine F.ok sc_Mouth_init bd_Mouth_init (fun vs H Q E h => ?_) (fun f cdv A outer s H vs Q E hr h => ?_)
  · obtain ⟨p, t, rfl, _⟩ := h
    rfl
  · obtain ⟨p, t, rfl, h⟩ := h
    refine ⟨_, (pss_cons (ps_expr (pe_cal c_needSX (hr.mono (by decide)) (passes_call (takes_of rfl rfl rfl rfl) (fun _ _ _ _ h => h)) (pa_cons (pv 1) pa_nil)))
      (pss_cons ps_never
      (pss_cons ps_never
      (pss_cons ps_never
      (pss_cons ps_never
      (pss_one ps_never)))))), ?_⟩
    walk_at "go"
    exact ⟨t, rfl, h⟩
theorem sc_played : FnScope ["setting", "events", "world", "found", "wrong", "number", "event", "told", "is_wrong"] ["setting", "events"] (defScope s_played) := ⟨rfl, rfl, rfl, by decide +kernel, rfl, by decide +kernel, by decide +kernel⟩
theorem bd_played : Bd "played" "played" s_played ["setting", "events"] := fun _ _ _ _ _ _ us hl => match us, hl with | [_, _], _ => rfl
theorem ok_playedSX (F : Def K mg "played" s_played) (c_needSX : Cal P w K mg base (L2.CX P w) 3 "need_setting" ["setting"] (spNeedSX C1)) : Cal P w K mg base (L2.CX P w) 4 "played" ["setting", "events"] (spS2X C1) := by
  refine F.ok sc_played bd_played (fun vs H Q E h => ?_) (fun f cdv A outer s H vs Q E hr h => ?_)
  · obtain ⟨t, x, rfl, _⟩ := h
    rfl
  · obtain ⟨t, x, rfl, h⟩ := h
    refine ⟨_, (pss_cons (ps_expr (pe_cal c_needSX (hr.mono (by decide)) (passes_call (takes_of rfl rfl rfl rfl) (fun _ _ _ _ h => h)) (pa_cons (pv 0) pa_nil)))
      (pss_cons ps_never
      (pss_cons ps_never
      (pss_cons ps_never
      (pss_cons ps_never
      (pss_one ps_never)))))), ?_⟩
    walk_at "go"
    exact ⟨t, rfl, h⟩
theorem ok_judgedSX (F : Def K mg "judged" s_judged) (c_needSX : Cal P w K mg base (L2.CX P w) 3 "need_setting" ["setting"] (spNeedSX C1)) : Cal P w K mg base (L2.CX P w) 4 "judged" ["setting"] (spS1X C1) := by
  refine F.ok sc_judged bd_judged (fun vs H Q E h => ?_) (fun f cdv A outer s H vs Q E hr h => ?_)
  · obtain ⟨t, rfl, _⟩ := h
    rfl
  · obtain ⟨t, rfl, h⟩ := h
    refine ⟨_, (pss_cons (ps_expr (pe_cal c_needSX (hr.mono (by decide)) (passes_call (takes_of rfl rfl rfl rfl) (fun _ _ _ _ h => h)) (pa_cons (pv 0) pa_nil)))
      (pss_cons ps_never
      (pss_cons ps_never
      (pss_cons ps_never
      (pss_cons ps_never
      (pss_cons ps_never
      (pss_one ps_never))))))), ?_⟩
    walk_at "go"
    exact ⟨t, rfl, h⟩
theorem sc_written : FnScope ["setting", "told", "mark", "bits", "bit"] ["setting", "told"] (defScope s_written) := ⟨rfl, rfl, rfl, by decide +kernel, rfl, by decide +kernel, by decide +kernel⟩
theorem bd_written : Bd "written" "written" s_written ["setting", "told"] := fun _ _ _ _ _ _ us hl => match us, hl with | [_, _], _ => rfl
theorem ok_writtenSX (F : Def K mg "written" s_written) (c_needSX : Cal P w K mg base (L2.CX P w) 3 "need_setting" ["setting"] (spNeedSX C1)) : Cal P w K mg base (L2.CX P w) 4 "written" ["setting", "told"] (spS2X C1) := by
  refine F.ok sc_written bd_written (fun vs H Q E h => ?_) (fun f cdv A outer s H vs Q E hr h => ?_)
  · obtain ⟨t, x, rfl, _⟩ := h
    rfl
  · obtain ⟨t, x, rfl, h⟩ := h
    refine ⟨_, (pss_cons (ps_expr (pe_cal c_needSX (hr.mono (by decide)) (passes_call (takes_of rfl rfl rfl rfl) (fun _ _ _ _ h => h)) (pa_cons (pv 0) pa_nil)))
      (pss_cons ps_never
      (pss_cons ps_never
      (pss_one ps_never)))), ?_⟩
    walk_at "go"
    exact ⟨t, rfl, h⟩
theorem sc_read : FnScope ["setting", "text", "blank", "place", "bits", "sign", "told"] ["setting", "text"] (defScope s_read) := ⟨rfl, rfl, rfl, by decide +kernel, rfl, by decide +kernel, by decide +kernel⟩
theorem bd_read : Bd "read" "read" s_read ["setting", "text"] := fun _ _ _ _ _ _ us hl => match us, hl with | [_, _], _ => rfl
theorem ok_readSX (F : Def K mg "read" s_read) (c_needSX : Cal P w K mg base (L2.CX P w) 3 "need_setting" ["setting"] (spNeedSX C1)) : Cal P w K mg base (L2.CX P w) 4 "read" ["setting", "text"] (spS2X C1) := by
  refine F.ok sc_read bd_read (fun vs H Q E h => ?_) (fun f cdv A outer s H vs Q E hr h => ?_)
  · obtain ⟨t, x, rfl, _⟩ := h
    rfl
  · obtain ⟨t, x, rfl, h⟩ := h
    refine ⟨_, (pss_cons (ps_expr (pe_cal c_needSX (hr.mono (by decide)) (passes_call (takes_of rfl rfl rfl rfl) (fun _ _ _ _ h => h)) (pa_cons (pv 0) pa_nil)))
      (pss_cons ps_never
      (pss_cons ps_never
      (pss_cons ps_never
      (pss_cons ps_never
      (pss_cons ps_never
      (pss_cons ps_never
      (pss_one ps_never)))))))), ?_⟩
    walk_at "go"
    exact ⟨t, rfl, h⟩
theorem sc_fewest : FnScope ["late", "ahead", "marks"] ["late", "ahead"] (defScope s_fewest) := ⟨rfl, rfl, rfl, by decide +kernel, rfl, by decide +kernel, by decide +kernel⟩
theorem bd_fewest : Bd "fewest" "fewest" s_fewest ["late", "ahead"] := fun _ _ _ _ _ _ us hl => match us, hl with | [_, _], _ => rfl
def spFewX (C1 : Addr) : Sp := fun vs H _ E => ∃ (l a : Int) (z : Str), vs = [.int l, .int a] ∧ BadS 2 0 l a z ∧ RefW C1 z H E
theorem RefW.keep {z : Str} {H H' : Hp} {E : XK} (h : RefW C1 z H E) (A : Aft [] H H') : RefW C1 z H' E := fun dd H'' A' e => h dd H'' (A.trans A') e
theorem ok_fewestSX (F : Def K mg "fewest" s_fewest) (c_needSX : Cal P w K mg base (L2.CX P w) 3 "need_setting" ["setting"] (spNeedSX C1)) : Cal P w K mg base (L2.CX P w) 4 "fewest" ["late", "ahead"] (spFewX C1) := by
  refine F.ok sc_fewest bd_fewest (fun vs H Q E h => ?_) (fun f cdv A outer s H vs Q E hr h => ?_)
  · obtain ⟨l, a, z, rfl, _⟩ := h
    rfl
  · obtain ⟨l, a, z, rfl, hb, h⟩ := h
    refine ⟨_, (pss_cons (ps_expr (pe_cal c_needSX (hr.mono (by decide)) (passes_call (takes_of rfl rfl rfl rfl) (fun _ _ _ _ h => h)) (pa_cons (pe_tup (pa_cons pe_int (pa_cons pe_int (pa_cons (pv 0) (pa_cons (pv 1) pa_nil))))) pa_nil)))
      (pss_cons ps_never
      (pss_cons ps_never
      (pss_one ps_never)))), ?_⟩
    have N : Now K none [] H H [] [] := .start0 (by simp)
    walk_at "go"
    rename_i t H1 N1
    exact ⟨t, rfl, 2, 0, l, a, z, N1.tup 0 rfl, hb, h.keep N1.af⟩
def spLoadX (C1 : Addr) : Sp := fun vs H _ E => ∃ (p : Addr) (i j : Int), vs = [.ref p, .int i, .int j] ∧ ((¬ (1 ≤ i ∧ i ≤ 8) ∧ RefW C1 "room" H E) ∨ ((1 ≤ i ∧ i ≤ 8) ∧ ¬ (1 ≤ j ∧ j ≤ 20) ∧ RefW C1 "wait" H E))
theorem sc_Load_init : FnScope ["self", "room", "wait"] ["self", "room", "wait"] (defScope s_Load_init) := ⟨rfl, rfl, rfl, by decide +kernel, rfl, by decide +kernel, by decide +kernel⟩
theorem bd_Load_init : Bd "__init__" "Load.__init__" s_Load_init ["self", "room", "wait"] := fun _ _ _ _ _ _ us hl => match us, hl with | [_, _, _], _ => rfl
theorem ok_LoadSX (F : DefC K mg C "Load" "Load.__init__" s_Load_init) (XS : ExI P w K mg base CX0 C1 1 "BadSetting" "word") (g_MOST_ROOM : ∃ t, mg "MOST_ROOM" = some (.int 8 t)) (g_MOST_WAIT : ∃ t, mg "MOST_WAIT" = some (.int 20 t)) : CalC P w K mg base (L2.CX P w) C 3 "Load" ["self", "room", "wait"] (spLoadX C1) := by
  refine F.ok sc_Load_init bd_Load_init (fun vs H Q E h => ?_) (fun f cdv A outer s H vs Q E hr h => ?_)
  · obtain ⟨p, i, j, rfl, _⟩ := h
    rfl
  · obtain ⟨p, i, j, rfl, h⟩ := h
    refine ⟨_, (pss_cons (ps_if (pt_not (pt_chain op_le op_le pe_int (pv 1) (pe_gint (by rfl) g_MOST_ROOM))) (pss_one (ps_raiseI rfl (takes_of rfl rfl rfl rfl) XS (hr.mono (by decide)) pass0 (by rfl) (pa_cons pe_str pa_nil))) pss_nil)
      (pss_cons (ps_if (pt_not (pt_chain op_le op_le pe_int (pv 2) (pe_gint (by rfl) g_MOST_WAIT))) (pss_one (ps_raiseI rfl (takes_of rfl rfl rfl rfl) XS (hr.mono (by decide)) pass0 (by rfl) (pa_cons pe_str pa_nil))) pss_nil)
      (pss_cons ps_never
      (pss_cons ps_never
      (pss_cons ps_never
      (pss_cons ps_never
      (pss_one ps_never))))))), ?_⟩
    have out : ∀ z', RefW C1 z' H E → cMkO K C1 "word" (fun cls d H' => E cls d H') [.str z'] H := fun z' k => c_mkO fun d hd => k d _ (Aft.refl.new hd) upd_same
    rcases h with ⟨n, k⟩ | ⟨⟨c1, c2⟩, n, k⟩
    · by_cases c1 : 1 ≤ i
      · have c2 : ¬ i ≤ 8 := fun z => n ⟨c1, z⟩
        walk_at "go"
        refine k_raiseI ?_
        walk_at "k"
        exact out _ k
      · walk_at "go"
        refine k_raiseI ?_
        walk_at "k"
        exact out _ k
    · by_cases c3 : 1 ≤ j
      · have c4 : ¬ j ≤ 20 := fun z => n ⟨c3, z⟩
        walk_at "go"
        refine k_raiseI ?_
        walk_at "k"
        exact out _ k
      · walk_at "go"
        refine k_raiseI ?_
        walk_at "k"
        exact out _ k
/-! ### who refuses a mark, bits -/
/-- the mark n and the bits at b are refused -/
def RefB (C2 C3 : Addr) (m w : Int) (q : Addr) (H : Hp) (E : XK) : Prop := ∃ (b : Addr) (n : Int) (bs : List Int), H q = some (.tup [.int n, .ref b]) ∧ H b = some (.tup (bs.map V.int)) ∧ bs.length ≤ 1000 ∧
  ((¬ (0 ≤ n ∧ n < m) ∧ ∀ H', Aft [] H H' → E (.ref C2) none H') ∨ ((0 ≤ n ∧ n < m) ∧ ¬ BitsOk w bs ∧ ∀ H', Aft [] H H' → E (.ref C3) none H'))
theorem RefB.need {m w l a : Int} {t q : Addr} {H : Hp} {Q : VK} {E : XK} (h : RefB C2 C3 m w q H E) (ht : H t = some (.tup (StV m w l a))) : spNeedBE C2 C3 [.ref t, .ref q] H Q E := by
  obtain ⟨b, n, bs, hq, hb, hl, h⟩ := h
  refine ⟨t, q, b, m, w, l, a, n, bs, rfl, ht, hq, hb, hl, fun z => ?_, fun z => ?_, fun z => ?_⟩
  · rcases h with ⟨g, _⟩ | ⟨_, g, _⟩
    · exact absurd z.1 g
    · exact absurd z.2 g
  · rcases h with ⟨_, k⟩ | ⟨g, _⟩
    · exact k
    · exact absurd g z
  · rcases h with ⟨g, _⟩ | ⟨_, _, k⟩
    · exact absurd z.1 g
    · exact k
def spWrittenBX (C2 C3 : Addr) : Sp := fun vs H _ E => ∃ (t q : Addr) (m w l a : Int), vs = [.ref t, .ref q] ∧ H t = some (.tup (StV m w l a)) ∧ OkS m w l a ∧ RefB C2 C3 m w q H E
theorem ok_writtenBX (F : Def K mg "written" s_written) (c_needS : Cal P w K mg base CX0 1 "need_setting" ["setting"] spNeedS) (c_needBE : Cal P w K mg base (L2.CX P w) 2 "need_bits" ["setting", "told"] (spNeedBE C2 C3)) : Cal P w K mg base (L2.CX P w) 3 "written" ["setting", "told"] (spWrittenBX C2 C3) := by
  refine F.ok sc_written bd_written (fun vs H Q E h => ?_) (fun f cdv A outer s H vs Q E hr h => ?_)
  · obtain ⟨t, q, m, w, l, a, rfl, _⟩ := h
    rfl
  · obtain ⟨t, q, m, w, l, a, rfl, ht, ok, h⟩ := h
    refine ⟨_, (pss_cons (ps_expr (pe_cal c_needS (hr.mono (by decide)) pass0 (pa_cons (pv 0) pa_nil)))
      (pss_cons (ps_expr (pe_cal c_needBE (hr.mono (by decide)) (passes_call (takes_of rfl rfl rfl rfl) (fun _ _ _ _ h => h)) (pa_cons (pv 0) (pa_cons (pv 1) pa_nil))))
      (pss_cons ps_never
      (pss_one ps_never)))), ?_⟩
    walk_at "go"
    refine ⟨t, m, w, l, a, rfl, ht, ok, ?_⟩
    walk_at "k"
    exact h.need ht
def spMHearBX (C C2 C3 : Addr) : Sp := fun vs H _ E => ∃ (p q dx cl st : Addr) (ms : MS), vs = [.ref p, .ref q] ∧ CelOk H (mouthC C p dx cl st ms) ∧ (∃ l a, H st = some (.tup (StV ms.m ms.w l a))) ∧ RefB C2 C3 ms.m ms.w q H E
theorem ok_MHearBX (F : DefM K C "hear" "Mouth.hear" s_Mouth_hear) (T : MTx K C) (c_needBE : Cal P w K mg base (L2.CX P w) 2 "need_bits" ["setting", "told"] (spNeedBE C2 C3)) : CalM P w K mg base (L2.CX P w) C 3 "hear" ["self", "told"] (spMHearBX C C2 C3) := by
  refine F.ok sc_Mouth_hear bd_Mouth_hear (fun vs H Q E h => ?_) (fun f cdv A outer s H vs Q E hr h => ?_)
  · obtain ⟨p, q, dx, cl, st, ms, rfl, _⟩ := h
    rfl
  · obtain ⟨p, q, dx, cl, st, ms, rfl, hc, ⟨l, a, hs⟩, h⟩ := h
    obtain ⟨cl_Mouth, n1, n2, n3, n4, n5, n6, n7, n8⟩ := T
    refine ⟨_, (pss_cons (ps_expr (pe_cal c_needBE (hr.mono (by decide)) (passes_call (takes_of rfl rfl rfl rfl) (fun _ _ _ _ h => h)) (pa_cons (pe_fldK K rfl (pv 0) rfl) (pa_cons (pv 1) pa_nil))))
      (pss_cons ps_never
      (pss_cons ps_never
      (pss_cons ps_never
      (pss_cons ps_never
      (pss_cons ps_never
      (pss_cons ps_never
      (pss_cons ps_never
      (pss_cons ps_never
      (pss_one ps_never)))))))))), ?_⟩
    have N : Now K none [] H H ((mouthC C p dx cl st ms).map Cel.ro) [] := .read hc (by simp)
    walk_at "gon"
    exact h.need hs
def spEComeBX (C C2 : Addr) : Sp := fun vs H _ E => ∃ (p dx ml st : Addr) (e : ES) (n w l a : Int), vs = [.ref p, .int n] ∧ CelOk H (earC C p dx ml st e) ∧ H st = some (.tup (StV e.m w l a)) ∧ ¬ (0 ≤ n ∧ n < e.m) ∧ E (.ref C2) none H
theorem ok_EComeBX (F : DefM K C "come" "Ear.come" s_Ear_come) (T : ETx K C) (c_needME : Cal P w K mg base (L2.CX P w) 1 "need_mark" ["setting", "mark"] (spNeedME C2)) : CalM P w K mg base (L2.CX P w) C 2 "come" ["self", "mark"] (spEComeBX C C2) := by
  refine F.ok sc_Ear_come bd_Ear_come (fun vs H Q E h => ?_) (fun f cdv A outer s H vs Q E hr h => ?_)
  · obtain ⟨p, dx, ml, st, e, n, w, l, a, rfl, _⟩ := h
    rfl
  · obtain ⟨p, dx, ml, st, e, n, w, l, a, rfl, hc, hs, hn, k⟩ := h
    obtain ⟨cl_Ear, n1, n2, n3, n4, n5, n6, n7⟩ := T
    refine ⟨_, (pss_cons (ps_expr (pe_cal c_needME (hr.mono (by decide)) (passes_call (takes_of rfl rfl rfl rfl) (fun _ _ _ _ h => h)) (pa_cons (pe_fldK K rfl (pv 0) rfl) (pa_cons (pv 1) pa_nil))))
      (pss_cons ps_never
      (pss_cons ps_never
      (pss_cons ps_never
      (pss_cons ps_never
      (pss_cons ps_never
      (pss_one ps_never))))))), ?_⟩
    have N : Now K none [] H H ((earC C p dx ml st e).map Cel.ro) [] := .read hc (by simp)
    walk_at "gon"
    exact ⟨st, e.m, w, l, a, n, rfl, hs, fun z => absurd z hn, fun _ => k⟩
end
/-! ### a setting by the dice -/
section
variable {P : Program} {w : World} {K : PySem.W.Frag} {mg : Str → Option Value} {base : Heap}
theorem sc_l_setting : FnScope ["_law_d", "_law_late", "_law_ahead", "_law_wide", "_law_marks"] ["_law_d"] (defScope s_l_setting) := ⟨rfl, rfl, rfl, by decide +kernel, rfl, by decide +kernel, by decide +kernel⟩
theorem bd_l_setting : Bd "_law_setting" "_law_setting" s_l_setting ["_law_d"] := fun _ _ _ _ _ _ us hl => match us, hl with | [_], _ => rfl
def spSetting (K : PySem.W.Frag) : Sp := fun vs H Q _ => ∃ d, vs = [.ref d] ∧ Dice K H d ∧ ∀ (t : Addr) (m w l a : Int) H', Aft [d] H H' → Dice K H' d → H' t = some (.tup (StV m w l a)) → OkS m w l a → Q (.ref t) H'
theorem ok_setting (F : Def K mg "_law_setting" s_l_setting) (B : Bt mg) (c_l_next : Cal P w K mg base CX0 1 "_law_next" ["_law_dice_here", "_law_many"] (spNext K)) : Cal P w K mg base CX0 2 "_law_setting" ["_law_d"] (spSetting K) := by
  refine F.ok sc_l_setting bd_l_setting (fun vs H Q E h => ?_) (fun f cdv A outer s H vs Q E hr h => ?_)
  · obtain ⟨d, rfl, _⟩ := h
    rfl
  · obtain ⟨d, rfl, hD, k⟩ := h
    refine ⟨_, PSs.nox (pss_cons (ps_set (i := 1) sc_l_setting.nd rfl (by first | exact Or.inl rfl | exact Or.inr rfl) (pe_ix (ix_listK K rfl) (pe_lst (pa_cons (pe_cal c_l_next (hr.mono (by decide)) pass0 (pa_cons (pv 0) (pa_cons pe_int pa_nil))) (pa_cons (pe_cal c_l_next (hr.mono (by decide)) pass0 (pa_cons (pv 0) (pa_cons pe_int pa_nil))) pa_nil))) (pe_cal c_l_next (hr.mono (by decide)) pass0 (pa_cons (pv 0) (pa_cons pe_int pa_nil))) (fun _ _ => rfl)))
      (pss_cons (ps_set (i := 2) sc_l_setting.nd rfl (by first | exact Or.inl rfl | exact Or.inr rfl) (pe_op op_add pe_int (pe_ix (ix_listK K rfl) (pe_lst (pa_cons (pe_cal c_l_next (hr.mono (by decide)) pass0 (pa_cons (pv 0) (pa_cons pe_int pa_nil))) (pa_cons (pe_cal c_l_next (hr.mono (by decide)) pass0 (pa_cons (pv 0) (pa_cons pe_int pa_nil))) pa_nil))) (pe_cal c_l_next (hr.mono (by decide)) pass0 (pa_cons (pv 0) (pa_cons pe_int pa_nil))) (fun _ _ => rfl))))
      (pss_cons (ps_set (i := 3) sc_l_setting.nd rfl (by first | exact Or.inl rfl | exact Or.inr rfl) (pe_ix (ix_listK K rfl) (pe_lst (pa_cons (pe_cal c_l_next (hr.mono (by decide)) pass0 (pa_cons (pv 0) (pa_cons pe_int pa_nil))) (pa_cons (pe_cal c_l_next (hr.mono (by decide)) pass0 (pa_cons (pv 0) (pa_cons pe_int pa_nil))) pa_nil))) (pe_cal c_l_next (hr.mono (by decide)) pass0 (pa_cons (pv 0) (pa_cons pe_int pa_nil))) (fun _ _ => rfl)))
      (pss_cons (ps_set (i := 4) sc_l_setting.nd rfl (by first | exact Or.inl rfl | exact Or.inr rfl) (pe_op op_add (pe_op op_add (pv 1) (pv 2)) (pe_ix (ix_listK K rfl) (pe_lst (pa_cons pe_int (pa_cons pe_int (pa_cons pe_int (pa_cons pe_int (pa_cons (pe_op op_sub (pe_cal c_l_next (hr.mono (by decide)) pass0 (pa_cons (pv 0) (pa_cons pe_int pa_nil))) pe_int) pa_nil)))))) (pe_cal c_l_next (hr.mono (by decide)) pass0 (pa_cons (pv 0) (pa_cons pe_int pa_nil))) (fun _ _ => rfl))))
      (pss_cons (ps_set (i := 4) sc_l_setting.nd rfl (by first | exact Or.inl rfl | exact Or.inr rfl) (pe_ix (ix_listK K rfl) (pe_lst (pa_cons (pv 4) (pa_cons (pe_op op_add pe_int (pe_cal c_l_next (hr.mono (by decide)) pass0 (pa_cons (pv 0) (pa_cons pe_int pa_nil)))) (pa_cons pe_int pa_nil)))) (pe_callB (cr_max2 rfl) (by rfl) B.m_max (by decide +kernel) (pa_cons pe_int (pa_cons (pe_op op_sub (pe_cal c_l_next (hr.mono (by decide)) pass0 (pa_cons (pv 0) (pa_cons pe_int pa_nil))) pe_int) pa_nil))) (fun _ _ => rfl)))
      (pss_one (ps_ret (pe_tup (pa_cons (pe_callB (cr_min2 rfl) (by rfl) B.m_min (by decide +kernel) (pa_cons pe_int (pa_cons (pe_callB (cr_max2 rfl) (by rfl) B.m_max (by decide +kernel) (pa_cons pe_int (pa_cons (pv 4) pa_nil))) pa_nil))) (pa_cons (pv 3) (pa_cons (pv 1) (pa_cons (pv 2) pa_nil)))))))))))), ?_⟩
    have N : Now K (some d) [d] H H [] [] := .startD hD (by simp)
    walk_at "gon"
    rename_i N9
    refine k _ _ _ _ _ _ N9.af (N9.dc d rfl).1 (N9.tup 0 rfl) ?_
    unfold OkS
    omega
theorem sc_l_safe : FnScope ["_law_d", "_law_marks", "_law_wide", "_law_late", "_law_ahead"] ["_law_d"] (defScope s_l_safe) := ⟨rfl, rfl, rfl, by decide +kernel, rfl, by decide +kernel, by decide +kernel⟩
theorem bd_l_safe : Bd "_law_safe" "_law_safe" s_l_safe ["_law_d"] := fun _ _ _ _ _ _ us hl => match us, hl with | [_], _ => rfl
def spSafe (K : PySem.W.Frag) : Sp := fun vs H Q _ => ∃ d, vs = [.ref d] ∧ Dice K H d ∧ ∀ (t : Addr) (m w l a : Int) H', Aft [d] H H' → Dice K H' d → H' t = some (.tup (StV m w l a)) → OkS m w l a → l + a + 1 ≤ m → Q (.ref t) H'
theorem ok_safe (F : Def K mg "_law_safe" s_l_safe) (B : Bt mg) (c_l_setting : Cal P w K mg base CX0 2 "_law_setting" ["_law_d"] (spSetting K)) : Cal P w K mg base CX0 3 "_law_safe" ["_law_d"] (spSafe K) := by
  refine F.ok sc_l_safe bd_l_safe (fun vs H Q E h => ?_) (fun f cdv A outer s H vs Q E hr h => ?_)
  · obtain ⟨d, rfl, _⟩ := h
    rfl
  · obtain ⟨d, rfl, hD, k⟩ := h
    refine ⟨_, PSs.nox (pss_cons (ps_asg (pe_cal c_l_setting (hr.mono (by decide)) pass0 (pa_cons (pv 0) pa_nil)) (pg_tup rfl (pgs_cons (pg_name (i := 1) sc_l_safe.nd rfl (by first | exact Or.inl rfl | exact Or.inr rfl)) (pgs_cons (pg_name (i := 2) sc_l_safe.nd rfl (by first | exact Or.inl rfl | exact Or.inr rfl)) (pgs_cons (pg_name (i := 3) sc_l_safe.nd rfl (by first | exact Or.inl rfl | exact Or.inr rfl)) (pgs_cons (pg_name (i := 4) sc_l_safe.nd rfl (by first | exact Or.inl rfl | exact Or.inr rfl)) pgs_nil))))))
      (pss_one (ps_ret (pe_tup (pa_cons (pe_callB (cr_min2 rfl) (by rfl) B.m_min (by decide +kernel) (pa_cons pe_int (pa_cons (pe_callB (cr_max2 rfl) (by rfl) B.m_max (by decide +kernel) (pa_cons (pv 1) (pa_cons (pe_op op_add (pe_op op_add (pv 3) (pv 4)) pe_int) pa_nil))) pa_nil))) (pa_cons (pv 2) (pa_cons (pv 3) (pa_cons (pv 4) pa_nil)))))))), ?_⟩
    have N : Now K (some d) [d] H H [] [] := .startD hD (by simp)
    walk_at "gon"
    refine ⟨d, rfl, hD, fun t m w l a H1 A1 D1 ht hs => ?_⟩
    have N1 := (N.roll A1 D1).moreT ht
    clear N
    walk_at "kn"
    rename_i N9
    unfold OkS at hs
    refine k _ _ _ _ _ _ N9.af (N9.dc d rfl).1 (N9.tup 0 rfl) ?_ ?_
    · unfold OkS
      omega
    · omega
end
/-! ### what is told is what is due -/
section
variable {P : Program} {w : World} {K : PySem.W.Frag} {mg : Str → Option Value} {base : Heap}
theorem sc_l_like : FnScope ["_law_found", "_law_due", "_law_key", "_law_k"] ["_law_found", "_law_due"] (defScope s_l_like) := ⟨rfl, rfl, rfl, by decide +kernel, rfl, by decide +kernel, by decide +kernel⟩
theorem bd_l_like : Bd "_law_like" "_law_like" s_l_like ["_law_found", "_law_due"] := fun _ _ _ _ _ _ us hl => match us, hl with | [_, _], _ => rfl
theorem ok_like (F : Def K mg "_law_like" s_l_like) (B : Bt mg) : ∀ n : Nat, Cal P w K mg base CX0 (n + 1) "_law_like" ["_law_found", "_law_due"] (spLike K n)
  | 0 => cal_never F bd_l_like
  | n + 1 => by
    have c_l_like := ok_like F B n
    refine F.ok sc_l_like bd_l_like (fun vs H Q E h => ?_) (fun f cdv A outer s H vs Q E hr h => ?_)
    · obtain ⟨x, y, d, rfl, _⟩ := h
      rfl
    · obtain ⟨x, y, d, rfl, hx, hy, hn, k⟩ := h
      refine ⟨_, PSs.nox (pss_cons (ps_if (pt_val (pe_callB (call_isiQ K rfl) (by rfl) B.m_isinstance (by decide +kernel) (pa_cons (pv 1) (pa_cons (pe_bltn (v := .ty "bool") (by rfl) B.m_bool (by decide +kernel) rfl) pa_nil)))) (pss_one (ps_ret (pe_and (pe_callB (call_isiQ K rfl) (by rfl) B.m_isinstance (by decide +kernel) (pa_cons (pv 0) (pa_cons (pe_bltn (v := .ty "bool") (by rfl) B.m_bool (by decide +kernel) rfl) pa_nil))) (pe_one (pe_cmpR op_eq (pv 0) (pv 1) (nomark _)))))) pss_nil)
      (pss_cons (ps_if (pt_val (pe_callB (call_isiQ K rfl) (by rfl) B.m_isinstance (by decide +kernel) (pa_cons (pv 1) (pa_cons (pe_bltn (v := .ty "str") (by rfl) B.m_str (by decide +kernel) rfl) pa_nil)))) (pss_one (ps_ret (pe_and (pe_callB (call_isiQ K rfl) (by rfl) B.m_isinstance (by decide +kernel) (pa_cons (pv 0) (pa_cons (pe_bltn (v := .ty "str") (by rfl) B.m_str (by decide +kernel) rfl) pa_nil))) (pe_one (pe_cmpR op_eq (pv 0) (pv 1) (nomark _)))))) pss_nil)
      (pss_cons (ps_if (pt_val (pe_callB (call_isiQ K rfl) (by rfl) B.m_isinstance (by decide +kernel) (pa_cons (pv 1) (pa_cons (pe_bltn (v := .ty "int") (by rfl) B.m_int (by decide +kernel) rfl) pa_nil)))) (pss_one (ps_ret (pe_and (pe_callB (call_isiQ K rfl) (by rfl) B.m_isinstance (by decide +kernel) (pa_cons (pv 0) (pa_cons (pe_bltn (v := .ty "int") (by rfl) B.m_int (by decide +kernel) rfl) pa_nil))) (pe_and (pe_not (pe_callB (call_isiQ K rfl) (by rfl) B.m_isinstance (by decide +kernel) (pa_cons (pv 0) (pa_cons (pe_bltn (v := .ty "bool") (by rfl) B.m_bool (by decide +kernel) rfl) pa_nil)))) (pe_one (pe_cmpR op_eq (pv 0) (pv 1) (nomark _))))))) pss_nil)
      (pss_cons (ps_if (pt_cmpR op_isNo (pv 1) pe_non (nomark _)) (pss_one (ps_ret (pe_cmpR op_isNo (pv 0) pe_non (nomark _)))) pss_nil)
      (pss_cons (ps_if (pt_val (pe_callB (call_isiQ K rfl) (by rfl) B.m_isinstance (by decide +kernel) (pa_cons (pv 1) (pa_cons (pe_bltn (v := .ty "dict") (by rfl) B.m_dict (by decide +kernel) rfl) pa_nil)))) (pss_cons ps_never
      (pss_one ps_never)) pss_nil)
      (pss_cons (ps_if (PW.pt (pw_or (pt_cmpR op_ne (pe_callB (call_isiQ K rfl) (by rfl) B.m_isinstance (by decide +kernel) (pa_cons (pv 1) (pa_cons (pe_bltn (v := .ty "tuple") (by rfl) B.m_tuple (by decide +kernel) rfl) pa_nil))) (pe_callB (call_isiQ K rfl) (by rfl) B.m_isinstance (by decide +kernel) (pa_cons (pv 0) (pa_cons (pe_bltn (v := .ty "tuple") (by rfl) B.m_tuple (by decide +kernel) rfl) pa_nil))) (nomark _)) (pw_or1 (pt_cmpR op_ne (pe_callB (call_isiQ K rfl) (by rfl) B.m_isinstance (by decide +kernel) (pa_cons (pv 1) (pa_cons (pe_bltn (v := .ty "list") (by rfl) B.m_list (by decide +kernel) rfl) pa_nil))) (pe_callB (call_isiQ K rfl) (by rfl) B.m_isinstance (by decide +kernel) (pa_cons (pv 0) (pa_cons (pe_bltn (v := .ty "list") (by rfl) B.m_list (by decide +kernel) rfl) pa_nil))) (nomark _))))) (pss_one (ps_ret pe_bl)) pss_nil)
      (pss_cons (ps_if (pt_cmpR op_ne (pe_callB (cr_lnK K rfl) (by rfl) B.m_len (by decide +kernel) (pa_cons (pv 0) pa_nil)) (pe_callB (cr_lnK K rfl) (by rfl) B.m_len (by decide +kernel) (pa_cons (pv 1) pa_nil)) (nomark _)) (pss_one (ps_ret pe_bl)) pss_nil)
      (pss_cons (ps_for PassesOwn.never rfl (pi_range1 (by rfl) B.m_range (pa_cons (pe_callB (cr_lnK K rfl) (by rfl) B.m_len (by decide +kernel) (pa_cons (pv 1) pa_nil)) pa_nil)) (pg_name (i := 3) sc_l_like.nd rfl (by first | exact Or.inl rfl | exact Or.inr rfl))
      (pss_one (ps_if (pt_not (pt_val (pe_cal c_l_like hr pass0 (pa_cons (pe_ix (ix_seqK K rfl) (pv 0) (pv 3) (fun _ _ => rfl)) (pa_cons (pe_ix (ix_seqK K rfl) (pv 1) (pv 3) (fun _ _ => rfl)) pa_nil))))) (pss_one (ps_ret pe_bl)) pss_nil)))
      (pss_one (ps_ret pe_bl)))))))))), ?_⟩
      have kn := k H .refl
      have loop : ∀ (p q : Addr) (xs ys : List V) (ds : List PyData), (SqL K H p xs ∨ SqT K H p xs) → (SqL K H q ys ∨ SqT K H q ys) → DpAll K H xs ds → DpAll K H ys ds → (∃ m, n = m + 1 ∧ ds.length ≤ 100000 ∧ ∀ d ∈ ds, dOk m d) →
          cForR (gName 3) (tIfS (tNot (tB (tCall (spLike K n) [] E0 (tCons (tOp (rIx K) (tVar 0) (tVar 3)) (tCons (tOp (rIx K) (tVar 1) (tVar 3)) tNil))))) (tRet (tC (V.bl false))) tNext)
            { nx := tRet (tC (V.bl true)) { nx := fun x H' => Q V.non H', rt := Q }, rt := Q } [some (V.ref p), some (V.ref q), none, none] [V.int (ys.length : Int)] H := by
        intro p q xs ys ds hp hq hxs hys ⟨m, e, hz, hd⟩
        subst e
        have l1 := dpa_len hxs
        have l2 := dpa_len hys
        refine c_forR (by omega) (fun i σ H' => ∃ z, σ = [some (V.ref p), some (V.ref q), none, z] ∧ Aft [] H H') ⟨_, rfl, .refl⟩ ?_ ?_
        · rintro i σ H' hi ⟨z, rfl, A⟩
          have hi' : i < ds.length := by omega
          obtain ⟨v, e1, d1⟩ := dpa_at hxs i hi'
          obtain ⟨u, e2, d2⟩ := dpa_at hys i hi'
          walk_at "k"
          refine g_ixQ (hp.imp A.sql A.sqt) (atI_nat e1) ?_
          walk_at "k"
          refine g_ixQ (hq.imp A.sql A.sqt) (atI_nat e2) ?_
          walk_at "k"
          refine ⟨v, u, ds[i], rfl, dp_keep A d1, dp_keep A d2, hd _ (List.getElem_mem hi'), fun H2 A2 => ?_⟩
          walk_at "k"
          exact ⟨_, rfl, A.trans A2⟩
        · rintro σ H' ⟨z, rfl, A⟩
          walk_at "k"
          exact k H' A
      cases d with
      | none =>
        cases hx
        cases hy
        walk_at "go"
        exact kn
      | bool b =>
        cases hx
        cases hy
        walk_at "go"
        exact kn
      | int b =>
        cases hx
        cases hy
        walk_at "go"
        exact kn
      | str b =>
        cases hx
        cases hy
        walk_at "go"
        exact kn
      | list ds =>
        cases hx with
        | @lst p xs _ h1 h2 =>
        cases hy with
        | @lst q ys _ h3 h4 =>
        have l1 := dpa_len h2
        have l2 := dpa_len h4
        have t1 := sql_ty h1
        have t2 := sql_ty h3
        walk_at "go"
        refine loop p q xs ys ds (.inl h1) (.inl h3) h2 h4 ?_
        cases n with
        | zero => exact hn.elim
        | succ m => exact ⟨m, rfl, hn⟩
      | tuple ds =>
        cases hx with
        | @tup p xs _ h1 h2 =>
        cases hy with
        | @tup q ys _ h3 h4 =>
        have l1 := dpa_len h2
        have l2 := dpa_len h4
        have t1 := sqt_ty h1
        have t2 := sqt_ty h3
        walk_at "go"
        refine loop p q xs ys ds (.inr h1) (.inr h3) h2 h4 ?_
        cases n with
        | zero => exact hn.elim
        | succ m => exact ⟨m, rfl, hn⟩
      | dict kvs => cases hx
end
/-! ### BadSetting's own __init__ -/
section
variable {P : Program} {w : World} {K : PySem.W.Frag} {mg : Str → Option Value} {base : Heap} {C cb : Addr}
theorem sc_BadSetting_init : FnScope ["self", "word"] ["self", "word"] (defScope s_BadSetting_init) := ⟨rfl, rfl, rfl, by decide +kernel, rfl, by decide +kernel, by decide +kernel⟩
theorem bd_BadSetting_init : Bd "__init__" "BadSetting.__init__" s_BadSetting_init ["self", "word"] := fun _ _ _ _ _ _ us hl => match us, hl with | [_, _], _ => rfl
theorem ok_BadSetting (F : DefX K mg C "BadSetting" "BadSetting.__init__" s_BadSetting_init) (T : OexC K C) (BI : BaseI K mg "BitsError" cb) (nn : PySem.W.findIn K (.ref C) "word" = some none) : ExI P w K mg base CX0 C 1 "BadSetting" "word" := by
  refine F.ok T sc_BadSetting_init bd_BadSetting_init rfl (fun f cdv A outer s H vs Q E hr h => ?_)
  obtain ⟨a, v, rfl, ha, k⟩ := h
  refine ⟨_, PSs.nox (pss_cons (ps_expr (pe_baseInit BI (by rfl) (pa_cons (pv 0) (pa_cons (pv 1) pa_nil))))
      (pss_one (ps_ost (pv 0) (pv 1)))), ?_⟩
  walk_at "gon"
  refine k_veI ?_
  walk_at "kn"
  refine ⟨a, C, [v], rfl, by simp, T, ha, ?_⟩
  walk_at "kn"
  refine k_ost ?_
  walk_at "kn"
  refine ⟨a, C, rfl, T, nn, .inl ⟨ha, fun dx h1 h2 => ?_⟩⟩
  exact k dx h1 h2
end
/-! ### an Ear tells, or refuses -/
section
variable {P : Program} {w : World} {K : PySem.W.Frag} {mg : Str → Option Value} {base : Heap} {C CB : Addr}
def spETellE (K : PySem.W.Frag) (C CB : Addr) : Sp := fun vs H Q E => ∃ (p dx ml st : Addr) (e : ES), vs = [.ref p] ∧ CelOk H (earC C p dx ml st e) ∧ EOk e ∧
  (0 ≤ e.newest → ∀ (t b : Addr) H', Aft [] H H' → H' t = some (.tup [.int (e.newest % e.m), .ref b]) → H' b = some (.tup (e.bits.map V.int)) → Q (.ref t) H') ∧ (e.newest < 0 → E (.ref CB) none H)
theorem ok_ETellE (F : DefM K C "tell" "Ear.tell" s_Ear_tell) (T : ETx K C) (B : Bt mg) (T3 : ExK K mg "BadBits" CB) : CalM P w K mg base (L2.CX P w) C 1 "tell" ["self"] (spETellE K C CB) := by
  refine F.ok sc_Ear_tell bd_Ear_tell (fun vs H Q E h => ?_) (fun f cdv A outer s H vs Q E hr h => ?_)
  · obtain ⟨p, dx, ml, st, e, rfl, _⟩ := h
    rfl
  · obtain ⟨p, dx, ml, st, e, rfl, hc, he, k, k2⟩ := h
    obtain ⟨cl_Ear, n1, n2, n3, n4, n5, n6, n7⟩ := T
    refine ⟨_, (pss_cons (ps_if (pt_cmpR op_lt (pe_fldK K rfl (pv 0) rfl) pe_int (nomark _)) (pss_one (ps_raiseK rfl (takes_of rfl rfl rfl rfl) T3 (by rfl))) pss_nil)
      (pss_cons (ps_setLc (i := 1) (own := [("k", 2)]) (g := (gName 2)) rfl sc_Ear_tell.nd rfl rfl (sw_true rfl rfl rfl (by decide +kernel)) (pi_range1 (by rfl) B.m_range (pa_cons (pe_fldK K rfl (pv 0) rfl) pa_nil)) (blkOk_by (own := [("k", 2)]) (N := ["self", "bits", "k"]) (sc := defScope s_Ear_tell) (by decide +kernel)) (fun _ _ _ _ _ => (pg_name (i := 2) sc_Ear_tell.nd rfl (by first | exact Or.inl rfl | exact Or.inr rfl))) (fun _ _ _ _ _ => pts_nil) (fun _ _ _ _ _ => (pe_callTy cr_intB (by rfl) B.m_int (by decide +kernel) (pa_cons (pe_cmpR (op_in_seqK K rfl) (pe_op op_sub (pe_op op_sub (pe_fldK K rfl (pv 0) rfl) pe_int) (pv 2)) (pe_fldK K rfl (pv 0) rfl) (by rfl)) pa_nil))))
      (pss_one (ps_ret (pe_tup (pa_cons (pe_op op_mod (pe_fldK K rfl (pv 0) rfl) (pe_fldK K rfl (pv 0) rfl)) (pa_cons (pe_callTy (cr_tupLK K rfl) (by rfl) B.m_tuple (by decide +kernel) (pa_cons (pv 1) pa_nil)) pa_nil))))))), ?_⟩
    have hlen := he.len
    have hok := he.ok
    unfold OkS at hok
    have N : Now K none [] H H ((earC C p dx ml st e).map Cel.ro) [] := .read hc (by simp)
    walk_at "gon"
    refine c_ifd (fun c => k2 c) (fun c => ?_)
    have k := k (by omega)
    walk_at "kn"
    refine c_lcR N (by omega) (fun k acc => acc = ((List.range k).map fun (k : Nat) => V.int (if e.newest - 1 - (k : Int) ∈ e.met then 1 else 0))) rfl (fun _ => rfl) (fun i Dd H2 acc hi N2 r => ?_) (fun q H2 acc N2 r => ?_)
    · have la : acc.length = i := by rw [r, List.length_map, List.length_range]
      walk_at "kn"
      refine c_put N2 (by omega) ?_
      show acc ++ [V.int (if decide (e.newest - 1 - (i : Int) ∈ e.met) = true then 1 else 0)] = _
      rw [r, List.range_succ, List.map_append]
      simp only [decide_eq_true_eq]
      rfl
    · have eb : acc = e.bits.map V.int := by
        rw [r]
        unfold ES.bits
        rw [List.map_map]
        rfl
      rw [eb] at N2
      walk_at "kn"
      rename_i H3 N3 t H4 N4
      exact k t _ _ N4.af (N4.tup 0 rfl) (N4.tup 1 rfl)
end
/-! ### what is told, or the word of a refusal and its field -/
def sufOf : List Stmt → List Stmt
  | [.Try _ [.ExceptHandler _ _ b _] _ _ _] => b
  | _ => []
theorem g_isZ {K : PySem.W.Frag} {c1 c2 c3 c4 c5 c6 cb D a : Addr} {d : Option Addr} {n : Nat} {H : Hp} {c : V} {cv : Value} {b : Bool} {Q : VK} (ko : Kof K c1 c2 c3 c4 c5 c6 cb D n) (hd : XDic d H) (hc : ∀ u, RelV c u → u = cv) (hk : PySem.W.kitOne K (.ref D) cv = some b) (q : Q (.bl b) H) : rIsEz K (.ref D) d a [.ref a, c] H Q :=
  ⟨D, c, cv, b, rfl, hd, ko.c, rfl, hc, hk, q⟩
section
variable {c1 c2 c3 c4 c5 c6 cb : Addr}
theorem sc_l_told : FnScope ["_law_work", "e", "_law_kinds", "_law_words", "_law_word"] ["_law_work"] (defScope s_l_told) := ⟨rfl, rfl, rfl, by decide +kernel, rfl, by decide +kernel, by decide +kernel⟩
theorem bd_l_told : Bd "_law_told" "_law_told" s_l_told ["_law_work"] := fun _ _ _ _ _ _ us hl => match us, hl with | [_], _ => rfl
abbrev N_told : List Str := ["_law_work", "e", "_law_kinds", "_law_words", "_law_word"]
theorem told_suite {prog : Program} {w : World} {K : PySem.W.Frag} {mg : Str → Option Value} {base : Heap} {A : Around} {stack : List Env} {s : Shared} {H : Hp} {g : Addr} {cdg : Value} (B : Bt mg) (Kn : Kin mg c1 c2 c3 c4 c5 c6 cb) (KX : KinX K c1 c5 c6) :
    ∃ ts : Addr → Value → Option Addr → TS, (∀ (a : Addr) (oe : Obj) (cls : Value) (d : Option Addr) (pn : List (Addr × Obj)), Zc cls d oe → (∃ vs, oe.data = .fields vs) →
      PSs (Cx.suite (cxOf C8.CX0 prog w K mg base N_told "_law_told" (defScope s_l_told) g cdg A stack s H C8.E0).nox a ((a, oe) :: pn)) (sufOf (defBody s_l_told)) (ts a cls d)) ∧
      ∀ (cls : Value) (d : Option Addr) (a : Addr) (σ : L2.St) (H' : Hp) (E : Ends) (xs : List V), RefX K c1 c2 c3 c4 c5 c6 cb cls d H' xs → σ.length = 5 → (∀ p H'', Aft [] H' H'' → H'' p = some (.tup xs) → E.rt (.ref p) H'') → ts a cls d E (σ.set 1 (some (.ref a))) H' := by
  refine ⟨_, fun a oe cls d pn hz hf => (pss_cons (ps_set (i := 2) sc_l_told.nd rfl (by first | exact Or.inl rfl | exact Or.inr rfl) (pe_lst (pa_cons (pe_callB (call_isEzK K rfl hz hf) (by rfl) B.m_isinstance (by decide +kernel) (pa_cons (pv 1) (pa_cons (pe_gref (by rfl) Kn.g1) pa_nil))) (pa_cons (pe_callB (call_isEzK K rfl hz hf) (by rfl) B.m_isinstance (by decide +kernel) (pa_cons (pv 1) (pa_cons (pe_gref (by rfl) Kn.g2) pa_nil))) (pa_cons (pe_callB (call_isEzK K rfl hz hf) (by rfl) B.m_isinstance (by decide +kernel) (pa_cons (pv 1) (pa_cons (pe_gref (by rfl) Kn.g3) pa_nil))) (pa_cons (pe_callB (call_isEzK K rfl hz hf) (by rfl) B.m_isinstance (by decide +kernel) (pa_cons (pv 1) (pa_cons (pe_gref (by rfl) Kn.g4) pa_nil))) pa_nil))))))
      (pss_cons (ps_set (i := 2) sc_l_told.nd rfl (by first | exact Or.inl rfl | exact Or.inr rfl) (pe_op op_cat (pv 2) (pe_lst (pa_cons (pe_callB (call_isEzK K rfl hz hf) (by rfl) B.m_isinstance (by decide +kernel) (pa_cons (pv 1) (pa_cons (pe_gref (by rfl) Kn.g5) pa_nil))) (pa_cons (pe_callB (call_isEzK K rfl hz hf) (by rfl) B.m_isinstance (by decide +kernel) (pa_cons (pv 1) (pa_cons (pe_gref (by rfl) Kn.g6) pa_nil))) pa_nil)))))
      (pss_cons (ps_set (i := 3) sc_l_told.nd rfl (by first | exact Or.inl rfl | exact Or.inr rfl) (pe_lst (pa_cons pe_str (pa_cons pe_str (pa_cons pe_str (pa_cons pe_str (pa_cons pe_str (pa_cons pe_str pa_nil))))))))
      (pss_cons (ps_if (PW.pt (pw_or (pt_cmpR op_ne (pe_bmK K rfl PySem.F.plainAttrs_list PySem.F.slot_list_count PySem.F.type_list_count (mt_countFK K rfl) (pv 2) (pa_cons pe_bl pa_nil)) pe_int (nomark _)) (pw_or1 (pt_not (pt_val (pe_callB (call_isEzK K rfl hz hf) (by rfl) B.m_isinstance (by decide +kernel) (pa_cons (pv 1) (pa_cons (pe_bltn (v := .ty "ValueError") (by rfl) Kn.ve (by decide +kernel) rfl) pa_nil)))))))) (pss_one (ps_ret (pe_tup (pa_cons pe_str pa_nil)))) pss_nil)
      (pss_cons (ps_set (i := 4) sc_l_told.nd rfl (by first | exact Or.inl rfl | exact Or.inr rfl) (pe_ix (ix_listK K rfl) (pv 3) (pe_bmK K rfl PySem.F.plainAttrs_list PySem.F.slot_list_index PySem.F.type_list_index (mt_indexK K rfl) (pv 2) (pa_cons pe_bl pa_nil)) (fun _ _ => rfl)))
      (pss_cons (ps_if (pt_cmpR op_eq (pv 4) pe_str (nomark _)) (pss_one (ps_ret (pe_tup (pa_cons (pv 4) (pa_cons (pe_xf KX.x1 KX.n1 hz hf (pv 1)) pa_nil))))) pss_nil)
      (pss_cons (ps_if (pt_cmpR op_eq (pv 4) pe_str (nomark _)) (pss_one (ps_ret (pe_tup (pa_cons (pv 4) (pa_cons (pe_xf KX.x5 KX.n5 hz hf (pv 1)) pa_nil))))) pss_nil)
      (pss_one (ps_ret (pe_ifExp (pt_cmpR op_eq (pv 4) pe_str (nomark _)) (pe_tup (pa_cons (pv 4) (pa_cons (pe_xf KX.x6 KX.n6 hz hf (pv 1)) pa_nil))) (pe_tup (pa_cons (pv 4) pa_nil)))))))))))), ?hr⟩
  intro cls d a σ H' E xs hR hlen k
  obtain ⟨D, n, rfl, ko, hR⟩ := hR
  match σ, hlen with
  | [s0, s1, s2, s3, s4], _ =>
    have N : Now K none [] H' H' [] [] := .start0 (by simp)
    rcases hR with ⟨rfl, hn, rfl⟩ | ⟨dd, fs, v, rfl, hdd, rfl, hn⟩
    · have hd : ∀ H'', Aft [] H' H'' → XDic none H'' := fun _ _ => .inl rfl
      rcases hn with rfl | rfl | rfl
      · walk_at "kn"
        refine g_isZ ko (b := false) (hd _ N.af) (fun u h => h) ko.k1 ?_
        walk_at "kn"
        refine g_isZ ko (b := true) (hd _ N.af) (fun u h => h) ko.k2 ?_
        walk_at "kn"
        refine g_isZ ko (b := false) (hd _ N.af) (fun u h => h) ko.k3 ?_
        walk_at "kn"
        refine g_isZ ko (b := false) (hd _ N.af) (fun u h => h) ko.k4 ?_
        walk_at "kn"
        refine g_isZ ko (b := false) (hd _ (Now.af (K := K) (by assumption))) (fun u h => h) ko.k5 ?_
        walk_at "kn"
        refine g_isZ ko (b := false) (hd _ (Now.af (K := K) (by assumption))) (fun u h => h) ko.k6 ?_
        walk_at "kn"
        rename_i p1 H1 N1 p2 H2 N2 p3 H3 N3 p4 H4 N4
        refine g_cntF (n := 1) (ys := [.bl false, .bl true, .bl false, .bl false, .bl false, .bl false]) (.of (N4.cell 1 rfl)) rfl rfl rfl ?_
        walk_at "kn"
        refine c_or (fun c => absurd (of_decide_eq_true c) (by simp)) (fun _ => ?_)
        walk_at "kn"
        refine g_isZ ko (b := true) (hd _ N4.af) (fun u h => h) ko.kv ?_
        walk_at "kn"
        refine g_idx (ys := [.bl false, .bl true, .bl false, .bl false, .bl false, .bl false]) (z := .bl true) 1 (.of (N4.cell 1 rfl)) rfl rfl rfl rfl ?_ ?_
        · intro m z' hm hz
          have : m = 0 := by omega
          rcases this with rfl <;> (cases hz; rfl)
        · walk_at "kn"
          refine k_eqStr (by decide) ?_
          walk_at "kn"
          refine k_eqStr (by decide) ?_
          walk_at "kn"
          refine k_eqStr (by decide) ?_
          walk_at "kn"
          rename_i p5 H5 N5
          exact k p5 H5 N5.af (N5.tup 0 rfl)
      · walk_at "kn"
        refine g_isZ ko (b := false) (hd _ N.af) (fun u h => h) ko.k1 ?_
        walk_at "kn"
        refine g_isZ ko (b := false) (hd _ N.af) (fun u h => h) ko.k2 ?_
        walk_at "kn"
        refine g_isZ ko (b := true) (hd _ N.af) (fun u h => h) ko.k3 ?_
        walk_at "kn"
        refine g_isZ ko (b := false) (hd _ N.af) (fun u h => h) ko.k4 ?_
        walk_at "kn"
        refine g_isZ ko (b := false) (hd _ (Now.af (K := K) (by assumption))) (fun u h => h) ko.k5 ?_
        walk_at "kn"
        refine g_isZ ko (b := false) (hd _ (Now.af (K := K) (by assumption))) (fun u h => h) ko.k6 ?_
        walk_at "kn"
        rename_i p1 H1 N1 p2 H2 N2 p3 H3 N3 p4 H4 N4
        refine g_cntF (n := 1) (ys := [.bl false, .bl false, .bl true, .bl false, .bl false, .bl false]) (.of (N4.cell 1 rfl)) rfl rfl rfl ?_
        walk_at "kn"
        refine c_or (fun c => absurd (of_decide_eq_true c) (by simp)) (fun _ => ?_)
        walk_at "kn"
        refine g_isZ ko (b := true) (hd _ N4.af) (fun u h => h) ko.kv ?_
        walk_at "kn"
        refine g_idx (ys := [.bl false, .bl false, .bl true, .bl false, .bl false, .bl false]) (z := .bl true) 2 (.of (N4.cell 1 rfl)) rfl rfl rfl rfl ?_ ?_
        · intro m z' hm hz
          have : m = 0 ∨ m = 1 := by omega
          rcases this with rfl | rfl <;> (cases hz; rfl)
        · walk_at "kn"
          refine k_eqStr (by decide) ?_
          walk_at "kn"
          refine k_eqStr (by decide) ?_
          walk_at "kn"
          refine k_eqStr (by decide) ?_
          walk_at "kn"
          rename_i p5 H5 N5
          exact k p5 H5 N5.af (N5.tup 0 rfl)
      · walk_at "kn"
        refine g_isZ ko (b := false) (hd _ N.af) (fun u h => h) ko.k1 ?_
        walk_at "kn"
        refine g_isZ ko (b := false) (hd _ N.af) (fun u h => h) ko.k2 ?_
        walk_at "kn"
        refine g_isZ ko (b := false) (hd _ N.af) (fun u h => h) ko.k3 ?_
        walk_at "kn"
        refine g_isZ ko (b := true) (hd _ N.af) (fun u h => h) ko.k4 ?_
        walk_at "kn"
        refine g_isZ ko (b := false) (hd _ (Now.af (K := K) (by assumption))) (fun u h => h) ko.k5 ?_
        walk_at "kn"
        refine g_isZ ko (b := false) (hd _ (Now.af (K := K) (by assumption))) (fun u h => h) ko.k6 ?_
        walk_at "kn"
        rename_i p1 H1 N1 p2 H2 N2 p3 H3 N3 p4 H4 N4
        refine g_cntF (n := 1) (ys := [.bl false, .bl false, .bl false, .bl true, .bl false, .bl false]) (.of (N4.cell 1 rfl)) rfl rfl rfl ?_
        walk_at "kn"
        refine c_or (fun c => absurd (of_decide_eq_true c) (by simp)) (fun _ => ?_)
        walk_at "kn"
        refine g_isZ ko (b := true) (hd _ N4.af) (fun u h => h) ko.kv ?_
        walk_at "kn"
        refine g_idx (ys := [.bl false, .bl false, .bl false, .bl true, .bl false, .bl false]) (z := .bl true) 3 (.of (N4.cell 1 rfl)) rfl rfl rfl rfl ?_ ?_
        · intro m z' hm hz
          have : m = 0 ∨ m = 1 ∨ m = 2 := by omega
          rcases this with rfl | rfl | rfl <;> (cases hz; rfl)
        · walk_at "kn"
          refine k_eqStr (by decide) ?_
          walk_at "kn"
          refine k_eqStr (by decide) ?_
          walk_at "kn"
          refine k_eqStr (by decide) ?_
          walk_at "kn"
          rename_i p5 H5 N5
          exact k p5 H5 N5.af (N5.tup 0 rfl)
    · have hd : ∀ H'', Aft [] H' H'' → XDic (some dd) H'' := fun H'' A => .inr ⟨dd, fs, rfl, A.k _ _ hdd (by simp)⟩
      rcases hn with ⟨rfl, rfl, hv⟩ | ⟨rfl, rfl, hv⟩ | ⟨rfl, rfl, hv⟩
      · walk_at "kn"
        refine g_isZ ko (b := true) (hd _ N.af) (fun u h => h) ko.k1 ?_
        walk_at "kn"
        refine g_isZ ko (b := false) (hd _ N.af) (fun u h => h) ko.k2 ?_
        walk_at "kn"
        refine g_isZ ko (b := false) (hd _ N.af) (fun u h => h) ko.k3 ?_
        walk_at "kn"
        refine g_isZ ko (b := false) (hd _ N.af) (fun u h => h) ko.k4 ?_
        walk_at "kn"
        refine g_isZ ko (b := false) (hd _ (Now.af (K := K) (by assumption))) (fun u h => h) ko.k5 ?_
        walk_at "kn"
        refine g_isZ ko (b := false) (hd _ (Now.af (K := K) (by assumption))) (fun u h => h) ko.k6 ?_
        walk_at "kn"
        rename_i p1 H1 N1 p2 H2 N2 p3 H3 N3 p4 H4 N4
        refine g_cntF (n := 1) (ys := [.bl true, .bl false, .bl false, .bl false, .bl false, .bl false]) (.of (N4.cell 1 rfl)) rfl rfl rfl ?_
        walk_at "kn"
        refine c_or (fun c => absurd (of_decide_eq_true c) (by simp)) (fun _ => ?_)
        walk_at "kn"
        refine g_isZ ko (b := true) (hd _ N4.af) (fun u h => h) ko.kv ?_
        walk_at "kn"
        refine g_idx (ys := [.bl true, .bl false, .bl false, .bl false, .bl false, .bl false]) (z := .bl true) 0 (.of (N4.cell 1 rfl)) rfl rfl rfl rfl ?_ ?_
        · intro m z' hm hz
          omega
        · walk_at "kn"
          refine k_xf ?_
          walk_at "kn"
          refine g_xf (N4.af.k _ _ hdd (by simp)) hv ?_
          walk_at "kn"
          rename_i p5 H5 N5
          exact k p5 H5 N5.af (N5.tup 0 rfl)
      · walk_at "kn"
        refine g_isZ ko (b := false) (hd _ N.af) (fun u h => h) ko.k1 ?_
        walk_at "kn"
        refine g_isZ ko (b := false) (hd _ N.af) (fun u h => h) ko.k2 ?_
        walk_at "kn"
        refine g_isZ ko (b := false) (hd _ N.af) (fun u h => h) ko.k3 ?_
        walk_at "kn"
        refine g_isZ ko (b := false) (hd _ N.af) (fun u h => h) ko.k4 ?_
        walk_at "kn"
        refine g_isZ ko (b := true) (hd _ (Now.af (K := K) (by assumption))) (fun u h => h) ko.k5 ?_
        walk_at "kn"
        refine g_isZ ko (b := false) (hd _ (Now.af (K := K) (by assumption))) (fun u h => h) ko.k6 ?_
        walk_at "kn"
        rename_i p1 H1 N1 p2 H2 N2 p3 H3 N3 p4 H4 N4
        refine g_cntF (n := 1) (ys := [.bl false, .bl false, .bl false, .bl false, .bl true, .bl false]) (.of (N4.cell 1 rfl)) rfl rfl rfl ?_
        walk_at "kn"
        refine c_or (fun c => absurd (of_decide_eq_true c) (by simp)) (fun _ => ?_)
        walk_at "kn"
        refine g_isZ ko (b := true) (hd _ N4.af) (fun u h => h) ko.kv ?_
        walk_at "kn"
        refine g_idx (ys := [.bl false, .bl false, .bl false, .bl false, .bl true, .bl false]) (z := .bl true) 4 (.of (N4.cell 1 rfl)) rfl rfl rfl rfl ?_ ?_
        · intro m z' hm hz
          have : m = 0 ∨ m = 1 ∨ m = 2 ∨ m = 3 := by omega
          rcases this with rfl | rfl | rfl | rfl <;> (cases hz; rfl)
        · walk_at "kn"
          refine k_eqStr (by decide) ?_
          walk_at "kn"
          refine k_xf ?_
          walk_at "kn"
          refine g_xf (N4.af.k _ _ hdd (by simp)) hv ?_
          walk_at "kn"
          rename_i p5 H5 N5
          exact k p5 H5 N5.af (N5.tup 0 rfl)
      · walk_at "kn"
        refine g_isZ ko (b := false) (hd _ N.af) (fun u h => h) ko.k1 ?_
        walk_at "kn"
        refine g_isZ ko (b := false) (hd _ N.af) (fun u h => h) ko.k2 ?_
        walk_at "kn"
        refine g_isZ ko (b := false) (hd _ N.af) (fun u h => h) ko.k3 ?_
        walk_at "kn"
        refine g_isZ ko (b := false) (hd _ N.af) (fun u h => h) ko.k4 ?_
        walk_at "kn"
        refine g_isZ ko (b := false) (hd _ (Now.af (K := K) (by assumption))) (fun u h => h) ko.k5 ?_
        walk_at "kn"
        refine g_isZ ko (b := true) (hd _ (Now.af (K := K) (by assumption))) (fun u h => h) ko.k6 ?_
        walk_at "kn"
        rename_i p1 H1 N1 p2 H2 N2 p3 H3 N3 p4 H4 N4
        refine g_cntF (n := 1) (ys := [.bl false, .bl false, .bl false, .bl false, .bl false, .bl true]) (.of (N4.cell 1 rfl)) rfl rfl rfl ?_
        walk_at "kn"
        refine c_or (fun c => absurd (of_decide_eq_true c) (by simp)) (fun _ => ?_)
        walk_at "kn"
        refine g_isZ ko (b := true) (hd _ N4.af) (fun u h => h) ko.kv ?_
        walk_at "kn"
        refine g_idx (ys := [.bl false, .bl false, .bl false, .bl false, .bl false, .bl true]) (z := .bl true) 5 (.of (N4.cell 1 rfl)) rfl rfl rfl rfl ?_ ?_
        · intro m z' hm hz
          have : m = 0 ∨ m = 1 ∨ m = 2 ∨ m = 3 ∨ m = 4 := by omega
          rcases this with rfl | rfl | rfl | rfl | rfl <;> (cases hz; rfl)
        · walk_at "kn"
          refine k_eqStr (by decide) ?_
          walk_at "kn"
          refine k_eqStr (by decide) ?_
          walk_at "kn"
          refine k_xf ?_
          walk_at "kn"
          refine g_xf (N4.af.k _ _ hdd (by simp)) hv ?_
          walk_at "kn"
          rename_i p5 H5 N5
          exact k p5 H5 N5.af (N5.tup 0 rfl)
end
section
variable {c1 c2 c3 c4 c5 c6 cb : Addr}
theorem told_gives {X : Cx} (B : Bt X.mg) (Kn : Kin X.mg c1 c2 c3 c4 c5 c6 cb) (KX : KinX X.K c1 c5 c6) {g : Addr} {cdg : Value} {q : Str} : LamX.GivesTo X N_told "_law_told" (defScope s_l_told) g cdg (defBody s_l_told) "_law_work" q (TToldX X.K c1 c2 c3 c4 c5 c6 cb) := by
  obtain ⟨prog, w, K, mg, base, A, N, s_0, H_0, env, outer, stack, ex, fn, calm, pn0, xe0⟩ := X
  replace Kn : Kin mg c1 c2 c3 c4 c5 c6 cb := Kn
  replace B : Bt mg := B
  replace KX : KinX K c1 c5 c6 := KX
  intro f c' s H Q tl act hc h
  obtain ⟨ts, hs1, hs2⟩ := told_suite (prog := prog) (w := w) (K := K) (base := base) (A := A) (stack := stack) (s := s) (H := H) (g := g) (cdg := cdg) B Kn KX
  refine ⟨_, pss_one (ps_try_as (X := (cxOf C8.CX0 prog w K mg base N_told "_law_told" (defScope s_l_told) g cdg A stack s H C8.E0).nox) (x := "BitsError") (n := "e") (c := .ref cb) (i := 1) (ts := ts)
      (tb := fun W D σ H => ∃ Ech : XK, (∀ cls d σ' H', Ech cls d H' → σ'.length = 5 → W cls d σ' H') ∧ σ[0]? = some (some (.ref f)) ∧ H c' = some (LamX.CodeO c' q) ∧ tl Ech H D.rt) (Wout := fun _ _ _ _ => False)
      rfl rfl sc_l_told.nd rfl rfl ⟨rfl, by decide, .inl Kn.gb⟩ LamX.takes0 (fun W pn xe tk _ => ?_) hs1), ?_⟩
  · refine ⟨fun pins s' σ H' D I h' => ?_⟩
    obtain ⟨Ech, hW, h1, h2, h3⟩ := h'
    exact (pss_one (ps_ret (act _ pn xe Ech _ _ (takes_len tk) hW))).run pins s' σ H' D I ⟨h1, h2, h3⟩
  · refine ⟨_, fun cls d σ' H' h hl => ?_, rfl, hc, h⟩
    obtain ⟨xs, hR, k⟩ := h
    obtain ⟨D, n, e1, ko, hR'⟩ := id hR
    subst e1
    exact ⟨true, ko.m, fun _ a _ => hs2 (.ref D) d a σ' H' _ xs hR hl k, fun z => by cases z⟩
end
/-! ### law 01: a bad setting, bad bits, the bounds -/
section
variable {X : Cx}
theorem op_catAK (K : PySem.W.Frag) (h : X.K = K) : OpR X (binaryOp .Add) (rCatA K) := h ▸ op_catA
theorem sl_tupAK (K : PySem.W.Frag) (h : X.K = K) : SlR X (rSlA K) := h ▸ sl_tupA
end
section
variable {K : PySem.W.Frag} {D : Option Addr} {M : List Addr} {H0 H : Hp} {l : List Cel} {ts : List (Addr × List V)} {a b : Addr} {xs ys : List V} {Q : VK}
theorem g_catA (N : Now K D M H0 H l ts) (ha : H a = some (.tup xs)) (hb : H b = some (.tup ys)) (hz : xs.length + ys.length ≤ 100000) (q : ∀ p H', Now K D M H0 H' l ((p, xs ++ ys) :: ts) → Q (.ref p) H') : rCatA K (.ref a) (.ref b) H Q := by
  refine ⟨a, b, xs, ys, rfl, rfl, .of ha, .of hb, Nat.le_trans hz (by decide), fun e => ?_, fun _ e => ?_, fun _ _ p hp => q p _ (N.newT hp)⟩
  · subst e
    exact q b H (N.moreT hb)
  · subst e
    exact q a H (N.moreT (by rw [List.append_nil]; exact ha))
theorem g_slA {lo hi : Option Int} (N : Now K D M H0 H l ts) (ha : H a = some (.tup xs)) (q : ∀ p H', Now K D M H0 H' l ((p, cutV xs lo hi) :: ts) → Q (.ref p) H') : rSlA K (.ref a) lo hi H Q := by
  refine ⟨a, xs, rfl, .of ha, fun e => q a H (N.moreT ?_), fun _ p hp => q p _ (N.newT hp)⟩
  unfold cutV
  rw [e.1, e.2, List.drop_zero, Nat.sub_zero, List.take_length]
  exact ha
end
section
variable {P : Program} {w : World} {K : PySem.W.Frag} {mg : Str → Option Value} {base : Heap}
theorem sc_l_bad : FnScope ["_law_d", "_law_setting_here", "_law_far", "_law_at", "_law_least", "_law_most", "_law_odd", "_law_behind"] ["_law_d", "_law_setting_here"] (defScope s_l_bad) := ⟨rfl, rfl, rfl, by decide +kernel, rfl, by decide +kernel, by decide +kernel⟩
theorem bd_l_bad : Bd "_law_bad" "_law_bad" s_l_bad ["_law_d", "_law_setting_here"] := fun _ _ _ _ _ _ us hl => match us, hl with | [_, _], _ => rfl
def spBad (K : PySem.W.Frag) : Sp := fun vs H Q _ => ∃ (d t : Addr) (m w l a : Int), vs = [.ref d, .ref t] ∧ Dice K H d ∧ H t = some (.tup (StV m w l a)) ∧ OkS m w l a ∧
  ∀ (p b : Addr) (m' w' l' a' : Int) (z : Str) H', Aft [d] H H' → Dice K H' d → H' p = some (.tup [.ref b, .str z]) → H' b = some (.tup (StV m' w' l' a')) → BadS m' w' l' a' z → Q (.ref p) H'
theorem ok_bad (F : Def K mg "_law_bad" s_l_bad) (B : Bt mg) (c_l_next : Cal P w K mg base CX0 1 "_law_next" ["_law_dice_here", "_law_many"] (spNext K)) : Cal P w K mg base CX0 2 "_law_bad" ["_law_d", "_law_setting_here"] (spBad K) := by
  refine F.ok sc_l_bad bd_l_bad (fun vs H Q E h => ?_) (fun f cdv A outer s H vs Q E hr h => ?_)
  · obtain ⟨d, t, m, w, l, a, rfl, _⟩ := h
    rfl
  · obtain ⟨d, t, m, w, l, a, rfl, hD, ht, hok, k⟩ := h
    refine ⟨_, PSs.nox (pss_cons (ps_set (i := 2) sc_l_bad.nd rfl (by first | exact Or.inl rfl | exact Or.inr rfl) (pe_op op_add pe_int (pe_cal c_l_next (hr.mono (by decide)) pass0 (pa_cons (pv 0) (pa_cons (pe_op op_pow pe_int pe_int) pa_nil)))))
      (pss_cons (ps_set (i := 3) sc_l_bad.nd rfl (by first | exact Or.inl rfl | exact Or.inr rfl) (pe_cal c_l_next (hr.mono (by decide)) pass0 (pa_cons (pv 0) (pa_cons pe_int pa_nil))))
      (pss_cons (ps_set (i := 4) sc_l_bad.nd rfl (by first | exact Or.inl rfl | exact Or.inr rfl) (pe_ix (ix_listK K rfl) (pe_lst (pa_cons pe_int (pa_cons pe_int (pa_cons pe_int (pa_cons pe_int pa_nil))))) (pv 3) (fun _ _ => rfl)))
      (pss_cons (ps_set (i := 5) sc_l_bad.nd rfl (by first | exact Or.inl rfl | exact Or.inr rfl) (pe_ix (ix_listK K rfl) (pe_lst (pa_cons pe_int (pa_cons pe_int (pa_cons pe_int (pa_cons pe_int pa_nil))))) (pv 3) (fun _ _ => rfl)))
      (pss_cons (ps_set (i := 6) sc_l_bad.nd rfl (by first | exact Or.inl rfl | exact Or.inr rfl) (pe_ix (ix_listK K rfl) (pe_lst (pa_cons (pe_op op_sub (pv 4) pe_int) (pa_cons (pe_op op_add (pv 5) pe_int) (pa_cons (pe_op op_sub (pv 4) (pv 2)) (pa_cons (pe_op op_add (pv 5) (pv 2)) pa_nil))))) (pe_cal c_l_next (hr.mono (by decide)) pass0 (pa_cons (pv 0) (pa_cons pe_int pa_nil))) (fun _ _ => rfl)))
      (pss_cons (ps_set (i := 7) sc_l_bad.nd rfl (by first | exact Or.inl rfl | exact Or.inr rfl) (pe_slice (sl_listK K rfl) (pe_lst (pa_cons pe_int (pa_cons (pe_un un_neg pe_int) (pa_cons pe_int (pa_cons pe_int pa_nil))))) (po_some (pe_op op_add (pv 3) pe_int)) po_none))
      (pss_cons (ps_if (pt_cmpR op_eq (pe_cal c_l_next (hr.mono (by decide)) pass0 (pa_cons (pv 0) (pa_cons pe_int pa_nil))) pe_int (nomark _)) (pss_one (ps_set (i := 7) sc_l_bad.nd rfl (by first | exact Or.inl rfl | exact Or.inr rfl) (pe_callTy (cr_lstSK K rfl) (by rfl) B.m_list (by decide +kernel) (pa_cons (pe_slice (sl_tupAK K rfl) (pv 1) (po_some (pe_op op_add (pv 3) pe_int)) po_none) pa_nil)))) pss_nil)
      (pss_one (ps_ret (pe_tup (pa_cons (pe_op (op_catAK K rfl) (pe_op (op_catAK K rfl) (pe_slice (sl_tupAK K rfl) (pv 1) po_none (po_some (pv 3))) (pe_tup (pa_cons (pv 6) pa_nil))) (pe_callTy (cr_tupLK K rfl) (by rfl) B.m_tuple (by decide +kernel) (pa_cons (pv 7) pa_nil))) (pa_cons (pe_ix (ix_listK K rfl) (pe_lst (pa_cons pe_str (pa_cons pe_str (pa_cons pe_str (pa_cons pe_str pa_nil))))) (pv 3) (fun _ _ => rfl)) pa_nil)))))))))))), ?_⟩
    unfold OkS at hok
    have N : Now K (some d) [d] H H [] [(t, StV m w l a)] := .startD hD (by simp [ht])
    refine k_seq (k_cut (R := fun σ H' => ∃ far : Int, 1 ≤ far ∧ σ = [some (.ref d), some (.ref t), some (.int far), none, none, none, none, none] ∧ Now K (some d) [d] H H' [] [(t, StV m w l a)]) ?_ ?_)
    · rintro σ H1 ⟨far, hfar, rfl, N1⟩
      clear N
      refine k_seq (k_cut (R := fun σ H' => ∃ at' : Int, (0 ≤ at' ∧ at' < 4) ∧ σ = [some (.ref d), some (.ref t), some (.int far), some (.int at'), none, none, none, none] ∧ Now K (some d) [d] H H' [] [(t, StV m w l a)]) ?_ ?_)
      · rintro σ H2 ⟨at', ha, rfl, N2⟩
        clear N1
        have : at' = 0 ∨ at' = 1 ∨ at' = 2 ∨ at' = 3 := by omega
        rcases this with rfl | rfl | rfl | rfl
        · walk_at "kn"
          rename_i v6 hv6 p1 H1 N1 p2 H3 N3 v H4 N4 b1 b2
          have out : ¬ (2 ≤ v6 ∧ v6 ≤ 64) := by omega
          clear hv6 N1 N3
          refine c_ifd (fun _ => ?_) (fun _ => ?_)
          · walk_at "kn"
            refine g_slA N4 (N4.tup 0 rfl) fun p4 H5 N5 => ?_
            walk_at "kn"
            rename_i p5 H6 N6
            refine g_slA N6 (N6.tup 1 rfl) fun p7 H7 N7 => ?_
            walk_at "kn"
            rename_i p8 H8 N8
            refine g_catA N8 (N8.tup 1 rfl) (N8.tup 0 rfl) (Nat.le_of_ble_eq_true rfl) fun p9 H9 N9 => ?_
            walk_at "kn"
            rename_i p10 H10 N10
            refine g_catA N10 (N10.tup 1 rfl) (N10.tup 0 rfl) (Nat.le_of_ble_eq_true rfl) fun p11 H11 N11 => ?_
            walk_at "kn"
            rename_i N13
            exact k _ _ _ _ _ _ _ _ N13.af (N13.dc d rfl).1 (N13.tup 0 rfl) (N13.tup 1 rfl) (.inl ⟨out, rfl⟩)
          · walk_at "kn"
            have N6 := N4
            refine g_slA N6 (N6.tup 0 rfl) fun p7 H7 N7 => ?_
            walk_at "kn"
            rename_i p8 H8 N8
            refine g_catA N8 (N8.tup 1 rfl) (N8.tup 0 rfl) (Nat.le_of_ble_eq_true rfl) fun p9 H9 N9 => ?_
            walk_at "kn"
            rename_i p10 H10 N10
            refine g_catA N10 (N10.tup 1 rfl) (N10.tup 0 rfl) (Nat.le_of_ble_eq_true rfl) fun p11 H11 N11 => ?_
            walk_at "kn"
            rename_i N13
            exact k _ _ _ _ _ _ _ _ N13.af (N13.dc d rfl).1 (N13.tup 0 rfl) (N13.tup 1 rfl) (.inl ⟨out, rfl⟩)
        · walk_at "kn"
          rename_i v6 hv6 p1 H1 N1 p2 H3 N3 v H4 N4 b1 b2
          have out : ¬ (0 ≤ v6 ∧ v6 ≤ 16) := by omega
          clear hv6 N1 N3
          refine c_ifd (fun _ => ?_) (fun _ => ?_)
          · walk_at "kn"
            refine g_slA N4 (N4.tup 0 rfl) fun p4 H5 N5 => ?_
            walk_at "kn"
            rename_i p5 H6 N6
            refine g_slA N6 (N6.tup 1 rfl) fun p7 H7 N7 => ?_
            walk_at "kn"
            rename_i p8 H8 N8
            refine g_catA N8 (N8.tup 1 rfl) (N8.tup 0 rfl) (Nat.le_of_ble_eq_true rfl) fun p9 H9 N9 => ?_
            walk_at "kn"
            rename_i p10 H10 N10
            refine g_catA N10 (N10.tup 1 rfl) (N10.tup 0 rfl) (Nat.le_of_ble_eq_true rfl) fun p11 H11 N11 => ?_
            walk_at "kn"
            rename_i N13
            exact k _ _ _ _ _ _ _ _ N13.af (N13.dc d rfl).1 (N13.tup 0 rfl) (N13.tup 1 rfl) (.inr (.inl ⟨hok.1, out, rfl⟩))
          · walk_at "kn"
            have N6 := N4
            refine g_slA N6 (N6.tup 0 rfl) fun p7 H7 N7 => ?_
            walk_at "kn"
            rename_i p8 H8 N8
            refine g_catA N8 (N8.tup 1 rfl) (N8.tup 0 rfl) (Nat.le_of_ble_eq_true rfl) fun p9 H9 N9 => ?_
            walk_at "kn"
            rename_i p10 H10 N10
            refine g_catA N10 (N10.tup 1 rfl) (N10.tup 0 rfl) (Nat.le_of_ble_eq_true rfl) fun p11 H11 N11 => ?_
            walk_at "kn"
            rename_i N13
            exact k _ _ _ _ _ _ _ _ N13.af (N13.dc d rfl).1 (N13.tup 0 rfl) (N13.tup 1 rfl) (.inr (.inl ⟨hok.1, out, rfl⟩))
        · walk_at "kn"
          rename_i v6 hv6 p1 H1 N1 p2 H3 N3 v H4 N4 b1 b2
          have out : ¬ (0 ≤ v6 ∧ v6 ≤ 8) := by omega
          clear hv6 N1 N3
          refine c_ifd (fun _ => ?_) (fun _ => ?_)
          · walk_at "kn"
            refine g_slA N4 (N4.tup 0 rfl) fun p4 H5 N5 => ?_
            walk_at "kn"
            rename_i p5 H6 N6
            refine g_slA N6 (N6.tup 1 rfl) fun p7 H7 N7 => ?_
            walk_at "kn"
            rename_i p8 H8 N8
            refine g_catA N8 (N8.tup 1 rfl) (N8.tup 0 rfl) (Nat.le_of_ble_eq_true rfl) fun p9 H9 N9 => ?_
            walk_at "kn"
            rename_i p10 H10 N10
            refine g_catA N10 (N10.tup 1 rfl) (N10.tup 0 rfl) (Nat.le_of_ble_eq_true rfl) fun p11 H11 N11 => ?_
            walk_at "kn"
            rename_i N13
            exact k _ _ _ _ _ _ _ _ N13.af (N13.dc d rfl).1 (N13.tup 0 rfl) (N13.tup 1 rfl) (.inr (.inr (.inl ⟨hok.1, hok.2.1, out, rfl⟩)))
          · walk_at "kn"
            have N6 := N4
            refine g_slA N6 (N6.tup 0 rfl) fun p7 H7 N7 => ?_
            walk_at "kn"
            rename_i p8 H8 N8
            refine g_catA N8 (N8.tup 1 rfl) (N8.tup 0 rfl) (Nat.le_of_ble_eq_true rfl) fun p9 H9 N9 => ?_
            walk_at "kn"
            rename_i p10 H10 N10
            refine g_catA N10 (N10.tup 1 rfl) (N10.tup 0 rfl) (Nat.le_of_ble_eq_true rfl) fun p11 H11 N11 => ?_
            walk_at "kn"
            rename_i N13
            exact k _ _ _ _ _ _ _ _ N13.af (N13.dc d rfl).1 (N13.tup 0 rfl) (N13.tup 1 rfl) (.inr (.inr (.inl ⟨hok.1, hok.2.1, out, rfl⟩)))
        · walk_at "kn"
          rename_i v6 hv6 p1 H1 N1 p2 H3 N3 v H4 N4 b1 b2
          have out : ¬ (1 ≤ v6 ∧ v6 ≤ 16) := by omega
          clear hv6 N1 N3
          refine c_ifd (fun _ => ?_) (fun _ => ?_)
          · walk_at "kn"
            refine g_slA N4 (N4.tup 0 rfl) fun p4 H5 N5 => ?_
            walk_at "kn"
            rename_i p5 H6 N6
            refine g_slA N6 (N6.tup 1 rfl) fun p7 H7 N7 => ?_
            walk_at "kn"
            rename_i p8 H8 N8
            refine g_catA N8 (N8.tup 1 rfl) (N8.tup 0 rfl) (Nat.le_of_ble_eq_true rfl) fun p9 H9 N9 => ?_
            walk_at "kn"
            rename_i p10 H10 N10
            refine g_catA N10 (N10.tup 1 rfl) (N10.tup 0 rfl) (Nat.le_of_ble_eq_true rfl) fun p11 H11 N11 => ?_
            walk_at "kn"
            rename_i N13
            exact k _ _ _ _ _ _ _ _ N13.af (N13.dc d rfl).1 (N13.tup 0 rfl) (N13.tup 1 rfl) (.inr (.inr (.inr ⟨hok.1, hok.2.1, hok.2.2.1, out, rfl⟩)))
          · walk_at "kn"
            have N6 := N4
            refine g_slA N6 (N6.tup 0 rfl) fun p7 H7 N7 => ?_
            walk_at "kn"
            rename_i p8 H8 N8
            refine g_catA N8 (N8.tup 1 rfl) (N8.tup 0 rfl) (Nat.le_of_ble_eq_true rfl) fun p9 H9 N9 => ?_
            walk_at "kn"
            rename_i p10 H10 N10
            refine g_catA N10 (N10.tup 1 rfl) (N10.tup 0 rfl) (Nat.le_of_ble_eq_true rfl) fun p11 H11 N11 => ?_
            walk_at "kn"
            rename_i N13
            exact k _ _ _ _ _ _ _ _ N13.af (N13.dc d rfl).1 (N13.tup 0 rfl) (N13.tup 1 rfl) (.inr (.inr (.inr ⟨hok.1, hok.2.1, hok.2.2.1, out, rfl⟩)))
      · intro nx' fin
        walk_at "kn"
        rename_i v H2 N2 b1 b2
        exact fin _ _ ⟨v, ⟨b1, b2⟩, rfl, N2⟩
    · intro nx' fin
      walk_at "gon"
      rename_i v H1 N1 b1 b2
      exact fin _ _ ⟨1 + v, by omega, rfl, N1⟩
end
/-! ### law 01: bits that are none -/
section
variable {P : Program} {w : World} {K : PySem.W.Frag} {mg : Str → Option Value} {base : Heap}
theorem g_ixAny {H : Hp} {Q : VK} {p : Addr} {xs : List V} {i : Int} {R : V → Prop} (h : SqL K H p xs) (hi : 0 ≤ i ∧ i < xs.length) (hR : ∀ v ∈ xs, R v) (q : ∀ v, R v → Q v H) : rIxL K (.ref p) (.int i) H Q := by
  have lt : i.toNat < xs.length := by omega
  exact g_ixL h (at_of (show i = (i.toNat : Int) by omega) (List.getElem?_eq_getElem lt)) (q _ (hR _ (List.getElem_mem lt)))
theorem c_ifEP {σ : L2.St} {H : Hp} {Q : VK} {ta tb : TE} {R : VK} {b : Bool} (h1 : b = true → ∀ Q' : VK, (∀ v H', R v H' → Q' v H') → ta σ H Q') (h2 : b = false → ∀ Q' : VK, (∀ v H', R v H' → Q' v H') → tb σ H Q') (q : ∀ v H', R v H' → Q v H') : cIfE ta tb σ Q b H := by
  cases b with
  | true => exact h1 rfl _ q
  | false => exact h2 rfl _ q
theorem sc_l_bits : FnScope ["_law_d", "_law_setting_here", "_law_wide", "_law_at", "_law_bits_here", "_law_k", "_law_odd", "_law_some", "_law_found"] ["_law_d", "_law_setting_here"] (defScope s_l_bits) := ⟨rfl, rfl, rfl, by decide +kernel, rfl, by decide +kernel, by decide +kernel⟩
theorem bd_l_bits : Bd "_law_bits" "_law_bits" s_l_bits ["_law_d", "_law_setting_here"] := fun _ _ _ _ _ _ us hl => match us, hl with | [_, _], _ => rfl
def spBits (K : PySem.W.Frag) : Sp := fun vs H Q _ => ∃ (d t : Addr) (m w l a : Int), vs = [.ref d, .ref t] ∧ Dice K H d ∧ H t = some (.tup (StV m w l a)) ∧ OkS m w l a ∧
  ∀ (p : Addr) (bs : List Int) H', Aft [d] H H' → Dice K H' d → H' p = some (.tup (bs.map V.int)) → ¬ BitsOk w bs → bs.length ≤ 20 → Q (.ref p) H'
theorem ok_bits (F : Def K mg "_law_bits" s_l_bits) (B : Bt mg) (c_l_next : Cal P w K mg base CX0 1 "_law_next" ["_law_dice_here", "_law_many"] (spNext K)) : Cal P w K mg base CX0 2 "_law_bits" ["_law_d", "_law_setting_here"] (spBits K) := by
  refine F.ok sc_l_bits bd_l_bits (fun vs H Q E h => ?_) (fun f cdv A outer s H vs Q E hr h => ?_)
  · obtain ⟨d, t, m, w, l, a, rfl, _⟩ := h
    rfl
  · obtain ⟨d, t, m, w, l, a, rfl, hD, ht, hok, k⟩ := h
    refine ⟨_, PSs.nox (pss_cons (ps_set (i := 2) sc_l_bits.nd rfl (by first | exact Or.inl rfl | exact Or.inr rfl) (pe_ix (ix_tupK K rfl) (pv 1) pe_int (fun _ _ => rfl)))
      (pss_cons (ps_set (i := 3) sc_l_bits.nd rfl (by first | exact Or.inl rfl | exact Or.inr rfl) (pe_cal c_l_next (hr.mono (by decide)) pass0 (pa_cons (pv 0) (pa_cons (pe_op op_add (pv 2) pe_int) pa_nil))))
      (pss_cons (ps_setLc (i := 4) (own := [("_law_k", 5)]) (g := (gName 5)) rfl sc_l_bits.nd rfl rfl (sw_true rfl rfl rfl (by decide +kernel)) (pi_range1 (by rfl) B.m_range (pa_cons (pv 2) pa_nil)) (blkOk_by (own := [("_law_k", 5)]) (N := ["_law_d", "_law_setting_here", "_law_wide", "_law_at", "_law_bits_here", "_law_k", "_law_odd", "_law_some", "_law_found"]) (sc := defScope s_l_bits) (by decide +kernel)) (fun _ _ _ _ _ => (pg_name (i := 5) sc_l_bits.nd rfl (by first | exact Or.inl rfl | exact Or.inr rfl))) (fun _ _ _ _ _ => pts_nil) (fun _ _ _ _ _ => (pe_cal c_l_next (hr.mono (by decide)) pass0 (pa_cons (pv 0) (pa_cons pe_int pa_nil)))))
      (pss_cons (ps_set (i := 6) sc_l_bits.nd rfl (by first | exact Or.inl rfl | exact Or.inr rfl) (pe_ix (ix_listK K rfl) (pe_lst (pa_cons pe_int (pa_cons (pe_un un_neg pe_int) (pa_cons (pe_op op_pow pe_int pe_int) pa_nil)))) (pe_cal c_l_next (hr.mono (by decide)) pass0 (pa_cons (pv 0) (pa_cons pe_int pa_nil))) (fun _ _ => rfl)))
      (pss_cons (ps_set (i := 7) sc_l_bits.nd rfl (by first | exact Or.inl rfl | exact Or.inr rfl) (pe_lst (pa_cons (pe_op op_cat (pv 4) (pe_lst (pa_cons pe_int pa_nil))) (pa_cons (pe_op op_cat (pe_op op_cat (pe_slice (sl_listK K rfl) (pv 4) po_none (po_some (pv 3))) (pe_lst (pa_cons (pv 6) pa_nil))) (pe_slice (sl_listK K rfl) (pv 4) (po_some (pv 3)) po_none)) (pa_cons (pe_op op_cat (pe_op op_cat (pe_slice (sl_listK K rfl) (pv 4) po_none (po_some (pv 3))) (pe_lst (pa_cons (pv 6) pa_nil))) (pe_op op_rep (pe_slice (sl_listK K rfl) (pv 4) (po_some (pe_op op_add (pv 3) pe_int)) po_none) (pe_callTy cr_intB (by rfl) B.m_int (by decide +kernel) (pa_cons (pe_cmpR op_lt (pv 3) (pv 2) (nomark _)) pa_nil)))) pa_nil)))))
      (pss_cons (ps_set (i := 8) sc_l_bits.nd rfl (by first | exact Or.inl rfl | exact Or.inr rfl) (pe_ix (ix_listK K rfl) (pe_op op_cat (pv 7) (pe_lst (pa_cons (pe_ifExp (pt_cmpR op_gt (pv 2) pe_int (nomark _)) (pe_slice (sl_listK K rfl) (pv 4) (po_some pe_int) po_none) (pe_lst (pa_cons pe_int pa_nil))) pa_nil))) (pe_cal c_l_next (hr.mono (by decide)) pass0 (pa_cons (pv 0) (pa_cons pe_int pa_nil))) (fun _ _ => rfl)))
      (pss_one (ps_ret (pe_callTy (cr_tupLK K rfl) (by rfl) B.m_tuple (by decide +kernel) (pa_cons (pv 8) pa_nil)))))))))), ?_⟩
    unfold OkS at hok
    have N : Now K (some d) [d] H H [] [(t, StV m w l a)] := .startD hD (by simp [ht])
    walk_at "gon"
    rename_i at' H1 N1 a1 a2
    refine c_lcR N1 (by omega) (fun k acc => ∃ zs : List Int, acc = zs.map V.int ∧ zs.length = k ∧ ∀ x ∈ zs, x = 0 ∨ x = 1) ⟨[], rfl, rfl, by simp⟩ (fun _ => rfl) (fun k Dd H2 acc hk N2 r => ?_) (fun p H2 acc N2 r => ?_)
    · obtain ⟨zs, rfl, hz, h01⟩ := r
      walk_at "kn"
      rename_i v4 H3 N3 c7 c8
      refine c_put N3 (by rw [List.length_map]; omega) ⟨zs ++ [v4], by rw [List.map_append]; rfl, by rw [List.length_append, hz]; rfl, fun x hx => ?_⟩
      rcases List.mem_append.mp hx with z | z
      · exact h01 x z
      · rw [List.mem_singleton.mp z]
        omega
    · obtain ⟨zs, rfl, hz, h01⟩ := r
      clear N N1
      obtain ⟨n, rfl⟩ : ∃ n : Nat, at' = (n : Int) := ⟨at'.toNat, by omega⟩
      have hzl : zs.length ≤ 16 := by omega
      walk_at "kn"
      rename_i p4 H4 N4 p5 H5 N5 p6 H6 N6 p7 H7 N7
      rename_i od hod
      clear N4 N5 N6
      rw [cut_take] at N7
      refine g_cat N7 (N7.cell 1 rfl) (N7.cell 0 rfl) (by simp only [List.length_take, List.length_map, List.length_cons, List.length_nil]; omega) fun p8 H8 N8 => ?_
      walk_at "kn"
      rename_i p9 H9 N9
      rw [cut_drop] at N9
      clear N7 N8
      refine g_cat N9 (N9.cell 1 rfl) (N9.cell 0 rfl) (by simp only [List.length_take, List.length_drop, List.length_append, List.length_map, List.length_cons, List.length_nil]; omega) fun p10 H10 N10 => ?_
      walk_at "kn"
      rename_i p11 H11 N11 p12 H12 N12
      rw [cut_take] at N12
      clear N9 N10 N11
      refine g_cat N12 (N12.cell 1 rfl) (N12.cell 0 rfl) (by simp only [List.length_take, List.length_drop, List.length_append, List.length_map, List.length_cons, List.length_nil]; omega) fun p13 H13 N13 => ?_
      walk_at "kn"
      rename_i p14 H14 N14
      rw [show ((n : Int) + 1) = ((n + 1 : Nat) : Int) from rfl, cut_drop] at N14
      clear N12 N13
      obtain ⟨kk, hkk, hk1⟩ : ∃ kk : Nat, (if decide ((n : Int) < w) = true then (1 : Int) else 0) = (kk : Int) ∧ kk ≤ 1 := by
        by_cases c : (n : Int) < w
        · exact ⟨1, by simp [c], by omega⟩
        · exact ⟨0, by simp [c], by omega⟩
      refine g_rep (n := kk) N14 (N14.cell 0 rfl) hkk (by omega) (by simp only [List.length_drop, List.length_map]; omega) fun p15 H15 N15 => ?_
      clear N14
      have fl : (List.replicate kk (List.drop (n + 1) (zs.map V.int))).flatten.length ≤ 16 := by
        have : kk = 0 ∨ kk = 1 := by omega
        rcases this with rfl | rfl
        · simp
        · simp
          omega
      refine g_cat N15 (N15.cell 2 rfl) (N15.cell 0 rfl) (by simp only [List.length_take, List.length_append, List.length_map, List.length_cons, List.length_nil]; omega) fun p16 H16 N16 => ?_
      have e1 : (zs ++ [0]).map V.int = zs.map V.int ++ [V.int 0] := by rw [List.map_append] <;> rfl
      have e2 : (zs.take n ++ [od] ++ zs.drop n).map V.int = List.take n (zs.map V.int) ++ [V.int od] ++ List.drop n (zs.map V.int) := by simp [List.map_take, List.map_drop]
      have e3 : (zs.take n ++ [od] ++ (List.replicate kk (zs.drop (n + 1))).flatten).map V.int = List.take n (zs.map V.int) ++ [V.int od] ++ (List.replicate kk (List.drop (n + 1) (zs.map V.int))).flatten := by
        simp [List.map_take, List.map_drop, List.map_flatten, List.map_replicate]
      have odd : ¬ (od = 0 ∨ od = 1) := by
        rcases hod with rfl | rfl | rfl <;> decide
      have x1 : ¬ BitsOk w (zs ++ [0]) := fun z => by
        have := z.1
        rw [List.length_append] at this
        simp at this
        omega
      have x2 : ¬ BitsOk w (zs.take n ++ [od] ++ zs.drop n) := fun z => odd (z.2 od (by simp))
      have x3 : ¬ BitsOk w (zs.take n ++ [od] ++ (List.replicate kk (zs.drop (n + 1))).flatten) := fun z => odd (z.2 od (by simp))
      have y1 : (zs ++ [0]).length ≤ 20 := by simp; omega
      have y2 : (zs.take n ++ [od] ++ zs.drop n).length ≤ 20 := by simp; omega
      have y3 : (zs.take n ++ [od] ++ (List.replicate kk (zs.drop (n + 1))).flatten).length ≤ 20 := by
        have : kk = 0 ∨ kk = 1 := by omega
        rcases this with rfl | rfl
        · simp
          omega
        · simp
          omega
      have N18 : Now K (some d) [d] H H16 [⟨true, p5, .lst ((zs ++ [0]).map V.int)⟩, ⟨true, p10, .lst ((zs.take n ++ [od] ++ zs.drop n).map V.int)⟩, ⟨true, p16, .lst ((zs.take n ++ [od] ++ (List.replicate kk (zs.drop (n + 1))).flatten).map V.int)⟩, ⟨true, p, .lst (zs.map V.int)⟩] [(t, StV m w l a)] := by
        rw [e1, e2, e3]
        exact N16.sel [11, 6, 0, 14] rfl (by decide)
      clear N15 N16 e1 e2 e3 fl odd hod
      generalize zs ++ [0] = b1 at *
      generalize zs.take n ++ [od] ++ zs.drop n = b2 at *
      generalize zs.take n ++ [od] ++ (List.replicate kk (zs.drop (n + 1))).flatten = b3 at *
      walk_at "kn"
      rename_i ps H19 N19
      clear N18
      refine c_ifEP (R := fun v H' => ∃ (pe : Addr) (b4 : List Int), v = .ref pe ∧ Now K (some d) [d] H H' [⟨true, pe, .lst (b4.map V.int)⟩, ⟨true, ps, .lst [.ref p5, .ref p10, .ref p16]⟩, ⟨true, p5, .lst (b1.map V.int)⟩, ⟨true, p10, .lst (b2.map V.int)⟩, ⟨true, p16, .lst (b3.map V.int)⟩] [(t, StV m w l a)] ∧ ¬ BitsOk w b4 ∧ b4.length ≤ 20) (fun c Q' q => ?_) (fun c Q' q => ?_) ?_
      · have c := of_decide_eq_true c
        walk_at "kn"
        rename_i pe H20 N20
        refine q _ _ ⟨pe, zs.drop 1, rfl, ?_, fun z => ?_, ?_⟩
        · rw [List.map_drop, ← cut_drop]
          exact N20.sel [0, 1, 2, 3, 4] rfl (by decide)
        · have := z.1
          rw [List.length_drop] at this
          omega
        · rw [List.length_drop]
          omega
      · have c := of_decide_eq_false c
        walk_at "kn"
        rename_i pe H20 N20
        refine q _ _ ⟨pe, [1], rfl, N20.sel [0, 1, 2, 3, 4] rfl (by decide), fun z => ?_, by simp⟩
        have := z.1
        simp at this
        omega
      · rintro v H20 ⟨pe, b4, rfl, N20, x4, y4⟩
        clear N19
        walk_at "kn"
        rename_i vi H23 N23 g1 g2
        refine g_ixAny (R := fun v => ∃ (pb : Addr) (bs : List Int), v = .ref pb ∧ SqL K H23 pb (bs.map V.int) ∧ ¬ BitsOk w bs ∧ bs.length ≤ 20) (.of (N23.cell 0 rfl)) (by show 0 ≤ vi ∧ vi < 4; omega) (fun v hv => ?_) (fun v ⟨pb, bs, e, hb, xb, yb⟩ => ?_)
        · have hv : v ∈ [V.ref p5, V.ref p10, V.ref p16, V.ref pe] := hv
          simp only [List.mem_cons, List.not_mem_nil, or_false] at hv
          rcases hv with rfl | rfl | rfl | rfl
          · exact ⟨_, b1, rfl, .of (N23.cell 4 rfl), x1, y1⟩
          · exact ⟨_, b2, rfl, .of (N23.cell 5 rfl), x2, y2⟩
          · exact ⟨_, b3, rfl, .of (N23.cell 6 rfl), x3, y3⟩
          · exact ⟨_, b4, rfl, .of (N23.cell 2 rfl), x4, y4⟩
        · subst e
          walk_at "kn"
          rename_i pr H24 N24
          exact k _ _ _ N24.af (N24.dc d rfl).1 (N24.tup 0 rfl) xb yb
end
/-! ### an ear among cells -/
section
variable {K : PySem.W.Frag} {D : Option Addr} {M : List Addr} {H0 H : Hp} {r : List Cel} {ts : List (Addr × List V)} {Q : VK} {E : XK} {CE ep edx eml st : Addr} {e : ES}
theorem es_come (e : ES) (n : Int) : (e.come n).m = e.m ∧ (e.come n).w = e.w ∧ (e.come n).l = e.l ∧ (e.come n).a = e.a := by
  unfold ES.come
  split
  · exact ⟨rfl, rfl, rfl, rfl⟩
  · split <;> exact ⟨rfl, rfl, rfl, rfl⟩
theorem g_eCome {n : Int} (N : Now K D M H0 H (earC CE ep edx eml st e ++ r) ts) (ht : H st = some (.tup (StV e.m e.w e.l e.a))) (ok : EOk e) (hn : 0 ≤ n ∧ n < e.m)
    (k : ∀ t eml' H', Now K D M H0 H' (earC CE ep edx eml' st (e.come (e.taken n)) ++ r) ((t, [.int (e.taken n), .str (e.word (e.taken n))]) :: ts) → Q (.ref t) H') : spECome K CE [.ref ep, .int n] H Q E :=
  ⟨ep, edx, eml, st, e, n, rfl, N.front, ht, ok, hn, fun t eml' H' B h => k t eml' H' ((Now.call N (by simp) B).moreT h)⟩
theorem g_eTell (N : Now K D M H0 H (earC CE ep edx eml st e ++ r) ts) (ok : EOk e) (h0 : 0 ≤ e.newest)
    (k : ∀ t b H', Now K D M H0 H' (earC CE ep edx eml st e ++ r) ((t, [.int (e.newest % e.m), .ref b]) :: (b, e.bits.map V.int) :: ts) → Q (.ref t) H') : spETell K CE [.ref ep] H Q E :=
  ⟨ep, edx, eml, st, e, rfl, N.front, ok, h0, fun t b H' B h1 h2 => k t b H' (((N.pure B).moreT h2).moreT h1)⟩
theorem g_eLast (N : Now K D M H0 H (earC CE ep edx eml st e ++ r) ts) (k : Q (.int e.newest) H) : spELast K CE [.ref ep] H Q E := ⟨ep, edx, eml, st, e, rfl, N.front, k⟩
theorem g_eInit {m w l a : Int} (N : Now K D M H0 H r ts) (ht : H st = some (.tup (StV m w l a))) (hs : OkS m w l a) (k : ∀ ep edx eml H', Now K D M H0 H' (earC CE ep edx eml st ⟨m, w, l, a, -1, []⟩ ++ r) ts → Q (.ref ep) H') : cMake CE (spEInit CE) [] E Q [.ref st] H := by
  refine g_make (N.moreT ht) fun ep edx H5 _ N5 => ?_
  refine ⟨ep, edx, st, m, w, l, a, rfl, N5.cell 0 rfl, N5.tup 0 rfl, hs, fun eml H6 A6 => ⟨rfl, ?_⟩⟩
  exact k ep edx eml H6 ((Now.call (fp := [⟨true, ep, .ins CE edx []⟩]) N5 (by simp) A6).subT _ (fun p hp => List.mem_cons_of_mem _ hp))
end
/-! ### a mouth among cells -/
section
variable {K : PySem.W.Frag} {D : Option Addr} {M : List Addr} {H0 H : Hp} {r : List Cel} {ts : List (Addr × List V)} {Q : VK} {E : XK} {CM CE ep edx eml mp mdx mcl st : Addr} {e : ES} {s : MS}
theorem g_mFull (N : Now K D M H0 H (mouthC CM mp mdx mcl st s ++ r) ts) (k : Q (.bl s.full) H) : spMFull K CM [.ref mp] H Q E := ⟨mp, mdx, mcl, st, s, rfl, N.front, k⟩
theorem g_mLast (N : Now K D M H0 H (mouthC CM mp mdx mcl st s ++ r) ts) (k : Q (.int (s.sent - 1)) H) : spMLast K CM [.ref mp] H Q E := ⟨mp, mdx, mcl, st, s, rfl, N.front, k⟩
theorem g_mSend (N : Now K D M H0 H (mouthC CM mp mdx mcl st s ++ r) ts) (ok : OkS s.m s.w s.l s.a) (hf : s.full = false)
    (k : ∀ t H', Now K D M H0 H' (mouthC CM mp mdx mcl st s.send ++ r) ((t, [.int s.sent, .int (s.sent % s.m)]) :: ts) → Q (.ref t) H') : spMSend K CM [.ref mp] H Q E :=
  ⟨mp, mdx, mcl, st, s, rfl, N.front, ok, hf, fun t H' B h => k t H' ((Now.call N (by simp) B).moreT h)⟩
theorem g_mHear {q b : Addr} {n : Int} {bs : List Int} (N : Now K D M H0 H (mouthC CM mp mdx mcl st s ++ r) ts) (ht : H st = some (.tup (StV s.m s.w s.l s.a))) (hq : H q = some (.tup [.int n, .ref b])) (hb : H b = some (.tup (bs.map V.int))) (ok : MOk s) (hn : 0 ≤ n ∧ n < s.m) (hl : (bs.length : Int) = s.w)
    (h01 : ∀ x ∈ bs, x = 0 ∨ x = 1) (h0 : ∀ x ∈ s.some n bs, 0 ≤ x) (k : ∀ l mcl' H', Now K D M H0 H' (⟨true, l, .lst ((s.found n bs).map V.int)⟩ :: (mouthC CM mp mdx mcl' st (s.hear n bs) ++ r)) ts → Q (.ref l) H') : spMHear K CM [.ref mp, .ref q] H Q E := by
  refine ⟨mp, mdx, mcl, st, q, b, s, n, bs, rfl, N.front, ht, hq, hb, ok, hn, hl, h01, h0, fun l mcl' H' hN hne B hv => k l mcl' H' ?_⟩
  refine Now.grow N (Now.call N (by simp) B) (q := l) (fun z hz => ?_) hN hv trivial
  by_cases c : z = mcl'
  · exact .inr (fun e => hne (e.symm.trans c))
  · left
    rw [List.map_append] at hz ⊢
    rcases List.mem_append.mp hz with y | y
    · have y : z = mp ∨ z = mcl' := by simpa using y
      rcases y with y | y
      · exact List.mem_append_left _ (by rw [y]; simp)
      · exact absurd y c
    · exact List.mem_append_right _ y
theorem g_mSure (N : Now K D M H0 H (mouthC CM mp mdx mcl st s ++ r) ts) (k : ∀ l H', Now K D M H0 H' (⟨true, l, .lst (s.certain.map V.int)⟩ :: (mouthC CM mp mdx mcl st s ++ r)) ts → Q (.ref l) H') : spMSure K CM [.ref mp] H Q E :=
  ⟨mp, mdx, mcl, st, s, rfl, N.front, fun l H' hN B hv => k l H' (N.fresh B hN hv trivial)⟩
theorem g_mInit {m w l a : Int} (N : Now K D M H0 H r ts) (ht : H st = some (.tup (StV m w l a))) (hs : OkS m w l a) (k : ∀ mp mdx mcl H', Now K D M H0 H' (mouthC CM mp mdx mcl st ⟨m, w, l, a, 0, -1, []⟩ ++ r) ts → Q (.ref mp) H') : cMake CM (spMInit CM) [] E Q [.ref st] H := by
  refine g_make (N.moreT ht) fun mp mdx H5 _ N5 => ?_
  refine ⟨mp, mdx, st, m, w, l, a, rfl, N5.cell 0 rfl, N5.tup 0 rfl, hs, fun mcl H6 A6 => ⟨rfl, ?_⟩⟩
  exact k mp mdx mcl H6 ((Now.call (fp := [⟨true, mp, .ins CM mdx []⟩]) N5 (by simp) A6).subT _ (fun p hp => List.mem_cons_of_mem _ hp))
end
/-! ### law 01: the bounds themselves are settings -/
section
variable {P : Program} {w : World} {K : PySem.W.Frag} {mg : Str → Option Value} {base : Heap} {CE CM : Addr}
theorem sc_l_bounds : FnScope ["_law_setting_here"] [] (defScope s_l_bounds) := ⟨rfl, rfl, rfl, by decide +kernel, rfl, by decide +kernel, by decide +kernel⟩
theorem bd_l_bounds : Bd "_law_bounds" "_law_bounds" s_l_bounds [] := fun _ _ _ _ _ _ us hl => match us, hl with | [], _ => rfl
def spBounds : Sp := fun vs H Q _ => vs = [] ∧ ∀ H', Aft [] H H' → Q (.bl true) H'
theorem ok_bounds (F : Def K mg "_law_bounds" s_l_bounds) (B : Bt mg) (cl_Ear : Cls K CE) (cl_Mouth : Cls K CM) (c_Ear : CalC P w K mg base CX0 CE 2 "Ear" ["self", "setting"] (spEInit CE)) (c_Ear_last : CalM P w K mg base CX0 CE 1 "last" ["self"] (spELast K CE))
    (c_Mouth : CalC P w K mg base CX0 CM 2 "Mouth" ["self", "setting"] (spMInit CM)) (c_Mouth_send : CalM P w K mg base CX0 CM 2 "send" ["self"] (spMSend K CM)) (c_judged : Cal P w K mg base CX0 2 "judged" ["setting"] spJudgedS) : Cal P w K mg base CX0 6 "_law_bounds" [] spBounds := by
  refine F.ok sc_l_bounds bd_l_bounds (fun vs H Q E h => ?_) (fun f cdv A outer s H vs Q E hr h => ?_)
  · obtain ⟨rfl, _⟩ := h
    rfl
  · obtain ⟨rfl, k⟩ := h
    refine ⟨_, PSs.nox (pss_cons (ps_for PassesOwn.never rfl (pi_listK K rfl (pe_lst (pa_cons (pe_tup (pa_cons pe_int (pa_cons pe_int (pa_cons pe_int (pa_cons pe_int pa_nil))))) (pa_cons (pe_tup (pa_cons pe_int (pa_cons pe_int (pa_cons pe_int (pa_cons pe_int pa_nil))))) pa_nil)))) (pg_name (i := 0) sc_l_bounds.nd rfl (by first | exact Or.inl rfl | exact Or.inr rfl))
      (pss_one (ps_if (PW.pt (pw_or (pt_cmpR op_ne (pe_calM0 (pe_calC c_Ear (hr.mono (by decide)) pass0 (pa_cons (pv 0) pa_nil)) cl_Ear c_Ear_last (hr.mono (by decide)) pass0) (pe_un un_neg pe_int) (nomark _)) (pw_or (pt_cmpR (op_neDK K rfl hr.units) (pe_calM0 (pe_calC c_Mouth (hr.mono (by decide)) pass0 (pa_cons (pv 0) pa_nil)) cl_Mouth c_Mouth_send (hr.mono (by decide)) pass0) (pe_tup (pa_cons pe_int (pa_cons pe_int pa_nil))) (nomark _)) (pw_or1 (pt_cmpR (op_neDK K rfl hr.units) (pe_cal c_judged (hr.mono (by decide)) pass0 (pa_cons (pv 0) pa_nil)) (pe_tup (pa_cons pe_str pa_nil)) (nomark _)))))) (pss_one (ps_ret pe_bl)) pss_nil)))
      (pss_one (ps_ret pe_bl))), ?_⟩
    have N : Now K none [] H H [] [] := .start0 (by simp)
    walk_at "gon"
    rename_i p1 H1 N1 p2 H2 N2 p3 H3 N3
    refine c_for (xs := [.ref p1, .ref p2]) (fun i σ H' => ∃ x, σ = [x] ∧ Now K none [] H H' [⟨true, p3, .lst [.ref p1, .ref p2]⟩] [(p2, StV 2 0 0 1), (p1, StV 64 16 8 16)]) ⟨_, rfl, N3⟩ (fun i σ H' _ ⟨_, _, N4⟩ => .of (N4.cell 0 rfl)) ?_ ?_
    · rintro i x σ H' hx ⟨_, rfl, N4⟩
      have one : ∃ (t : Addr) (m w l a : Int), x = .ref t ∧ H' t = some (.tup (StV m w l a)) ∧ OkS m w l a ∧ l + a + 1 ≤ m := by
        have : i = 0 ∨ i = 1 := by
          have := (List.getElem?_eq_some_iff.mp hx).1
          simp at this
          omega
        rcases this with rfl | rfl
        · cases hx
          exact ⟨p1, _, _, _, _, rfl, N4.tup 1 rfl, by unfold OkS; omega, by omega⟩
        · cases hx
          exact ⟨p2, _, _, _, _, rfl, N4.tup 0 rfl, by unfold OkS; omega, by omega⟩
      obtain ⟨t, m, w', l, a, rfl, ht, hok, hs⟩ := one
      have N5 := N4.moreT ht
      walk_at "kn"
      refine g_eInit N5 (N5.tup 0 rfl) hok fun ep edx eml H9 N9 => ?_
      walk_at "kn"
      refine g_eLast N9 ?_
      walk_at "kn"
      refine g_mInit N9 (N9.tup 0 rfl) hok fun mp mdx mcl H10 N10 => ?_
      walk_at "kn"
      refine g_mSend N10 hok (by show decide ((0 : Int) - -1 > a) = false; unfold OkS at hok; exact decide_eq_false (by omega)) fun y H11 N11 => ?_
      walk_at "kn"
      rename_i pz H12 N12
      clear N9 N10 N11
      refine g_neT (m := [0, 0 % m]) (n := [0, 0]) (.of (N12.tup 1 rfl)) (.of (N12.tup 0 rfl)) ?_
      rw [decide_eq_false (fun q => q (by rw [Int.zero_emod]))]
      walk_at "kn"
      refine ⟨t, m, w', l, a, rfl, N12.tup 2 rfl, hok, hs, fun y2 H13 A13 hy2 => ?_⟩
      have N13 := (N12.pure A13).moreT hy2
      clear N12
      walk_at "kn"
      rename_i z H14 N14
      refine g_neSc (m := [.inr "safe"]) (n := [.inr "safe"]) (by decide +kernel) (by decide +kernel) (.of (N14.tup 1 rfl)) (.of (N14.tup 0 rfl)) ?_
      rw [decide_eq_false (fun q => q rfl)]
      walk_at "kn"
      exact ⟨_, rfl, (N14.sub [⟨true, p3, .lst [.ref p1, .ref p2]⟩] (by simp) (by simp)).subT _ (by simp)⟩
    · rintro σ H' ⟨_, rfl, N4⟩
      walk_at "kn"
      exact k _ N4.af
end
/-! ### law 01 -/
section
variable {P : Program} {w : World} {K : PySem.W.Frag} {mg : Str → Option Value} {base : Heap} {TP c1 c2 c3 c4 c5 c6 cb CE CM CL : Addr}
section
variable {z : Str} {H : Hp} {E : XK}
theorem refw (ko1 : Kof K c1 c2 c3 c4 c5 c6 cb c1 1) (q : ∀ cls d H'', RefX K c1 c2 c3 c4 c5 c6 cb cls d H'' [.str "setting", .str z] → Aft [] H H'' → E cls d H'') : RefW c1 z H E := fun dd H'' A hdd =>
  q _ _ _ ⟨c1, 1, rfl, ko1, .inr ⟨dd, _, .str z, rfl, hdd, rfl, .inl ⟨rfl, rfl, rfl⟩⟩⟩ A
theorem refm (ko2 : Kof K c1 c2 c3 c4 c5 c6 cb c2 2) : RefX K c1 c2 c3 c4 c5 c6 cb (.ref c2) none H [.str "mark"] := ⟨c2, 2, rfl, ko2, .inl ⟨rfl, .inl rfl, rfl⟩⟩
theorem refb (ko3 : Kof K c1 c2 c3 c4 c5 c6 cb c3 3) : RefX K c1 c2 c3 c4 c5 c6 cb (.ref c3) none H [.str "bits"] := ⟨c3, 3, rfl, ko3, .inl ⟨rfl, .inr (.inl rfl), rfl⟩⟩
end
theorem sc_law : FnScope ["_law_script", "_law_d", "_law_turn", "_law_setting_here", "_law_bad_here", "_law_word", "_law_works", "_law_work", "_law_far", "_law_odd", "_law_more", "_law_mark", "_law_bits_here", "_law_ear", "_law_mouth"] ["_law_script"] (defScope s_law) := ⟨rfl, rfl, rfl, by decide +kernel, rfl, by decide +kernel, by decide +kernel⟩
theorem bd_law : Bd "law" "law" s_law ["_law_script"] := fun _ _ _ _ _ _ us hl => match us, hl with | [_], _ => rfl
def spLaw (K : PySem.W.Frag) (TP : Addr) : Sp := fun vs H Q _ => ∃ (a : Addr) (ns : List Int), vs = [.ref a] ∧ SqL K H a (ns.map V.int) ∧ ns.length ≤ 63 ∧ H TP = some (.tbl #[]) ∧ ∀ H', Q (.bl true) H'
theorem ok_law {f : Addr} {fd : FuncData} (F : FunD K "law" "law" (defArgs s_law) (defBody s_law) (defScope s_law) [] [] f fd) (B : Bt mg) (Kn : Kin mg c1 c2 c3 c4 c5 c6 cb) (KX : KinX K c1 c5 c6) (ko1 : Kof K c1 c2 c3 c4 c5 c6 cb c1 1) (ko2 : Kof K c1 c2 c3 c4 c5 c6 cb c2 2) (ko3 : Kof K c1 c2 c3 c4 c5 c6 cb c3 3)
    (HTB : ∀ c, fd.code = .ref c → LamX.TabB base mg c TP) (FT : Def K mg "_law_told" s_l_told) (cl_Ear : Cls K CE) (cl_Mouth : Cls K CM)
    (c_l_dice : Cal P w K mg base CX0 1 "_law_dice" ["_law_script"] (spDice K)) (c_l_next : Cal P w K mg base CX0 1 "_law_next" ["_law_dice_here", "_law_many"] (spNext K)) (c_l_setting : Cal P w K mg base CX0 2 "_law_setting" ["_law_d"] (spSetting K)) (c_l_like : Cal P w K mg base CX0 5 "_law_like" ["_law_found", "_law_due"] (spLike K 4))
    (c_l_bounds : Cal P w K mg base CX0 6 "_law_bounds" [] spBounds) (c_l_bad : Cal P w K mg base CX0 2 "_law_bad" ["_law_d", "_law_setting_here"] (spBad K)) (c_l_bits : Cal P w K mg base CX0 2 "_law_bits" ["_law_d", "_law_setting_here"] (spBits K))
    (c_Ear : CalC P w K mg base CX0 CE 2 "Ear" ["self", "setting"] (spEInit CE)) (c_Ear_last : CalM P w K mg base CX0 CE 1 "last" ["self"] (spELast K CE)) (c_Mouth : CalC P w K mg base CX0 CM 2 "Mouth" ["self", "setting"] (spMInit CM)) (c_Mouth_last : CalM P w K mg base CX0 CM 1 "last" ["self"] (spMLast K CM))
    (c_Mouth_sure : CalM P w K mg base CX0 CM 1 "sure" ["self"] (spMSure K CM)) (c_Mouth_is_full : CalM P w K mg base CX0 CM 1 "is_full" ["self"] (spMFull K CM))
    (c_EarX : CalC P w K mg base (L2.CX P w) CE 4 "Ear" ["self", "setting"] (spSIX c1)) (c_MouthX : CalC P w K mg base (L2.CX P w) CM 4 "Mouth" ["self", "setting"] (spSIX c1)) (c_playedX : Cal P w K mg base (L2.CX P w) 4 "played" ["setting", "events"] (spS2X c1)) (c_judgedX : Cal P w K mg base (L2.CX P w) 4 "judged" ["setting"] (spS1X c1))
    (c_writtenX : Cal P w K mg base (L2.CX P w) 4 "written" ["setting", "told"] (spS2X c1)) (c_readX : Cal P w K mg base (L2.CX P w) 4 "read" ["setting", "text"] (spS2X c1)) (c_fewestX : Cal P w K mg base (L2.CX P w) 4 "fewest" ["late", "ahead"] (spFewX c1)) (c_LoadX : CalC P w K mg base (L2.CX P w) CL 3 "Load" ["self", "room", "wait"] (spLoadX c1))
    (c_comeX : CalM P w K mg base (L2.CX P w) CE 2 "come" ["self", "mark"] (spEComeBX CE c2)) (c_hearX : CalM P w K mg base (L2.CX P w) CM 3 "hear" ["self", "told"] (spMHearBX CM c2 c3)) (c_tellX : CalM P w K mg base (L2.CX P w) CE 1 "tell" ["self"] (spETellE K CE c3)) (c_writtenB : Cal P w K mg base (L2.CX P w) 3 "written" ["setting", "told"] (spWrittenBX c2 c3)) :
    FnOk P w K mg base CX0 12 f fd ["_law_script"] (spLaw K TP) := by
  refine okC F sc_law (fun vs H Q E h => ?_) (fun c A outer s H vs Q E hcode hr h => ?_)
  · obtain ⟨a, ns, rfl, _⟩ := h
    rfl
  · obtain ⟨sc, ns, rfl, hS, hl, hTP, k⟩ := h
    have TB := HTB c hcode
    obtain ⟨gT, fdT, FT, hmT⟩ := FT.ex
    obtain ⟨ocT, odT, dVT, kVT, docT, pmT, anT, cdvT, ctT, oslT, rfl, lkT, hcT, _, _⟩ := id FT.ex
    have KT := FT.kp
    have bT := FT.bindsN bd_l_told
    refine law_core (q := (envOfC "law" (defScope s_law) s.heap.objs.size f (.ref c)).qual ++ "<lambda>") (PSs.nox (pss_cons (ps_set (i := 1) sc_law.nd rfl (by first | exact Or.inl rfl | exact Or.inr rfl) (pe_cal c_l_dice (hr.mono (by decide)) pass0 (pa_cons (pv 0) pa_nil)))
      (pss_cons (ps_if (pt_not (pt_val (pe_cal0 c_l_bounds (hr.mono (by decide)) pass0))) (pss_one (ps_ret pe_bl)) pss_nil)
      (pss_cons (ps_for PassesOwn.never rfl (pi_range1 (by rfl) B.m_range (pa_cons pe_int pa_nil)) (pg_name (i := 2) sc_law.nd rfl (by first | exact Or.inl rfl | exact Or.inr rfl))
      (pss_cons (ps_set (i := 3) sc_law.nd rfl (by first | exact Or.inl rfl | exact Or.inr rfl) (pe_cal c_l_setting (hr.mono (by decide)) pass0 (pa_cons (pv 1) pa_nil)))
      (pss_cons (ps_asg (pe_cal c_l_bad (hr.mono (by decide)) pass0 (pa_cons (pv 1) (pa_cons (pv 3) pa_nil))) (pg_tup rfl (pgs_cons (pg_name (i := 4) sc_law.nd rfl (by first | exact Or.inl rfl | exact Or.inr rfl)) (pgs_cons (pg_name (i := 5) sc_law.nd rfl (by first | exact Or.inl rfl | exact Or.inr rfl)) pgs_nil))))
      (pss_cons (ps_set (i := 6) sc_law.nd rfl (by first | exact Or.inl rfl | exact Or.inr rfl) (pe_lst (pa_cons (Lv.pe_lvB (k := 6) (N := ["_law_bad_here"]) (fr := ["_law_bad_here"]) (js := [4]) (T := [(TP, _)]) TB rfl (List.mem_singleton.mpr rfl) (fun p hp _ => congrArg Prod.snd (List.mem_singleton.mp hp)) (show NdefX.ndefB (defScope s_law) _ _ = true from by decide +kernel) rfl rfl (NdefX.nscope_by (by decide +kernel)) (fun _ _ _ _ _ _ => rfl) (fun cl c2 f A outer s H E hr2 => (pe_calC c_EarX (hr2.mono (by decide)) (passes_call (takes_of rfl rfl rfl rfl) (fun _ _ _ _ h => h)) (pa_cons (pv 0) pa_nil)))) pa_nil)))
      (pss_cons (ps_expr (pe_bmK K rfl PySem.F.plainAttrs_list PySem.F.slot_list_append PySem.F.type_list_append mt_append (pv 6) (pa_cons (Lv.pe_lvB (k := 6) (N := ["_law_bad_here"]) (fr := ["_law_bad_here"]) (js := [4]) (T := [(TP, _)]) TB rfl (List.mem_singleton.mpr rfl) (fun p hp _ => congrArg Prod.snd (List.mem_singleton.mp hp)) (show NdefX.ndefB (defScope s_law) _ _ = true from by decide +kernel) rfl rfl (NdefX.nscope_by (by decide +kernel)) (fun _ _ _ _ _ _ => rfl) (fun cl c2 f A outer s H E hr2 => (pe_calC c_MouthX (hr2.mono (by decide)) (passes_call (takes_of rfl rfl rfl rfl) (fun _ _ _ _ h => h)) (pa_cons (pv 0) pa_nil)))) pa_nil)))
      (pss_cons (ps_expr (pe_bmK K rfl PySem.F.plainAttrs_list PySem.F.slot_list_append PySem.F.type_list_append mt_append (pv 6) (pa_cons (Lv.pe_lvB (k := 6) (N := ["_law_bad_here"]) (fr := ["_law_bad_here"]) (js := [4]) (T := [(TP, _)]) TB rfl (List.mem_singleton.mpr rfl) (fun p hp _ => congrArg Prod.snd (List.mem_singleton.mp hp)) (show NdefX.ndefB (defScope s_law) _ _ = true from by decide +kernel) rfl rfl (NdefX.nscope_by (by decide +kernel)) (fun _ _ _ _ _ _ => rfl) (fun cl c2 f A outer s H E hr2 => (pe_cal c_playedX (hr2.mono (by decide)) (passes_call (takes_of rfl rfl rfl rfl) (fun _ _ _ _ h => h)) (pa_cons (pv 0) (pa_cons (pe_lst (pa_cons (pe_tup (pa_cons pe_str pa_nil)) pa_nil)) pa_nil))))) pa_nil)))
      (pss_cons (ps_expr (pe_bmK K rfl PySem.F.plainAttrs_list PySem.F.slot_list_append PySem.F.type_list_append mt_append (pv 6) (pa_cons (Lv.pe_lvB (k := 6) (N := ["_law_bad_here"]) (fr := ["_law_bad_here"]) (js := [4]) (T := [(TP, _)]) TB rfl (List.mem_singleton.mpr rfl) (fun p hp _ => congrArg Prod.snd (List.mem_singleton.mp hp)) (show NdefX.ndefB (defScope s_law) _ _ = true from by decide +kernel) rfl rfl (NdefX.nscope_by (by decide +kernel)) (fun _ _ _ _ _ _ => rfl) (fun cl c2 f A outer s H E hr2 => (pe_cal c_judgedX (hr2.mono (by decide)) (passes_call (takes_of rfl rfl rfl rfl) (fun _ _ _ _ h => h)) (pa_cons (pv 0) pa_nil)))) pa_nil)))
      (pss_cons (ps_expr (pe_bmK K rfl PySem.F.plainAttrs_list PySem.F.slot_list_append PySem.F.type_list_append mt_append (pv 6) (pa_cons (Lv.pe_lvB (k := 6) (N := ["_law_bad_here"]) (fr := ["_law_bad_here"]) (js := [4]) (T := [(TP, _)]) TB rfl (List.mem_singleton.mpr rfl) (fun p hp _ => congrArg Prod.snd (List.mem_singleton.mp hp)) (show NdefX.ndefB (defScope s_law) _ _ = true from by decide +kernel) rfl rfl (NdefX.nscope_by (by decide +kernel)) (fun _ _ _ _ _ _ => rfl) (fun cl c2 f A outer s H E hr2 => (pe_cal c_writtenX (hr2.mono (by decide)) (passes_call (takes_of rfl rfl rfl rfl) (fun _ _ _ _ h => h)) (pa_cons (pv 0) (pa_cons (pe_tup (pa_cons pe_int (pa_cons (pe_tup pa_nil) pa_nil))) pa_nil))))) pa_nil)))
      (pss_cons (ps_expr (pe_bmK K rfl PySem.F.plainAttrs_list PySem.F.slot_list_append PySem.F.type_list_append mt_append (pv 6) (pa_cons (Lv.pe_lvB (k := 6) (N := ["_law_bad_here"]) (fr := ["_law_bad_here"]) (js := [4]) (T := [(TP, _)]) TB rfl (List.mem_singleton.mpr rfl) (fun p hp _ => congrArg Prod.snd (List.mem_singleton.mp hp)) (show NdefX.ndefB (defScope s_law) _ _ = true from by decide +kernel) rfl rfl (NdefX.nscope_by (by decide +kernel)) (fun _ _ _ _ _ _ => rfl) (fun cl c2 f A outer s H E hr2 => (pe_cal c_readX (hr2.mono (by decide)) (passes_call (takes_of rfl rfl rfl rfl) (fun _ _ _ _ h => h)) (pa_cons (pv 0) (pa_cons pe_str pa_nil))))) pa_nil)))
      (pss_cons (ps_if (pt_cmpR (op_in_seqK K rfl) (pv 5) (pe_tup (pa_cons pe_str (pa_cons pe_str pa_nil))) (by rfl)) (pss_one (ps_expr (pe_bmK K rfl PySem.F.plainAttrs_list PySem.F.slot_list_append PySem.F.type_list_append mt_append (pv 6) (pa_cons (Lv.pe_lvB (k := 6) (N := ["_law_bad_here"]) (fr := ["_law_bad_here"]) (js := [4]) (T := [(TP, _)]) TB rfl (List.mem_singleton.mpr rfl) (fun p hp _ => congrArg Prod.snd (List.mem_singleton.mp hp)) (show NdefX.ndefB (defScope s_law) _ _ = true from by decide +kernel) rfl rfl (NdefX.nscope_by (by decide +kernel)) (fun _ _ _ _ _ _ => rfl) (fun cl c2 f A outer s H E hr2 => (pe_cal c_fewestX (hr2.mono (by decide)) (passes_call (takes_of rfl rfl rfl rfl) (fun _ _ _ _ h => h)) (pa_cons (pe_ix (ix_tupK K rfl) (pv 0) pe_int (fun _ _ => rfl)) (pa_cons (pe_ix (ix_tupK K rfl) (pv 0) pe_int (fun _ _ => rfl)) pa_nil))))) pa_nil)))) pss_nil)
      (pss_cons (ps_if (pt_cmpR (op_neDK K rfl hr.units) (Lv.pe_none (own := [("_law_work", 7)]) (g := gName 7) (tt := tNe _ 6 c1 c2 c3 c4 c5 c6 cb (rNeD K) _ _) rfl sc_law.nd (pi_listK K rfl (pv 6)) (blkOk_by (own := [("_law_work", 7)]) (N := ["_law_script", "_law_d", "_law_turn", "_law_setting_here", "_law_bad_here", "_law_word", "_law_works", "_law_work", "_law_far", "_law_odd", "_law_more", "_law_mark", "_law_bits_here", "_law_ear", "_law_mouth"]) (sc := defScope s_law) (by decide +kernel)) (fun _ _ _ _ _ => (pg_name (i := 7) sc_law.nd rfl (by first | exact Or.inl rfl | exact Or.inr rfl))) (fun σ s H C cl fp kn => pts_one (pt_cmpR (op_neDK K rfl hr.units) (Lv.pe_toldv (k := 6) kn rfl rfl rfl rfl rfl (by rfl) hmT KT lkT hcT bT sc_l_told rfl (Or.inl rfl) (fun q => told_gives B Kn KX) (hr.mono (by decide)) (pa_cons (pv 7) pa_nil)) (pe_tup (pa_cons pe_str (pa_cons (pv 5) pa_nil))) (nomark _)))) (pe_lst pa_nil) (nomark _)) (pss_one (ps_ret pe_bl)) pss_nil)
      (pss_cons (ps_set (i := 8) sc_law.nd rfl (by first | exact Or.inl rfl | exact Or.inr rfl) (pe_op op_add pe_int (pe_cal c_l_next (hr.mono (by decide)) pass0 (pa_cons (pv 1) (pa_cons (pe_op op_pow pe_int pe_int) pa_nil)))))
      (pss_cons (ps_set (i := 9) sc_law.nd rfl (by first | exact Or.inl rfl | exact Or.inr rfl) (pe_ix (ix_listK K rfl) (pe_lst (pa_cons pe_int (pa_cons pe_int (pa_cons (pe_un un_neg (pv 8)) (pa_cons (pe_op op_add pe_int (pv 8)) pa_nil))))) (pe_cal c_l_next (hr.mono (by decide)) pass0 (pa_cons (pv 1) (pa_cons pe_int pa_nil))) (fun _ _ => rfl)))
      (pss_cons (ps_set (i := 10) sc_law.nd rfl (by first | exact Or.inl rfl | exact Or.inr rfl) (pe_ix (ix_listK K rfl) (pe_lst (pa_cons pe_int (pa_cons pe_int (pa_cons (pe_un un_neg (pv 8)) (pa_cons (pe_op op_add pe_int (pv 8)) pa_nil))))) (pe_cal c_l_next (hr.mono (by decide)) pass0 (pa_cons (pv 1) (pa_cons pe_int pa_nil))) (fun _ _ => rfl)))
      (pss_cons (ps_if (pt_cmpR (op_neDK K rfl hr.units) (LamX.pe_lamcall (k := 6) (T := [(TP, _)]) (by rfl) hmT KT lkT hcT bT sc_l_told rfl (Or.inl rfl) (told_gives B Kn KX) TB rfl (List.mem_singleton.mpr rfl) (fun p hp _ => congrArg Prod.snd (List.mem_singleton.mp hp)) (hr.mono (by decide)) (show LamX.LamS (defScope s_law) _ from LamX.lamS_by (by decide +kernel)) rfl (fun _ _ _ _ _ => rfl) (fun A outer s H E f c hr2 => (pe_calC c_LoadX (hr2.mono (by decide)) (passes_call (takes_of rfl rfl rfl rfl) (fun _ _ _ _ h => h)) (pa_cons (pv 9) (pa_cons (pv 10) pa_nil))))) (pe_tup (pa_cons pe_str (pa_cons pe_str pa_nil))) (nomark _)) (pss_one (ps_ret pe_bl)) pss_nil)
      (pss_cons (ps_if (pt_cmpR (op_neDK K rfl hr.units) (LamX.pe_lamcall (k := 6) (T := [(TP, _)]) (by rfl) hmT KT lkT hcT bT sc_l_told rfl (Or.inl rfl) (told_gives B Kn KX) TB rfl (List.mem_singleton.mpr rfl) (fun p hp _ => congrArg Prod.snd (List.mem_singleton.mp hp)) (hr.mono (by decide)) (show LamX.LamS (defScope s_law) _ from LamX.lamS_by (by decide +kernel)) rfl (fun _ _ _ _ _ => rfl) (fun A outer s H E f c hr2 => (pe_calC c_LoadX (hr2.mono (by decide)) (passes_call (takes_of rfl rfl rfl rfl) (fun _ _ _ _ h => h)) (pa_cons pe_int (pa_cons (pv 10) pa_nil))))) (pe_tup (pa_cons pe_str (pa_cons pe_str pa_nil))) (nomark _)) (pss_one (ps_ret pe_bl)) pss_nil)
      (pss_cons (ps_set (i := 11) sc_law.nd rfl (by first | exact Or.inl rfl | exact Or.inr rfl) (pe_ix (ix_listK K rfl) (pe_lst (pa_cons (pe_un un_neg pe_int) (pa_cons (pe_ix (ix_tupK K rfl) (pv 3) pe_int (fun _ _ => rfl)) (pa_cons (pe_un un_neg (pv 8)) (pa_cons (pe_op op_add (pe_ix (ix_tupK K rfl) (pv 3) pe_int (fun _ _ => rfl)) (pv 8)) pa_nil))))) (pe_cal c_l_next (hr.mono (by decide)) pass0 (pa_cons (pv 1) (pa_cons pe_int pa_nil))) (fun _ _ => rfl)))
      (pss_cons (ps_set (i := 12) sc_law.nd rfl (by first | exact Or.inl rfl | exact Or.inr rfl) (pe_cal c_l_bits (hr.mono (by decide)) pass0 (pa_cons (pv 1) (pa_cons (pv 3) pa_nil))))
      (pss_cons (ps_asg (pe_tup (pa_cons (pe_calC c_Ear (hr.mono (by decide)) pass0 (pa_cons (pv 3) pa_nil)) (pa_cons (pe_calC c_Mouth (hr.mono (by decide)) pass0 (pa_cons (pv 3) pa_nil)) pa_nil))) (pg_tup rfl (pgs_cons (pg_name (i := 13) sc_law.nd rfl (by first | exact Or.inl rfl | exact Or.inr rfl)) (pgs_cons (pg_name (i := 14) sc_law.nd rfl (by first | exact Or.inl rfl | exact Or.inr rfl)) pgs_nil))))
      (pss_cons (ps_set (i := 6) sc_law.nd rfl (by first | exact Or.inl rfl | exact Or.inr rfl) (pe_lst (pa_cons (Lv.pe_lvB (k := 6) (N := ["_law_mark", "_law_ear"]) (fr := ["_law_mark", "_law_ear"]) (js := [11, 13]) (T := [(TP, _)]) TB rfl (List.mem_singleton.mpr rfl) (fun p hp _ => congrArg Prod.snd (List.mem_singleton.mp hp)) (show NdefX.ndefB (defScope s_law) _ _ = true from by decide +kernel) rfl rfl (NdefX.nscope_by (by decide +kernel)) (fun _ _ _ _ _ _ => rfl) (fun cl c2 f A outer s H E hr2 => (pe_calM (pv 1) cl_Ear c_comeX (hr2.mono (by decide)) (passes_call (takes_of rfl rfl rfl rfl) (fun _ _ _ _ h => h)) (pa_cons (pv 0) pa_nil)))) pa_nil)))
      (pss_cons (ps_expr (pe_bmK K rfl PySem.F.plainAttrs_list PySem.F.slot_list_append PySem.F.type_list_append mt_append (pv 6) (pa_cons (Lv.pe_lvB (k := 6) (N := ["_law_mouth", "_law_mark", "_law_bits_here"]) (fr := ["_law_mouth", "_law_mark", "_law_bits_here"]) (js := [14, 11, 12]) (T := [(TP, _)]) TB rfl (List.mem_singleton.mpr rfl) (fun p hp _ => congrArg Prod.snd (List.mem_singleton.mp hp)) (show NdefX.ndefB (defScope s_law) _ _ = true from by decide +kernel) rfl rfl (NdefX.nscope_by (by decide +kernel)) (fun _ _ _ _ _ _ => rfl) (fun cl c2 f A outer s H E hr2 => (pe_calM (pv 0) cl_Mouth c_hearX (hr2.mono (by decide)) (passes_call (takes_of rfl rfl rfl rfl) (fun _ _ _ _ h => h)) (pa_cons (pe_tup (pa_cons (pv 1) (pa_cons (pv 2) pa_nil))) pa_nil)))) pa_nil)))
      (pss_cons (ps_expr (pe_bmK K rfl PySem.F.plainAttrs_list PySem.F.slot_list_append PySem.F.type_list_append mt_append (pv 6) (pa_cons (Lv.pe_lvB (k := 6) (N := ["_law_setting_here", "_law_mark", "_law_bits_here"]) (fr := ["_law_setting_here", "_law_mark", "_law_bits_here"]) (js := [3, 11, 12]) (T := [(TP, _)]) TB rfl (List.mem_singleton.mpr rfl) (fun p hp _ => congrArg Prod.snd (List.mem_singleton.mp hp)) (show NdefX.ndefB (defScope s_law) _ _ = true from by decide +kernel) rfl rfl (NdefX.nscope_by (by decide +kernel)) (fun _ _ _ _ _ _ => rfl) (fun cl c2 f A outer s H E hr2 => (pe_cal c_writtenB (hr2.mono (by decide)) (passes_call (takes_of rfl rfl rfl rfl) (fun _ _ _ _ h => h)) (pa_cons (pv 0) (pa_cons (pe_tup (pa_cons (pv 1) (pa_cons (pv 2) pa_nil))) pa_nil))))) pa_nil)))
      (pss_cons (ps_if (pt_cmpR (op_neDK K rfl hr.units) (Lv.pe_none (own := [("_law_work", 7)]) (g := gName 7) (tt := tNe _ 6 c1 c2 c3 c4 c5 c6 cb (rNeD K) _ _) rfl sc_law.nd (pi_listK K rfl (pv 6)) (blkOk_by (own := [("_law_work", 7)]) (N := ["_law_script", "_law_d", "_law_turn", "_law_setting_here", "_law_bad_here", "_law_word", "_law_works", "_law_work", "_law_far", "_law_odd", "_law_more", "_law_mark", "_law_bits_here", "_law_ear", "_law_mouth"]) (sc := defScope s_law) (by decide +kernel)) (fun _ _ _ _ _ => (pg_name (i := 7) sc_law.nd rfl (by first | exact Or.inl rfl | exact Or.inr rfl))) (fun σ s H C cl fp kn => pts_one (pt_cmpR (op_neDK K rfl hr.units) (Lv.pe_toldv (k := 6) kn rfl rfl rfl rfl rfl (by rfl) hmT KT lkT hcT bT sc_l_told rfl (Or.inl rfl) (fun q => told_gives B Kn KX) (hr.mono (by decide)) (pa_cons (pv 7) pa_nil)) (pe_tup (pa_cons pe_str pa_nil)) (nomark _)))) (pe_lst pa_nil) (nomark _)) (pss_one (ps_ret pe_bl)) pss_nil)
      (pss_cons (ps_set (i := 6) sc_law.nd rfl (by first | exact Or.inl rfl | exact Or.inr rfl) (pe_lst (pa_cons (Lv.pe_lvB (k := 6) (N := ["_law_mouth", "_law_bits_here"]) (fr := ["_law_mouth", "_law_bits_here"]) (js := [14, 12]) (T := [(TP, _)]) TB rfl (List.mem_singleton.mpr rfl) (fun p hp _ => congrArg Prod.snd (List.mem_singleton.mp hp)) (show NdefX.ndefB (defScope s_law) _ _ = true from by decide +kernel) rfl rfl (NdefX.nscope_by (by decide +kernel)) (fun _ _ _ _ _ _ => rfl) (fun cl c2 f A outer s H E hr2 => (pe_calM (pv 0) cl_Mouth c_hearX (hr2.mono (by decide)) (passes_call (takes_of rfl rfl rfl rfl) (fun _ _ _ _ h => h)) (pa_cons (pe_tup (pa_cons pe_int (pa_cons (pv 1) pa_nil))) pa_nil)))) (pa_cons (Lv.pe_lvD (k := 6) (p := "_law_a") (i := 0) (N := ["_law_a", "_law_setting_here", "_law_bits_here"]) (fr := ["_law_setting_here", "_law_bits_here"]) (js := [3, 12]) (T := [(TP, _)]) TB rfl (List.mem_singleton.mpr rfl) (fun p hp _ => congrArg Prod.snd (List.mem_singleton.mp hp)) (show NdefX.ndefB (defScope s_law) _ _ = true from by decide +kernel) rfl rfl rfl pe_int (NdefX.nscope_by (by decide +kernel)) (fun _ _ _ _ _ _ _ => ⟨_, rfl, fun _ => rfl⟩) (fun cl c2 d2 f A outer s H E hr2 => (pe_cal c_writtenB (hr2.mono (by decide)) (passes_call (takes_of rfl rfl rfl rfl) (fun _ _ _ _ h => h)) (pa_cons (pv 1) (pa_cons (pe_tup (pa_cons pe_int (pa_cons (pv 2) pa_nil))) pa_nil))))) (pa_cons (Lv.pe_lvD (k := 6) (p := "_law_b") (i := 0) (N := ["_law_b", "_law_ear"]) (fr := ["_law_ear"]) (js := [13]) (T := [(TP, _)]) TB rfl (List.mem_singleton.mpr rfl) (fun p hp _ => congrArg Prod.snd (List.mem_singleton.mp hp)) (show NdefX.ndefB (defScope s_law) _ _ = true from by decide +kernel) rfl rfl rfl pe_int (NdefX.nscope_by (by decide +kernel)) (fun _ _ _ _ _ _ _ => ⟨_, rfl, fun _ => rfl⟩) (fun cl c2 d2 f A outer s H E hr2 => (pe_calM0 (pv 1) cl_Ear c_tellX (hr2.mono (by decide)) (passes_call (takes_of rfl rfl rfl rfl) (fun _ _ _ _ h => h))))) pa_nil)))))
      (pss_cons (ps_if (pt_cmpR (op_neDK K rfl hr.units) (Lv.pe_none (own := [("_law_work", 7)]) (g := gName 7) (tt := tNe _ 6 c1 c2 c3 c4 c5 c6 cb (rNeD K) _ _) rfl sc_law.nd (pi_listK K rfl (pv 6)) (blkOk_by (own := [("_law_work", 7)]) (N := ["_law_script", "_law_d", "_law_turn", "_law_setting_here", "_law_bad_here", "_law_word", "_law_works", "_law_work", "_law_far", "_law_odd", "_law_more", "_law_mark", "_law_bits_here", "_law_ear", "_law_mouth"]) (sc := defScope s_law) (by decide +kernel)) (fun _ _ _ _ _ => (pg_name (i := 7) sc_law.nd rfl (by first | exact Or.inl rfl | exact Or.inr rfl))) (fun σ s H C cl fp kn => pts_one (pt_cmpR (op_neDK K rfl hr.units) (Lv.pe_toldv (k := 6) kn rfl rfl rfl rfl rfl (by rfl) hmT KT lkT hcT bT sc_l_told rfl (Or.inl rfl) (fun q => told_gives B Kn KX) (hr.mono (by decide)) (pa_cons (pv 7) pa_nil)) (pe_tup (pa_cons pe_str pa_nil)) (nomark _)))) (pe_lst pa_nil) (nomark _)) (pss_one (ps_ret pe_bl)) pss_nil)
      (pss_one (ps_if (pt_not (pt_val (pe_cal c_l_like (hr.mono (by decide)) pass0 (pa_cons (pe_lst (pa_cons (pe_calM0 (pv 13) cl_Ear c_Ear_last (hr.mono (by decide)) pass0) (pa_cons (pe_calM0 (pv 14) cl_Mouth c_Mouth_last (hr.mono (by decide)) pass0) (pa_cons (pe_calM0 (pv 14) cl_Mouth c_Mouth_sure (hr.mono (by decide)) pass0) (pa_cons (pe_calM0 (pv 14) cl_Mouth c_Mouth_is_full (hr.mono (by decide)) pass0) pa_nil))))) (pa_cons (pe_lst (pa_cons (pe_un un_neg pe_int) (pa_cons (pe_un un_neg pe_int) (pa_cons (pe_lst pa_nil) (pa_cons pe_bl pa_nil))))) pa_nil))))) (pss_one (ps_ret pe_bl)) pss_nil)))))))))))))))))))))))))))
      (pss_one (ps_ret pe_bl)))))) hS hTP (fun HS Z D _ hSc hTZ kk => ?_) k
    walk_at "gon"
    refine ⟨sc, ns, rfl, hSc, hl, fun d H1 A1 hd D1 => ?_⟩
    have Z1 : TZ _ Z H1 := hTZ.aft0 A1
    have N1 : Now K (some d) [d] H1 H1 [] [] := .startD D1 (by simp)
    clear hTZ
    walk_at "kn"
    refine ⟨rfl, fun H2 A2 => ?_⟩
    have N2 := N1.pure A2
    have Z2 := Z1.aft0 A2
    clear N1 Z1
    walk_at "kn"
    have N3 := N2.reb
    clear N2
    refine c_forR (by decide) (fun i σ H' => ∃ (x2 x3 x4 x5 x6 x7 x8 x9 x10 x11 x12 x13 x14 : Option V), σ = [some (.ref sc), some (.ref d), x2, x3, x4, x5, x6, x7, x8, x9, x10, x11, x12, x13, x14] ∧ Now K (some d) [d] H' H' [] [] ∧ TZ [(TP, (envOfC "law" (defScope s_law) s.heap.objs.size f (.ref c)).qual ++ "<lambda>")] Z H') ⟨_, _, _, _, _, _, _, _, _, _, _, _, _, rfl, N3, Z2⟩ ?_ ?_
    · clear N3 Z2
      rintro i σ H7 hi ⟨y2, y3, y4, y5, y6, y7, y8, y9, y10, y11, y12, y13, y14, rfl, N0, Zn⟩
      walk_at "kn"
      refine ⟨d, rfl, (N0.dc d rfl).1, fun st m w' l a H3 A3 D3 ht hok => ?_⟩
      have N1 := (N0.roll A3 D3).moreT ht
      walk_at "kn"
      refine ⟨d, st, m, w', l, a, rfl, D3, ht, hok, fun p b mb wb lb ab z H4 A4 D4 hp hb hbad => ?_⟩
      have N2 := ((N1.roll A4 D4).moreT hb).moreT hp
      have Za : TL _ Z [] H4 := ⟨Zn.aft N0 (by simp) N2.af, by simp⟩
      clear N1 N0 Zn
      walk_at "kn"
      refine ⟨Za.tz.t, fun f1 Hl1 F1 e1 t1 n1 hf1 hc1 cp1 L1 => ?_⟩
      have Na1 := N2.extN e1
      have Ya1 := ((Za.ext e1 t1).add hf1).add hc1
      clear N2 Za
      walk_at "kn"
      rename_i pw Hb1 Nb1
      have Yb1 := Ya1.aft Na1 (by simp [plainO]) Nb1.af
      clear Ya1 Na1
      refine ⟨Yb1.tz.t, fun f2 Hl2 F2 e2 t2 n2 hf2 hc2 cp2 L2 => ?_⟩
      have Na2 := Nb1.extN e2
      have Ya2 := ((Yb1.ext e2 t2).add hf2).add hc2
      clear Nb1 Yb1
      walk_at "kn"
      refine g_app0 Na2 (by simp) fun Hb2 Nb2 => ?_
      walk_at "kn"
      have Yb2 := Ya2.aft Na2 (by simp [plainO]) Nb2.af
      clear Ya2 Na2
      refine ⟨Yb2.tz.t, fun f3 Hl3 F3 e3 t3 n3 hf3 hc3 cp3 L3 => ?_⟩
      have Na3 := Nb2.extN e3
      have Ya3 := ((Yb2.ext e3 t3).add hf3).add hc3
      clear Nb2 Yb2
      walk_at "kn"
      refine g_app0 Na3 (by simp) fun Hb3 Nb3 => ?_
      walk_at "kn"
      have Yb3 := Ya3.aft Na3 (by simp [plainO]) Nb3.af
      clear Ya3 Na3
      refine ⟨Yb3.tz.t, fun f4 Hl4 F4 e4 t4 n4 hf4 hc4 cp4 L4 => ?_⟩
      have Na4 := Nb3.extN e4
      have Ya4 := ((Yb3.ext e4 t4).add hf4).add hc4
      clear Nb3 Yb3
      walk_at "kn"
      refine g_app0 Na4 (by simp) fun Hb4 Nb4 => ?_
      walk_at "kn"
      have Yb4 := Ya4.aft Na4 (by simp [plainO]) Nb4.af
      clear Ya4 Na4
      refine ⟨Yb4.tz.t, fun f5 Hl5 F5 e5 t5 n5 hf5 hc5 cp5 L5 => ?_⟩
      have Na5 := Nb4.extN e5
      have Ya5 := ((Yb4.ext e5 t5).add hf5).add hc5
      clear Nb4 Yb4
      walk_at "kn"
      refine g_app0 Na5 (by simp) fun Hb5 Nb5 => ?_
      walk_at "kn"
      have Yb5 := Ya5.aft Na5 (by simp [plainO]) Nb5.af
      clear Ya5 Na5
      refine ⟨Yb5.tz.t, fun f6 Hl6 F6 e6 t6 n6 hf6 hc6 cp6 L6 => ?_⟩
      have Na6 := Nb5.extN e6
      have Ya6 := ((Yb5.ext e6 t6).add hf6).add hc6
      clear Nb5 Yb5
      walk_at "kn"
      refine g_app0 Na6 (by simp) fun Hb6 Nb6 => ?_
      have Yb6 := Ya6.aft Na6 (by simp [plainO]) Nb6.af
      clear Ya6 Na6
      show tSeq _ _ _ _ _
      have hlate0 : ∃ r : Bool, inV (.str z) [.str "late", .str "ahead"] = r ∧ (r = true → BadS 2 0 lb ab z) := by
        rcases hbad with ⟨_, rfl⟩ | ⟨_, _, rfl⟩ | ⟨_, _, g, rfl⟩ | ⟨_, _, g1, g, rfl⟩
        · exact ⟨false, by decide +kernel, fun h => by cases h⟩
        · exact ⟨false, by decide +kernel, fun h => by cases h⟩
        · exact ⟨true, by decide +kernel, fun _ => .inr (.inr (.inl ⟨by omega, by omega, g, rfl⟩))⟩
        · exact ⟨true, by decide +kernel, fun _ => .inr (.inr (.inr ⟨by omega, by omega, g1, g, rfl⟩))⟩
      refine k_seq (k_cut (R := fun σ H' => ∃ fs : List V, σ = [some (.ref sc), some (.ref d), some (.int (i : Int)), some (.ref st), some (.ref b), some (.str z), some (.ref pw), y7, y8, y9, y10, y11, y12, y13, y14] ∧ Now K (some d) (d :: [pw]) H' H' [⟨true, pw, .lst fs⟩] [(p, [.ref b, .str z]), (b, StV mb wb lb ab), (st, StV m w' l a)] ∧ TZ [(TP, (envOfC "law" (defScope s_law) s.heap.objs.size f (.ref c)).qual ++ "<lambda>")] Z H' ∧
        ∀ v ∈ fs, ∃ f', v = .ref f' ∧ Gives (cxOf CX0 P w K mg base ["_law_script", "_law_d", "_law_turn", "_law_setting_here", "_law_bad_here", "_law_word", "_law_works", "_law_work", "_law_far", "_law_odd", "_law_more", "_law_mark", "_law_bits_here", "_law_ear", "_law_mouth"] "law" (defScope s_law) f (.ref c) A outer s H E).nox 6 [some (.ref sc), some (.ref d), some (.int (i : Int)), some (.ref st), some (.ref b), some (.str z), some (.ref pw), y7, y8, y9, y10, y11, y12, y13, y14] c1 c2 c3 c4 c5 c6 cb f' [.str "setting", .str z] H') ?_ ?_)
      · rintro σ H8 ⟨fs, rfl, N0, Zn, hg⟩
        clear hlate0
        have okz : [(.inr "setting" : Sc), .inr z].all scOk = true := by
          rcases hbad with ⟨_, rfl⟩ | ⟨_, _, rfl⟩ | ⟨_, _, _, rfl⟩ | ⟨_, _, _, _, rfl⟩ <;> decide +kernel
        walk_at "kn"
        refine c_noneT (zs := [.inr "setting", .inr z]) (.of (N0.cell 0 rfl)) (fun k h => by walk_at "kn"; exact h) (fun x => rfl) (fun x H' k h => by walk_at "kn"; exact h) (fun x H' R A h => ?_) okz hg (fun p9 H9 hn A9 h9 => ?_)
        · have N' : Now K none [] H' H' [] [] := .start0 (by simp)
          walk_at "kn"
          rename_i p2 H2 N2
          exact h _ _ N2.af (N2.tup 0 rfl)
        have N9 := (Now.grow N0 (N0.pure A9) (fun _ h => .inl h) hn h9 trivial).reb
        have Z9 := Zn.aft0 A9
        clear hg Zn okz N0 A9 hn h9
        walk_at "kn"
        rename_i p10 H10 N10
        refine g_neL (m := []) (n := []) (.of (N10.cell 1 rfl)) (.of (N10.cell 0 rfl)) ?_
        rw [decide_eq_false (fun q => q rfl)]
        have ZA := Z9.aft N9 (by simp [plainO]) N10.af
        have NA := ((N10.sub [] (by simp) (by simp)).subT [(st, StV m w' l a)] (by simp)).reb
        clear N9 N10 Z9
        walk_at "kn"
        rename_i v0 Hx Nx b1 b2 p11 Hy Ny vi Hz Nz g1 g2 vo hvo p12 Hw Nw vj H12 N12 g3 g4 vm hvm
        have ZB := ZA.aft NA (by simp) N12.af
        clear Nx Ny Nz Nw NA ZA
        refine k_lam ZB.t fun H13 e13 T13 => k_toldx ?_
        have N13 := N12.extN e13
        have ZC := ZB.ext e13 T13
        clear N12 ZB
        walk_at "kn"
        refine g_make N13 fun x dx H14 hx N14 => ?_
        refine ⟨x, vo, vm, rfl, .inl ⟨by omega, fun dd H15 A15 hdd => ⟨[.str "setting", .str "room"], ⟨c1, 1, rfl, ko1, .inr ⟨dd, _, .str "room", rfl, hdd, rfl, .inl ⟨rfl, rfl, rfl⟩⟩⟩, fun q H16 A16 hq => ?_⟩⟩⟩
        have N16 := ((N14.pure A15).pure A16).moreT hq
        clear N14
        walk_at "kn"
        rename_i q2 H17 N17
        refine g_neSc (m := [.inr "setting", .inr "room"]) (n := [.inr "setting", .inr "room"]) (by decide +kernel) (by decide +kernel) (.of (N17.tup 1 rfl)) (.of (N17.tup 0 rfl)) ?_
        rw [decide_eq_false (fun q => q rfl)]
        have ZD := ZC.aft N13 (by simp [plainO]) N17.af
        have NB := ((N17.sub [] (by simp) (by simp)).subT [(st, StV m w' l a)] (by simp)).reb
        clear N13 N16 N17 ZC
        walk_at "kn"
        refine k_lam ZD.t fun H23 e23 T23 => k_toldx ?_
        have N23 := NB.extN e23
        have ZE := ZD.ext e23 T23
        clear NB ZD
        walk_at "kn"
        refine g_make N23 fun x2 dx2 H24 hx2 N24 => ?_
        refine ⟨x2, 8, vm, rfl, .inr ⟨by omega, by omega, fun dd H25 A25 hdd => ⟨[.str "setting", .str "wait"], ⟨c1, 1, rfl, ko1, .inr ⟨dd, _, .str "wait", rfl, hdd, rfl, .inl ⟨rfl, rfl, rfl⟩⟩⟩, fun q H26 A26 hq => ?_⟩⟩⟩
        have N26 := ((N24.pure A25).pure A26).moreT hq
        clear N24
        walk_at "kn"
        rename_i q3 H27 N27
        refine g_neSc (m := [.inr "setting", .inr "wait"]) (n := [.inr "setting", .inr "wait"]) (by decide +kernel) (by decide +kernel) (.of (N27.tup 1 rfl)) (.of (N27.tup 0 rfl)) ?_
        rw [decide_eq_false (fun q => q rfl)]
        have ZF := ZE.aft N23 (by simp [plainO]) N27.af
        have NC := ((N27.sub [] (by simp) (by simp)).subT [(st, StV m w' l a)] (by simp)).reb
        clear N23 N26 N27 ZE
        walk_at "kn"
        rename_i p14 Hq Nq vk H28 N28 b3 b4 mk hmk
        have hbadm : ¬ (0 ≤ mk ∧ mk < m) := by
          unfold OkS at hok
          omega
        clear hmk Nq
        refine ⟨d, st, m, w', l, a, rfl, (N28.dc d rfl).1, N28.tup 0 rfl, hok, fun pb bs H29 A29 D29 hpb hnb hlen => ?_⟩
        have N29 := ((N28.sub [] (by simp) (by simp)).roll A29 D29).moreT hpb
        clear N28
        walk_at "kn"
        refine g_eInit N29 (N29.tup 1 rfl) hok fun ep edx eml H30 N30 => ?_
        clear N29
        walk_at "kn"
        refine g_mInit N30 (N30.tup 1 rfl) hok fun mp mdx mcl H31 N31 => ?_
        clear N30
        walk_at "kn"
        rename_i p15 H32 N32
        have N33 := N32.subT [(pb, bs.map V.int), (st, StV m w' l a)] (by simp)
        have Za2 : TL _ Z [] H32 := ⟨ZF.aft NC (by simp) N33.af, by simp⟩
        clear N31 N32 ZF NC
        refine ⟨Za2.tz.t, fun f1 Hm1 F1 e1 t1 n1 hf1 hc1 cp1 L1 => ?_⟩
        have N34 := N33.extN e1
        have Zb2 := ((Za2.ext e1 t1).add hf1).add hc1
        clear N33 Za2
        walk_at "kn"
        rename_i pw2 H35 N35
        have Zc2 := Zb2.aft N34 (by simp [plainO]) N35.af
        clear N34 Zb2
        refine ⟨Zc2.tz.t, fun f2 Hm2 F2 e2 t2 n2 hf2 hc2 cp2 L2 => ?_⟩
        have N36 := N35.extN e2
        have Zd2 := ((Zc2.ext e2 t2).add hf2).add hc2
        clear N35 Zc2
        walk_at "kn"
        refine g_app0 N36 (by simp) fun H37 N37 => ?_
        walk_at "kn"
        have Ze2 := Zd2.aft N36 (by simp [plainO]) N37.af
        clear N36 Zd2
        refine ⟨Ze2.tz.t, fun f3 Hm3 F3 e3 t3 n3 hf3 hc3 cp3 L3 => ?_⟩
        have N38 := N37.extN e3
        have Zf2 := ((Ze2.ext e3 t3).add hf3).add hc3
        clear N37 Ze2
        walk_at "kn"
        refine g_app0 N38 (by simp) fun H39 N39' => ?_
        have Zg2 := Zf2.aft N38 (by simp [plainO]) N39'.af
        have N39 := N39'.reb
        clear N39' N38 Zf2
        have hold : ∀ H'', Aft [] H39 H'' → CelOk H'' (mouthC CM mp mdx mcl st ⟨m, w', l, a, 0, -1, []⟩) ∧ CelOk H'' (earC CE ep edx eml st ⟨m, w', l, a, -1, []⟩) ∧ H'' st = some (.tup (StV m w' l a)) ∧ H'' pb = some (.tup (bs.map V.int)) := fun H'' A => by
          have q := N39.pure A
          exact ⟨(q.sel [1, 2] rfl (by decide)).ok, (q.sel [3, 4] rfl (by decide)).ok, q.tup 1 rfl, q.tup 0 rfl⟩
        have G1 : Gives (cxOf CX0 P w K mg base ["_law_script", "_law_d", "_law_turn", "_law_setting_here", "_law_bad_here", "_law_word", "_law_works", "_law_work", "_law_far", "_law_odd", "_law_more", "_law_mark", "_law_bits_here", "_law_ear", "_law_mouth"] "law" (defScope s_law) f (.ref c) A outer s H E).nox 6 [some (.ref sc), some (.ref d), some (.int (i : Int)), some (.ref st), some (.ref b), some (.str z), some (.ref pw2), y7, some (.int (1 + v0)), some (.int vo), some (.int vm), some (.int mk), some (.ref pb), some (.ref ep), some (.ref mp)] c1 c2 c3 c4 c5 c6 cb f1 [.str "mark"] H39 := by
          refine gives_of (Zg2.l _ (List.mem_of_getElem? (i := 5) (by rfl))).1 (Zg2.l _ (List.mem_of_getElem? (i := 4) (by rfl))).1 cp1 L1 (fun _ _ => trivial) (fun H' Q' E' A' q => ?_)
          obtain ⟨o1, o2, o3, o4⟩ := hold H' A'
          have N' : Now K none [] H' H' ((earC CE ep edx eml st ⟨m, w', l, a, -1, []⟩).map Cel.ro) [] := .read o2 (by simp)
          walk_at "kn"
          exact ⟨ep, edx, eml, st, _, mk, w', l, a, rfl, o2, o3, hbadm, q _ _ _ (refm ko2) .refl⟩
        have G2 : Gives (cxOf CX0 P w K mg base ["_law_script", "_law_d", "_law_turn", "_law_setting_here", "_law_bad_here", "_law_word", "_law_works", "_law_work", "_law_far", "_law_odd", "_law_more", "_law_mark", "_law_bits_here", "_law_ear", "_law_mouth"] "law" (defScope s_law) f (.ref c) A outer s H E).nox 6 [some (.ref sc), some (.ref d), some (.int (i : Int)), some (.ref st), some (.ref b), some (.str z), some (.ref pw2), y7, some (.int (1 + v0)), some (.int vo), some (.int vm), some (.int mk), some (.ref pb), some (.ref ep), some (.ref mp)] c1 c2 c3 c4 c5 c6 cb f2 [.str "mark"] H39 := by
          refine gives_of (Zg2.l _ (List.mem_of_getElem? (i := 3) (by rfl))).1 (Zg2.l _ (List.mem_of_getElem? (i := 2) (by rfl))).1 cp2 L2 (fun _ _ => trivial) (fun H' Q' E' A' q => ?_)
          obtain ⟨o1, o2, o3, o4⟩ := hold H' A'
          have N' : Now K none [] H' H' ((mouthC CM mp mdx mcl st ⟨m, w', l, a, 0, -1, []⟩).map Cel.ro) [] := .read o1 (by simp)
          walk_at "kn"
          rename_i qq H8 N8
          obtain ⟨o1, o2, o3, o4⟩ := hold H8 (A'.trans N8.af)
          exact ⟨mp, qq, mdx, mcl, st, _, rfl, o1, ⟨l, a, o3⟩, pb, mk, bs, N8.tup 0 rfl, o4, by omega, .inl ⟨hbadm, fun H9 A9 => q _ _ _ (refm ko2) (N8.af.trans A9)⟩⟩
        have G3 : Gives (cxOf CX0 P w K mg base ["_law_script", "_law_d", "_law_turn", "_law_setting_here", "_law_bad_here", "_law_word", "_law_works", "_law_work", "_law_far", "_law_odd", "_law_more", "_law_mark", "_law_bits_here", "_law_ear", "_law_mouth"] "law" (defScope s_law) f (.ref c) A outer s H E).nox 6 [some (.ref sc), some (.ref d), some (.int (i : Int)), some (.ref st), some (.ref b), some (.str z), some (.ref pw2), y7, some (.int (1 + v0)), some (.int vo), some (.int vm), some (.int mk), some (.ref pb), some (.ref ep), some (.ref mp)] c1 c2 c3 c4 c5 c6 cb f3 [.str "mark"] H39 := by
          refine gives_of (Zg2.l _ (List.mem_of_getElem? (i := 1) (by rfl))).1 (Zg2.l _ (List.mem_of_getElem? (i := 0) (by rfl))).1 cp3 L3 (fun _ _ => trivial) (fun H' Q' E' A' q => ?_)
          have N' : Now K none [] H' H' [] [] := .start0 (by simp)
          walk_at "kn"
          rename_i qq H8 N8
          obtain ⟨o1, o2, o3, o4⟩ := hold H8 (A'.trans N8.af)
          exact ⟨st, qq, m, w', l, a, rfl, o3, hok, pb, mk, bs, N8.tup 0 rfl, o4, by omega, .inl ⟨hbadm, fun H9 A9 => q _ _ _ (refm ko2) (N8.af.trans A9)⟩⟩
        walk_at "kn"
        show Lv.tNone _ _ _ _ [some (.ref sc), some (.ref d), some (.int (i : Int)), some (.ref st), some (.ref b), some (.str z), some (.ref pw2), y7, some (.int (1 + v0)), some (.int vo), some (.int vm), some (.int mk), some (.ref pb), some (.ref ep), some (.ref mp)] _ _
        refine c_noneT (X := (cxOf CX0 P w K mg base ["_law_script", "_law_d", "_law_turn", "_law_setting_here", "_law_bad_here", "_law_word", "_law_works", "_law_work", "_law_far", "_law_odd", "_law_more", "_law_mark", "_law_bits_here", "_law_ear", "_law_mouth"] "law" (defScope s_law) f (.ref c) A outer s H E).nox) (σ := [some (.ref sc), some (.ref d), some (.int (i : Int)), some (.ref st), some (.ref b), some (.str z), some (.ref pw2), y7, some (.int (1 + v0)), some (.int vo), some (.int vm), some (.int mk), some (.ref pb), some (.ref ep), some (.ref mp)]) (vs := [7]) (j := 7) (tl := tVar 6) (ta := tCons (tVar 7) tNil) (zs := [.inr "mark"]) (.of (N39.cell 0 rfl)) (fun k h => by walk_at "kn"; exact h) (fun x => rfl) (fun x H' k h => by walk_at "kn"; exact h) (fun x H' R A h => ?_) (by decide +kernel) (fun v hv => ?_) (fun p16 H40 hn A40 h40 => ?_)
        · have N' : Now K none [] H' H' [] [] := .start0 (by simp)
          walk_at "kn"
          rename_i p2 H2 N2
          exact h _ _ N2.af (N2.tup 0 rfl)
        · simp only [List.mem_append, List.mem_cons, List.not_mem_nil, or_false] at hv
          rcases hv with (rfl | rfl) | rfl
          · exact ⟨_, rfl, G1⟩
          · exact ⟨_, rfl, G2⟩
          · exact ⟨_, rfl, G3⟩
        have N41 := (Now.grow N39 (N39.pure A40) (fun _ h => .inl h) hn h40 trivial).reb
        have ZH := Zg2.tz.aft0 A40
        clear N39 Zg2 hn A40 h40 G1 G2 G3 hold hf1 hf2 hf3 hc1 hc2 hc3 L1 L2 L3
        walk_at "kn"
        rename_i p17 H42 N42
        refine g_neL (m := []) (n := []) (.of (N42.cell 1 rfl)) (.of (N42.cell 0 rfl)) ?_
        rw [decide_eq_false (fun q => q rfl)]
        have ZI := ZH.aft N41 (by simp [plainO]) N42.af
        have N43 := (N42.sel [3, 4, 5, 6] (l' := mouthC CM mp mdx mcl st ⟨m, w', l, a, 0, -1, []⟩ ++ (earC CE ep edx eml st ⟨m, w', l, a, -1, []⟩ ++ [])) rfl (by decide)).reb
        clear N41 N42 ZH
        walk_at "kn"
        have Za3 : TL _ Z [] H42 := ⟨ZI, by simp⟩
        clear ZI
        refine ⟨Za3.tz.t, fun f1 Hk1 F1 e1 t1 n1 hf1 hc1 cp1 L1 => ?_⟩
        have N44 := N43.extN e1
        have Zb3 := ((Za3.ext e1 t1).add hf1).add hc1
        clear N43 Za3
        walk_at "kn"
        refine fun dv hdv => ⟨(Zb3.aft0 (Aft.refl.new hdv)).tz.t, fun f2 Hk2 F2 e2 t2 n2 hf2 hc2 cp2 L2 => ?_⟩
        have N45 := (N44.newT (xs := [.int 0]) hdv).extN e2
        have Zc3 := (((Zb3.aft0 (Aft.refl.new hdv)).ext e2 t2).add hf2).add hc2
        clear N44 Zb3
        walk_at "kn"
        refine fun dw hdw => ⟨(Zc3.aft0 (Aft.refl.new hdw)).tz.t, fun f3 Hk3 F3 e3 t3 n3 hf3 hc3 cp3 L3 => ?_⟩
        have N46 := (N45.newT (xs := [.int 0]) hdw).extN e3
        have Zd3 := (((Zc3.aft0 (Aft.refl.new hdw)).ext e3 t3).add hf3).add hc3
        clear N45 Zc3
        walk_at "kn"
        rename_i pw3 H47 N47
        have Ze3 := Zd3.aft N46 (by simp [plainO]) N47.af
        have N48 := N47.reb
        clear N46 N47 Zd3
        have hm0 : 0 ≤ (0 : Int) ∧ (0 : Int) < m := by
          unfold OkS at hok
          omega
        have hold : ∀ H'', Aft [] H47 H'' → CelOk H'' (mouthC CM mp mdx mcl st ⟨m, w', l, a, 0, -1, []⟩) ∧ CelOk H'' (earC CE ep edx eml st ⟨m, w', l, a, -1, []⟩) ∧ H'' st = some (.tup (StV m w' l a)) ∧ H'' pb = some (.tup (bs.map V.int)) ∧ H'' dv = some (.tup [.int 0]) ∧ H'' dw = some (.tup [.int 0]) := fun H'' A => by
          have q := N48.pure A
          exact ⟨(q.sel [1, 2] rfl (by decide)).ok, (q.sel [3, 4] rfl (by decide)).ok, q.tup 3 rfl, q.tup 2 rfl, q.tup 1 rfl, q.tup 0 rfl⟩
        have G1 : Gives (cxOf CX0 P w K mg base ["_law_script", "_law_d", "_law_turn", "_law_setting_here", "_law_bad_here", "_law_word", "_law_works", "_law_work", "_law_far", "_law_odd", "_law_more", "_law_mark", "_law_bits_here", "_law_ear", "_law_mouth"] "law" (defScope s_law) f (.ref c) A outer s H E).nox 6 [some (.ref sc), some (.ref d), some (.int (i : Int)), some (.ref st), some (.ref b), some (.str z), some (.ref pw3), y7, some (.int (1 + v0)), some (.int vo), some (.int vm), some (.int mk), some (.ref pb), some (.ref ep), some (.ref mp)] c1 c2 c3 c4 c5 c6 cb f1 [.str "bits"] H47 := by
          refine gives_of (Ze3.l _ (List.mem_of_getElem? (i := 5) (by rfl))).1 (Ze3.l _ (List.mem_of_getElem? (i := 4) (by rfl))).1 cp1 L1 (fun _ _ => trivial) (fun H' Q' E' A' q => ?_)
          obtain ⟨o1, o2, o3, o4, _⟩ := hold H' A'
          have N' : Now K none [] H' H' ((mouthC CM mp mdx mcl st ⟨m, w', l, a, 0, -1, []⟩).map Cel.ro) [] := .read o1 (by simp)
          walk_at "kn"
          rename_i qq H8 N8
          obtain ⟨o1, o2, o3, o4, _⟩ := hold H8 (A'.trans N8.af)
          exact ⟨mp, qq, mdx, mcl, st, _, rfl, o1, ⟨l, a, o3⟩, pb, 0, bs, N8.tup 0 rfl, o4, by omega, .inr ⟨hm0, hnb, fun H9 A9 => q _ _ _ (refb ko3) (N8.af.trans A9)⟩⟩
        have G2 : Gives (cxOf CX0 P w K mg base ["_law_script", "_law_d", "_law_turn", "_law_setting_here", "_law_bad_here", "_law_word", "_law_works", "_law_work", "_law_far", "_law_odd", "_law_more", "_law_mark", "_law_bits_here", "_law_ear", "_law_mouth"] "law" (defScope s_law) f (.ref c) A outer s H E).nox 6 [some (.ref sc), some (.ref d), some (.int (i : Int)), some (.ref st), some (.ref b), some (.str z), some (.ref pw3), y7, some (.int (1 + v0)), some (.int vo), some (.int vm), some (.int mk), some (.ref pb), some (.ref ep), some (.ref mp)] c1 c2 c3 c4 c5 c6 cb f2 [.str "bits"] H47 := by
          refine gives_of (Ze3.l _ (List.mem_of_getElem? (i := 3) (by rfl))).1 (Ze3.l _ (List.mem_of_getElem? (i := 2) (by rfl))).1 cp2 L2 (fun H' A' => (hold H' A').2.2.2.2.1) (fun H' Q' E' A' q => ?_)
          have N' : Now K none [] H' H' [] [] := .start0 (by simp)
          walk_at "kn"
          rename_i qq H8 N8
          obtain ⟨o1, o2, o3, o4, _⟩ := hold H8 (A'.trans N8.af)
          exact ⟨st, qq, m, w', l, a, rfl, o3, hok, pb, 0, bs, N8.tup 0 rfl, o4, by omega, .inr ⟨hm0, hnb, fun H9 A9 => q _ _ _ (refb ko3) (N8.af.trans A9)⟩⟩
        have G3 : Gives (cxOf CX0 P w K mg base ["_law_script", "_law_d", "_law_turn", "_law_setting_here", "_law_bad_here", "_law_word", "_law_works", "_law_work", "_law_far", "_law_odd", "_law_more", "_law_mark", "_law_bits_here", "_law_ear", "_law_mouth"] "law" (defScope s_law) f (.ref c) A outer s H E).nox 6 [some (.ref sc), some (.ref d), some (.int (i : Int)), some (.ref st), some (.ref b), some (.str z), some (.ref pw3), y7, some (.int (1 + v0)), some (.int vo), some (.int vm), some (.int mk), some (.ref pb), some (.ref ep), some (.ref mp)] c1 c2 c3 c4 c5 c6 cb f3 [.str "bits"] H47 := by
          refine gives_of (Ze3.l _ (List.mem_of_getElem? (i := 1) (by rfl))).1 (Ze3.l _ (List.mem_of_getElem? (i := 0) (by rfl))).1 cp3 L3 (fun H' A' => (hold H' A').2.2.2.2.2) (fun H' Q' E' A' q => ?_)
          obtain ⟨o1, o2, o3, o4, _⟩ := hold H' A'
          have N' : Now K none [] H' H' ((earC CE ep edx eml st ⟨m, w', l, a, -1, []⟩).map Cel.ro) [] := .read o2 (by simp)
          walk_at "kn"
          exact ⟨ep, edx, eml, st, _, rfl, o2, ⟨hok, by show (-1 : Int) ≤ -1; omega, List.nodup_nil, fun x hx => by cases hx⟩, fun h => absurd (show (0 : Int) ≤ -1 from h) (by omega), fun _ => q _ _ _ (refb ko3) .refl⟩
        show Lv.tNone _ _ _ _ [some (.ref sc), some (.ref d), some (.int (i : Int)), some (.ref st), some (.ref b), some (.str z), some (.ref pw3), y7, some (.int (1 + v0)), some (.int vo), some (.int vm), some (.int mk), some (.ref pb), some (.ref ep), some (.ref mp)] _ _
        refine c_noneT (X := (cxOf CX0 P w K mg base ["_law_script", "_law_d", "_law_turn", "_law_setting_here", "_law_bad_here", "_law_word", "_law_works", "_law_work", "_law_far", "_law_odd", "_law_more", "_law_mark", "_law_bits_here", "_law_ear", "_law_mouth"] "law" (defScope s_law) f (.ref c) A outer s H E).nox) (σ := [some (.ref sc), some (.ref d), some (.int (i : Int)), some (.ref st), some (.ref b), some (.str z), some (.ref pw3), y7, some (.int (1 + v0)), some (.int vo), some (.int vm), some (.int mk), some (.ref pb), some (.ref ep), some (.ref mp)]) (vs := [7]) (j := 7) (tl := tVar 6) (ta := tCons (tVar 7) tNil) (zs := [.inr "bits"]) (.of (N48.cell 0 rfl)) (fun k h => by walk_at "kn"; exact h) (fun x => rfl) (fun x H' k h => by walk_at "kn"; exact h) (fun x H' R A h => ?_) (by decide +kernel) (fun v hv => ?_) (fun p18 H50 hn A50 h50 => ?_)
        · have N' : Now K none [] H' H' [] [] := .start0 (by simp)
          walk_at "kn"
          rename_i p2 H2 N2
          exact h _ _ N2.af (N2.tup 0 rfl)
        · simp only [List.mem_cons, List.not_mem_nil, or_false] at hv
          rcases hv with rfl | rfl | rfl
          · exact ⟨_, rfl, G1⟩
          · exact ⟨_, rfl, G2⟩
          · exact ⟨_, rfl, G3⟩
        have N51 := (Now.grow N48 (N48.pure A50) (fun _ h => .inl h) hn h50 trivial).reb
        have ZJ := Ze3.tz.aft0 A50
        clear N48 Ze3 hn A50 h50 G1 G2 G3 hold hf1 hf2 hf3 hc1 hc2 hc3 L1 L2 L3
        walk_at "kn"
        rename_i p19 H52 N52
        refine g_neL (m := []) (n := []) (.of (N52.cell 1 rfl)) (.of (N52.cell 0 rfl)) ?_
        rw [decide_eq_false (fun q => q rfl)]
        have ZK := ZJ.aft N51 (by simp [plainO]) N52.af
        have N53 := (N52.sel [3, 4, 5, 6] (l' := mouthC CM mp mdx mcl st ⟨m, w', l, a, 0, -1, []⟩ ++ (earC CE ep edx eml st ⟨m, w', l, a, -1, []⟩ ++ [])) rfl (by decide)).reb
        clear N51 N52 ZJ
        walk_at "kn"
        refine g_eLast N53.turn ?_
        walk_at "kn"
        refine g_mLast N53 ?_
        walk_at "kn"
        refine g_mSure N53 fun ls H54 N54 => ?_
        walk_at "kn"
        refine g_mFull (N54.sel [1, 2, 3, 4, 0] (l' := mouthC CM mp mdx mcl st ⟨m, w', l, a, 0, -1, []⟩ ++ (earC CE ep edx eml st ⟨m, w', l, a, -1, []⟩ ++ [⟨true, ls, .lst []⟩])) rfl (by decide)) ?_
        rw [show MS.full ⟨m, w', l, a, 0, -1, []⟩ = false from decide_eq_false (by show ¬ ((0 : Int) - -1 > a); unfold OkS at hok; omega)]
        walk_at "kn"
        rename_i pa1 H55 N55 pe1 H56 N56 pb1 H57 N57
        refine g_like (m := 3) (d := .list [.int (-1), .int (-1), .list [], .bool false]) (.lst (.of (N57.cell 2 rfl)) (.cons (.int _) (.cons (.int _) (.cons (.lst (.of (N57.cell 3 rfl)) .nil) (.cons (.bl _) .nil))))) (.lst (.of (N57.cell 0 rfl)) (.cons (.int _) (.cons (.int _) (.cons (.lst (.of (N57.cell 1 rfl)) .nil) (.cons (.bl _) .nil))))) ?_ fun H58 A58 => ?_
        · refine ⟨by simp, fun e he => ?_⟩
          simp only [List.mem_cons, List.not_mem_nil, or_false] at he
          rcases he with rfl | rfl | rfl | rfl
          · trivial
          · trivial
          · exact ⟨by simp, fun e he => by cases he⟩
          · trivial
        have N58 := N57.pure A58
        walk_at "kn"
        exact ⟨_, _, _, _, _, _, _, _, _, _, _, _, _, rfl, ((N58.sub [] (by simp) (by simp)).subT [] (by simp)).reb, ZK.aft N53 (by simp [plainO]) N58.af⟩
      · intro nx' fin
        obtain ⟨rr, hrr, hlate⟩ := hlate0
        have NR := Nb6.reb
        clear Nb6
        walk_at "kn"
        rename_i pt H20 N20
        have Y20 := Yb6.aft NR (by simp [plainO]) (N20.af)
        clear NR Yb6
        refine g_inW (r := rr) (ws := [.str "late", .str "ahead"]) (.inr (.of (N20.tup 0 rfl))) rfl hrr ?_
        cases rr with
        | false =>
          walk_at "kn"
          have NF := N20.subT [(p, [.ref b, .str z]), (b, StV mb wb lb ab), (st, StV m w' l a)] (by simp)
          have hbb := NF.tup 1 rfl
          have G1 : Gives (cxOf CX0 P w K mg base ["_law_script", "_law_d", "_law_turn", "_law_setting_here", "_law_bad_here", "_law_word", "_law_works", "_law_work", "_law_far", "_law_odd", "_law_more", "_law_mark", "_law_bits_here", "_law_ear", "_law_mouth"] "law" (defScope s_law) f (.ref c) A outer s H E).nox 6 [some (.ref sc), some (.ref d), some (.int (i : Int)), some (.ref st), some (.ref b), some (.str z), some (.ref pw), y7, y8, y9, y10, y11, y12, y13, y14] c1 c2 c3 c4 c5 c6 cb f1 [.str "setting", .str z] H20 := by
            refine gives_of (Y20.l _ (List.mem_of_getElem? (i := 11) (by rfl))).1 (Y20.l _ (List.mem_of_getElem? (i := 10) (by rfl))).1 cp1 L1 (fun _ _ => trivial) (fun H' Q' E' A' q => ?_)
            have N' : Now K none [] H' H' [] [(b, StV mb wb lb ab)] := .start0 (by simp [A'.t _ _ hbb])
            walk_at "kn"
            refine g_make N' fun x dx H8 hx N8 => ?_
            exact ⟨x, b, rfl, mb, wb, lb, ab, z, N8.tup 0 rfl, hbad, (refw ko1 q).keep N8.af⟩
          have G2 : Gives (cxOf CX0 P w K mg base ["_law_script", "_law_d", "_law_turn", "_law_setting_here", "_law_bad_here", "_law_word", "_law_works", "_law_work", "_law_far", "_law_odd", "_law_more", "_law_mark", "_law_bits_here", "_law_ear", "_law_mouth"] "law" (defScope s_law) f (.ref c) A outer s H E).nox 6 [some (.ref sc), some (.ref d), some (.int (i : Int)), some (.ref st), some (.ref b), some (.str z), some (.ref pw), y7, y8, y9, y10, y11, y12, y13, y14] c1 c2 c3 c4 c5 c6 cb f2 [.str "setting", .str z] H20 := by
            refine gives_of (Y20.l _ (List.mem_of_getElem? (i := 9) (by rfl))).1 (Y20.l _ (List.mem_of_getElem? (i := 8) (by rfl))).1 cp2 L2 (fun _ _ => trivial) (fun H' Q' E' A' q => ?_)
            have N' : Now K none [] H' H' [] [(b, StV mb wb lb ab)] := .start0 (by simp [A'.t _ _ hbb])
            walk_at "kn"
            refine g_make N' fun x dx H8 hx N8 => ?_
            exact ⟨x, b, rfl, mb, wb, lb, ab, z, N8.tup 0 rfl, hbad, (refw ko1 q).keep N8.af⟩
          have G3 : Gives (cxOf CX0 P w K mg base ["_law_script", "_law_d", "_law_turn", "_law_setting_here", "_law_bad_here", "_law_word", "_law_works", "_law_work", "_law_far", "_law_odd", "_law_more", "_law_mark", "_law_bits_here", "_law_ear", "_law_mouth"] "law" (defScope s_law) f (.ref c) A outer s H E).nox 6 [some (.ref sc), some (.ref d), some (.int (i : Int)), some (.ref st), some (.ref b), some (.str z), some (.ref pw), y7, y8, y9, y10, y11, y12, y13, y14] c1 c2 c3 c4 c5 c6 cb f3 [.str "setting", .str z] H20 := by
            refine gives_of (Y20.l _ (List.mem_of_getElem? (i := 7) (by rfl))).1 (Y20.l _ (List.mem_of_getElem? (i := 6) (by rfl))).1 cp3 L3 (fun _ _ => trivial) (fun H' Q' E' A' q => ?_)
            have N' : Now K none [] H' H' [] [(b, StV mb wb lb ab)] := .start0 (by simp [A'.t _ _ hbb])
            walk_at "kn"
            rename_i pl H8 N8
            exact ⟨b, .ref pl, rfl, mb, wb, lb, ab, z, N8.tup 1 rfl, hbad, (refw ko1 q).keep N8.af⟩
          have G4 : Gives (cxOf CX0 P w K mg base ["_law_script", "_law_d", "_law_turn", "_law_setting_here", "_law_bad_here", "_law_word", "_law_works", "_law_work", "_law_far", "_law_odd", "_law_more", "_law_mark", "_law_bits_here", "_law_ear", "_law_mouth"] "law" (defScope s_law) f (.ref c) A outer s H E).nox 6 [some (.ref sc), some (.ref d), some (.int (i : Int)), some (.ref st), some (.ref b), some (.str z), some (.ref pw), y7, y8, y9, y10, y11, y12, y13, y14] c1 c2 c3 c4 c5 c6 cb f4 [.str "setting", .str z] H20 := by
            refine gives_of (Y20.l _ (List.mem_of_getElem? (i := 5) (by rfl))).1 (Y20.l _ (List.mem_of_getElem? (i := 4) (by rfl))).1 cp4 L4 (fun _ _ => trivial) (fun H' Q' E' A' q => ?_)
            have N' : Now K none [] H' H' [] [(b, StV mb wb lb ab)] := .start0 (by simp [A'.t _ _ hbb])
            walk_at "kn"
            exact ⟨b, rfl, mb, wb, lb, ab, z, N'.tup 0 rfl, hbad, refw ko1 q⟩
          have G5 : Gives (cxOf CX0 P w K mg base ["_law_script", "_law_d", "_law_turn", "_law_setting_here", "_law_bad_here", "_law_word", "_law_works", "_law_work", "_law_far", "_law_odd", "_law_more", "_law_mark", "_law_bits_here", "_law_ear", "_law_mouth"] "law" (defScope s_law) f (.ref c) A outer s H E).nox 6 [some (.ref sc), some (.ref d), some (.int (i : Int)), some (.ref st), some (.ref b), some (.str z), some (.ref pw), y7, y8, y9, y10, y11, y12, y13, y14] c1 c2 c3 c4 c5 c6 cb f5 [.str "setting", .str z] H20 := by
            refine gives_of (Y20.l _ (List.mem_of_getElem? (i := 3) (by rfl))).1 (Y20.l _ (List.mem_of_getElem? (i := 2) (by rfl))).1 cp5 L5 (fun _ _ => trivial) (fun H' Q' E' A' q => ?_)
            have N' : Now K none [] H' H' [] [(b, StV mb wb lb ab)] := .start0 (by simp [A'.t _ _ hbb])
            walk_at "kn"
            rename_i pl H8 N8
            exact ⟨b, .ref pl, rfl, mb, wb, lb, ab, z, N8.tup 2 rfl, hbad, (refw ko1 q).keep N8.af⟩
          have G6 : Gives (cxOf CX0 P w K mg base ["_law_script", "_law_d", "_law_turn", "_law_setting_here", "_law_bad_here", "_law_word", "_law_works", "_law_work", "_law_far", "_law_odd", "_law_more", "_law_mark", "_law_bits_here", "_law_ear", "_law_mouth"] "law" (defScope s_law) f (.ref c) A outer s H E).nox 6 [some (.ref sc), some (.ref d), some (.int (i : Int)), some (.ref st), some (.ref b), some (.str z), some (.ref pw), y7, y8, y9, y10, y11, y12, y13, y14] c1 c2 c3 c4 c5 c6 cb f6 [.str "setting", .str z] H20 := by
            refine gives_of (Y20.l _ (List.mem_of_getElem? (i := 1) (by rfl))).1 (Y20.l _ (List.mem_of_getElem? (i := 0) (by rfl))).1 cp6 L6 (fun _ _ => trivial) (fun H' Q' E' A' q => ?_)
            have N' : Now K none [] H' H' [] [(b, StV mb wb lb ab)] := .start0 (by simp [A'.t _ _ hbb])
            walk_at "kn"
            exact ⟨b, .str "x", rfl, mb, wb, lb, ab, z, N'.tup 0 rfl, hbad, refw ko1 q⟩
          refine fin _ _ ⟨_, rfl, NF.reb, Y20.tz, fun v hv => ?_⟩
          simp only [List.mem_append, List.mem_cons, List.not_mem_nil, or_false] at hv
          rcases hv with ((((rfl | rfl) | rfl) | rfl) | rfl) | rfl
          · exact ⟨_, rfl, G1⟩
          · exact ⟨_, rfl, G2⟩
          · exact ⟨_, rfl, G3⟩
          · exact ⟨_, rfl, G4⟩
          · exact ⟨_, rfl, G5⟩
          · exact ⟨_, rfl, G6⟩
        | true =>
          walk_at "kn"
          refine ⟨Y20.tz.t, fun f7 H21 F7 e7 t7 n7 hf7 hc7 cp7 L7 => ?_⟩
          have Na7 := N20.extN e7
          have Ya7 := ((Y20.ext e7 t7).add hf7).add hc7
          clear N20 Y20
          walk_at "kn"
          refine g_app0 Na7 (by simp) fun Hb7 Nb7 => ?_
          walk_at "kn"
          have Yb7 := Ya7.aft Na7 (by simp [plainO]) Nb7.af
          have NF := Nb7.subT [(p, [.ref b, .str z]), (b, StV mb wb lb ab), (st, StV m w' l a)] (by simp)
          have hbb := NF.tup 1 rfl
          have G1 : Gives (cxOf CX0 P w K mg base ["_law_script", "_law_d", "_law_turn", "_law_setting_here", "_law_bad_here", "_law_word", "_law_works", "_law_work", "_law_far", "_law_odd", "_law_more", "_law_mark", "_law_bits_here", "_law_ear", "_law_mouth"] "law" (defScope s_law) f (.ref c) A outer s H E).nox 6 [some (.ref sc), some (.ref d), some (.int (i : Int)), some (.ref st), some (.ref b), some (.str z), some (.ref pw), y7, y8, y9, y10, y11, y12, y13, y14] c1 c2 c3 c4 c5 c6 cb f1 [.str "setting", .str z] Hb7 := by
            refine gives_of (Yb7.l _ (List.mem_of_getElem? (i := 13) (by rfl))).1 (Yb7.l _ (List.mem_of_getElem? (i := 12) (by rfl))).1 cp1 L1 (fun _ _ => trivial) (fun H' Q' E' A' q => ?_)
            have N' : Now K none [] H' H' [] [(b, StV mb wb lb ab)] := .start0 (by simp [A'.t _ _ hbb])
            walk_at "kn"
            refine g_make N' fun x dx H8 hx N8 => ?_
            exact ⟨x, b, rfl, mb, wb, lb, ab, z, N8.tup 0 rfl, hbad, (refw ko1 q).keep N8.af⟩
          have G2 : Gives (cxOf CX0 P w K mg base ["_law_script", "_law_d", "_law_turn", "_law_setting_here", "_law_bad_here", "_law_word", "_law_works", "_law_work", "_law_far", "_law_odd", "_law_more", "_law_mark", "_law_bits_here", "_law_ear", "_law_mouth"] "law" (defScope s_law) f (.ref c) A outer s H E).nox 6 [some (.ref sc), some (.ref d), some (.int (i : Int)), some (.ref st), some (.ref b), some (.str z), some (.ref pw), y7, y8, y9, y10, y11, y12, y13, y14] c1 c2 c3 c4 c5 c6 cb f2 [.str "setting", .str z] Hb7 := by
            refine gives_of (Yb7.l _ (List.mem_of_getElem? (i := 11) (by rfl))).1 (Yb7.l _ (List.mem_of_getElem? (i := 10) (by rfl))).1 cp2 L2 (fun _ _ => trivial) (fun H' Q' E' A' q => ?_)
            have N' : Now K none [] H' H' [] [(b, StV mb wb lb ab)] := .start0 (by simp [A'.t _ _ hbb])
            walk_at "kn"
            refine g_make N' fun x dx H8 hx N8 => ?_
            exact ⟨x, b, rfl, mb, wb, lb, ab, z, N8.tup 0 rfl, hbad, (refw ko1 q).keep N8.af⟩
          have G3 : Gives (cxOf CX0 P w K mg base ["_law_script", "_law_d", "_law_turn", "_law_setting_here", "_law_bad_here", "_law_word", "_law_works", "_law_work", "_law_far", "_law_odd", "_law_more", "_law_mark", "_law_bits_here", "_law_ear", "_law_mouth"] "law" (defScope s_law) f (.ref c) A outer s H E).nox 6 [some (.ref sc), some (.ref d), some (.int (i : Int)), some (.ref st), some (.ref b), some (.str z), some (.ref pw), y7, y8, y9, y10, y11, y12, y13, y14] c1 c2 c3 c4 c5 c6 cb f3 [.str "setting", .str z] Hb7 := by
            refine gives_of (Yb7.l _ (List.mem_of_getElem? (i := 9) (by rfl))).1 (Yb7.l _ (List.mem_of_getElem? (i := 8) (by rfl))).1 cp3 L3 (fun _ _ => trivial) (fun H' Q' E' A' q => ?_)
            have N' : Now K none [] H' H' [] [(b, StV mb wb lb ab)] := .start0 (by simp [A'.t _ _ hbb])
            walk_at "kn"
            rename_i pl H8 N8
            exact ⟨b, .ref pl, rfl, mb, wb, lb, ab, z, N8.tup 1 rfl, hbad, (refw ko1 q).keep N8.af⟩
          have G4 : Gives (cxOf CX0 P w K mg base ["_law_script", "_law_d", "_law_turn", "_law_setting_here", "_law_bad_here", "_law_word", "_law_works", "_law_work", "_law_far", "_law_odd", "_law_more", "_law_mark", "_law_bits_here", "_law_ear", "_law_mouth"] "law" (defScope s_law) f (.ref c) A outer s H E).nox 6 [some (.ref sc), some (.ref d), some (.int (i : Int)), some (.ref st), some (.ref b), some (.str z), some (.ref pw), y7, y8, y9, y10, y11, y12, y13, y14] c1 c2 c3 c4 c5 c6 cb f4 [.str "setting", .str z] Hb7 := by
            refine gives_of (Yb7.l _ (List.mem_of_getElem? (i := 7) (by rfl))).1 (Yb7.l _ (List.mem_of_getElem? (i := 6) (by rfl))).1 cp4 L4 (fun _ _ => trivial) (fun H' Q' E' A' q => ?_)
            have N' : Now K none [] H' H' [] [(b, StV mb wb lb ab)] := .start0 (by simp [A'.t _ _ hbb])
            walk_at "kn"
            exact ⟨b, rfl, mb, wb, lb, ab, z, N'.tup 0 rfl, hbad, refw ko1 q⟩
          have G5 : Gives (cxOf CX0 P w K mg base ["_law_script", "_law_d", "_law_turn", "_law_setting_here", "_law_bad_here", "_law_word", "_law_works", "_law_work", "_law_far", "_law_odd", "_law_more", "_law_mark", "_law_bits_here", "_law_ear", "_law_mouth"] "law" (defScope s_law) f (.ref c) A outer s H E).nox 6 [some (.ref sc), some (.ref d), some (.int (i : Int)), some (.ref st), some (.ref b), some (.str z), some (.ref pw), y7, y8, y9, y10, y11, y12, y13, y14] c1 c2 c3 c4 c5 c6 cb f5 [.str "setting", .str z] Hb7 := by
            refine gives_of (Yb7.l _ (List.mem_of_getElem? (i := 5) (by rfl))).1 (Yb7.l _ (List.mem_of_getElem? (i := 4) (by rfl))).1 cp5 L5 (fun _ _ => trivial) (fun H' Q' E' A' q => ?_)
            have N' : Now K none [] H' H' [] [(b, StV mb wb lb ab)] := .start0 (by simp [A'.t _ _ hbb])
            walk_at "kn"
            rename_i pl H8 N8
            exact ⟨b, .ref pl, rfl, mb, wb, lb, ab, z, N8.tup 2 rfl, hbad, (refw ko1 q).keep N8.af⟩
          have G6 : Gives (cxOf CX0 P w K mg base ["_law_script", "_law_d", "_law_turn", "_law_setting_here", "_law_bad_here", "_law_word", "_law_works", "_law_work", "_law_far", "_law_odd", "_law_more", "_law_mark", "_law_bits_here", "_law_ear", "_law_mouth"] "law" (defScope s_law) f (.ref c) A outer s H E).nox 6 [some (.ref sc), some (.ref d), some (.int (i : Int)), some (.ref st), some (.ref b), some (.str z), some (.ref pw), y7, y8, y9, y10, y11, y12, y13, y14] c1 c2 c3 c4 c5 c6 cb f6 [.str "setting", .str z] Hb7 := by
            refine gives_of (Yb7.l _ (List.mem_of_getElem? (i := 3) (by rfl))).1 (Yb7.l _ (List.mem_of_getElem? (i := 2) (by rfl))).1 cp6 L6 (fun _ _ => trivial) (fun H' Q' E' A' q => ?_)
            have N' : Now K none [] H' H' [] [(b, StV mb wb lb ab)] := .start0 (by simp [A'.t _ _ hbb])
            walk_at "kn"
            exact ⟨b, .str "x", rfl, mb, wb, lb, ab, z, N'.tup 0 rfl, hbad, refw ko1 q⟩
          have G7 : Gives (cxOf CX0 P w K mg base ["_law_script", "_law_d", "_law_turn", "_law_setting_here", "_law_bad_here", "_law_word", "_law_works", "_law_work", "_law_far", "_law_odd", "_law_more", "_law_mark", "_law_bits_here", "_law_ear", "_law_mouth"] "law" (defScope s_law) f (.ref c) A outer s H E).nox 6 [some (.ref sc), some (.ref d), some (.int (i : Int)), some (.ref st), some (.ref b), some (.str z), some (.ref pw), y7, y8, y9, y10, y11, y12, y13, y14] c1 c2 c3 c4 c5 c6 cb f7 [.str "setting", .str z] Hb7 := by
            refine gives_of (Yb7.l _ (List.mem_of_getElem? (i := 1) (by rfl))).1 (Yb7.l _ (List.mem_of_getElem? (i := 0) (by rfl))).1 cp7 L7 (fun _ _ => trivial) (fun H' Q' E' A' q => ?_)
            have N' : Now K none [] H' H' [] [(b, StV mb wb lb ab)] := .start0 (by simp [A'.t _ _ hbb])
            walk_at "kn"
            exact ⟨lb, ab, z, rfl, hlate rfl, refw ko1 q⟩
          refine fin _ _ ⟨_, rfl, NF.reb, Yb7.tz, fun v hv => ?_⟩
          simp only [List.mem_append, List.mem_cons, List.not_mem_nil, or_false] at hv
          rcases hv with (((((rfl | rfl) | rfl) | rfl) | rfl) | rfl) | rfl
          · exact ⟨_, rfl, G1⟩
          · exact ⟨_, rfl, G2⟩
          · exact ⟨_, rfl, G3⟩
          · exact ⟨_, rfl, G4⟩
          · exact ⟨_, rfl, G5⟩
          · exact ⟨_, rfl, G6⟩
          · exact ⟨_, rfl, G7⟩
    · rintro σ H8 ⟨_, _, _, _, _, _, _, _, _, _, _, _, _, rfl, N0, Zn⟩
      walk_at "kn"
      exact kk _ Zn.z
end
theorem facts {P : Program} {w : World} {K : PySem.W.Frag} {h : Heap} {mg : Str → Option Value} {f : Addr} (X : K.In h) (G : h.Ns mainGlobals mg) (hfa : mg ("law" : Str) = some (.ref f)) (cx : xb K = true) (c : He.SaysD fa fn K) :
    ∃ fd : FuncData, (∀ (s : Shared) (v : Value), BindsTo s fd ⟨[v], []⟩ [("_law_script", v)]) ∧ ∀ base : Heap, K.In base → base.Ns mainGlobals mg → LamX.TabB base mg (He.cT K ("law", none)).1 (He.cT K ("law", none)).2 → FnOk P w K mg base CX0 12 f fd ["_law_script"] (spLaw K (He.cT K ("law", none)).2) := by
  have F_l_dice : Def K mg "_law_dice" s_l_dice := by
    obtain ⟨fd, F⟩ := c.def_ 0 (d := d_l_dice) rfl
    exact ⟨_, fd, F, He.glo_ok X G (c.fact 0 (f := .glo "_law_dice") rfl)⟩
  have F_l_next : Def K mg "_law_next" s_l_next := by
    obtain ⟨fd, F⟩ := c.def_ 1 (d := d_l_next) rfl
    exact ⟨_, fd, F, He.glo_ok X G (c.fact 1 (f := .glo "_law_next") rfl)⟩
  have F_need_setting : Def K mg "need_setting" s_need_setting := by
    obtain ⟨fd, F⟩ := c.def_ 2 (d := d_need_setting) rfl
    exact ⟨_, fd, F, He.glo_ok X G (c.fact 2 (f := .glo "need_setting") rfl)⟩
  have F_need_mark : Def K mg "need_mark" s_need_mark := by
    obtain ⟨fd, F⟩ := c.def_ 3 (d := d_need_mark) rfl
    exact ⟨_, fd, F, He.glo_ok X G (c.fact 3 (f := .glo "need_mark") rfl)⟩
  have F_need_bits : Def K mg "need_bits" s_need_bits := by
    obtain ⟨fd, F⟩ := c.def_ 4 (d := d_need_bits) rfl
    exact ⟨_, fd, F, He.glo_ok X G (c.fact 4 (f := .glo "need_bits") rfl)⟩
  have F_l_like : Def K mg "_law_like" s_l_like := by
    obtain ⟨fd, F⟩ := c.def_ 5 (d := d_l_like) rfl
    exact ⟨_, fd, F, He.glo_ok X G (c.fact 5 (f := .glo "_law_like") rfl)⟩
  have F_Ear_init : DefC K mg (He.ga K "Ear") "Ear" "Ear.__init__" s_Ear_init := by
    obtain ⟨fd, F⟩ := c.def_ 6 (d := d_Ear_init) rfl
    exact ⟨_, fd, F, He.mkr_ok (c.fact 46 (f := .mkr "Ear") rfl), He.glo_ok X G (c.fact 37 (f := .glo "Ear") rfl)⟩
  have F_Ear_taken : DefM K (He.ga K "Ear") "taken" "Ear.taken" s_Ear_taken := by
    obtain ⟨fd, F⟩ := c.def_ 7 (d := d_Ear_taken) rfl
    exact ⟨_, fd, F, He.meth_ok (c.fact 68 (f := .meth "Ear" "taken") rfl)⟩
  have F_Ear_come : DefM K (He.ga K "Ear") "come" "Ear.come" s_Ear_come := by
    obtain ⟨fd, F⟩ := c.def_ 8 (d := d_Ear_come) rfl
    exact ⟨_, fd, F, He.meth_ok (c.fact 69 (f := .meth "Ear" "come") rfl)⟩
  have F_Ear_tell : DefM K (He.ga K "Ear") "tell" "Ear.tell" s_Ear_tell := by
    obtain ⟨fd, F⟩ := c.def_ 9 (d := d_Ear_tell) rfl
    exact ⟨_, fd, F, He.meth_ok (c.fact 70 (f := .meth "Ear" "tell") rfl)⟩
  have F_Ear_last : DefM K (He.ga K "Ear") "last" "Ear.last" s_Ear_last := by
    obtain ⟨fd, F⟩ := c.def_ 10 (d := d_Ear_last) rfl
    exact ⟨_, fd, F, He.meth_ok (c.fact 71 (f := .meth "Ear" "last") rfl)⟩
  have F_Mouth_init : DefC K mg (He.ga K "Mouth") "Mouth" "Mouth.__init__" s_Mouth_init := by
    obtain ⟨fd, F⟩ := c.def_ 11 (d := d_Mouth_init) rfl
    exact ⟨_, fd, F, He.mkr_ok (c.fact 57 (f := .mkr "Mouth") rfl), He.glo_ok X G (c.fact 47 (f := .glo "Mouth") rfl)⟩
  have F_Mouth_is_full : DefM K (He.ga K "Mouth") "is_full" "Mouth.is_full" s_Mouth_is_full := by
    obtain ⟨fd, F⟩ := c.def_ 12 (d := d_Mouth_is_full) rfl
    exact ⟨_, fd, F, He.meth_ok (c.fact 72 (f := .meth "Mouth" "is_full") rfl)⟩
  have F_Mouth_send : DefM K (He.ga K "Mouth") "send" "Mouth.send" s_Mouth_send := by
    obtain ⟨fd, F⟩ := c.def_ 13 (d := d_Mouth_send) rfl
    exact ⟨_, fd, F, He.meth_ok (c.fact 73 (f := .meth "Mouth" "send") rfl)⟩
  have F_Mouth_hear : DefM K (He.ga K "Mouth") "hear" "Mouth.hear" s_Mouth_hear := by
    obtain ⟨fd, F⟩ := c.def_ 14 (d := d_Mouth_hear) rfl
    exact ⟨_, fd, F, He.meth_ok (c.fact 74 (f := .meth "Mouth" "hear") rfl)⟩
  have F_Mouth_last : DefM K (He.ga K "Mouth") "last" "Mouth.last" s_Mouth_last := by
    obtain ⟨fd, F⟩ := c.def_ 15 (d := d_Mouth_last) rfl
    exact ⟨_, fd, F, He.meth_ok (c.fact 75 (f := .meth "Mouth" "last") rfl)⟩
  have F_Mouth_sure : DefM K (He.ga K "Mouth") "sure" "Mouth.sure" s_Mouth_sure := by
    obtain ⟨fd, F⟩ := c.def_ 16 (d := d_Mouth_sure) rfl
    exact ⟨_, fd, F, He.meth_ok (c.fact 76 (f := .meth "Mouth" "sure") rfl)⟩
  have F_Load_init : DefC K mg (He.ga K "Load") "Load" "Load.__init__" s_Load_init := by
    obtain ⟨fd, F⟩ := c.def_ 17 (d := d_Load_init) rfl
    exact ⟨_, fd, F, He.mkr_ok (c.fact 65 (f := .mkr "Load") rfl), He.glo_ok X G (c.fact 58 (f := .glo "Load") rfl)⟩
  have F_is_safe : Def K mg "is_safe" s_is_safe := by
    obtain ⟨fd, F⟩ := c.def_ 18 (d := d_is_safe) rfl
    exact ⟨_, fd, F, He.glo_ok X G (c.fact 6 (f := .glo "is_safe") rfl)⟩
  have F_judged : Def K mg "judged" s_judged := by
    obtain ⟨fd, F⟩ := c.def_ 19 (d := d_judged) rfl
    exact ⟨_, fd, F, He.glo_ok X G (c.fact 7 (f := .glo "judged") rfl)⟩
  have F_played : Def K mg "played" s_played := by
    obtain ⟨fd, F⟩ := c.def_ 20 (d := d_played) rfl
    exact ⟨_, fd, F, He.glo_ok X G (c.fact 8 (f := .glo "played") rfl)⟩
  have F_written : Def K mg "written" s_written := by
    obtain ⟨fd, F⟩ := c.def_ 21 (d := d_written) rfl
    exact ⟨_, fd, F, He.glo_ok X G (c.fact 9 (f := .glo "written") rfl)⟩
  have F_read : Def K mg "read" s_read := by
    obtain ⟨fd, F⟩ := c.def_ 22 (d := d_read) rfl
    exact ⟨_, fd, F, He.glo_ok X G (c.fact 10 (f := .glo "read") rfl)⟩
  have F_fewest : Def K mg "fewest" s_fewest := by
    obtain ⟨fd, F⟩ := c.def_ 23 (d := d_fewest) rfl
    exact ⟨_, fd, F, He.glo_ok X G (c.fact 11 (f := .glo "fewest") rfl)⟩
  have F_BadSetting_init : DefX K mg (He.ga K "BadSetting") "BadSetting" "BadSetting.__init__" s_BadSetting_init := by
    obtain ⟨fd, F⟩ := c.def_ 24 (d := d_BadSetting_init) rfl
    exact ⟨⟨_, fd, F, He.meth_ok (c.fact 67 (f := .meth "BadSetting" "__init__") rfl)⟩, He.glo_ok X G (c.fact 66 (f := .glo "BadSetting") rfl)⟩
  have F_l_setting : Def K mg "_law_setting" s_l_setting := by
    obtain ⟨fd, F⟩ := c.def_ 25 (d := d_l_setting) rfl
    exact ⟨_, fd, F, He.glo_ok X G (c.fact 12 (f := .glo "_law_setting") rfl)⟩
  have F_l_bad : Def K mg "_law_bad" s_l_bad := by
    obtain ⟨fd, F⟩ := c.def_ 26 (d := d_l_bad) rfl
    exact ⟨_, fd, F, He.glo_ok X G (c.fact 13 (f := .glo "_law_bad") rfl)⟩
  have F_l_bits : Def K mg "_law_bits" s_l_bits := by
    obtain ⟨fd, F⟩ := c.def_ 27 (d := d_l_bits) rfl
    exact ⟨_, fd, F, He.glo_ok X G (c.fact 14 (f := .glo "_law_bits") rfl)⟩
  have F_l_bounds : Def K mg "_law_bounds" s_l_bounds := by
    obtain ⟨fd, F⟩ := c.def_ 28 (d := d_l_bounds) rfl
    exact ⟨_, fd, F, He.glo_ok X G (c.fact 15 (f := .glo "_law_bounds") rfl)⟩
  have F_l_told : Def K mg "_law_told" s_l_told := by
    obtain ⟨fd, F⟩ := c.def_ 29 (d := d_l_told) rfl
    exact ⟨_, fd, F, He.glo_ok X G (c.fact 16 (f := .glo "_law_told") rfl)⟩
  obtain ⟨fdL, F_law⟩ := c.def_ 30 (d := d_law) rfl
  cases hfa.symm.trans (He.glo_ok X G (c.fact 17 (f := .glo "law") rfl))
  have B : Bt mg := ⟨He.free_ok X G (c.fact 18 (f := .free "len") rfl), He.free_ok X G (c.fact 19 (f := .free "int") rfl), He.free_ok X G (c.fact 20 (f := .free "isinstance") rfl), He.free_ok X G (c.fact 21 (f := .free "range") rfl), He.free_ok X G (c.fact 22 (f := .free "sorted") rfl), He.free_ok X G (c.fact 23 (f := .free "list") rfl), He.free_ok X G (c.fact 24 (f := .free "tuple") rfl), He.free_ok X G (c.fact 25 (f := .free "max") rfl), He.free_ok X G (c.fact 26 (f := .free "min") rfl), He.free_ok X G (c.fact 27 (f := .free "set") rfl), He.free_ok X G (c.fact 28 (f := .free "str") rfl), He.free_ok X G (c.fact 29 (f := .free "enumerate") rfl), He.free_ok X G (c.fact 30 (f := .free "bool") rfl), He.free_ok X G (c.fact 31 (f := .free "dict") rfl)⟩
  unfold xb at cx
  obtain ⟨cx_LEAST, cx⟩ := He.ba cx
  obtain ⟨cx_MOST, cx⟩ := He.ba cx
  obtain ⟨cx_WORDS, cx⟩ := He.ba cx
  obtain ⟨ck_BadMark, cx⟩ := He.ba cx
  obtain ⟨ck_BadBits, cx⟩ := He.ba cx
  obtain ⟨co_BadSetting, cx⟩ := He.ba cx
  obtain ⟨co_BadMark, cx⟩ := He.ba cx
  obtain ⟨co_BadBits, cx⟩ := He.ba cx
  obtain ⟨cy_base, cx⟩ := He.ba cx
  obtain ⟨cy_kx, cx⟩ := He.ba cx
  have cy_oex := cx
  have Kn : Kin mg (He.ga K "BadSetting") (He.ga K "BadMark") (He.ga K "BadBits") (He.ga K "Full") (He.ga K "BadEvent") (He.ga K "BadText") (He.ga K "BitsError") := ⟨He.glo_ok X G (c.fact 77 (f := .glo "BadSetting") rfl), He.glo_ok X G (c.fact 78 (f := .glo "BadMark") rfl), He.glo_ok X G (c.fact 79 (f := .glo "BadBits") rfl), He.glo_ok X G (c.fact 80 (f := .glo "Full") rfl), He.glo_ok X G (c.fact 81 (f := .glo "BadEvent") rfl), He.glo_ok X G (c.fact 82 (f := .glo "BadText") rfl), He.glo_ok X G (c.fact 83 (f := .glo "BitsError") rfl), He.free_ok X G (c.fact 84 (f := .free "ValueError") rfl)⟩
  have T_BadMark : ExK K mg "BadMark" (He.ga K "BadMark") := exKB_ok Kn.g2 ck_BadMark
  have T_BadBits : ExK K mg "BadBits" (He.ga K "BadBits") := exKB_ok Kn.g3 ck_BadBits
  have ko_BadSetting := kofB_ok co_BadSetting
  have ko_BadMark := kofB_ok co_BadMark
  have ko_BadBits := kofB_ok co_BadBits
  have BI : BaseI K mg "BitsError" (He.ga K "BitsError") := baseIB_ok Kn.gb cy_base
  have KX := kinXB_ok cy_kx
  have OX := oexB_ok cy_oex
  have htab : ∀ c', fdL.code = .ref c' → (He.cT K ("law", none)).1 = c' := fun c' e => by
    obtain ⟨oc, od, dV, kV, doc, pm, an, cdv, ct, osl, hfd, lk, _, _, _⟩ := id F_law.ex
    exact He.codeOf_eq lk e
  have g_MOST_ROOM := He.int_ok X G (c.fact 35 (f := .int "MOST_ROOM" 8) rfl)
  have g_MOST_WAIT := He.int_ok X G (c.fact 36 (f := .int "MOST_WAIT" 20) rfl)
  have C_LEAST : Cst K mg "LEAST" (He.ga K "LEAST") [.int 2, .int 0, .int 0, .int 1] := ⟨He.glo_ok X G (c.fact 32 (f := .glo "LEAST") rfl), fun H => He.tupB_ok cx_LEAST H⟩
  have C_MOST : Cst K mg "MOST" (He.ga K "MOST") [.int 64, .int 16, .int 8, .int 16] := ⟨He.glo_ok X G (c.fact 33 (f := .glo "MOST") rfl), fun H => He.tupB_ok cx_MOST H⟩
  have C_WORDS : Cst K mg "WORDS" (He.ga K "WORDS") [.str "marks", .str "wide", .str "late", .str "ahead"] := ⟨He.glo_ok X G (c.fact 34 (f := .glo "WORDS") rfl), fun H => He.tupB_ok cx_WORDS H⟩
  have cl_Ear : Cls K (He.ga K "Ear") := He.cls_ok (c.fact 38 (f := .cls "Ear") rfl)
  have na_Ear_marks : NoAttr K (He.ga K "Ear") "marks" := He.noat_ok (c.fact 39 (f := .noat "Ear" "marks") rfl)
  have na_Ear_wide : NoAttr K (He.ga K "Ear") "wide" := He.noat_ok (c.fact 40 (f := .noat "Ear" "wide") rfl)
  have na_Ear_late : NoAttr K (He.ga K "Ear") "late" := He.noat_ok (c.fact 41 (f := .noat "Ear" "late") rfl)
  have na_Ear_ahead : NoAttr K (He.ga K "Ear") "ahead" := He.noat_ok (c.fact 42 (f := .noat "Ear" "ahead") rfl)
  have na_Ear_setting : NoAttr K (He.ga K "Ear") "setting" := He.noat_ok (c.fact 43 (f := .noat "Ear" "setting") rfl)
  have na_Ear_newest : NoAttr K (He.ga K "Ear") "newest" := He.noat_ok (c.fact 44 (f := .noat "Ear" "newest") rfl)
  have na_Ear_met : NoAttr K (He.ga K "Ear") "met" := He.noat_ok (c.fact 45 (f := .noat "Ear" "met") rfl)
  have cl_Mouth : Cls K (He.ga K "Mouth") := He.cls_ok (c.fact 48 (f := .cls "Mouth") rfl)
  have na_Mouth_marks : NoAttr K (He.ga K "Mouth") "marks" := He.noat_ok (c.fact 49 (f := .noat "Mouth" "marks") rfl)
  have na_Mouth_wide : NoAttr K (He.ga K "Mouth") "wide" := He.noat_ok (c.fact 50 (f := .noat "Mouth" "wide") rfl)
  have na_Mouth_late : NoAttr K (He.ga K "Mouth") "late" := He.noat_ok (c.fact 51 (f := .noat "Mouth" "late") rfl)
  have na_Mouth_ahead : NoAttr K (He.ga K "Mouth") "ahead" := He.noat_ok (c.fact 52 (f := .noat "Mouth" "ahead") rfl)
  have na_Mouth_setting : NoAttr K (He.ga K "Mouth") "setting" := He.noat_ok (c.fact 53 (f := .noat "Mouth" "setting") rfl)
  have na_Mouth_sent : NoAttr K (He.ga K "Mouth") "sent" := He.noat_ok (c.fact 54 (f := .noat "Mouth" "sent") rfl)
  have na_Mouth_certain : NoAttr K (He.ga K "Mouth") "certain" := He.noat_ok (c.fact 55 (f := .noat "Mouth" "certain") rfl)
  have na_Mouth_top : NoAttr K (He.ga K "Mouth") "top" := He.noat_ok (c.fact 56 (f := .noat "Mouth" "top") rfl)
  have cl_Load : Cls K (He.ga K "Load") := He.cls_ok (c.fact 59 (f := .cls "Load") rfl)
  have na_Load_room : NoAttr K (He.ga K "Load") "room" := He.noat_ok (c.fact 60 (f := .noat "Load" "room") rfl)
  have na_Load_wait : NoAttr K (He.ga K "Load") "wait" := He.noat_ok (c.fact 61 (f := .noat "Load" "wait") rfl)
  have na_Load_latest : NoAttr K (He.ga K "Load") "latest" := He.noat_ok (c.fact 62 (f := .noat "Load" "latest") rfl)
  have na_Load_rows : NoAttr K (He.ga K "Load") "rows" := He.noat_ok (c.fact 63 (f := .noat "Load" "rows") rfl)
  have na_Load_many : NoAttr K (He.ga K "Load") "many" := He.noat_ok (c.fact 64 (f := .noat "Load" "many") rfl)
  have b := FunD.bindsA (ps := ["_law_script"]) F_law fun _ _ _ _ _ _ us hl => match us, hl with | [_], _ => rfl
  refine ⟨fdL, fun s v => b s [v] rfl, fun base _ _ htb => ?_⟩
  have HTB : ∀ c', fdL.code = .ref c' → LamX.TabB base mg c' (He.cT K ("law", none)).2 := fun c' e => htab c' e ▸ htb
  have c_l_dice : Cal P w K mg base CX0 1 "_law_dice" ["_law_script"] (spDice K) := ok_dice F_l_dice B
  have c_l_next : Cal P w K mg base CX0 1 "_law_next" ["_law_dice_here", "_law_many"] (spNext K) := ok_next F_l_next B
  have c_l_like : Cal P w K mg base CX0 5 "_law_like" ["_law_found", "_law_due"] (spLike K 4) := ok_like F_l_like B 4
  have c_needS : Cal P w K mg base CX0 1 "need_setting" ["setting"] spNeedS := ok_needS F_need_setting B C_LEAST C_MOST
  have c_needM : Cal P w K mg base CX0 1 "need_mark" ["setting", "mark"] spNeedM := ok_needM F_need_mark B
  have c_needB : Cal P w K mg base CX0 2 "need_bits" ["setting", "told"] spNeedB := ok_needB F_need_bits B c_needM
  have TE : ETx K (He.ga K "Ear") := ⟨cl_Ear, na_Ear_marks, na_Ear_wide, na_Ear_late, na_Ear_ahead, na_Ear_setting, na_Ear_newest, na_Ear_met⟩
  have c_einit : CalC P w K mg base CX0 (He.ga K "Ear") 2 "Ear" ["self", "setting"] (spEInit (He.ga K "Ear")) := ok_EInit F_Ear_init TE B c_needS
  have c_etaken : CalM P w K mg base CX0 (He.ga K "Ear") 1 "taken" ["self", "mark"] (spETaken K (He.ga K "Ear")) := ok_ETaken F_Ear_taken TE B
  have c_elast : CalM P w K mg base CX0 (He.ga K "Ear") 1 "last" ["self"] (spELast K (He.ga K "Ear")) := ok_ELast F_Ear_last TE
  have c_ecome : CalM P w K mg base CX0 (He.ga K "Ear") 2 "come" ["self", "mark"] (spECome K (He.ga K "Ear")) := ok_ECome F_Ear_come TE B c_needM c_etaken
  have c_etell : CalM P w K mg base CX0 (He.ga K "Ear") 1 "tell" ["self"] (spETell K (He.ga K "Ear")) := ok_ETell F_Ear_tell TE B
  have TM : MTx K (He.ga K "Mouth") := ⟨cl_Mouth, na_Mouth_marks, na_Mouth_wide, na_Mouth_late, na_Mouth_ahead, na_Mouth_setting, na_Mouth_sent, na_Mouth_certain, na_Mouth_top⟩
  have c_minit : CalC P w K mg base CX0 (He.ga K "Mouth") 2 "Mouth" ["self", "setting"] (spMInit (He.ga K "Mouth")) := ok_MInit F_Mouth_init TM B c_needS
  have c_mfull : CalM P w K mg base CX0 (He.ga K "Mouth") 1 "is_full" ["self"] (spMFull K (He.ga K "Mouth")) := ok_MFull F_Mouth_is_full TM
  have c_mlast : CalM P w K mg base CX0 (He.ga K "Mouth") 1 "last" ["self"] (spMLast K (He.ga K "Mouth")) := ok_MLast F_Mouth_last TM
  have c_msend : CalM P w K mg base CX0 (He.ga K "Mouth") 2 "send" ["self"] (spMSend K (He.ga K "Mouth")) := ok_MSend F_Mouth_send TM c_mfull
  have c_mhear : CalM P w K mg base CX0 (He.ga K "Mouth") 3 "hear" ["self", "told"] (spMHear K (He.ga K "Mouth")) := ok_MHear F_Mouth_hear TM B c_needB
  have c_msure := ok_MSure (P := P) (w := w) (base := base) F_Mouth_sure TM B
  have c_setting := ok_setting F_l_setting B c_l_next
  have c_needME := ok_needME (P := P) (w := w) (base := base) F_need_mark T_BadMark
  have c_needBE := ok_needBE F_need_bits B T_BadBits c_needME
  have XS := ok_BadSetting (P := P) (w := w) (base := base) F_BadSetting_init OX BI KX.n1
  have c_needSX := ok_needSX F_need_setting B C_LEAST C_MOST C_WORDS XS
  have c_EarX := ok_EarSX F_Ear_init c_needSX
  have c_MouthX := ok_MouthSX F_Mouth_init c_needSX
  have c_playedX := ok_playedSX F_played c_needSX
  have c_judgedX := ok_judgedSX F_judged c_needSX
  have c_writtenX := ok_writtenSX F_written c_needSX
  have c_readX := ok_readSX F_read c_needSX
  have c_fewestX := ok_fewestSX F_fewest c_needSX
  have c_LoadX := ok_LoadSX F_Load_init XS g_MOST_ROOM g_MOST_WAIT
  have c_comeX := ok_EComeBX F_Ear_come TE c_needME
  have c_hearX := ok_MHearBX F_Mouth_hear TM c_needBE
  have c_tellX := ok_ETellE (P := P) (w := w) (base := base) F_Ear_tell TE B T_BadBits
  have c_writtenB := ok_writtenBX F_written c_needS c_needBE
  have c_isSafe := ok_isSafe (P := P) (w := w) (base := base) F_is_safe
  have c_judgedS := ok_judgedS F_judged c_needS c_isSafe
  have c_bad := ok_bad F_l_bad B c_l_next
  have c_bits := ok_bits F_l_bits B c_l_next
  have c_bounds := ok_bounds F_l_bounds B cl_Ear cl_Mouth c_einit c_elast c_minit c_msend c_judgedS
  exact ok_law F_law B Kn KX ko_BadSetting ko_BadMark ko_BadBits HTB F_l_told cl_Ear cl_Mouth c_l_dice c_l_next c_setting c_l_like c_bounds c_bad c_bits c_einit c_elast c_minit c_mlast c_msure c_mfull c_EarX c_MouthX c_playedX c_judgedX c_writtenX c_readX c_fewestX c_LoadX c_comeX c_hearX c_tellX c_writtenB
end Ak
open PySem PySem.W PySem.Calls PyProof.Rows
theorem PySem.Challenge.cw_ackbits_k01_what_is_none_holds : PySem.Challenge.rw_ackbits_k01_what_is_none.Holds := by
  w_on; o_law
  refine HandSHeadRun.head_any (r := OpenLaw.row PySem.Challenge.rw_ackbits_k01_what_is_none) (q := view (OpenLaw.row PySem.Challenge.rw_ackbits_k01_what_is_none).prog [48]) (H := Ak.hk) (ob := Ak.ob) (M := 4000) (loose := Ak.looseN) (d := HandSHeadRun.topDef (OpenLaw.row PySem.Challenge.rw_ackbits_k01_what_is_none).prog 48) (kwd := []) Ak.ob_eq
    (by kernel_rfl) (fun s => by kernel_rfl) Ak.run (by kernel_rfl) (by kernel_rfl) (by kernel_rfl) (by rfl) (by first | assumption | decide +kernel) (by decide +kernel) ⟨rfl, rfl, rfl, rfl, rfl, by decide +kernel⟩ ?hw ?hc
  case hw => w_witness2
  case hc =>
    refine LamX.walk_ofTsE (l := PySem.Challenge.rw_ackbits_k01_what_is_none) (n := 63) (k := 12) (x := "_law_script") (CX := fun _ => L2.CX0) rfl (by decide) (by kernel_rfl) ⟨rfl, by decide, by decide⟩ ?F (fun _ _ _ _ _ z => z)
    intro w mg fa h Y G hmg0
    obtain ⟨K, KX, c⟩ := Y
    have hmg : mg ("law" : PySem.Str) = some (.ref fa) := by
      have e : (HandSHeadRun.topDef (OpenLaw.row PySem.Challenge.rw_ackbits_k01_what_is_none).prog 48).name = ("law" : PySem.Str) := by kernel_rfl
      rw [← e]
      exact hmg0
    obtain ⟨fd, hb, hF⟩ := Ak.facts (P := (PySem.Challenge.rw_ackbits_k01_what_is_none).prog) (w := w) KX G hmg c.more c.t.d
    have mem : (("law", none) : He.Defn) ∈ Ak.tf := List.mem_cons_self
    have one : ∀ p ∈ [He.cT K ("law", none)], p = He.cT K ("law", none) := fun p hp => List.mem_singleton.mp hp
    exact ⟨K, KX, fd, [He.cT K ("law", none)], Ak.spLaw K (He.cT K ("law", none)).2, fun p hp => by rw [one p hp]; exact c.empty _ mem, fun p hp => by rw [one p hp]; exact c.out _ mem, fun p hp => by rw [one p hp]; exact codeHd_of_K KX (c.hd _ mem), hb,
      fun H a ns hl hbits hH hS => ⟨a, ns, rfl, hS, hl, hH _ List.mem_cons_self, fun _ => rfl⟩, fun base hK hN hT => hF base hK hN (hT _ List.mem_cons_self)⟩
