import PyProof.Rows.All
import Wide.All
import OpenK.AllK
import Wide.FinOn
import KE.KStateDown
import Lean
import HandS.Base
import HandS.Call
import HandS.Ends
import HandS.More
import HandS.Words
import HandS.WordsExc
import HandS.Defaults
import HandS.Head0
import HandS.Head1
import HandS.Head2
import HandS.HeadEnd
import HandS.HeadHook1
import HandS.HeadHook2
import HandS.HeadHook4
import HandS.ForMost
import HandS.IsInst
import KE.KAssignIn
import HandS.SortInts
import HandS.Zip
import HandS.Style
import HandS.Exc
import HandS.ExcOwn
import HandS.ExcIs
import HandS.ExcField
import HandS.TryOnly
import HandS.Lambda
import HandS.EndTab
import HandS.HeadWalk
import KE.KExcIs
import HandS.ExcInit
import HandS.ClsMeth
import PySem.Challenge.RW_ackbits_k04_what_happens
set_option Elab.async false
set_option linter.all false
set_option maxRecDepth 100000
set_option maxHeartbeats 8000000
namespace Ak
open PySem PySem.Spec PyProof.Rows L2
def top (i : Nat) : Stmt := PySem.Challenge.pw_ackbits_k04_what_happens.main.body.getD i (.Pass ⟨0, 0, 0, 0⟩)
abbrev s_l_dice : Stmt := top 24
abbrev s_l_next : Stmt := top 25
abbrev s_need_setting : Stmt := top 12
abbrev s_need_mark : Stmt := top 13
abbrev s_need_bits : Stmt := top 14
abbrev s_l_setting : Stmt := top 27
abbrev s_l_safe : Stmt := top 28
abbrev s_l_like : Stmt := top 26
abbrev s_l_ear : Stmt := top 29
abbrev s_l_taken : Stmt := top 30
abbrev s_l_come : Stmt := top 31
abbrev s_l_tell : Stmt := top 32
abbrev s_l_mouth : Stmt := top 33
abbrev s_l_is_full : Stmt := top 34
abbrev s_l_hear : Stmt := top 35
abbrev s_l_world : Stmt := top 36
abbrev s_l_can : Stmt := top 37
abbrev s_l_do : Stmt := top 38
abbrev s_l_event : Stmt := top 39
abbrev s_l_events : Stmt := top 40
abbrev s_Ear_init : Stmt := inClass (top 16) 0
abbrev s_Ear_taken : Stmt := inClass (top 16) 1
abbrev s_Ear_last : Stmt := inClass (top 16) 4
abbrev s_Ear_come : Stmt := inClass (top 16) 2
abbrev s_Ear_tell : Stmt := inClass (top 16) 3
abbrev s_Mouth_init : Stmt := inClass (top 18) 0
abbrev s_Mouth_is_full : Stmt := inClass (top 18) 1
abbrev s_Mouth_last : Stmt := inClass (top 18) 5
abbrev s_Mouth_sure : Stmt := inClass (top 18) 4
abbrev s_Mouth_send : Stmt := inClass (top 18) 2
abbrev s_Mouth_hear : Stmt := inClass (top 18) 3
abbrev s_World_init : Stmt := inClass (top 21) 0
abbrev s_World_is_due : Stmt := inClass (top 21) 1
abbrev s_World_can : Stmt := inClass (top 21) 2
abbrev s_World_heard : Stmt := inClass (top 21) 4
abbrev s_World_do : Stmt := inClass (top 21) 3
abbrev s_l_played : Stmt := top 41
abbrev s_BadEvent_init : Stmt := inClass (top 6) 0
abbrev s_played : Stmt := top 22
abbrev s_l_odd : Stmt := top 43
abbrev s_l_told : Stmt := top 42
abbrev s_law : Stmt := top 44
abbrev veTail : List Value := [.type "ValueError", .type "Exception", .type "BaseException", .type "object"]
def exKB (K : PySem.W.Frag) (C : Addr) : Bool := PySem.W.keepIn K (.ref C) && (PySem.W.excIn K C veTail "ValueError.__new__" && (decide (PySem.W.subIn K (.ref C) (.type "BaseException") = some true) && decide (PySem.W.typeIn K (.ref C) = some (.type "type"))))
def excCB (K : PySem.W.Frag) (D : Addr) : Bool :=
  decide (PySem.W.findIn K (.ref D) "__getattribute__" = some (some (.builtin "BaseException.__getattribute__"))) && (decide (PySem.W.findIn K (.ref D) "__getattr__" = some none) && (decide (PySem.W.subIn K (.ref D) (.type "BaseException") = some true) && (PySem.W.hasDictIn K D &&
  (decide (PySem.W.findIn K (.ref D) "__class__" = some (some (.builtin "object.__class__"))) && (decide (PySem.W.specialIn K (.builtin "object.__class__") "__get__" = some (some (.builtin "getset_descriptor.__get__"))) && (decide (PySem.W.takesIn K (.builtin "object.__class__") = some true) && decide (PySem.W.mroIn K D (.type "object") = some true)))))))
def kofB (K : PySem.W.Frag) (c1 c2 c3 c4 c5 c6 cb D : Addr) (n : Nat) : Bool :=
  excCB K D && (decide (PySem.W.kitOne K (.ref D) (.ref c1) = some (decide (n = 1))) && (decide (PySem.W.kitOne K (.ref D) (.ref c2) = some (decide (n = 2))) && (decide (PySem.W.kitOne K (.ref D) (.ref c3) = some (decide (n = 3))) && (decide (PySem.W.kitOne K (.ref D) (.ref c4) = some (decide (n = 4))) &&
  (decide (PySem.W.kitOne K (.ref D) (.ref c5) = some (decide (n = 5))) && (decide (PySem.W.kitOne K (.ref D) (.ref c6) = some (decide (n = 6))) && (decide (PySem.W.kitOne K (.ref D) (.type "ValueError") = some true) && decide (PySem.W.exmOne K (.ref D) (.ref cb) = some true))))))))
def valOf : Option PySem.W.CFound → Option Value
  | some (.val v) => some v
  | _ => none
def baseIB (K : PySem.W.Frag) (B : Addr) : Bool := PySem.W.readsIn K B (.type "type") && (decide (PySem.W.specialIn K (.ref B) "__getattribute__" = some (some (.builtin "type.__getattribute__"))) && decide (valOf (PySem.W.findCls K (.ref B) (.type "type") "__init__") = some (.builtin "ValueError.__init__")))
def oexB (K : PySem.W.Frag) (C : Addr) : Bool := (match K.lookup C with
  | some ⟨.type t, _, .cls cd, sl⟩ => decide (t = "type") && ((match cd.mro with
    | .ref D :: bm => decide (D = C) && PySem.HandSPX.refsVE bm
    | _ => false) && (cd.hasDict && (!cd.hasDel && (match sl.toList with
    | [_, _, _, _, some (.builtin n), _] => decide (n = "ValueError.__new__")
    | _ => false))))
  | _ => false) && (decide (PySem.W.findIn K (.ref C) "__setattr__" = some (some (.builtin "object.__setattr__"))) && (decide (PySem.W.subIn K (.ref C) (.type "BaseException") = some true) && (decide (PySem.W.typeIn K (.ref C) = some (.type "type")) && PySem.W.keepIn K (.ref C))))
def kinXB (K : PySem.W.Frag) (c1 c5 c6 : Addr) : Bool := xfB K c1 && (xfB K c5 && (xfB K c6 && (decide (PySem.W.findIn K (.ref c1) "word" = some none) && (decide (PySem.W.findIn K (.ref c5) "number" = some none) && decide (PySem.W.findIn K (.ref c6) "place" = some none)))))
def asY (g : Addr → Option Obj) (n : Nat) : List Addr := He.asD g n ++ [cStatics]
def obsY (n : Nat) (fa : List He.Fa) (fn : List He.DefD) (tf : List He.Defn) (ex : PySem.W.Frag → Bool) (g : Addr → Option Obj) : He.AlX := (He.obsT fa fn [] (He.frT g (asY g n)), ex (He.frT g (asY g n)) && He.tabsB g tf (He.frT g (asY g n)))
theorem saysY {n : Nat} {fa : List He.Fa} {fn : List He.DefD} {tf : List He.Defn} {ex : PySem.W.Frag → Bool} {w : World} {h : Heap} (e : obsY n fa fn tf ex h.get? = He.valX fn [] w) : He.SaysX fa fn [] tf ex w h (He.frT h.get? (asY h.get? n)) := by
  generalize hK : He.frT h.get? (asY h.get? n) = K
  have e1 : He.obsT fa fn [] K = He.valT fn [] w := by rw [← hK]; exact congrArg Prod.fst e
  have e2 : (ex K && He.tabsB h.get? tf K) = true := by rw [← hK]; exact congrArg Prod.snd e
  obtain ⟨e3, e4⟩ := Bool.and_eq_true_iff.mp e2
  have tab : ∀ p ∈ tf, PySem.W.codeHdIn K (He.cT K p).1 (He.cT K p).2 = true ∧ ∃ o, h.get? (He.cT K p).2 = some o ∧ He.emptyTab o = true := by
    intro p hp
    obtain ⟨q1, q2⟩ := Bool.and_eq_true_iff.mp (List.all_eq_true.mp e4 p hp)
    refine ⟨q1, ?_⟩
    split at q2
    · rename_i o ho
      exact ⟨o, ho, q2⟩
    · cases q2
  refine { t := e1, more := e3, hd := fun p hp => (tab p hp).1, out := ?_, empty := ?_ }
  · intro p hp
    obtain ⟨_, o, ho, z⟩ := tab p hp
    have y := He.frT_none (as := asY h.get? n) ho z
    rw [hK] at y
    exact y
  · intro p hp
    obtain ⟨_, o, ho, z⟩ := tab p hp
    rw [ho, He.emptyTab_eq z]
def hookY (n : Nat) (fa : List He.Fa) (fn : List He.DefD) (tf : List He.Defn) (ex : PySem.W.Frag → Bool) : PySem.W.Hook where
  α := He.AlX
  obs := fun s => obsY n fa fn tf ex s.heap.get?
  val := fun w => He.valX fn [] w
  says := fun w h => ∃ K : PySem.W.Frag, K.In h ∧ He.SaysX fa fn [] tf ex w h K
  of := fun _ _ e => ⟨_, He.frT_in, saysY e⟩
  keeps := fun _ _ _ ⟨K, hK, c⟩ k => ⟨K, PySem.W.Frag.In.keeps hK k, { t := c.t, more := c.more, hd := c.hd, out := c.out, empty := fun p hp => k _ _ (c.empty p hp) }⟩
/-! ### the head: facts by names, the run of the top -/
def d_l_dice : He.DefD := ⟨("_law_dice", none), "_law_dice", "_law_dice", defArgs s_l_dice, defBody s_l_dice, defScope s_l_dice, [], []⟩
def d_l_next : He.DefD := ⟨("_law_next", none), "_law_next", "_law_next", defArgs s_l_next, defBody s_l_next, defScope s_l_next, [], []⟩
def d_need_setting : He.DefD := ⟨("need_setting", none), "need_setting", "need_setting", defArgs s_need_setting, defBody s_need_setting, defScope s_need_setting, [], []⟩
def d_need_mark : He.DefD := ⟨("need_mark", none), "need_mark", "need_mark", defArgs s_need_mark, defBody s_need_mark, defScope s_need_mark, [], []⟩
def d_need_bits : He.DefD := ⟨("need_bits", none), "need_bits", "need_bits", defArgs s_need_bits, defBody s_need_bits, defScope s_need_bits, [], []⟩
def d_l_like : He.DefD := ⟨("_law_like", none), "_law_like", "_law_like", defArgs s_l_like, defBody s_l_like, defScope s_l_like, [], []⟩
def d_Ear_init : He.DefD := ⟨("Ear", some "__init__"), "__init__", "Ear.__init__", defArgs s_Ear_init, defBody s_Ear_init, defScope s_Ear_init, [], []⟩
def d_Ear_taken : He.DefD := ⟨("Ear", some "taken"), "taken", "Ear.taken", defArgs s_Ear_taken, defBody s_Ear_taken, defScope s_Ear_taken, [], []⟩
def d_Ear_come : He.DefD := ⟨("Ear", some "come"), "come", "Ear.come", defArgs s_Ear_come, defBody s_Ear_come, defScope s_Ear_come, [], []⟩
def d_Ear_tell : He.DefD := ⟨("Ear", some "tell"), "tell", "Ear.tell", defArgs s_Ear_tell, defBody s_Ear_tell, defScope s_Ear_tell, [], []⟩
def d_Ear_last : He.DefD := ⟨("Ear", some "last"), "last", "Ear.last", defArgs s_Ear_last, defBody s_Ear_last, defScope s_Ear_last, [], []⟩
def d_Mouth_init : He.DefD := ⟨("Mouth", some "__init__"), "__init__", "Mouth.__init__", defArgs s_Mouth_init, defBody s_Mouth_init, defScope s_Mouth_init, [], []⟩
def d_Mouth_is_full : He.DefD := ⟨("Mouth", some "is_full"), "is_full", "Mouth.is_full", defArgs s_Mouth_is_full, defBody s_Mouth_is_full, defScope s_Mouth_is_full, [], []⟩
def d_Mouth_send : He.DefD := ⟨("Mouth", some "send"), "send", "Mouth.send", defArgs s_Mouth_send, defBody s_Mouth_send, defScope s_Mouth_send, [], []⟩
def d_Mouth_hear : He.DefD := ⟨("Mouth", some "hear"), "hear", "Mouth.hear", defArgs s_Mouth_hear, defBody s_Mouth_hear, defScope s_Mouth_hear, [], []⟩
def d_Mouth_last : He.DefD := ⟨("Mouth", some "last"), "last", "Mouth.last", defArgs s_Mouth_last, defBody s_Mouth_last, defScope s_Mouth_last, [], []⟩
def d_Mouth_sure : He.DefD := ⟨("Mouth", some "sure"), "sure", "Mouth.sure", defArgs s_Mouth_sure, defBody s_Mouth_sure, defScope s_Mouth_sure, [], []⟩
def d_World_init : He.DefD := ⟨("World", some "__init__"), "__init__", "World.__init__", defArgs s_World_init, defBody s_World_init, defScope s_World_init, [], []⟩
def d_World_is_due : He.DefD := ⟨("World", some "is_due"), "is_due", "World.is_due", defArgs s_World_is_due, defBody s_World_is_due, defScope s_World_is_due, [], []⟩
def d_World_can : He.DefD := ⟨("World", some "can"), "can", "World.can", defArgs s_World_can, defBody s_World_can, defScope s_World_can, [], []⟩
def d_World_do : He.DefD := ⟨("World", some "do"), "do", "World.do", defArgs s_World_do, defBody s_World_do, defScope s_World_do, [], []⟩
def d_World_heard : He.DefD := ⟨("World", some "heard"), "heard", "World.heard", defArgs s_World_heard, defBody s_World_heard, defScope s_World_heard, [], []⟩
def d_played : He.DefD := ⟨("played", none), "played", "played", defArgs s_played, defBody s_played, defScope s_played, [], []⟩
def d_BadEvent_init : He.DefD := ⟨("BadEvent", some "__init__"), "__init__", "BadEvent.__init__", defArgs s_BadEvent_init, defBody s_BadEvent_init, defScope s_BadEvent_init, [], []⟩
def d_l_setting : He.DefD := ⟨("_law_setting", none), "_law_setting", "_law_setting", defArgs s_l_setting, defBody s_l_setting, defScope s_l_setting, [], []⟩
def d_l_ear : He.DefD := ⟨("_law_ear", none), "_law_ear", "_law_ear", defArgs s_l_ear, defBody s_l_ear, defScope s_l_ear, [], []⟩
def d_l_taken : He.DefD := ⟨("_law_taken", none), "_law_taken", "_law_taken", defArgs s_l_taken, defBody s_l_taken, defScope s_l_taken, [], []⟩
def d_l_come : He.DefD := ⟨("_law_come", none), "_law_come", "_law_come", defArgs s_l_come, defBody s_l_come, defScope s_l_come, [], []⟩
def d_l_tell : He.DefD := ⟨("_law_tell", none), "_law_tell", "_law_tell", defArgs s_l_tell, defBody s_l_tell, defScope s_l_tell, [], []⟩
def d_l_mouth : He.DefD := ⟨("_law_mouth", none), "_law_mouth", "_law_mouth", defArgs s_l_mouth, defBody s_l_mouth, defScope s_l_mouth, [], []⟩
def d_l_is_full : He.DefD := ⟨("_law_is_full", none), "_law_is_full", "_law_is_full", defArgs s_l_is_full, defBody s_l_is_full, defScope s_l_is_full, [], []⟩
def d_l_hear : He.DefD := ⟨("_law_hear", none), "_law_hear", "_law_hear", defArgs s_l_hear, defBody s_l_hear, defScope s_l_hear, [], []⟩
def d_l_world : He.DefD := ⟨("_law_world", none), "_law_world", "_law_world", defArgs s_l_world, defBody s_l_world, defScope s_l_world, [], []⟩
def d_l_can : He.DefD := ⟨("_law_can", none), "_law_can", "_law_can", defArgs s_l_can, defBody s_l_can, defScope s_l_can, [], []⟩
def d_l_do : He.DefD := ⟨("_law_do", none), "_law_do", "_law_do", defArgs s_l_do, defBody s_l_do, defScope s_l_do, [], []⟩
def d_l_event : He.DefD := ⟨("_law_event", none), "_law_event", "_law_event", defArgs s_l_event, defBody s_l_event, defScope s_l_event, [], []⟩
def d_l_events : He.DefD := ⟨("_law_events", none), "_law_events", "_law_events", defArgs s_l_events, defBody s_l_events, defScope s_l_events, [], []⟩
def d_l_played : He.DefD := ⟨("_law_played", none), "_law_played", "_law_played", defArgs s_l_played, defBody s_l_played, defScope s_l_played, [], []⟩
def d_l_odd : He.DefD := ⟨("_law_odd", none), "_law_odd", "_law_odd", defArgs s_l_odd, defBody s_l_odd, defScope s_l_odd, [], []⟩
def d_l_told : He.DefD := ⟨("_law_told", none), "_law_told", "_law_told", defArgs s_l_told, defBody s_l_told, defScope s_l_told, [], []⟩
def d_law : He.DefD := ⟨("law", none), "law", "law", defArgs s_law, defBody s_law, defScope s_law, [], []⟩
def fn : List He.DefD := [d_l_dice, d_l_next, d_need_setting, d_need_mark, d_need_bits, d_l_like, d_Ear_init, d_Ear_taken, d_Ear_come, d_Ear_tell, d_Ear_last, d_Mouth_init, d_Mouth_is_full, d_Mouth_send, d_Mouth_hear, d_Mouth_last, d_Mouth_sure, d_World_init, d_World_is_due, d_World_can, d_World_do, d_World_heard, d_played, d_BadEvent_init, d_l_setting, d_l_ear, d_l_taken, d_l_come, d_l_tell, d_l_mouth, d_l_is_full, d_l_hear, d_l_world, d_l_can, d_l_do, d_l_event, d_l_events, d_l_played, d_l_odd, d_l_told, d_law]
def fa : List He.Fa := [.glo "_law_dice", .glo "_law_next", .glo "need_setting", .glo "need_mark", .glo "need_bits", .glo "_law_like", .glo "played", .glo "_law_setting", .glo "_law_ear", .glo "_law_taken", .glo "_law_come", .glo "_law_tell", .glo "_law_mouth", .glo "_law_is_full", .glo "_law_hear", .glo "_law_world", .glo "_law_can", .glo "_law_do", .glo "_law_event", .glo "_law_events", .glo "_law_played", .glo "_law_odd", .glo "_law_told", .glo "law", .free "len", .free "int", .free "isinstance", .free "range", .free "sorted", .free "list", .free "tuple", .free "max", .free "min", .free "set", .free "str", .free "enumerate", .free "bool", .free "dict", .glo "LEAST", .glo "MOST", .int "MOST_EVENTS" 400, .glo "Ear", .cls "Ear", .noat "Ear" "marks", .noat "Ear" "wide", .noat "Ear" "late", .noat "Ear" "ahead", .noat "Ear" "setting", .noat "Ear" "newest", .noat "Ear" "met", .mkr "Ear", .glo "Mouth", .cls "Mouth", .noat "Mouth" "marks", .noat "Mouth" "wide", .noat "Mouth" "late", .noat "Mouth" "ahead", .noat "Mouth" "setting", .noat "Mouth" "sent", .noat "Mouth" "certain", .noat "Mouth" "top", .mkr "Mouth", .glo "World", .cls "World", .noat "World" "mouth", .noat "World" "ear", .noat "World" "late", .noat "World" "told", .noat "World" "here", .mkr "World", .glo "BadEvent", .meth "BadEvent" "__init__", .meth "Ear" "taken", .meth "Ear" "come", .meth "Ear" "tell", .meth "Ear" "last", .meth "Mouth" "is_full", .meth "Mouth" "send", .meth "Mouth" "hear", .meth "Mouth" "last", .meth "Mouth" "sure", .meth "World" "is_due", .meth "World" "can", .meth "World" "do", .meth "World" "heard", .glo "BadSetting", .glo "BadMark", .glo "BadBits", .glo "Full", .glo "BadEvent", .glo "BadText", .glo "BitsError", .free "ValueError"]
abbrev R : PySem.W.OpenRow := PySem.W.OpenLaw.row PySem.Challenge.rw_ackbits_k04_what_happens
def xb (K : PySem.W.Frag) : Bool := He.tupB K "LEAST" [.int 2, .int 0, .int 0, .int 1] && (He.tupB K "MOST" [.int 64, .int 16, .int 8, .int 16] && (exKB K (He.ga K "BadBits") && (kofB K (He.ga K "BadSetting") (He.ga K "BadMark") (He.ga K "BadBits") (He.ga K "Full") (He.ga K "BadEvent") (He.ga K "BadText") (He.ga K "BitsError") (He.ga K "BadEvent") 5 && (baseIB K (He.ga K "BitsError") && (kinXB K (He.ga K "BadSetting") (He.ga K "BadEvent") (He.ga K "BadText") && (oexB K (He.ga K "BadEvent") && (decide (PySem.W.exmOne K (.ref (He.ga K "BadBits")) (.ref (He.ga K "BadBits")) = some true))))))))
def tf : List He.Defn := [("law", none)]
def hk : PySem.W.Hook := hookY 6 fa fn tf xb
def ob (s : PySem.W.SharedT) : He.AlX := obsY 6 fa fn tf xb (HandSHeadRun.getT s)
theorem ob_eq (s : PySem.W.SharedT) : ob s = hk.obs s.abs := congrArg (obsY 6 fa fn tf xb) (funext fun a => HandSHeadRun.getT_eq s a)
def looseN : List PySem.Str := [("BitsError" : PySem.Str), ("BadSetting" : PySem.Str), ("BadMark" : PySem.Str), ("BadBits" : PySem.Str), ("Full" : PySem.Str), ("BadEvent" : PySem.Str), ("BadText" : PySem.Str), ("LEAST" : PySem.Str), ("MOST" : PySem.Str), ("WORDS" : PySem.Str), ("need_setting" : PySem.Str), ("need_mark" : PySem.Str), ("need_bits" : PySem.Str), ("Ear" : PySem.Str), ("Mouth" : PySem.Str), ("MOST_EVENTS" : PySem.Str), ("World" : PySem.Str), ("played" : PySem.Str), ("_law_dice" : PySem.Str), ("_law_next" : PySem.Str), ("_law_like" : PySem.Str), ("_law_setting" : PySem.Str), ("_law_safe" : PySem.Str), ("_law_ear" : PySem.Str), ("_law_taken" : PySem.Str), ("_law_come" : PySem.Str), ("_law_tell" : PySem.Str), ("_law_mouth" : PySem.Str), ("_law_is_full" : PySem.Str), ("_law_hear" : PySem.Str), ("_law_world" : PySem.Str), ("_law_can" : PySem.Str), ("_law_do" : PySem.Str), ("_law_event" : PySem.Str), ("_law_events" : PySem.Str), ("_law_played" : PySem.Str), ("_law_told" : PySem.Str), ("_law_odd" : PySem.Str)]
theorem run (w : World) : HandSHeadRun.RunEq R (PySem.W.view R.prog [44]) hk ob 4000 looseN w := by
  intro os
  kernel_rfl
end Ak
/-! The common part: what a def keeps (Aft), what stands now (Now), the dice, calls by name. -/
namespace Ak
open PySem PySem.Spec PyProof.Rows L2

/-! ### what is kept -/
structure Aft (M : List Addr) (H H' : Hp) : Prop where
  k : ∀ b o, H b = some o → b ∉ M → H' b = some o
  t : ∀ b xs, H b = some (.tup xs) → H' b = some (.tup xs)
  z : ∀ b u o, H b = some (.frz u o) → H' b = some (.frz u o)
section
variable {M M' : List Addr} {H H' H1 H2 : Hp} {p : Addr} {o u : HO} {K : PySem.W.Frag} {a : Addr} {xs : List V}
theorem Aft.refl : Aft M H H := ⟨fun _ _ h _ => h, fun _ _ h => h, fun _ _ _ h => h⟩
theorem Aft.trans (a : Aft M H H1) (b : Aft M H1 H2) : Aft M H H2 :=
  ⟨fun c o h hm => b.k c o (a.k c o h hm) hm, fun c xs h => b.t c xs (a.t c xs h), fun c v o h => b.z c v o (a.z c v o h)⟩
theorem Aft.mono (a : Aft M H H') (h : ∀ x ∈ M, x ∈ M') : Aft M' H H' := ⟨fun b o e hm => a.k b o e fun z => hm (h b z), a.t, a.z⟩
/-- behind a call that changes M' -/
theorem Aft.call (a : Aft M H H1) (b : Aft M' H1 H2) (h : ∀ x ∈ M', x ∈ M ∨ H x = none) : Aft M H H2 :=
  ⟨fun c o e hm => b.k c o (a.k c o e hm) fun z => (h c z).elim hm fun n => (by rw [n] at e; cases e), fun c xs h => b.t c xs (a.t c xs h), fun c v o h => b.z c v o (a.z c v o h)⟩
theorem Aft.new (a : Aft M H H') (hp : H' p = none) : Aft M H (upd H' p o) :=
  ⟨fun b v e hm => by rw [upd_ne (ne_of_none (a.k b v e hm) hp)]; exact a.k b v e hm,
   fun b xs e => by rw [upd_ne (ne_of_none (a.t b xs e) hp)]; exact a.t b xs e,
   fun b v w e => by rw [upd_ne (ne_of_none (a.z b v w e) hp)]; exact a.z b v w e⟩
theorem Aft.put (a : Aft M H H') (hp : H' p = some u) (hn : Mut (some u)) (hw : p ∈ M ∨ H p = none) : Aft M H (upd H' p o) := by
  refine ⟨fun b v e hm => ?_, fun b xs e => ?_, fun b v w e => ?_⟩
  · have ne : b ≠ p := by
      rintro rfl
      rcases hw with z | z
      · exact hm z
      · rw [z] at e; cases e
    rw [upd_ne ne]; exact a.k b v e hm
  · have ne : b ≠ p := by
      rintro rfl
      have q := a.t b xs e
      rw [hp] at q
      cases q
      exact hn
    rw [upd_ne ne]; exact a.t b xs e
  · have ne : b ≠ p := by
      rintro rfl
      have q := a.z b v w e
      rw [hp] at q
      cases q
      exact hn
    rw [upd_ne ne]; exact a.z b v w e
theorem Aft.free (a : Aft M H H') (hm : p ∉ M) (h : H' p = none) : H p = none := by
  cases q : H p with
  | none => rfl
  | some o => rw [a.k p o q hm] at h; cases h
theorem Aft.sqt (e : Aft M H H') (h : SqT K H a xs) : SqT K H' a xs := by
  rcases h with (h | ⟨o, h⟩) | h
  · exact .inl (.inl (e.t _ _ h))
  · exact .inl (.inr ⟨o, e.z _ _ _ h⟩)
  · exact .inr h
/-- the script: locked, or the module's own -/
def Scr (K : PySem.W.Frag) (H : Hp) (a : Addr) (xs : List V) : Prop := (∃ u, H a = some (.frz u (.lst xs))) ∨
  ∃ (o : Obj) (its : Array Value) (n : Nat), K.lookup a = some o ∧ o.cls = .type "list" ∧ o.dict = none ∧ o.data = .seq its n ∧ its.size ≤ sizeLine ∧ Vals xs its.toList
theorem Scr.sq (h : Scr K H a xs) : SqL K H a xs := h.elim (fun ⟨u, h⟩ => .inl (.inr ⟨u, h⟩)) .inr
theorem Scr.keep (h : Scr K H a xs) (e : Aft M H H') : Scr K H' a xs := h.elim (fun ⟨u, h⟩ => .inl ⟨u, e.z _ _ _ h⟩) .inr
theorem Scr.only (hO : Only H) (h : SqL K H a xs) : Scr K H a xs := by
  rcases h with (h | h) | h
  · rcases hO a with z | ⟨u, ys, z⟩
    · rw [z] at h; cases h
    · rw [z] at h; cases h
  · exact .inl h
  · exact .inr h
end

/-! ### the dice: a list of the script, a place, two numbers -/
abbrev dO (a : Addr) (i m r : Int) : HO := .lst [.ref a, .int i, .int m, .int r]
structure Dice (K : PySem.W.Frag) (H : Hp) (d : Addr) : Prop where
  ex : ∃ (a : Addr) (ns : List Int) (i m r : Int), H d = some (dO a i m r) ∧ Scr K H a (ns.map V.int) ∧ ns.length ≤ 63 ∧ 0 ≤ i ∧ 0 ≤ m ∧ m < 2147483647
section
variable {K : PySem.W.Frag} {H H' : Hp} {d : Addr} {M : List Addr}
theorem Dice.lst (h : Dice K H d) : ∃ xs, H d = some (.lst xs) := by
  obtain ⟨a, ns, i, m, r, h, _⟩ := h.ex
  exact ⟨_, h⟩
theorem Dice.keep (h : Dice K H d) (e : Aft M H H') (hd : d ∉ M) : Dice K H' d := by
  obtain ⟨a, ns, i, m, r, h1, h2, h3⟩ := h.ex
  exact ⟨a, ns, i, m, r, e.k _ _ h1 hd, h2.keep e, h3⟩
end

/-! ### what stands now -/
structure Cel where
  w : Bool
  a : Addr
  o : HO
/-- l: the cells, the own ones (w) may be changed; ts: tuples; M: what may be changed of H0's; D: the dice -/
structure Now (K : PySem.W.Frag) (D : Option Addr) (M : List Addr) (H0 H : Hp) (l : List Cel) (ts : List (Addr × List V)) : Prop where
  nd : (l.map Cel.a).Nodup
  at_ : ∀ c ∈ l, H c.a = some c.o
  mu : ∀ c ∈ l, Mut (some c.o)
  ow : ∀ c ∈ l, c.w = true → c.a ∈ M ∨ H0 c.a = none
  tp : ∀ p ∈ ts, H p.1 = some (.tup p.2)
  af : Aft M H0 H
  dc : ∀ d, D = some d → Dice K H d ∧ (d ∈ M ∨ H0 d = none) ∧ d ∉ l.map Cel.a
section
variable {K : PySem.W.Frag} {D : Option Addr} {M M' : List Addr} {H0 H H' : Hp} {l l' : List Cel} {ts : List (Addr × List V)} {p a d : Addr} {o u : HO} {xs : List V} {c : Cel} {w : Bool}
theorem Now.get (N : Now K D M H0 H l ts) (i : Nat) (h : l[i]? = some c) : H c.a = some c.o := N.at_ c (List.mem_of_getElem? h)
theorem Now.cell (N : Now K D M H0 H l ts) (i : Nat) (h : l[i]? = some ⟨w, a, o⟩) : H a = some o := N.get i h
theorem Now.tup (N : Now K D M H0 H l ts) (i : Nat) (h : ts[i]? = some (a, xs)) : H a = some (.tup xs) := N.tp _ (List.mem_of_getElem? h)
theorem Now.free (N : Now K D M H0 H l ts) (hp : H p = none) : p ∉ l.map Cel.a := fun m => by
  obtain ⟨c, hc, e⟩ := List.mem_map.mp m
  have q := N.at_ c hc
  rw [e, hp] at q; cases q
/-- a new tuple -/
theorem Now.newT (N : Now K D M H0 H l ts) (hp : H p = none) : Now K D M H0 (upd H p (.tup xs)) l ((p, xs) :: ts) where
  nd := N.nd
  at_ := fun c hc => by rw [upd_ne (ne_of_none (N.at_ c hc) hp)]; exact N.at_ c hc
  mu := N.mu
  ow := N.ow
  tp := fun q hq => by
    rcases List.mem_cons.mp hq with e | hq
    · subst e; exact upd_same
    · rw [upd_ne (ne_of_none (N.tp q hq) hp)]; exact N.tp q hq
  af := N.af.new hp
  dc := fun d e => by
    obtain ⟨h1, h2, h3⟩ := N.dc d e
    exact ⟨h1.keep (M := []) (Aft.refl.new hp) (by simp), h2, h3⟩
/-- a new cell -/
theorem Now.newC (N : Now K D M H0 H l ts) (hp : H p = none) (hm : Mut (some o)) : Now K D M H0 (upd H p o) (⟨true, p, o⟩ :: l) ts where
  nd := List.nodup_cons.mpr ⟨N.free hp, N.nd⟩
  at_ := fun c hc => by
    rcases List.mem_cons.mp hc with e | hc
    · subst e; exact upd_same
    · rw [upd_ne (ne_of_none (N.at_ c hc) hp)]; exact N.at_ c hc
  mu := fun c hc => by
    rcases List.mem_cons.mp hc with e | hc
    · subst e; exact hm
    · exact N.mu c hc
  ow := fun c hc hw => by
    rcases List.mem_cons.mp hc with e | hc
    · subst e
      by_cases z : p ∈ M
      · exact .inl z
      · exact .inr (N.af.free z hp)
    · exact N.ow c hc hw
  tp := fun q hq => by rw [upd_ne (ne_of_none (N.tp q hq) hp)]; exact N.tp q hq
  af := N.af.new hp
  dc := fun d e => by
    obtain ⟨h1, h2, h3⟩ := N.dc d e
    refine ⟨h1.keep (M := []) (Aft.refl.new hp) (by simp), h2, ?_⟩
    intro m
    rcases List.mem_cons.mp m with q | q
    · obtain ⟨ys, hy⟩ := h1.lst
      rw [q] at hy
      have z : H p = some (.lst ys) := hy
      rw [hp] at z; cases z
    · exact h3 q
theorem nodup_at {l : List Cel} (nd : (l.map Cel.a).Nodup) {i j : Nat} {c c' : Cel} (h : l[i]? = some c) (h' : l[j]? = some c') (e : c.a = c'.a) : i = j := by
  have h1 : (l.map Cel.a)[i]? = some c.a := by rw [List.getElem?_map, h]; rfl
  have h2 : (l.map Cel.a)[j]? = some c.a := by rw [List.getElem?_map, h', e]; rfl
  obtain ⟨b1, e1⟩ := List.getElem?_eq_some_iff.mp h1
  obtain ⟨b2, e2⟩ := List.getElem?_eq_some_iff.mp h2
  exact (List.getElem_inj nd).mp (e1.trans e2.symm)
theorem set_map {l : List Cel} {i : Nat} {o o' : HO} (h : l[i]? = some ⟨w, a, o⟩) : (l.set i ⟨w, a, o'⟩).map Cel.a = l.map Cel.a := by
  rw [List.map_set]
  have h1 : (l.map Cel.a)[i]? = some a := by rw [List.getElem?_map, h]; rfl
  obtain ⟨b, e⟩ := List.getElem?_eq_some_iff.mp h1
  show (l.map Cel.a).set i a = _
  rw [← e]
  exact List.set_getElem_self b
/-- a cell is written: directly, or by a call that changes it alone -/
theorem Now.set (N : Now K D M H0 H l ts) (i : Nat) (h : l[i]? = some ⟨true, a, o⟩) (A : Aft [a] H H') (hu : H' a = some u) (hm : Mut (some u)) : Now K D M H0 H' (l.set i ⟨true, a, u⟩) ts := by
  have mem := List.mem_of_getElem? h
  have other : ∀ c ∈ l, c.a ≠ a → H' c.a = some c.o := fun c hc ne => A.k _ _ (N.at_ c hc) (by simpa using ne)
  have cases_ : ∀ c ∈ l.set i ⟨true, a, u⟩, c = ⟨true, a, u⟩ ∨ (c ∈ l ∧ c.a ≠ a) := fun c hc => by
    obtain ⟨j, hj⟩ := List.getElem?_of_mem hc
    by_cases e : i = j
    · subst e
      rw [List.getElem?_set_self (List.getElem?_eq_some_iff.mp h).1] at hj
      exact .inl (Option.some.inj hj).symm
    · rw [List.getElem?_set_ne e] at hj
      exact .inr ⟨List.mem_of_getElem? hj, fun q => e (nodup_at N.nd h hj q.symm)⟩
  refine ⟨by rw [set_map h]; exact N.nd, fun c hc => ?_, fun c hc => ?_, fun c hc hw => ?_, fun q hq => A.t _ _ (N.tp q hq), N.af.call A (by simpa using N.ow _ mem rfl), fun d e => ?_⟩
  · rcases cases_ c hc with e | ⟨hc, ne⟩
    · subst e; exact hu
    · exact other c hc ne
  · rcases cases_ c hc with e | ⟨hc, ne⟩
    · subst e; exact hm
    · exact N.mu c hc
  · rcases cases_ c hc with e | ⟨hc, ne⟩
    · subst e; exact N.ow ⟨true, a, o⟩ mem rfl
    · exact N.ow c hc hw
  · obtain ⟨h1, h2, h3⟩ := N.dc d e
    rw [set_map h]
    exact ⟨h1.keep A (by
      intro m
      have e : d = a := by simpa using m
      subst e
      exact h3 (List.mem_map.mpr ⟨_, mem, rfl⟩)), h2, h3⟩
theorem Now.put (N : Now K D M H0 H l ts) (i : Nat) (h : l[i]? = some ⟨true, a, o⟩) (hm : Mut (some u)) : Now K D M H0 (upd H a u) (l.set i ⟨true, a, u⟩) ts :=
  N.set i h (Aft.refl.put (N.cell i h) (N.mu _ (List.mem_of_getElem? h)) (.inl (by simp))) upd_same hm
/-- a call that changes nothing -/
theorem Now.pure (N : Now K D M H0 H l ts) (A : Aft [] H H') : Now K D M H0 H' l ts where
  nd := N.nd
  at_ := fun c hc => A.k _ _ (N.at_ c hc) (by simp)
  mu := N.mu
  ow := N.ow
  tp := fun q hq => A.t _ _ (N.tp q hq)
  af := N.af.call A (by simp)
  dc := fun d e => by
    obtain ⟨h1, h2, h3⟩ := N.dc d e
    exact ⟨h1.keep A (by simp), h2, h3⟩
/-- a call that rolls the dice -/
theorem Now.roll (N : Now K (some d) M H0 H l ts) (A : Aft [d] H H') (hd : Dice K H' d) : Now K (some d) M H0 H' l ts where
  nd := N.nd
  at_ := fun c hc => A.k _ _ (N.at_ c hc) (by
    intro m
    have e : c.a = d := by simpa using m
    exact (N.dc d rfl).2.2 (List.mem_map.mpr ⟨c, hc, e⟩))
  mu := N.mu
  ow := N.ow
  tp := fun q hq => A.t _ _ (N.tp q hq)
  af := N.af.call A (by simpa using (N.dc d rfl).2.1)
  dc := fun d' e => by
    cases e
    exact ⟨hd, (N.dc d rfl).2⟩
/-- cells are forgotten, or in another order -/
theorem Now.sub (N : Now K D M H0 H l ts) (l' : List Cel) (h : ∀ c ∈ l', c ∈ l) (nd : (l'.map Cel.a).Nodup) : Now K D M H0 H l' ts where
  nd := nd
  at_ := fun c hc => N.at_ c (h c hc)
  mu := fun c hc => N.mu c (h c hc)
  ow := fun c hc => N.ow c (h c hc)
  tp := N.tp
  af := N.af
  dc := fun d e => by
    obtain ⟨h1, h2, h3⟩ := N.dc d e
    exact ⟨h1, h2, fun m => by
      obtain ⟨c, hc, e⟩ := List.mem_map.mp m
      exact h3 (List.mem_map.mpr ⟨c, h c hc, e⟩)⟩
theorem Now.tl (N : Now K D M H0 H (c :: l) ts) : Now K D M H0 H l ts := N.sub l (fun _ h => List.mem_cons_of_mem _ h) (List.nodup_cons.mp N.nd).2
theorem Now.tl1 {c' : Cel} (N : Now K D M H0 H (c' :: c :: l) ts) : Now K D M H0 H (c' :: l) ts := N.sub _ (fun x h => by
  rcases List.mem_cons.mp h with e | h
  · exact List.mem_cons.mpr (.inl e)
  · exact List.mem_cons_of_mem _ (List.mem_cons_of_mem _ h)) (by
  have := N.nd
  simp only [List.map_cons, List.nodup_cons, List.mem_cons, not_or] at this ⊢
  exact ⟨this.1.2, this.2.2⟩)
theorem Now.subT (N : Now K D M H0 H l ts) (ts' : List (Addr × List V)) (h : ∀ p ∈ ts', p ∈ ts) : Now K D M H0 H l ts' := ⟨N.nd, N.at_, N.mu, N.ow, fun p hp => N.tp p (h p hp), N.af, N.dc⟩
theorem Now.moreT (N : Now K D M H0 H l ts) (h : H p = some (.tup xs)) : Now K D M H0 H l ((p, xs) :: ts) := ⟨N.nd, N.at_, N.mu, N.ow, fun q hq => by
  rcases List.mem_cons.mp hq with e | hq
  · subst e; exact h
  · exact N.tp q hq, N.af, N.dc⟩
/-- the start of a def -/
theorem Now.start (nd : (l.map Cel.a).Nodup) (at_ : ∀ c ∈ l, H c.a = some c.o ∧ Mut (some c.o) ∧ (c.w = true → c.a ∈ M)) (tp : ∀ p ∈ ts, H p.1 = some (.tup p.2)) (dc : ∀ d, D = some d → Dice K H d ∧ d ∈ M ∧ d ∉ l.map Cel.a) : Now K D M H H l ts :=
  ⟨nd, fun c hc => (at_ c hc).1, fun c hc => (at_ c hc).2.1, fun c hc hw => .inl ((at_ c hc).2.2 hw), tp, .refl, fun d e => ⟨(dc d e).1, .inl (dc d e).2.1, (dc d e).2.2⟩⟩
theorem Now.start0 (tp : ∀ p ∈ ts, H p.1 = some (.tup p.2)) : Now K none M H H [] ts := .start (by simp) (by simp) tp (by simp)
theorem Now.startD (hd : Dice K H d) (tp : ∀ p ∈ ts, H p.1 = some (.tup p.2)) : Now K (some d) [d] H H [] ts := .start (by simp) (by simp) tp (by simp [hd])
end
end Ak
namespace Ak
open PySem PySem.Spec PyProof.Rows L2
/-! ### readings, step by step -/
section
variable {σ : L2.St} {H : Hp} {D : Ends} {t u : TS} {te ta tb tc : TE} {tr : TA} {g : TG} {Q : VK} {tt tu : TT} {v x y : V} {i : Nat} {K : PySem.W.Frag}
variable {nx bk ct : L2.St → Hp → Prop} {rt : VK}
theorem k_seq (h : t ⟨u ⟨nx, rt, bk, ct⟩, rt, bk, ct⟩ σ H) : tSeq t u ⟨nx, rt, bk, ct⟩ σ H := h
theorem k_next (h : nx σ H) : tNext ⟨nx, rt, bk, ct⟩ σ H := h
theorem k_asg (h : te σ H fun x H1 => g x σ H1 nx) : tAsg te g ⟨nx, rt, bk, ct⟩ σ H := h
theorem k_gname {Q : L2.St → Hp → Prop} (h : Q (σ.set i (some v)) H) : gName i v σ H Q := h
theorem k_drop (h : te σ H fun _ H1 => nx σ H1) : tDrop te ⟨nx, rt, bk, ct⟩ σ H := h
theorem k_ret (h : te σ H rt) : tRet te ⟨nx, rt, bk, ct⟩ σ H := h
theorem k_retN (h : rt .non H) : tRetN ⟨nx, rt, bk, ct⟩ σ H := h
/-- the two ways of an if -/
def cIf (t u : TS) (D : Ends) (σ : L2.St) : Bool → Hp → Prop := fun b H => if b = true then t D σ H else u D σ H
theorem k_if (h : tt σ H (cIf t u D σ)) : tIfS tt t u D σ H := h
theorem c_ifT (h : t D σ H) : cIf t u D σ true H := h
theorem c_ifF (h : u D σ H) : cIf t u D σ false H := h
theorem c_if {b : Bool} (h1 : b = true → t D σ H) (h2 : b = false → u D σ H) : cIf t u D σ b H := by
  cases b with
  | true => exact h1 rfl
  | false => exact h2 rfl
theorem c_ifd {p : Prop} [Decidable p] (h1 : p → t D σ H) (h2 : ¬ p → u D σ H) : cIf t u D σ (decide p) H :=
  c_if (fun e => h1 (of_decide_eq_true e)) (fun e => h2 (of_decide_eq_false e))
theorem c_ifdT {p : Prop} [Decidable p] (hp : p) (h1 : t D σ H) : cIf t u D σ (decide p) H := c_ifd (fun _ => h1) fun n => (n hp).elim
theorem c_ifdF {p : Prop} [Decidable p] (hp : ¬ p) (h1 : u D σ H) : cIf t u D σ (decide p) H := c_ifd (fun n => (hp n).elim) fun _ => h1
/-- two names at once -/
def cPar (i j : Nat) (nx : L2.St → Hp → Prop) (σ : L2.St) : List V → Hp → Prop := fun vs H1 => ∃ v w, vs = [v, w] ∧ nx ((σ.set i (some v)).set j (some w)) H1
theorem k_par {i j : Nat} (h : tr σ H (cPar i j nx σ)) : tPar i j tr ⟨nx, rt, bk, ct⟩ σ H := h
theorem e_par {i j : Nat} {v w : V} (h : nx ((σ.set i (some v)).set j (some w)) H) : cPar i j nx σ [v, w] H := ⟨v, w, rfl, h⟩
/-- loops -/
def cFor (K : PySem.W.Frag) (g : TG) (tb : TS) (D : Ends) (σ : L2.St) : VK := fun x H1 => ∃ a, x = .ref a ∧ (∃ xs, SqL K H1 a xs) ∧
  ∃ W : Nat → Nat → L2.St → Hp → Prop, (∃ m, W 0 m σ H1) ∧ ∀ i m σ H, W i m σ H →
  ((Itl K a).stop i H ∧ D.nx σ H) ∨ ((Itl K a).go i H ∧ ∃ N : L2.St → Hp → Prop, (∀ σ' H', N σ' H' → ∃ m', m' < m ∧ W (i + 1) m' σ' H') ∧ ∀ x H', (Itl K a).yld i H x H' → g x σ H' fun σ2 H2 => tb { D with nx := N, ct := N, bk := D.nx } σ2 H2)
theorem k_for {tl : TE} (h : tl σ H (cFor K g t D σ)) : tFor (iList K tl) g t D σ H := h
theorem c_for {a : Addr} {xs : List V} (Pv : Nat → L2.St → Hp → Prop) (h0 : Pv 0 σ H) (hl : ∀ i σ H, i ≤ xs.length → Pv i σ H → SqL K H a xs)
    (hs : ∀ i x σ H, xs[i]? = some x → Pv i σ H → g x σ H fun σ2 H2 => t ⟨Pv (i + 1), rt, nx, Pv (i + 1)⟩ σ2 H2) (hd : ∀ σ H, Pv xs.length σ H → nx σ H) : cFor K g t ⟨nx, rt, bk, ct⟩ σ (.ref a) H :=
  ⟨a, rfl, ⟨xs, hl 0 σ H (Nat.zero_le _) h0⟩, for_list (D := ⟨nx, rt, bk, ct⟩) Pv h0 hl hs hd⟩
def cForT (K : PySem.W.Frag) (g : TG) (tb : TS) (D : Ends) (σ : L2.St) : VK := fun x H1 => ∃ a, x = .ref a ∧ (∃ xs, SqT K H1 a xs) ∧
  ∃ W : Nat → Nat → L2.St → Hp → Prop, (∃ m, W 0 m σ H1) ∧ ∀ i m σ H, W i m σ H →
  ((Itt K a).stop i H ∧ D.nx σ H) ∨ ((Itt K a).go i H ∧ ∃ N : L2.St → Hp → Prop, (∀ σ' H', N σ' H' → ∃ m', m' < m ∧ W (i + 1) m' σ' H') ∧ ∀ x H', (Itt K a).yld i H x H' → g x σ H' fun σ2 H2 => tb { D with nx := N, ct := N, bk := D.nx } σ2 H2)
theorem k_forT {tl : TE} (h : tl σ H (cForT K g t D σ)) : tFor (iTup K tl) g t D σ H := h
theorem c_forT {a : Addr} {xs : List V} (Pv : Nat → L2.St → Hp → Prop) (h0 : Pv 0 σ H) (hl : ∀ i σ H, i ≤ xs.length → Pv i σ H → SqT K H a xs)
    (hs : ∀ i x σ H, xs[i]? = some x → Pv i σ H → g x σ H fun σ2 H2 => t ⟨Pv (i + 1), rt, nx, Pv (i + 1)⟩ σ2 H2) (hd : ∀ σ H, Pv xs.length σ H → nx σ H) : cForT K g t ⟨nx, rt, bk, ct⟩ σ (.ref a) H :=
  ⟨a, rfl, ⟨xs, hl 0 σ H (Nat.zero_le _) h0⟩, for_tup (D := ⟨nx, rt, bk, ct⟩) Pv h0 hl hs hd⟩
def cForR (g : TG) (tb : TS) (D : Ends) (σ : L2.St) : List V → Hp → Prop := fun vs H1 => ∃ j : Int, vs = [.int j] ∧ -(2 ^ 62) ≤ j ∧ j < 2 ^ 62 ∧
  ∃ W : Nat → Nat → L2.St → Hp → Prop, (∃ m, W 0 m σ H1) ∧ ∀ i m σ H, W i m σ H →
  ((Itr 0 j.toNat).stop i H ∧ D.nx σ H) ∨ ((Itr 0 j.toNat).go i H ∧ ∃ N : L2.St → Hp → Prop, (∀ σ' H', N σ' H' → ∃ m', m' < m ∧ W (i + 1) m' σ' H') ∧ ∀ x H', (Itr 0 j.toNat).yld i H x H' → g x σ H' fun σ2 H2 => tb { D with nx := N, ct := N, bk := D.nx } σ2 H2)
theorem k_forR (h : tr σ H (cForR g t D σ)) : tFor (iRng1 tr) g t D σ H := h
theorem c_forR {n : Int} (hn : -100000 ≤ n ∧ n ≤ 100000) (Pv : Nat → L2.St → Hp → Prop) (h0 : Pv 0 σ H)
    (hs : ∀ (i : Nat) σ H, (i : Int) < n → Pv i σ H → g (.int (i : Int)) σ H fun σ2 H2 => t ⟨Pv (i + 1), rt, nx, Pv (i + 1)⟩ σ2 H2) (hd : ∀ σ H, Pv n.toNat σ H → nx σ H) : cForR g t ⟨nx, rt, bk, ct⟩ σ [.int n] H :=
  ⟨n, rfl, by omega, by omega, for_range (D := ⟨nx, rt, bk, ct⟩) (lo := 0) Pv h0 (fun i σ H hi p => by
    rw [show (0 : Int) + (i : Int) = (i : Int) from Int.zero_add _]
    exact hs i σ H (by omega) p) hd⟩
theorem k_var (h : σ[i]? = some (some v)) (k : Q v H) : tVar i σ H Q := ⟨v, h, k⟩
theorem k_c (h : Q v H) : tC v σ H Q := h
theorem k_op {r : R2} (h : ta σ H fun x H1 => tb σ H1 fun y H2 => r x y H2 Q) : tOp r ta tb σ H Q := h
theorem k_un {r : V → Hp → VK → Prop} (h : ta σ H fun x H1 => r x H1 Q) : tUn r ta σ H Q := h
def cCh (r' : R2) (tc : TE) (σ : L2.St) (y : V) (Q : VK) : VK := fun z H3 => ∃ k, z = .bl k ∧ (if k = true then tc σ H3 fun w' H4 => r' y w' H4 Q else Q (.bl false) H3)
theorem k_chain {r r' : R2} (h : ta σ H fun x H1 => tb σ H1 fun y H2 => r x y H2 (cCh r' tc σ y Q)) : tChain r r' ta tb tc σ H Q := h
theorem c_ch {r' : R2} {y : V} {b : Bool} (h1 : b = true → tc σ H fun w' H4 => r' y w' H4 Q) (h2 : b = false → Q (.bl false) H) : cCh r' tc σ y Q (.bl b) H := ⟨b, rfl, by
  cases b with
  | true => exact h1 rfl
  | false => exact h2 rfl⟩
def cT (Q : Bool → Hp → Prop) : VK := fun x H' => ∃ k, x = .bl k ∧ Q k H'
theorem k_test {Q : Bool → Hp → Prop} (h : te σ H (cT Q)) : tTest te σ H Q := h
theorem k_tB {Q : Bool → Hp → Prop} (h : te σ H (cT Q)) : tB te σ H Q := h
theorem e_bl {Q : Bool → Hp → Prop} {b : Bool} (h : Q b H) : cT Q (.bl b) H := ⟨b, rfl, h⟩
def cNt (Q : Bool → Hp → Prop) : Bool → Hp → Prop := fun c H1 => Q (!c) H1
theorem k_not {Q : Bool → Hp → Prop} (h : tt σ H (cNt Q)) : tNot tt σ H Q := h
theorem c_nt {Q : Bool → Hp → Prop} {b : Bool} (h : Q (!b) H) : cNt Q b H := h
theorem c_ntT {Q : Bool → Hp → Prop} (h : Q false H) : cNt Q true H := h
theorem c_ntF {Q : Bool → Hp → Prop} (h : Q true H) : cNt Q false H := h
theorem c_ntD {Q : Bool → Hp → Prop} {p : Prop} [Decidable p] (h : Q (decide (¬ p)) H) : cNt Q (decide p) H := by
  show Q (!decide p) H
  rw [← decide_not]
  exact h
def cAnd (u : TT) (σ : L2.St) (Q : Bool → Hp → Prop) : Bool → Hp → Prop := fun c H1 => if c = true then u σ H1 Q else Q false H1
def cOr (u : TT) (σ : L2.St) (Q : Bool → Hp → Prop) : Bool → Hp → Prop := fun c H1 => if c = true then Q true H1 else u σ H1 Q
theorem k_and {Q : Bool → Hp → Prop} (h : tt σ H (cAnd tu σ Q)) : tAnd tt tu σ H Q := h
theorem k_or {Q : Bool → Hp → Prop} (h : tt σ H (cOr tu σ Q)) : tOr tt tu σ H Q := h
theorem c_and {Q : Bool → Hp → Prop} {b : Bool} (h1 : b = true → tu σ H Q) (h2 : b = false → Q false H) : cAnd tu σ Q b H := by
  cases b with
  | true => exact h1 rfl
  | false => exact h2 rfl
theorem c_or {Q : Bool → Hp → Prop} {b : Bool} (h1 : b = true → Q true H) (h2 : b = false → tu σ H Q) : cOr tu σ Q b H := by
  cases b with
  | true => exact h1 rfl
  | false => exact h2 rfl
/-- the second test's answer is told whatever the first is -/
theorem c_and' {Q : Bool → Hp → Prop} {b c : Bool} (h1 : ∀ Q', Q' c H → tu σ H Q') (h : Q (b && c) H) : cAnd tu σ Q b H := by
  cases b with
  | true => exact h1 _ h
  | false => exact h
theorem c_or' {Q : Bool → Hp → Prop} {b c : Bool} (h1 : ∀ Q', Q' c H → tu σ H Q') (h : Q (b || c) H) : cOr tu σ Q b H := by
  cases b with
  | true => exact h
  | false => exact h1 _ h
def cAndV (tb : TE) (σ : L2.St) (Q : VK) : VK := fun x H1 => ∃ c, x = .bl c ∧ if c = true then tb σ H1 Q else Q (.bl false) H1
def cOrV (tb : TE) (σ : L2.St) (Q : VK) : VK := fun x H1 => ∃ c, x = .bl c ∧ if c = true then Q (.bl true) H1 else tb σ H1 Q
def cNotV (Q : VK) : VK := fun x H1 => ∃ c, x = .bl c ∧ Q (.bl (!c)) H1
theorem k_andV (h : ta σ H (cAndV tb σ Q)) : tAndV ta tb σ H Q := h
theorem k_orV (h : ta σ H (cOrV tb σ Q)) : tOrV ta tb σ H Q := h
theorem e_andV {b : Bool} (h1 : b = true → tb σ H Q) (h2 : b = false → Q (.bl false) H) : cAndV tb σ Q (.bl b) H := ⟨b, rfl, by
  cases b with
  | true => exact h1 rfl
  | false => exact h2 rfl⟩
theorem e_orV {b : Bool} (h1 : b = true → Q (.bl true) H) (h2 : b = false → tb σ H Q) : cOrV tb σ Q (.bl b) H := ⟨b, rfl, by
  cases b with
  | true => exact h1 rfl
  | false => exact h2 rfl⟩
theorem k_notV (h : ta σ H (cNotV Q)) : tNotV ta σ H Q := h
def cIfE (ta tb : TE) (σ : L2.St) (Q : VK) : Bool → Hp → Prop := fun c H1 => if c = true then ta σ H1 Q else tb σ H1 Q
theorem k_ifE (h : tt σ H (cIfE ta tb σ Q)) : tIf tt ta tb σ H Q := h
theorem c_ifE {b : Bool} (h1 : b = true → ta σ H Q) (h2 : b = false → tb σ H Q) : cIfE ta tb σ Q b H := by
  cases b with
  | true => exact h1 rfl
  | false => exact h2 rfl
theorem c_ifEV {b : Bool} {v : V} (h1 : b = true → ∀ Q' : VK, Q' v H → ta σ H Q') (h2 : b = false → ∀ Q' : VK, Q' v H → tb σ H Q') (q : Q v H) : cIfE ta tb σ Q b H := by
  cases b with
  | true => exact h1 rfl _ q
  | false => exact h2 rfl _ q
theorem k_cons {Q : List V → Hp → Prop} (h : ta σ H fun x H1 => tr σ H1 fun xs H2 => Q (x :: xs) H2) : tCons ta tr σ H Q := h
theorem k_nil {Q : List V → Hp → Prop} (h : Q [] H) : tNil σ H Q := h
def cTup (Q : VK) : List V → Hp → Prop := fun xs H1 => xs.length ≤ sizeLine ∧ ∀ p, H1 p = none → Q (.ref p) (upd H1 p (.tup xs))
def cLst (Q : VK) : List V → Hp → Prop := fun xs H1 => xs.length ≤ sizeLine ∧ ∀ p, H1 p = none → Q (.ref p) (upd H1 p (.lst xs))
theorem k_tup (h : tr σ H (cTup Q)) : tTup tr σ H Q := h
theorem k_lst (h : tr σ H (cLst Q)) : tLst tr σ H Q := h
theorem k_call {sp : Sp} {dvs : List V} {E : XK} (h : tr σ H fun vs H1 => sp (vs ++ dvs) H1 Q E) : tCall sp dvs E tr σ H Q := h
theorem k_cb {r : List V → Hp → VK → Prop} (h : tr σ H fun vs H1 => r vs H1 Q) : tCB r tr σ H Q := h
theorem k_I0 {f : Int → Int → V} {a b : Int} (h : Q (f a b) H) : rI0 f (.int a) (.int b) H Q := ⟨a, b, rfl, rfl, h⟩
theorem k_I {C : Int → Int → Prop} {f : Int → Int → V} {a b : Int} (hc : C a b) (h : Q (f a b) H) : rI C f (.int a) (.int b) H Q := ⟨a, b, rfl, rfl, hc, h⟩
theorem k_U {f : Int → V} {a : Int} (h : Q (f a) H) : rU f (.int a) H Q := ⟨a, rfl, h⟩
theorem k_eq (hs : scal x y = true) (h : Q (.bl (decide (x = y))) H) : rEq x y H Q := ⟨hs, h⟩
theorem k_ne (hs : scal x y = true) (h : Q (.bl (!decide (x = y))) H) : rNe x y H Q := ⟨hs, h⟩
theorem k_eqI {a b : Int} (h : Q (.bl (decide (a = b))) H) : rEq (.int a) (.int b) H Q := ⟨rfl, by
  have e : decide (V.int a = V.int b) = decide (a = b) := by by_cases q : a = b <;> simp [q]
  rw [e]; exact h⟩
theorem k_neI {a b : Int} (h : Q (.bl (decide (a ≠ b))) H) : rNe (.int a) (.int b) H Q := ⟨rfl, by
  have e : (!decide (V.int a = V.int b)) = decide (a ≠ b) := by by_cases q : a = b <;> simp [q]
  rw [e]; exact h⟩
end

/-! ### answers that are known -/
section
variable {σ : L2.St} {H : Hp} {t u : TS} {D : Ends} {ta tb : TE} {tu : TT} {Q : VK} {x : V}
theorem k_eqS (hs : scal x x = true) (h : Q (.bl true) H) : rEq x x H Q := ⟨hs, by rw [decide_eq_true rfl]; exact h⟩
theorem k_neS (hs : scal x x = true) (h : Q (.bl false) H) : rNe x x H Q := ⟨hs, by rw [decide_eq_true rfl]; exact h⟩
theorem k_eqB {a b : Bool} (h : Q (.bl (decide (a = b))) H) : rEq (.bl a) (.bl b) H Q := ⟨rfl, by
  have e : decide (V.bl a = V.bl b) = decide (a = b) := by cases a <;> cases b <;> rfl
  rw [e]; exact h⟩
theorem e_andT (h : tb σ H Q) : cAndV tb σ Q (.bl true) H := ⟨true, rfl, h⟩
theorem e_andF (h : Q (.bl false) H) : cAndV tb σ Q (.bl false) H := ⟨false, rfl, h⟩
theorem e_orT (h : Q (.bl true) H) : cOrV tb σ Q (.bl true) H := ⟨true, rfl, h⟩
theorem e_orF (h : tb σ H Q) : cOrV tb σ Q (.bl false) H := ⟨false, rfl, h⟩
theorem e_notT (h : Q (.bl false) H) : cNotV Q (.bl true) H := ⟨true, rfl, h⟩
theorem e_notF (h : Q (.bl true) H) : cNotV Q (.bl false) H := ⟨false, rfl, h⟩
theorem e_notV {b : Bool} (h : Q (.bl (!b)) H) : cNotV Q (.bl b) H := ⟨b, rfl, h⟩
variable {Qb : Bool → Hp → Prop}
theorem c_andT (h : tu σ H Qb) : cAnd tu σ Qb true H := h
theorem c_andF (h : Qb false H) : cAnd tu σ Qb false H := h
theorem c_orT (h : Qb true H) : cOr tu σ Qb true H := h
theorem c_orF (h : tu σ H Qb) : cOr tu σ Qb false H := h
theorem c_ifET (h : ta σ H Q) : cIfE ta tb σ Q true H := h
theorem c_ifEF (h : tb σ H Q) : cIfE ta tb σ Q false H := h
def rIsNo : R2 := fun x y H Q => y = .non ∧ Q (.bl (decide (x = .non))) H
def rNotNo : R2 := fun x y H Q => y = .non ∧ Q (.bl (!decide (x = .non))) H
theorem op_isNo {X : Cx} : OpR X (compareOp .Is) rIsNo := op_isN
theorem op_notNo {X : Cx} : OpR X (compareOp .IsNot) rNotNo := op_notN
theorem k_isY (h : Q (.bl true) H) : rIsNo .non .non H Q := ⟨rfl, h⟩
theorem k_isX (hx : x ≠ .non) (h : Q (.bl false) H) : rIsNo x .non H Q := ⟨rfl, by rw [decide_eq_false hx]; exact h⟩
theorem k_ntY (h : Q (.bl false) H) : rNotNo .non .non H Q := ⟨rfl, h⟩
theorem k_ntX (hx : x ≠ .non) (h : Q (.bl true) H) : rNotNo x .non H Q := ⟨rfl, by rw [decide_eq_false hx]; exact h⟩
end

/-! ### defs, methods, classes by name -/
section
variable (P : Program) (w : World) (K : PySem.W.Frag) (mg : Str → Option Value) (base : Heap) (CX : CXT)
/-- a def of the top, as it is called: the name x, k the level -/
structure Cal (k : Nat) (x : Str) (ps : List Str) (sp : Sp) : Prop where
  ex : ∃ (f : Addr) (fd : FuncData), FnOk P w K mg base CX k f fd ps sp ∧ Binds K fd ps [] ∧ PySem.W.keepIn K (.ref f) = true ∧ mg x = some (.ref f)
/-- a method of the class at C -/
structure CalM (C : Addr) (k : Nat) (m : Str) (ps : List Str) (sp : Sp) : Prop where
  ex : ∃ (f : Addr) (fd : FuncData), FnOk P w K mg base CX k f fd ps sp ∧ Binds K fd ps [] ∧ Meth K C m f
/-- the class at C, called by the name x; sp: its __init__ 's -/
structure CalC (C : Addr) (k : Nat) (x : Str) (ps : List Str) (sp : Sp) : Prop where
  ex : ∃ (f : Addr) (fd : FuncData), FnOk P w K mg base CX k f fd ps sp ∧ Binds K fd ps [] ∧ Mk K C f ∧ mg x = some (.ref C)
end
section
variable {X : Cx} {CX : CXT} {k : Nat} {C : Addr} {ps : List Str} {sp : Sp} {E : XK} {x m : Str} {p pos apos : Pos} {e o : Expr} {es : List Expr} {ta : TE} {t : TA}
theorem pe_cal (c : Cal X.prog X.w X.K X.mg X.base CX k x ps sp) (hr : Room k X.A) (hx : Passes CX X E) (ha : PA X (e :: es) t) (hg : Gl X x := by rfl) (hdb : (x == ("__debug__" : Str)) = false := by decide)
    (he : starEach (e :: es) X.env = (false, eval e X.env) :: starEach es X.env := by rfl) (hpl : (backTo pos (starEach es X.env)).any (·.1) = false := by rfl) :
    PE X (.Call (.Name x p) (e :: es) [] pos) (tCall sp [] E t) := by
  obtain ⟨f, fd, F, b, kp, hm⟩ := c.ex
  exact pe_call F hr hg hm kp b .nil hx ha hdb he hpl
theorem pe_cal0 (c : Cal X.prog X.w X.K X.mg X.base CX k x ps sp) (hr : Room k X.A) (hx : Passes CX X E) (hg : Gl X x := by rfl) (hdb : (x == ("__debug__" : Str)) = false := by decide) :
    PE X (.Call (.Name x p) [] [] pos) (tCall sp [] E tNil) := by
  obtain ⟨f, fd, F, b, kp, hm⟩ := c.ex
  exact pe_call0 F hr hg hm kp b .nil hx hdb
theorem pe_calM {pl : Sem Bool} (he : PE X o ta) (c : Cls X.K C) (cm : CalM X.prog X.w X.K X.mg X.base CX C k m ps sp) (hr : Room k X.A) (hx : Passes CX X E) (ha : PA X (e :: es) t)
    (hst : starEach (e :: es) X.env = (false, eval e X.env) :: starEach es X.env := by rfl) (hpl : (backTo pos (starEach es X.env)).any (·.1) = false := by rfl)
    (ht : eval (.Call (.Attribute o m apos) (e :: es) [] pos) X.env = (do
      let ov ← eval o X.env
      standAt apos.atName
      let (f, first) ← holding [ov] (getMethod ov m pl)
      callWith pos f first (backTo pos (starEach (e :: es) X.env)) (backToKw pos (keywordEach [] X.env))) := by rfl) :
    PE X (.Call (.Attribute o m apos) (e :: es) [] pos) (tMeth C m sp [] E ta t) := by
  obtain ⟨f, fd, F, b, M⟩ := cm.ex
  exact pe_meth he c M F hr b .nil hx ha hst hpl ht
theorem pe_calM0 {pl : Sem Bool} (he : PE X o ta) (c : Cls X.K C) (cm : CalM X.prog X.w X.K X.mg X.base CX C k m ps sp) (hr : Room k X.A) (hx : Passes CX X E)
    (ht : eval (.Call (.Attribute o m apos) [] [] pos) X.env = (do
      let ov ← eval o X.env
      standAt apos.atName
      let (f, first) ← holding [ov] (getMethod ov m pl)
      callWith pos f first (backTo pos (starEach [] X.env)) (backToKw pos (keywordEach [] X.env))) := by rfl) :
    PE X (.Call (.Attribute o m apos) [] [] pos) (tMeth C m sp [] E ta tNil) := by
  obtain ⟨f, fd, F, b, M⟩ := cm.ex
  exact pe_meth0 he c M F hr b .nil hx ht
theorem pe_calC (c : CalC X.prog X.w X.K X.mg X.base CX C k x ps sp) (hr : Room (k + 1) X.A) (hx : Passes CX X E) (ha : PA X (e :: es) t) (hg : Gl X x := by rfl) (hdb : (x == ("__debug__" : Str)) = false := by decide)
    (he : starEach (e :: es) X.env = (false, eval e X.env) :: starEach es X.env := by rfl) (hpl : (backTo pos (starEach es X.env)).any (·.1) = false := by rfl) :
    PE X (.Call (.Name x p) (e :: es) [] pos) (tMake C sp [] E t) := by
  obtain ⟨f, fd, F, b, M, hm⟩ := c.ex
  exact pe_make M F hr hg hm b .nil hx ha hdb he hpl
end

/-! ### what is now, through the steps -/
section
variable {K : PySem.W.Frag} {D : Option Addr} {M : List Addr} {H0 H : Hp} {l : List Cel} {ts : List (Addr × List V)} {p a d : Addr} {o u : HO} {xs : List V} {Q : VK} {E : XK}
theorem g_tup (N : Now K D M H0 H l ts) (hl : xs.length ≤ 100000) (h : ∀ p H', Now K D M H0 H' l ((p, xs) :: ts) → Q (.ref p) H') : cTup Q xs H := ⟨Nat.le_trans hl (by decide), fun p hp => h p _ (N.newT hp)⟩
theorem g_lst (N : Now K D M H0 H l ts) (hl : xs.length ≤ 100000) (h : ∀ p H', Now K D M H0 H' (⟨true, p, .lst xs⟩ :: l) ts → Q (.ref p) H') : cLst Q xs H := ⟨Nat.le_trans hl (by decide), fun p hp => h p _ (N.newC hp trivial)⟩
/-- the dice's promise -/
def spNext (K : PySem.W.Frag) : Sp := fun vs H Q _ => ∃ (d : Addr) (n : Int), vs = [.ref d, .int n] ∧ Dice K H d ∧ 0 < n ∧ n < 1073741824 ∧ ∀ v H', Aft [d] H H' → Dice K H' d → 0 ≤ v → v < n → Q (.int v) H'
theorem g_next {n : Int} (N : Now K (some d) M H0 H l ts) (hn : 0 < n ∧ n < 1073741824) (h : ∀ v H', Now K (some d) M H0 H' l ts → 0 ≤ v → v < n → Q (.int v) H') : spNext K [.ref d, .int n] H Q E :=
  ⟨d, n, rfl, (N.dc d rfl).1, hn.1, hn.2, fun v H' A hd h0 h1 => h v H' (N.roll A hd) h0 h1⟩
end
end Ak
namespace Ak
open PySem PySem.Spec PyProof.Rows L2
/-! ### the built-ins stand, constants by name -/
structure Bt (mg : Str → Option Value) : Prop where
  m_len : mg "len" = none
  m_int : mg "int" = none
  m_isinstance : mg "isinstance" = none
  m_range : mg "range" = none
  m_sorted : mg "sorted" = none
  m_list : mg "list" = none
  m_tuple : mg "tuple" = none
  m_max : mg "max" = none
  m_min : mg "min" = none
  m_set : mg "set" = none
  m_str : mg "str" = none
  m_enumerate : mg "enumerate" = none
  m_bool : mg "bool" = none
  m_dict : mg "dict" = none
theorem pe_gint {X : Cx} {x : Str} {i : Int} {pos : Pos} (hg : Gl X x) (h : ∃ t, X.mg x = some (.int i t)) (hd : (x == ("__debug__" : Str)) = false := by decide) : PE X (.Name x pos) (tC (.int i)) := by
  obtain ⟨t, h⟩ := h
  exact pe_glob hg h ⟨t, rfl⟩ hd
theorem pe_gstr {X : Cx} {x : Str} {z : Str} {pos : Pos} (hg : Gl X x) (h : ∃ t, X.mg x = some (.str z t)) (hd : (x == ("__debug__" : Str)) = false := by decide) : PE X (.Name x pos) (tC (.str z)) := by
  obtain ⟨t, h⟩ := h
  exact pe_glob hg h ⟨t, rfl⟩ hd
theorem pe_gref {X : Cx} {x : Str} {a : Addr} {pos : Pos} (hg : Gl X x) (h : X.mg x = some (.ref a)) (hd : (x == ("__debug__" : Str)) = false := by decide) : PE X (.Name x pos) (tC (.ref a)) := pe_glob hg h rfl hd

/-! ### readings by name -/
section
variable {X : Cx} {K : PySem.W.Frag} {H : Hp} {Q : VK} {p : Addr} {xs : List V}
def rLn (K : PySem.W.Frag) : List V → Hp → VK → Prop := fun xs H Q => ∃ p ys, xs = [.ref p] ∧ (SqL K H p ys ∨ SqT K H p ys) ∧ Q (.int ys.length) H
theorem cr_ln : CallR X (.builtin "len") (rLn X.K) := call_len_seq
theorem g_lnL (h : SqL K H p xs) (q : Q (.int xs.length) H) : rLn K [.ref p] H Q := ⟨p, xs, rfl, .inl h, q⟩
theorem g_lnT (h : SqT K H p xs) (q : Q (.int xs.length) H) : rLn K [.ref p] H Q := ⟨p, xs, rfl, .inr h, q⟩
def rIntB : List V → Hp → VK → Prop := fun xs H Q => ∃ k, xs = [.bl k] ∧ Q (.int (if k then 1 else 0)) H
theorem cr_intB : CallR X (.type "int") rIntB := fun pins s σ H xs us Q I r h => call_int1 pins s σ H xs us Q I r (.inr h)
theorem g_intB {b : Bool} (q : Q (.int (if b then 1 else 0)) H) : rIntB [.bl b] H Q := ⟨b, rfl, q⟩
theorem g_ixL {i : Int} {v : V} (h : SqL K H p xs) (ha : atI xs i = some v) (q : Q v H) : rIxL K (.ref p) (.int i) H Q := ⟨p, xs, i, v, rfl, rfl, h, ha, q⟩
theorem g_ixT {i : Int} {v : V} (h : SqT K H p xs) (ha : atI xs i = some v) (q : Q v H) : rIxT K (.ref p) (.int i) H Q := ⟨p, xs, i, v, rfl, rfl, h, ha, q⟩
theorem g_setL {Q : Hp → Prop} {i : Int} {j : Nat} {v : V} (h : H p = some (.lst xs)) (hi : ixN xs.length i = some j) (q : Q (upd H p (.lst (xs.set j v)))) : rSetL (.ref p) (.int i) v H Q := ⟨p, xs, i, j, rfl, rfl, h, hi, q⟩
section
variable {D : Option Addr} {M : List Addr} {H0 : Hp} {l : List Cel} {ts : List (Addr × List V)} {c0 c1 c2 c3 : Cel} {i : Int} {j : Nat} {v : V} {Qh : Hp → Prop}
theorem g_set0 (N : Now K D M H0 H (⟨true, p, .lst xs⟩ :: l) ts) (hi : ixN xs.length i = some j) (q : ∀ H', Now K D M H0 H' (⟨true, p, .lst (xs.set j v)⟩ :: l) ts → Qh H') : rSetL (.ref p) (.int i) v H Qh := g_setL (N.cell 0 rfl) hi (q _ (N.put 0 rfl trivial))
theorem g_set1 (N : Now K D M H0 H (c0 :: ⟨true, p, .lst xs⟩ :: l) ts) (hi : ixN xs.length i = some j) (q : ∀ H', Now K D M H0 H' (c0 :: ⟨true, p, .lst (xs.set j v)⟩ :: l) ts → Qh H') : rSetL (.ref p) (.int i) v H Qh := g_setL (N.cell 1 rfl) hi (q _ (N.put 1 rfl trivial))
def rApp (K : PySem.W.Frag) : V → List V → Hp → VK → Prop := fun x vs H Q => ∃ l xs y, x = .ref l ∧ vs = [y] ∧ H l = some (.lst xs) ∧ xs.length < sizeLine ∧ Q .non (upd H l (.lst (xs ++ [y])))
theorem g_app0 (N : Now K D M H0 H (⟨true, p, .lst xs⟩ :: l) ts) (hz : xs.length < 100000) (q : ∀ H', Now K D M H0 H' (⟨true, p, .lst (xs ++ [v])⟩ :: l) ts → Q .non H') : rAppend (.ref p) [v] H Q := ⟨p, xs, v, rfl, rfl, N.cell 0 rfl, Nat.lt_of_lt_of_le hz (by decide), q _ (N.put 0 rfl trivial)⟩
theorem g_app1 (N : Now K D M H0 H (c0 :: ⟨true, p, .lst xs⟩ :: l) ts) (hz : xs.length < 100000) (q : ∀ H', Now K D M H0 H' (c0 :: ⟨true, p, .lst (xs ++ [v])⟩ :: l) ts → Q .non H') : rAppend (.ref p) [v] H Q := ⟨p, xs, v, rfl, rfl, N.cell 1 rfl, Nat.lt_of_lt_of_le hz (by decide), q _ (N.put 1 rfl trivial)⟩
end
theorem k_gsub {σ : L2.St} {to ti : TE} {t : TSet} {v : V} {Q : L2.St → Hp → Prop} (h : to σ H fun o H1 => ti σ H1 fun i H2 => t o i v H2 fun H3 => Q σ H3) : gSub to ti t v σ H Q := h
end
/-! ### o.f = .. among several targets -/
def gAttr (K : PySem.W.Frag) (ta : TE) (f : Str) : TG := fun v σ H Q => ta σ H fun x H2 => ∃ a C dx fs, x = .ref a ∧ H2 a = some (.ins C dx fs) ∧ Cls K C ∧ NoAttr K C f ∧ fs.length < 1000 ∧ Q σ (upd H2 a (.ins C dx (putF f v fs)))
theorem pg_attr {X : Cx} {o : Expr} {f : Str} {pos : Pos} {ta : TE} (ha : PE X o ta) : PG X (.Attribute o f pos) (gAttr X.K ta f) := by
  refine ⟨fun pins s σ H v u Q I r h => ?_⟩
  refine PySem.W.kas_attr (thn (ha.run pins s σ H _ I h) fun ov s2 ⟨x, H2, I2, rx, a, C, dx, fs, ex, ea, c, n, l, q2⟩ => ?_)
  subst ex
  obtain rfl : ov = Value.ref a := rx
  exact setattr_ok I2 ea c n l r fun s3 I3 => ⟨σ, _, I3, q2⟩

/-! ### sorted of a dict with int keys, any number of them -/
def rSortedDA : List V → Hp → VK → Prop := fun xs H Q => ∃ (a : Addr) (kvs : List (Key × V)) (ks : List Int), xs = [.ref a] ∧ Rd H a (.dK kvs) ∧ kvs.map (·.1) = ks.map Sum.inl ∧
    ∀ (ys : List Int) (p : Addr), ys.Perm ks → ys.Pairwise (· ≤ ·) → H p = none → Q (.ref p) (upd H p (.lst (ys.map V.int)))
theorem call_sortedDA {X : Cx} (hcalm : X.calm = true) : CallR X (.builtin "sorted") rSortedDA := by
  intro pins s σ H xs us Q I r q
  obtain ⟨a, kvs, ks, ex, hd, hks, q⟩ := q
  subst ex
  obtain ⟨u, eu, rx⟩ := vals1 r
  subst eu
  cases rx
  obtain ⟨z, lo, vs, rel, dd⟩ := dk_rd I.hok hd
  obtain ⟨ep, hat⟩ := dd.dictAt
  have hkeys : vs.map (·.1) = ks.map Sum.inl := rel.keys.symm.trans hks
  have hl : vs.length = ks.length := by
    have e := congrArg List.length hkeys
    rw [List.length_map, List.length_map] at e
    exact e
  have hl2 : kvs.length = ks.length := by
    have e := congrArg List.length hks
    rw [List.length_map, List.length_map] at e
    exact e
  have h16 : vs.length ≤ sizeLine := by rw [hl, ← hl2]; exact z
  refine Calls.call_function_entry PyProof.Rows.kind_sorted PyProof.Rows.plain_sorted PyProof.Rows.entry_sorted (PyProof.Rows.args_sorted1 _) ?_
  unfold Builtin.«sorted»
  refine wpAny_bind (m := checkCount "sorted" 1 1 _) (wpAny_pure ?_)
  refine wpAny_bind (PySem.W.kdu_collect (A := X.A.in1) (PySem.W.kdl_dict (knd := mixKind X.prog X.w) (kvs := vs) (ep := ep) lo) (I.ok.hd hcalm) hat h16 fun h' tk acc hk hacc => ?_)
  have hal : acc.toList.length = ks.length := by rw [Array.length_toList, hacc.1, hl]
  have hS : IntsAre acc.toList ks := ints_each hal fun j v e => by
    obtain ⟨k, x, e1, e2⟩ := hacc.2 j v (by rw [← Array.getElem?_toList]; exact e)
    have e3 : (vs.map (·.1))[j]? = some k := by rw [List.getElem?_map, e1]; rfl
    rw [hkeys, List.getElem?_map] at e3
    cases e4 : ks[j]? with
    | none => rw [e4] at e3; cases e3
    | some y =>
      rw [e4] at e3
      have e5 : Sum.inl y = k := Option.some.inj e3
      subst e5
      rcases keyIs_shape (show keyIs (Sum.inl y) v = true from e2) with ⟨i, t, ek, ev⟩ | ⟨z, t, ek, ev⟩
      · cases ek
        exact ⟨y, t, rfl, ev⟩
      · cases ek
  have I1 : Inv X pins σ H { s with heap := h', toks := tk } := I.kept hk
  have hz2 : acc.toList.length ≤ sizeLine := by rw [hal, ← hl]; exact h16
  refine wpAny_bind (wpAny_newList ?_ hz2)
  have hoL : (h'.push (seqObj "list" acc.toList.toArray 0)).get? h'.objs.size = some (seqObj "list" acc.toList.toArray 0) := Heap.get?_push_size _ rfl
  show wpAny _ _ _ _ _ { s with heap := h'.push (seqObj "list" acc.toList.toArray 0), toks := tk }
  refine wpAny_bind (wpAny_holding (wpAny_call_entry PyProof.Rows.slot_list_sort ⟨_, hoL, rfl⟩ PyProof.Rows.entry_list_sort
    (SrtO.list_sort_ord (s := { s with heap := h'.push (seqObj "list" acc.toList.toArray 0), toks := tk }) SrtO.swo_int hoL hz2 (fun h2 => SrtO.ints_sortable hS h2) fun out h1 h2 => ⟨_, rfl, ?_⟩) (PyProof.Rows.args_list_sort _)))
  obtain ⟨k1, k2, k3⟩ := SrtO.ints_out hS h1 h2
  obtain ⟨e', he'⟩ := PyProof.Rows.sortedHeap_at (vs := acc.toList) (out := out.toArray) hoL
  have hlen : ((out.map SrtO.iv).map V.int).length ≤ sizeLine := by
    rw [List.length_map, k2.length_eq, ← hl]
    exact h16
  refine wpAny_pure ⟨_, rfl, .ref h'.objs.size, upd H h'.objs.size (.lst ((out.map SrtO.iv).map V.int)), I1.laid (t' := tk) (fun b u e => ?_) (Nat.le_refl _)
    (show ObjOk X.prog X.w _ _ _ (.lst ((out.map SrtO.iv).map V.int)) from ⟨hlen, out, e', vals_of_ints k1, he'⟩), rfl, q _ _ k2 k3 (I1.hok.fresh (Nat.le_refl _))⟩
  have hb : b < h'.objs.size := Heap.lt_size e
  rw [PyProof.Rows.sortedHeap_old (Nat.ne_of_lt hb) (by rw [size_push']; exact Nat.lt_succ_of_lt hb)]
  exact Heap.get?_push_of_some _ e

/-! ### a def of the text by name -/
def Bd (x qual : Str) (st : Stmt) (ps : List Str) : Prop := ∀ (kV doc pm : Value) (an : Option Addr) (cdv ct : Value) (us : List Value), us.length = ps.length → bindArgs (PySem.W.fnOf x qual (defArgs st) (defBody st) (defScope st) .none kV doc pm an cdv ct) ⟨us, []⟩ = pure (ps.zip us)
structure Def (K : PySem.W.Frag) (mg : Str → Option Value) (x : Str) (st : Stmt) : Prop where
  ex : ∃ (f : Addr) (fd : FuncData), FunD K x x (defArgs st) (defBody st) (defScope st) [] [] f fd ∧ mg x = some (.ref f)
structure DefM (K : PySem.W.Frag) (C : Addr) (m qual : Str) (st : Stmt) : Prop where
  ex : ∃ (f : Addr) (fd : FuncData), FunD K m qual (defArgs st) (defBody st) (defScope st) [] [] f fd ∧ Meth K C m f
structure DefC (K : PySem.W.Frag) (mg : Str → Option Value) (C : Addr) (x qual : Str) (st : Stmt) : Prop where
  ex : ∃ (f : Addr) (fd : FuncData), FunD K "__init__" qual (defArgs st) (defBody st) (defScope st) [] [] f fd ∧ Mk K C f ∧ mg x = some (.ref C)
section
variable {P : Program} {w : World} {K : PySem.W.Frag} {mg : Str → Option Value} {base : Heap} {CX : CXT} {x m qual : Str} {st : Stmt} {N ps : List Str} {k : Nat} {sp : Sp} {C : Addr}
theorem Def.ok (F : Def K mg x st) (S : FnScope N ps (defScope st)) (b : Bd x x st ps) (len : ∀ vs H Q E, sp vs H Q E → vs.length = ps.length)
    (hbody : ∀ (f : Addr) (cdv : Value) (A : Around) (outer : List Env) (s : Shared) (H : Hp) (vs : List V) (Q : VK) (E : XK), Room k (A.deeper (envOfC x (defScope st) s.heap.objs.size f cdv)) → sp vs H Q E →
      ∃ t, PSs (cxOf CX P w K mg base N x (defScope st) f cdv A outer s H E) (defBody st) t ∧ t { nx := fun _ H' => Q .non H', rt := Q } (start N vs) H) : Cal P w K mg base CX (k + 1) x ps sp := by
  obtain ⟨f, fd, F, hm⟩ := F.ex
  exact ⟨f, fd, F.ok S len (hbody f), F.bindsN b, F.kp, hm⟩
theorem DefM.ok (F : DefM K C m qual st) (S : FnScope N ps (defScope st)) (b : Bd m qual st ps) (len : ∀ vs H Q E, sp vs H Q E → vs.length = ps.length)
    (hbody : ∀ (f : Addr) (cdv : Value) (A : Around) (outer : List Env) (s : Shared) (H : Hp) (vs : List V) (Q : VK) (E : XK), Room k (A.deeper (envOfC qual (defScope st) s.heap.objs.size f cdv)) → sp vs H Q E →
      ∃ t, PSs (cxOf CX P w K mg base N qual (defScope st) f cdv A outer s H E) (defBody st) t ∧ t { nx := fun _ H' => Q .non H', rt := Q } (start N vs) H) : CalM P w K mg base CX C (k + 1) m ps sp := by
  obtain ⟨f, fd, F, hm⟩ := F.ex
  exact ⟨f, fd, F.ok S len (hbody f), F.bindsN b, hm⟩
theorem DefC.ok (F : DefC K mg C x qual st) (S : FnScope N ps (defScope st)) (b : Bd "__init__" qual st ps) (len : ∀ vs H Q E, sp vs H Q E → vs.length = ps.length)
    (hbody : ∀ (f : Addr) (cdv : Value) (A : Around) (outer : List Env) (s : Shared) (H : Hp) (vs : List V) (Q : VK) (E : XK), Room k (A.deeper (envOfC qual (defScope st) s.heap.objs.size f cdv)) → sp vs H Q E →
      ∃ t, PSs (cxOf CX P w K mg base N qual (defScope st) f cdv A outer s H E) (defBody st) t ∧ t { nx := fun _ H' => Q .non H', rt := Q } (start N vs) H) : CalC P w K mg base CX C (k + 1) x ps sp := by
  obtain ⟨f, fd, F, M, hm⟩ := F.ex
  exact ⟨f, fd, F.ok S len (hbody f), F.bindsN b, M, hm⟩
end
end Ak
namespace Ak
open PySem PySem.Spec PyProof.Rows L2
/-! ### data: what _law_like compares -/
section
variable {K : PySem.W.Frag} {H H' : Hp} {M : List Addr}
theorem Aft.sql (e : Aft [] H H') {a : Addr} {xs : List V} (h : SqL K H a xs) : SqL K H' a xs := by
  rcases h with (h | ⟨o, h⟩) | h
  · exact .inl (.inl (e.k _ _ h (by simp)))
  · exact .inl (.inr ⟨o, e.z _ _ _ h⟩)
  · exact .inr h
mutual
theorem dp_keep (e : Aft [] H H') : ∀ {d : PyData} {v : V}, Dp K H v d → Dp K H' v d
  | .none, _, h => by cases h; exact .non
  | .bool b, _, h => by cases h; exact .bl b
  | .int i, _, h => by cases h; exact .int i
  | .str x, _, h => by cases h; exact .str x
  | .list ds, _, h => by
    cases h with
    | lst h1 h2 => exact .lst (e.sql h1) (dpa_keep e h2)
  | .tuple ds, _, h => by
    cases h with
    | tup h1 h2 => exact .tup (e.sqt h1) (dpa_keep e h2)
theorem dpa_keep (e : Aft [] H H') : ∀ {ds : List PyData} {vs : List V}, DpAll K H vs ds → DpAll K H' vs ds
  | [], _, h => by cases h; exact .nil
  | d :: ds, _, h => by
    cases h with
    | cons h1 h2 => exact .cons (dp_keep e h1) (dpa_keep e h2)
end
theorem dpa_len : ∀ {ds : List PyData} {vs : List V}, DpAll K H vs ds → vs.length = ds.length
  | _, _, .nil => rfl
  | _, _, .cons _ t => congrArg (· + 1) (dpa_len t)
theorem dpa_at : ∀ {ds : List PyData} {vs : List V}, DpAll K H vs ds → ∀ (i : Nat) (h : i < ds.length), ∃ v, vs[i]? = some v ∧ Dp K H v ds[i]
  | _, _, .nil, i, h => absurd h (by simp)
  | _, _, .cons h1 _, 0, _ => ⟨_, rfl, h1⟩
  | _, _, .cons _ t, i + 1, h => by
    obtain ⟨v, h1, h2⟩ := dpa_at t i (by simpa using h)
    exact ⟨v, by simpa using h1, by simpa using h2⟩
theorem dpa_ints : ∀ ns : List Int, DpAll K H (ns.map V.int) (ns.map PyData.int)
  | [] => .nil
  | n :: ns => .cons (.int n) (dpa_ints ns)
/-- how deep, how long -/
def dOk : Nat → PyData → Prop
  | 0, .list _ => False
  | 0, .tuple _ => False
  | n + 1, .list ds => ds.length ≤ 100000 ∧ ∀ d ∈ ds, dOk n d
  | n + 1, .tuple ds => ds.length ≤ 100000 ∧ ∀ d ∈ ds, dOk n d
  | _, _ => True
/-- what isinstance asks -/
theorem sql_ty {a : Addr} {xs : List V} (h : SqL K H a xs) : TyX K H (.ref a) (.type "list") := by
  rcases h with (h | ⟨o, h⟩) | ⟨o, its, n, h1, h2, _⟩
  · exact .base (.lst h)
  · exact .base (.frz h)
  · exact .kList h1 h2
theorem sqt_ty {a : Addr} {xs : List V} (h : SqT K H a xs) : TyX K H (.ref a) (.type "tuple") := by
  rcases h with (h | ⟨o, h⟩) | ⟨o, its, n, h1, h2, _⟩
  · exact .base (.tup h)
  · exact .fTuple h
  · exact .kTuple h1 h2
theorem tyx_non : TyX K H .non (.type "NoneType") := .base .non
theorem tyx_bl {b : Bool} : TyX K H (.bl b) (.type "bool") := .base (.bl b)
theorem tyx_int {b : Int} : TyX K H (.int b) (.type "int") := .base (.int b)
theorem tyx_str {b : Str} : TyX K H (.str b) (.type "str") := .base (.str b)
theorem g_isi {x : V} {a b : String} {r : Bool} {Q : VK} (ht : TyX K H x (.type a)) (hk : kitB a b = some r) (q : Q (.bl r) H) : rIsi K [x, .ty b] H Q := ⟨x, .ty b, .type a, .type b, r, rfl, .ty b, ht, kit_ty hk, q⟩
theorem g_ixQ {p : Addr} {xs : List V} {i : Int} {v : V} {Q : VK} (h : SqL K H p xs ∨ SqT K H p xs) (ha : atI xs i = some v) (q : Q v H) : rIx K (.ref p) (.int i) H Q := by
  rcases h with h | h
  · exact .inl ⟨p, xs, i, v, rfl, rfl, h, ha, q⟩
  · exact .inr (.inl ⟨p, xs, i, v, rfl, rfl, h, ha, q⟩)
/-- the promise, by depth -/
def spLike (K : PySem.W.Frag) : Nat → Sp
  | 0 => fun _ _ _ _ => False
  | n + 1 => fun vs H Q _ => ∃ (x y : V) (d : PyData), vs = [x, y] ∧ Dp K H x d ∧ Dp K H y d ∧ dOk n d ∧ ∀ H', Aft [] H H' → Q (.bl true) H'
theorem kb_bb : kitB "bool" "bool" = some true := by decide +kernel
theorem kb_ib : kitB "int" "bool" = some false := by decide +kernel
theorem kb_sb : kitB "str" "bool" = some false := by decide +kernel
theorem kb_nb : kitB "NoneType" "bool" = some false := by decide +kernel
theorem kb_lb : kitB "list" "bool" = some false := by decide +kernel
theorem kb_tb : kitB "tuple" "bool" = some false := by decide +kernel
theorem kb_is : kitB "int" "str" = some false := by decide +kernel
theorem kb_ss : kitB "str" "str" = some true := by decide +kernel
theorem kb_ns : kitB "NoneType" "str" = some false := by decide +kernel
theorem kb_ls : kitB "list" "str" = some false := by decide +kernel
theorem kb_ts : kitB "tuple" "str" = some false := by decide +kernel
theorem kb_ii : kitB "int" "int" = some true := by decide +kernel
theorem kb_ni : kitB "NoneType" "int" = some false := by decide +kernel
theorem kb_li : kitB "list" "int" = some false := by decide +kernel
theorem kb_ti : kitB "tuple" "int" = some false := by decide +kernel
theorem kb_ld : kitB "list" "dict" = some false := by decide +kernel
theorem kb_td : kitB "tuple" "dict" = some false := by decide +kernel
theorem kb_lt : kitB "list" "tuple" = some false := by decide +kernel
theorem kb_tt : kitB "tuple" "tuple" = some true := by decide +kernel
theorem kb_ll : kitB "list" "list" = some true := by decide +kernel
theorem kb_tl : kitB "tuple" "list" = some false := by decide +kernel
theorem kb_il : kitB "int" "list" = some false := by decide +kernel
end
/-! ### the rules with their written part told -/
section
variable {X : Cx} {e o : Expr} {es : List Expr} {te to tl ta tv : TE} {t : TA} {f : Str} {pos apos cpos pos' : Pos} {name : Str} {T id : String} {r : V → List V → Hp → VK → Prop} {value : Expr} {tg : Expr} {l : Expr}
theorem ix_listK (K : PySem.W.Frag) (h : X.K = K) : IxR X (rIxL K) := h ▸ ix_list
theorem ix_tupK (K : PySem.W.Frag) (h : X.K = K) : IxR X (rIxT K) := h ▸ ix_tup
theorem ix_seqK (K : PySem.W.Frag) (h : X.K = K) : IxR X (rIx K) := h ▸ ix_seq
theorem op_in_seqK (K : PySem.W.Frag) (h : X.K = K) : OpR X (compareOp .In) (rIn K false) := h ▸ op_in_seq
theorem op_notIn_seqK (K : PySem.W.Frag) (h : X.K = K) : OpR X (compareOp .NotIn) (rIn K true) := h ▸ op_notIn_seq
theorem cr_lnK (K : PySem.W.Frag) (h : X.K = K) : CallR X (.builtin "len") (rLn K) := h ▸ cr_ln
theorem call_isiQ (K : PySem.W.Frag) (h : X.K = K) : CallR X (.builtin "isinstance") (rIsi K) := h ▸ call_isi
theorem sl_listK (K : PySem.W.Frag) (h : X.K = K) : SlR X (rSlL K) := h ▸ sl_list
theorem op_eqDK (K : PySem.W.Frag) (h : X.K = K) (hu : X.A.units + 64 < cLine) : OpR X (compareOp .Eq) (rEqD K) := h ▸ op_eqD hu
theorem op_neDK (K : PySem.W.Frag) (h : X.K = K) (hu : X.A.units + 64 < cLine) : OpR X (compareOp .NotEq) (rNeD K) := h ▸ op_neD hu
theorem pe_fldK (K : PySem.W.Frag) (h : X.K = K) (he : PE X e te) (hb : attributeBase e f X.env (eval e X.env) = eval e X.env) : PE X (.Attribute e f pos) (tFld K te f) := h ▸ pe_fld he hb
theorem pe_bm0K (K : PySem.W.Frag) (h : X.K = K) (pa : PlainAttrs T) (slot : Slot T name id) (hty : typeOf (.builtin id) = pure (.type "method_descriptor")) (hm : MtR X id r) (ho : PE X o to)
    (hbase : attributeBase o name X.env (eval o X.env) = eval o X.env := by rfl) (hline : (apos.endLine == cpos.line) = true := by rfl) : PE X (.Call (.Attribute o name apos) [] [] cpos) (tBM0 K T r to) := h ▸ pe_bm0 pa slot hty hm ho hbase hline
theorem pe_bmK (K : PySem.W.Frag) (h : X.K = K) (pa : PlainAttrs T) (slot : Slot T name id) (hty : typeOf (.builtin id) = pure (.type "method_descriptor")) (hm : MtR X id r) (ho : PE X o to) (ha : PA X (e :: es) t)
    (hbase : attributeBase o name X.env (eval o X.env) = eval o X.env := by rfl)
    (hfew : ((backTo cpos (starEach (e :: es) X.env)).all (fun x => !x.1) && (backToKw cpos (keywordEach [] X.env)).all (fun x => x.1.isSome)
      && decide ((e :: es).length + ([] : List Keyword).length + (if ([] : List Keyword).isEmpty then 0 else 1) < 30)) = true := by rfl)
    (hline : (apos.endLine == cpos.line) = true := by rfl) (hs : starEach (e :: es) X.env = (false, eval e X.env) :: starEach es X.env := by rfl) (hplain : (backTo cpos (starEach es X.env)).any (·.1) = false := by rfl) :
    PE X (.Call (.Attribute o name apos) (e :: es) [] cpos) (tBM K T r to t) := h ▸ pe_bm pa slot hty hm ho ha hbase hfew hline hs hplain
theorem ps_fldK (K : PySem.W.Frag) (h : X.K = K) (ha : PE X o ta) (hv : PE X value tv) (hs : swapsWith value (some (.Attribute o f pos')) pos.line X.env = pure false) : PS X (.Assign [.Attribute o f pos'] value pos) (sFld K ta tv f) := h ▸ ps_fld ha hv hs
theorem pi_listK (K : PySem.W.Frag) (h : X.K = K) (hl : PE X l tl) : PI X tg l (iList K tl) := h ▸ pi_list hl
theorem pi_tupK (K : PySem.W.Frag) (h : X.K = K) (hl : PE X l tl) : PI X tg l (iTup K tl) := h ▸ pi_tup hl
theorem cr_sortedIK (K : PySem.W.Frag) (h : X.K = K) : CallR X (.builtin "sorted") (rSortedI K) := h ▸ cr_sortedI
end
/-- a def that is never called keeps what it likes -/
theorem cal_never {P : Program} {w : World} {K : PySem.W.Frag} {mg : Str → Option Value} {base : Heap} {CX : CXT} {x : Str} {st : Stmt} {ps : List Str} (F : Def K mg x st) (b : Bd x x st ps) : Cal P w K mg base CX 1 x ps (fun _ _ _ _ => False) := by
  obtain ⟨f, fd, F, hm⟩ := F.ex
  exact ⟨f, fd, ⟨fun _ _ _ _ h => h.elim, fun _ _ _ _ _ _ _ _ _ _ _ _ _ h => h.elim⟩, F.bindsN b, F.kp, hm⟩
theorem Cal.mono {P : Program} {w : World} {K : PySem.W.Frag} {mg : Str → Option Value} {base : Heap} {CX : CXT} {x : Str} {ps : List Str} {j k : Nat} {sp : Sp} (c : Cal P w K mg base CX j x ps sp) (h : j ≤ k) : Cal P w K mg base CX k x ps sp := by
  obtain ⟨f, fd, F, r⟩ := c.ex
  exact ⟨f, fd, F.mono h, r⟩
end Ak
namespace Ak
open PySem PySem.Spec PyProof.Rows L2
section
variable {K : PySem.W.Frag} {D : Option Addr} {M M' : List Addr} {H0 H H' : Hp} {l l' r fp fp' : List Cel} {ts ts' : List (Addr × List V)} {p q a d : Addr} {o u : HO} {xs : List V} {c : Cel} {w : Bool}
/-- an object that H does not know may change as it likes -/
theorem Aft.own (a : Aft M H H') (hp : H p = none) : Aft M H (upd H' p o) :=
  ⟨fun b v e hm => by rw [upd_ne (ne_of_none e hp)]; exact a.k b v e hm, fun b xs e => by rw [upd_ne (ne_of_none e hp)]; exact a.t b xs e, fun b v w e => by rw [upd_ne (ne_of_none e hp)]; exact a.z b v w e⟩
/-- something new that is no cell -/
theorem Now.alloc (N : Now K D M H0 H l ts) (hp : H p = none) : Now K D M H0 (upd H p o) l ts := N.pure (Aft.refl.new hp)
/-- a call, l = fp ++ r: fp becomes fp' -/
structure Aftr (fp fp' : List Cel) (H H' : Hp) : Prop where
  af : Aft (fp.map Cel.a) H H'
  nd : (fp'.map Cel.a).Nodup
  at_ : ∀ c ∈ fp', H' c.a = some c.o ∧ Mut (some c.o)
  nw : ∀ c ∈ fp', c.w = true ∧ (c.a ∈ fp.map Cel.a ∨ H c.a = none)
theorem Now.done (N : Now K D (fp.map Cel.a) H H' fp' ts) (hw : ∀ c ∈ fp', c.w = true) : Aftr fp fp' H H' :=
  ⟨N.af, N.nd, fun c hc => ⟨N.at_ c hc, N.mu c hc⟩, fun c hc => ⟨hw c hc, N.ow c hc (hw c hc)⟩⟩
theorem Now.call (N : Now K D M H0 H (fp ++ r) ts) (hw : ∀ c ∈ fp, c.w = true) (A : Aftr fp fp' H H') : Now K D M H0 H' (fp' ++ r) ts := by
  have nd := N.nd
  rw [List.map_append, List.nodup_append] at nd
  obtain ⟨nd1, nd2, dis⟩ := nd
  have mr : ∀ c ∈ r, c.a ∉ fp.map Cel.a := fun c hc m => dis _ m _ (List.mem_map.mpr ⟨c, hc, rfl⟩) rfl
  have fpw : ∀ a ∈ fp.map Cel.a, a ∈ M ∨ H0 a = none := fun a m => by
    obtain ⟨c, hc, rfl⟩ := List.mem_map.mp m
    exact N.ow c (List.mem_append_left _ hc) (hw c hc)
  refine ⟨?_, fun c hc => ?_, fun c hc => ?_, fun c hc hcw => ?_, fun q hq => A.af.t _ _ (N.tp q hq), N.af.call A.af fpw, fun d e => ?_⟩
  · rw [List.map_append, List.nodup_append]
    refine ⟨A.nd, nd2, fun a m b m' => ?_⟩
    rintro rfl
    obtain ⟨c, hc, rfl⟩ := List.mem_map.mp m
    obtain ⟨c', hc', e⟩ := List.mem_map.mp m'
    rcases (A.nw c hc).2 with z | z
    · exact mr c' hc' (e ▸ z)
    · have y := N.at_ c' (List.mem_append_right _ hc')
      rw [e, z] at y; cases y
  · rcases List.mem_append.mp hc with hc | hc
    · exact (A.at_ c hc).1
    · exact A.af.k _ _ (N.at_ c (List.mem_append_right _ hc)) (mr c hc)
  · rcases List.mem_append.mp hc with hc | hc
    · exact (A.at_ c hc).2
    · exact N.mu c (List.mem_append_right _ hc)
  · rcases List.mem_append.mp hc with hc | hc
    · rcases (A.nw c hc).2 with z | z
      · exact fpw _ z
      · by_cases m : c.a ∈ M
        · exact .inl m
        · exact .inr (N.af.free m z)
    · exact N.ow c (List.mem_append_right _ hc) hcw
  · obtain ⟨h1, h2, h3⟩ := N.dc d e
    rw [List.map_append, List.mem_append, not_or] at h3
    refine ⟨h1.keep A.af h3.1, h2, ?_⟩
    rw [List.map_append, List.mem_append, not_or]
    refine ⟨fun m => ?_, h3.2⟩
    obtain ⟨c, hc, e⟩ := List.mem_map.mp m
    rcases (A.nw c hc).2 with z | z
    · exact h3.1 (e ▸ z)
    · obtain ⟨ys, hy⟩ := h1.lst
      rw [e, hy] at z; cases z
/-- a call whose footprint is the front, written l = fp ++ r -/
theorem Now.perm (N : Now K D M H0 H l ts) (h : l'.Perm l) : Now K D M H0 H l' ts := N.sub l' (fun c hc => h.mem_iff.mp hc) ((h.map Cel.a).nodup_iff.mpr N.nd)
/-- some of the cells, by their places -/
theorem Now.sel (N : Now K D M H0 H l ts) (is : List Nat) (h : is.map (fun i => l[i]?) = l'.map some) (hn : is.Nodup) : Now K D M H0 H l' ts := by
  have at_ : ∀ (j : Nat) (c : Cel), l'[j]? = some c → ∃ i, is[j]? = some i ∧ l[i]? = some c := fun j c e => by
    have e1 : (l'.map some)[j]? = some (some c) := by rw [List.getElem?_map, e]; rfl
    rw [← h, List.getElem?_map] at e1
    cases e2 : is[j]? with
    | none => rw [e2] at e1; cases e1
    | some i => rw [e2] at e1; exact ⟨i, rfl, Option.some.inj e1⟩
  refine N.sub l' (fun c hc => ?_) ?_
  · obtain ⟨j, hj⟩ := List.getElem?_of_mem hc
    obtain ⟨i, _, e⟩ := at_ j c hj
    exact List.mem_of_getElem? e
  · refine List.pairwise_iff_getElem.mpr fun i j hi hj hij e => ?_
    have hi' : i < l'.length := by simpa using hi
    have hj' : j < l'.length := by simpa using hj
    rw [List.getElem_map, List.getElem_map] at e
    obtain ⟨a, ha, ea⟩ := at_ i _ (List.getElem?_eq_getElem hi')
    obtain ⟨b, hb, eb⟩ := at_ j _ (List.getElem?_eq_getElem hj')
    have q := nodup_at N.nd ea eb e
    subst q
    exact absurd (nd_ix hn ha hb) (by omega)
/-- a new cell that a call laid -/
theorem Now.grow (N : Now K D M H0 H l ts) (N' : Now K D M H0 H' l' ts') (hl : ∀ a ∈ l'.map Cel.a, a ∈ l.map Cel.a ∨ a ≠ q) (hq : H q = none) (h : H' q = some o) (hm : Mut (some o)) : Now K D M H0 H' (⟨true, q, o⟩ :: l') ts' where
  nd := List.nodup_cons.mpr ⟨fun m => (hl q m).elim (N.free hq) (fun z => z rfl), N'.nd⟩
  at_ := fun c hc => by
    rcases List.mem_cons.mp hc with e | hc
    · subst e; exact h
    · exact N'.at_ c hc
  mu := fun c hc => by
    rcases List.mem_cons.mp hc with e | hc
    · subst e; exact hm
    · exact N'.mu c hc
  ow := fun c hc hw => by
    rcases List.mem_cons.mp hc with e | hc
    · subst e
      by_cases z : q ∈ M
      · exact .inl z
      · exact .inr (N.af.free z hq)
    · exact N'.ow c hc hw
  tp := N'.tp
  af := N'.af
  dc := fun d e => by
    obtain ⟨h1, h2, h3⟩ := N'.dc d e
    refine ⟨h1, h2, ?_⟩
    intro m
    rcases List.mem_cons.mp m with z | z
    · obtain ⟨g1, _, _⟩ := N.dc d e
      obtain ⟨ys, hy⟩ := g1.lst
      rw [z, hq] at hy; cases hy
    · exact h3 z
/-- the start of a method -/
theorem Now.begin (hc : (fp.map Cel.a).Nodup ∧ ∀ c ∈ fp, H c.a = some c.o ∧ Mut (some c.o)) (tp : ∀ p ∈ ts, H p.1 = some (.tup p.2)) : Now K none (fp.map Cel.a) H H fp ts :=
  .start hc.1 (fun c h => ⟨(hc.2 c h).1, (hc.2 c h).2, fun _ => List.mem_map.mpr ⟨c, h, rfl⟩⟩) tp (by simp)
theorem Now.front (N : Now K D M H0 H (fp ++ r) ts) : (fp.map Cel.a).Nodup ∧ ∀ c ∈ fp, H c.a = some c.o ∧ Mut (some c.o) := by
  have nd := N.nd
  rw [List.map_append, List.nodup_append] at nd
  exact ⟨nd.1, fun c h => ⟨N.at_ c (List.mem_append_left _ h), N.mu c (List.mem_append_left _ h)⟩⟩
end
/-! ### fields, methods, made instances -/
section
variable {r' : R2} {tc : TE} {σ : L2.St} {y : V} {Q : VK} {H : Hp} {p : Prop} [Decidable p]
theorem c_chD (hp : p) (h : tc σ H fun w' H4 => r' y w' H4 Q) : cCh r' tc σ y Q (.bl (decide p)) H := c_ch (fun _ => h) fun e => absurd hp (of_decide_eq_false e)
theorem c_chN (hp : ¬ p) (h : Q (.bl false) H) : cCh r' tc σ y Q (.bl (decide p)) H := c_ch (fun e => absurd (of_decide_eq_true e) hp) fun _ => h
end
section
variable {K : PySem.W.Frag} {D : Option Addr} {M M' : List Addr} {H0 H H' : Hp} {l : List Cel} {ts : List (Addr × List V)} {p a C dx : Addr} {o u : HO} {c0 c1 c2 c3 : Cel} {σ : L2.St} {ta tv te : TE} {t : TA} {f m : Str} {fs fs' : List (Str × V)} {v y : V} {Q : VK} {sp : Sp} {dvs : List V} {E : XK} {nx bk ct : L2.St → Hp → Prop} {rt : VK} {w : Bool}
def cFld (K : PySem.W.Frag) (f : Str) (Q : VK) : VK := fun x H1 => ∃ a C dx fs v, x = .ref a ∧ H1 a = some (.ins C dx fs) ∧ Cls K C ∧ NoAttr K C f ∧ fs.lookup f = some v ∧ Q v H1
theorem k_fld (h : ta σ H (cFld K f Q)) : tFld K ta f σ H Q := h
theorem g_fld (h : H a = some (.ins C dx fs)) (cl : Cls K C) (na : NoAttr K C f) (hl : fs.lookup f = some v) (q : Q v H) : cFld K f Q (.ref a) H := ⟨a, C, dx, fs, v, rfl, h, cl, na, hl, q⟩
def cSF (K : PySem.W.Frag) (f : Str) (y : V) (nx : L2.St → Hp → Prop) (σ : L2.St) : VK := fun x H2 => ∃ a C dx fs, x = .ref a ∧ H2 a = some (.ins C dx fs) ∧ Cls K C ∧ NoAttr K C f ∧ fs.length < 1000 ∧ nx σ (upd H2 a (.ins C dx (putF f y fs)))
theorem k_sfld (h : tv σ H fun y H1 => ta σ H1 (cSF K f y nx σ)) : sFld K ta tv f ⟨nx, rt, bk, ct⟩ σ H := h
theorem g_sf0 (N : Now K D M H0 H (⟨true, p, .ins C dx fs⟩ :: l) ts) (cl : Cls K C) (na : NoAttr K C f) (hl : fs.length < 1000) (he : putF f y fs = fs') (q : ∀ H', Now K D M H0 H' (⟨true, p, .ins C dx fs'⟩ :: l) ts → nx σ H') : cSF K f y nx σ (.ref p) H :=
  ⟨p, C, dx, fs, rfl, N.cell 0 rfl, cl, na, hl, by rw [he]; exact q _ (N.put 0 rfl trivial)⟩
theorem g_sf1 (N : Now K D M H0 H (c0 :: ⟨true, p, .ins C dx fs⟩ :: l) ts) (cl : Cls K C) (na : NoAttr K C f) (hl : fs.length < 1000) (he : putF f y fs = fs') (q : ∀ H', Now K D M H0 H' (c0 :: ⟨true, p, .ins C dx fs'⟩ :: l) ts → nx σ H') : cSF K f y nx σ (.ref p) H :=
  ⟨p, C, dx, fs, rfl, N.cell 1 rfl, cl, na, hl, by rw [he]; exact q _ (N.put 1 rfl trivial)⟩
theorem g_sf2 (N : Now K D M H0 H (c0 :: c1 :: ⟨true, p, .ins C dx fs⟩ :: l) ts) (cl : Cls K C) (na : NoAttr K C f) (hl : fs.length < 1000) (he : putF f y fs = fs') (q : ∀ H', Now K D M H0 H' (c0 :: c1 :: ⟨true, p, .ins C dx fs'⟩ :: l) ts → nx σ H') : cSF K f y nx σ (.ref p) H :=
  ⟨p, C, dx, fs, rfl, N.cell 2 rfl, cl, na, hl, by rw [he]; exact q _ (N.put 2 rfl trivial)⟩
def cMeth (C : Addr) (m : Str) (sp : Sp) (dvs : List V) (E : XK) (t : TA) (σ : L2.St) (Q : VK) : VK := fun x H1 => ∃ a dx fs, x = .ref a ∧ H1 a = some (.ins C dx fs) ∧ fs.lookup m = none ∧ t σ H1 fun vs H2 => sp (x :: (vs ++ dvs)) H2 Q E
theorem k_meth (h : ta σ H (cMeth C m sp dvs E t σ Q)) : tMeth C m sp dvs E ta t σ H Q := h
theorem g_meth (h : H a = some (.ins C dx fs)) (hl : fs.lookup m = none) (q : t σ H fun vs H2 => sp (.ref a :: (vs ++ dvs)) H2 Q E) : cMeth C m sp dvs E t σ Q (.ref a) H := ⟨a, dx, fs, rfl, h, hl, q⟩
def cMake (C : Addr) (sp : Sp) (dvs : List V) (E : XK) (Q : VK) : List V → Hp → Prop := fun vs H1 => ∀ x dx, H1 x = none → H1 dx = none → dx ≠ x → sp (.ref x :: (vs ++ dvs)) (upd (upd H1 dx (.own x)) x (.ins C dx [])) (fun v H2 => v = .non ∧ Q (.ref x) H2) E
theorem k_make (h : t σ H (cMake C sp dvs E Q)) : tMake C sp dvs E t σ H Q := h
theorem g_make {vs : List V} (N : Now K D M H0 H l ts) (q : ∀ x dx H', H x = none → Now K D M H0 H' (⟨true, x, .ins C dx []⟩ :: l) ts → sp (.ref x :: (vs ++ dvs)) H' (fun v H2 => v = .non ∧ Q (.ref x) H2) E) : cMake C sp dvs E Q vs H := fun x dx hx hd ne =>
  q x dx _ hx ((N.alloc (o := .own x) hd).newC (by rw [upd_ne ne.symm]; exact hx) trivial)
end
/-! ### dicts -/
section
variable {K : PySem.W.Frag} {D : Option Addr} {M M' : List Addr} {H0 H H' : Hp} {l : List Cel} {ts : List (Addr × List V)} {p a : Addr} {kvs kvs' : List (Key × V)} {c0 c1 c2 : Cel} {σ : L2.St} {td ty tv te : TE} {v y : V} {Q : VK} {nx bk ct : L2.St → Hp → Prop} {rt : VK} {n : Int} {z : Str} {ro : Option V}
def cDGet (x : V) (Q : VK) : VK := fun y H2 => ∃ a v, x = .ref a ∧ DGet H2 a y (some v) ∧ Q v H2
theorem k_dget (h : td σ H fun x H1 => ty σ H1 (cDGet x Q)) : tDGet td ty σ H Q := h
theorem g_dgetI (h : H a = some (.dK kvs)) (hv : valV kvs (Sum.inl n) = some v) (q : Q v H) : cDGet (.ref a) Q (.int n) H := ⟨a, v, rfl, by rw [← hv]; exact DGet.k (k := Sum.inl n) h, q⟩
def lkS (z : Str) : List (Key × V) → Option V
  | [] => none
  | (Sum.inr y, v) :: r => if y = z then some v else lkS z r
  | (Sum.inl _, _) :: r => lkS z r
theorem valV_lk (z : Str) : ∀ kvs : List (Key × V), valV kvs (Sum.inr z) = lkS z kvs
  | [] => rfl
  | (Sum.inr y, v) :: r => by
    show _ = if y = z then some v else lkS z r
    by_cases e : y = z
    · subst e
      rw [if_pos rfl, valV_pos rfl]
    · rw [if_neg e, valV_neg (by simpa using e), valV_lk z r]
  | (Sum.inl i, v) :: r => by
    show _ = lkS z r
    rw [valV_neg (by simp), valV_lk z r]
theorem g_dgetS (h : H a = some (.dK kvs)) (hv : lkS z kvs = some v) (q : Q v H) : cDGet (.ref a) Q (.str z) H := ⟨a, v, rfl, by rw [← hv, ← valV_lk]; exact DGet.k (k := Sum.inr z) h, q⟩
def cDIn (y : V) (Q : VK) : VK := fun x H2 => ∃ a o, x = .ref a ∧ DGet H2 a y o ∧ Q (.bl o.isSome) H2
def cDNin (y : V) (Q : VK) : VK := fun x H2 => ∃ a o, x = .ref a ∧ DGet H2 a y o ∧ Q (.bl (!o.isSome)) H2
theorem k_din (h : ty σ H fun y H1 => td σ H1 (cDIn y Q)) : tDIn ty td σ H Q := h
theorem k_dnin (h : ty σ H fun y H1 => td σ H1 (cDNin y Q)) : tDNotIn ty td σ H Q := h
theorem g_dinI (h : H a = some (.dK kvs)) (q : Q (.bl (valV kvs (Sum.inl n)).isSome) H) : cDIn (.int n) Q (.ref a) H := ⟨a, _, rfl, DGet.k (k := Sum.inl n) h, q⟩
theorem g_dninI (h : H a = some (.dK kvs)) (q : Q (.bl (!(valV kvs (Sum.inl n)).isSome)) H) : cDNin (.int n) Q (.ref a) H := ⟨a, _, rfl, DGet.k (k := Sum.inl n) h, q⟩
def cDPut (v x : V) (nx : L2.St → Hp → Prop) (σ : L2.St) : VK := fun y H3 => ∃ a H4, x = .ref a ∧ DPut H3 a y v H4 ∧ nx σ H4
theorem k_dput (h : tv σ H fun v H1 => td σ H1 fun x H2 => ty σ H2 (cDPut v x nx σ)) : sDPut td ty tv ⟨nx, rt, bk, ct⟩ σ H := h
theorem g_dputI0 (N : Now K D M H0 H (⟨true, p, .dK kvs⟩ :: l) ts) (hl : kvs.length < 100000) (q : ∀ H', Now K D M H0 H' (⟨true, p, .dK (putK kvs (Sum.inl n) v)⟩ :: l) ts → nx σ H') : cDPut v (.ref p) nx σ (.int n) H :=
  ⟨p, _, rfl, DPut.k (k := Sum.inl n) (N.cell 0 rfl) (Nat.lt_of_lt_of_le hl (by decide)), q _ (N.put 0 rfl trivial)⟩
theorem g_dputI1 (N : Now K D M H0 H (c0 :: ⟨true, p, .dK kvs⟩ :: l) ts) (hl : kvs.length < 100000) (q : ∀ H', Now K D M H0 H' (c0 :: ⟨true, p, .dK (putK kvs (Sum.inl n) v)⟩ :: l) ts → nx σ H') : cDPut v (.ref p) nx σ (.int n) H :=
  ⟨p, _, rfl, DPut.k (k := Sum.inl n) (N.cell 1 rfl) (Nat.lt_of_lt_of_le hl (by decide)), q _ (N.put 1 rfl trivial)⟩
theorem g_dputI2 (N : Now K D M H0 H (c0 :: c1 :: ⟨true, p, .dK kvs⟩ :: l) ts) (hl : kvs.length < 100000) (q : ∀ H', Now K D M H0 H' (c0 :: c1 :: ⟨true, p, .dK (putK kvs (Sum.inl n) v)⟩ :: l) ts → nx σ H') : cDPut v (.ref p) nx σ (.int n) H :=
  ⟨p, _, rfl, DPut.k (k := Sum.inl n) (N.cell 2 rfl) (Nat.lt_of_lt_of_le hl (by decide)), q _ (N.put 2 rfl trivial)⟩
theorem g_dputS0 (N : Now K D M H0 H (⟨true, p, .dK kvs⟩ :: l) ts) (hl : kvs.length < 100000) (he : putK kvs (Sum.inr z) v = kvs') (q : ∀ H', Now K D M H0 H' (⟨true, p, .dK kvs'⟩ :: l) ts → nx σ H') : cDPut v (.ref p) nx σ (.str z) H :=
  ⟨p, _, rfl, DPut.k (k := Sum.inr z) (N.cell 0 rfl) (Nat.lt_of_lt_of_le hl (by decide)), by rw [he]; exact q _ (N.put 0 rfl trivial)⟩
theorem g_dputS1 (N : Now K D M H0 H (c0 :: ⟨true, p, .dK kvs⟩ :: l) ts) (hl : kvs.length < 100000) (he : putK kvs (Sum.inr z) v = kvs') (q : ∀ H', Now K D M H0 H' (c0 :: ⟨true, p, .dK kvs'⟩ :: l) ts → nx σ H') : cDPut v (.ref p) nx σ (.str z) H :=
  ⟨p, _, rfl, DPut.k (k := Sum.inr z) (N.cell 1 rfl) (Nat.lt_of_lt_of_le hl (by decide)), by rw [he]; exact q _ (N.put 1 rfl trivial)⟩
theorem g_dputS2 (N : Now K D M H0 H (c0 :: c1 :: ⟨true, p, .dK kvs⟩ :: l) ts) (hl : kvs.length < 100000) (he : putK kvs (Sum.inr z) v = kvs') (q : ∀ H', Now K D M H0 H' (c0 :: c1 :: ⟨true, p, .dK kvs'⟩ :: l) ts → nx σ H') : cDPut v (.ref p) nx σ (.str z) H :=
  ⟨p, _, rfl, DPut.k (k := Sum.inr z) (N.cell 2 rfl) (Nat.lt_of_lt_of_le hl (by decide)), by rw [he]; exact q _ (N.put 2 rfl trivial)⟩
theorem k_dnew {Q : VK} (N : Now K D M H0 H l ts) (q : ∀ p H', Now K D M H0 H' (⟨true, p, .dK []⟩ :: l) ts → Q (.ref p) H') : tDNewK σ H Q := fun p hp => q p _ (N.newC hp trivial)
/-- pop of a key that is there -/
def cDPop (σ : L2.St) (ty : TE) (Q : VK) : VK := fun x H1 => ∃ a, x = .ref a ∧ IsD H1 a ∧ ty σ H1 fun y H2 => ∃ kvs k v, H2 a = some (.dK kvs) ∧ y = kV k ∧ valV kvs k = some v ∧ Q v (upd H2 a (.dK (dropK kvs k)))
theorem k_dpop (h : td σ H (cDPop σ ty Q)) : tDPop1 td ty σ H Q := h
end
end Ak
namespace Ak
open PySem PySem.Spec PyProof.Rows L2
/-! ### comprehensions -/
section
variable {K : PySem.W.Frag} {D : Option Addr} {M : List Addr} {H0 H : Hp} {l : List Cel} {ts : List (Addr × List V)} {a p : Addr} {xs acc : List V} {σ : L2.St} {g : TG} {tt : TT} {te tl : TE} {tr : TA} {vs : List Nat} {Q : VK} {j : Nat} {y : V}
def cPut (Dd : Addr) (P : Hp → Prop) : VK := fun y H4 => ∃ acc, H4 Dd = some (.lst acc) ∧ acc.length < sizeLine ∧ P (upd H4 Dd (.lst (acc ++ [y])))
def cElt (te : TE) (σ : L2.St) (Dd : Addr) (P : Hp → Prop) : Bool → Hp → Prop := fun b H3 => if b = true then te σ H3 (cPut Dd P) else P H3
def LcW (J : It) (g : TG) (tt : TT) (te : TE) (vs : List Nat) (σ : L2.St) (Q : VK) (H1 : Hp) : Prop := ∀ D, H1 D = none → ∃ W : Nat → Nat → Hp → Prop, (∃ m, W 0 m (upd H1 D (.lst []))) ∧ ∀ i m H, W i m H →
  (J.stop i H ∧ Q (.ref D) H) ∨ (J.go i H ∧ ∃ Nx : Hp → Prop, (∀ H', Nx H' → ∃ m', m' < m ∧ W (i + 1) m' H') ∧ ∀ x H', J.yld i H x H' → g x (wipe σ vs) H' fun σ2 H2 => wipe σ2 vs = wipe σ vs ∧ tt σ2 H2 fun b H3 =>
    if b = true then te σ2 H3 fun y H4 => ∃ acc, H4 D = some (.lst acc) ∧ acc.length < sizeLine ∧ Nx (upd H4 D (.lst (acc ++ [y]))) else Nx H3)
def cLc (K : PySem.W.Frag) (g : TG) (tt : TT) (te : TE) (vs : List Nat) (σ : L2.St) (Q : VK) : VK := fun x H1 => ∃ a, x = .ref a ∧ (∃ xs, SqL K H1 a xs) ∧ LcW (Itl K a) g tt te vs σ Q H1
def cLcT (K : PySem.W.Frag) (g : TG) (tt : TT) (te : TE) (vs : List Nat) (σ : L2.St) (Q : VK) : VK := fun x H1 => ∃ a, x = .ref a ∧ (∃ xs, SqT K H1 a xs) ∧ LcW (Itt K a) g tt te vs σ Q H1
def cLcR (g : TG) (tt : TT) (te : TE) (vs : List Nat) (σ : L2.St) (Q : VK) : List V → Hp → Prop := fun us H1 => ∃ j : Int, us = [.int j] ∧ -(2 ^ 62) ≤ j ∧ j < 2 ^ 62 ∧ LcW (Itr 0 j.toNat) g tt te vs σ Q H1
def cLcR2 (g : TG) (tt : TT) (te : TE) (vs : List Nat) (σ : L2.St) (Q : VK) : List V → Hp → Prop := fun us H1 => ∃ i j : Int, us = [.int i, .int j] ∧ (-(2 ^ 62) ≤ i ∧ i < 2 ^ 62 ∧ -(2 ^ 62) ≤ j ∧ j < 2 ^ 62) ∧ LcW (Itr i (j - i).toNat) g tt te vs σ Q H1
theorem k_lc (h : tl σ H (cLc K g tt te vs σ Q)) : tLc (iList K tl) g tt te vs σ H Q := h
theorem k_lcT (h : tl σ H (cLcT K g tt te vs σ Q)) : tLc (iTup K tl) g tt te vs σ H Q := h
theorem k_lcR (h : tr σ H (cLcR g tt te vs σ Q)) : tLc (iRng1 tr) g tt te vs σ H Q := h
theorem k_lcR2 (h : tr σ H (cLcR2 g tt te vs σ Q)) : tLc (iRng2 tr) g tt te vs σ H Q := h
/-- what is made so far: R -/
def LcP (K : PySem.W.Frag) (D : Option Addr) (M : List Addr) (H0 : Hp) (l : List Cel) (ts : List (Addr × List V)) (R : Nat → List V → Prop) (Dd : Addr) (i : Nat) : Hp → Prop := fun H => ∃ acc, Now K D M H0 H (⟨true, Dd, .lst acc⟩ :: l) ts ∧ R i acc
theorem c_put {R : Nat → List V → Prop} {Dd : Addr} {i : Nat} (N : Now K D M H0 H (⟨true, Dd, .lst acc⟩ :: l) ts) (hz : acc.length < 100000) (h : R i (acc ++ [y])) : cPut Dd (LcP K D M H0 l ts R Dd i) y H :=
  ⟨acc, N.cell 0 rfl, Nat.lt_of_lt_of_le hz (by decide), _, N.put 0 rfl trivial, h⟩
theorem c_elT {Dd : Addr} {P : Hp → Prop} (h : te σ H (cPut Dd P)) : cElt te σ Dd P true H := h
theorem c_elF {R : Nat → List V → Prop} {Dd : Addr} {i : Nat} (N : Now K D M H0 H (⟨true, Dd, .lst acc⟩ :: l) ts) (h : R i acc) : cElt te σ Dd (LcP K D M H0 l ts R Dd i) false H := ⟨acc, N, h⟩
theorem c_el {Dd : Addr} {P : Hp → Prop} {b : Bool} (h1 : b = true → te σ H (cPut Dd P)) (h2 : b = false → P H) : cElt te σ Dd P b H := by
  cases b with
  | true => exact h1 rfl
  | false => exact h2 rfl
theorem k_yes {Q : Bool → Hp → Prop} (h : Q true H) : tYes σ H Q := h
theorem c_lc (N : Now K D M H0 H l ts) (xs : List V) (R : Nat → List V → Prop) (h0 : R 0 []) (hl : ∀ (H' : Hp) (Dd : Addr) (acc : List V), Now K D M H0 H' (⟨true, Dd, .lst acc⟩ :: l) ts → SqL K H' a xs)
    (hw : ∀ x, wipe ((wipe σ vs).set j (some x)) vs = wipe σ vs)
    (hs : ∀ i x (Dd : Addr) (H' : Hp) (acc : List V), xs[i]? = some x → Now K D M H0 H' (⟨true, Dd, .lst acc⟩ :: l) ts → R i acc → tt ((wipe σ vs).set j (some x)) H' (cElt te ((wipe σ vs).set j (some x)) Dd (LcP K D M H0 l ts R Dd (i + 1))))
    (hd : ∀ (p : Addr) (H' : Hp) (acc : List V), Now K D M H0 H' (⟨true, p, .lst acc⟩ :: l) ts → R xs.length acc → Q (.ref p) H') (hx : SqL K H a xs) : cLc K (gName j) tt te vs σ Q (.ref a) H := by
  refine ⟨a, rfl, ⟨xs, hx⟩, fun Dd hD => ?_⟩
  refine lc_list (K := K) (a := a) (xs := xs) (LcP K D M H0 l ts R Dd) ⟨[], N.newC hD trivial, h0⟩ (fun i H' _ ⟨acc, N', _⟩ => hl _ _ _ N') (fun i x H' hi ⟨acc, N', r⟩ => ?_) fun H' ⟨acc, N', r⟩ => hd _ _ _ N' r
  exact ⟨hw x, hs i x Dd H' acc hi N' r⟩
theorem c_lcT (N : Now K D M H0 H l ts) (xs : List V) (R : Nat → List V → Prop) (h0 : R 0 []) (hl : ∀ (H' : Hp) (l' : List Cel), Now K D M H0 H' l' ts → SqT K H' a xs)
    (hw : ∀ x, wipe ((wipe σ vs).set j (some x)) vs = wipe σ vs)
    (hs : ∀ i x (Dd : Addr) (H' : Hp) (acc : List V), xs[i]? = some x → Now K D M H0 H' (⟨true, Dd, .lst acc⟩ :: l) ts → R i acc → tt ((wipe σ vs).set j (some x)) H' (cElt te ((wipe σ vs).set j (some x)) Dd (LcP K D M H0 l ts R Dd (i + 1))))
    (hd : ∀ (p : Addr) (H' : Hp) (acc : List V), Now K D M H0 H' (⟨true, p, .lst acc⟩ :: l) ts → R xs.length acc → Q (.ref p) H') : cLcT K (gName j) tt te vs σ Q (.ref a) H := by
  refine ⟨a, rfl, ⟨xs, hl _ _ N⟩, fun Dd hD => ?_⟩
  refine lc_tup (K := K) (a := a) (xs := xs) (LcP K D M H0 l ts R Dd) ⟨[], N.newC hD trivial, h0⟩ (fun i H' _ ⟨acc, N', _⟩ => hl _ _ N') (fun i x H' hi ⟨acc, N', r⟩ => ?_) fun H' ⟨acc, N', r⟩ => hd _ _ _ N' r
  exact ⟨hw x, hs i x Dd H' acc hi N' r⟩
theorem c_lcR {n : Int} (N : Now K D M H0 H l ts) (hn : -100000 ≤ n ∧ n ≤ 100000) (R : Nat → List V → Prop) (h0 : R 0 [])
    (hw : ∀ x, wipe ((wipe σ vs).set j (some x)) vs = wipe σ vs)
    (hs : ∀ (i : Nat) (Dd : Addr) (H' : Hp) (acc : List V), (i : Int) < n → Now K D M H0 H' (⟨true, Dd, .lst acc⟩ :: l) ts → R i acc → tt ((wipe σ vs).set j (some (.int (i : Int)))) H' (cElt te ((wipe σ vs).set j (some (.int (i : Int)))) Dd (LcP K D M H0 l ts R Dd (i + 1))))
    (hd : ∀ (p : Addr) (H' : Hp) (acc : List V), Now K D M H0 H' (⟨true, p, .lst acc⟩ :: l) ts → R n.toNat acc → Q (.ref p) H') : cLcR (gName j) tt te vs σ Q [.int n] H := by
  refine ⟨n, rfl, by omega, by omega, fun Dd hD => ?_⟩
  refine lc_range (lo := 0) (n := n.toNat) (LcP K D M H0 l ts R Dd) ⟨[], N.newC hD trivial, h0⟩ (fun i H' hi ⟨acc, N', r⟩ => ?_) fun H' ⟨acc, N', r⟩ => hd _ _ _ N' r
  rw [show (0 : Int) + (i : Int) = (i : Int) from Int.zero_add _]
  exact ⟨hw _, hs i Dd H' acc (by omega) N' r⟩
theorem c_lcR2 {lo n : Int} (N : Now K D M H0 H l ts) (hn : -100000 ≤ n ∧ n ≤ 100000 ∧ -100000 ≤ lo ∧ lo ≤ 100000) (R : Nat → List V → Prop) (h0 : R 0 [])
    (hw : ∀ x, wipe ((wipe σ vs).set j (some x)) vs = wipe σ vs)
    (hs : ∀ (i : Nat) (Dd : Addr) (H' : Hp) (acc : List V), lo + (i : Int) < n → Now K D M H0 H' (⟨true, Dd, .lst acc⟩ :: l) ts → R i acc → tt ((wipe σ vs).set j (some (.int (lo + (i : Int))))) H' (cElt te ((wipe σ vs).set j (some (.int (lo + (i : Int))))) Dd (LcP K D M H0 l ts R Dd (i + 1))))
    (hd : ∀ (p : Addr) (H' : Hp) (acc : List V), Now K D M H0 H' (⟨true, p, .lst acc⟩ :: l) ts → R (n - lo).toNat acc → Q (.ref p) H') : cLcR2 (gName j) tt te vs σ Q [.int lo, .int n] H := by
  refine ⟨lo, n, rfl, by omega, fun Dd hD => ?_⟩
  refine lc_range (lo := lo) (n := (n - lo).toNat) (LcP K D M H0 l ts R Dd) ⟨[], N.newC hD trivial, h0⟩ (fun i H' hi ⟨acc, N', r⟩ => ?_) fun H' ⟨acc, N', r⟩ => hd _ _ _ N' r
  exact ⟨hw _, hs i Dd H' acc (by omega) N' r⟩
end
/-! ### methods of lists -/
section
variable {K : PySem.W.Frag} {D : Option Addr} {M : List Addr} {H0 H : Hp} {l : List Cel} {ts : List (Addr × List V)} {a p : Addr} {xs : List V} {σ : L2.St} {to : TE} {t : TA} {Q : VK} {r : V → List V → Hp → VK → Prop} {T : String} {c0 c1 c2 : Cel} {v : V} {kvs : List (Key × V)} {n : Int} {nx : L2.St → Hp → Prop}
def cBM (K : PySem.W.Frag) (T : String) (r : V → List V → Hp → VK → Prop) (t : TA) (σ : L2.St) (Q : VK) : VK := fun x H1 => tyV K T x H1 ∧ t σ H1 fun xs H2 => r x xs H2 Q
theorem k_bm (h : to σ H (cBM K T r t σ Q)) : tBM K T r to t σ H Q := h
theorem g_bmL (h : SqL K H p xs) (q : t σ H fun xs H2 => r (.ref p) xs H2 Q) : cBM K "list" r t σ Q (.ref p) H := ⟨.inl ⟨rfl, _, h⟩, q⟩
def cBM0 (K : PySem.W.Frag) (T : String) (r : V → List V → Hp → VK → Prop) (Q : VK) : VK := fun x H1 => tyV K T x H1 ∧ r x [] H1 Q
theorem k_bm0 (h : to σ H (cBM0 K T r Q)) : tBM0 K T r to σ H Q := h
theorem g_bmL0 (h : SqL K H p xs) (q : r (.ref p) [] H Q) : cBM0 K "list" r Q (.ref p) H := ⟨.inl ⟨rfl, _, h⟩, q⟩
theorem g_app2 (N : Now K D M H0 H (c0 :: c1 :: ⟨true, p, .lst xs⟩ :: l) ts) (hz : xs.length < 100000) (q : ∀ H', Now K D M H0 H' (c0 :: c1 :: ⟨true, p, .lst (xs ++ [v])⟩ :: l) ts → Q .non H') : rAppend (.ref p) [v] H Q := ⟨p, xs, v, rfl, rfl, N.cell 2 rfl, Nat.lt_of_lt_of_le hz (by decide), q _ (N.put 2 rfl trivial)⟩
theorem g_app3 (N : Now K D M H0 H (c0 :: c1 :: c2 :: ⟨true, p, .lst xs⟩ :: l) ts) (hz : xs.length < 100000) (q : ∀ H', Now K D M H0 H' (c0 :: c1 :: c2 :: ⟨true, p, .lst (xs ++ [v])⟩ :: l) ts → Q .non H') : rAppend (.ref p) [v] H Q := ⟨p, xs, v, rfl, rfl, N.cell 3 rfl, Nat.lt_of_lt_of_le hz (by decide), q _ (N.put 3 rfl trivial)⟩
/-- cells as a callee wants them -/
def CelOk (H : Hp) (fp : List Cel) : Prop := (fp.map Cel.a).Nodup ∧ ∀ c ∈ fp, H c.a = some c.o ∧ Mut (some c.o)
theorem Now.ok (N : Now K D M H0 H l ts) : CelOk H l := ⟨N.nd, fun c hc => ⟨N.at_ c hc, N.mu c hc⟩⟩
end
/-! ### slices, tuple(..), list(..) -/
section
variable {K : PySem.W.Frag} {D : Option Addr} {M : List Addr} {H0 H : Hp} {l : List Cel} {ts : List (Addr × List V)} {a p : Addr} {xs : List V} {σ : L2.St} {te : TE} {tl th : TO} {Q : VK} {r : V → Option Int → Option Int → Hp → VK → Prop}
theorem k_sl (h : te σ H fun x H1 => tl σ H1 fun l H2 => th σ H2 fun u H3 => r x l u H3 Q) : tSl r te tl th σ H Q := h
theorem k_nopart {Q : Option Int → Hp → Prop} (h : Q none H) : tNoPart σ H Q := h
def cPart (Q : Option Int → Hp → Prop) : VK := fun x H1 => ∃ i, x = .int i ∧ Q (some i) H1
theorem k_part {Q : Option Int → Hp → Prop} (h : te σ H (cPart Q)) : tPart te σ H Q := h
theorem c_part {Q : Option Int → Hp → Prop} {i : Int} (h : Q (some i) H) : cPart Q (.int i) H := ⟨i, rfl, h⟩
theorem g_slL {lo hi : Option Int} (N : Now K D M H0 H l ts) (hx : SqL K H a xs) (q : ∀ p H', Now K D M H0 H' (⟨true, p, .lst (cutV xs lo hi)⟩ :: l) ts → Q (.ref p) H') : rSlL K (.ref a) lo hi H Q := ⟨a, xs, rfl, hx, fun p hp => q p _ (N.newC hp trivial)⟩
theorem cut_take {xs : List V} (n : Nat) : cutV xs none (some (n : Int)) = xs.take n := by
  unfold cutV
  rw [HT.sIx_none, HT.sIx_nat, List.drop_zero, Nat.sub_zero]
  by_cases h : n ≤ xs.length
  · rw [Nat.min_eq_left h]
  · rw [Nat.min_eq_right (by omega), List.take_of_length_le (by omega), List.take_of_length_le (by omega)]
theorem cut_drop {xs : List V} (n : Nat) : cutV xs (some (n : Int)) none = xs.drop n := by
  unfold cutV
  rw [HT.sIx_nat, HT.sIx_none]
  by_cases h : n ≤ xs.length
  · rw [Nat.min_eq_left h]
    exact List.take_of_length_le (by rw [List.length_drop]; omega)
  · rw [Nat.min_eq_right (by omega), List.drop_of_length_le (by omega : xs.length ≤ n)]
    simp
def rTupL (K : PySem.W.Frag) : List V → Hp → VK → Prop := fun xs H Q => ∃ p ys, xs = [.ref p] ∧ SqL K H p ys ∧ ∀ l, H l = none → Q (.ref l) (upd H l (.tup ys))
theorem cr_tupL {X : Cx} : CallR X (.type "tuple") (rTupL X.K) := fun pins s σ H xs us Q I r h => call_tuple_of pins s σ H xs us Q I r (let ⟨p, ys, e, h1, h2⟩ := h; ⟨p, ys, e, .inl ⟨h1, h2⟩⟩)
theorem cr_tupLK {X : Cx} (K : PySem.W.Frag) (h : X.K = K) : CallR X (.type "tuple") (rTupL K) := h ▸ cr_tupL
theorem g_tupL (N : Now K D M H0 H l ts) (hx : SqL K H a xs) (q : ∀ p H', Now K D M H0 H' l ((p, xs) :: ts) → Q (.ref p) H') : rTupL K [.ref a] H Q := ⟨a, xs, rfl, hx, fun p hp => q p _ (N.newT hp)⟩
def rLstS (K : PySem.W.Frag) : List V → Hp → VK → Prop := fun xs H Q => ∃ p ys, xs = [.ref p] ∧ (SqL K H p ys ∨ SqT K H p ys) ∧ ∀ l, H l = none → Q (.ref l) (upd H l (.lst ys))
theorem cr_lstS {X : Cx} : CallR X (.type "list") (rLstS X.K) := call_list_of
theorem cr_lstSK {X : Cx} (K : PySem.W.Frag) (h : X.K = K) : CallR X (.type "list") (rLstS K) := h ▸ cr_lstS
theorem g_lstL (N : Now K D M H0 H l ts) (hx : SqL K H a xs) (q : ∀ p H', Now K D M H0 H' (⟨true, p, .lst xs⟩ :: l) ts → Q (.ref p) H') : rLstS K [.ref a] H Q := ⟨a, xs, rfl, .inl hx, fun p hp => q p _ (N.newC hp trivial)⟩
theorem g_lstT (N : Now K D M H0 H l ts) (hx : SqT K H a xs) (q : ∀ p H', Now K D M H0 H' (⟨true, p, .lst xs⟩ :: l) ts → Q (.ref p) H') : rLstS K [.ref a] H Q := ⟨a, xs, rfl, .inr hx, fun p hp => q p _ (N.newC hp trivial)⟩
/-- sorted of a dict, of a list of ints: a new cell -/
theorem g_sortD {kvs : List (Key × V)} {ks : List Int} (N : Now K D M H0 H l ts) (hd : H a = some (.dK kvs)) (hk : kvs.map (·.1) = ks.map Sum.inl) (q : ∀ p H' (ys : List Int), ys.Perm ks → ys.Pairwise (· ≤ ·) → Now K D M H0 H' (⟨true, p, .lst (ys.map V.int)⟩ :: l) ts → Q (.ref p) H') : rSortedDA [.ref a] H Q :=
  ⟨a, kvs, ks, rfl, .of hd, hk, fun ys p h1 h2 hp => q p _ ys h1 h2 (N.newC hp trivial)⟩
theorem g_sortL {ks : List Int} (N : Now K D M H0 H l ts) (hx : SqL K H a (ks.map V.int)) (q : ∀ p H' (ys : List Int), ys.Perm ks → ys.Pairwise (· ≤ ·) → Now K D M H0 H' (⟨true, p, .lst (ys.map V.int)⟩ :: l) ts → Q (.ref p) H') : rSortedI K [.ref a] H Q :=
  ⟨a, ks, rfl, hx, fun ys p h1 h2 hp => q p _ ys h1 h2 (N.newC hp trivial)⟩
/-- xs + ys: a new cell -/
theorem g_cat {b : Addr} {ys : List V} (N : Now K D M H0 H l ts) (hx : H a = some (.lst xs)) (hy : H b = some (.lst ys)) (hz : xs.length + ys.length ≤ 100000) (q : ∀ p H', Now K D M H0 H' (⟨true, p, .lst (xs ++ ys)⟩ :: l) ts → Q (.ref p) H') : rCat (.ref a) (.ref b) H Q :=
  ⟨a, b, xs, ys, rfl, rfl, hx, hy, Nat.le_trans hz (by decide), fun p hp => q p _ (N.newC hp trivial)⟩
/-- x in xs, ints -/
theorem inV_ints {n : Int} : ∀ {ns : List Int}, inV (.int n) (ns.map V.int) = decide (n ∈ ns)
  | [] => by simp [inV]
  | m :: ns => by
    have ih := inV_ints (n := n) (ns := ns)
    unfold inV at ih ⊢
    rw [List.map_cons, List.any_cons, ih]
    by_cases e : n = m
    · subst e; simp [eqV]
    · have e' : ¬ m = n := fun z => e z.symm
      simp [eqV, e, e']
theorem flat_ints {ns : List Int} : (ns.map V.int).all flatV = true := by
  rw [List.all_eq_true]
  intro x hx
  obtain ⟨n, _, rfl⟩ := List.mem_map.mp hx
  rfl
theorem g_inI {n : Int} {ns : List Int} (h : SqL K H a (ns.map V.int) ∨ SqT K H a (ns.map V.int)) (q : Q (.bl (decide (n ∈ ns))) H) : rIn K false (.int n) (.ref a) H Q :=
  ⟨a, _, rfl, h, rfl, flat_ints, by rw [inV_ints]; exact q⟩
theorem g_ninI {n : Int} {ns : List Int} (h : SqL K H a (ns.map V.int) ∨ SqT K H a (ns.map V.int)) (q : Q (.bl (decide (n ∉ ns))) H) : rIn K true (.int n) (.ref a) H Q :=
  ⟨a, _, rfl, h, rfl, flat_ints, by
    rw [inV_ints, if_pos rfl, ← decide_not]
    exact q⟩
/-- == and != of lists of ints -/
theorem eqv_ints : ∀ {a b : List Int}, PyData.eqvAll (a.map PyData.int) (b.map PyData.int) = decide (a = b)
  | [], [] => by simp [PyData.eqvAll]
  | [], _ :: _ => by simp [PyData.eqvAll]
  | _ :: _, [] => by simp [PyData.eqvAll]
  | x :: a, y :: b => by
    have ih := eqv_ints (a := a) (b := b)
    rw [List.map_cons, List.map_cons, PyData.eqvAll, ih]
    by_cases e : x = y
    · subst e; by_cases e2 : a = b <;> simp [PyData.eqv, e2]
    · simp [PyData.eqv, e]
theorem lay_ints : ∀ ns : List Int, PyData.canLayAll0 (ns.map PyData.int) = true ∧ PyData.depthAll (ns.map PyData.int) ≤ 1
  | [] => by simp [PyData.canLayAll0, PyData.depthAll]
  | n :: ns => by
    obtain ⟨h1, h2⟩ := lay_ints ns
    simp only [List.map_cons, PyData.canLayAll0, PyData.depthAll, PyData.canLay0, PyData.depth, h1, Bool.and_self, true_and]
    omega
theorem shaped_ints (ns : List Int) : SeqAt.shaped (.list (ns.map PyData.int)) = true := by
  obtain ⟨h1, h2⟩ := lay_ints ns
  unfold SeqAt.shaped
  simp only [PyData.canLay0, PyData.depth, h1, Bool.true_and]
  exact decide_eq_true (by omega)
theorem shaped_intsT (ns : List Int) : SeqAt.shaped (.tuple (ns.map PyData.int)) = true := by
  obtain ⟨h1, h2⟩ := lay_ints ns
  unfold SeqAt.shaped
  simp only [PyData.canLay0, PyData.depth, h1, Bool.true_and]
  exact decide_eq_true (by omega)
variable {b : Addr}
theorem g_eqL {m n : List Int} (h1 : SqL K H a (m.map V.int)) (h2 : SqL K H b (n.map V.int)) (q : Q (.bl (decide (m = n))) H) : rEqD K (.ref a) (.ref b) H Q :=
  ⟨_, _, .lst h1 (dpa_ints m), .lst h2 (dpa_ints n), shaped_ints m, shaped_ints n, by rw [PyData.eqv, eqv_ints]; exact q⟩
theorem g_neL {m n : List Int} (h1 : SqL K H a (m.map V.int)) (h2 : SqL K H b (n.map V.int)) (q : Q (.bl (decide (m ≠ n))) H) : rNeD K (.ref a) (.ref b) H Q :=
  ⟨_, _, .lst h1 (dpa_ints m), .lst h2 (dpa_ints n), shaped_ints m, shaped_ints n, by rw [PyData.eqv, eqv_ints, ← decide_not]; exact q⟩
theorem g_eqT {m n : List Int} (h1 : SqT K H a (m.map V.int)) (h2 : SqT K H b (n.map V.int)) (q : Q (.bl (decide (m = n))) H) : rEqD K (.ref a) (.ref b) H Q :=
  ⟨_, _, .tup h1 (dpa_ints m), .tup h2 (dpa_ints n), shaped_intsT m, shaped_intsT n, by rw [PyData.eqv, eqv_ints]; exact q⟩
theorem g_neT {m n : List Int} (h1 : SqT K H a (m.map V.int)) (h2 : SqT K H b (n.map V.int)) (q : Q (.bl (decide (m ≠ n))) H) : rNeD K (.ref a) (.ref b) H Q :=
  ⟨_, _, .tup h1 (dpa_ints m), .tup h2 (dpa_ints n), shaped_intsT m, shaped_intsT n, by rw [PyData.eqv, eqv_ints, ← decide_not]; exact q⟩
end
end Ak
namespace Ak
open PySem PySem.Spec PyProof.Rows L2
/-! ### a locked dict is walked -/
section
variable {K : PySem.W.Frag} {D : Option Addr} {M : List Addr} {H0 H : Hp} {l : List Cel} {ts : List (Addr × List V)} {a p d : Addr} {u o' : HO} {ob : Obj} {σ : L2.St} {te td ty : TE} {t : TS} {g : TG} {Q : VK} {c0 c1 c2 : Cel} {v : V} {kvs : List (Key × V)} {n : Int} {nx bk ct : L2.St → Hp → Prop} {rt : VK}
theorem Now.lock (N : Now K D M H0 H (⟨true, d, u⟩ :: l) ts) (hM : d ∉ M) : Now K D M H0 (upd H d o') l ts := by
  have h0 : H0 d = none := (N.ow ⟨true, d, u⟩ List.mem_cons_self rfl).resolve_left hM
  have hd : H d = some u := N.cell 0 rfl
  have hmu : Mut (some u) := N.mu ⟨true, d, u⟩ List.mem_cons_self
  have nd := List.nodup_cons.mp N.nd
  have A : Aft [d] H (upd H d o') := Aft.refl.put hd hmu (.inl (by simp))
  exact {
    nd := nd.2
    at_ := fun c hc => A.k _ _ (N.at_ c (List.mem_cons_of_mem _ hc)) (by
      intro m
      have e : c.a = d := by simpa using m
      exact nd.1 (List.mem_map.mpr ⟨c, hc, e⟩))
    mu := fun c hc => N.mu c (List.mem_cons_of_mem _ hc)
    ow := fun c hc => N.ow c (List.mem_cons_of_mem _ hc)
    tp := fun q hq => A.t _ _ (N.tp q hq)
    af := N.af.own h0
    dc := fun e he => by
      obtain ⟨h1, h2, h3⟩ := N.dc e he
      refine ⟨h1.keep A ?_, h2, fun m => h3 (List.mem_cons_of_mem _ m)⟩
      intro m
      have q : e = d := by simpa using m
      subst q
      exact h3 List.mem_cons_self }
/-- the lock is taken off again -/
theorem Now.unlock (N : Now K none M H0 H l ts) (h0 : H0 d = none) (hd : H d = some (.frz ob o')) : Now K none M H0 (upd H d u) l ts where
  nd := N.nd
  at_ := fun c hc => by
    have q := N.at_ c hc
    have m := N.mu c hc
    rw [upd_ne]
    · exact q
    · intro e
      rw [e, hd] at q
      rw [← Option.some.inj q] at m
      exact m
  mu := N.mu
  ow := N.ow
  tp := fun q hq => by
    have z := N.tp q hq
    rw [upd_ne]
    · exact z
    · intro e
      rw [e, hd] at z; cases z
  af := N.af.own h0
  dc := fun e he => by cases he
def cForK (g : TG) (tb : TS) (D : Ends) (σ : L2.St) : VK := fun x H1 => ∃ d o, x = .ref d ∧ ((∃ kvs, H1 d = some (.frz o (.dK kvs)) ∧ ∃ W : Nat → Nat → L2.St → Hp → Prop, (∃ m, W 0 m σ H1) ∧ ∀ i m σ H, W i m σ H →
    ((Itk d o kvs).stop i H ∧ D.nx σ H) ∨ ((Itk d o kvs).go i H ∧ ∃ N : L2.St → Hp → Prop, (∀ σ' H', N σ' H' → ∃ m', m' < m ∧ W (i + 1) m' σ' H') ∧ ∀ x H', (Itk d o kvs).yld i H x H' → g x σ H' fun σ2 H2 => tb { D with nx := N, ct := N, bk := D.nx } σ2 H2)) ∨
  ∃ kvs, H1 d = some (.frz o (.dT kvs)) ∧ ∃ W : Nat → Nat → L2.St → Hp → Prop, (∃ m, W 0 m σ H1) ∧ ∀ i m σ H, W i m σ H →
    ((Itkt d o kvs).stop i H ∧ D.nx σ H) ∨ ((Itkt d o kvs).go i H ∧ ∃ N : L2.St → Hp → Prop, (∀ σ' H', N σ' H' → ∃ m', m' < m ∧ W (i + 1) m' σ' H') ∧ ∀ x H', (Itkt d o kvs).yld i H x H' → g x σ H' fun σ2 H2 => tb { D with nx := N, ct := N, bk := D.nx } σ2 H2))
theorem k_forK (h : td σ H (cForK g t ⟨nx, rt, bk, ct⟩ σ)) : tFor (iKeys td) g t ⟨nx, rt, bk, ct⟩ σ H := h
theorem c_forK (Pv : Nat → L2.St → Hp → Prop) (h0 : Pv 0 σ H) (hl : ∀ i σ H, Pv i σ H → H d = some (.frz ob (.dK kvs)))
    (hs : ∀ i k v σ H, kvs[i]? = some (k, v) → Pv i σ H → g (kV k) σ H fun σ2 H2 => t ⟨Pv (i + 1), rt, nx, Pv (i + 1)⟩ σ2 H2) (hd : ∀ σ H, Pv kvs.length σ H → nx σ H) : cForK g t ⟨nx, rt, bk, ct⟩ σ (.ref d) H := by
  refine ⟨d, ob, rfl, .inl ⟨kvs, hl _ _ _ h0, fun i m σ H => m = kvs.length - i ∧ i ≤ kvs.length ∧ Pv i σ H, ⟨kvs.length, by simp, Nat.zero_le _, h0⟩, ?_⟩⟩
  rintro i m σ H ⟨rfl, hi, q⟩
  by_cases lt : i < kvs.length
  · refine .inr ⟨⟨hl _ _ _ q, lt⟩, Pv (i + 1), fun σ' H' q' => ⟨kvs.length - (i + 1), by omega, rfl, lt, q'⟩, ?_⟩
    rintro x H' ⟨rfl, k, v, hk, rfl⟩
    exact hs i k v σ _ hk q
  · have e : i = kvs.length := by omega
    subst e
    exact .inl ⟨⟨hl _ _ _ q, Nat.le_refl _⟩, hd σ H q⟩
def cLock (t : TS) (D : Ends) (σ : L2.St) (H : Hp) : Prop := ∃ d u, H d = some u ∧ Mut (some u) ∧ ∀ od, t ⟨fun σ' H' => H' d = some (.frz od u) ∧ D.nx σ' (upd H' d u), fun v H' => H' d = some (.frz od u) ∧ D.rt v (upd H' d u), fun σ' H' => H' d = some (.frz od u) ∧ D.bk σ' (upd H' d u), fun σ' H' => H' d = some (.frz od u) ∧ D.ct σ' (upd H' d u)⟩ σ (upd H d (.frz od u))
theorem k_lock (hd : H d = some u) (hm : Mut (some u)) (q : ∀ od, t ⟨fun σ' H' => H' d = some (.frz od u) ∧ nx σ' (upd H' d u), fun v H' => H' d = some (.frz od u) ∧ rt v (upd H' d u), fun σ' H' => H' d = some (.frz od u) ∧ bk σ' (upd H' d u), fun σ' H' => H' d = some (.frz od u) ∧ ct σ' (upd H' d u)⟩ σ (upd H d (.frz od u))) :
    tLock t ⟨nx, rt, bk, ct⟩ σ H := ⟨d, u, hd, hm, q⟩
theorem g_dpop1 (N : Now K D M H0 H (c0 :: ⟨true, p, .dK kvs⟩ :: l) ts) (q : ty σ H fun y H2 => ∃ kvs k v, H2 p = some (.dK kvs) ∧ y = kV k ∧ valV kvs k = some v ∧ Q v (upd H2 p (.dK (dropK kvs k)))) : cDPop σ ty Q (.ref p) H := ⟨p, rfl, .inl ⟨kvs, .of (N.cell 1 rfl)⟩, q⟩
end
end Ak
namespace Ak
open PySem PySem.Spec PyProof.Rows L2
/-! ### dict displays, names by pattern, a cut -/
section
variable {K : PySem.W.Frag} {D : Option Addr} {M : List Addr} {H0 H H' : Hp} {l : List Cel} {ts : List (Addr × List V)} {a p : Addr} {σ : L2.St} {te ta tb : TE} {t : TS} {g : TG} {Q : VK} {c0 c1 c2 : Cel} {v w x : V} {kvs kvs' : List (Key × V)} {n i j : Nat} {nx bk ct : L2.St → Hp → Prop} {rt : VK} {trs : List (TE × TE)} {ps : List (V × V)}
def cDisp (p : Addr) (Q : VK) : List (V × V) → Hp → Prop := fun ps H2 => H2 p = some (.dK []) ∧ ∃ kvs : List (Key × V), ps = kvs.map (fun kv => (kV kv.1, kv.2)) ∧ kvs.length ≤ 15 ∧ Q (.ref p) (upd H2 p (.dK (mergeK [] kvs)))
theorem k_disp (N : Now K D M H0 H l ts) (q : ∀ p H', Now K D M H0 H' (⟨true, p, .dK []⟩ :: l) ts → tPairs trs σ H' (cDisp p Q)) : tDisp trs σ H Q := fun p hp => q p _ (N.newC hp trivial)
theorem k_pairs0 {Q : List (V × V) → Hp → Prop} (h : Q [] H) : tPairs [] σ H Q := h
theorem k_pairs {Q : List (V × V) → Hp → Prop} (h : ta σ H fun x H1 => tb σ H1 fun y H2 => tPairs trs σ H2 fun ps H3 => Q ((x, y) :: ps) H3) : tPairs ((ta, tb) :: trs) σ H Q := h
theorem g_disp0 (N : Now K D M H0 H (⟨true, p, .dK []⟩ :: l) ts) (hk : ps = kvs.map (fun kv => (kV kv.1, kv.2))) (hl : kvs.length ≤ 15) (hm : mergeK [] kvs = kvs') (q : ∀ H', Now K D M H0 H' (⟨true, p, .dK kvs'⟩ :: l) ts → Q (.ref p) H') : cDisp p Q ps H :=
  ⟨N.cell 0 rfl, kvs, hk, hl, by rw [hm]; exact q _ (N.put 0 rfl trivial)⟩
theorem g_un {QQ : L2.St → Hp → Prop} (h : SqT K H a [v, w]) (hn : n = 2) (hq : QQ ((σ.set i (some v)).set j (some w)) H) : gTup K n (gCons (gName i) (gCons (gName j) gNil)) (.ref a) σ H QQ :=
  ⟨a, [v, w], rfl, h, hn.symm, v, [w], rfl, w, [], rfl, rfl, hq⟩
/-- what comes after is told once -/
theorem k_cut {R : L2.St → Hp → Prop} (q : ∀ σ H, R σ H → nx σ H) (h : ∀ nx' : L2.St → Hp → Prop, (∀ σ H, R σ H → nx' σ H) → t ⟨nx', rt, bk, ct⟩ σ H) : t ⟨nx, rt, bk, ct⟩ σ H := h nx q
theorem k_cut3 {R : L2.St → Hp → Prop} {t1 t2 t3 : TS} (q : ∀ σ H, R σ H → t3 ⟨nx, rt, bk, ct⟩ σ H) (h : ∀ nx' : L2.St → Hp → Prop, (∀ σ H, R σ H → nx' σ H) → tSeq t1 t2 ⟨nx', rt, bk, ct⟩ σ H) : tSeq t1 (tSeq t2 t3) ⟨nx, rt, bk, ct⟩ σ H := h _ q
theorem g_like {E : XK} {y : V} {d : PyData} {m : Nat} (h1 : Dp K H x d) (h2 : Dp K H y d) (h3 : dOk m d) (q : ∀ H', Aft [] H H' → Q (.bl true) H') : spLike K (m + 1) [x, y] H Q E := ⟨x, y, d, rfl, h1, h2, h3, q⟩
theorem dOk_ints {m : Nat} {ns : List Int} (h : ns.length ≤ 100000) : dOk (m + 1) (.list (ns.map PyData.int)) ∧ dOk (m + 1) (.tuple (ns.map PyData.int)) := by
  have q : ∀ d ∈ ns.map PyData.int, dOk m d := fun d hd => by
    obtain ⟨n, _, rfl⟩ := List.mem_map.mp hd
    cases m <;> trivial
  constructor
  · exact ⟨by rw [List.length_map]; exact h, q⟩
  · exact ⟨by rw [List.length_map]; exact h, q⟩
theorem Now.fresh {o : HO} (N : Now K D M H0 H l ts) (A : Aft [] H H') (hp : H p = none) (h : H' p = some o) (hm : Mut (some o)) : Now K D M H0 H' (⟨true, p, o⟩ :: l) ts :=
  Now.grow N (N.pure A) (fun _ h => .inl h) hp h hm
theorem sorted_eq {a b c : List Int} (h1 : a.Perm c) (h2 : a.Pairwise (· ≤ ·)) (h3 : b.Perm c) (h4 : b.Pairwise (· ≤ ·)) : a = b :=
  (h1.trans h3.symm).eq_of_pairwise (fun x y _ _ e1 e2 => by omega) h2 h4
end
end Ak
namespace Ak
open PySem PySem.Spec PyProof.Rows L2
/-! ### max, min, tuple of a tuple, patterns, constants of the written part -/
section
variable {X : Cx} {K : PySem.W.Frag} {D : Option Addr} {M : List Addr} {H0 H H' : Hp} {l : List Cel} {ts : List (Addr × List V)} {a p : Addr} {σ : L2.St} {te ta tb : TE} {t : TGs} {g : TG} {Q : VK} {v w x : V} {xs vs : List V} {n : Nat} {QQ : L2.St → Hp → Prop} {f : Str} {u : TGs}
def rMax2 : List V → Hp → VK → Prop := fun xs H Q => ∃ i j, xs = [.int i, .int j] ∧ Q (.int (max i j)) H
def rMin2 : List V → Hp → VK → Prop := fun xs H Q => ∃ i j, xs = [.int i, .int j] ∧ Q (.int (min i j)) H
theorem cr_max2 (hc : X.calm = true) : CallR X (.builtin "max") rMax2 := fun pins s σ H xs us Q I r ⟨i, j, e, q⟩ => call_max2 hc pins s σ H xs us Q I r ⟨i, j, e, by
  have z : (if j > i then j else i) = max i j := by omega
  rw [z]; exact q⟩
theorem cr_min2 (hc : X.calm = true) : CallR X (.builtin "min") rMin2 := fun pins s σ H xs us Q I r ⟨i, j, e, q⟩ => call_min2 hc pins s σ H xs us Q I r ⟨i, j, e, by
  have z : (if j < i then j else i) = min i j := by omega
  rw [z]; exact q⟩
theorem g_max2 {i j : Int} (q : Q (.int (max i j)) H) : rMax2 [.int i, .int j] H Q := ⟨i, j, rfl, q⟩
theorem g_min2 {i j : Int} (q : Q (.int (min i j)) H) : rMin2 [.int i, .int j] H Q := ⟨i, j, rfl, q⟩
def rTupT (K : PySem.W.Frag) : List V → Hp → VK → Prop := fun xs H Q => ∃ a ys, xs = [.ref a] ∧ SqT K H a ys ∧ Q (.ref a) H
theorem cr_tupT : CallR X (.type "tuple") (rTupT X.K) := call_tupleT
theorem cr_tupTK (K : PySem.W.Frag) (h : X.K = K) : CallR X (.type "tuple") (rTupT K) := h ▸ cr_tupT
theorem g_tupT (h : SqT K H a xs) (q : Q (.ref a) H) : rTupT K [.ref a] H Q := ⟨a, xs, rfl, h, q⟩
theorem cr_minLK (K : PySem.W.Frag) (h : X.K = K) (hc : X.calm = true) : CallR X (.builtin "min") (rMin K) := h ▸ cr_min hc
theorem cr_maxLK (K : PySem.W.Frag) (h : X.K = K) (hc : X.calm = true) : CallR X (.builtin "max") (rMax K) := h ▸ cr_max hc
theorem g_minL {ns : List Int} (h : SqL K H a (ns.map V.int)) (h0 : 0 < ns.length) (q : ∀ m, m ∈ ns → (∀ y, y ∈ ns → m ≤ y) → Q (.int m) H) : rMin K [.ref a] H Q := ⟨a, ns, rfl, h, h0, q⟩
theorem g_maxL {ns : List Int} (h : SqL K H a (ns.map V.int)) (h0 : 0 < ns.length) (q : ∀ m, m ∈ ns → (∀ y, y ∈ ns → y ≤ m) → Q (.int m) H) : rMax K [.ref a] H Q := ⟨a, ns, rfl, h, h0, q⟩
theorem k_gtup (h : SqT K H a xs) (hn : xs.length = n) (q : t xs σ H QQ) : gTup K n t (.ref a) σ H QQ := ⟨a, xs, rfl, h, hn, q⟩
theorem k_gcons (q : g v σ H fun σ' H' => u vs σ' H' QQ) : gCons g u (v :: vs) σ H QQ := ⟨v, vs, rfl, q⟩
theorem k_gnil (q : QQ σ H) : gNil [] σ H QQ := ⟨rfl, q⟩
theorem k_gattr (h : ta σ H (cSF K f v QQ σ)) : gAttr K ta f v σ H QQ := h
/-- a constant tuple of the top -/
structure Cst (K : PySem.W.Frag) (mg : Str → Option Value) (x : Str) (a : Addr) (xs : List V) : Prop where
  g : mg x = some (.ref a)
  at_ : ∀ H, SqT K H a xs
def Cel.ro (c : Cel) : Cel := { c with w := false }
/-- a method that only reads -/
theorem Now.read {fp : List Cel} (h : CelOk H fp) (tp : ∀ p ∈ ts, H p.1 = some (.tup p.2)) : Now K none M H H (fp.map Cel.ro) ts :=
  .start (by rw [List.map_map]; exact h.1) (fun c hc => by
    obtain ⟨b, hb, rfl⟩ := List.mem_map.mp hc
    exact ⟨(h.2 b hb).1, (h.2 b hb).2, fun z => by cases z⟩) tp (by simp)
theorem filt_snoc {α : Type} {p : α → Bool} {l : List α} {i : Nat} {z : α} (h : l[i]? = some z) : (l.take (i + 1)).filter p = if p z = true then (l.take i).filter p ++ [z] else (l.take i).filter p := by
  rw [List.take_add_one, h, List.filter_append]
  by_cases c : p z = true
  · simp [c]
  · simp [c]
theorem filt_len {α : Type} {p : α → Bool} {l : List α} {i : Nat} : ((l.take i).filter p).length ≤ l.length :=
  Nat.le_trans (List.length_filter_le _ _) (by rw [List.length_take]; omega)
def cPar3 (i j l : Nat) (nx : L2.St → Hp → Prop) (σ : L2.St) : List V → Hp → Prop := fun vs H1 => ∃ u v w, vs = [u, v, w] ∧ nx (((σ.set i (some u)).set j (some v)).set l (some w)) H1
theorem k_par3 {i j l : Nat} {tr : TA} {nx bk ct : L2.St → Hp → Prop} {rt : VK} (h : tr σ H (cPar3 i j l nx σ)) : tPar3 i j l tr ⟨nx, rt, bk, ct⟩ σ H := h
theorem e_par3 {i j l : Nat} {nx : L2.St → Hp → Prop} {u v w : V} (h : nx (((σ.set i (some u)).set j (some v)).set l (some w)) H) : cPar3 i j l nx σ [u, v, w] H := ⟨u, v, w, rfl, h⟩
theorem k_lenSet {K : PySem.W.Frag} (h : te σ H fun x H1 => ∃ (l : Addr) (ns : List Int), x = .ref l ∧ SqL K H1 l (ns.map V.int) ∧ ns.Nodup ∧ ns.length ≤ 4000 ∧ Q (.int (ns.length : Nat)) H1) : RZ.tLenSetI K te σ H Q := h
theorem k_eqStr {a b : Str} (h : a ≠ b) (q : Q (.bl false) H) : rEq (.str a) (.str b) H Q := k_eq rfl (by rw [decide_eq_false (fun e => h (V.str.inj e))]; exact q)
def scRetCmp : Stmt → Scope
  | .Return (some (.Compare (.ListComp _ _ sc _) _ _ _)) _ => sc
  | _ => ⟨.function, [], false, false, []⟩
theorem atI_neg1 {α : Type} {xs : List α} (h : 0 < xs.length) : atI xs (-1) = xs[xs.length - 1]? := by
  have e : ixN xs.length (-1) = some (xs.length - 1) := by
    unfold ixN
    rw [if_neg (by omega), if_pos (by omega)]
    congr 1
    omega
  unfold atI
  rw [e]
  rfl
/-! ### menus -/
theorem g_menu2 {b c i : Int} (h : SqL K H p [.int b, .int c]) (hi : 0 ≤ i ∧ i < 2) (q : ∀ v, v = b ∨ v = c → Q (.int v) H) : rIxL K (.ref p) (.int i) H Q := by
  have : i = 0 ∨ i = 1 := by omega
  rcases this with rfl | rfl
  · exact g_ixL h rfl (q _ (.inl rfl))
  · exact g_ixL h rfl (q _ (.inr rfl))
theorem g_menu3 {b c d i : Int} (h : SqL K H p [.int b, .int c, .int d]) (hi : 0 ≤ i ∧ i < 3) (q : ∀ v, v = b ∨ v = c ∨ v = d → Q (.int v) H) : rIxL K (.ref p) (.int i) H Q := by
  have : i = 0 ∨ i = 1 ∨ i = 2 := by omega
  rcases this with rfl | rfl | rfl
  · exact g_ixL h rfl (q _ (.inl rfl))
  · exact g_ixL h rfl (q _ (.inr (.inl rfl)))
  · exact g_ixL h rfl (q _ (.inr (.inr rfl)))
theorem g_menu4 {b c d e i : Int} (h : SqL K H p [.int b, .int c, .int d, .int e]) (hi : 0 ≤ i ∧ i < 4) (q : ∀ v, v = b ∨ v = c ∨ v = d ∨ v = e → Q (.int v) H) : rIxL K (.ref p) (.int i) H Q := by
  have : i = 0 ∨ i = 1 ∨ i = 2 ∨ i = 3 := by omega
  rcases this with rfl | rfl | rfl | rfl
  · exact g_ixL h rfl (q _ (.inl rfl))
  · exact g_ixL h rfl (q _ (.inr (.inl rfl)))
  · exact g_ixL h rfl (q _ (.inr (.inr (.inl rfl))))
  · exact g_ixL h rfl (q _ (.inr (.inr (.inr rfl))))
theorem g_menu5 {b c d e f i : Int} (h : SqL K H p [.int b, .int c, .int d, .int e, .int f]) (hi : 0 ≤ i ∧ i < 5) (q : ∀ v, v = b ∨ v = c ∨ v = d ∨ v = e ∨ v = f → Q (.int v) H) : rIxL K (.ref p) (.int i) H Q := by
  have : i = 0 ∨ i = 1 ∨ i = 2 ∨ i = 3 ∨ i = 4 := by omega
  rcases this with rfl | rfl | rfl | rfl | rfl
  · exact g_ixL h rfl (q _ (.inl rfl))
  · exact g_ixL h rfl (q _ (.inr (.inl rfl)))
  · exact g_ixL h rfl (q _ (.inr (.inr (.inl rfl))))
  · exact g_ixL h rfl (q _ (.inr (.inr (.inr (.inl rfl)))))
  · exact g_ixL h rfl (q _ (.inr (.inr (.inr (.inr rfl)))))
/-! ### sorted -/
def srt (l : List Int) : List Int := l.mergeSort fun a b => decide (a ≤ b)
theorem srt_perm (l : List Int) : (srt l).Perm l := List.mergeSort_perm l _
theorem srt_sorted (l : List Int) : (srt l).Pairwise (· ≤ ·) := by
  have h : (srt l).Pairwise fun a b => decide (a ≤ b) = true := List.pairwise_mergeSort (fun a b c h1 h2 => by
    have := of_decide_eq_true h1
    have := of_decide_eq_true h2
    exact decide_eq_true (by omega)) (fun a b => by
    by_cases c : a ≤ b
    · simp [c]
    · simp [show b ≤ a by omega]) l
  exact h.imp fun {a b} h => of_decide_eq_true h
theorem srt_eq {ys l : List Int} (hp : ys.Perm l) (hs : ys.Pairwise (· ≤ ·)) : ys = srt l := sorted_eq hp hs (srt_perm l) (srt_sorted l)
theorem srt_len (l : List Int) : (srt l).length = l.length := (srt_perm l).length_eq
theorem srt_mem {l : List Int} {x : Int} : x ∈ srt l ↔ x ∈ l := (srt_perm l).mem_iff
theorem g_srt {ks : List Int} (N : Now K D M H0 H l ts) (hx : SqL K H a (ks.map V.int)) (q : ∀ p H', Now K D M H0 H' (⟨true, p, .lst ((srt ks).map V.int)⟩ :: l) ts → Q (.ref p) H') : rSortedI K [.ref a] H Q :=
  g_sortL N hx fun p H' ys h1 h2 N' => q p H' (by rw [← srt_eq h1 h2]; exact N')
end
end Ak
namespace Ak
open PySem PySem.Spec PyProof.Rows L2
/-! ### while, by counted turns -/
section
variable {σ : L2.St} {H : Hp} {c : TT} {tb : TS} {Pv : Nat → L2.St → Hp → Prop} {n i : Nat} {nx bk ct : L2.St → Hp → Prop} {rt : VK}
def WW (Pv : Nat → L2.St → Hp → Prop) (n : Nat) : Nat → L2.St → Hp → Prop := fun m σ H => ∃ i, i ≤ n ∧ m = n - i ∧ Pv i σ H
def cWh (Pv : Nat → L2.St → Hp → Prop) (n i : Nat) (tb : TS) (D : Ends) (σ : L2.St) : Bool → Hp → Prop := fun b H1 => if b = true then ∃ N : L2.St → Hp → Prop, (∀ σ' H', N σ' H' → ∃ m', m' < n - i ∧ WW Pv n m' σ' H') ∧ tb { D with nx := N, ct := N, bk := D.nx } σ H1 else D.nx σ H1
theorem k_while (Pv : Nat → L2.St → Hp → Prop) (n : Nat) (h0 : Pv 0 σ H) (hs : ∀ i σ H, i ≤ n → Pv i σ H → c σ H (cWh Pv n i tb ⟨nx, rt, bk, ct⟩ σ)) : tWhile c tb ⟨nx, rt, bk, ct⟩ σ H :=
  ⟨WW Pv n, ⟨n, 0, Nat.zero_le _, rfl, h0⟩, fun m σ H ⟨i, hi, e, p⟩ => by
    subst e
    exact hs i σ H hi p⟩
theorem c_whT (hi : i < n) (q : tb ⟨Pv (i + 1), rt, nx, Pv (i + 1)⟩ σ H) : cWh Pv n i tb ⟨nx, rt, bk, ct⟩ σ true H := ⟨Pv (i + 1), fun σ' H' p => ⟨n - (i + 1), by omega, i + 1, hi, rfl, p⟩, q⟩
theorem c_whF (q : nx σ H) : cWh Pv n i tb ⟨nx, rt, bk, ct⟩ σ false H := q
end
/-! ### for over range(a, b) -/
section
variable {σ : L2.St} {H : Hp} {g : TG} {t : TS} {tr : TA} {nx bk ct : L2.St → Hp → Prop} {rt : VK}
def cForR2 (g : TG) (tb : TS) (D : Ends) (σ : L2.St) : List V → Hp → Prop := fun vs H1 => ∃ i j : Int, vs = [.int i, .int j] ∧ (-(2 ^ 62) ≤ i ∧ i < 2 ^ 62 ∧ -(2 ^ 62) ≤ j ∧ j < 2 ^ 62) ∧
  ∃ W : Nat → Nat → L2.St → Hp → Prop, (∃ m, W 0 m σ H1) ∧ ∀ k m σ H, W k m σ H →
  ((Itr i (j - i).toNat).stop k H ∧ D.nx σ H) ∨ ((Itr i (j - i).toNat).go k H ∧ ∃ N : L2.St → Hp → Prop, (∀ σ' H', N σ' H' → ∃ m', m' < m ∧ W (k + 1) m' σ' H') ∧ ∀ x H', (Itr i (j - i).toNat).yld k H x H' → g x σ H' fun σ2 H2 => tb { D with nx := N, ct := N, bk := D.nx } σ2 H2)
theorem k_forR2 (h : tr σ H (cForR2 g t ⟨nx, rt, bk, ct⟩ σ)) : tFor (iRng2 tr) g t ⟨nx, rt, bk, ct⟩ σ H := h
theorem c_forR2 {lo hi : Int} (hn : (-100000 ≤ lo ∧ lo ≤ 100000) ∧ -100000 ≤ hi ∧ hi ≤ 100000) (Pv : Nat → L2.St → Hp → Prop) (h0 : Pv 0 σ H)
    (hs : ∀ (i : Nat) σ H, lo + (i : Int) < hi → Pv i σ H → g (.int (lo + (i : Int))) σ H fun σ2 H2 => t ⟨Pv (i + 1), rt, nx, Pv (i + 1)⟩ σ2 H2) (hd : ∀ σ H, Pv (hi - lo).toNat σ H → nx σ H) : cForR2 g t ⟨nx, rt, bk, ct⟩ σ [.int lo, .int hi] H :=
  ⟨lo, hi, rfl, ⟨by omega, by omega, by omega, by omega⟩, for_range (D := ⟨nx, rt, bk, ct⟩) Pv h0 (fun i σ H h p => hs i σ H (by omega) p) hd⟩
end
/-- nothing was written yet -/
theorem Now.back {K : PySem.W.Frag} {D : Option Addr} {H0 H : Hp} {fp l : List Cel} {ts : List (Addr × List V)} (N : Now K D (fp.map Cel.a) H0 H l ts) (h : ∀ c ∈ fp, c ∈ l ∧ H0 c.a = some c.o) : Aft [] H0 H :=
  ⟨fun b o e _ => by
    by_cases m : b ∈ fp.map Cel.a
    · obtain ⟨c, hc, rfl⟩ := List.mem_map.mp m
      obtain ⟨h1, h2⟩ := h c hc
      rw [h2] at e
      rw [← e]
      exact N.at_ c h1
    · exact N.af.k b o e m, N.af.t, N.af.z⟩
theorem CelOk.keep {H H' : Hp} {fp : List Cel} (h : CelOk H fp) (A : Aft [] H H') : CelOk H' fp := ⟨h.1, fun c hc => ⟨A.k _ _ (h.2 c hc).1 (by simp), (h.2 c hc).2⟩⟩
theorem CelOk.sel {H : Hp} {l l' : List Cel} (h : CelOk H l) (is : List Nat) (e : is.map (fun i => l[i]?) = l'.map some) (hn : is.Nodup) : CelOk H l' := ((Now.begin (K := []) (ts := []) h (by simp)).sel is e hn).ok
/-- the least number from a place on with a rest -/
theorem least_ne {m lo k : Int} {i : Nat} (hm : 0 < m) (hk : 0 ≤ k ∧ k < m) (hi : (i : Int) < (k - lo) % m) : (lo + i) % m ≠ k := fun e => by
  have h1 : (k - lo - (i : Int)) % m = 0 := by
    have : k - lo - (i : Int) = k - (lo + i) := by omega
    rw [this, ← e, Int.sub_emod, Int.emod_emod, Int.sub_self, Int.zero_emod]
  have h2 := Int.emod_lt_of_pos (k - lo) hm
  have h3 : ((k - lo) % m - (i : Int)) % m = 0 := by rw [Int.sub_emod, Int.emod_emod, ← Int.sub_emod]; exact h1
  rw [Int.emod_eq_of_lt (by omega) (by omega)] at h3
  omega
theorem least_eq {m lo k : Int} (hm : 0 < m) (hk : 0 ≤ k ∧ k < m) : (lo + (k - lo) % m) % m = k := by
  rw [Int.add_emod, Int.emod_emod, ← Int.add_emod]
  rw [show lo + (k - lo) = k by omega]
  exact Int.emod_eq_of_lt hk.1 hk.2
theorem most_ne {m hi k : Int} {i : Nat} (hm : 0 < m) (hk : 0 ≤ k ∧ k < m) (h : (i : Int) < (hi - k) % m) : (hi - i) % m ≠ k := fun e => by
  have h1 : (hi - k - (i : Int)) % m = 0 := by
    have : hi - k - (i : Int) = (hi - i) - k := by omega
    rw [this, ← e, Int.sub_emod, Int.emod_emod, Int.sub_self, Int.zero_emod]
  have h2 := Int.emod_lt_of_pos (hi - k) hm
  have h3 : ((hi - k) % m - (i : Int)) % m = 0 := by rw [Int.sub_emod, Int.emod_emod, ← Int.sub_emod]; exact h1
  rw [Int.emod_eq_of_lt (by omega) (by omega)] at h3
  omega
theorem most_eq {m hi k : Int} (hm : 0 < m) (hk : 0 ≤ k ∧ k < m) : (hi - (hi - k) % m) % m = k := by
  rw [Int.sub_emod, Int.emod_emod, ← Int.sub_emod]
  rw [show hi - (hi - k) = k by omega]
  exact Int.emod_eq_of_lt hk.1 hk.2
end Ak
namespace Ak
open PySem PySem.Spec PyProof.Rows L2
/-! ### tuples of numbers and words -/
abbrev Sc := Int ⊕ Str
def scV : Sc → V
  | .inl n => .int n
  | .inr s => .str s
def scD : Sc → PyData
  | .inl n => .int n
  | .inr s => .str s
theorem eqv_sc : ∀ {a b : List Sc}, PyData.eqvAll (a.map scD) (b.map scD) = decide (a = b)
  | [], [] => by simp [PyData.eqvAll]
  | [], _ :: _ => by simp [PyData.eqvAll]
  | _ :: _, [] => by simp [PyData.eqvAll]
  | x :: a, y :: b => by
    have ih := eqv_sc (a := a) (b := b)
    rw [List.map_cons, List.map_cons, PyData.eqvAll, ih]
    cases x with
    | inl x =>
      cases y with
      | inl y =>
        by_cases e : x = y
        · subst e; by_cases e2 : a = b <;> simp [scD, PyData.eqv, e2]
        · simp [scD, PyData.eqv, e]
      | inr y => simp [scD, PyData.eqv]
    | inr x =>
      cases y with
      | inl y => simp [scD, PyData.eqv]
      | inr y =>
        by_cases e : x = y
        · subst e; by_cases e2 : a = b <;> simp [scD, PyData.eqv, e2]
        · simp [scD, PyData.eqv, e]
def scOk : Sc → Bool
  | .inl _ => true
  | .inr s => PySem.PyData.strOk s
theorem lay_sc : ∀ ns : List Sc, ns.all scOk = true → PyData.canLayAll0 (ns.map scD) = true ∧ PyData.depthAll (ns.map scD) ≤ 1
  | [], _ => by simp [PyData.canLayAll0, PyData.depthAll]
  | .inl n :: ns, h => by
    obtain ⟨h1, h2⟩ := lay_sc ns (by simpa [scOk] using h)
    simp only [List.map_cons, scD, PyData.canLayAll0, PyData.depthAll, PyData.canLay0, PyData.depth, h1, Bool.and_self, true_and]
    omega
  | .inr n :: ns, h => by
    have h : PySem.PyData.strOk n = true ∧ ns.all scOk = true := by simpa [scOk] using h
    obtain ⟨h1, h2⟩ := lay_sc ns h.2
    simp only [List.map_cons, scD, PyData.canLayAll0, PyData.depthAll, PyData.canLay0, PyData.depth, h1, h.1, Bool.and_self, true_and]
    omega
theorem shaped_sc {ns : List Sc} (h : ns.all scOk = true) : SeqAt.shaped (.tuple (ns.map scD)) = true := by
  obtain ⟨h1, h2⟩ := lay_sc ns h
  unfold SeqAt.shaped
  simp only [PyData.canLay0, PyData.depth, h1, Bool.true_and]
  exact decide_eq_true (by omega)
section
variable {K : PySem.W.Frag} {H : Hp} {a b : Addr} {Q : VK}
theorem dpa_sc : ∀ ns : List Sc, DpAll K H (ns.map scV) (ns.map scD)
  | [] => .nil
  | .inl n :: ns => .cons (.int n) (dpa_sc ns)
  | .inr n :: ns => .cons (.str n) (dpa_sc ns)
theorem g_eqSc {m n : List Sc} (o1 : m.all scOk = true) (o2 : n.all scOk = true) (h1 : SqT K H a (m.map scV)) (h2 : SqT K H b (n.map scV)) (q : Q (.bl (decide (m = n))) H) : rEqD K (.ref a) (.ref b) H Q :=
  ⟨_, _, .tup h1 (dpa_sc m), .tup h2 (dpa_sc n), shaped_sc o1, shaped_sc o2, by rw [PyData.eqv, eqv_sc]; exact q⟩
theorem g_neSc {m n : List Sc} (o1 : m.all scOk = true) (o2 : n.all scOk = true) (h1 : SqT K H a (m.map scV)) (h2 : SqT K H b (n.map scV)) (q : Q (.bl (decide (m ≠ n))) H) : rNeD K (.ref a) (.ref b) H Q :=
  ⟨_, _, .tup h1 (dpa_sc m), .tup h2 (dpa_sc n), shaped_sc o1, shaped_sc o2, by rw [PyData.eqv, eqv_sc, ← decide_not]; exact q⟩
end
/-! ### enumerate of a list -/
section
variable {K : PySem.W.Frag} {σ : L2.St} {H : Hp} {g : TG} {t : TS} {tr : TA} {nx bk ct : L2.St → Hp → Prop} {rt : VK} {a : Addr} {xs : List V}
def cForE (K : PySem.W.Frag) (g : TG) (tb : TS) (D : Ends) (σ : L2.St) : List V → Hp → Prop := fun vs H1 => ∃ a xs, vs = [.ref a] ∧ SqL K H1 a xs ∧
  ∃ W : Nat → Nat → L2.St → Hp → Prop, (∃ m, W 0 m σ H1) ∧ ∀ i m σ H, W i m σ H →
  ((Ite K a).stop i H ∧ D.nx σ H) ∨ ((Ite K a).go i H ∧ ∃ N : L2.St → Hp → Prop, (∀ σ' H', N σ' H' → ∃ m', m' < m ∧ W (i + 1) m' σ' H') ∧ ∀ x H', (Ite K a).yld i H x H' → g x σ H' fun σ2 H2 => tb { D with nx := N, ct := N, bk := D.nx } σ2 H2)
theorem k_forE (h : tr σ H (cForE K g t ⟨nx, rt, bk, ct⟩ σ)) : tFor (iEnum K tr) g t ⟨nx, rt, bk, ct⟩ σ H := h
theorem c_forE (Pv : Nat → L2.St → Hp → Prop) (h0 : Pv 0 σ H) (hl : ∀ i σ H, i ≤ xs.length → Pv i σ H → SqL K H a xs)
    (hs : ∀ i x σ H T, xs[i]? = some x → Pv i σ H → H T = none → g (.ref T) σ (upd H T (.tup [.int (i : Nat), x])) fun σ2 H2 => t ⟨Pv (i + 1), rt, nx, Pv (i + 1)⟩ σ2 H2) (hd : ∀ σ H, Pv xs.length σ H → nx σ H) : cForE K g t ⟨nx, rt, bk, ct⟩ σ [.ref a] H := by
  refine ⟨a, xs, rfl, hl 0 σ H (Nat.zero_le _) h0, fun i m σ H => m = xs.length - i ∧ i ≤ xs.length ∧ Pv i σ H, ⟨xs.length, by simp, Nat.zero_le _, h0⟩, ?_⟩
  rintro i m σ H ⟨rfl, hi, q⟩
  have sq := hl i σ H hi q
  by_cases lt : i < xs.length
  · refine .inr ⟨⟨xs, xs[i], sq, by simp [lt]⟩, Pv (i + 1), fun σ' H' q' => ⟨xs.length - (i + 1), by omega, rfl, lt, q'⟩, ?_⟩
    rintro x H' ⟨T, y, rfl, hT, rfl, hy⟩
    exact hs i y σ H T (hy xs sq) q hT
  · have e : i = xs.length := by omega
    subst e
    exact .inl ⟨⟨xs, sq, Nat.le_refl _⟩, hd σ H q⟩
end
/-! ### events -/
inductive Ev where
  | send
  | come (n : Int)
  | tell
  | hear (n : Int)
  deriving DecidableEq
def Ev.sc : Ev → List Sc
  | .send => [.inr "send"]
  | .come n => [.inr "come", .inl n]
  | .tell => [.inr "tell"]
  | .hear n => [.inr "hear", .inl n]
theorem Ev.scOk (e : Ev) : e.sc.all Ak.scOk = true := by
  cases e
  · show (PySem.PyData.strOk (PySem.Str.ofString "send") && true) = true
    decide +kernel
  · show (PySem.PyData.strOk (PySem.Str.ofString "come") && true) = true
    decide +kernel
  · show (PySem.PyData.strOk (PySem.Str.ofString "tell") && true) = true
    decide +kernel
  · show (PySem.PyData.strOk (PySem.Str.ofString "hear") && true) = true
    decide +kernel
theorem Ev.sc_inj {e f : Ev} (h : e.sc = f.sc) : e = f := by
  have d1 : ("send" : Str) ≠ "tell" := by decide
  have d2 : ("come" : Str) ≠ "hear" := by decide
  cases e <;> cases f <;> simp_all [Ev.sc]
abbrev Ev.v (e : Ev) : List V := e.sc.map scV
section
variable {K : PySem.W.Frag} {H : Hp} {a b : Addr} {Q : VK}
def Ev.isSend : Ev → Bool
  | .send => true
  | _ => false
def Ev.isTell : Ev → Bool
  | .tell => true
  | _ => false
theorem ev_send (e : Ev) : decide (e.sc = [.inr "send"]) = e.isSend := by
  have d1 : ("come" : Str) ≠ "send" := by decide
  have d2 : ("tell" : Str) ≠ "send" := by decide
  have d3 : ("hear" : Str) ≠ "send" := by decide
  cases e <;> simp_all [Ev.sc, Ev.isSend]
theorem ev_tell (e : Ev) : decide (e.sc = [.inr "tell"]) = e.isTell := by
  have d1 : ("come" : Str) ≠ "tell" := by decide
  have d2 : ("send" : Str) ≠ "tell" := by decide
  have d3 : ("hear" : Str) ≠ "tell" := by decide
  cases e <;> simp_all [Ev.sc, Ev.isTell]
theorem g_evSend {e : Ev} {r : Bool} (hr : e.isSend = r) (h1 : SqT K H a e.v) (h2 : SqT K H b [.str "send"]) (q : Q (.bl r) H) : rEqD K (.ref a) (.ref b) H Q :=
  g_eqSc (m := e.sc) (n := [.inr "send"]) e.scOk (Ev.scOk .send) h1 h2 (by rw [ev_send, hr]; exact q)
theorem g_evTell {e : Ev} {r : Bool} (hr : e.isTell = r) (h1 : SqT K H a e.v) (h2 : SqT K H b [.str "tell"]) (q : Q (.bl r) H) : rEqD K (.ref a) (.ref b) H Q :=
  g_eqSc (m := e.sc) (n := [.inr "tell"]) e.scOk (Ev.scOk .tell) h1 h2 (by rw [ev_tell, hr]; exact q)
/-- a word in a tuple of words -/
theorem g_inW {neg r : Bool} {s : Str} {ws : List V} (h : SqL K H a ws ∨ SqT K H a ws) (hf : ws.all flatV = true) (hr : (if neg then !inV (.str s) ws else inV (.str s) ws) = r) (q : Q (.bl r) H) : rIn K neg (.str s) (.ref a) H Q := ⟨a, ws, rfl, h, rfl, hf, by rw [hr]; exact q⟩
end
/-! ### tuples that stand: many at once -/
section
variable {K : PySem.W.Frag} {D : Option Addr} {M : List Addr} {H0 H H' : Hp} {l : List Cel} {ts : List (Addr × List V)} {a p : Addr} {Q : VK} {xs : List V}
theorem Now.addTs (N : Now K D M H0 H l ts) {L : List (Addr × List V)} (h : ∀ p ∈ L, H p.1 = some (.tup p.2)) : Now K D M H0 H l (ts ++ L) := ⟨N.nd, N.at_, N.mu, N.ow, fun p hp => (List.mem_append.mp hp).elim (N.tp p) (h p), N.af, N.dc⟩
/-- what tuples tell of a list of values -/
def Held (R : Hp → Prop) (H : Hp) : Prop := ∃ L : List (Addr × List V), (∀ p ∈ L, H p.1 = some (.tup p.2)) ∧ ∀ H', (∀ p ∈ L, H' p.1 = some (.tup p.2)) → R H'
theorem held_paired {α : Type} {R : Hp → V → α → Prop} (hR : ∀ H v x, R H v x → Held (fun H' => R H' v x) H) : ∀ {H : Hp} {vs : List V} {xs : List α}, Paired (R H) vs xs → Held (fun H' => Paired (R H') vs xs) H
  | _, _, _, .nil => ⟨[], by simp, fun _ _ => .nil⟩
  | H, _, _, .cons h1 h2 => by
    obtain ⟨L1, a1, b1⟩ := hR _ _ _ h1
    obtain ⟨L2, a2, b2⟩ := held_paired hR h2
    exact ⟨L1 ++ L2, fun p hp => (List.mem_append.mp hp).elim (a1 p) (a2 p), fun H' h => .cons (b1 H' fun p hp => h p (List.mem_append_left _ hp)) (b2 H' fun p hp => h p (List.mem_append_right _ hp))⟩
theorem g_rep {k : Int} {n : Nat} (N : Now K D M H0 H l ts) (hx : H a = some (.lst xs)) (hk : k = (n : Int)) (hn : n ≤ 1000) (hz : xs.length ≤ 100) (q : ∀ p H', Now K D M H0 H' (⟨true, p, .lst (List.replicate n xs).flatten⟩ :: l) ts → Q (.ref p) H') : rRep (.ref a) (.int k) H Q := by
  subst hk
  refine ⟨a, (n : Int), xs, rfl, rfl, hx, by omega, by omega, ?_, fun p hp => ?_⟩
  · have : xs.length * n ≤ 100 * 1000 := Nat.mul_le_mul hz hn
    exact Nat.le_trans this (by decide)
  · have := q p _ (N.newC hp (o := .lst (List.replicate n xs).flatten) trivial)
    exact this
theorem g_rep0 (N : Now K D M H0 H l ts) (hx : H a = some (.lst xs)) (hz : xs.length ≤ 100) (q : ∀ p H', Now K D M H0 H' (⟨true, p, .lst []⟩ :: l) ts → Q (.ref p) H') : rRep (.ref a) (.int 0) H Q :=
  g_rep (n := 0) N hx rfl (by omega) hz fun p H' N' => q p H' N'
theorem g_rep1 (N : Now K D M H0 H l ts) (hx : H a = some (.lst xs)) (hz : xs.length ≤ 100) (q : ∀ p H', Now K D M H0 H' (⟨true, p, .lst xs⟩ :: l) ts → Q (.ref p) H') : rRep (.ref a) (.int 1) H Q :=
  g_rep (n := 1) N hx rfl (by omega) hz fun p H' N' => q p H' (by
    have e : (List.replicate 1 xs).flatten = xs := by simp
    rw [e] at N'
    exact N')
/-- how many cells: another order of three parts -/
theorem Now.turn {l1 l2 l3 : List Cel} (N : Now K D M H0 H (l1 ++ (l2 ++ l3)) ts) : Now K D M H0 H (l2 ++ (l1 ++ l3)) ts := N.perm (List.perm_append_comm_assoc l2 l1 l3)
end
end Ak
namespace Ak
open PySem PySem.Spec PyProof.Rows L2
/-! ### exceptions: own classes without own __init__ -/
structure ExK (K : PySem.W.Frag) (mg : Str → Option Value) (x : Str) (C : Addr) : Prop where
  g : mg x = some (.ref C)
  kp : PySem.W.keepIn K (.ref C) = true
  ei : PySem.W.excIn K C veTail "ValueError.__new__" = true
  sb : PySem.W.subIn K (.ref C) (.type "BaseException") = some true
  ty : PySem.W.typeIn K (.ref C) = some (.type "type")
theorem exKB_ok {K : PySem.W.Frag} {mg : Str → Option Value} {x : Str} {C : Addr} (g : mg x = some (.ref C)) (h : exKB K C = true) : ExK K mg x C := by
  unfold exKB at h
  simp only [Bool.and_eq_true, decide_eq_true_eq] at h
  exact ⟨g, h.1, h.2.1, h.2.2.1, h.2.2.2⟩
theorem ps_raiseK {X : Cx} {W : WX} {x m : Str} {C : Addr} {j : Nat} {p p2 pos pos2 : Pos} (hc : X.calm = true) (tk : Takes X W) (T : ExK X.K X.mg x C) (hg : Gl X x) (hdb : (x == ("__debug__" : Str)) = false := by decide) :
    PS X (.Raise (some (.Call (.Name x p) [.Constant (.str m) j p2] [] pos)) none pos2) (fun _ σ H => W (.ref C) none σ H) :=
  ps_raise hc tk (pmk_own PySem.F.excBase_ValueError T.ei T.g T.kp (raises_own T.sb T.ty) hg hdb)
theorem pe_nev {X : Cx} {e : Expr} : PE X e (fun _ _ _ => False) := ⟨fun _ _ _ _ _ _ h => h.elim⟩
/-- a def that makes lambdas: its code object is told -/
theorem okC {P : Program} {w : World} {K : PySem.W.Frag} {mg : Str → Option Value} {base : Heap} {x qual : Str} {params : Arguments} {body : List Stmt} {scope : Scope} {dvs : List V} {kws : List (Str × V)} {f : Addr} {fd : FuncData}
    {CX : CXT} {N ps : List Str} {k : Nat} {sp : Sp} (F : FunD K x qual params body scope dvs kws f fd) (S : FnScope N ps scope) (len : ∀ vs H Q E, sp vs H Q E → vs.length = ps.length)
    (hbody : ∀ (c : Addr) (A : Around) (outer : List Env) (s : Shared) (H : Hp) (vs : List V) (Q : VK) (E : XK), fd.code = .ref c → Room k (A.deeper (envOfC qual scope s.heap.objs.size f (.ref c))) → sp vs H Q E →
      ∃ t, PSs (cxOf CX P w K mg base N qual scope f (.ref c) A outer s H E) body t ∧ t { nx := fun _ H' => Q .non H', rt := Q } (start N vs) H) : FnOk P w K mg base CX (k + 1) f fd ps sp := by
  obtain ⟨oc, od, dV, kV, doc, pm, an, cdv, ct, osl, rfl, lk, hcd, _, _⟩ := F.ex
  obtain ⟨c, rfl⟩ := He.codeIn_ref hcd
  exact fn_of lk hcd S len fun A outer s H vs Q E hr hsp => hbody c A outer s H vs Q E rfl hr hsp
/-! ### list.count, flat items -/
theorem mt_countF_eq {ys : List V} {its : List Value} {y : V} {uy : Value} (rv : Vals ys its) (ry : RelV y uy) (fys : ys.all flatV = true) : its.countP (eqU y) = ys.countP fun z => eqV z y := by
  induction rv with
  | nil => rfl
  | cons r rv ih =>
    rename_i v u vs us
    have h := List.all_eq_true.mp fys
    have h1 : flatV v = true := h v List.mem_cons_self
    have h2 : vs.all flatV = true := List.all_eq_true.mpr fun z hz => h z (List.mem_cons_of_mem _ hz)
    rw [List.countP_cons, List.countP_cons, ih h2, eqU_of r h1]
def rCntF (K : PySem.W.Frag) : V → List V → Hp → VK → Prop := fun x xs H Q => ∃ (p : Addr) (ys : List V) (y : V), x = .ref p ∧ xs = [y] ∧ SqL K H p ys ∧ flatV y = true ∧ ys.all flatV = true ∧ Q (.int ((ys.countP fun z => eqV z y : Nat) : Int)) H
theorem mt_countF {X : Cx} : MtR X "list.count" (rCntF X.K) := by
  intro pins s σ H x xs v us Q I rx rxs h
  obtain ⟨p, ys, y, rfl, rfl, hs, fy, fys, q⟩ := h
  cases rx
  cases rxs with
  | cons ry rt =>
    rename_i uy ut
    cases rt
    obtain ⟨its, rv, ⟨⟨cls, dd, data, sl⟩, n, ho, hc, hdn, hd⟩, hlen⟩ := I.list hs
    simp only at hc hd
    subst hc hd
    refine call_meets PySem.F.slot_list_count ⟨_, ho, rfl⟩ PySem.F.entry_list_count (PySem.F.args_list_count_2 _ _)
      (SeqAt.list_countAt p its.toArray n dd sl uy (eqU y)) ⟨ho, fun u' hu' => mem_eqAt ry fy rv fys u' (by simpa using hu'), ?_⟩
    have ec : its.toArray.toList.countP (eqU y) = ys.countP fun z => eqV z y := mt_countF_eq rv ry fys
    refine ⟨.int ((ys.countP fun z => eqV z y : Nat) : Int), H, I.tok _, ⟨s.toks, ?_⟩, q⟩
    show Value.int ((its.toArray.toList.countP (eqU y) : Nat) : Int) s.toks = Value.int ((ys.countP fun z => eqV z y : Nat) : Int) s.toks
    rw [ec]
/-! ### a caught exception -/
theorem takes_len {X : Cx} {W : WX} (tk : Takes X W) : Takes X (fun cls d σ H => σ.length = X.N.length → W cls d σ H) := fun u s' ⟨a, B, sI, pins, σ, H, cls, d, e, I, nb, up, sky, na, os, ag, h⟩ =>
  tk u s' ⟨a, B, sI, pins, σ, H, cls, d, e, I, nb, up, sky, na, os, ag, h I.len⟩
/-- isinstance(e, c), e the exception of the suite -/
def rIsEg (K : PySem.W.Frag) (cls : Value) (d : Option Addr) (a : Addr) : List V → Hp → VK → Prop := fun xs H Q => ∃ (D : Addr) (c : V) (cv : Value) (b : Bool), cls = .ref D ∧ d = none ∧ ExcC K D ∧ xs = [.ref a, c] ∧ (∀ u, RelV c u → u = cv) ∧ PySem.W.kitOne K (.ref D) cv = some b ∧ Q (.bl b) H
theorem call_isEg {X : Cx} {a : Addr} {cls : Value} {d : Option Addr} {oe : Obj} {pn : List (Addr × Obj)} (hz : Zc cls d oe) (hf : ∃ vs, oe.data = .fields vs) : CallR (X.suite a ((a, oe) :: pn)) (.builtin "isinstance") (rIsEg X.K cls d a) := by
  intro pins s σ H xs us Q I r h
  obtain ⟨D, c, cv, b, rfl, rfl, C, e1, e2, e3, q⟩ := h
  exact call_isE C hz hf pins s σ H xs us Q I r ⟨c, cv, b, e1, e2, e3, q⟩
/-- the kinds of refusals by name -/
structure Kin (mg : Str → Option Value) (c1 c2 c3 c4 c5 c6 cb : Addr) : Prop where
  g1 : mg "BadSetting" = some (.ref c1)
  g2 : mg "BadMark" = some (.ref c2)
  g3 : mg "BadBits" = some (.ref c3)
  g4 : mg "Full" = some (.ref c4)
  g5 : mg "BadEvent" = some (.ref c5)
  g6 : mg "BadText" = some (.ref c6)
  gb : mg "BitsError" = some (.ref cb)
  ve : mg "ValueError" = none
/-- D is the kind n among them -/
structure Kof (K : PySem.W.Frag) (c1 c2 c3 c4 c5 c6 cb D : Addr) (n : Nat) : Prop where
  c : ExcC K D
  k1 : PySem.W.kitOne K (.ref D) (.ref c1) = some (decide (n = 1))
  k2 : PySem.W.kitOne K (.ref D) (.ref c2) = some (decide (n = 2))
  k3 : PySem.W.kitOne K (.ref D) (.ref c3) = some (decide (n = 3))
  k4 : PySem.W.kitOne K (.ref D) (.ref c4) = some (decide (n = 4))
  k5 : PySem.W.kitOne K (.ref D) (.ref c5) = some (decide (n = 5))
  k6 : PySem.W.kitOne K (.ref D) (.ref c6) = some (decide (n = 6))
  kv : PySem.W.kitOne K (.ref D) (.type "ValueError") = some true
  m : PySem.W.exmOne K (.ref D) (.ref cb) = some true
theorem excCB_ok {K : PySem.W.Frag} {D : Addr} (h : excCB K D = true) : ExcC K D := by
  unfold excCB at h
  simp only [Bool.and_eq_true, decide_eq_true_eq] at h
  obtain ⟨h1, h2, h3, h4, h5, h6, h7, h8⟩ := h
  exact ⟨h1, h2, h3, h4, h5, h6, h7, h8⟩
theorem kofB_ok {K : PySem.W.Frag} {c1 c2 c3 c4 c5 c6 cb D : Addr} {n : Nat} (h : kofB K c1 c2 c3 c4 c5 c6 cb D n = true) : Kof K c1 c2 c3 c4 c5 c6 cb D n := by
  unfold kofB at h
  simp only [Bool.and_eq_true, decide_eq_true_eq] at h
  obtain ⟨h0, h1, h2, h3, h4, h5, h6, h7, h8⟩ := h
  exact ⟨excCB_ok h0, h1, h2, h3, h4, h5, h6, h7, h8⟩
def kWord : Nat → Str
  | 1 => "setting"
  | 2 => "mark"
  | 3 => "bits"
  | 4 => "full"
  | 5 => "event"
  | _ => "text"
/-- what _law_told makes of a lambda's reading, where no field is asked -/
def TTold (K : PySem.W.Frag) (c1 c2 c3 c4 c5 c6 cb : Addr) : (XK → Hp → VK → Prop) → Hp → VK → Prop := fun tl H Q =>
  tl (fun cls d H' => ∃ (D : Addr) (n : Nat), cls = .ref D ∧ d = none ∧ Kof K c1 c2 c3 c4 c5 c6 cb D n ∧ (n = 2 ∨ n = 3 ∨ n = 4) ∧ ∀ p H'', Aft [] H' H'' → H'' p = some (.tup [.str (kWord n)]) → Q (.ref p) H'') H Q
theorem g_cntF {K : PySem.W.Frag} {H : Hp} {p : Addr} {ys : List V} {y : V} {n : Nat} {Q : VK} (h : SqL K H p ys) (f1 : flatV y = true) (f2 : ys.all flatV = true) (hn : (ys.countP fun z => eqV z y) = n) (q : Q (.int (n : Int)) H) : rCntF K (.ref p) [y] H Q := ⟨p, ys, y, rfl, rfl, h, f1, f2, by rw [hn]; exact q⟩
theorem g_idx {K : PySem.W.Frag} {H : Hp} {p : Addr} {ys : List V} {y z : V} (j : Nat) {Q : VK} (h : SqL K H p ys) (f1 : flatV y = true) (f2 : ys.all flatV = true) (hz : ys[j]? = some z) (hj : eqV z y = true) (hno : ∀ (m : Nat) (z' : V), m < j → ys[m]? = some z' → eqV z' y = false) (q : Q (.int (j : Int)) H) : rIndex K (.ref p) [y] H Q :=
  ⟨p, ys, y, j, z, rfl, rfl, h, f1, f2, hz, hj, hno, q⟩
theorem mt_indexK {X : Cx} (K : PySem.W.Frag) (h : X.K = K) : MtR X "list.index" (rIndex K) := h ▸ mt_index
theorem mt_countFK {X : Cx} (K : PySem.W.Frag) (h : X.K = K) : MtR X "list.count" (rCntF K) := h ▸ mt_countF
theorem call_isEgK {X : Cx} (K : PySem.W.Frag) (h : X.K = K) {a : Addr} {cls : Value} {d : Option Addr} {oe : Obj} {pn : List (Addr × Obj)} (hz : Zc cls d oe) (hf : ∃ vs, oe.data = .fields vs) : CallR (X.suite a ((a, oe) :: pn)) (.builtin "isinstance") (rIsEg K cls d a) := h ▸ call_isEg hz hf
/-! ### lambdas: tables of code objects beside the cells -/
def plainO : HO → Bool
  | .lst _ => true
  | .dK _ => true
  | .ins _ _ _ => true
  | _ => false
theorem tabs_aft {T : List (Addr × Str)} {M : List Addr} {H H' : Hp} (t : LamX.Tabs T H) (A : Aft M H H') (hM : ∀ b ∈ M, ∃ o, H b = some o ∧ plainO o = true) : LamX.Tabs T H' := fun p hp => by
  obtain ⟨ps, h1, h2, h3⟩ := t p hp
  have nP : p.1 ∉ M := fun m => by
    obtain ⟨o, e1, e2⟩ := hM _ m
    rw [h1] at e1
    rw [← Option.some.inj e1] at e2
    cases e2
  refine ⟨ps, A.k _ _ h1 nP, h2, fun pos cv hc => ?_⟩
  obtain ⟨c, e, hco⟩ := h3 pos cv hc
  refine ⟨c, e, A.k _ _ hco fun m => ?_⟩
  obtain ⟨o, e1, e2⟩ := hM _ m
  rw [hco] at e1
  rw [← Option.some.inj e1] at e2
  cases e2
section
variable {K : PySem.W.Frag} {M : List Addr} {H0 H H1 H2 : Hp} {l : List Cel} {ts : List (Addr × List V)} {d : Addr} {T : List (Addr × Str)}
theorem Now.tabs (N : Now K (some d) M H0 H l ts) (t : LamX.Tabs T H) (hl : ∀ c ∈ l, plainO c.o = true) (A : Aft (d :: l.map Cel.a) H H2) : LamX.Tabs T H2 := tabs_aft t A fun b hb => by
  rcases List.mem_cons.mp hb with e | e
  · subst e
    obtain ⟨_, _, _, _, _, h, _⟩ := (N.dc b rfl).1.ex
    exact ⟨_, h, rfl⟩
  · obtain ⟨c, hc, rfl⟩ := List.mem_map.mp e
    exact ⟨_, N.at_ c hc, hl c hc⟩
theorem Now.reb (N : Now K (some d) M H0 H l ts) : Now K (some d) (d :: l.map Cel.a) H H l ts :=
  .start N.nd (fun c hc => ⟨N.at_ c hc, N.mu c hc, fun _ => List.mem_cons_of_mem _ (List.mem_map.mpr ⟨c, hc, rfl⟩)⟩) N.tp fun e he => by
    cases he
    obtain ⟨h1, h2, h3⟩ := N.dc d rfl
    exact ⟨h1, List.mem_cons_self, h3⟩
theorem Now.extN (N : Now K (some d) M H0 H l ts) (e : LamX.ExtN H H1) : Now K (some d) (d :: l.map Cel.a) H1 H1 l ts :=
  .start N.nd (fun c hc => ⟨e _ _ (N.at_ c hc) (fun ps z => by
      have m := N.mu c hc
      rw [z] at m
      exact m), N.mu c hc, fun _ => List.mem_cons_of_mem _ (List.mem_map.mpr ⟨c, hc, rfl⟩)⟩) (fun p hp => e _ _ (N.tp p hp) (fun ps z => by cases z)) fun e' he => by
    cases he
    obtain ⟨⟨a, ns, i, m, r, h1, h2, h3⟩, _, h5⟩ := N.dc d rfl
    refine ⟨⟨a, ns, i, m, r, e _ _ h1 (fun ps z => by cases z), ?_, h3⟩, List.mem_cons_self, h5⟩
    rcases h2 with ⟨u, h⟩ | h
    · exact .inl ⟨u, e _ _ h (fun ps z => by cases z)⟩
    · exact .inr h
theorem k_lam {TT : (XK → Hp → VK → Prop) → Hp → VK → Prop} {t : XK → TE} {σ : L2.St} {Q : VK} (hT : LamX.Tabs T H) (h : ∀ H1, LamX.ExtN H H1 → LamX.Tabs T H1 → TT (fun E H' Q' => t E σ H' Q') H1 Q) : LamX.tLam T TT t σ H Q := ⟨hT, h⟩
end
/-! ### a block under a lock, or as it is -/
theorem pss_lockA {X : Cx} {sts : List Stmt} {t : TS} (h : PSs X sts t) : PSs X sts (fun D σ H => t D σ H ∨ tLock t D σ H) := ⟨fun pins s σ H D I z => by
  rcases z with z | ⟨e, o, he, mo, z⟩
  · exact h.run pins s σ H D I z
  · obtain ⟨oo, J⟩ := I.lock he mo
    have back : ∀ {σ' : L2.St} {H' : Hp} {s' : Shared}, Inv X pins σ' H' s' → H' e = some (.frz oo o) → Inv X pins σ' (upd H' e o) s' := fun J' q => J'.unlock q (I.nofrz he mo)
    refine wpAny_mono (h.run pins s σ _ _ J (z oo)) (fun f s1 q => ?_) (fun _ _ q => q)
    cases f with
    | ret v =>
      obtain ⟨x, σ1, H1, J1, rx, q1, q2⟩ := q
      exact ⟨x, σ1, upd H1 e o, back J1 q1, rx, q2⟩
    | next =>
      obtain ⟨σ1, H1, J1, q1, q2⟩ := q
      exact ⟨σ1, upd H1 e o, back J1 q1, q2⟩
    | brk =>
      obtain ⟨σ1, H1, J1, q1, q2⟩ := q
      exact ⟨σ1, upd H1 e o, back J1 q1, q2⟩
    | cont =>
      obtain ⟨σ1, H1, J1, q1, q2⟩ := q
      exact ⟨σ1, upd H1 e o, back J1 q1, q2⟩⟩
/-- tables and locks -/
structure TZ (T : List (Addr × Str)) (Z : List (Addr × Obj × HO)) (H : Hp) : Prop where
  t : LamX.Tabs T H
  z : ∀ p ∈ Z, H p.1 = some (.frz p.2.1 p.2.2)
section
variable {K : PySem.W.Frag} {M : List Addr} {H0 H H1 H2 : Hp} {l : List Cel} {ts : List (Addr × List V)} {d : Addr} {T : List (Addr × Str)} {Z : List (Addr × Obj × HO)}
theorem TZ.aft (h : TZ T Z H) (N : Now K (some d) M H0 H l ts) (hl : ∀ c ∈ l, plainO c.o = true) (A : Aft (d :: l.map Cel.a) H H2) : TZ T Z H2 := ⟨N.tabs h.t hl A, fun p hp => A.z _ _ _ (h.z p hp)⟩
theorem TZ.aft0 (h : TZ T Z H) (A : Aft [] H H2) : TZ T Z H2 := ⟨tabs_aft h.t A (by simp), fun p hp => A.z _ _ _ (h.z p hp)⟩
theorem TZ.ext (h : TZ T Z H) (e : LamX.ExtN H H1) (t : LamX.Tabs T H1) : TZ T Z H1 := ⟨t, fun p hp => e _ _ (h.z p hp) (fun ps q => by cases q)⟩
/-- the law's core, for a script that is locked, written or not -/
theorem law_core {X : Cx} {sts : List Stmt} {t : TS} {Q : VK} {N : List Str} {a P : Addr} {q : Str} {xs : List V} (hp : PSs X sts t) (hS : SqL X.K H a xs) (hP : H P = some (.tbl #[]))
    (core : ∀ (H : Hp) (Z : List (Addr × Obj × HO)) (D : Ends), (∃ ns : List V, ns = xs) → ((∃ u, H a = some (.frz u (.lst xs))) ∨ (∃ (o : Obj) (its : Array Value) (n : Nat), X.K.lookup a = some o ∧ o.cls = .type "list" ∧ o.dict = none ∧ o.data = .seq its n ∧ its.size ≤ sizeLine ∧ Vals xs its.toList)) → TZ [(P, q)] Z H → (∀ H', (∀ p ∈ Z, H' p.1 = some (.frz p.2.1 p.2.2)) → D.rt (.bl true) H') → t D (L2.start N [.ref a]) H)
    (k : ∀ H', Q (.bl true) H') : ∃ t', PSs X sts t' ∧ t' { nx := fun _ H' => Q .non H', rt := Q } (L2.start N [.ref a]) H := by
  have tb : ∀ H' : Hp, H' P = some (.tbl #[]) → LamX.Tabs [(P, q)] H' := fun H' e p hp => by
    cases List.mem_singleton.mp hp
    exact .nil e
  refine ⟨_, pss_lockA hp, ?_⟩
  rcases hS with (h | h) | h
  · refine .inr ⟨a, .lst xs, h, trivial, fun od => ?_⟩
    have ne : P ≠ a := fun e => by rw [e, h] at hP; cases hP
    refine core _ [(a, od, .lst xs)] _ ⟨_, rfl⟩ (.inl ⟨od, upd_same⟩) ⟨tb _ (by rw [upd_ne ne]; exact hP), fun p hp => ?_⟩ (fun H' hz => ⟨hz (a, od, .lst xs) (by simp), k _⟩)
    cases List.mem_singleton.mp hp
    exact upd_same
  · exact .inl (core H [] _ ⟨_, rfl⟩ (.inl h) ⟨tb _ hP, by simp⟩ (fun H' _ => k H'))
  · exact .inl (core H [] _ ⟨_, rfl⟩ (.inr h) ⟨tb _ hP, by simp⟩ (fun H' _ => k H'))
end
end Ak
namespace Ak
open PySem PySem.Spec PyProof.Rows L2
/-! ### refusals with an own __init__ -/
/-- an own base class at B, by whose name ValueError's __init__ is called -/
structure BaseI (K : PySem.W.Frag) (mg : Str → Option Value) (x : Str) (B : Addr) : Prop where
  g : mg x = some (.ref B)
  rd : PySem.W.readsIn K B (.type "type") = true
  ga : PySem.W.specialIn K (.ref B) "__getattribute__" = some (some (.builtin "type.__getattribute__"))
  at_ : PySem.W.findCls K (.ref B) (.type "type") "__init__" = some (.val (.builtin "ValueError.__init__"))
theorem valOf_ok {o : Option PySem.W.CFound} {v : Value} (h : valOf o = some v) : o = some (.val v) := by
  cases o with
  | none => cases h
  | some c =>
    cases c with
    | val u => cases h; rfl
    | get a b c d => cases h
theorem baseIB_ok {K : PySem.W.Frag} {mg : Str → Option Value} {x : Str} {B : Addr} (g : mg x = some (.ref B)) (h : baseIB K B = true) : BaseI K mg x B := by
  unfold baseIB at h
  simp only [Bool.and_eq_true, decide_eq_true_eq] at h
  exact ⟨g, h.1, h.2.1, valOf_ok h.2.2⟩
/-- B.__init__(self, ..), B an own class over ValueError -/
theorem pe_baseInit {X : Cx} {x : Str} {B : Addr} {e : Expr} {es : List Expr} {ta : TA} {p1 p2 pos : Pos} {pl : Sem Bool} (T : BaseI X.K X.mg x B) (hg : Gl X x) (ha : PA X (e :: es) ta) (hdb : (x == ("__debug__" : Str)) = false := by decide)
    (hc : eval (.Call (.Attribute (.Name x p1) "__init__" p2) (e :: es) [] pos) X.env = (do
      let ov ← eval (.Name x p1) X.env
      standAt p2.atName
      let (f, first) ← holding [ov] (getMethod ov "__init__" pl)
      callWith pos f first (backTo pos (starEach (e :: es) X.env)) (backToKw pos (keywordEach [] X.env))) := by rfl)
    (he : starEach (e :: es) X.env = (false, eval e X.env) :: starEach es X.env := by rfl) (hpl : (backTo pos (starEach es X.env)).any (·.1) = false := by rfl) :
    PE X (.Call (.Attribute (.Name x p1) "__init__" p2) (e :: es) [] pos) (tVeI X.K ta) := by
  refine ⟨fun pins s σ H Q I h => PySem.W.methodCall_KW (ld_glob I hg T.g ?_ hdb) hc⟩
  refine PySem.W.method_cls I.kIn T.ga (PySem.W.cls_value I.kIn T.rd T.at_ (by rfl) ?_)
  refine PyProof.Rows.callWith_method1 (thn (ha.run pos pins _ σ H _ (I.tok _) h) fun us s1 ⟨vs, H1, I1, r1, a, C, ws, ev, hl, T', ea, q⟩ => ?_) he hpl
  subst ev
  cases r1 with
  | @cons _ u0 _ ur ra rw' =>
    cases (show u0 = Value.ref a from ra)
    exact oinit_ok T' I1 ea (by rw [← Paired.length rw', sizeLine_eq]; omega) fun s' J => ⟨.non, H1, J, rfl, q⟩
/-! ### C(v): an own class whose __init__ keeps v under one name -/
def spXI (K : PySem.W.Frag) (C : Addr) (f : Str) : Sp := fun vs H Q _ => ∃ (a : Addr) (v : V), vs = [.ref a, v] ∧ H a = some (exo a C none) ∧ ∀ dx, H dx = none → dx ≠ a → Q .non (upd (upd H dx (exd dx [(f, v)])) a (exo a C (some dx)))
structure ExI (P : Program) (w : World) (K : PySem.W.Frag) (mg : Str → Option Value) (base : Heap) (CX : CXT) (C : Addr) (k : Nat) (x f : Str) : Prop where
  T : OexC K C
  ex : ∃ (fI : Addr) (fd : FuncData) (ps : List Str), FnOk P w K mg base CX k fI fd ps (spXI K C f) ∧ Binds K fd ps [] ∧ PySem.W.findIn K (.ref C) "__init__" = some (some (.ref fI)) ∧ PySem.W.typeIn K (.ref fI) = some (.type "function")
  g : mg x = some (.ref C)
/-- the __init__ of such a class, in the text -/
structure DefX (K : PySem.W.Frag) (mg : Str → Option Value) (C : Addr) (x qual : Str) (st : Stmt) : Prop where
  ex : ∃ (f : Addr) (fd : FuncData), FunD K "__init__" qual (defArgs st) (defBody st) (defScope st) [] [] f fd ∧ Meth K C "__init__" f
  g : mg x = some (.ref C)
theorem DefX.ok {P : Program} {w : World} {K : PySem.W.Frag} {mg : Str → Option Value} {base : Heap} {CX : CXT} {x fl qual : Str} {st : Stmt} {N ps : List Str} {k : Nat} {C : Addr} (F : DefX K mg C x qual st) (T : OexC K C) (S : FnScope N ps (defScope st)) (b : Bd "__init__" qual st ps) (h2 : ps.length = 2)
    (hbody : ∀ (f : Addr) (cdv : Value) (A : Around) (outer : List Env) (s : Shared) (H : Hp) (vs : List V) (Q : VK) (E : XK), Room k (A.deeper (envOfC qual (defScope st) s.heap.objs.size f cdv)) → spXI K C fl vs H Q E →
      ∃ t, PSs (cxOf CX P w K mg base N qual (defScope st) f cdv A outer s H E) (defBody st) t ∧ t { nx := fun _ H' => Q .non H', rt := Q } (start N vs) H) : ExI P w K mg base CX C (k + 1) x fl := by
  obtain ⟨f, fd, F', M⟩ := F.ex
  refine ⟨T, ⟨f, fd, ps, F'.ok S (fun vs H Q E h => ?_) (hbody f), F'.bindsN b, M.at_, ?_⟩, F.g⟩
  · obtain ⟨a, v, rfl, _⟩ := h
    exact h2.symm
  · exact beq_iff_eq.mp M.fn
def cMkO (K : PySem.W.Frag) (C : Addr) (f : Str) (Q : XK) : List V → Hp → Prop := fun vs H1 => vs.length ≤ 1000 ∧ ∀ a, H1 a = none → spXI K C f (.ref a :: (vs ++ [])) (upd H1 a (exo a C none))
  (fun v H2 => v = .non ∧ ∃ (d : Addr) (fs : List (Str × V)), H2 a = some (exo a C (some d)) ∧ H2 d = some (exd d fs) ∧ H1 d = none ∧ Q (.ref C) (some d) (upd (del H2 a) d (.xd fs))) (fun _ _ _ => False)
theorem c_mkO {K : PySem.W.Frag} {C : Addr} {f : Str} {Q : XK} {v : V} {H : Hp} (h : ∀ d, H d = none → Q (.ref C) (some d) (upd H d (.xd [(f, v)]))) : cMkO K C f Q [v] H := by
  refine ⟨by simp, fun a ha => ⟨a, v, rfl, upd_same, fun dx hdx hne => ⟨rfl, dx, [(f, v)], upd_same, ?_, ?_, ?_⟩⟩⟩
  · rw [upd_ne hne]
    exact upd_same
  · rw [← hdx, upd_ne hne]
  · have q := h dx (by rw [← hdx, upd_ne hne])
    have e : upd (del (upd (upd (upd H a (exo a C none)) dx (exd dx [(f, v)])) a (exo a C (some dx))) a) dx (.xd [(f, v)]) = upd H dx (.xd [(f, v)]) := by
      funext b
      by_cases h1 : b = dx
      · rw [h1, upd_same, upd_same]
      · rw [upd_ne h1, upd_ne h1]
        by_cases h2 : b = a
        · rw [h2, del_same, ha]
        · rw [del_ne h2, upd_ne h2, upd_ne h1, upd_ne h2]
    rw [e]
    exact q
def tRaiseI (K : PySem.W.Frag) (C : Addr) (f : Str) (W : WX) (ta : TA) : TS := fun _ σ H => ta σ H (cMkO K C f fun cls d H' => W cls d σ H')
theorem ps_raiseI {X : Cx} {W : WX} {CX : CXT} {C : Addr} {k : Nat} {x f : Str} {e : Expr} {ta : TA} {p pos pos2 : Pos} (hc : X.calm = true) (tk : Takes X W) (T : ExI X.prog X.w X.K X.mg X.base CX C k x f) (hr : Room (k + 1) X.A) (hx : Passes CX X (fun _ _ _ => False)) (hg : Gl X x) (ha : PA X [e] ta)
    (hdb : (x == ("__debug__" : Str)) = false := by decide) (he : starEach [e] X.env = (false, eval e X.env) :: starEach [] X.env := by rfl) (hpl : (backTo pos (starEach [] X.env)).any (·.1) = false := by rfl) :
    PS X (.Raise (some (.Call (.Name x p) [e] [] pos)) none pos2) (tRaiseI X.K C f W ta) := by
  obtain ⟨fI, fd, ps, F1, hb, iC, tI⟩ := T.ex
  exact ps_raise hc tk (pmk_oex T.T iC tI F1 hr hb .nil hx hg T.g ha hdb he hpl)
theorem k_raiseI {K : PySem.W.Frag} {C : Addr} {f : Str} {W : WX} {ta : TA} {D : Ends} {σ : L2.St} {H : Hp} (h : ta σ H (cMkO K C f fun cls d H' => W cls d σ H')) : tRaiseI K C f W ta D σ H := h
/-! steps inside such an __init__ -/
theorem k_veI {K : PySem.W.Frag} {ta : TA} {σ : L2.St} {H : Hp} {Q : VK} (h : ta σ H fun vs H1 => ∃ (a C : Addr) (ws : List V), vs = .ref a :: ws ∧ ws.length ≤ 1000 ∧ OexC K C ∧ H1 a = some (exo a C none) ∧ Q .non H1) : tVeI K ta σ H Q := h
theorem k_ost {K : PySem.W.Frag} {f : Str} {to te : TE} {D : Ends} {σ : L2.St} {H : Hp} (h : te σ H fun y H1 => to σ H1 fun x H2 => ∃ a C : Addr, x = .ref a ∧ OexC K C ∧ PySem.W.findIn K (.ref C) f = some none ∧
  ((H2 a = some (exo a C none) ∧ ∀ dx, H2 dx = none → dx ≠ a → D.nx σ (upd (upd H2 dx (exd dx [(f, y)])) a (exo a C (some dx)))) ∨
    ∃ (dx : Addr) (fs : List (Str × V)), H2 a = some (exo a C (some dx)) ∧ H2 dx = some (exd dx fs) ∧ fs.length ≤ 900 ∧ D.nx σ (upd H2 dx (exd dx ((f, y) :: fs))))) : tOst K f to te D σ H := h
/-! ### facts of the head -/
theorem oexB_ok {K : PySem.W.Frag} {C : Addr} (h : oexB K C = true) : OexC K C := by
  unfold oexB at h
  obtain ⟨h0, h⟩ := Bool.and_eq_true_iff.mp h
  simp only [Bool.and_eq_true, decide_eq_true_eq] at h
  obtain ⟨h1, h2, h3, h4⟩ := h
  refine ⟨?_, h1, h2, h3, h4⟩
  split at h0
  · rename_i t dd cd sl hl
    obtain ⟨q1, g1⟩ := Bool.and_eq_true_iff.mp h0
    obtain ⟨q2, g2⟩ := Bool.and_eq_true_iff.mp g1
    obtain ⟨q3, g3⟩ := Bool.and_eq_true_iff.mp g2
    obtain ⟨q4, q5⟩ := Bool.and_eq_true_iff.mp g3
    clear h0 g1 g2 g3
    have e1 := of_decide_eq_true q1
    subst e1
    obtain ⟨nm, bs, mro, ns, qn, hd, sn, sub, ab, col, del⟩ := cd
    dsimp only at q2 q3 q4
    subst q3
    have e4 : del = false := by simpa using q4
    subst e4
    split at q2
    · rename_i D bm
      obtain ⟨z1, z2⟩ := Bool.and_eq_true_iff.mp q2
      have e2 := of_decide_eq_true z1
      subst e2
      split at q5
      · rename_i k0 k1 k2 k3 n k5 hs
        have e5 := of_decide_eq_true q5
        subst e5
        obtain ⟨l⟩ := sl
        have e6 : l = [k0, k1, k2, k3, some (.builtin "ValueError.__new__"), k5] := hs
        subst e6
        exact ⟨nm, qn, ns, bs, bm, sn, sub, ab, col, dd, k0, k1, k2, k3, k5, hl, z2⟩
      · cases q5
    · cases q2
  · cases h0
/-! ### isinstance of a caught refusal, with or without fields -/
def XDic (d : Option Addr) (H : Hp) : Prop := d = none ∨ ∃ (dd : Addr) (fs : List (Str × V)), d = some dd ∧ H dd = some (.xd fs)
theorem XDic.keep {d : Option Addr} {H H' : Hp} (h : XDic d H) (A : Aft [] H H') : XDic d H' := h.imp id fun ⟨dd, fs, e, z⟩ => ⟨dd, fs, e, A.k _ _ z (by simp)⟩
def rIsEz (K : PySem.W.Frag) (cls : Value) (d : Option Addr) (a : Addr) : List V → Hp → VK → Prop := fun xs H Q => ∃ (D : Addr) (c : V) (cv : Value) (b : Bool), cls = .ref D ∧ XDic d H ∧ ExcC K D ∧ xs = [.ref a, c] ∧ (∀ u, RelV c u → u = cv) ∧ PySem.W.kitOne K (.ref D) cv = some b ∧ Q (.bl b) H
theorem call_isEz {X : Cx} {a : Addr} {cls : Value} {d : Option Addr} {oe : Obj} {pn : List (Addr × Obj)} (hz : Zc cls d oe) (hf : ∃ vs, oe.data = .fields vs) : CallR (X.suite a ((a, oe) :: pn)) (.builtin "isinstance") (rIsEz X.K cls d a) := by
  intro pins s σ H xs us Q I r h
  obtain ⟨D, c, cv, b, rfl, hd, C, rfl, e2, e3, q⟩ := h
  rcases hd with rfl | ⟨dd, fs, rfl, hdd⟩
  · exact call_isE C hz hf pins s σ H _ us Q I r ⟨c, cv, b, rfl, e2, e3, q⟩
  · obtain ⟨u1, u2, rfl, r1, r2⟩ : ∃ u1 u2, us = [u1, u2] ∧ RelV (.ref a) u1 ∧ RelV c u2 := by
      cases r with
      | cons ra rr =>
        cases rr with
        | cons rb rc =>
          cases rc
          exact ⟨_, _, rfl, ra, rb⟩
    cases r1
    cases e2 _ r2
    obtain ⟨ga, _⟩ := I.pin (a, oe) (List.mem_append_left _ List.mem_cons_self)
    obtain ⟨vs, hv⟩ := hf
    have xo : ObjOk X.prog X.w H s.heap dd (.xd fs) := I.hok dd _ hdd
    obtain ⟨mA, hns, _⟩ := xo
    obtain ⟨od, ho, _⟩ := lookIn_ns hns
    have J : PySem.W.InstAt s.heap a oe D (some od) := ⟨ga, hz.1, by unfold PySem.W.notCls; rw [hv] <;> rfl, by rw [hz.2]; exact ho⟩
    obtain ⟨cd, hcd, _⟩ := PySem.W.any_some C.hd
    exact PySem.W.kia_one (PySem.W.kitx_exc (od := some od) (by rw [hcd]; rfl) C.hg C.hk C.hs C.ha C.hn C.ht C.hm) I.kIn J e3 (fun z => nomatch z) fun tk => ⟨.bl b, H, I.kept (t' := tk) fun _ _ z => z, rfl, q⟩
theorem call_isEzK {X : Cx} (K : PySem.W.Frag) (h : X.K = K) {a : Addr} {cls : Value} {d : Option Addr} {oe : Obj} {pn : List (Addr × Obj)} (hz : Zc cls d oe) (hf : ∃ vs, oe.data = .fields vs) : CallR (X.suite a ((a, oe) :: pn)) (.builtin "isinstance") (rIsEz K cls d a) := h ▸ call_isEz hz hf
def cXf (a : Addr) (cls : Value) (d : Option Addr) (C : Addr) (f : Str) (Q : VK) : VK := fun x H1 => x = .ref a ∧ cls = .ref C ∧ ∃ (dd : Addr) (fs : List (Str × V)) (v : V), d = some dd ∧ H1 dd = some (.xd fs) ∧ fs.lookup f = some v ∧ Q v H1
theorem k_xf {a C : Addr} {cls : Value} {d : Option Addr} {f : Str} {te : TE} {σ : L2.St} {H : Hp} {Q : VK} (h : te σ H (cXf a cls d C f Q)) : tXf a cls d C f te σ H Q := h
theorem g_xf {a C dd : Addr} {f : Str} {H : Hp} {Q : VK} {fs : List (Str × V)} {v : V} (h1 : H dd = some (.xd fs)) (h2 : fs.lookup f = some v) (q : Q v H) : cXf a (.ref C) (some dd) C f Q (.ref a) H := ⟨rfl, rfl, dd, fs, v, rfl, h1, h2, q⟩
/-- the fields of the three kinds that have one -/
structure KinX (K : PySem.W.Frag) (c1 c5 c6 : Addr) : Prop where
  x1 : XfC K c1
  x5 : XfC K c5
  x6 : XfC K c6
  n1 : PySem.W.findIn K (.ref c1) "word" = some none
  n5 : PySem.W.findIn K (.ref c5) "number" = some none
  n6 : PySem.W.findIn K (.ref c6) "place" = some none
theorem kinXB_ok {K : PySem.W.Frag} {c1 c5 c6 : Addr} (h : kinXB K c1 c5 c6 = true) : KinX K c1 c5 c6 := by
  unfold kinXB at h
  simp only [Bool.and_eq_true, decide_eq_true_eq] at h
  obtain ⟨h1, h2, h3, h4, h5, h6⟩ := h
  exact ⟨xfB_ok h1, xfB_ok h2, xfB_ok h3, h4, h5, h6⟩
/-- which of them a refusal is, and its field -/
def RefX (K : PySem.W.Frag) (c1 c2 c3 c4 c5 c6 cb : Addr) (cls : Value) (d : Option Addr) (H : Hp) (xs : List V) : Prop := ∃ (D : Addr) (n : Nat), cls = .ref D ∧ Kof K c1 c2 c3 c4 c5 c6 cb D n ∧
  ((d = none ∧ (n = 2 ∨ n = 3 ∨ n = 4) ∧ xs = [.str (kWord n)]) ∨ ∃ (dd : Addr) (fs : List (Str × V)) (v : V), d = some dd ∧ H dd = some (.xd fs) ∧ xs = [.str (kWord n), v] ∧
    ((n = 1 ∧ D = c1 ∧ fs.lookup ("word" : Str) = some v) ∨ (n = 5 ∧ D = c5 ∧ fs.lookup ("number" : Str) = some v) ∨ (n = 6 ∧ D = c6 ∧ fs.lookup ("place" : Str) = some v)))
/-- what _law_told makes of a lambda's reading -/
def TToldX (K : PySem.W.Frag) (c1 c2 c3 c4 c5 c6 cb : Addr) : (XK → Hp → VK → Prop) → Hp → VK → Prop := fun tl H Q =>
  tl (fun cls d H' => ∃ xs, RefX K c1 c2 c3 c4 c5 c6 cb cls d H' xs ∧ ∀ p H'', Aft [] H' H'' → H'' p = some (.tup xs) → Q (.ref p) H'') H Q
theorem k_toldx {K : PySem.W.Frag} {c1 c2 c3 c4 c5 c6 cb : Addr} {t : XK → TE} {σ : L2.St} {H : Hp} {Q : VK}
    (h : t (fun cls d H' => ∃ xs, RefX K c1 c2 c3 c4 c5 c6 cb cls d H' xs ∧ ∀ p H'', Aft [] H' H'' → H'' p = some (.tup xs) → Q (.ref p) H'') σ H Q) : TToldX K c1 c2 c3 c4 c5 c6 cb (fun E H' Q' => t E σ H' Q') H Q := h
/-! ### the observation of the head, the statics with it -/
end Ak
namespace Ak
open PySem PySem.Spec PyProof.Rows L2
local macro_rules | `(tactic| walk_at "ty") => `(tactic| first
  | assumption | exact tyx_non | exact tyx_bl | exact tyx_int | exact tyx_str
  | (refine sql_ty (xs := ?x0) ?_; walk_at "sq") | (refine sqt_ty (xs := ?x0) ?_; walk_at "sq"))
local macro_rules | `(tactic| walk_at "kb") => `(tactic| with_reducible first
  | exact kb_bb | exact kb_ib | exact kb_sb | exact kb_nb | exact kb_lb | exact kb_tb | exact kb_is | exact kb_ss | exact kb_ns | exact kb_ls | exact kb_ts
  | exact kb_ii | exact kb_ni | exact kb_li | exact kb_ti | exact kb_ld | exact kb_td | exact kb_lt | exact kb_tt | exact kb_ll | exact kb_tl | exact kb_il)
local macro_rules | `(tactic| walk_at "arith") => `(tactic| first
  | (show (0 : Int) < _; first | decide | omega)
  | (show CDiv _ _; exact ⟨by first | decide | omega, by first | decide | omega⟩)
  | (show CMul _ _; exact Or.inr ⟨by decide, by decide⟩)
  | (show CMul _ _; exact Or.inl ⟨by omega, by omega⟩)
  | (show CMul _ _; exact Or.inr ⟨by omega, by omega⟩)
  | (show CPow _ _; exact ⟨by decide, by decide, by decide⟩))
local macro_rules | `(tactic| walk_at "c") => `(tactic| first
  | assumption
  | ((refine Now.cell (K := ?K0) (D := ?D0) (M := ?M0) (H0 := ?H00) (w := ?w0) (l := ?l0) (ts := ?t0) ?n0 0 ?h0); (case n0 => assumption); (case h0 => rfl))
  | ((refine Now.cell (K := ?K0) (D := ?D0) (M := ?M0) (H0 := ?H00) (w := ?w0) (l := ?l0) (ts := ?t0) ?n0 1 ?h0); (case n0 => assumption); (case h0 => rfl))
  | ((refine Now.cell (K := ?K0) (D := ?D0) (M := ?M0) (H0 := ?H00) (w := ?w0) (l := ?l0) (ts := ?t0) ?n0 2 ?h0); (case n0 => assumption); (case h0 => rfl))
  | ((refine Now.cell (K := ?K0) (D := ?D0) (M := ?M0) (H0 := ?H00) (w := ?w0) (l := ?l0) (ts := ?t0) ?n0 3 ?h0); (case n0 => assumption); (case h0 => rfl))
  | ((refine Now.cell (K := ?K0) (D := ?D0) (M := ?M0) (H0 := ?H00) (w := ?w0) (l := ?l0) (ts := ?t0) ?n0 4 ?h0); (case n0 => assumption); (case h0 => rfl))
  | ((refine Now.cell (K := ?K0) (D := ?D0) (M := ?M0) (H0 := ?H00) (w := ?w0) (l := ?l0) (ts := ?t0) ?n0 5 ?h0); (case n0 => assumption); (case h0 => rfl))
  | ((refine Now.cell (K := ?K0) (D := ?D0) (M := ?M0) (H0 := ?H00) (w := ?w0) (l := ?l0) (ts := ?t0) ?n0 6 ?h0); (case n0 => assumption); (case h0 => rfl))
  | ((refine Now.cell (K := ?K0) (D := ?D0) (M := ?M0) (H0 := ?H00) (w := ?w0) (l := ?l0) (ts := ?t0) ?n0 7 ?h0); (case n0 => assumption); (case h0 => rfl))
  | ((refine Now.cell (K := ?K0) (D := ?D0) (M := ?M0) (H0 := ?H00) (w := ?w0) (l := ?l0) (ts := ?t0) ?n0 8 ?h0); (case n0 => assumption); (case h0 => rfl))
  | ((refine Now.cell (K := ?K0) (D := ?D0) (M := ?M0) (H0 := ?H00) (w := ?w0) (l := ?l0) (ts := ?t0) ?n0 9 ?h0); (case n0 => assumption); (case h0 => rfl))
  | ((refine Now.cell (K := ?K0) (D := ?D0) (M := ?M0) (H0 := ?H00) (w := ?w0) (l := ?l0) (ts := ?t0) ?n0 10 ?h0); (case n0 => assumption); (case h0 => rfl))
  | ((refine Now.cell (K := ?K0) (D := ?D0) (M := ?M0) (H0 := ?H00) (w := ?w0) (l := ?l0) (ts := ?t0) ?n0 11 ?h0); (case n0 => assumption); (case h0 => rfl))
  | ((refine Now.cell (K := ?K0) (D := ?D0) (M := ?M0) (H0 := ?H00) (w := ?w0) (l := ?l0) (ts := ?t0) ?n0 12 ?h0); (case n0 => assumption); (case h0 => rfl))
  | ((refine Now.tup (K := ?K0) (D := ?D0) (M := ?M0) (H0 := ?H00) (l := ?l0) (ts := ?t0) ?n0 0 ?h0); (case n0 => assumption); (case h0 => rfl))
  | ((refine Now.tup (K := ?K0) (D := ?D0) (M := ?M0) (H0 := ?H00) (l := ?l0) (ts := ?t0) ?n0 1 ?h0); (case n0 => assumption); (case h0 => rfl))
  | ((refine Now.tup (K := ?K0) (D := ?D0) (M := ?M0) (H0 := ?H00) (l := ?l0) (ts := ?t0) ?n0 2 ?h0); (case n0 => assumption); (case h0 => rfl))
  | ((refine Now.tup (K := ?K0) (D := ?D0) (M := ?M0) (H0 := ?H00) (l := ?l0) (ts := ?t0) ?n0 3 ?h0); (case n0 => assumption); (case h0 => rfl))
  | ((refine Now.tup (K := ?K0) (D := ?D0) (M := ?M0) (H0 := ?H00) (l := ?l0) (ts := ?t0) ?n0 4 ?h0); (case n0 => assumption); (case h0 => rfl))
  | ((refine Now.tup (K := ?K0) (D := ?D0) (M := ?M0) (H0 := ?H00) (l := ?l0) (ts := ?t0) ?n0 5 ?h0); (case n0 => assumption); (case h0 => rfl))
  | ((refine Now.tup (K := ?K0) (D := ?D0) (M := ?M0) (H0 := ?H00) (l := ?l0) (ts := ?t0) ?n0 6 ?h0); (case n0 => assumption); (case h0 => rfl)))
local macro_rules | `(tactic| walk_at "sq") => `(tactic| first
  | assumption
  | (refine Scr.sq ?_; assumption)
  | ((refine Scr.sq (Scr.keep (M := ?m0) (H := ?h00) ?hs (Now.af (K := ?K0) (D := ?D0) (l := ?l0) (ts := ?t0) ?hn)); (case hn => assumption); (case hs => assumption)))
  | (refine SqL.of ?_; walk_at "c")
  | (refine SqT.of ?_; walk_at "c")
  | ((refine Cst.at_ (K := ?K0) (mg := ?m0) (x := ?x0) ?hc _); (case hc => assumption)))
local macro_rules | `(tactic| walk_at "k1") => `(tactic| first
  | (with_reducible refine k_seq ?_)
  | (with_reducible refine k_asg ?_)
  | (with_reducible refine k_gname ?_)
  | ((with_reducible refine k_var (v := ?kv) ?kh ?kk); (case kh => exact rfl))
  | (with_reducible refine k_c ?_)
  | (with_reducible refine k_cons ?_)
  | (with_reducible refine k_nil ?_)
  | (with_reducible refine k_op ?_)
  | (with_reducible refine k_I0 ?_)
  | ((with_reducible refine k_I ?kh ?kk); (case kh => walk_at "arith"))
  | (with_reducible refine g_intB ?_)
  | ((with_reducible refine g_lnL (xs := ?kx) ?kh ?kk); (case kh => walk_at "sq"))
  | ((with_reducible refine g_lnT (xs := ?kx) ?kh ?kk); (case kh => walk_at "sq"))
  | ((with_reducible refine g_ixL (xs := ?kx) (v := ?kv) ?kh ?ki ?kk); (case kh => walk_at "sq"); (case ki => rfl))
  | ((with_reducible refine g_ixT (xs := ?kx) (v := ?kv) ?kh ?ki ?kk); (case kh => walk_at "sq"); (case ki => rfl))
  | (with_reducible refine k_gsub ?_)
  | ((with_reducible refine g_set0 (l := ?kl) (xs := ?kx) (ts := ?kt) (D := ?kd) (H0 := ?k0) (M := ?km) (K := ?kK) (j := ?kj) ?kn ?ki (fun H' N' => ?kk)); (case kn => with_reducible assumption); (case ki => rfl))
  | ((with_reducible refine g_set1 (c0 := ?kc) (l := ?kl) (xs := ?kx) (ts := ?kt) (D := ?kd) (H0 := ?k0) (M := ?km) (K := ?kK) (j := ?kj) ?kn ?ki (fun H' N' => ?kk)); (case kn => with_reducible assumption); (case ki => rfl))
  | ((with_reducible refine g_tup (l := ?kl) (ts := ?kt) (D := ?kd) (H0 := ?k0) (M := ?km) (K := ?kK) ?kn ?ki (fun p H' N' => ?kk)); (case kn => with_reducible assumption); (case ki => exact Nat.le_of_ble_eq_true rfl))
  | ((with_reducible refine g_lst (l := ?kl) (ts := ?kt) (D := ?kd) (H0 := ?k0) (M := ?km) (K := ?kK) ?kn ?ki (fun p H' N' => ?kk)); (case kn => with_reducible assumption); (case ki => exact Nat.le_of_ble_eq_true rfl))
  | (with_reducible refine c_ifT ?_)
  | (with_reducible refine c_ifF ?_)
  | (with_reducible refine c_andT ?_)
  | (with_reducible refine c_andF ?_)
  | (with_reducible refine c_orT ?_)
  | (with_reducible refine c_orF ?_)
  | (with_reducible refine c_ifET ?_)
  | (with_reducible refine c_ifEF ?_)
  | (with_reducible refine e_andT ?_)
  | (with_reducible refine e_andF ?_)
  | (with_reducible refine e_orT ?_)
  | (with_reducible refine e_orF ?_)
  | (with_reducible refine e_notT ?_)
  | (with_reducible refine e_notF ?_)
  | (with_reducible refine c_ntT ?_)
  | (with_reducible refine c_ntF ?_)
  | (with_reducible refine c_ntD ?_)
  | (with_reducible refine k_isY ?_)
  | ((with_reducible refine k_isX ?kh ?kk); (case kh => intro z; cases z))
  | (with_reducible refine k_ntY ?_)
  | ((with_reducible refine k_ntX ?kh ?kk); (case kh => intro z; cases z))
  | ((with_reducible refine g_isi (a := ?ka) (r := ?kr) ?kt ?kb ?kk); (case kt => walk_at "ty"); (case kb => walk_at "kb"))
  | (with_reducible refine k_fld ?_)
  | ((with_reducible refine g_fld (C := ?kC) (dx := ?kdx) (fs := ?kfs) (v := ?kv) ?kh ?kcl ?kna ?kl ?kk); (case kh => walk_at "c"); (case kcl => assumption); (case kna => assumption); (case kl => rfl))
  | (with_reducible refine k_sfld ?_)
  | ((with_reducible refine g_sf0 (K := ?kK) (D := ?kd) (M := ?km) (H0 := ?k0) (l := ?kl) (ts := ?kt) (C := ?kC) (dx := ?kdx) (fs := ?kfs) (fs' := ?kfs') ?kn ?kcl ?kna ?kll ?ke (fun H' N' => ?kk)); (case kn => with_reducible assumption); (case kcl => assumption); (case kna => assumption); (case kll => exact Nat.le_of_ble_eq_true rfl); (case ke => rfl))
  | ((with_reducible refine g_sf1 (K := ?kK) (D := ?kd) (M := ?km) (H0 := ?k0) (c0 := ?kc0) (l := ?kl) (ts := ?kt) (C := ?kC) (dx := ?kdx) (fs := ?kfs) (fs' := ?kfs') ?kn ?kcl ?kna ?kll ?ke (fun H' N' => ?kk)); (case kn => with_reducible assumption); (case kcl => assumption); (case kna => assumption); (case kll => exact Nat.le_of_ble_eq_true rfl); (case ke => rfl))
  | ((with_reducible refine g_sf2 (K := ?kK) (D := ?kd) (M := ?km) (H0 := ?k0) (c0 := ?kc0) (c1 := ?kc1) (l := ?kl) (ts := ?kt) (C := ?kC) (dx := ?kdx) (fs := ?kfs) (fs' := ?kfs') ?kn ?kcl ?kna ?kll ?ke (fun H' N' => ?kk)); (case kn => with_reducible assumption); (case kcl => assumption); (case kna => assumption); (case kll => exact Nat.le_of_ble_eq_true rfl); (case ke => rfl))
  | (with_reducible refine k_meth ?_)
  | ((with_reducible refine g_meth (dx := ?kdx) (fs := ?kfs) ?kh ?kl ?kk); (case kh => walk_at "c"); (case kl => rfl))
  | (with_reducible refine k_make ?_)
  | (with_reducible refine k_dget ?_)
  | (with_reducible refine k_din ?_)
  | (with_reducible refine k_dnin ?_)
  | (with_reducible refine k_dput ?_)
  | (with_reducible refine k_dpop ?_)
  | ((with_reducible refine g_dgetS (kvs := ?kkv) (v := ?kv) ?kh ?kl ?kk); (case kh => walk_at "c"); (case kl => rfl))
  | ((with_reducible refine k_dnew (K := ?kK) (D := ?kd) (M := ?km) (H0 := ?k0) (l := ?kl) (ts := ?kt) ?kn (fun p H' N' => ?kk)); (case kn => with_reducible assumption))
  | ((with_reducible refine c_chD ?kh ?kk); (case kh => omega))
  | ((with_reducible refine c_chN ?kh ?kk); (case kh => omega))
  | ((with_reducible refine c_ifdT ?kh ?kk); (case kh => omega))
  | ((with_reducible refine c_ifdF ?kh ?kk); (case kh => omega))
  | (with_reducible refine k_lc ?_)
  | (with_reducible refine k_lcT ?_)
  | (with_reducible refine k_lcR ?_)
  | (with_reducible refine k_lcR2 ?_)
  | (with_reducible refine k_yes ?_)
  | (with_reducible refine c_elT ?_)
  | (with_reducible refine k_sl ?_)
  | (with_reducible refine k_nopart ?_)
  | (with_reducible refine k_part ?_)
  | (with_reducible refine c_part ?_)
  | ((with_reducible refine g_slL (K := ?kK) (D := ?kd) (M := ?km) (H0 := ?k0) (l := ?kl) (ts := ?kt) (xs := ?kxs) ?kn ?kx (fun p H' N' => ?kk)); (case kn => with_reducible assumption); (case kx => walk_at "sq"))
  | ((with_reducible refine g_tupL (K := ?kK) (D := ?kd) (M := ?km) (H0 := ?k0) (l := ?kl) (ts := ?kt) (xs := ?kxs) ?kn ?kx (fun p H' N' => ?kk)); (case kn => with_reducible assumption); (case kx => walk_at "sq"))
  | ((with_reducible refine g_lstL (K := ?kK) (D := ?kd) (M := ?km) (H0 := ?k0) (l := ?kl) (ts := ?kt) (xs := ?kxs) ?kn ?kx (fun p H' N' => ?kk)); (case kn => with_reducible assumption); (case kx => walk_at "sq"))
  | ((with_reducible refine g_lstT (K := ?kK) (D := ?kd) (M := ?km) (H0 := ?k0) (l := ?kl) (ts := ?kt) (xs := ?kxs) ?kn ?kx (fun p H' N' => ?kk)); (case kn => with_reducible assumption); (case kx => walk_at "sq"))
  | ((with_reducible refine g_cat (K := ?kK) (D := ?kd) (M := ?km) (H0 := ?k0) (l := ?kl) (ts := ?kt) (xs := ?kxs) (ys := ?kys) ?kn ?kx ?ky ?kz (fun p H' N' => ?kk)); (case kn => with_reducible assumption); (case kx => walk_at "c"); (case ky => walk_at "c"); (case kz => first | (simp only [List.length_map, List.length_cons, List.length_nil]; omega) | omega))
  | (with_reducible refine k_bm ?_)
  | (with_reducible refine k_bm0 ?_)
  | ((with_reducible refine g_bmL (xs := ?kxs) ?kx ?kk); (case kx => walk_at "sq"))
  | ((with_reducible refine g_bmL0 (xs := ?kxs) ?kx ?kk); (case kx => walk_at "sq"))
  | (with_reducible refine k_forK ?_)
  | ((with_reducible refine g_inI (ns := ?kns) ?kx ?kk); (case kx => first | (refine Or.inl ?_; walk_at "sq") | (refine Or.inr ?_; walk_at "sq")))
  | ((with_reducible refine g_ninI (ns := ?kns) ?kx ?kk); (case kx => first | (refine Or.inl ?_; walk_at "sq") | (refine Or.inr ?_; walk_at "sq")))
  | (with_reducible refine k_if ?_)
  | (with_reducible refine k_test ?_)
  | (with_reducible refine e_bl ?_)
  | ((with_reducible refine k_eqS ?kh ?kk); (case kh => rfl))
  | ((with_reducible refine k_neS ?kh ?kk); (case kh => rfl))
  | (with_reducible refine k_eqI ?_)
  | (with_reducible refine k_neI ?_)
  | (with_reducible refine k_call ?_)
  | (with_reducible refine k_cb ?_)
  | (with_reducible refine k_tup ?_)
  | (with_reducible refine k_lst ?_)
  | (with_reducible refine k_drop ?_)
  | (with_reducible refine k_ret ?_)
  | (with_reducible refine k_for ?_)
  | (with_reducible refine k_forT ?_)
  | (with_reducible refine k_forR ?_)
  | (with_reducible refine k_forR2 ?_)
  | (with_reducible refine k_forE ?_)
  | (with_reducible refine k_tB ?_)
  | (with_reducible refine k_not ?_)
  | (with_reducible refine k_and ?_)
  | (with_reducible refine k_or ?_)
  | (with_reducible refine k_andV ?_)
  | (with_reducible refine k_orV ?_)
  | (with_reducible refine k_notV ?_)
  | (with_reducible refine k_ifE ?_)
  | (with_reducible refine k_par ?_)
  | (with_reducible refine k_par3 ?_)
  | (with_reducible refine e_par3 ?_)
  | (with_reducible refine k_lenSet ?_)
  | (with_reducible refine e_par ?_)
  | (with_reducible refine k_next ?_)
  | (with_reducible refine k_un ?_)
  | (with_reducible refine k_U ?_)
  | (with_reducible refine k_chain ?_)
  | (with_reducible refine k_pairs ?_)
  | ((with_reducible refine k_gtup (xs := ?kx) ?kh ?kn ?kk); (case kh => walk_at "sq"); (case kn => rfl))
  | (with_reducible refine k_gcons ?_)
  | (with_reducible refine k_gnil ?_)
  | (with_reducible refine k_gattr ?_)
  | (with_reducible refine g_max2 ?_)
  | (with_reducible refine g_min2 ?_)
  | ((with_reducible refine g_tupT (xs := ?kx) ?kh ?kk); (case kh => walk_at "sq"))
  | (with_reducible refine k_pairs0 ?_)
  | ((with_reducible refine k_disp (K := ?kK) (D := ?kd) (M := ?km) (H0 := ?k0) (l := ?kl) (ts := ?kt) ?kn (fun p H' N' => ?kk)); (case kn => with_reducible assumption)))
local macro_rules | `(tactic| walk_at "k") => `(tactic| repeat (walk_at "k1"))
local macro_rules | `(tactic| walk_at "go") => `(tactic| (dsimp only [cxOf, Cx.nox, Cx.wish, L2.start, List.map_cons, List.map_nil, List.length_cons, List.length_nil, Nat.reduceAdd, Nat.reduceSub, List.replicate, List.cons_append, List.nil_append]; walk_at "k"))
local macro_rules | `(tactic| walk_at "kn1") => `(tactic| first
  | walk_at "k1"
  | ((with_reducible refine g_menu2 (b := ?mb) (c := ?mc) ?kh ?ki (fun v hv => ?kk)); (case kh => walk_at "sq"); (case ki => omega))
  | ((with_reducible refine g_menu3 (b := ?mb) (c := ?mc) (d := ?md) ?kh ?ki (fun v hv => ?kk)); (case kh => walk_at "sq"); (case ki => omega))
  | ((with_reducible refine g_menu4 (b := ?mb) (c := ?mc) (d := ?md) (e := ?me) ?kh ?ki (fun v hv => ?kk)); (case kh => walk_at "sq"); (case ki => omega))
  | ((with_reducible refine g_menu5 (b := ?mb) (c := ?mc) (d := ?md) (e := ?me) (f := ?mf) ?kh ?ki (fun v hv => ?kk)); (case kh => walk_at "sq"); (case ki => omega))
  | ((show spNext _ _ _ _ _); (refine g_next (K := ?kK) (M := ?km) (H0 := ?k0) (l := ?kl) (ts := ?kt) (n := ?kz) ?kn ?kb (fun v H' N' b1 b2 => ?kk)); (case kn => with_reducible assumption); (case kb => first | decide | omega)))
local macro_rules | `(tactic| walk_at "kn") => `(tactic| repeat (walk_at "kn1"))
local macro_rules | `(tactic| walk_at "gon") => `(tactic| (dsimp only [cxOf, Cx.nox, Cx.wish, L2.start, List.map_cons, List.map_nil, List.length_cons, List.length_nil, Nat.reduceAdd, Nat.reduceSub, List.replicate, List.cons_append, List.nil_append]; walk_at "kn"))
/-! ### the dice -/
section
variable {P : Program} {w : World} {K : PySem.W.Frag} {mg : Str → Option Value} {base : Heap}
theorem sc_l_dice : FnScope ["_law_script", "_law_mixed", "_law_cell"] ["_law_script"] (defScope s_l_dice) := ⟨rfl, rfl, rfl, by decide +kernel, rfl, by decide +kernel, by decide +kernel⟩
theorem bd_l_dice : Bd "_law_dice" "_law_dice" s_l_dice ["_law_script"] := fun _ _ _ _ _ _ us hl => match us, hl with | [_], _ => rfl
def spDice (K : PySem.W.Frag) : Sp := fun vs H Q _ => ∃ (a : Addr) (ns : List Int), vs = [.ref a] ∧ Scr K H a (ns.map V.int) ∧ ns.length ≤ 63 ∧ ∀ d H', Aft [] H H' → H d = none → Dice K H' d → Q (.ref d) H'
theorem ok_dice (F : Def K mg "_law_dice" s_l_dice) (B : Bt mg) : Cal P w K mg base CX0 1 "_law_dice" ["_law_script"] (spDice K) := by
  refine F.ok sc_l_dice bd_l_dice (fun vs H Q E h => ?_) (fun f cdv A outer s H vs Q E hr h => ?_)
  · obtain ⟨a, ns, rfl, _⟩ := h
    rfl
  · obtain ⟨a, ns, rfl, hS, hl, k⟩ := h
    refine ⟨_, PSs.nox (pss_cons (ps_set (i := 1) sc_l_dice.nd rfl (by first | exact Or.inl rfl | exact Or.inr rfl) pe_int)
      (pss_cons (ps_for PassesOwn.never rfl (pi_listK K rfl (pv 0)) (pg_name (i := 2) sc_l_dice.nd rfl (by first | exact Or.inl rfl | exact Or.inr rfl))
      (pss_one (ps_set (i := 1) sc_l_dice.nd rfl (by first | exact Or.inl rfl | exact Or.inr rfl) (pe_op op_mod (pe_op op_add (pe_op op_add (pe_op op_mul (pv 1) pe_int) (pe_op op_mul (pe_op op_mod (pv 2) pe_int) pe_int)) pe_int) pe_int))))
      (pss_one (ps_ret (pe_lst (pa_cons (pv 0) (pa_cons pe_int (pa_cons (pe_op op_mul (pv 1) (pe_callTy cr_intB (by rfl) B.m_int (by decide +kernel) (pa_cons (pe_cmpR op_gt (pe_callB (cr_lnK K rfl) (by rfl) B.m_len (by decide +kernel) (pa_cons (pv 0) pa_nil)) pe_int (nomark _)) pa_nil))) (pa_cons pe_int pa_nil))))))))), ?_⟩
    walk_at "go"
    refine c_for (xs := ns.map V.int) (fun i σ H' => ∃ m v, σ = [some (.ref a), some (.int m), v] ∧ H' = H ∧ 0 ≤ m ∧ m < 2147483647) ⟨0, _, rfl, rfl, by decide, by decide⟩ (fun i σ H' _ ⟨_, _, _, e, _⟩ => e ▸ hS.sq) ?_ ?_
    · rintro i x σ H' hx ⟨m, v, rfl, rfl, h0, h1⟩
      rw [List.getElem?_map] at hx
      obtain ⟨z, hz, rfl⟩ := Option.map_eq_some_iff.mp hx
      walk_at "k"
      exact ⟨_, _, rfl, rfl, Int.emod_nonneg _ (by decide), Int.emod_lt_of_pos _ (by decide)⟩
    · rintro σ H' ⟨m, v, rfl, rfl, h0, h1⟩
      walk_at "k"
      refine ⟨by show 4 ≤ sizeLine; decide, fun p hp => ?_⟩
      refine k p _ (Aft.refl.new hp) hp ⟨a, ns, 0, _, 0, upd_same, hS.keep (M := []) (Aft.refl.new hp), hl, Int.le_refl 0, ?_, ?_⟩
      all_goals (split <;> omega)
end
section
variable {P : Program} {w : World} {K : PySem.W.Frag} {mg : Str → Option Value} {base : Heap}
theorem sc_l_next : FnScope ["_law_dice_here", "_law_many", "_law_found", "_law_cell"] ["_law_dice_here", "_law_many"] (defScope s_l_next) := ⟨rfl, rfl, rfl, by decide +kernel, rfl, by decide +kernel, by decide +kernel⟩
theorem bd_l_next : Bd "_law_next" "_law_next" s_l_next ["_law_dice_here", "_law_many"] := fun _ _ _ _ _ _ us hl => match us, hl with | [_, _], _ => rfl
theorem ok_next (F : Def K mg "_law_next" s_l_next) (B : Bt mg) : Cal P w K mg base CX0 1 "_law_next" ["_law_dice_here", "_law_many"] (spNext K) := by
  refine F.ok sc_l_next bd_l_next (fun vs H Q E h => ?_) (fun f cdv A outer s H vs Q E hr h => ?_)
  · obtain ⟨a, ns, rfl, _⟩ := h
    rfl
  · obtain ⟨d, n, rfl, hD, h0, h1, k⟩ := h
    obtain ⟨a, ns, i, m, r, hd, hS, hl, hi, hm0, hm1⟩ := hD.ex
    refine ⟨_, PSs.nox (pss_cons (ps_if (pt_cmpR op_gt (pe_ix (ix_listK K rfl) (pv 0) pe_int (fun _ _ => rfl)) pe_int (nomark _)) (pss_cons (ps_set (i := 2) sc_l_next.nd rfl (by first | exact Or.inl rfl | exact Or.inr rfl) (pe_op op_mod (pe_ix (ix_listK K rfl) (pv 0) pe_int (fun _ _ => rfl)) (pv 1)))
      (pss_cons (ps_asg (pe_op op_fdiv (pe_ix (ix_listK K rfl) (pv 0) pe_int (fun _ _ => rfl)) (pv 1)) (pg_sub (pv 0) pe_int set_list))
      (pss_one (ps_ret (pv 2))))) pss_nil)
      (pss_cons (ps_asg (pe_op op_add (pe_ix (ix_listK K rfl) (pv 0) pe_int (fun _ _ => rfl)) pe_int) (pg_sub (pv 0) pe_int set_list))
      (pss_cons (ps_if (pt_cmpR op_le (pe_ix (ix_listK K rfl) (pv 0) pe_int (fun _ _ => rfl)) (pe_callB (cr_lnK K rfl) (by rfl) B.m_len (by decide +kernel) (pa_cons (pe_ix (ix_listK K rfl) (pv 0) pe_int (fun _ _ => rfl)) pa_nil)) (nomark _)) (pss_cons (ps_set (i := 3) sc_l_next.nd rfl (by first | exact Or.inl rfl | exact Or.inr rfl) (pe_ix (ix_listK K rfl) (pe_ix (ix_listK K rfl) (pv 0) pe_int (fun _ _ => rfl)) (pe_op op_sub (pe_ix (ix_listK K rfl) (pv 0) pe_int (fun _ _ => rfl)) pe_int) (fun _ _ => rfl)))
      (pss_cons (ps_asg (pe_ifExp (pt_cmpR op_ge (pv 3) (pe_op op_pow pe_int pe_int) (nomark _)) (pe_op op_fdiv (pv 3) (pv 1)) pe_int) (pg_sub (pv 0) pe_int set_list))
      (pss_one (ps_ret (pe_op op_mod (pv 3) (pv 1)))))) pss_nil)
      (pss_cons (ps_asg (pe_op op_mod (pe_op op_mul (pe_ix (ix_listK K rfl) (pv 0) pe_int (fun _ _ => rfl)) pe_int) pe_int) (pg_sub (pv 0) pe_int set_list))
      (pss_one (ps_ret (pe_op op_mod (pe_op op_fdiv (pe_ix (ix_listK K rfl) (pv 0) pe_int (fun _ _ => rfl)) pe_int) (pv 1)))))))), ?_⟩
    have N : Now K none [d] H H [⟨true, d, dO a i m r⟩] [] := .start (by simp) (by simp [hd, Mut]) (by simp) (by simp)
    have fin : ∀ (i' m' r' : Int) (H' : Hp) (v : Int), Now K none [d] H H' [⟨true, d, dO a i' m' r'⟩] [] → 0 ≤ i' → 0 ≤ m' → m' < 2147483647 → 0 ≤ v → v < n → Q (.int v) H' := fun i' m' r' H' v N' e1 e2 e3 e4 e5 =>
      k v H' N'.af ⟨a, ns, i', m', r', N'.cell 0 rfl, hS.keep N'.af, hl, e1, e2, e3⟩ e4 e5
    have b1 : ∀ z : Int, 0 ≤ z % n := fun z => Int.emod_nonneg z (by omega)
    have b2 : ∀ z : Int, z % n < n := fun z => Int.emod_lt_of_pos z h0
    walk_at "go"
    refine c_ifd (fun c1 => ?_) (fun c1 => ?_)
    · walk_at "k"
      exact fin i m (r / n) _ _ (by assumption) hi hm0 hm1 (b1 _) (b2 _)
    · walk_at "k"
      refine c_ifd (fun c2 => ?_) (fun c2 => ?_)
      · rw [List.length_map] at c2
        have e : (i + 1 - 1 : Int) = ((i.toNat : Nat) : Int) := by omega
        have lt : i.toNat < ns.length := by omega
        have at_ : atI (ns.map V.int) (i + 1 - 1) = some (V.int ns[i.toNat]) := at_of e (by rw [List.getElem?_map, List.getElem?_eq_getElem lt]; rfl)
        walk_at "k"
        refine g_ixL (xs := ns.map V.int) (v := V.int ns[i.toNat]) (by walk_at "sq") at_ ?_
        walk_at "k"
        refine c_ifE (fun c3 => ?_) (fun c3 => ?_)
        · walk_at "k"
          exact fin (i + 1) m (ns[i.toNat] / n) _ _ (by assumption) (by omega) hm0 hm1 (b1 _) (b2 _)
        · walk_at "k"
          exact fin (i + 1) m 0 _ _ (by assumption) (by omega) hm0 hm1 (b1 _) (b2 _)
      · walk_at "k"
        exact fin (i + 1) (m * 48271 % 2147483647) r _ _ (by assumption) (by omega) (Int.emod_nonneg _ (by decide)) (Int.emod_lt_of_pos _ (by decide)) (b1 _) (b2 _)
end
/-! ### settings, marks, bits as they should be -/
abbrev StV (m w l a : Int) : List V := [.int m, .int w, .int l, .int a]
def OkS (m w l a : Int) : Prop := (2 ≤ m ∧ m ≤ 64) ∧ (0 ≤ w ∧ w ≤ 16) ∧ (0 ≤ l ∧ l ≤ 8) ∧ (1 ≤ a ∧ a ≤ 16)
section
variable {P : Program} {w : World} {K : PySem.W.Frag} {mg : Str → Option Value} {base : Heap} {aL aM : Addr}
theorem sc_need_setting : FnScope ["setting", "at"] ["setting"] (defScope s_need_setting) := ⟨rfl, rfl, rfl, by decide +kernel, rfl, by decide +kernel, by decide +kernel⟩
theorem bd_need_setting : Bd "need_setting" "need_setting" s_need_setting ["setting"] := fun _ _ _ _ _ _ us hl => match us, hl with | [_], _ => rfl
def spNeedS : Sp := fun vs H Q _ => ∃ (t : Addr) (m w l a : Int), vs = [.ref t] ∧ H t = some (.tup (StV m w l a)) ∧ OkS m w l a ∧ Q .non H
theorem ok_needS (F : Def K mg "need_setting" s_need_setting) (B : Bt mg) (CL : Cst K mg "LEAST" aL (StV 2 0 0 1)) (CM : Cst K mg "MOST" aM (StV 64 16 8 16)) : Cal P w K mg base CX0 1 "need_setting" ["setting"] spNeedS := by
  refine F.ok sc_need_setting bd_need_setting (fun vs H Q E h => ?_) (fun f cdv A outer s H vs Q E hr h => ?_)
  · obtain ⟨t, m, w, l, a, rfl, _⟩ := h
    rfl
  · obtain ⟨t, m, w, l, a, rfl, ht, ⟨⟨h1, h2⟩, ⟨h3, h4⟩, ⟨h5, h6⟩, h7, h8⟩, k⟩ := h
    have g_LEAST := CL.g
    have g_MOST := CM.g
    refine ⟨_, PSs.nox (pss_one (ps_for PassesOwn.never rfl (pi_range1 (by rfl) B.m_range (pa_cons pe_int pa_nil)) (pg_name (i := 1) sc_need_setting.nd rfl (by first | exact Or.inl rfl | exact Or.inr rfl))
      (pss_one (ps_if (pt_not (pt_chain op_le op_le (pe_ix (ix_tupK K rfl) (pe_gref (by rfl) g_LEAST) (pv 1) (fun _ _ => rfl)) (pe_ix (ix_tupK K rfl) (pv 0) (pv 1) (fun _ _ => rfl)) (pe_ix (ix_tupK K rfl) (pe_gref (by rfl) g_MOST) (pv 1) (fun _ _ => rfl)))) (pss_one ps_never) pss_nil)))), ?_⟩
    walk_at "go"
    refine c_forR (by decide) (fun i σ H' => ∃ x, σ = [some (.ref t), x] ∧ H' = H) ⟨_, rfl, rfl⟩ ?_ ?_
    · rintro i σ H' hi ⟨x, rfl, rfl⟩
      have hq : SqT K H' t (StV m w l a) := .of ht
      have : i = 0 ∨ i = 1 ∨ i = 2 ∨ i = 3 := by omega
      rcases this with rfl | rfl | rfl | rfl
      · walk_at "k"
        exact ⟨_, rfl, rfl⟩
      · walk_at "k"
        exact ⟨_, rfl, rfl⟩
      · walk_at "k"
        exact ⟨_, rfl, rfl⟩
      · walk_at "k"
        exact ⟨_, rfl, rfl⟩
    · rintro σ H' ⟨x, rfl, rfl⟩
      walk_at "k"
      exact k
theorem sc_need_mark : FnScope ["setting", "mark"] ["setting", "mark"] (defScope s_need_mark) := ⟨rfl, rfl, rfl, by decide +kernel, rfl, by decide +kernel, by decide +kernel⟩
theorem bd_need_mark : Bd "need_mark" "need_mark" s_need_mark ["setting", "mark"] := fun _ _ _ _ _ _ us hl => match us, hl with | [_, _], _ => rfl
def spNeedM : Sp := fun vs H Q _ => ∃ (t : Addr) (m w l a n : Int), vs = [.ref t, .int n] ∧ H t = some (.tup (StV m w l a)) ∧ (0 ≤ n ∧ n < m) ∧ Q .non H
theorem ok_needM (F : Def K mg "need_mark" s_need_mark) (B : Bt mg) : Cal P w K mg base CX0 1 "need_mark" ["setting", "mark"] spNeedM := by
  refine F.ok sc_need_mark bd_need_mark (fun vs H Q E h => ?_) (fun f cdv A outer s H vs Q E hr h => ?_)
  · obtain ⟨t, m, w, l, a, n, rfl, _⟩ := h
    rfl
  · obtain ⟨t, m, w, l, a, n, rfl, ht, ⟨h1, h2⟩, k⟩ := h
    refine ⟨_, PSs.nox (pss_one (ps_if (pt_not (pt_chain op_le op_lt pe_int (pv 1) (pe_ix (ix_tupK K rfl) (pv 0) pe_int (fun _ _ => rfl)))) (pss_one ps_never) pss_nil)), ?_⟩
    have hq : SqT K H t (StV m w l a) := .of ht
    walk_at "go"
    exact k
end
section
variable {P : Program} {w : World} {K : PySem.W.Frag} {mg : Str → Option Value} {base : Heap}
theorem sc_need_bits : FnScope ["setting", "told", "mark", "bits", "bit"] ["setting", "told"] (defScope s_need_bits) := ⟨rfl, rfl, rfl, by decide +kernel, rfl, by decide +kernel, by decide +kernel⟩
theorem bd_need_bits : Bd "need_bits" "need_bits" s_need_bits ["setting", "told"] := fun _ _ _ _ _ _ us hl => match us, hl with | [_, _], _ => rfl
def spNeedB : Sp := fun vs H Q _ => ∃ (t q b : Addr) (m w l a n : Int) (bs : List Int), vs = [.ref t, .ref q] ∧ H t = some (.tup (StV m w l a)) ∧ H q = some (.tup [.int n, .ref b]) ∧ H b = some (.tup (bs.map V.int)) ∧ (0 ≤ n ∧ n < m) ∧ (bs.length : Int) = w ∧ w ≤ 16 ∧ (∀ x ∈ bs, x = 0 ∨ x = 1) ∧ ∀ H', Aft [] H H' → Q .non H'
theorem ok_needB (F : Def K mg "need_bits" s_need_bits) (B : Bt mg) (c_need_mark : Cal P w K mg base CX0 1 "need_mark" ["setting", "mark"] spNeedM) : Cal P w K mg base CX0 2 "need_bits" ["setting", "told"] spNeedB := by
  refine F.ok sc_need_bits bd_need_bits (fun vs H Q E h => ?_) (fun f cdv A outer s H vs Q E hr h => ?_)
  · obtain ⟨t, q, b, m, w, l, a, n, bs, rfl, _⟩ := h
    rfl
  · obtain ⟨t, q, b, m, w, l, a, n, bs, rfl, ht, hq, hb, hn, hl, hw, h01, k⟩ := h
    refine ⟨_, PSs.nox (pss_cons (ps_asg (pv 1) (pg_tup rfl (pgs_cons (pg_name (i := 2) sc_need_bits.nd rfl (by first | exact Or.inl rfl | exact Or.inr rfl)) (pgs_cons (pg_name (i := 3) sc_need_bits.nd rfl (by first | exact Or.inl rfl | exact Or.inr rfl)) pgs_nil))))
      (pss_cons (ps_expr (pe_cal c_need_mark (hr.mono (by decide)) pass0 (pa_cons (pv 0) (pa_cons (pv 2) pa_nil))))
      (pss_one (ps_if (PW.pt (pw_or (pt_cmpR op_ne (pe_callB (cr_lnK K rfl) (by rfl) B.m_len (by decide +kernel) (pa_cons (pv 3) pa_nil)) (pe_ix (ix_tupK K rfl) (pv 0) pe_int (fun _ _ => rfl)) (nomark _)) (pw_or1 (pt_cmpR (op_neDK K rfl hr.units) (pe_lc (own := [("bit", 4)]) (g := (gName 4)) rfl sc_need_bits.nd (pi_tupK K rfl (pv 3)) (blkOk_by (own := [("bit", 4)]) (N := ["setting", "told", "mark", "bits", "bit"]) (sc := defScope s_need_bits) (by decide +kernel)) (fun _ _ _ _ _ => (pg_name (i := 4) sc_need_bits.nd rfl (by first | exact Or.inl rfl | exact Or.inr rfl))) (fun _ _ _ _ _ => (pts_one (pt_cmpR (op_notIn_seqK K rfl) (pv 4) (pe_tup (pa_cons pe_int (pa_cons pe_int pa_nil))) (by rfl)))) (fun _ _ _ _ _ => (pv 4))) (pe_lst pa_nil) (nomark _))))) (pss_one ps_never) pss_nil)))), ?_⟩
    have N : Now K none [] H H [] [(t, StV m w l a), (q, [.int n, .ref b]), (b, bs.map V.int)] := .start0 (by simp [ht, hq, hb])
    walk_at "go"
    refine ⟨t, m, w, l, a, n, rfl, ht, hn, ?_⟩
    walk_at "k"
    refine c_or (fun c => absurd (of_decide_eq_true c) (by rw [List.length_map]; omega)) (fun c => ?_)
    walk_at "k"
    refine c_lcT N (bs.map V.int) (fun i acc => acc = []) rfl (fun H' l' N' => .of (N'.tup 2 rfl)) (fun _ => rfl) (fun i x Dd H2 acc hx N2 r => ?_) (fun p H2 acc N2 r => ?_)
    · subst r
      rw [List.getElem?_map] at hx
      obtain ⟨z, hz, rfl⟩ := Option.map_eq_some_iff.mp hx
      have z01 := h01 z (List.mem_of_getElem? hz)
      walk_at "k"
      rename_i tp H3 N3
      refine g_ninI (ns := [0, 1]) (.inr (.of (N3.tup 0 rfl))) ?_
      walk_at "k"
      refine c_el (fun c => absurd (of_decide_eq_true c) (by rcases z01 with e | e <;> simp [e])) (fun c => ?_)
      exact ⟨[], N3.subT _ (by simp), rfl⟩
    · subst r
      walk_at "k"
      rename_i ep H3 N3
      refine g_neL (m := []) (n := []) (.of (N3.cell 1 rfl)) (.of (N3.cell 0 rfl)) ?_
      walk_at "k"
      refine c_ifdF (fun q => q rfl) ?_
      walk_at "k"
      exact k _ N3.af
end
/-! ### a setting by the dice -/
section
variable {P : Program} {w : World} {K : PySem.W.Frag} {mg : Str → Option Value} {base : Heap}
theorem sc_l_setting : FnScope ["_law_d", "_law_late", "_law_ahead", "_law_wide", "_law_marks"] ["_law_d"] (defScope s_l_setting) := ⟨rfl, rfl, rfl, by decide +kernel, rfl, by decide +kernel, by decide +kernel⟩
theorem bd_l_setting : Bd "_law_setting" "_law_setting" s_l_setting ["_law_d"] := fun _ _ _ _ _ _ us hl => match us, hl with | [_], _ => rfl
def spSetting (K : PySem.W.Frag) : Sp := fun vs H Q _ => ∃ d, vs = [.ref d] ∧ Dice K H d ∧ ∀ (t : Addr) (m w l a : Int) H', Aft [d] H H' → Dice K H' d → H' t = some (.tup (StV m w l a)) → OkS m w l a → Q (.ref t) H'
theorem ok_setting (F : Def K mg "_law_setting" s_l_setting) (B : Bt mg) (c_l_next : Cal P w K mg base CX0 1 "_law_next" ["_law_dice_here", "_law_many"] (spNext K)) : Cal P w K mg base CX0 2 "_law_setting" ["_law_d"] (spSetting K) := by
  refine F.ok sc_l_setting bd_l_setting (fun vs H Q E h => ?_) (fun f cdv A outer s H vs Q E hr h => ?_)
  · obtain ⟨d, rfl, _⟩ := h
    rfl
  · obtain ⟨d, rfl, hD, k⟩ := h
    refine ⟨_, PSs.nox (pss_cons (ps_set (i := 1) sc_l_setting.nd rfl (by first | exact Or.inl rfl | exact Or.inr rfl) (pe_ix (ix_listK K rfl) (pe_lst (pa_cons (pe_cal c_l_next (hr.mono (by decide)) pass0 (pa_cons (pv 0) (pa_cons pe_int pa_nil))) (pa_cons (pe_cal c_l_next (hr.mono (by decide)) pass0 (pa_cons (pv 0) (pa_cons pe_int pa_nil))) pa_nil))) (pe_cal c_l_next (hr.mono (by decide)) pass0 (pa_cons (pv 0) (pa_cons pe_int pa_nil))) (fun _ _ => rfl)))
      (pss_cons (ps_set (i := 2) sc_l_setting.nd rfl (by first | exact Or.inl rfl | exact Or.inr rfl) (pe_op op_add pe_int (pe_ix (ix_listK K rfl) (pe_lst (pa_cons (pe_cal c_l_next (hr.mono (by decide)) pass0 (pa_cons (pv 0) (pa_cons pe_int pa_nil))) (pa_cons (pe_cal c_l_next (hr.mono (by decide)) pass0 (pa_cons (pv 0) (pa_cons pe_int pa_nil))) pa_nil))) (pe_cal c_l_next (hr.mono (by decide)) pass0 (pa_cons (pv 0) (pa_cons pe_int pa_nil))) (fun _ _ => rfl))))
      (pss_cons (ps_set (i := 3) sc_l_setting.nd rfl (by first | exact Or.inl rfl | exact Or.inr rfl) (pe_ix (ix_listK K rfl) (pe_lst (pa_cons (pe_cal c_l_next (hr.mono (by decide)) pass0 (pa_cons (pv 0) (pa_cons pe_int pa_nil))) (pa_cons (pe_cal c_l_next (hr.mono (by decide)) pass0 (pa_cons (pv 0) (pa_cons pe_int pa_nil))) pa_nil))) (pe_cal c_l_next (hr.mono (by decide)) pass0 (pa_cons (pv 0) (pa_cons pe_int pa_nil))) (fun _ _ => rfl)))
      (pss_cons (ps_set (i := 4) sc_l_setting.nd rfl (by first | exact Or.inl rfl | exact Or.inr rfl) (pe_op op_add (pe_op op_add (pv 1) (pv 2)) (pe_ix (ix_listK K rfl) (pe_lst (pa_cons pe_int (pa_cons pe_int (pa_cons pe_int (pa_cons pe_int (pa_cons (pe_op op_sub (pe_cal c_l_next (hr.mono (by decide)) pass0 (pa_cons (pv 0) (pa_cons pe_int pa_nil))) pe_int) pa_nil)))))) (pe_cal c_l_next (hr.mono (by decide)) pass0 (pa_cons (pv 0) (pa_cons pe_int pa_nil))) (fun _ _ => rfl))))
      (pss_cons (ps_set (i := 4) sc_l_setting.nd rfl (by first | exact Or.inl rfl | exact Or.inr rfl) (pe_ix (ix_listK K rfl) (pe_lst (pa_cons (pv 4) (pa_cons (pe_op op_add pe_int (pe_cal c_l_next (hr.mono (by decide)) pass0 (pa_cons (pv 0) (pa_cons pe_int pa_nil)))) (pa_cons pe_int pa_nil)))) (pe_callB (cr_max2 rfl) (by rfl) B.m_max (by decide +kernel) (pa_cons pe_int (pa_cons (pe_op op_sub (pe_cal c_l_next (hr.mono (by decide)) pass0 (pa_cons (pv 0) (pa_cons pe_int pa_nil))) pe_int) pa_nil))) (fun _ _ => rfl)))
      (pss_one (ps_ret (pe_tup (pa_cons (pe_callB (cr_min2 rfl) (by rfl) B.m_min (by decide +kernel) (pa_cons pe_int (pa_cons (pe_callB (cr_max2 rfl) (by rfl) B.m_max (by decide +kernel) (pa_cons pe_int (pa_cons (pv 4) pa_nil))) pa_nil))) (pa_cons (pv 3) (pa_cons (pv 1) (pa_cons (pv 2) pa_nil)))))))))))), ?_⟩
    have N : Now K (some d) [d] H H [] [] := .startD hD (by simp)
    walk_at "gon"
    rename_i N9
    refine k _ _ _ _ _ _ N9.af (N9.dc d rfl).1 (N9.tup 0 rfl) ?_
    unfold OkS
    omega
theorem sc_l_safe : FnScope ["_law_d", "_law_marks", "_law_wide", "_law_late", "_law_ahead"] ["_law_d"] (defScope s_l_safe) := ⟨rfl, rfl, rfl, by decide +kernel, rfl, by decide +kernel, by decide +kernel⟩
theorem bd_l_safe : Bd "_law_safe" "_law_safe" s_l_safe ["_law_d"] := fun _ _ _ _ _ _ us hl => match us, hl with | [_], _ => rfl
def spSafe (K : PySem.W.Frag) : Sp := fun vs H Q _ => ∃ d, vs = [.ref d] ∧ Dice K H d ∧ ∀ (t : Addr) (m w l a : Int) H', Aft [d] H H' → Dice K H' d → H' t = some (.tup (StV m w l a)) → OkS m w l a → l + a + 1 ≤ m → Q (.ref t) H'
theorem ok_safe (F : Def K mg "_law_safe" s_l_safe) (B : Bt mg) (c_l_setting : Cal P w K mg base CX0 2 "_law_setting" ["_law_d"] (spSetting K)) : Cal P w K mg base CX0 3 "_law_safe" ["_law_d"] (spSafe K) := by
  refine F.ok sc_l_safe bd_l_safe (fun vs H Q E h => ?_) (fun f cdv A outer s H vs Q E hr h => ?_)
  · obtain ⟨d, rfl, _⟩ := h
    rfl
  · obtain ⟨d, rfl, hD, k⟩ := h
    refine ⟨_, PSs.nox (pss_cons (ps_asg (pe_cal c_l_setting (hr.mono (by decide)) pass0 (pa_cons (pv 0) pa_nil)) (pg_tup rfl (pgs_cons (pg_name (i := 1) sc_l_safe.nd rfl (by first | exact Or.inl rfl | exact Or.inr rfl)) (pgs_cons (pg_name (i := 2) sc_l_safe.nd rfl (by first | exact Or.inl rfl | exact Or.inr rfl)) (pgs_cons (pg_name (i := 3) sc_l_safe.nd rfl (by first | exact Or.inl rfl | exact Or.inr rfl)) (pgs_cons (pg_name (i := 4) sc_l_safe.nd rfl (by first | exact Or.inl rfl | exact Or.inr rfl)) pgs_nil))))))
      (pss_one (ps_ret (pe_tup (pa_cons (pe_callB (cr_min2 rfl) (by rfl) B.m_min (by decide +kernel) (pa_cons pe_int (pa_cons (pe_callB (cr_max2 rfl) (by rfl) B.m_max (by decide +kernel) (pa_cons (pv 1) (pa_cons (pe_op op_add (pe_op op_add (pv 3) (pv 4)) pe_int) pa_nil))) pa_nil))) (pa_cons (pv 2) (pa_cons (pv 3) (pa_cons (pv 4) pa_nil)))))))), ?_⟩
    have N : Now K (some d) [d] H H [] [] := .startD hD (by simp)
    walk_at "gon"
    refine ⟨d, rfl, hD, fun t m w l a H1 A1 D1 ht hs => ?_⟩
    have N1 := (N.roll A1 D1).moreT ht
    clear N
    walk_at "kn"
    rename_i N9
    unfold OkS at hs
    refine k _ _ _ _ _ _ N9.af (N9.dc d rfl).1 (N9.tup 0 rfl) ?_ ?_
    · unfold OkS
      omega
    · omega
end
/-! ### what is told is what is due -/
section
variable {P : Program} {w : World} {K : PySem.W.Frag} {mg : Str → Option Value} {base : Heap}
theorem sc_l_like : FnScope ["_law_found", "_law_due", "_law_key", "_law_k"] ["_law_found", "_law_due"] (defScope s_l_like) := ⟨rfl, rfl, rfl, by decide +kernel, rfl, by decide +kernel, by decide +kernel⟩
theorem bd_l_like : Bd "_law_like" "_law_like" s_l_like ["_law_found", "_law_due"] := fun _ _ _ _ _ _ us hl => match us, hl with | [_, _], _ => rfl
theorem ok_like (F : Def K mg "_law_like" s_l_like) (B : Bt mg) : ∀ n : Nat, Cal P w K mg base CX0 (n + 1) "_law_like" ["_law_found", "_law_due"] (spLike K n)
  | 0 => cal_never F bd_l_like
  | n + 1 => by
    have c_l_like := ok_like F B n
    refine F.ok sc_l_like bd_l_like (fun vs H Q E h => ?_) (fun f cdv A outer s H vs Q E hr h => ?_)
    · obtain ⟨x, y, d, rfl, _⟩ := h
      rfl
    · obtain ⟨x, y, d, rfl, hx, hy, hn, k⟩ := h
      refine ⟨_, PSs.nox (pss_cons (ps_if (pt_val (pe_callB (call_isiQ K rfl) (by rfl) B.m_isinstance (by decide +kernel) (pa_cons (pv 1) (pa_cons (pe_bltn (v := .ty "bool") (by rfl) B.m_bool (by decide +kernel) rfl) pa_nil)))) (pss_one (ps_ret (pe_and (pe_callB (call_isiQ K rfl) (by rfl) B.m_isinstance (by decide +kernel) (pa_cons (pv 0) (pa_cons (pe_bltn (v := .ty "bool") (by rfl) B.m_bool (by decide +kernel) rfl) pa_nil))) (pe_one (pe_cmpR op_eq (pv 0) (pv 1) (nomark _)))))) pss_nil)
      (pss_cons (ps_if (pt_val (pe_callB (call_isiQ K rfl) (by rfl) B.m_isinstance (by decide +kernel) (pa_cons (pv 1) (pa_cons (pe_bltn (v := .ty "str") (by rfl) B.m_str (by decide +kernel) rfl) pa_nil)))) (pss_one (ps_ret (pe_and (pe_callB (call_isiQ K rfl) (by rfl) B.m_isinstance (by decide +kernel) (pa_cons (pv 0) (pa_cons (pe_bltn (v := .ty "str") (by rfl) B.m_str (by decide +kernel) rfl) pa_nil))) (pe_one (pe_cmpR op_eq (pv 0) (pv 1) (nomark _)))))) pss_nil)
      (pss_cons (ps_if (pt_val (pe_callB (call_isiQ K rfl) (by rfl) B.m_isinstance (by decide +kernel) (pa_cons (pv 1) (pa_cons (pe_bltn (v := .ty "int") (by rfl) B.m_int (by decide +kernel) rfl) pa_nil)))) (pss_one (ps_ret (pe_and (pe_callB (call_isiQ K rfl) (by rfl) B.m_isinstance (by decide +kernel) (pa_cons (pv 0) (pa_cons (pe_bltn (v := .ty "int") (by rfl) B.m_int (by decide +kernel) rfl) pa_nil))) (pe_and (pe_not (pe_callB (call_isiQ K rfl) (by rfl) B.m_isinstance (by decide +kernel) (pa_cons (pv 0) (pa_cons (pe_bltn (v := .ty "bool") (by rfl) B.m_bool (by decide +kernel) rfl) pa_nil)))) (pe_one (pe_cmpR op_eq (pv 0) (pv 1) (nomark _))))))) pss_nil)
      (pss_cons (ps_if (pt_cmpR op_isNo (pv 1) pe_non (nomark _)) (pss_one (ps_ret (pe_cmpR op_isNo (pv 0) pe_non (nomark _)))) pss_nil)
      (pss_cons (ps_if (pt_val (pe_callB (call_isiQ K rfl) (by rfl) B.m_isinstance (by decide +kernel) (pa_cons (pv 1) (pa_cons (pe_bltn (v := .ty "dict") (by rfl) B.m_dict (by decide +kernel) rfl) pa_nil)))) (pss_cons ps_never
      (pss_one ps_never)) pss_nil)
      (pss_cons (ps_if (PW.pt (pw_or (pt_cmpR op_ne (pe_callB (call_isiQ K rfl) (by rfl) B.m_isinstance (by decide +kernel) (pa_cons (pv 1) (pa_cons (pe_bltn (v := .ty "tuple") (by rfl) B.m_tuple (by decide +kernel) rfl) pa_nil))) (pe_callB (call_isiQ K rfl) (by rfl) B.m_isinstance (by decide +kernel) (pa_cons (pv 0) (pa_cons (pe_bltn (v := .ty "tuple") (by rfl) B.m_tuple (by decide +kernel) rfl) pa_nil))) (nomark _)) (pw_or1 (pt_cmpR op_ne (pe_callB (call_isiQ K rfl) (by rfl) B.m_isinstance (by decide +kernel) (pa_cons (pv 1) (pa_cons (pe_bltn (v := .ty "list") (by rfl) B.m_list (by decide +kernel) rfl) pa_nil))) (pe_callB (call_isiQ K rfl) (by rfl) B.m_isinstance (by decide +kernel) (pa_cons (pv 0) (pa_cons (pe_bltn (v := .ty "list") (by rfl) B.m_list (by decide +kernel) rfl) pa_nil))) (nomark _))))) (pss_one (ps_ret pe_bl)) pss_nil)
      (pss_cons (ps_if (pt_cmpR op_ne (pe_callB (cr_lnK K rfl) (by rfl) B.m_len (by decide +kernel) (pa_cons (pv 0) pa_nil)) (pe_callB (cr_lnK K rfl) (by rfl) B.m_len (by decide +kernel) (pa_cons (pv 1) pa_nil)) (nomark _)) (pss_one (ps_ret pe_bl)) pss_nil)
      (pss_cons (ps_for PassesOwn.never rfl (pi_range1 (by rfl) B.m_range (pa_cons (pe_callB (cr_lnK K rfl) (by rfl) B.m_len (by decide +kernel) (pa_cons (pv 1) pa_nil)) pa_nil)) (pg_name (i := 3) sc_l_like.nd rfl (by first | exact Or.inl rfl | exact Or.inr rfl))
      (pss_one (ps_if (pt_not (pt_val (pe_cal c_l_like hr pass0 (pa_cons (pe_ix (ix_seqK K rfl) (pv 0) (pv 3) (fun _ _ => rfl)) (pa_cons (pe_ix (ix_seqK K rfl) (pv 1) (pv 3) (fun _ _ => rfl)) pa_nil))))) (pss_one (ps_ret pe_bl)) pss_nil)))
      (pss_one (ps_ret pe_bl)))))))))), ?_⟩
      have kn := k H .refl
      have loop : ∀ (p q : Addr) (xs ys : List V) (ds : List PyData), (SqL K H p xs ∨ SqT K H p xs) → (SqL K H q ys ∨ SqT K H q ys) → DpAll K H xs ds → DpAll K H ys ds → (∃ m, n = m + 1 ∧ ds.length ≤ 100000 ∧ ∀ d ∈ ds, dOk m d) →
          cForR (gName 3) (tIfS (tNot (tB (tCall (spLike K n) [] E0 (tCons (tOp (rIx K) (tVar 0) (tVar 3)) (tCons (tOp (rIx K) (tVar 1) (tVar 3)) tNil))))) (tRet (tC (V.bl false))) tNext)
            { nx := tRet (tC (V.bl true)) { nx := fun x H' => Q V.non H', rt := Q }, rt := Q } [some (V.ref p), some (V.ref q), none, none] [V.int (ys.length : Int)] H := by
        intro p q xs ys ds hp hq hxs hys ⟨m, e, hz, hd⟩
        subst e
        have l1 := dpa_len hxs
        have l2 := dpa_len hys
        refine c_forR (by omega) (fun i σ H' => ∃ z, σ = [some (V.ref p), some (V.ref q), none, z] ∧ Aft [] H H') ⟨_, rfl, .refl⟩ ?_ ?_
        · rintro i σ H' hi ⟨z, rfl, A⟩
          have hi' : i < ds.length := by omega
          obtain ⟨v, e1, d1⟩ := dpa_at hxs i hi'
          obtain ⟨u, e2, d2⟩ := dpa_at hys i hi'
          walk_at "k"
          refine g_ixQ (hp.imp A.sql A.sqt) (atI_nat e1) ?_
          walk_at "k"
          refine g_ixQ (hq.imp A.sql A.sqt) (atI_nat e2) ?_
          walk_at "k"
          refine ⟨v, u, ds[i], rfl, dp_keep A d1, dp_keep A d2, hd _ (List.getElem_mem hi'), fun H2 A2 => ?_⟩
          walk_at "k"
          exact ⟨_, rfl, A.trans A2⟩
        · rintro σ H' ⟨z, rfl, A⟩
          walk_at "k"
          exact k H' A
      cases d with
      | none =>
        cases hx
        cases hy
        walk_at "go"
        exact kn
      | bool b =>
        cases hx
        cases hy
        walk_at "go"
        exact kn
      | int b =>
        cases hx
        cases hy
        walk_at "go"
        exact kn
      | str b =>
        cases hx
        cases hy
        walk_at "go"
        exact kn
      | list ds =>
        cases hx with
        | @lst p xs _ h1 h2 =>
        cases hy with
        | @lst q ys _ h3 h4 =>
        have l1 := dpa_len h2
        have l2 := dpa_len h4
        have t1 := sql_ty h1
        have t2 := sql_ty h3
        walk_at "go"
        refine loop p q xs ys ds (.inl h1) (.inl h3) h2 h4 ?_
        cases n with
        | zero => exact hn.elim
        | succ m => exact ⟨m, rfl, hn⟩
      | tuple ds =>
        cases hx with
        | @tup p xs _ h1 h2 =>
        cases hy with
        | @tup q ys _ h3 h4 =>
        have l1 := dpa_len h2
        have l2 := dpa_len h4
        have t1 := sqt_ty h1
        have t2 := sqt_ty h3
        walk_at "go"
        refine loop p q xs ys ds (.inr h1) (.inr h3) h2 h4 ?_
        cases n with
        | zero => exact hn.elim
        | succ m => exact ⟨m, rfl, hn⟩
      | dict kvs => cases hx
end
/-! ### the law's own ear -/
structure OE where
  newest : Int
  came : List Int
abbrev kvE (n : Int) (cl : Addr) : List (Key × V) := [(Sum.inr "newest", .int n), (Sum.inr "came", .ref cl)]
abbrev oeC (o cl : Addr) (s : OE) : List Cel := [⟨true, o, .dK (kvE s.newest cl)⟩, ⟨true, cl, .lst (s.came.map V.int)⟩]
def OE.least (s : OE) (l : Int) : Int := max 0 (s.newest - l)
def OE.taken (s : OE) (m l k : Int) : Int := s.least l + (k - s.least l) % m
def OE.put (s : OE) (n : Int) : OE := ⟨max s.newest n, (s.came ++ [n]).filter fun x => decide (x ≥ max s.newest n - 20)⟩
def OE.come (s : OE) (w n : Int) : OE := if n < s.newest - w then s else if n ∈ s.came then s else s.put n
def OE.word (s : OE) (w n : Int) : Str := if n < s.newest - w then "old" else if n ∈ s.came then "again" else "new"
def OE.bits (s : OE) (w : Int) : List Int := (List.range w.toNat).map fun (k : Nat) => if s.newest - (1 + (k : Int)) ∈ s.came then 1 else 0
section
variable {P : Program} {w : World} {K : PySem.W.Frag} {mg : Str → Option Value} {base : Heap}
theorem sc_l_ear : FnScope [] [] (defScope s_l_ear) := ⟨rfl, rfl, rfl, by decide +kernel, rfl, by decide +kernel, by decide +kernel⟩
theorem bd_l_ear : Bd "_law_ear" "_law_ear" s_l_ear [] := fun _ _ _ _ _ _ us hl => match us, hl with | [], _ => rfl
def spOEar : Sp := fun vs H Q _ => vs = [] ∧ ∀ o cl H', Aftr [] (oeC o cl ⟨-1, []⟩) H H' → Q (.ref o) H'
theorem ok_OEar (F : Def K mg "_law_ear" s_l_ear) : Cal P w K mg base CX0 1 "_law_ear" [] spOEar := by
  refine F.ok sc_l_ear bd_l_ear (fun vs H Q E h => ?_) (fun f cdv A outer s H vs Q E hr h => ?_)
  · obtain ⟨rfl, _⟩ := h
    rfl
  · obtain ⟨rfl, k⟩ := h
    refine ⟨_, PSs.nox (pss_one (ps_ret (pe_disp (pps_cons pe_str (pe_un un_neg pe_int) (pps_cons pe_str (pe_lst pa_nil) pps_nil)) (by rfl) (by rfl) (fun z => by cases z) (by decide)))), ?_⟩
    have N : Now K none [] H H [] [] := .start0 (by simp)
    walk_at "gon"
    rename_i o H1 N1 cl H2 N2
    refine g_disp0 (N2.sel [1, 0] (l' := ⟨true, o, .dK []⟩ :: ⟨true, cl, .lst []⟩ :: []) rfl (by decide)) (kvs := kvE (-1) cl) rfl (Nat.le_of_ble_eq_true rfl) rfl fun H3 N3 => ?_
    walk_at "kn"
    exact k o cl _ (Now.done (fp := []) N3 (by simp))
theorem sc_l_taken : FnScope ["_law_setting_here", "_law_ear_here", "_law_mark", "_law_number"] ["_law_setting_here", "_law_ear_here", "_law_mark"] (defScope s_l_taken) := ⟨rfl, rfl, rfl, by decide +kernel, rfl, by decide +kernel, by decide +kernel⟩
theorem bd_l_taken : Bd "_law_taken" "_law_taken" s_l_taken ["_law_setting_here", "_law_ear_here", "_law_mark"] := fun _ _ _ _ _ _ us hl => match us, hl with | [_, _, _], _ => rfl
def spOTaken : Sp := fun vs H Q _ => ∃ (st o cl : Addr) (m w l a : Int) (s : OE) (n : Int), vs = [.ref st, .ref o, .int n] ∧ H st = some (.tup (StV m w l a)) ∧ H o = some (.dK (kvE s.newest cl)) ∧ 2 ≤ m ∧ (0 ≤ n ∧ n < m) ∧ Q (.int (s.taken m l n)) H
theorem ok_OTaken (F : Def K mg "_law_taken" s_l_taken) (B : Bt mg) : Cal P w K mg base CX0 1 "_law_taken" ["_law_setting_here", "_law_ear_here", "_law_mark"] spOTaken := by
  refine F.ok sc_l_taken bd_l_taken (fun vs H Q E h => ?_) (fun f cdv A outer s H vs Q E hr h => ?_)
  · obtain ⟨st, o, cl, m, w, l, a, s, n, rfl, _⟩ := h
    rfl
  · obtain ⟨st, o, cl, m, w, l, a, s, n, rfl, ht, ho, hm, hn, k⟩ := h
    refine ⟨_, PSs.nox (pss_cons (ps_set (i := 3) sc_l_taken.nd rfl (by first | exact Or.inl rfl | exact Or.inr rfl) (pe_callB (cr_max2 rfl) (by rfl) B.m_max (by decide +kernel) (pa_cons pe_int (pa_cons (pe_op op_sub (pe_dget (hu_of hr) (pv 1) pe_str (fun _ _ => rfl)) (pe_ix (ix_tupK K rfl) (pv 0) pe_int (fun _ _ => rfl))) pa_nil))))
      (pss_cons (ps_while PassesOwn.never (pt_cmpR op_ne (pe_op op_mod (pv 3) (pe_ix (ix_tupK K rfl) (pv 0) pe_int (fun _ _ => rfl))) (pv 2) (nomark _)) (pss_one (ps_set (i := 3) sc_l_taken.nd rfl (by first | exact Or.inl rfl | exact Or.inr rfl) (pe_op op_add (pv 3) pe_int))))
      (pss_one (ps_ret (pv 3))))), ?_⟩
    have hq : SqT K H st (StV m w l a) := .of ht
    walk_at "gon"
    refine k_while (fun i σ H' => σ = [some (.ref st), some (.ref o), some (.int n), some (.int (s.least l + (i : Int)))] ∧ H' = H) ((n - s.least l) % m).toNat ⟨?_, rfl⟩ ?_
    · show [_, _, _, some (V.int (max 0 (s.newest - l)))] = _
      unfold OE.least
      simp
    · rintro i σ H' hi ⟨rfl, rfl⟩
      have h0 := Int.emod_nonneg (n - s.least l) (show m ≠ 0 by omega)
      walk_at "kn"
      by_cases c : (i : Int) < (n - s.least l) % m
      · rw [decide_eq_true (least_ne (by omega) hn c)]
        refine c_whT (by omega) ?_
        walk_at "kn"
        refine ⟨?_, rfl⟩
        show [_, _, _, some (V.int (s.least l + (i : Int) + 1))] = _
        rw [show s.least l + (i : Int) + 1 = s.least l + ((i + 1 : Nat) : Int) by omega]
      · have e : (i : Int) = (n - s.least l) % m := by omega
        have e2 : (s.least l + (i : Int)) % m = n := by rw [e]; exact least_eq (by omega) hn
        rw [decide_eq_false (fun z => z e2)]
        refine c_whF ?_
        walk_at "kn"
        rw [e]
        exact k
theorem sc_l_come : FnScope ["_law_setting_here", "_law_ear_here", "_law_mark", "_law_number", "_law_one"] ["_law_setting_here", "_law_ear_here", "_law_mark"] (defScope s_l_come) := ⟨rfl, rfl, rfl, by decide +kernel, rfl, by decide +kernel, by decide +kernel⟩
theorem bd_l_come : Bd "_law_come" "_law_come" s_l_come ["_law_setting_here", "_law_ear_here", "_law_mark"] := fun _ _ _ _ _ _ us hl => match us, hl with | [_, _, _], _ => rfl
def spOCome : Sp := fun vs H Q _ => ∃ (st o cl : Addr) (m w l a : Int) (s : OE) (n : Int), vs = [.ref st, .ref o, .int n] ∧ H st = some (.tup (StV m w l a)) ∧ CelOk H (oeC o cl s) ∧ 2 ≤ m ∧ (0 ≤ n ∧ n < m) ∧ s.came.length ≤ 50000 ∧
  ∀ t cl' H', Aftr (oeC o cl s) (oeC o cl' (s.come w (s.taken m l n))) H H' → H' t = some (.tup [.int (s.taken m l n), .str (s.word w (s.taken m l n))]) → Q (.ref t) H'
theorem ok_OCome (F : Def K mg "_law_come" s_l_come) (B : Bt mg) (c_l_taken : Cal P w K mg base CX0 1 "_law_taken" ["_law_setting_here", "_law_ear_here", "_law_mark"] spOTaken) : Cal P w K mg base CX0 2 "_law_come" ["_law_setting_here", "_law_ear_here", "_law_mark"] spOCome := by
  refine F.ok sc_l_come bd_l_come (fun vs H Q E h => ?_) (fun f cdv A outer s H vs Q E hr h => ?_)
  · obtain ⟨st, o, cl, m, w, l, a, s, n, rfl, _⟩ := h
    rfl
  · obtain ⟨st, o, cl, m, w, l, a, s, n, rfl, ht, hc, hm, hn, hlen, k⟩ := h
    refine ⟨_, PSs.nox (pss_cons (ps_set (i := 3) sc_l_come.nd rfl (by first | exact Or.inl rfl | exact Or.inr rfl) (pe_cal c_l_taken (hr.mono (by decide)) pass0 (pa_cons (pv 0) (pa_cons (pv 1) (pa_cons (pv 2) pa_nil)))))
      (pss_cons (ps_if (pt_cmpR op_lt (pv 3) (pe_op op_sub (pe_dget (hu_of hr) (pv 1) pe_str (fun _ _ => rfl)) (pe_ix (ix_tupK K rfl) (pv 0) pe_int (fun _ _ => rfl))) (nomark _)) (pss_one (ps_ret (pe_tup (pa_cons (pv 3) (pa_cons pe_str pa_nil))))) pss_nil)
      (pss_cons (ps_if (pt_cmpR (op_in_seqK K rfl) (pv 3) (pe_dget (hu_of hr) (pv 1) pe_str (fun _ _ => rfl)) (by rfl)) (pss_one (ps_ret (pe_tup (pa_cons (pv 3) (pa_cons pe_str pa_nil))))) pss_nil)
      (pss_cons (ps_dput (hu_of hr) (pv 1) pe_str (pe_callB (cr_max2 rfl) (by rfl) B.m_max (by decide +kernel) (pa_cons (pe_dget (hu_of hr) (pv 1) pe_str (fun _ _ => rfl)) (pa_cons (pv 3) pa_nil))) rfl)
      (pss_cons (ps_dput (hu_of hr) (pv 1) pe_str (pe_lc (own := [("_law_one", 4)]) (g := (gName 4)) rfl sc_l_come.nd (pi_listK K rfl (pe_op op_cat (pe_dget (hu_of hr) (pv 1) pe_str (fun _ _ => rfl)) (pe_lst (pa_cons (pv 3) pa_nil)))) (blkOk_by (own := [("_law_one", 4)]) (N := ["_law_setting_here", "_law_ear_here", "_law_mark", "_law_number", "_law_one"]) (sc := defScope s_l_come) (by decide +kernel)) (fun _ _ _ _ _ => (pg_name (i := 4) sc_l_come.nd rfl (by first | exact Or.inl rfl | exact Or.inr rfl))) (fun _ _ _ _ _ => (pts_one (pt_cmpR op_ge (pv 4) (pe_op op_sub (pe_dget (hu_of hr) (pv 1) pe_str (fun _ _ => rfl)) pe_int) (nomark _)))) (fun _ _ _ _ _ => (pv 4))) rfl)
      (pss_one (ps_ret (pe_tup (pa_cons (pv 3) (pa_cons pe_str pa_nil)))))))))), ?_⟩
    have N : Now K none _ H H (oeC o cl s) [(st, StV m w l a)] := .begin hc (by simp [ht])
    walk_at "gon"
    refine ⟨st, o, cl, m, w, l, a, s, n, rfl, ht, N.cell 0 rfl, hm, hn, ?_⟩
    walk_at "kn"
    generalize s.taken m l n = z at *
    refine c_ifd (fun c => ?_) (fun c => ?_)
    · have e1 : s.come w z = s := if_pos c
      have e2 : s.word w z = "old" := if_pos c
      walk_at "kn"
      rename_i t H2 N2
      exact k t cl _ (by rw [e1]; exact Now.done N2 (by simp)) (by rw [e2]; exact N2.tup 0 rfl)
    · walk_at "kn"
      refine c_ifd (fun d => ?_) (fun d => ?_)
      · have e1 : s.come w z = s := (if_neg c).trans (if_pos d)
        have e2 : s.word w z = "again" := (if_neg c).trans (if_pos d)
        walk_at "kn"
        rename_i t H2 N2
        exact k t cl _ (by rw [e1]; exact Now.done N2 (by simp)) (by rw [e2]; exact N2.tup 0 rfl)
      · have e1 : s.come w z = s.put z := (if_neg c).trans (if_neg d)
        have e2 : s.word w z = "new" := (if_neg c).trans (if_neg d)
        walk_at "kn"
        refine g_dputS0 N (Nat.le_of_ble_eq_true rfl) (kvs' := kvE (max s.newest z) cl) rfl fun H2 N2 => ?_
        walk_at "kn"
        rename_i p1 H3 N3 p2 H4 N4
        have ey : s.came.map V.int ++ [V.int z] = (s.came ++ [z]).map V.int := by rw [List.map_append]; rfl
        rw [ey] at N4
        have ll : (s.came ++ [z]).length ≤ 50001 := by rw [List.length_append]; exact Nat.add_le_add_right hlen 1
        refine c_lc N4 ((s.came ++ [z]).map V.int) (fun i acc => acc = (((s.came ++ [z]).take i).filter fun x => decide (x ≥ max s.newest z - 20)).map V.int) rfl (fun H' Dd acc N' => .of (N'.cell 1 rfl)) (fun _ => rfl) (fun i x Dd H5 acc hx N5 r => ?_) (fun pf H5 acc N5 r => ?_) (.of (N4.cell 0 rfl))
        · rw [List.getElem?_map] at hx
          obtain ⟨y, hy, rfl⟩ := Option.map_eq_some_iff.mp hx
          have la : acc.length ≤ 50001 := by
            rw [r, List.length_map]
            exact Nat.le_trans filt_len ll
          walk_at "kn"
          refine c_el (fun c => ?_) (fun c => ?_)
          · walk_at "kn"
            refine c_put N5 (by omega) ?_
            show acc ++ [V.int y] = _
            rw [r, filt_snoc hy, if_pos c, List.map_append]
            rfl
          · refine ⟨acc, N5, ?_⟩
            show acc = _
            rw [r, filt_snoc hy, if_neg (fun q => by rw [show decide (y ≥ max s.newest z - 20) = _ from c] at q; cases q)]
        · rw [List.length_map, List.take_length] at r
          subst r
          have N6 := N5.sel [3, 0, 1, 2, 4] (l' := ⟨true, o, .dK (kvE (max s.newest z) cl)⟩ :: ⟨true, pf, .lst ((s.put z).came.map V.int)⟩ :: ⟨true, p2, .lst ((s.came ++ [z]).map V.int)⟩ :: ⟨true, p1, .lst [V.int z]⟩ :: ⟨true, cl, .lst (s.came.map V.int)⟩ :: []) rfl (by decide)
          clear N5
          walk_at "kn"
          refine g_dputS0 N6 (Nat.le_of_ble_eq_true rfl) (kvs' := kvE (max s.newest z) pf) rfl fun H7 N7 => ?_
          walk_at "kn"
          rename_i t H8 N8
          exact k t pf _ (by rw [e1]; exact Now.done (N8.sel [0, 1] rfl (by decide)) (by simp)) (by rw [e2]; exact N8.tup 0 rfl)
theorem sc_l_tell : FnScope ["_law_setting_here", "_law_ear_here", "_law_bits", "_law_far"] ["_law_setting_here", "_law_ear_here"] (defScope s_l_tell) := ⟨rfl, rfl, rfl, by decide +kernel, rfl, by decide +kernel, by decide +kernel⟩
theorem bd_l_tell : Bd "_law_tell" "_law_tell" s_l_tell ["_law_setting_here", "_law_ear_here"] := fun _ _ _ _ _ _ us hl => match us, hl with | [_, _], _ => rfl
def spOTell : Sp := fun vs H Q _ => ∃ (st o cl : Addr) (m w l a : Int) (s : OE), vs = [.ref st, .ref o] ∧ H st = some (.tup (StV m w l a)) ∧ CelOk H (oeC o cl s) ∧ 2 ≤ m ∧ (0 ≤ w ∧ w ≤ 16) ∧
  ∀ t b H', Aft [] H H' → H' t = some (.tup [.int (s.newest % m), .ref b]) → H' b = some (.tup ((s.bits w).map V.int)) → Q (.ref t) H'
theorem ok_OTell (F : Def K mg "_law_tell" s_l_tell) (B : Bt mg) : Cal P w K mg base CX0 1 "_law_tell" ["_law_setting_here", "_law_ear_here"] spOTell := by
  refine F.ok sc_l_tell bd_l_tell (fun vs H Q E h => ?_) (fun f cdv A outer s H vs Q E hr h => ?_)
  · obtain ⟨st, o, cl, m, w, l, a, s, rfl, _⟩ := h
    rfl
  · obtain ⟨st, o, cl, m, w, l, a, s, rfl, ht, hc, hm, hw, k⟩ := h
    refine ⟨_, PSs.nox (pss_cons (ps_set (i := 2) sc_l_tell.nd rfl (by first | exact Or.inl rfl | exact Or.inr rfl) (pe_lst pa_nil))
      (pss_cons (ps_for PassesOwn.never rfl (pi_range2 (by rfl) B.m_range (pa_cons pe_int (pa_cons (pe_op op_add (pe_ix (ix_tupK K rfl) (pv 0) pe_int (fun _ _ => rfl)) pe_int) pa_nil))) (pg_name (i := 3) sc_l_tell.nd rfl (by first | exact Or.inl rfl | exact Or.inr rfl))
      (pss_one (ps_expr (pe_bmK K rfl PySem.F.plainAttrs_list PySem.F.slot_list_append PySem.F.type_list_append mt_append (pv 2) (pa_cons (pe_callTy cr_intB (by rfl) B.m_int (by decide +kernel) (pa_cons (pe_cmpR (op_in_seqK K rfl) (pe_op op_sub (pe_dget (hu_of hr) (pv 1) pe_str (fun _ _ => rfl)) (pv 3)) (pe_dget (hu_of hr) (pv 1) pe_str (fun _ _ => rfl)) (by rfl)) pa_nil)) pa_nil)))))
      (pss_one (ps_ret (pe_tup (pa_cons (pe_op op_mod (pe_dget (hu_of hr) (pv 1) pe_str (fun _ _ => rfl)) (pe_ix (ix_tupK K rfl) (pv 0) pe_int (fun _ _ => rfl))) (pa_cons (pe_callTy (cr_tupLK K rfl) (by rfl) B.m_tuple (by decide +kernel) (pa_cons (pv 2) pa_nil)) pa_nil))))))), ?_⟩
    have N : Now K none [] H H ((oeC o cl s).map Cel.ro) [(st, StV m w l a)] := .read hc (by simp [ht])
    walk_at "gon"
    rename_i bl H1 N1
    refine c_forR2 (by omega) (fun i σ H' => ∃ x, σ = [some (.ref st), some (.ref o), some (.ref bl), x] ∧ Now K none [] H H' (⟨true, bl, .lst (((List.range i).map fun (k : Nat) => (if s.newest - (1 + (k : Int)) ∈ s.came then (1 : Int) else 0)).map V.int)⟩ :: (oeC o cl s).map Cel.ro) [(st, StV m w l a)]) ⟨_, rfl, N1⟩ ?_ ?_
    · rintro i σ H2 hi ⟨x, rfl, N2⟩
      walk_at "kn"
      refine g_app0 N2 (by rw [List.length_map, List.length_map, List.length_range]; omega) fun H3 N3 => ?_
      refine ⟨_, rfl, ?_⟩
      rw [List.range_succ, List.map_append, List.map_append]
      have e : (if decide (s.newest - (1 + (i : Int)) ∈ s.came) = true then (1 : Int) else 0) = if s.newest - (1 + (i : Int)) ∈ s.came then 1 else 0 := by simp only [decide_eq_true_eq]
      rw [e] at N3
      exact N3
    · rintro σ H2 ⟨x, rfl, N2⟩
      have e : (w + 1 - 1).toNat = w.toNat := by omega
      rw [e] at N2
      have N2 : Now K none [] H H2 (⟨true, bl, .lst ((s.bits w).map V.int)⟩ :: (oeC o cl s).map Cel.ro) [(st, StV m w l a)] := N2
      walk_at "kn"
      rename_i b H3 N3 t H4 N4
      exact k t b _ N4.af (N4.tup 0 rfl) (N4.tup 1 rfl)
end
/-! ### the law's own mouth -/
structure OM where
  sent : Int
  sure : List Int
abbrev kvM (n : Int) (sl : Addr) : List (Key × V) := [(Sum.inr "sent", .int n), (Sum.inr "sure", .ref sl)]
abbrev omC (o sl : Addr) (s : OM) : List Cel := [⟨true, o, .dK (kvM s.sent sl)⟩, ⟨true, sl, .lst (s.sure.map V.int)⟩]
def OM.full (s : OM) (a : Int) : Bool := (-1 :: s.sure).all fun x => decide (s.sent > x + a)
def OM.number (s : OM) (m k : Int) : Int := s.sent - 1 - (s.sent - 1 - k) % m
def OM.far (s : OM) (m k : Int) (bs : List Int) (n : Nat) : List Int := ((List.range n).filter fun i => decide (bs.getD i 0 = 1)).map fun (i : Nat) => s.number m k - (1 + (i : Int))
def OM.some (s : OM) (m w k : Int) (bs : List Int) : List Int := s.number m k :: s.far m k bs w.toNat
def OM.found (s : OM) (m w k : Int) (bs : List Int) : List Int := srt ((s.some m w k bs).filter fun x => decide (x ∉ s.sure))
def OM.hear (s : OM) (m w k : Int) (bs : List Int) : OM := ⟨s.sent, srt (s.sure ++ s.found m w k bs)⟩
theorem ofar_len (s : OM) (m k : Int) (bs : List Int) (n : Nat) : (s.far m k bs n).length ≤ n := by
  unfold OM.far
  rw [List.length_map]
  exact Nat.le_trans (List.length_filter_le _ _) (by rw [List.length_range]; exact Nat.le_refl _)
section
variable {P : Program} {w : World} {K : PySem.W.Frag} {mg : Str → Option Value} {base : Heap}
theorem sc_l_mouth : FnScope [] [] (defScope s_l_mouth) := ⟨rfl, rfl, rfl, by decide +kernel, rfl, by decide +kernel, by decide +kernel⟩
theorem bd_l_mouth : Bd "_law_mouth" "_law_mouth" s_l_mouth [] := fun _ _ _ _ _ _ us hl => match us, hl with | [], _ => rfl
def spOMouth : Sp := fun vs H Q _ => vs = [] ∧ ∀ o sl H', Aftr [] (omC o sl ⟨0, []⟩) H H' → Q (.ref o) H'
theorem ok_OMouth (F : Def K mg "_law_mouth" s_l_mouth) : Cal P w K mg base CX0 1 "_law_mouth" [] spOMouth := by
  refine F.ok sc_l_mouth bd_l_mouth (fun vs H Q E h => ?_) (fun f cdv A outer s H vs Q E hr h => ?_)
  · obtain ⟨rfl, _⟩ := h
    rfl
  · obtain ⟨rfl, k⟩ := h
    refine ⟨_, PSs.nox (pss_one (ps_ret (pe_disp (pps_cons pe_str pe_int (pps_cons pe_str (pe_lst pa_nil) pps_nil)) (by rfl) (by rfl) (fun z => by cases z) (by decide)))), ?_⟩
    have N : Now K none [] H H [] [] := .start0 (by simp)
    walk_at "gon"
    rename_i o H1 N1 cl H2 N2
    refine g_disp0 (N2.sel [1, 0] (l' := ⟨true, o, .dK []⟩ :: ⟨true, cl, .lst []⟩ :: []) rfl (by decide)) (kvs := kvM 0 cl) rfl (Nat.le_of_ble_eq_true rfl) rfl fun H3 N3 => ?_
    walk_at "kn"
    exact k o cl _ (Now.done (fp := []) N3 (by simp))
theorem sc_l_is_full : FnScope ["_law_setting_here", "_law_mouth_here"] ["_law_setting_here", "_law_mouth_here"] (defScope s_l_is_full) := ⟨rfl, rfl, rfl, by decide +kernel, rfl, by decide +kernel, by decide +kernel⟩
theorem bd_l_is_full : Bd "_law_is_full" "_law_is_full" s_l_is_full ["_law_setting_here", "_law_mouth_here"] := fun _ _ _ _ _ _ us hl => match us, hl with | [_, _], _ => rfl
def spOFull : Sp := fun vs H Q _ => ∃ (st o sl : Addr) (m w l a : Int) (s : OM), vs = [.ref st, .ref o] ∧ H st = some (.tup (StV m w l a)) ∧ CelOk H (omC o sl s) ∧ s.sure.length ≤ 50000 ∧ ∀ H', Aft [] H H' → Q (.bl (s.full a)) H'
theorem ok_OFull (F : Def K mg "_law_is_full" s_l_is_full) (B : Bt mg) : Cal P w K mg base CX0 1 "_law_is_full" ["_law_setting_here", "_law_mouth_here"] spOFull := by
  refine F.ok sc_l_is_full bd_l_is_full (fun vs H Q E h => ?_) (fun f cdv A outer s H vs Q E hr h => ?_)
  · obtain ⟨st, o, sl, m, w, l, a, s, rfl, _⟩ := h
    rfl
  · obtain ⟨st, o, sl, m, w, l, a, s, rfl, ht, hc, hlen, k⟩ := h
    refine ⟨_, PSs.nox (pss_one (ps_ret (pe_cmpR op_gt (pe_dget (hu_of hr) (pv 1) pe_str (fun _ _ => rfl)) (pe_op op_add (pe_callB (cr_maxLK K rfl rfl) (by rfl) B.m_max (by decide +kernel) (pa_cons (pe_op op_cat (pe_lst (pa_cons (pe_un un_neg pe_int) pa_nil)) (pe_dget (hu_of hr) (pv 1) pe_str (fun _ _ => rfl))) pa_nil)) (pe_ix (ix_tupK K rfl) (pv 0) pe_int (fun _ _ => rfl))) (nomark _)))), ?_⟩
    have N : Now K none [] H H ((omC o sl s).map Cel.ro) [(st, StV m w l a)] := .read hc (by simp [ht])
    walk_at "gon"
    rename_i p1 H1 N1 p2 H2 N2
    refine g_maxL (ns := -1 :: s.sure) (.of (by rw [N2.cell 0 rfl]; rfl)) (by simp) fun mx h1 h2 => ?_
    walk_at "kn"
    have e : decide (s.sent > mx + a) = s.full a := by
      unfold OM.full
      rw [Bool.eq_iff_iff, List.all_eq_true, decide_eq_true_eq]
      constructor
      · intro z x hx
        have := h2 x hx
        exact decide_eq_true (by omega)
      · intro z
        exact of_decide_eq_true (z mx h1)
    have e2 : decide (mx + a < s.sent) = s.full a := e
    rw [e2]
    exact k _ N2.af
theorem sc_l_hear : FnScope ["_law_setting_here", "_law_mouth_here", "_law_told_here", "_law_number", "_law_some", "_law_far", "_law_found", "_law_one"] ["_law_setting_here", "_law_mouth_here", "_law_told_here"] (defScope s_l_hear) := ⟨rfl, rfl, rfl, by decide +kernel, rfl, by decide +kernel, by decide +kernel⟩
theorem bd_l_hear : Bd "_law_hear" "_law_hear" s_l_hear ["_law_setting_here", "_law_mouth_here", "_law_told_here"] := fun _ _ _ _ _ _ us hl => match us, hl with | [_, _, _], _ => rfl
def spOHear : Sp := fun vs H Q _ => ∃ (st o sl q b : Addr) (m w l a : Int) (s : OM) (n : Int) (bs : List Int), vs = [.ref st, .ref o, .ref q] ∧ H st = some (.tup (StV m w l a)) ∧ CelOk H (omC o sl s) ∧ H q = some (.tup [.int n, .ref b]) ∧ H b = some (.tup (bs.map V.int)) ∧ OkS m w l a ∧ s.sure.length ≤ 50000 ∧
  (0 ≤ n ∧ n < m) ∧ (bs.length : Int) = w ∧ ((∃ x ∈ s.some m w n bs, x < 0) → ∀ H', Aft [] H H' → Q .non H') ∧
  ((∀ x ∈ s.some m w n bs, 0 ≤ x) → ∀ (l sl' : Addr) H', H l = none → l ≠ sl' → Aftr (omC o sl s) (omC o sl' (s.hear m w n bs)) H H' → H' l = some (.lst ((s.found m w n bs).map V.int)) → Q (.ref l) H')
theorem ok_OHear (F : Def K mg "_law_hear" s_l_hear) (B : Bt mg) : Cal P w K mg base CX0 1 "_law_hear" ["_law_setting_here", "_law_mouth_here", "_law_told_here"] spOHear := by
  refine F.ok sc_l_hear bd_l_hear (fun vs H Q E h => ?_) (fun f cdv A outer s H vs Q E hr h => ?_)
  · obtain ⟨st, o, sl, q, b, m, w, l, a, s, n, bs, rfl, _⟩ := h
    rfl
  · obtain ⟨st, o, sl, q, b, m, w, l, a, s, n, bs, rfl, ht, hc, hq, hb, hok, hlen, hn, hbl, kn, kl⟩ := h
    unfold OkS at hok
    refine ⟨_, PSs.nox (pss_cons (ps_set (i := 3) sc_l_hear.nd rfl (by first | exact Or.inl rfl | exact Or.inr rfl) (pe_op op_sub (pe_dget (hu_of hr) (pv 1) pe_str (fun _ _ => rfl)) pe_int))
      (pss_cons (ps_while PassesOwn.never (pt_cmpR op_ne (pe_op op_mod (pv 3) (pe_ix (ix_tupK K rfl) (pv 0) pe_int (fun _ _ => rfl))) (pe_ix (ix_tupK K rfl) (pv 2) pe_int (fun _ _ => rfl)) (nomark _)) (pss_one (ps_set (i := 3) sc_l_hear.nd rfl (by first | exact Or.inl rfl | exact Or.inr rfl) (pe_op op_sub (pv 3) pe_int))))
      (pss_cons (ps_set (i := 4) sc_l_hear.nd rfl (by first | exact Or.inl rfl | exact Or.inr rfl) (pe_op op_cat (pe_lst (pa_cons (pv 3) pa_nil)) (pe_lc (own := [("_law_far", 5)]) (g := (gName 5)) rfl sc_l_hear.nd (pi_range2 (by rfl) B.m_range (pa_cons pe_int (pa_cons (pe_op op_add (pe_ix (ix_tupK K rfl) (pv 0) pe_int (fun _ _ => rfl)) pe_int) pa_nil))) (blkOk_by (own := [("_law_far", 5)]) (N := ["_law_setting_here", "_law_mouth_here", "_law_told_here", "_law_number", "_law_some", "_law_far", "_law_found", "_law_one"]) (sc := defScope s_l_hear) (by decide +kernel)) (fun _ _ _ _ _ => (pg_name (i := 5) sc_l_hear.nd rfl (by first | exact Or.inl rfl | exact Or.inr rfl))) (fun _ _ _ _ _ => (pts_one (pt_cmpR op_eq (pe_ix (ix_tupK K rfl) (pe_ix (ix_tupK K rfl) (pv 2) pe_int (fun _ _ => rfl)) (pe_op op_sub (pv 5) pe_int) (fun _ _ => rfl)) pe_int (nomark _)))) (fun _ _ _ _ _ => (pe_op op_sub (pv 3) (pv 5))))))
      (pss_cons (ps_if (pt_cmpR op_lt (pe_callB (cr_minLK K rfl rfl) (by rfl) B.m_min (by decide +kernel) (pa_cons (pv 4) pa_nil)) pe_int (nomark _)) (pss_one (ps_ret pe_non)) pss_nil)
      (pss_cons (ps_set (i := 6) sc_l_hear.nd rfl (by first | exact Or.inl rfl | exact Or.inr rfl) (pe_callB (cr_sortedIK K rfl) (by rfl) B.m_sorted (by decide +kernel) (pa_cons (pe_lc (own := [("_law_one", 7)]) (g := (gName 7)) rfl sc_l_hear.nd (pi_listK K rfl (pv 4)) (blkOk_by (own := [("_law_one", 7)]) (N := ["_law_setting_here", "_law_mouth_here", "_law_told_here", "_law_number", "_law_some", "_law_far", "_law_found", "_law_one"]) (sc := defScope s_l_hear) (by decide +kernel)) (fun _ _ _ _ _ => (pg_name (i := 7) sc_l_hear.nd rfl (by first | exact Or.inl rfl | exact Or.inr rfl))) (fun _ _ _ _ _ => (pts_one (pt_cmpR (op_notIn_seqK K rfl) (pv 7) (pe_dget (hu_of hr) (pv 1) pe_str (fun _ _ => rfl)) (by rfl)))) (fun _ _ _ _ _ => (pv 7))) pa_nil)))
      (pss_cons (ps_dput (hu_of hr) (pv 1) pe_str (pe_callB (cr_sortedIK K rfl) (by rfl) B.m_sorted (by decide +kernel) (pa_cons (pe_op op_cat (pe_dget (hu_of hr) (pv 1) pe_str (fun _ _ => rfl)) (pv 6)) pa_nil)) rfl)
      (pss_one (ps_ret (pv 6))))))))), ?_⟩
    have N : Now K none _ H H (omC o sl s) [(st, StV m w l a), (q, [.int n, .ref b]), (b, bs.map V.int)] := .begin hc (by simp [ht, hq, hb])
    walk_at "gon"
    have h0 := Int.emod_nonneg (s.sent - 1 - n) (show m ≠ 0 by omega)
    refine k_while (fun i σ H' => σ = [some (.ref st), some (.ref o), some (.ref q), some (.int (s.sent - 1 - (i : Int))), none, none, none, none] ∧ H' = H) ((s.sent - 1 - n) % m).toNat ⟨?_, rfl⟩ ?_
    · show [_, _, _, some (V.int (s.sent - 1)), _, _, _, _] = _
      simp
    · rintro i σ H' hi ⟨rfl, rfl⟩
      walk_at "kn"
      by_cases c : (i : Int) < (s.sent - 1 - n) % m
      · rw [decide_eq_true (most_ne (by omega) hn c)]
        refine c_whT (by omega) ?_
        walk_at "kn"
        refine ⟨?_, rfl⟩
        show [_, _, _, some (V.int (s.sent - 1 - (i : Int) - 1)), _, _, _, _] = _
        rw [show s.sent - 1 - (i : Int) - 1 = s.sent - 1 - ((i + 1 : Nat) : Int) by omega]
      · have e : (i : Int) = (s.sent - 1 - n) % m := by omega
        have e2 : (s.sent - 1 - (i : Int)) % m = n := by rw [e]; exact most_eq (by omega) hn
        rw [decide_eq_false (fun z => z e2)]
        refine c_whF ?_
        have en : s.sent - 1 - (i : Int) = s.number m n := by rw [e]; rfl
        rw [en]
        clear en e2 e c hi
        walk_at "kn"
        rename_i p1 H1 N1
        refine c_lcR2 N1 (by omega) (fun i acc => acc = (s.far m n bs i).map V.int) rfl (fun _ => rfl) (fun i Dd H2 acc hi N2 r => ?_) (fun pf H2 acc N2 r => ?_)
        · have li : i < bs.length := by omega
          have la : acc.length ≤ i := by
            rw [r, List.length_map]
            exact ofar_len _ _ _ _ _
          have eg : bs.getD i 0 = bs[i] := by rw [List.getD_eq_getElem?_getD, List.getElem?_eq_getElem li]; rfl
          have nxt : s.far m n bs (i + 1) = if bs[i] = 1 then s.far m n bs i ++ [s.number m n - (1 + (i : Int))] else s.far m n bs i := by
            unfold OM.far
            rw [List.range_succ, List.filter_append, List.map_append]
            by_cases c : bs[i] = 1
            · rw [if_pos c, List.filter_cons_of_pos (by rw [eg]; simpa using c)]
              rfl
            · rw [if_neg c, List.filter_cons_of_neg (by rw [eg]; simpa using c)]
              simp
          walk_at "kn"
          refine g_ixT (xs := bs.map V.int) (v := .int bs[i]) (.of (N2.tup 2 rfl)) (at_of (show 1 + (i : Int) - 1 = (i : Int) by omega) (by rw [List.getElem?_map, List.getElem?_eq_getElem li]; rfl)) ?_
          walk_at "kn"
          refine c_el (fun c => ?_) (fun c => ?_)
          · walk_at "kn"
            refine c_put N2 (by omega) ?_
            show acc ++ [V.int (s.number m n - (1 + (i : Int)))] = _
            rw [nxt, if_pos (of_decide_eq_true c), List.map_append, r]
            rfl
          · refine ⟨acc, N2, ?_⟩
            show acc = _
            rw [nxt, if_neg (of_decide_eq_false c), r]
        · have ew : (w + 1 - 1).toNat = w.toNat := by omega
          rw [ew] at r
          subst r
          have l1 := ofar_len s m n bs w.toNat
          walk_at "kn"
          rename_i p2 H3 N3
          have l17 : (s.some m w n bs).length ≤ 17 := by
            unfold OM.some
            rw [List.length_cons]
            omega
          have N3 : Now K none ((omC o sl s).map Cel.a) _ H3 (⟨true, p2, .lst ((s.some m w n bs).map V.int)⟩ :: _) _ := N3
          refine g_minL (ns := s.some m w n bs) (.of (N3.cell 0 rfl)) (by unfold OM.some; simp) fun mn hmn hmin => ?_
          walk_at "kn"
          refine c_ifd (fun c => ?_) (fun c => ?_)
          · walk_at "kn"
            exact kn ⟨mn, hmn, c⟩ _ (Now.back (fp := omC o sl s) N3 fun x hx => ⟨List.mem_cons_of_mem _ (List.mem_cons_of_mem _ (List.mem_cons_of_mem _ hx)), (hc.2 x hx).1⟩)
          · have h0 : ∀ x ∈ s.some m w n bs, 0 ≤ x := fun x hx => by
              have := hmin x hx
              omega
            walk_at "kn"
            refine c_lc N3 ((s.some m w n bs).map V.int) (fun i acc => acc = (((s.some m w n bs).take i).filter fun x => decide (x ∉ s.sure)).map V.int) rfl (fun H' Dd acc N' => .of (N'.cell 1 rfl)) (fun _ => rfl) (fun i x Dd H5 acc hx N5 r => ?_) (fun pf2 H5 acc N5 r => ?_) (.of (N3.cell 0 rfl))
            · rw [List.getElem?_map] at hx
              obtain ⟨z, hz, rfl⟩ := Option.map_eq_some_iff.mp hx
              have la : acc.length ≤ 17 := by
                rw [r, List.length_map]
                exact Nat.le_trans filt_len l17
              walk_at "kn"
              refine c_el (fun c => ?_) (fun c => ?_)
              · walk_at "kn"
                refine c_put N5 (by omega) ?_
                show acc ++ [V.int z] = _
                rw [r, filt_snoc hz, if_pos c, List.map_append]
                rfl
              · refine ⟨acc, N5, ?_⟩
                show acc = _
                rw [r, filt_snoc hz, if_neg (fun q => by rw [c] at q; cases q)]
            · rw [List.length_map, List.take_length] at r
              subst r
              walk_at "kn"
              refine g_srt N5 (.of (N5.cell 0 rfl)) fun fl H6 N6 => ?_
              have N6 : Now K none ((omC o sl s).map Cel.a) _ H6 (⟨true, fl, .lst ((s.found m w n bs).map V.int)⟩ :: _) _ := N6
              have lf : (s.found m w n bs).length ≤ 17 := by
                unfold OM.found
                rw [srt_len]
                exact Nat.le_trans (List.length_filter_le _ _) l17
              walk_at "kn"
              rename_i p3 H7 N7
              have ec : s.sure.map V.int ++ (s.found m w n bs).map V.int = (s.sure ++ s.found m w n bs).map V.int := by rw [List.map_append]
              rw [ec] at N7
              refine g_srt N7 (.of (N7.cell 0 rfl)) fun nc H8 N8 => ?_
              have N9 := N8.sel [7, 0, 2, 8] (l' := ⟨true, o, .dK (kvM s.sent sl)⟩ :: ⟨true, nc, .lst ((srt (s.sure ++ s.found m w n bs)).map V.int)⟩ :: ⟨true, fl, .lst ((s.found m w n bs).map V.int)⟩ :: ⟨true, sl, .lst (s.sure.map V.int)⟩ :: []) rfl (by decide)
              have hfl := (N6.ow ⟨true, fl, _⟩ List.mem_cons_self rfl)
              clear N8
              walk_at "kn"
              refine g_dputS0 N9 (Nat.le_of_ble_eq_true rfl) (kvs' := kvM s.sent nc) rfl fun H10 N10 => ?_
              walk_at "kn"
              have nd : [o, nc, fl, sl].Nodup := N10.nd
              have lM : fl ∉ (omC o sl s).map Cel.a := by
                intro m
                have m : fl = o ∨ fl = sl := by simpa using m
                simp only [List.nodup_cons, List.mem_cons, not_or] at nd
                rcases m with z | z
                · exact nd.1.2.1 z.symm
                · exact nd.2.2.1.1 z
              refine kl h0 fl nc _ (hfl.resolve_left lM) ?_ (Now.done (N10.sel [0, 1] rfl (by decide)) (by simp)) (N10.cell 2 rfl)
              intro z
              simp only [List.nodup_cons, List.mem_cons, not_or] at nd
              exact nd.2.1.1 z.symm
end
/-! ### the law's own world -/
structure Tl where
  n : Int
  bs : List Int
  c : Int
structure OW where
  e : OE
  m : OM
  told : List Tl
  here : List Int
structure AW where
  (w ea ecl ma msl tl hl : Addr)
  tv : List V
abbrev kvW (A : AW) : List (Key × V) := [(Sum.inr "ear", .ref A.ea), (Sum.inr "mouth", .ref A.ma), (Sum.inr "told", .ref A.tl), (Sum.inr "here", .ref A.hl)]
abbrev owC (A : AW) (W : OW) : List Cel := ⟨true, A.w, .dK (kvW A)⟩ :: (oeC A.ea A.ecl W.e ++ (omC A.ma A.msl W.m ++ [⟨true, A.tl, .lst A.tv⟩, ⟨true, A.hl, .lst (W.here.map V.int)⟩]))
def Tls (H : Hp) : List V → List Tl → Prop := Paired fun v t => ∃ x y b, v = .ref x ∧ H x = some (.tup [.ref y, .int t.c]) ∧ H y = some (.tup [.int t.n, .ref b]) ∧ H b = some (.tup (t.bs.map V.int))
theorem Tls.keep {M : List Addr} {H H' : Hp} {tv : List V} {ts : List Tl} (h : Tls H tv ts) (A : Aft M H H') : Tls H' tv ts := Paired.mapP h fun _ _ ⟨x, y, b, e1, e2, e3, e4⟩ => ⟨x, y, b, e1, A.t _ _ e2, A.t _ _ e3, A.t _ _ e4⟩
theorem tls_at {H : Hp} : ∀ {tv : List V} {ts : List Tl} {i : Nat} {t : Tl}, Tls H tv ts → ts[i]? = some t → ∃ x y b, tv[i]? = some (.ref x) ∧ H x = some (.tup [.ref y, .int t.c]) ∧ H y = some (.tup [.int t.n, .ref b]) ∧ H b = some (.tup (t.bs.map V.int))
  | _, _, _, _, .nil, h => by simp at h
  | _, _, 0, _, .cons ⟨x, y, b, e1, e2⟩ _, h => by
    cases h
    exact ⟨x, y, b, by rw [e1]; rfl, e2⟩
  | _, _, i + 1, _, .cons _ r, h => tls_at (i := i) r h
def OW.can (W : OW) (l a : Int) : Ev → Bool
  | .send => !(W.m.full a)
  | .tell => decide (W.e.newest ≥ 0)
  | .come n => decide ((0 ≤ n ∧ n < W.m.sent) ∧ W.m.sent - 1 - n ≤ l)
  | .hear n => decide ((0 ≤ n ∧ n < (W.told.length : Int)) ∧ W.m.sent - (W.told.getD n.toNat ⟨0, [], 0⟩).c ≤ l)
section
variable {P : Program} {w : World} {K : PySem.W.Frag} {mg : Str → Option Value} {base : Heap}
theorem sc_l_world : FnScope [] [] (defScope s_l_world) := ⟨rfl, rfl, rfl, by decide +kernel, rfl, by decide +kernel, by decide +kernel⟩
theorem bd_l_world : Bd "_law_world" "_law_world" s_l_world [] := fun _ _ _ _ _ _ us hl => match us, hl with | [], _ => rfl
def spOWorld : Sp := fun vs H Q _ => vs = [] ∧ ∀ (A : AW) H', A.tv = [] → Aftr [] (owC A ⟨⟨-1, []⟩, ⟨0, []⟩, [], []⟩) H H' → Q (.ref A.w) H'
theorem ok_OWorld (F : Def K mg "_law_world" s_l_world) (c__law_ear : Cal P w K mg base CX0 1 "_law_ear" [] spOEar) (c__law_mouth : Cal P w K mg base CX0 1 "_law_mouth" [] spOMouth) : Cal P w K mg base CX0 2 "_law_world" [] spOWorld := by
  refine F.ok sc_l_world bd_l_world (fun vs H Q E h => ?_) (fun f cdv A outer s H vs Q E hr h => ?_)
  · obtain ⟨rfl, _⟩ := h
    rfl
  · obtain ⟨rfl, k⟩ := h
    refine ⟨_, PSs.nox (pss_one (ps_ret (pe_disp (pps_cons pe_str (pe_cal0 c__law_ear (hr.mono (by decide)) pass0) (pps_cons pe_str (pe_cal0 c__law_mouth (hr.mono (by decide)) pass0) (pps_cons pe_str (pe_lst pa_nil) (pps_cons pe_str (pe_lst pa_nil) pps_nil)))) (by rfl) (by rfl) (fun z => by cases z) (by decide)))), ?_⟩
    have N : Now K none [] H H [] [] := .start0 (by simp)
    walk_at "gon"
    rename_i wd H1 N1
    refine ⟨rfl, fun ea ecl H2 A2 => ?_⟩
    have N2 := Now.call (fp := []) (r := [⟨true, wd, .dK []⟩]) N1 (by simp) A2
    clear N1
    walk_at "kn"
    refine ⟨rfl, fun ma msl H3 A3 => ?_⟩
    have N3 := Now.call (fp := []) (r := oeC ea ecl ⟨-1, []⟩ ++ [⟨true, wd, .dK []⟩]) N2 (by simp) A3
    clear N2
    walk_at "kn"
    rename_i tl H4 N4 hl H5 N5
    refine g_disp0 (N5.sel [6, 4, 5, 2, 3, 1, 0] (l' := ⟨true, wd, .dK []⟩ :: (oeC ea ecl ⟨-1, []⟩ ++ (omC ma msl ⟨0, []⟩ ++ [⟨true, tl, .lst []⟩, ⟨true, hl, .lst []⟩]))) rfl (by decide)) (kvs := kvW ⟨wd, ea, ecl, ma, msl, tl, hl, []⟩) rfl (Nat.le_of_ble_eq_true rfl) rfl fun H6 N6 => ?_
    walk_at "kn"
    exact k ⟨wd, ea, ecl, ma, msl, tl, hl, []⟩ _ rfl (Now.done (fp := []) N6 (by simp))
theorem sc_l_can : FnScope ["_law_setting_here", "_law_w", "_law_event_here", "_law_sent"] ["_law_setting_here", "_law_w", "_law_event_here"] (defScope s_l_can) := ⟨rfl, rfl, rfl, by decide +kernel, rfl, by decide +kernel, by decide +kernel⟩
theorem bd_l_can : Bd "_law_can" "_law_can" s_l_can ["_law_setting_here", "_law_w", "_law_event_here"] := fun _ _ _ _ _ _ us hl => match us, hl with | [_, _, _], _ => rfl
def spOCan : Sp := fun vs H Q _ => ∃ (st ev : Addr) (A : AW) (m w l a : Int) (W : OW) (e : Ev), vs = [.ref st, .ref A.w, .ref ev] ∧ H st = some (.tup (StV m w l a)) ∧ CelOk H (owC A W) ∧ Tls H A.tv W.told ∧ H ev = some (.tup e.v) ∧ W.m.sure.length ≤ 50000 ∧ ∀ H', Aft [] H H' → Q (.bl (W.can l a e)) H'
theorem ok_OCan (F : Def K mg "_law_can" s_l_can) (B : Bt mg) (c_l_is_full : Cal P w K mg base CX0 1 "_law_is_full" ["_law_setting_here", "_law_mouth_here"] spOFull) : Cal P w K mg base CX0 2 "_law_can" ["_law_setting_here", "_law_w", "_law_event_here"] spOCan := by
  refine F.ok sc_l_can bd_l_can (fun vs H Q E h => ?_) (fun f cdv A outer s H vs Q E hr h => ?_)
  · obtain ⟨st, ev, A, m, w, l, a, W, e, rfl, _⟩ := h
    rfl
  · obtain ⟨st, ev, A, m, w, l, a, W, e, rfl, ht, hc, hT, he, hlen, k⟩ := h
    refine ⟨_, PSs.nox (pss_cons (ps_if (pt_cmpR (op_eqDK K rfl hr.units) (pv 2) (pe_tup (pa_cons pe_str pa_nil)) (nomark _)) (pss_one (ps_ret (pe_not (pe_cal c_l_is_full (hr.mono (by decide)) pass0 (pa_cons (pv 0) (pa_cons (pe_dget (hu_of hr) (pv 1) pe_str (fun _ _ => rfl)) pa_nil)))))) pss_nil)
      (pss_cons (ps_if (pt_cmpR (op_eqDK K rfl hr.units) (pv 2) (pe_tup (pa_cons pe_str pa_nil)) (nomark _)) (pss_one (ps_ret (pe_cmpR op_ge (pe_dget (hu_of hr) (pe_dget (hu_of hr) (pv 1) pe_str (fun _ _ => rfl)) pe_str (fun _ _ => rfl)) pe_int (nomark _)))) pss_nil)
      (pss_cons (ps_if (PW.pt (pw_or (pt_cmpR op_ne (pe_callB (cr_lnK K rfl) (by rfl) B.m_len (by decide +kernel) (pa_cons (pv 2) pa_nil)) pe_int (nomark _)) (pw_or1 (pt_cmpR (op_notIn_seqK K rfl) (pe_ix (ix_tupK K rfl) (pv 2) pe_int (fun _ _ => rfl)) (pe_tup (pa_cons pe_str (pa_cons pe_str pa_nil))) (by rfl))))) (pss_one (ps_ret pe_bl)) pss_nil)
      (pss_cons (ps_set (i := 3) sc_l_can.nd rfl (by first | exact Or.inl rfl | exact Or.inr rfl) (pe_dget (hu_of hr) (pe_dget (hu_of hr) (pv 1) pe_str (fun _ _ => rfl)) pe_str (fun _ _ => rfl)))
      (pss_cons (ps_if (pt_cmpR op_eq (pe_ix (ix_tupK K rfl) (pv 2) pe_int (fun _ _ => rfl)) pe_str (nomark _)) (pss_one (ps_ret (pe_and (pe_chain op_le op_lt pe_int (pe_ix (ix_tupK K rfl) (pv 2) pe_int (fun _ _ => rfl)) (pv 3)) (pe_one (pe_cmpR op_le (pe_op op_sub (pe_op op_sub (pv 3) pe_int) (pe_ix (ix_tupK K rfl) (pv 2) pe_int (fun _ _ => rfl))) (pe_ix (ix_tupK K rfl) (pv 0) pe_int (fun _ _ => rfl)) (nomark _)))))) pss_nil)
      (pss_one (ps_ret (pe_and (pe_chain op_le op_lt pe_int (pe_ix (ix_tupK K rfl) (pv 2) pe_int (fun _ _ => rfl)) (pe_callB (cr_lnK K rfl) (by rfl) B.m_len (by decide +kernel) (pa_cons (pe_dget (hu_of hr) (pv 1) pe_str (fun _ _ => rfl)) pa_nil))) (pe_one (pe_cmpR op_le (pe_op op_sub (pv 3) (pe_ix (ix_tupK K rfl) (pe_ix (ix_listK K rfl) (pe_dget (hu_of hr) (pv 1) pe_str (fun _ _ => rfl)) (pe_ix (ix_tupK K rfl) (pv 2) pe_int (fun _ _ => rfl)) (fun _ _ => rfl)) pe_int (fun _ _ => rfl))) (pe_ix (ix_tupK K rfl) (pv 0) pe_int (fun _ _ => rfl)) (nomark _))))))))))), ?_⟩
    have tlen : A.tv.length = W.told.length := Paired.length hT
    have hm : CelOk H (omC A.ma A.msl W.m) := hc.sel [3, 4] rfl (by decide)
    cases e with
    | send =>
      have N : Now K none [] H H ((owC A W).map Cel.ro) [(ev, [.str "send"]), (st, StV m w l a)] := .read hc (by simp [ht]; exact he)
      walk_at "gon"
      rename_i p1 H1 N1
      refine g_evSend (e := .send) (r := true) rfl (.of (N1.tup 1 rfl)) (.of (N1.tup 0 rfl)) ?_
      walk_at "kn"
      refine ⟨st, A.ma, A.msl, m, w, l, a, W.m, rfl, N1.tup 2 rfl, hm.keep N1.af, hlen, fun H2 A2 => ?_⟩
      walk_at "kn"
      refine e_notV ?_
      exact k _ (N1.af.trans A2)
    | tell =>
      have N : Now K none [] H H ((owC A W).map Cel.ro) [(ev, [.str "tell"]), (st, StV m w l a)] := .read hc (by simp [ht]; exact he)
      walk_at "gon"
      rename_i p1 H1 N1
      refine g_evSend (e := .tell) (r := false) rfl (.of (N1.tup 1 rfl)) (.of (N1.tup 0 rfl)) ?_
      walk_at "kn"
      rename_i p2 H2 N2
      refine g_evTell (e := .tell) (r := true) rfl (.of (N2.tup 2 rfl)) (.of (N2.tup 0 rfl)) ?_
      walk_at "kn"
      exact k _ N2.af
    | come n =>
      have N : Now K none [] H H ((owC A W).map Cel.ro) [(ev, [.str "come", .int n]), (st, StV m w l a)] := .read hc (by simp [ht]; exact he)
      walk_at "gon"
      rename_i p1 H1 N1
      refine g_evSend (e := .come n) (r := false) rfl (.of (N1.tup 1 rfl)) (.of (N1.tup 0 rfl)) ?_
      walk_at "kn"
      rename_i p2 H2 N2
      refine g_evTell (e := .come n) (r := false) rfl (.of (N2.tup 2 rfl)) (.of (N2.tup 0 rfl)) ?_
      walk_at "kn"
      refine c_or (fun c => absurd (of_decide_eq_true c) (by simp)) (fun _ => ?_)
      walk_at "kn"
      rename_i p3 H3 N3
      refine g_inW (r := false) (ws := [.str "come", .str "hear"]) (.inr (.of (N3.tup 0 rfl))) rfl (by decide +kernel) ?_
      walk_at "kn"
      refine c_ch (fun c1 => ?_) (fun c1 => ?_)
      · have c1 := of_decide_eq_true c1
        walk_at "kn"
        refine e_andV (fun c2 => ?_) (fun c2 => ?_)
        · have c2 := of_decide_eq_true c2
          walk_at "kn"
          have e : decide (W.m.sent - 1 - n ≤ l) = W.can l a (.come n) := by
            unfold OW.can
            rw [decide_eq_decide]
            exact ⟨fun z => ⟨⟨c1, c2⟩, z⟩, fun z => z.2⟩
          rw [e]
          exact k _ N3.af
        · have c2 := of_decide_eq_false c2
          have e : W.can l a (.come n) = false := decide_eq_false fun z => c2 z.1.2
          have kk := k _ N3.af
          rw [e] at kk
          exact kk
      · have c1 := of_decide_eq_false c1
        have e : W.can l a (.come n) = false := decide_eq_false fun z => c1 z.1.1
        have kk := k _ N3.af
        rw [e] at kk
        walk_at "kn"
        exact kk
    | hear n =>
      have N : Now K none [] H H ((owC A W).map Cel.ro) [(ev, [.str "hear", .int n]), (st, StV m w l a)] := .read hc (by simp [ht]; exact he)
      walk_at "gon"
      rename_i p1 H1 N1
      refine g_evSend (e := .hear n) (r := false) rfl (.of (N1.tup 1 rfl)) (.of (N1.tup 0 rfl)) ?_
      walk_at "kn"
      rename_i p2 H2 N2
      refine g_evTell (e := .hear n) (r := false) rfl (.of (N2.tup 2 rfl)) (.of (N2.tup 0 rfl)) ?_
      walk_at "kn"
      refine c_or (fun c => absurd (of_decide_eq_true c) (by simp)) (fun _ => ?_)
      walk_at "kn"
      rename_i p3 H3 N3
      refine g_inW (r := false) (ws := [.str "come", .str "hear"]) (.inr (.of (N3.tup 0 rfl))) rfl (by decide +kernel) ?_
      walk_at "kn"
      refine k_eqStr (by decide) ?_
      walk_at "kn"
      refine c_ch (fun c1 => ?_) (fun c1 => ?_)
      · have c1 := of_decide_eq_true c1
        walk_at "kn"
        refine e_andV (fun c2 => ?_) (fun c2 => ?_)
        · have c2 := of_decide_eq_true c2
          have lt : n.toNat < W.told.length := by omega
          obtain ⟨x, y, b, f1, f2, f3, f4⟩ := tls_at hT (List.getElem?_eq_getElem lt)
          have eg : W.told.getD n.toNat ⟨0, [], 0⟩ = W.told[n.toNat] := by rw [List.getD_eq_getElem?_getD, List.getElem?_eq_getElem lt]; rfl
          have N4 := N3.moreT (N3.af.t _ _ f2)
          clear N3
          walk_at "kn"
          refine g_ixL (xs := A.tv) (v := .ref x) (.of (N4.cell 5 rfl)) (at_of (show n = (n.toNat : Int) by omega) f1) ?_
          walk_at "kn"
          have e : decide (W.m.sent - W.told[n.toNat].c ≤ l) = W.can l a (.hear n) := by
            unfold OW.can
            rw [decide_eq_decide, eg]
            exact ⟨fun z => ⟨⟨c1, by omega⟩, z⟩, fun z => z.2⟩
          rw [e]
          exact k _ N4.af
        · have c2 := of_decide_eq_false c2
          have e : W.can l a (.hear n) = false := decide_eq_false fun z => c2 (by rw [tlen]; exact z.1.2)
          have kk := k _ N3.af
          rw [e] at kk
          exact kk
      · have c1 := of_decide_eq_false c1
        have e : W.can l a (.hear n) = false := decide_eq_false fun z => c1 z.1.1
        have kk := k _ N3.af
        rw [e] at kk
        walk_at "kn"
        exact kk
end
/-! ### an event in the law's own world -/
def OW.tAt (W : OW) (j : Int) : Tl := W.told.getD j.toNat ⟨0, [], 0⟩
def OW.low (W : OW) (m w j : Int) : Bool := (W.m.some m w (W.tAt j).n (W.tAt j).bs).any fun x => decide (x < 0)
def OW.step (W : OW) (m w l : Int) : Ev → OW
  | .send => { W with m := ⟨W.m.sent + 1, W.m.sure⟩ }
  | .tell => { W with told := W.told ++ [⟨W.e.newest % m, W.e.bits w, W.m.sent⟩] }
  | .come n => { W with e := W.e.come w (W.e.taken m l (n % m)), here := W.here ++ [n] }
  | .hear j => if W.low m w j then W else { W with m := W.m.hear m w (W.tAt j).n (W.tAt j).bs }
def OW.bad (W : OW) (m w l : Int) : Ev → Bool
  | .send => false
  | .tell => false
  | .come n => decide (W.e.taken m l (n % m) ≠ n)
  | .hear j => if W.low m w j then true else (W.m.found m w (W.tAt j).n (W.tAt j).bs).any fun x => decide (x ∉ W.here)
structure OWk (m w : Int) (W : OW) : Prop where
  sure : W.m.sure.length ≤ 50000
  here : W.here.length ≤ 50000
  told : W.told.length ≤ 50000
  came : W.e.came.length ≤ 50000
  tl : ∀ t ∈ W.told, (0 ≤ t.n ∧ t.n < m) ∧ (t.bs.length : Int) = w
section
variable {P : Program} {w : World} {K : PySem.W.Frag} {mg : Str → Option Value} {base : Heap}
theorem sc_l_do : FnScope ["_law_setting_here", "_law_w", "_law_event_here", "_law_number", "_law_told_here", "_law_found", "_law_one"] ["_law_setting_here", "_law_w", "_law_event_here"] (defScope s_l_do) := ⟨rfl, rfl, rfl, by decide +kernel, rfl, by decide +kernel, by decide +kernel⟩
theorem bd_l_do : Bd "_law_do" "_law_do" s_l_do ["_law_setting_here", "_law_w", "_law_event_here"] := fun _ _ _ _ _ _ us hl => match us, hl with | [_, _, _], _ => rfl
def spODo : Sp := fun vs H Q _ => ∃ (st ev : Addr) (A : AW) (m w l a : Int) (W : OW) (e : Ev), vs = [.ref st, .ref A.w, .ref ev] ∧ H st = some (.tup (StV m w l a)) ∧ OkS m w l a ∧ CelOk H (owC A W) ∧ Tls H A.tv W.told ∧ H ev = some (.tup e.v) ∧ OWk m w W ∧ W.can l a e = true ∧
  ∀ (A' : AW) (x : V) (t : Addr) H', A'.w = A.w → Aftr (owC A W) (owC A' (W.step m w l e)) H H' → Tls H' A'.tv (W.step m w l e).told → H' t = some (.tup [x, .bl (W.bad m w l e)]) → Q (.ref t) H'
theorem ok_ODo (F : Def K mg "_law_do" s_l_do) (B : Bt mg) (c_l_tell : Cal P w K mg base CX0 1 "_law_tell" ["_law_setting_here", "_law_ear_here"] spOTell) (c_l_come : Cal P w K mg base CX0 2 "_law_come" ["_law_setting_here", "_law_ear_here", "_law_mark"] spOCome)
    (c_l_hear : Cal P w K mg base CX0 1 "_law_hear" ["_law_setting_here", "_law_mouth_here", "_law_told_here"] spOHear) : Cal P w K mg base CX0 3 "_law_do" ["_law_setting_here", "_law_w", "_law_event_here"] spODo := by
  refine F.ok sc_l_do bd_l_do (fun vs H Q E h => ?_) (fun f cdv A outer s H vs Q E hr h => ?_)
  · obtain ⟨st, ev, A, m, w, l, a, W, e, rfl, _⟩ := h
    rfl
  · obtain ⟨st, ev, A, m, w, l, a, W, e, rfl, ht, hok, hc, hT, he, hk, hcan, k⟩ := h
    obtain ⟨k1, k2, k3, k4, k5⟩ := hk
    have hok' := hok
    unfold OkS at hok'
    have tlen : A.tv.length = W.told.length := Paired.length hT
    refine ⟨_, PSs.nox (pss_cons (ps_if (pt_cmpR op_eq (pe_ix (ix_tupK K rfl) (pv 2) pe_int (fun _ _ => rfl)) pe_str (nomark _)) (pss_cons (ps_set (i := 3) sc_l_do.nd rfl (by first | exact Or.inl rfl | exact Or.inr rfl) (pe_dget (hu_of hr) (pe_dget (hu_of hr) (pv 1) pe_str (fun _ _ => rfl)) pe_str (fun _ _ => rfl)))
      (pss_cons (ps_dput (hu_of hr) (pe_dget (hu_of hr) (pv 1) pe_str (fun _ _ => rfl)) pe_str (pe_op op_add (pv 3) pe_int) rfl)
      (pss_one (ps_ret (pe_tup (pa_cons (pe_tup (pa_cons (pv 3) (pa_cons (pe_op op_mod (pv 3) (pe_ix (ix_tupK K rfl) (pv 0) pe_int (fun _ _ => rfl))) pa_nil))) (pa_cons pe_bl pa_nil))))))) pss_nil)
      (pss_cons (ps_if (pt_cmpR op_eq (pe_ix (ix_tupK K rfl) (pv 2) pe_int (fun _ _ => rfl)) pe_str (nomark _)) (pss_cons (ps_set (i := 4) sc_l_do.nd rfl (by first | exact Or.inl rfl | exact Or.inr rfl) (pe_cal c_l_tell (hr.mono (by decide)) pass0 (pa_cons (pv 0) (pa_cons (pe_dget (hu_of hr) (pv 1) pe_str (fun _ _ => rfl)) pa_nil))))
      (pss_cons (ps_dput (hu_of hr) (pv 1) pe_str (pe_op op_cat (pe_dget (hu_of hr) (pv 1) pe_str (fun _ _ => rfl)) (pe_lst (pa_cons (pe_tup (pa_cons (pv 4) (pa_cons (pe_dget (hu_of hr) (pe_dget (hu_of hr) (pv 1) pe_str (fun _ _ => rfl)) pe_str (fun _ _ => rfl)) pa_nil))) pa_nil))) rfl)
      (pss_one (ps_ret (pe_tup (pa_cons (pv 4) (pa_cons pe_bl pa_nil))))))) pss_nil)
      (pss_cons (ps_if (pt_cmpR op_eq (pe_ix (ix_tupK K rfl) (pv 2) pe_int (fun _ _ => rfl)) pe_str (nomark _)) (pss_cons (ps_set (i := 5) sc_l_do.nd rfl (by first | exact Or.inl rfl | exact Or.inr rfl) (pe_cal c_l_come (hr.mono (by decide)) pass0 (pa_cons (pv 0) (pa_cons (pe_dget (hu_of hr) (pv 1) pe_str (fun _ _ => rfl)) (pa_cons (pe_op op_mod (pe_ix (ix_tupK K rfl) (pv 2) pe_int (fun _ _ => rfl)) (pe_ix (ix_tupK K rfl) (pv 0) pe_int (fun _ _ => rfl))) pa_nil)))))
      (pss_cons (ps_dput (hu_of hr) (pv 1) pe_str (pe_op op_cat (pe_dget (hu_of hr) (pv 1) pe_str (fun _ _ => rfl)) (pe_lst (pa_cons (pe_ix (ix_tupK K rfl) (pv 2) pe_int (fun _ _ => rfl)) pa_nil))) rfl)
      (pss_one (ps_ret (pe_tup (pa_cons (pv 5) (pa_cons (pe_cmpR op_ne (pe_ix (ix_tupK K rfl) (pv 5) pe_int (fun _ _ => rfl)) (pe_ix (ix_tupK K rfl) (pv 2) pe_int (fun _ _ => rfl)) (nomark _)) pa_nil))))))) pss_nil)
      (pss_cons (ps_set (i := 5) sc_l_do.nd rfl (by first | exact Or.inl rfl | exact Or.inr rfl) (pe_cal c_l_hear (hr.mono (by decide)) pass0 (pa_cons (pv 0) (pa_cons (pe_dget (hu_of hr) (pv 1) pe_str (fun _ _ => rfl)) (pa_cons (pe_ix (ix_tupK K rfl) (pe_ix (ix_listK K rfl) (pe_dget (hu_of hr) (pv 1) pe_str (fun _ _ => rfl)) (pe_ix (ix_tupK K rfl) (pv 2) pe_int (fun _ _ => rfl)) (fun _ _ => rfl)) pe_int (fun _ _ => rfl)) pa_nil)))))
      (pss_cons (ps_if (pt_cmpR op_isNo (pv 5) pe_non (nomark _)) (pss_one (ps_ret (pe_tup (pa_cons pe_non (pa_cons pe_bl pa_nil))))) pss_nil)
      (pss_one (ps_ret (pe_tup (pa_cons (pv 5) (pa_cons (pe_cmpR (op_neDK K rfl hr.units) (pe_lc (own := [("_law_one", 6)]) (g := (gName 6)) rfl sc_l_do.nd (pi_listK K rfl (pv 5)) (blkOk_by (own := [("_law_one", 6)]) (N := ["_law_setting_here", "_law_w", "_law_event_here", "_law_number", "_law_told_here", "_law_found", "_law_one"]) (sc := defScope s_l_do) (by decide +kernel)) (fun _ _ _ _ _ => (pg_name (i := 6) sc_l_do.nd rfl (by first | exact Or.inl rfl | exact Or.inr rfl))) (fun _ _ _ _ _ => (pts_one (pt_cmpR (op_notIn_seqK K rfl) (pv 6) (pe_dget (hu_of hr) (pv 1) pe_str (fun _ _ => rfl)) (by rfl)))) (fun _ _ _ _ _ => (pv 6))) (pe_lst pa_nil) (nomark _)) pa_nil)))))))))), ?_⟩
    cases e with
    | send =>
      replace he : H ev = some (.tup [.str "send"]) := he
      have N : Now K none _ H H (owC A W) [(ev, [.str "send"]), (st, StV m w l a)] := .begin hc (by simp [ht, he])
      walk_at "gon"
      refine g_dputS0 (N.sel [3, 0, 1, 2, 4, 5, 6] (l' := ⟨true, A.ma, .dK (kvM W.m.sent A.msl)⟩ :: ⟨true, A.w, .dK (kvW A)⟩ :: (oeC A.ea A.ecl W.e ++ [⟨true, A.msl, .lst (W.m.sure.map V.int)⟩, ⟨true, A.tl, .lst A.tv⟩, ⟨true, A.hl, .lst (W.here.map V.int)⟩])) rfl (by decide))
        (Nat.le_of_ble_eq_true rfl) (kvs' := kvM (W.m.sent + 1) A.msl) rfl fun H2 N2 => ?_
      walk_at "kn"
      rename_i x H3 N3 t H4 N4
      exact k A _ t _ rfl (Now.done (N4.sel [1, 2, 3, 0, 4, 5, 6] rfl (by decide)) (by simp)) (hT.keep N4.af) (N4.tup 0 rfl)
    | tell =>
      replace he : H ev = some (.tup [.str "tell"]) := he
      have N : Now K none _ H H (owC A W) [(ev, [.str "tell"]), (st, StV m w l a)] := .begin hc (by simp [ht, he])
      walk_at "gon"
      refine k_eqStr (by decide) ?_
      walk_at "kn"
      refine ⟨st, A.ea, A.ecl, m, w, l, a, W.e, rfl, ht, hc.sel [1, 2] rfl (by decide), by omega, by omega, fun y b H2 A2 h1 h2 => ?_⟩
      have N2 := ((N.pure A2).moreT h2).moreT h1
      clear N
      walk_at "kn"
      rename_i x H3 N3 p1 H4 N4 p2 H5 N5
      refine g_dputS0 (N5.sel [2, 0, 1, 3, 4, 5, 6, 7, 8] (l' := ⟨true, A.w, .dK (kvW A)⟩ :: ⟨true, p2, .lst (A.tv ++ [.ref x])⟩ :: ⟨true, p1, .lst [.ref x]⟩ :: (oeC A.ea A.ecl W.e ++ (omC A.ma A.msl W.m ++ [⟨true, A.tl, .lst A.tv⟩, ⟨true, A.hl, .lst (W.here.map V.int)⟩]))) rfl (by decide))
        (Nat.le_of_ble_eq_true rfl) (kvs' := kvW { A with tl := p2, tv := A.tv ++ [.ref x] }) rfl fun H6 N6 => ?_
      walk_at "kn"
      rename_i t H7 N7
      exact k { A with tl := p2, tv := A.tv ++ [.ref x] } _ t _ rfl (Now.done (N7.sel [0, 3, 4, 5, 6, 1, 8] rfl (by decide)) (by simp)) (Paired.snoc (hT.keep N7.af) ⟨x, y, b, rfl, N7.tup 1 rfl, N7.tup 2 rfl, N7.tup 3 rfl⟩) (N7.tup 0 rfl)
    | come n =>
      replace he : H ev = some (.tup [.str "come", .int n]) := he
      have N : Now K none _ H H (owC A W) [(ev, [.str "come", .int n]), (st, StV m w l a)] := .begin hc (by simp [ht, he])
      walk_at "gon"
      refine k_eqStr (by decide) ?_
      walk_at "kn"
      refine k_eqStr (by decide) ?_
      walk_at "kn"
      refine ⟨st, A.ea, A.ecl, m, w, l, a, W.e, n % m, rfl, ht, hc.sel [1, 2] rfl (by decide), by omega, ⟨Int.emod_nonneg _ (by omega), Int.emod_lt_of_pos _ (by omega)⟩, k4, fun y ecl H2 A2 h1 => ?_⟩
      have N2 := (Now.call (fp := oeC A.ea A.ecl W.e) (r := ⟨true, A.w, .dK (kvW A)⟩ :: (omC A.ma A.msl W.m ++ [⟨true, A.tl, .lst A.tv⟩, ⟨true, A.hl, .lst (W.here.map V.int)⟩])) (N.sel [1, 2, 0, 3, 4, 5, 6] rfl (by decide)) (by simp) A2).moreT h1
      clear N
      walk_at "kn"
      rename_i p1 H3 N3 p2 H4 N4
      have ec : W.here.map V.int ++ [V.int n] = (W.here ++ [n]).map V.int := by rw [List.map_append]; rfl
      rw [ec] at N4
      refine g_dputS0 (N4.sel [4, 0, 1, 2, 3, 5, 6, 7, 8] (l' := ⟨true, A.w, .dK (kvW A)⟩ :: ⟨true, p2, .lst ((W.here ++ [n]).map V.int)⟩ :: ⟨true, p1, .lst [.int n]⟩ :: (oeC A.ea ecl (W.e.come w (W.e.taken m l (n % m))) ++ (omC A.ma A.msl W.m ++ [⟨true, A.tl, .lst A.tv⟩, ⟨true, A.hl, .lst (W.here.map V.int)⟩]))) rfl (by decide))
        (Nat.le_of_ble_eq_true rfl) (kvs' := kvW { A with ecl := ecl, hl := p2 }) rfl fun H6 N6 => ?_
      clear N4 N3
      walk_at "kn"
      rename_i t H7 N7
      exact k { A with ecl := ecl, hl := p2 } _ t _ rfl (Now.done (N7.sel [0, 3, 4, 5, 6, 7, 1] rfl (by decide)) (by simp)) (hT.keep N7.af) (N7.tup 0 rfl)
    | hear n =>
      replace he : H ev = some (.tup [.str "hear", .int n]) := he
      have N : Now K none _ H H (owC A W) [(ev, [.str "hear", .int n]), (st, StV m w l a)] := .begin hc (by simp [ht, he])
      walk_at "gon"
      refine k_eqStr (by decide) ?_
      walk_at "kn"
      refine k_eqStr (by decide) ?_
      walk_at "kn"
      refine k_eqStr (by decide) ?_
      walk_at "kn"
      obtain ⟨⟨c1, c2⟩, c3⟩ := of_decide_eq_true hcan
      have lt : n.toNat < W.told.length := by omega
      obtain ⟨x, y, b, f1, f2, f3, f4⟩ := tls_at hT (List.getElem?_eq_getElem lt)
      have eg : W.tAt n = W.told[n.toNat] := by unfold OW.tAt; rw [List.getD_eq_getElem?_getD, List.getElem?_eq_getElem lt]; rfl
      rw [← eg] at f2 f3 f4
      have mem : W.tAt n ∈ W.told := by rw [eg]; exact List.getElem_mem lt
      obtain ⟨g1, g2⟩ := k5 _ mem
      have N2 := (N.moreT f2).moreT f3
      clear N
      refine g_ixL (xs := A.tv) (v := .ref x) (.of (N2.cell 5 rfl)) (at_of (show n = (n.toNat : Int) by omega) f1) ?_
      walk_at "kn"
      refine ⟨st, A.ma, A.msl, y, b, m, w, l, a, W.m, (W.tAt n).n, (W.tAt n).bs, rfl, ht, hc.sel [3, 4] rfl (by decide), f3, f4, hok, k1, g1, g2, fun hlow H3 A3 => ?_, fun h0 fl sl' H3 hfl hne A3 hv => ?_⟩
      · have el : W.low m w n = true := by
          obtain ⟨z, hz, hz0⟩ := hlow
          exact List.any_eq_true.mpr ⟨z, hz, decide_eq_true hz0⟩
        have e1 : W.step m w l (.hear n) = W := if_pos el
        have e2 : W.bad m w l (.hear n) = true := if_pos el
        have N3 := N2.pure A3
        clear N2
        walk_at "kn"
        rename_i t H4 N4
        exact k A _ t _ rfl (by rw [e1]; exact Now.done N4 (by simp)) (by rw [e1]; exact hT.keep N4.af) (by rw [e2]; exact N4.tup 0 rfl)
      · have el : W.low m w n = false := by
          refine List.any_eq_false.mpr fun z hz => ?_
          have := h0 z hz
          simp
          omega
        have e1 : W.step m w l (.hear n) = { W with m := W.m.hear m w (W.tAt n).n (W.tAt n).bs } := if_neg (by rw [el]; simp)
        have e2 : W.bad m w l (.hear n) = (W.m.found m w (W.tAt n).n (W.tAt n).bs).any fun x => decide (x ∉ W.here) := if_neg (by rw [el]; simp)
        have N3 := N2.sel [3, 4, 0, 1, 2, 5, 6] (l' := omC A.ma A.msl W.m ++ (⟨true, A.w, .dK (kvW A)⟩ :: (oeC A.ea A.ecl W.e ++ [⟨true, A.tl, .lst A.tv⟩, ⟨true, A.hl, .lst (W.here.map V.int)⟩]))) rfl (by decide)
        have N4 := Now.grow N3 (Now.call (fp := omC A.ma A.msl W.m) N3 (by simp) A3) (q := fl) (fun z hz => by
          by_cases c : z = sl'
          · exact .inr (fun e => hne (e.symm.trans c))
          · left
            have hz : z ∈ [A.ma, sl', A.w, A.ea, A.ecl, A.tl, A.hl] := hz
            show z ∈ [A.ma, A.msl, A.w, A.ea, A.ecl, A.tl, A.hl]
            simp only [List.mem_cons] at hz ⊢
            rcases hz with q | q | q | q | q | q | q
            · exact .inl q
            · exact absurd q c
            · exact .inr (.inr (.inl q))
            · exact .inr (.inr (.inr (.inl q)))
            · exact .inr (.inr (.inr (.inr (.inl q))))
            · exact .inr (.inr (.inr (.inr (.inr (.inl q)))))
            · exact .inr (.inr (.inr (.inr (.inr (.inr q)))))) hfl hv trivial
        clear N2 N3
        walk_at "kn"
        have lf : (W.m.found m w (W.tAt n).n (W.tAt n).bs).length ≤ 17 := by
          have := ofar_len W.m m (W.tAt n).n (W.tAt n).bs w.toNat
          unfold OM.found
          rw [srt_len]
          refine Nat.le_trans (List.length_filter_le _ _) ?_
          unfold OM.some
          rw [List.length_cons]
          omega
        generalize W.m.found m w (W.tAt n).n (W.tAt n).bs = fd at *
        refine c_lc N4 (fd.map V.int) (fun i acc => acc = ((fd.take i).filter fun x => decide (x ∉ W.here)).map V.int) rfl (fun H' Dd acc N' => .of (N'.cell 1 rfl)) (fun _ => rfl) (fun i x Dd H5 acc hx N5 r => ?_) (fun pf H5 acc N5 r => ?_) (.of (N4.cell 0 rfl))
        · rw [List.getElem?_map] at hx
          obtain ⟨z, hz, rfl⟩ := Option.map_eq_some_iff.mp hx
          have la : acc.length ≤ 17 := by
            rw [r, List.length_map]
            exact Nat.le_trans filt_len lf
          walk_at "kn"
          refine c_el (fun c => ?_) (fun c => ?_)
          · walk_at "kn"
            refine c_put N5 (by omega) ?_
            show acc ++ [V.int z] = _
            rw [r, filt_snoc hz, if_pos c, List.map_append]
            rfl
          · refine ⟨acc, N5, ?_⟩
            show acc = _
            rw [r, filt_snoc hz, if_neg (fun q => by rw [c] at q; cases q)]
        · rw [List.length_map, List.take_length] at r
          subst r
          walk_at "kn"
          rename_i ep H6 N6
          refine g_neL (m := fd.filter fun x => decide (x ∉ W.here)) (n := []) (.of (N6.cell 1 rfl)) (.of (N6.cell 0 rfl)) ?_
          walk_at "kn"
          rename_i t H7 N7
          have e3 : decide ((fd.filter fun x => decide (x ∉ W.here)) ≠ []) = fd.any fun x => decide (x ∉ W.here) := by
            rw [Bool.eq_iff_iff, decide_eq_true_eq, List.any_eq_true]
            constructor
            · intro z
              obtain ⟨x, hx⟩ := List.exists_mem_of_ne_nil _ z
              exact ⟨x, (List.mem_filter.mp hx).1, (List.mem_filter.mp hx).2⟩
            · rintro ⟨x, hx1, hx2⟩ z
              have q : x ∈ fd.filter fun x => decide (x ∉ W.here) := List.mem_filter.mpr ⟨hx1, hx2⟩
              rw [z] at q
              cases q
          have N8 := N7.tup 0 rfl
          rw [e3, ← e2] at N8
          exact k { A with msl := sl' } _ t _ rfl (by rw [e1]; exact Now.done (N7.sel [5, 6, 7, 3, 4, 8, 9] rfl (by decide)) (by simp)) (by rw [e1]; exact hT.keep N7.af) N8
end
/-! ### an event by the dice -/
section
variable {P : Program} {w : World} {K : PySem.W.Frag} {mg : Str → Option Value} {base : Heap}
theorem sc_l_event : FnScope ["_law_d", "_law_setting_here", "_law_w", "_law_often", "_law_kind", "_law_sent", "_law_event_here"] ["_law_d", "_law_setting_here", "_law_w", "_law_often"] (defScope s_l_event) := ⟨rfl, rfl, rfl, by decide +kernel, rfl, by decide +kernel, by decide +kernel⟩
theorem bd_l_event : Bd "_law_event" "_law_event" s_l_event ["_law_d", "_law_setting_here", "_law_w", "_law_often"] := fun _ _ _ _ _ _ us hl => match us, hl with | [_, _, _, _], _ => rfl
def spOEvent (K : PySem.W.Frag) : Sp := fun vs H Q _ => ∃ (d st : Addr) (A : AW) (m w l a often : Int) (W : OW), vs = [.ref d, .ref st, .ref A.w, .int often] ∧ Dice K H d ∧ H st = some (.tup (StV m w l a)) ∧ OkS m w l a ∧ CelOk H (owC A W) ∧ d ∉ (owC A W).map Cel.a ∧ Tls H A.tv W.told ∧ OWk m w W ∧ (1 ≤ often ∧ often ≤ 100) ∧
  ∀ (t : Addr) H', Aft [d] H H' → Dice K H' d → (H' t = some (.tup []) ∨ ∃ e, H' t = some (.tup (Ev.v e)) ∧ W.can l a e = true) → Q (.ref t) H'
theorem ok_OEvent (F : Def K mg "_law_event" s_l_event) (B : Bt mg) (c_l_next : Cal P w K mg base CX0 1 "_law_next" ["_law_dice_here", "_law_many"] (spNext K)) (c_l_can : Cal P w K mg base CX0 2 "_law_can" ["_law_setting_here", "_law_w", "_law_event_here"] spOCan) :
    Cal P w K mg base CX0 3 "_law_event" ["_law_d", "_law_setting_here", "_law_w", "_law_often"] (spOEvent K) := by
  refine F.ok sc_l_event bd_l_event (fun vs H Q E h => ?_) (fun f cdv A outer s H vs Q E hr h => ?_)
  · obtain ⟨d, st, A, m, w, l, a, often, W, rfl, _⟩ := h
    rfl
  · obtain ⟨d, st, A, m, w, l, a, often, W, rfl, hD, ht, hok, hc, hd, hT, hk, ho, k⟩ := h
    have hok' := hok
    unfold OkS at hok'
    have tlen : A.tv.length = W.told.length := Paired.length hT
    have k3 := hk.told
    refine ⟨_, PSs.nox (pss_cons (ps_set (i := 4) sc_l_event.nd rfl (by first | exact Or.inl rfl | exact Or.inr rfl) (pe_cal c_l_next (hr.mono (by decide)) pass0 (pa_cons (pv 0) (pa_cons (pe_op op_add (pv 3) pe_int) pa_nil))))
      (pss_cons (ps_set (i := 5) sc_l_event.nd rfl (by first | exact Or.inl rfl | exact Or.inr rfl) (pe_dget (hu_of hr) (pe_dget (hu_of hr) (pv 2) pe_str (fun _ _ => rfl)) pe_str (fun _ _ => rfl)))
      (pss_cons (ps_set (i := 6) sc_l_event.nd rfl (by first | exact Or.inl rfl | exact Or.inr rfl) (pe_tup (pa_cons pe_str pa_nil)))
      (pss_cons (ps_if (PW.pt (pw_or (pt_cmpR op_eq (pv 4) pe_int (nomark _)) (pw_or1 (pt_cmpR op_eq (pv 4) pe_int (nomark _))))) (pss_one (ps_set (i := 6) sc_l_event.nd rfl (by first | exact Or.inl rfl | exact Or.inr rfl) (pe_tup (pa_cons pe_str (pa_cons (pe_op op_sub (pe_op op_sub (pv 5) pe_int) (pe_cal c_l_next (hr.mono (by decide)) pass0 (pa_cons (pv 0) (pa_cons (pe_op op_add (pe_ix (ix_tupK K rfl) (pv 1) pe_int (fun _ _ => rfl)) pe_int) pa_nil)))) pa_nil))))) pss_nil)
      (pss_cons (ps_if (pt_cmpR op_eq (pv 4) pe_int (nomark _)) (pss_one (ps_set (i := 6) sc_l_event.nd rfl (by first | exact Or.inl rfl | exact Or.inr rfl) (pe_tup (pa_cons pe_str pa_nil)))) pss_nil)
      (pss_cons (ps_if (pt_cmpR op_gt (pv 4) pe_int (nomark _)) (pss_one (ps_set (i := 6) sc_l_event.nd rfl (by first | exact Or.inl rfl | exact Or.inr rfl) (pe_tup (pa_cons pe_str (pa_cons (pe_op op_sub (pe_op op_sub (pe_callB (cr_lnK K rfl) (by rfl) B.m_len (by decide +kernel) (pa_cons (pe_dget (hu_of hr) (pv 2) pe_str (fun _ _ => rfl)) pa_nil)) pe_int) (pe_cal c_l_next (hr.mono (by decide)) pass0 (pa_cons (pv 0) (pa_cons pe_int pa_nil)))) pa_nil))))) pss_nil)
      (pss_one (ps_ret (pe_ifExp (pt_val (pe_cal c_l_can (hr.mono (by decide)) pass0 (pa_cons (pv 1) (pa_cons (pv 2) (pa_cons (pv 6) pa_nil))))) (pv 6) (pe_tup pa_nil)))))))))), ?_⟩
    have N : Now K (some d) [d] H H ((owC A W).map Cel.ro) [(st, StV m w l a)] := .start (by rw [List.map_map]; exact hc.1) (fun c hcc => by
      obtain ⟨b, hb, rfl⟩ := List.mem_map.mp hcc
      exact ⟨(hc.2 b hb).1, (hc.2 b hb).2, fun z => by cases z⟩) (by simp [ht]) (fun e he => by
      cases he
      exact ⟨hD, by simp, by rw [List.map_map]; exact hd⟩)
    walk_at "go"
    refine g_next N (by omega) fun v H1 N1 b1 b2 => ?_
    clear N
    refine k_gname (k_cut3 (R := fun σ H' => ∃ t e, σ = [some (.ref d), some (.ref st), some (.ref A.w), some (.int often), some (.int v), some (.int W.m.sent), some (.ref t)] ∧ Now K (some d) [d] H H' ((owC A W).map Cel.ro) [(st, StV m w l a)] ∧ H' t = some (.tup (Ev.v e))) ?_ ?_)
    · rintro σ H2 ⟨t, e, rfl, N2, he⟩
      clear N1
      refine k_seq (k_cut (R := fun σ H' => ∃ t e, σ = [some (.ref d), some (.ref st), some (.ref A.w), some (.int often), some (.int v), some (.int W.m.sent), some (.ref t)] ∧ Now K (some d) [d] H H' ((owC A W).map Cel.ro) [(st, StV m w l a)] ∧ H' t = some (.tup (Ev.v e))) ?_ ?_)
      · clear he N2 e t
        rintro σ H3 ⟨t, e, rfl, N3, he⟩
        refine k_seq (k_cut (R := fun σ H' => ∃ t e, σ = [some (.ref d), some (.ref st), some (.ref A.w), some (.int often), some (.int v), some (.int W.m.sent), some (.ref t)] ∧ Now K (some d) [d] H H' ((owC A W).map Cel.ro) [(st, StV m w l a)] ∧ H' t = some (.tup (Ev.v e))) ?_ ?_)
        · clear he N3 e t
          rintro σ H4 ⟨t, e, rfl, N4, he⟩
          refine k_seq (k_cut (R := fun σ H' => ∃ t e, σ = [some (.ref d), some (.ref st), some (.ref A.w), some (.int often), some (.int v), some (.int W.m.sent), some (.ref t)] ∧ Now K (some d) [d] H H' ((owC A W).map Cel.ro) [(st, StV m w l a)] ∧ H' t = some (.tup (Ev.v e))) ?_ ?_)
          · clear he N4 e t
            rintro σ H5 ⟨t, e, rfl, N5, he⟩
            walk_at "kn"
            refine ⟨st, t, A, m, w, l, a, W, e, rfl, N5.tup 0 rfl, ⟨hc.1, fun c hcc => ⟨?_, (hc.2 c hcc).2⟩⟩, hT.keep N5.af, he, hk.sure, fun H6 A6 => ?_⟩
            · have q := N5.at_ c.ro (List.mem_map.mpr ⟨c, hcc, rfl⟩)
              exact q
            · have N6 := N5.pure A6
              walk_at "kn"
              refine c_ifE (fun c => ?_) (fun c => ?_)
              · walk_at "kn"
                exact k t _ N6.af (N6.dc d rfl).1 (.inr ⟨e, A6.t _ _ he, c⟩)
              · walk_at "kn"
                rename_i p H7 N7
                exact k p _ N7.af (N7.dc d rfl).1 (.inl (N7.tup 0 rfl))
          · intro nx' fin
            walk_at "kn"
            refine c_ifd (fun c => ?_) (fun c => ?_)
            · walk_at "kn"
              rename_i p H7 N7
              exact fin _ _ ⟨p, .hear _, rfl, N7.subT _ (by simp), N7.tup 0 rfl⟩
            · walk_at "kn"
              exact fin _ _ ⟨t, e, rfl, N4, he⟩
        · intro nx' fin
          walk_at "kn"
          refine c_ifd (fun c => ?_) (fun c => ?_)
          · walk_at "kn"
            rename_i p H7 N7
            exact fin _ _ ⟨p, .tell, rfl, N7.subT _ (by simp), N7.tup 0 rfl⟩
          · walk_at "kn"
            exact fin _ _ ⟨t, e, rfl, N3, he⟩
      · intro nx' fin
        walk_at "kn"
        refine c_or (fun c => ?_) (fun c => ?_)
        · walk_at "kn"
          rename_i p H7 N7
          exact fin _ _ ⟨p, .come _, rfl, N7.subT _ (by simp), N7.tup 0 rfl⟩
        · walk_at "kn"
          refine c_ifd (fun c => ?_) (fun c => ?_)
          · walk_at "kn"
            rename_i p H7 N7
            exact fin _ _ ⟨p, .come _, rfl, N7.subT _ (by simp), N7.tup 0 rfl⟩
          · walk_at "kn"
            exact fin _ _ ⟨t, e, rfl, N2, he⟩
    · intro nx' fin
      walk_at "kn"
      rename_i p H7 N7
      exact fin _ _ ⟨p, .send, rfl, N7.subT _ (by simp), N7.tup 0 rfl⟩
end
/-! ### events that may be -/
structure OWn (m w : Int) (n : Nat) (W : OW) : Prop where
  sure : W.m.sure.length ≤ 17 * n
  here : W.here.length ≤ n
  told : W.told.length ≤ n
  came : W.e.came.length ≤ n
  tl : ∀ t ∈ W.told, (0 ≤ t.n ∧ t.n < m) ∧ (t.bs.length : Int) = w
theorem OWn.k {m w : Int} {n : Nat} {W : OW} (h : OWn m w n W) (hn : n ≤ 2000) : OWk m w W := ⟨by have := h.sure; omega, by have := h.here; omega, by have := h.told; omega, by have := h.came; omega, h.tl⟩
theorem OWn.up {m w : Int} {n n' : Nat} {W : OW} (h : OWn m w n W) (hn : n ≤ n') : OWn m w n' W := ⟨by have := h.sure; omega, by have := h.here; omega, by have := h.told; omega, by have := h.came; omega, h.tl⟩
theorem OWn.start (m w : Int) : OWn m w 0 ⟨⟨-1, []⟩, ⟨0, []⟩, [], []⟩ := ⟨by simp, by simp, by simp, by simp, by simp⟩
theorem ofound_len (s : OM) (m w k : Int) (bs : List Int) (hw : w ≤ 16) : (s.found m w k bs).length ≤ 17 := by
  have := ofar_len s m k bs w.toNat
  unfold OM.found
  rw [srt_len]
  refine Nat.le_trans (List.length_filter_le _ _) ?_
  unfold OM.some
  rw [List.length_cons]
  omega
theorem OWn.step {m w l : Int} {n : Nat} {W : OW} (h : OWn m w n W) (hm : 2 ≤ m) (hw : 0 ≤ w ∧ w ≤ 16) (e : Ev) : OWn m w (n + 1) (W.step m w l e) := by
  cases e with
  | send => exact ⟨Nat.le_trans h.sure (by omega), Nat.le_trans h.here (by omega), Nat.le_trans h.told (by omega), Nat.le_trans h.came (by omega), h.tl⟩
  | tell =>
    refine ⟨Nat.le_trans h.sure (by omega), Nat.le_trans h.here (by omega), ?_, Nat.le_trans h.came (by omega), fun t ht => ?_⟩
    · show (W.told ++ [_]).length ≤ n + 1
      rw [List.length_append]
      exact Nat.add_le_add_right h.told 1
    · rcases List.mem_append.mp ht with z | z
      · exact h.tl t z
      · cases List.mem_singleton.mp z
        refine ⟨⟨Int.emod_nonneg _ (by omega), Int.emod_lt_of_pos _ (by omega)⟩, ?_⟩
        show (((W.e.bits w).length : Nat) : Int) = w
        unfold OE.bits
        rw [List.length_map, List.length_range]
        omega
  | come z =>
    refine ⟨Nat.le_trans h.sure (by omega), ?_, Nat.le_trans h.told (by omega), ?_, h.tl⟩
    · show (W.here ++ [_]).length ≤ n + 1
      rw [List.length_append]
      exact Nat.add_le_add_right h.here 1
    · show (W.e.come w _).came.length ≤ n + 1
      unfold OE.come
      split
      · exact Nat.le_trans h.came (Nat.le_succ n)
      · split
        · exact Nat.le_trans h.came (Nat.le_succ n)
        · refine Nat.le_trans (List.length_filter_le _ _) ?_
          rw [List.length_append]
          exact Nat.add_le_add_right h.came 1
  | hear j =>
    show OWn m w (n + 1) (if W.low m w j then W else _)
    split
    · exact h.up (Nat.le_succ n)
    · refine ⟨?_, Nat.le_trans h.here (by omega), Nat.le_trans h.told (by omega), Nat.le_trans h.came (by omega), h.tl⟩
      show (srt (W.m.sure ++ _)).length ≤ 17 * (n + 1)
      rw [srt_len, List.length_append]
      have := ofound_len W.m m w (W.tAt j).n (W.tAt j).bs hw.2
      have := h.sure
      omega
def OW.run (m w l : Int) (W : OW) (evs : List Ev) : OW := evs.foldl (fun W e => W.step m w l e) W
def OW.legal (m w l a : Int) : OW → List Ev → Prop
  | _, [] => True
  | W, e :: r => W.can l a e = true ∧ OW.legal m w l a (W.step m w l e) r
theorem legal_snoc {m w l a : Int} {e : Ev} : ∀ {evs : List Ev} {W : OW}, OW.legal m w l a W evs → (W.run m w l evs).can l a e = true → OW.legal m w l a W (evs ++ [e])
  | [], _, _, h => ⟨h, trivial⟩
  | _ :: _, _, h1, h2 => ⟨h1.1, legal_snoc h1.2 h2⟩
theorem run_snoc {m w l : Int} {e : Ev} {evs : List Ev} {W : OW} : W.run m w l (evs ++ [e]) = (W.run m w l evs).step m w l e := by
  unfold OW.run
  rw [List.foldl_append]
  rfl
theorem Now.far {K : PySem.W.Frag} {d : Addr} {H H3 H4 : Hp} {l l' : List Cel} {ts : List (Addr × List V)} (F : Aft [d] H H3) (fr : ∀ c ∈ l, H c.a = none) (N : Now K (some d) (d :: l.map Cel.a) H3 H4 l' ts) : Aft [d] H H4 ∧ ∀ c ∈ l', c.w = true → H c.a = none := by
  have nd : ∀ c ∈ l', c.a ≠ d := fun c hc e => (N.dc d rfl).2.2 (List.mem_map.mpr ⟨c, hc, e⟩)
  refine ⟨F.call N.af fun x hx => ?_, fun c hc hw => ?_⟩
  · rcases List.mem_cons.mp hx with z | z
    · exact .inl (by simp [z])
    · obtain ⟨c, hc, rfl⟩ := List.mem_map.mp z
      exact .inr (fr c hc)
  · rcases N.ow c hc hw with z | z
    · rcases List.mem_cons.mp z with y | y
      · exact absurd y (nd c hc)
      · obtain ⟨b, hb, e⟩ := List.mem_map.mp y
        rw [← e]
        exact fr b hb
    · exact F.free (by simpa using nd c hc) z
theorem rebaseD2 {K : PySem.W.Frag} {d : Addr} {M : List Addr} {H0 H : Hp} {l : List Cel} {ts : List (Addr × List V)} (N : Now K (some d) M H0 H l ts) : Now K (some d) (d :: l.map Cel.a) H H l ts :=
  .start N.nd (fun c hc => ⟨N.at_ c hc, N.mu c hc, fun _ => List.mem_cons_of_mem _ (List.mem_map.mpr ⟨c, hc, rfl⟩)⟩) N.tp fun e he => by
    cases he
    obtain ⟨h1, h2, h3⟩ := N.dc d rfl
    exact ⟨h1, List.mem_cons_self, h3⟩
abbrev OW.zero : OW := ⟨⟨-1, []⟩, ⟨0, []⟩, [], []⟩
def Evs (H : Hp) : List V → List Ev → Prop := Paired fun v e => ∃ t, v = .ref t ∧ H t = some (.tup (Ev.v e))
theorem Evs.keep {M : List Addr} {H H' : Hp} {ev : List V} {es : List Ev} (h : Evs H ev es) (A : Aft M H H') : Evs H' ev es := Paired.mapP h fun _ _ ⟨t, e1, e2⟩ => ⟨t, e1, A.t _ _ e2⟩
section
variable {P : Program} {w : World} {K : PySem.W.Frag} {mg : Str → Option Value} {base : Heap}
theorem sc_l_events : FnScope ["_law_d", "_law_setting_here", "_law_most", "_law_w", "_law_found", "_law_often", "_law_turn", "_law_event_here"] ["_law_d", "_law_setting_here", "_law_most"] (defScope s_l_events) := ⟨rfl, rfl, rfl, by decide +kernel, rfl, by decide +kernel, by decide +kernel⟩
theorem bd_l_events : Bd "_law_events" "_law_events" s_l_events ["_law_d", "_law_setting_here", "_law_most"] := fun _ _ _ _ _ _ us hl => match us, hl with | [_, _, _], _ => rfl
def spOEvents (K : PySem.W.Frag) : Sp := fun vs H Q _ => ∃ (d st : Addr) (m w l a most : Int), vs = [.ref d, .ref st, .int most] ∧ Dice K H d ∧ H st = some (.tup (StV m w l a)) ∧ OkS m w l a ∧ (0 ≤ most ∧ most ≤ 1000) ∧
  ∀ (L : Addr) (lv : List V) (es : List Ev) H', H L = none → Aft [d] H H' → Dice K H' d → H' L = some (.lst lv) → Evs H' lv es → OW.legal m w l a .zero es → (es.length : Int) ≤ most → Q (.ref L) H'
theorem ok_OEvents (F : Def K mg "_law_events" s_l_events) (B : Bt mg) (c_l_next : Cal P w K mg base CX0 1 "_law_next" ["_law_dice_here", "_law_many"] (spNext K)) (c__law_world : Cal P w K mg base CX0 2 "_law_world" [] spOWorld)
    (c_l_event : Cal P w K mg base CX0 3 "_law_event" ["_law_d", "_law_setting_here", "_law_w", "_law_often"] (spOEvent K)) (c_l_do : Cal P w K mg base CX0 3 "_law_do" ["_law_setting_here", "_law_w", "_law_event_here"] spODo) :
    Cal P w K mg base CX0 4 "_law_events" ["_law_d", "_law_setting_here", "_law_most"] (spOEvents K) := by
  refine F.ok sc_l_events bd_l_events (fun vs H Q E h => ?_) (fun f cdv A outer s H vs Q E hr h => ?_)
  · obtain ⟨d, st, m, w, l, a, most, rfl, _⟩ := h
    rfl
  · obtain ⟨d, st, m, w, l, a, most, rfl, hD, ht, hok, hmost, k⟩ := h
    have hok' := hok
    unfold OkS at hok'
    refine ⟨_, PSs.nox (pss_cons (ps_set (i := 3) sc_l_events.nd rfl (by first | exact Or.inl rfl | exact Or.inr rfl) (pe_cal0 c__law_world (hr.mono (by decide)) pass0))
      (pss_cons (ps_set (i := 4) sc_l_events.nd rfl (by first | exact Or.inl rfl | exact Or.inr rfl) (pe_lst pa_nil))
      (pss_cons (ps_set (i := 5) sc_l_events.nd rfl (by first | exact Or.inl rfl | exact Or.inr rfl) (pe_op op_add pe_int (pe_cal c_l_next (hr.mono (by decide)) pass0 (pa_cons (pv 0) (pa_cons pe_int pa_nil)))))
      (pss_cons (ps_for PassesOwn.never rfl (pi_range1 (by rfl) B.m_range (pa_cons (pe_cal c_l_next (hr.mono (by decide)) pass0 (pa_cons (pv 0) (pa_cons (pe_op op_add (pv 2) pe_int) pa_nil))) pa_nil)) (pg_name (i := 6) sc_l_events.nd rfl (by first | exact Or.inl rfl | exact Or.inr rfl))
      (pss_cons (ps_set (i := 7) sc_l_events.nd rfl (by first | exact Or.inl rfl | exact Or.inr rfl) (pe_cal c_l_event (hr.mono (by decide)) pass0 (pa_cons (pv 0) (pa_cons (pv 1) (pa_cons (pv 3) (pa_cons (pv 5) pa_nil))))))
      (pss_one (ps_if (pt_cmpR (op_neDK K rfl hr.units) (pv 7) (pe_tup pa_nil) (nomark _)) (pss_cons (ps_expr (pe_bmK K rfl PySem.F.plainAttrs_list PySem.F.slot_list_append PySem.F.type_list_append mt_append (pv 4) (pa_cons (pv 7) pa_nil)))
      (pss_one (ps_expr (pe_cal c_l_do (hr.mono (by decide)) pass0 (pa_cons (pv 1) (pa_cons (pv 3) (pa_cons (pv 7) pa_nil))))))) pss_nil))))
      (pss_one (ps_ret (pv 4))))))), ?_⟩
    have N : Now K (some d) [d] H H [] [(st, StV m w l a)] := .startD hD (by simp [ht])
    walk_at "gon"
    refine ⟨rfl, fun A H1 hA0 A1 => ?_⟩
    have N1 := Now.call (fp := []) (r := []) N (by simp) A1
    clear N
    walk_at "gon"
    rename_i L H2 N2 v1 H3 N3 b1 b2 v2 H4 N4 b3 b4
    have F4 := N4.af
    have fr4 : ∀ c ∈ (⟨true, L, .lst []⟩ :: owC A .zero), H c.a = none := fun c hc => by
      have cw : c.w = true := by
        rcases List.mem_cons.mp hc with z | z
        · rw [z]
        · have : ∀ c ∈ owC A .zero, c.w = true := by simp
          exact this c z
      have hc2 : c ∈ (⟨true, L, .lst []⟩ :: (owC A .zero ++ [])) := by rw [List.append_nil]; exact hc
      rcases N4.ow c hc2 cw with z | z
      · have e : c.a = d := by simpa using z
        exact absurd (List.mem_map.mpr ⟨c, hc2, e⟩) (N4.dc d rfl).2.2
      · exact z
    have N5 : Now K (some d) (d :: (⟨true, L, .lst []⟩ :: owC A .zero).map Cel.a) H4 H4 (⟨true, L, .lst []⟩ :: owC A .zero) [(st, StV m w l a)] := rebaseD2 (N4.sub _ (fun c hc => by rw [List.append_nil]; exact hc) (by have := N4.nd; rw [List.append_nil] at this; exact this))
    refine c_forR (by omega) (fun i σ H' => ∃ A' lv es x6 x7, σ = [some (.ref d), some (.ref st), some (.int most), some (.ref A.w), some (.ref L), some (.int (1 + v1)), x6, x7] ∧ A'.w = A.w ∧ Aft [d] H H' ∧ (∀ c ∈ (⟨true, L, .lst lv⟩ :: owC A' (OW.zero.run m w l es)), H c.a = none) ∧
      Now K (some d) (d :: (⟨true, L, .lst lv⟩ :: owC A' (OW.zero.run m w l es)).map Cel.a) H' H' (⟨true, L, .lst lv⟩ :: owC A' (OW.zero.run m w l es)) [(st, StV m w l a)] ∧ Evs H' lv es ∧ Tls H' A'.tv (OW.zero.run m w l es).told ∧ OW.legal m w l a .zero es ∧ es.length ≤ i ∧ OWn m w i (OW.zero.run m w l es))
      ⟨A, [], [], _, _, rfl, rfl, F4, fr4, N5, .nil, by rw [hA0]; exact .nil, trivial, Nat.le_refl 0, OWn.start m w⟩ ?_ ?_
    · clear N5 fr4 F4 N4 N3 N2 N1
      rintro i σ H5 hi ⟨A', lv, es, _, _, rfl, eA, F, fr, N, hE, hT, hL, hn, hW⟩
      have cw : ∀ W, ∀ c ∈ owC A' W, c.w = true := fun W => by simp
      walk_at "kn"
      rw [← eA]
      refine ⟨d, st, A', m, w, l, a, 1 + v1, _, rfl, (N.dc d rfl).1, N.tup 0 rfl, hok, N.tl.ok, fun mm => (N.dc d rfl).2.2 (List.mem_cons_of_mem _ mm), hT, hW.k (by omega), by omega, fun t H6 A6 D6 hcase => ?_⟩
      have N6 := N.roll A6 D6
      have lvl : lv.length = es.length := Paired.length hE
      rcases hcase with h0 | ⟨e, he, hcan⟩
      · have N7 := N6.moreT h0
        clear N6
        walk_at "kn"
        rename_i p H8 N8
        refine g_neSc (m := []) (n := []) rfl rfl (.of (N8.tup 1 rfl)) (.of (N8.tup 0 rfl)) ?_
        walk_at "kn"
        refine c_ifdF (fun q => q rfl) ?_
        walk_at "kn"
        exact ⟨A', lv, es, _, _, rfl, rfl, (Now.far F fr N8).1, fr, rebaseD2 (N8.subT _ (by simp)), hE.keep N8.af, hT.keep N8.af, hL, Nat.le_trans hn (Nat.le_succ i), hW.up (Nat.le_succ i)⟩
      · have N7 := N6.moreT he
        clear N6
        walk_at "kn"
        rename_i p H8 N8
        refine g_neSc (m := e.sc) (n := []) e.scOk rfl (.of (N8.tup 1 rfl)) (.of (N8.tup 0 rfl)) ?_
        walk_at "kn"
        refine c_ifdT (by cases e <;> simp [Ev.sc]) ?_
        walk_at "kn"
        refine g_app0 N8 (by omega) fun H9 N9 => ?_
        walk_at "kn"
        refine ⟨st, t, A', m, w, l, a, _, e, rfl, N9.tup 2 rfl, hok, N9.tl.ok, hT.keep N9.af, N9.tup 1 rfl, hW.k (by omega), hcan, fun A2 x tt H10 eA2 AA hT2 ht2 => ?_⟩
        have N10 := Now.call (fp := owC A' (OW.zero.run m w l es)) (r := [⟨true, L, .lst (lv ++ [.ref t])⟩]) (N9.sel [1, 2, 3, 4, 5, 6, 7, 0] rfl (by decide)) (cw _) AA
        have N11 := N10.sel [7, 0, 1, 2, 3, 4, 5, 6] (l' := ⟨true, L, .lst (lv ++ [.ref t])⟩ :: owC A2 ((OW.zero.run m w l es).step m w l e)) rfl (by decide)
        rw [← run_snoc] at N11 hT2
        obtain ⟨F2, fr2⟩ := Now.far F fr N11
        refine ⟨A2, lv ++ [.ref t], es ++ [e], _, _, by rw [← eA2]; rfl, eA2, F2, fun c hc => fr2 c hc ?_, rebaseD2 (N11.subT _ (by simp)), Paired.snoc (hE.keep N11.af) ⟨t, rfl, N11.tup 1 rfl⟩, hT2, legal_snoc hL hcan, ?_, ?_⟩
        · rcases List.mem_cons.mp hc with z | z
          · rw [z]
          · have cw2 : ∀ W, ∀ c ∈ owC A2 W, c.w = true := fun W => by simp
            exact cw2 _ c z
        · rw [List.length_append]
          exact Nat.add_le_add_right hn 1
        · rw [run_snoc]
          exact hW.step (by omega) (by omega) e
    · rintro σ H5 ⟨A', lv, es, _, _, rfl, eA, F, fr, N, hE, hT, hL, hn, hW⟩
      walk_at "kn"
      exact k L lv es _ (fr _ List.mem_cons_self) F (N.dc d rfl).1 (N.cell 0 rfl) hE hL (by omega)
end
/-! ### an Ear -/
structure ES where
  (m w l a newest : Int)
  met : List Int
abbrev fsE (e : ES) (st ml : Addr) : List (Str × V) := [("marks", .int e.m), ("wide", .int e.w), ("late", .int e.l), ("ahead", .int e.a), ("setting", .ref st), ("newest", .int e.newest), ("met", .ref ml)]
abbrev earC (C p dx ml st : Addr) (e : ES) : List Cel := [⟨true, p, .ins C dx (fsE e st ml)⟩, ⟨true, ml, .lst (e.met.map V.int)⟩]
structure ETx (K : PySem.W.Frag) (C : Addr) : Prop where
  cl : Cls K C
  n1 : NoAttr K C "marks"
  n2 : NoAttr K C "wide"
  n3 : NoAttr K C "late"
  n4 : NoAttr K C "ahead"
  n5 : NoAttr K C "setting"
  n6 : NoAttr K C "newest"
  n7 : NoAttr K C "met"
def ES.least (e : ES) : Int := max 0 (e.newest - e.l)
def ES.taken (e : ES) (k : Int) : Int := e.least + (k - e.least) % e.m
def ES.put (e : ES) (n : Int) : ES := { e with newest := max e.newest n, met := (e.met ++ [n]).filter fun x => decide (x ≥ max e.newest n - e.w) }
def ES.come (e : ES) (n : Int) : ES := if n ∈ e.met then e else if n < e.newest - e.w then e else e.put n
def ES.word (e : ES) (n : Int) : Str := if n ∈ e.met then "again" else if n < e.newest - e.w then "old" else "new"
def ES.bits (e : ES) : List Int := (List.range e.w.toNat).map fun (k : Nat) => if e.newest - 1 - (k : Int) ∈ e.met then 1 else 0
structure EOk (e : ES) : Prop where
  ok : OkS e.m e.w e.l e.a
  lo : -1 ≤ e.newest
  nd : e.met.Nodup
  met : ∀ x ∈ e.met, e.newest - e.w ≤ x ∧ x ≤ e.newest ∧ 0 ≤ x
theorem nd_len' : ∀ {a b : List Int}, a.Nodup → (∀ x ∈ a, x ∈ b) → a.length ≤ b.length
  | [], _, _, _ => Nat.zero_le _
  | x :: a, b, hn, hs => by
    obtain ⟨h1, h2⟩ := List.nodup_cons.mp hn
    have hx : x ∈ b := hs x List.mem_cons_self
    have ih := nd_len' (a := a) (b := b.erase x) h2 fun y hy => by
      have hne : y ≠ x := fun e => h1 (e ▸ hy)
      exact (List.mem_erase_of_ne hne).2 (hs y (List.mem_cons_of_mem _ hy))
    have e := List.length_erase_of_mem hx
    have hp : 0 < b.length := List.length_pos_of_mem hx
    rw [List.length_cons]
    omega
/-- different numbers of a stretch -/
theorem nd_span {a : List Int} {lo : Int} {n : Nat} (hn : a.Nodup) (h : ∀ x ∈ a, lo ≤ x ∧ x < lo + n) : a.length ≤ n := by
  have := nd_len' (b := (List.range n).map fun (k : Nat) => lo + (k : Int)) hn fun x hx => by
    have := h x hx
    exact List.mem_map.mpr ⟨(x - lo).toNat, List.mem_range.mpr (by omega), by omega⟩
  rwa [List.length_map, List.length_range] at this
theorem EOk.len {e : ES} (h : EOk e) : e.met.length ≤ 17 := by
  have hw := h.ok.2.1
  refine nd_span (lo := e.newest - 16) h.nd fun x hx => ?_
  have := h.met x hx
  omega
theorem taken_lo {e : ES} (h : EOk e) (k : Int) : 0 ≤ e.taken k := by
  have h1 := h.ok.1
  have : 0 ≤ (k - e.least) % e.m := Int.emod_nonneg _ (by omega)
  have : 0 ≤ e.least := by unfold ES.least; omega
  unfold ES.taken
  omega
theorem put_ok {e : ES} (h : EOk e) {n : Int} (hn : 0 ≤ n) (hm : n ∉ e.met) : EOk (e.put n) where
  ok := h.ok
  lo := by
    show -1 ≤ max e.newest n
    omega
  nd := by
    refine List.Pairwise.filter _ ?_
    refine (List.nodup_append (l₁ := e.met) (l₂ := [n])).mpr ⟨h.nd, by simp, fun a ha b hb => ?_⟩
    rintro rfl
    have : a = n := by simpa using hb
    exact hm (this ▸ ha)
  met := fun x hx => by
    have hx := List.mem_filter.mp hx
    have h1 := of_decide_eq_true hx.2
    show max e.newest n - e.w ≤ x ∧ x ≤ max e.newest n ∧ 0 ≤ x
    rcases List.mem_append.mp hx.1 with q | q
    · have := h.met x q
      omega
    · have : x = n := by simpa using q
      omega
theorem come_ok {e : ES} (h : EOk e) {n : Int} (hn : 0 ≤ n) : EOk (e.come n) := by
  unfold ES.come
  split
  · exact h
  · rename_i c
    split
    · exact h
    · exact put_ok h hn c
section
variable {P : Program} {w : World} {K : PySem.W.Frag} {mg : Str → Option Value} {base : Heap} {C : Addr}
theorem sc_Ear_init : FnScope ["self", "setting"] ["self", "setting"] (defScope s_Ear_init) := ⟨rfl, rfl, rfl, by decide +kernel, rfl, by decide +kernel, by decide +kernel⟩
theorem bd_Ear_init : Bd "__init__" "Ear.__init__" s_Ear_init ["self", "setting"] := fun _ _ _ _ _ _ us hl => match us, hl with | [_, _], _ => rfl
def spEInit (C : Addr) : Sp := fun vs H Q _ => ∃ (p dx t : Addr) (m w l a : Int), vs = [.ref p, .ref t] ∧ H p = some (.ins C dx []) ∧ H t = some (.tup (StV m w l a)) ∧ OkS m w l a ∧
  ∀ (ml : Addr) (H' : Hp), Aftr [⟨true, p, .ins C dx []⟩] (earC C p dx ml t ⟨m, w, l, a, -1, []⟩) H H' → Q .non H'
theorem ok_EInit (F : DefC K mg C "Ear" "Ear.__init__" s_Ear_init) (T : ETx K C) (B : Bt mg) (c_need_setting : Cal P w K mg base CX0 1 "need_setting" ["setting"] spNeedS) : CalC P w K mg base CX0 C 2 "Ear" ["self", "setting"] (spEInit C) := by
  refine F.ok sc_Ear_init bd_Ear_init (fun vs H Q E h => ?_) (fun f cdv A outer s H vs Q E hr h => ?_)
  · obtain ⟨p, dx, t, m, w, l, a, rfl, _⟩ := h
    rfl
  · obtain ⟨p, dx, t, m, w, l, a, rfl, hp, ht, hs, k⟩ := h
    obtain ⟨cl, n1, n2, n3, n4, n5, n6, n7⟩ := T
    refine ⟨_, PSs.nox (pss_cons (ps_expr (pe_cal c_need_setting (hr.mono (by decide)) pass0 (pa_cons (pv 1) pa_nil)))
      (pss_cons (ps_asg (pv 1) (pg_tup rfl (pgs_cons (pg_attr (pv 0)) (pgs_cons (pg_attr (pv 0)) (pgs_cons (pg_attr (pv 0)) (pgs_cons (pg_attr (pv 0)) pgs_nil))))))
      (pss_cons (ps_fldK K rfl (pv 0) (pe_callTy (cr_tupTK K rfl) (by rfl) B.m_tuple (by decide +kernel) (pa_cons (pv 1) pa_nil)) rfl)
      (pss_cons (ps_fldK K rfl (pv 0) (pe_un un_neg pe_int) rfl)
      (pss_one (ps_fldK K rfl (pv 0) (pe_lst pa_nil) rfl)))))), ?_⟩
    have N : Now K none [p] H H [⟨true, p, .ins C dx []⟩] [(t, StV m w l a)] := .start (by simp) (by simp [hp, Mut]) (by simp [ht]) (by simp)
    walk_at "go"
    refine ⟨t, m, w, l, a, rfl, ht, hs, ?_⟩
    walk_at "k"
    rename_i N9
    exact k _ _ (Now.done (N9.sel [1, 0] rfl (by decide)) (by simp))
theorem sc_Ear_taken : FnScope ["self", "mark", "least"] ["self", "mark"] (defScope s_Ear_taken) := ⟨rfl, rfl, rfl, by decide +kernel, rfl, by decide +kernel, by decide +kernel⟩
theorem bd_Ear_taken : Bd "taken" "Ear.taken" s_Ear_taken ["self", "mark"] := fun _ _ _ _ _ _ us hl => match us, hl with | [_, _], _ => rfl
def spETaken (K : PySem.W.Frag) (C : Addr) : Sp := fun vs H Q _ => ∃ (p dx ml st : Addr) (e : ES) (n : Int), vs = [.ref p, .int n] ∧ CelOk H (earC C p dx ml st e) ∧ EOk e ∧ Q (.int (e.taken n)) H
theorem ok_ETaken (F : DefM K C "taken" "Ear.taken" s_Ear_taken) (T : ETx K C) (B : Bt mg) : CalM P w K mg base CX0 C 1 "taken" ["self", "mark"] (spETaken K C) := by
  refine F.ok sc_Ear_taken bd_Ear_taken (fun vs H Q E h => ?_) (fun f cdv A outer s H vs Q E hr h => ?_)
  · obtain ⟨p, dx, ml, st, e, n, rfl, _⟩ := h
    rfl
  · obtain ⟨p, dx, ml, st, e, n, rfl, hc, he, k⟩ := h
    obtain ⟨cl, n1, n2, n3, n4, n5, n6, n7⟩ := T
    refine ⟨_, PSs.nox (pss_cons (ps_set (i := 2) sc_Ear_taken.nd rfl (by first | exact Or.inl rfl | exact Or.inr rfl) (pe_callB (cr_max2 rfl) (by rfl) B.m_max (by decide +kernel) (pa_cons pe_int (pa_cons (pe_op op_sub (pe_fldK K rfl (pv 0) rfl) (pe_fldK K rfl (pv 0) rfl)) pa_nil))))
      (pss_one (ps_ret (pe_op op_add (pv 2) (pe_op op_mod (pe_op op_sub (pv 1) (pv 2)) (pe_fldK K rfl (pv 0) rfl)))))), ?_⟩
    have hm := he.ok.1.1
    have N : Now K none _ H H (earC C p dx ml st e) [] := .begin hc (by simp)
    walk_at "go"
    exact k
theorem sc_Ear_last : FnScope ["self"] ["self"] (defScope s_Ear_last) := ⟨rfl, rfl, rfl, by decide +kernel, rfl, by decide +kernel, by decide +kernel⟩
theorem bd_Ear_last : Bd "last" "Ear.last" s_Ear_last ["self"] := fun _ _ _ _ _ _ us hl => match us, hl with | [_], _ => rfl
def spELast (K : PySem.W.Frag) (C : Addr) : Sp := fun vs H Q _ => ∃ (p dx ml st : Addr) (e : ES), vs = [.ref p] ∧ CelOk H (earC C p dx ml st e) ∧ Q (.int e.newest) H
theorem ok_ELast (F : DefM K C "last" "Ear.last" s_Ear_last) (T : ETx K C) : CalM P w K mg base CX0 C 1 "last" ["self"] (spELast K C) := by
  refine F.ok sc_Ear_last bd_Ear_last (fun vs H Q E h => ?_) (fun f cdv A outer s H vs Q E hr h => ?_)
  · obtain ⟨p, dx, ml, st, e, rfl, _⟩ := h
    rfl
  · obtain ⟨p, dx, ml, st, e, rfl, hc, k⟩ := h
    obtain ⟨cl, n1, n2, n3, n4, n5, n6, n7⟩ := T
    refine ⟨_, PSs.nox (pss_one (ps_ret (pe_fldK K rfl (pv 0) rfl))), ?_⟩
    have N : Now K none _ H H (earC C p dx ml st e) [] := .begin hc (by simp)
    walk_at "go"
    exact k
theorem sc_Ear_come : FnScope ["self", "mark", "number", "one"] ["self", "mark"] (defScope s_Ear_come) := ⟨rfl, rfl, rfl, by decide +kernel, rfl, by decide +kernel, by decide +kernel⟩
theorem bd_Ear_come : Bd "come" "Ear.come" s_Ear_come ["self", "mark"] := fun _ _ _ _ _ _ us hl => match us, hl with | [_, _], _ => rfl
def spECome (K : PySem.W.Frag) (C : Addr) : Sp := fun vs H Q _ => ∃ (p dx ml st : Addr) (e : ES) (k : Int), vs = [.ref p, .int k] ∧ CelOk H (earC C p dx ml st e) ∧ H st = some (.tup (StV e.m e.w e.l e.a)) ∧ EOk e ∧ (0 ≤ k ∧ k < e.m) ∧
  ∀ (t ml' : Addr) H', Aftr (earC C p dx ml st e) (earC C p dx ml' st (e.come (e.taken k))) H H' → H' t = some (.tup [.int (e.taken k), .str (e.word (e.taken k))]) → Q (.ref t) H'
theorem ok_ECome (F : DefM K C "come" "Ear.come" s_Ear_come) (T : ETx K C) (B : Bt mg) (c_need_mark : Cal P w K mg base CX0 1 "need_mark" ["setting", "mark"] spNeedM) (c_Ear_taken : CalM P w K mg base CX0 C 1 "taken" ["self", "mark"] (spETaken K C)) :
    CalM P w K mg base CX0 C 2 "come" ["self", "mark"] (spECome K C) := by
  refine F.ok sc_Ear_come bd_Ear_come (fun vs H Q E h => ?_) (fun f cdv A outer s H vs Q E hr h => ?_)
  · obtain ⟨p, dx, ml, st, e, n, rfl, _⟩ := h
    rfl
  · obtain ⟨p, dx, ml, st, e, n, rfl, hc, hst, he, hn, k⟩ := h
    obtain ⟨cl_Ear, n1, n2, n3, n4, n5, n6, n7⟩ := T
    refine ⟨_, PSs.nox (pss_cons (ps_expr (pe_cal c_need_mark (hr.mono (by decide)) pass0 (pa_cons (pe_fldK K rfl (pv 0) rfl) (pa_cons (pv 1) pa_nil))))
      (pss_cons (ps_set (i := 2) sc_Ear_come.nd rfl (by first | exact Or.inl rfl | exact Or.inr rfl) (pe_calM (pv 0) cl_Ear c_Ear_taken (hr.mono (by decide)) pass0 (pa_cons (pv 1) pa_nil)))
      (pss_cons (ps_if (pt_cmpR (op_in_seqK K rfl) (pv 2) (pe_fldK K rfl (pv 0) rfl) (by rfl)) (pss_one (ps_ret (pe_tup (pa_cons (pv 2) (pa_cons pe_str pa_nil))))) pss_nil)
      (pss_cons (ps_if (pt_cmpR op_lt (pv 2) (pe_op op_sub (pe_fldK K rfl (pv 0) rfl) (pe_fldK K rfl (pv 0) rfl)) (nomark _)) (pss_one (ps_ret (pe_tup (pa_cons (pv 2) (pa_cons pe_str pa_nil))))) pss_nil)
      (pss_cons (ps_fldK K rfl (pv 0) (pe_callB (cr_max2 rfl) (by rfl) B.m_max (by decide +kernel) (pa_cons (pe_fldK K rfl (pv 0) rfl) (pa_cons (pv 2) pa_nil))) rfl)
      (pss_cons (ps_fldK K rfl (pv 0) (pe_lc (own := [("one", 3)]) (g := (gName 3)) rfl sc_Ear_come.nd (pi_listK K rfl (pe_op op_cat (pe_fldK K rfl (pv 0) rfl) (pe_lst (pa_cons (pv 2) pa_nil)))) (blkOk_by (own := [("one", 3)]) (N := ["self", "mark", "number", "one"]) (sc := defScope s_Ear_come) (by decide +kernel)) (fun _ _ _ _ _ => (pg_name (i := 3) sc_Ear_come.nd rfl (by first | exact Or.inl rfl | exact Or.inr rfl))) (fun _ _ _ _ _ => (pts_one (pt_cmpR op_ge (pv 3) (pe_op op_sub (pe_fldK K rfl (pv 0) rfl) (pe_fldK K rfl (pv 0) rfl)) (nomark _)))) (fun _ _ _ _ _ => (pv 3))) rfl)
      (pss_one (ps_ret (pe_tup (pa_cons (pv 2) (pa_cons pe_str pa_nil))))))))))), ?_⟩
    have hlen := he.len
    have N : Now K none _ H H (earC C p dx ml st e) [(st, StV e.m e.w e.l e.a)] := .begin hc (by simp [hst])
    walk_at "go"
    refine ⟨st, e.m, e.w, e.l, e.a, n, rfl, hst, hn, ?_⟩
    walk_at "k"
    refine ⟨p, dx, ml, st, e, n, rfl, N.ok, he, ?_⟩
    walk_at "k"
    have ec : ∀ z, z = e.taken n → e.come z = if z ∈ e.met then e else if z < e.newest - e.w then e else e.put z := fun _ _ => rfl
    refine c_if (fun c => ?_) (fun c => ?_)
    · have c := of_decide_eq_true c
      have e1 : e.come (e.taken n) = e := if_pos c
      have e2 : e.word (e.taken n) = "again" := if_pos c
      walk_at "k"
      rename_i t H2 N2
      refine k t ml _ (by rw [e1]; exact Now.done N2 (by simp)) (by rw [e2]; exact N2.tup 0 rfl)
    · have c := of_decide_eq_false c
      walk_at "k"
      refine c_ifd (fun d => ?_) (fun d => ?_)
      · have e1 : e.come (e.taken n) = e := (if_neg c).trans (if_pos d)
        have e2 : e.word (e.taken n) = "old" := (if_neg c).trans (if_pos d)
        walk_at "k"
        rename_i t H2 N2
        refine k t ml _ (by rw [e1]; exact Now.done N2 (by simp)) (by rw [e2]; exact N2.tup 0 rfl)
      · have e1 : e.come (e.taken n) = e.put (e.taken n) := (if_neg c).trans (if_neg d)
        have e2 : e.word (e.taken n) = "new" := (if_neg c).trans (if_neg d)
        walk_at "k"
        rename_i p1 H2 N2 p2 H3 N3
        have ey : e.met.map V.int ++ [V.int (e.taken n)] = (e.met ++ [e.taken n]).map V.int := by rw [List.map_append]; rfl
        rw [ey] at N3
        have l18 : (e.met ++ [e.taken n]).length ≤ 18 := by rw [List.length_append]; exact Nat.add_le_add_right hlen 1
        refine c_lc N3 ((e.met ++ [e.taken n]).map V.int) (fun i acc => acc = (((e.met ++ [e.taken n]).take i).filter fun x => decide (x ≥ max e.newest (e.taken n) - e.w)).map V.int) rfl (fun H' Dd acc N' => .of (N'.cell 1 rfl)) (fun _ => rfl) (fun i x Dd H4 acc hx N4 r => ?_) (fun pf H4 acc N4 r => ?_) (.of (N3.cell 0 rfl))
        · rw [List.getElem?_map] at hx
          obtain ⟨z, hz, rfl⟩ := Option.map_eq_some_iff.mp hx
          have la : acc.length ≤ 18 := by
            rw [r, List.length_map]
            exact Nat.le_trans (List.length_filter_le _ _) (by rw [List.length_take]; omega)
          walk_at "k"
          refine c_el (fun c => ?_) (fun c => ?_)
          · walk_at "k"
            refine c_put N4 (by omega) ?_
            show acc ++ [V.int z] = _
            rw [r, filt_snoc hz, if_pos c, List.map_append]
            rfl
          · refine ⟨acc, N4, ?_⟩
            show acc = _
            rw [r, filt_snoc hz, if_neg (fun q => by rw [show decide (z ≥ max e.newest (e.taken n) - e.w) = _ from c] at q; cases q)]
        · rw [List.length_map, List.take_length] at r
          subst r
          have N5 := N4.sel [3, 0, 1, 2, 4] (l' := ⟨true, p, .ins C dx (putF "newest" (V.int (max e.newest (e.taken n))) (fsE e st ml))⟩ :: ⟨true, pf, .lst ((e.put (e.taken n)).met.map V.int)⟩ :: ⟨true, p2, .lst ((e.met ++ [e.taken n]).map V.int)⟩ :: ⟨true, p1, .lst [V.int (e.taken n)]⟩ :: ⟨true, ml, .lst (e.met.map V.int)⟩ :: []) rfl (by decide)
          clear N4
          walk_at "k"
          rename_i H6 N6 t H7 N7
          exact k t pf _ (by rw [e1]; exact Now.done (N7.sel [0, 1] rfl (by decide)) (by simp)) (by rw [e2]; exact N7.tup 0 rfl)
theorem sc_Ear_tell : FnScope ["self", "bits", "k"] ["self"] (defScope s_Ear_tell) := ⟨rfl, rfl, rfl, by decide +kernel, rfl, by decide +kernel, by decide +kernel⟩
theorem bd_Ear_tell : Bd "tell" "Ear.tell" s_Ear_tell ["self"] := fun _ _ _ _ _ _ us hl => match us, hl with | [_], _ => rfl
def spETell (K : PySem.W.Frag) (C : Addr) : Sp := fun vs H Q _ => ∃ (p dx ml st : Addr) (e : ES), vs = [.ref p] ∧ CelOk H (earC C p dx ml st e) ∧ EOk e ∧ 0 ≤ e.newest ∧
  ∀ (t b : Addr) H', Aft [] H H' → H' t = some (.tup [.int (e.newest % e.m), .ref b]) → H' b = some (.tup (e.bits.map V.int)) → Q (.ref t) H'
theorem ok_ETell (F : DefM K C "tell" "Ear.tell" s_Ear_tell) (T : ETx K C) (B : Bt mg) : CalM P w K mg base CX0 C 1 "tell" ["self"] (spETell K C) := by
  refine F.ok sc_Ear_tell bd_Ear_tell (fun vs H Q E h => ?_) (fun f cdv A outer s H vs Q E hr h => ?_)
  · obtain ⟨p, dx, ml, st, e, rfl, _⟩ := h
    rfl
  · obtain ⟨p, dx, ml, st, e, rfl, hc, he, h0, k⟩ := h
    obtain ⟨cl_Ear, n1, n2, n3, n4, n5, n6, n7⟩ := T
    refine ⟨_, PSs.nox (pss_cons (ps_if (pt_cmpR op_lt (pe_fldK K rfl (pv 0) rfl) pe_int (nomark _)) (pss_one ps_never) pss_nil)
      (pss_cons (ps_setLc (i := 1) (own := [("k", 2)]) (g := (gName 2)) rfl sc_Ear_tell.nd rfl rfl (sw_true rfl rfl rfl (by decide +kernel)) (pi_range1 (by rfl) B.m_range (pa_cons (pe_fldK K rfl (pv 0) rfl) pa_nil)) (blkOk_by (own := [("k", 2)]) (N := ["self", "bits", "k"]) (sc := defScope s_Ear_tell) (by decide +kernel)) (fun _ _ _ _ _ => (pg_name (i := 2) sc_Ear_tell.nd rfl (by first | exact Or.inl rfl | exact Or.inr rfl))) (fun _ _ _ _ _ => pts_nil) (fun _ _ _ _ _ => (pe_callTy cr_intB (by rfl) B.m_int (by decide +kernel) (pa_cons (pe_cmpR (op_in_seqK K rfl) (pe_op op_sub (pe_op op_sub (pe_fldK K rfl (pv 0) rfl) pe_int) (pv 2)) (pe_fldK K rfl (pv 0) rfl) (by rfl)) pa_nil))))
      (pss_one (ps_ret (pe_tup (pa_cons (pe_op op_mod (pe_fldK K rfl (pv 0) rfl) (pe_fldK K rfl (pv 0) rfl)) (pa_cons (pe_callTy (cr_tupLK K rfl) (by rfl) B.m_tuple (by decide +kernel) (pa_cons (pv 1) pa_nil)) pa_nil))))))), ?_⟩
    have hlen := he.len
    have hok := he.ok
    unfold OkS at hok
    have N : Now K none [] H H ((earC C p dx ml st e).map Cel.ro) [] := .read hc (by simp)
    walk_at "go"
    refine c_lcR N (by omega) (fun k acc => acc = ((List.range k).map fun (k : Nat) => V.int (if e.newest - 1 - (k : Int) ∈ e.met then 1 else 0))) rfl (fun _ => rfl) (fun i Dd H2 acc hi N2 r => ?_) (fun q H2 acc N2 r => ?_)
    · have la : acc.length = i := by rw [r, List.length_map, List.length_range]
      walk_at "k"
      refine c_put N2 (by omega) ?_
      show acc ++ [V.int (if decide (e.newest - 1 - (i : Int) ∈ e.met) = true then 1 else 0)] = _
      rw [r, List.range_succ, List.map_append]
      simp only [decide_eq_true_eq]
      rfl
    · have eb : acc = e.bits.map V.int := by
        rw [r]
        unfold ES.bits
        rw [List.map_map]
        rfl
      rw [eb] at N2
      walk_at "k"
      rename_i H3 N3 t H4 N4
      exact k t _ _ N4.af (N4.tup 0 rfl) (N4.tup 1 rfl)
end
/-! ### a Mouth -/
structure MS where
  (m w l a sent top : Int)
  certain : List Int
abbrev fsM (s : MS) (st cl : Addr) : List (Str × V) := [("marks", .int s.m), ("wide", .int s.w), ("late", .int s.l), ("ahead", .int s.a), ("setting", .ref st), ("sent", .int s.sent), ("certain", .ref cl), ("top", .int s.top)]
abbrev mouthC (C p dx cl st : Addr) (s : MS) : List Cel := [⟨true, p, .ins C dx (fsM s st cl)⟩, ⟨true, cl, .lst (s.certain.map V.int)⟩]
structure MTx (K : PySem.W.Frag) (C : Addr) : Prop where
  cl : Cls K C
  n1 : NoAttr K C "marks"
  n2 : NoAttr K C "wide"
  n3 : NoAttr K C "late"
  n4 : NoAttr K C "ahead"
  n5 : NoAttr K C "setting"
  n6 : NoAttr K C "sent"
  n7 : NoAttr K C "certain"
  n8 : NoAttr K C "top"
def MS.full (s : MS) : Bool := decide (s.sent - s.top > s.a)
def MS.send (s : MS) : MS := { s with sent := s.sent + 1 }
def MS.number (s : MS) (k : Int) : Int := s.sent - 1 - (s.sent - 1 - k) % s.m
def MS.far (s : MS) (k : Int) (bs : List Int) (n : Nat) : List Int := ((List.range n).filter fun i => decide (bs.getD i 0 = 1)).map fun (i : Nat) => s.number k - 1 - (i : Int)
def MS.some (s : MS) (k : Int) (bs : List Int) : List Int := s.far k bs s.w.toNat ++ [s.number k]
def MS.found (s : MS) (k : Int) (bs : List Int) : List Int := srt ((s.some k bs).filter fun x => decide (x ∉ s.certain))
def MS.hear (s : MS) (k : Int) (bs : List Int) : MS := { s with certain := srt (s.certain ++ s.found k bs), top := max s.top (s.number k) }
structure MOk (s : MS) : Prop where
  ok : OkS s.m s.w s.l s.a
  len : s.certain.length ≤ 50000
theorem far_len (s : MS) (k : Int) (bs : List Int) (n : Nat) : (s.far k bs n).length ≤ n := by
  unfold MS.far
  rw [List.length_map]
  exact Nat.le_trans (List.length_filter_le _ _) (by rw [List.length_range]; exact Nat.le_refl _)
theorem some_len {s : MS} (h : MOk s) (k : Int) (bs : List Int) : (s.some k bs).length ≤ 17 := by
  have := far_len s k bs s.w.toNat
  have := h.ok.2.1
  unfold MS.some
  rw [List.length_append]
  simp
  omega
theorem foundM_len {s : MS} (h : MOk s) (k : Int) (bs : List Int) : (s.found k bs).length ≤ 17 := by
  have := some_len h k bs
  unfold MS.found
  rw [srt_len]
  exact Nat.le_trans (List.length_filter_le _ _) this
section
variable {P : Program} {w : World} {K : PySem.W.Frag} {mg : Str → Option Value} {base : Heap} {C : Addr}
theorem sc_Mouth_init : FnScope ["self", "setting"] ["self", "setting"] (defScope s_Mouth_init) := ⟨rfl, rfl, rfl, by decide +kernel, rfl, by decide +kernel, by decide +kernel⟩
theorem bd_Mouth_init : Bd "__init__" "Mouth.__init__" s_Mouth_init ["self", "setting"] := fun _ _ _ _ _ _ us hl => match us, hl with | [_, _], _ => rfl
def spMInit (C : Addr) : Sp := fun vs H Q _ => ∃ (p dx t : Addr) (m w l a : Int), vs = [.ref p, .ref t] ∧ H p = some (.ins C dx []) ∧ H t = some (.tup (StV m w l a)) ∧ OkS m w l a ∧
  ∀ (cl : Addr) (H' : Hp), Aftr [⟨true, p, .ins C dx []⟩] (mouthC C p dx cl t ⟨m, w, l, a, 0, -1, []⟩) H H' → Q .non H'
theorem ok_MInit (F : DefC K mg C "Mouth" "Mouth.__init__" s_Mouth_init) (T : MTx K C) (B : Bt mg) (c_need_setting : Cal P w K mg base CX0 1 "need_setting" ["setting"] spNeedS) : CalC P w K mg base CX0 C 2 "Mouth" ["self", "setting"] (spMInit C) := by
  refine F.ok sc_Mouth_init bd_Mouth_init (fun vs H Q E h => ?_) (fun f cdv A outer s H vs Q E hr h => ?_)
  · obtain ⟨p, dx, t, m, w, l, a, rfl, _⟩ := h
    rfl
  · obtain ⟨p, dx, t, m, w, l, a, rfl, hp, ht, hs, k⟩ := h
    obtain ⟨cl, n1, n2, n3, n4, n5, n6, n7, n8⟩ := T
    refine ⟨_, PSs.nox (pss_cons (ps_expr (pe_cal c_need_setting (hr.mono (by decide)) pass0 (pa_cons (pv 1) pa_nil)))
      (pss_cons (ps_asg (pv 1) (pg_tup rfl (pgs_cons (pg_attr (pv 0)) (pgs_cons (pg_attr (pv 0)) (pgs_cons (pg_attr (pv 0)) (pgs_cons (pg_attr (pv 0)) pgs_nil))))))
      (pss_cons (ps_fldK K rfl (pv 0) (pe_callTy (cr_tupTK K rfl) (by rfl) B.m_tuple (by decide +kernel) (pa_cons (pv 1) pa_nil)) rfl)
      (pss_cons (ps_fldK K rfl (pv 0) pe_int rfl)
      (pss_cons (ps_fldK K rfl (pv 0) (pe_lst pa_nil) rfl)
      (pss_one (ps_fldK K rfl (pv 0) (pe_un un_neg pe_int) rfl))))))), ?_⟩
    have N : Now K none [p] H H [⟨true, p, .ins C dx []⟩] [(t, StV m w l a)] := .start (by simp) (by simp [hp, Mut]) (by simp [ht]) (by simp)
    walk_at "go"
    refine ⟨t, m, w, l, a, rfl, ht, hs, ?_⟩
    walk_at "k"
    rename_i N9
    exact k _ _ (Now.done (N9.sel [1, 0] rfl (by decide)) (by simp))
theorem sc_Mouth_is_full : FnScope ["self"] ["self"] (defScope s_Mouth_is_full) := ⟨rfl, rfl, rfl, by decide +kernel, rfl, by decide +kernel, by decide +kernel⟩
theorem bd_Mouth_is_full : Bd "is_full" "Mouth.is_full" s_Mouth_is_full ["self"] := fun _ _ _ _ _ _ us hl => match us, hl with | [_], _ => rfl
def spMFull (K : PySem.W.Frag) (C : Addr) : Sp := fun vs H Q _ => ∃ (p dx cl st : Addr) (s : MS), vs = [.ref p] ∧ CelOk H (mouthC C p dx cl st s) ∧ Q (.bl s.full) H
theorem ok_MFull (F : DefM K C "is_full" "Mouth.is_full" s_Mouth_is_full) (T : MTx K C) : CalM P w K mg base CX0 C 1 "is_full" ["self"] (spMFull K C) := by
  refine F.ok sc_Mouth_is_full bd_Mouth_is_full (fun vs H Q E h => ?_) (fun f cdv A outer s H vs Q E hr h => ?_)
  · obtain ⟨p, dx, cl, st, e, rfl, _⟩ := h
    rfl
  · obtain ⟨p, dx, cl, st, e, rfl, hc, k⟩ := h
    obtain ⟨cl_Mouth, n1, n2, n3, n4, n5, n6, n7, n8⟩ := T
    refine ⟨_, PSs.nox (pss_one (ps_ret (pe_cmpR op_gt (pe_op op_sub (pe_fldK K rfl (pv 0) rfl) (pe_fldK K rfl (pv 0) rfl)) (pe_fldK K rfl (pv 0) rfl) (nomark _)))), ?_⟩
    have N : Now K none [] H H ((mouthC C p dx cl st e).map Cel.ro) [] := .read hc (by simp)
    walk_at "go"
    exact k
theorem sc_Mouth_last : FnScope ["self"] ["self"] (defScope s_Mouth_last) := ⟨rfl, rfl, rfl, by decide +kernel, rfl, by decide +kernel, by decide +kernel⟩
theorem bd_Mouth_last : Bd "last" "Mouth.last" s_Mouth_last ["self"] := fun _ _ _ _ _ _ us hl => match us, hl with | [_], _ => rfl
def spMLast (K : PySem.W.Frag) (C : Addr) : Sp := fun vs H Q _ => ∃ (p dx cl st : Addr) (s : MS), vs = [.ref p] ∧ CelOk H (mouthC C p dx cl st s) ∧ Q (.int (s.sent - 1)) H
theorem ok_MLast (F : DefM K C "last" "Mouth.last" s_Mouth_last) (T : MTx K C) : CalM P w K mg base CX0 C 1 "last" ["self"] (spMLast K C) := by
  refine F.ok sc_Mouth_last bd_Mouth_last (fun vs H Q E h => ?_) (fun f cdv A outer s H vs Q E hr h => ?_)
  · obtain ⟨p, dx, cl, st, e, rfl, _⟩ := h
    rfl
  · obtain ⟨p, dx, cl, st, e, rfl, hc, k⟩ := h
    obtain ⟨cl_Mouth, n1, n2, n3, n4, n5, n6, n7, n8⟩ := T
    refine ⟨_, PSs.nox (pss_one (ps_ret (pe_op op_sub (pe_fldK K rfl (pv 0) rfl) pe_int))), ?_⟩
    have N : Now K none [] H H ((mouthC C p dx cl st e).map Cel.ro) [] := .read hc (by simp)
    walk_at "go"
    exact k
theorem sc_Mouth_sure : FnScope ["self"] ["self"] (defScope s_Mouth_sure) := ⟨rfl, rfl, rfl, by decide +kernel, rfl, by decide +kernel, by decide +kernel⟩
theorem bd_Mouth_sure : Bd "sure" "Mouth.sure" s_Mouth_sure ["self"] := fun _ _ _ _ _ _ us hl => match us, hl with | [_], _ => rfl
def spMSure (K : PySem.W.Frag) (C : Addr) : Sp := fun vs H Q _ => ∃ (p dx cl st : Addr) (s : MS), vs = [.ref p] ∧ CelOk H (mouthC C p dx cl st s) ∧ ∀ l H', H l = none → Aft [] H H' → H' l = some (.lst (s.certain.map V.int)) → Q (.ref l) H'
theorem ok_MSure (F : DefM K C "sure" "Mouth.sure" s_Mouth_sure) (T : MTx K C) (B : Bt mg) : CalM P w K mg base CX0 C 1 "sure" ["self"] (spMSure K C) := by
  refine F.ok sc_Mouth_sure bd_Mouth_sure (fun vs H Q E h => ?_) (fun f cdv A outer s H vs Q E hr h => ?_)
  · obtain ⟨p, dx, cl, st, e, rfl, _⟩ := h
    rfl
  · obtain ⟨p, dx, cl, st, e, rfl, hc, k⟩ := h
    obtain ⟨cl_Mouth, n1, n2, n3, n4, n5, n6, n7, n8⟩ := T
    refine ⟨_, PSs.nox (pss_one (ps_ret (pe_callTy (cr_lstSK K rfl) (by rfl) B.m_list (by decide +kernel) (pa_cons (pe_fldK K rfl (pv 0) rfl) pa_nil)))), ?_⟩
    have N : Now K none [] H H ((mouthC C p dx cl st e).map Cel.ro) [] := .read hc (by simp)
    walk_at "go"
    rename_i l H2 N2
    exact k _ _ ((N2.ow ⟨true, l, _⟩ List.mem_cons_self rfl).resolve_left (by simp)) N2.af (N2.cell 0 rfl)
theorem sc_Mouth_send : FnScope ["self", "number"] ["self"] (defScope s_Mouth_send) := ⟨rfl, rfl, rfl, by decide +kernel, rfl, by decide +kernel, by decide +kernel⟩
theorem bd_Mouth_send : Bd "send" "Mouth.send" s_Mouth_send ["self"] := fun _ _ _ _ _ _ us hl => match us, hl with | [_], _ => rfl
def spMSend (K : PySem.W.Frag) (C : Addr) : Sp := fun vs H Q _ => ∃ (p dx cl st : Addr) (s : MS), vs = [.ref p] ∧ CelOk H (mouthC C p dx cl st s) ∧ OkS s.m s.w s.l s.a ∧ s.full = false ∧
  ∀ t H', Aftr (mouthC C p dx cl st s) (mouthC C p dx cl st s.send) H H' → H' t = some (.tup [.int s.sent, .int (s.sent % s.m)]) → Q (.ref t) H'
theorem ok_MSend (F : DefM K C "send" "Mouth.send" s_Mouth_send) (T : MTx K C) (c_Mouth_is_full : CalM P w K mg base CX0 C 1 "is_full" ["self"] (spMFull K C)) : CalM P w K mg base CX0 C 2 "send" ["self"] (spMSend K C) := by
  refine F.ok sc_Mouth_send bd_Mouth_send (fun vs H Q E h => ?_) (fun f cdv A outer s H vs Q E hr h => ?_)
  · obtain ⟨p, dx, cl, st, e, rfl, _⟩ := h
    rfl
  · obtain ⟨p, dx, cl, st, e, rfl, hc, hs, hf, k⟩ := h
    obtain ⟨cl_Mouth, n1, n2, n3, n4, n5, n6, n7, n8⟩ := T
    have hm := hs.1
    refine ⟨_, PSs.nox (pss_cons (ps_if (pt_val (pe_calM0 (pv 0) cl_Mouth c_Mouth_is_full (hr.mono (by decide)) pass0)) (pss_one ps_never) pss_nil)
      (pss_cons (ps_set (i := 1) sc_Mouth_send.nd rfl (by first | exact Or.inl rfl | exact Or.inr rfl) (pe_fldK K rfl (pv 0) rfl))
      (pss_cons (ps_fldK K rfl (pv 0) (pe_op op_add (pe_fldK K rfl (pv 0) rfl) pe_int) rfl)
      (pss_one (ps_ret (pe_tup (pa_cons (pv 1) (pa_cons (pe_op op_mod (pv 1) (pe_fldK K rfl (pv 0) rfl)) pa_nil)))))))), ?_⟩
    have N : Now K none _ H H (mouthC C p dx cl st e) [] := .begin hc (by simp)
    walk_at "go"
    refine ⟨p, dx, cl, st, e, rfl, hc, ?_⟩
    rw [hf]
    walk_at "k"
    rename_i H2 N2 t H3 N3
    exact k t _ (Now.done N3 (by simp)) (N3.tup 0 rfl)
theorem sc_Mouth_hear : FnScope ["self", "told", "mark", "bits", "last", "number", "some", "k", "found", "one"] ["self", "told"] (defScope s_Mouth_hear) := ⟨rfl, rfl, rfl, by decide +kernel, rfl, by decide +kernel, by decide +kernel⟩
theorem bd_Mouth_hear : Bd "hear" "Mouth.hear" s_Mouth_hear ["self", "told"] := fun _ _ _ _ _ _ us hl => match us, hl with | [_, _], _ => rfl
def spMHear (K : PySem.W.Frag) (C : Addr) : Sp := fun vs H Q _ => ∃ (p dx cl st q b : Addr) (s : MS) (n : Int) (bs : List Int), vs = [.ref p, .ref q] ∧ CelOk H (mouthC C p dx cl st s) ∧ H st = some (.tup (StV s.m s.w s.l s.a)) ∧ H q = some (.tup [.int n, .ref b]) ∧ H b = some (.tup (bs.map V.int)) ∧ MOk s ∧
  (0 ≤ n ∧ n < s.m) ∧ (bs.length : Int) = s.w ∧ (∀ x ∈ bs, x = 0 ∨ x = 1) ∧ (∀ x ∈ s.some n bs, 0 ≤ x) ∧
  ∀ (l cl' : Addr) H', H l = none → l ≠ cl' → Aftr (mouthC C p dx cl st s) (mouthC C p dx cl' st (s.hear n bs)) H H' → H' l = some (.lst ((s.found n bs).map V.int)) → Q (.ref l) H'
theorem ok_MHear (F : DefM K C "hear" "Mouth.hear" s_Mouth_hear) (T : MTx K C) (B : Bt mg) (c_need_bits : Cal P w K mg base CX0 2 "need_bits" ["setting", "told"] spNeedB) : CalM P w K mg base CX0 C 3 "hear" ["self", "told"] (spMHear K C) := by
  refine F.ok sc_Mouth_hear bd_Mouth_hear (fun vs H Q E h => ?_) (fun f cdv A outer s H vs Q E hr h => ?_)
  · obtain ⟨p, dx, cl, st, q, b, e, n, bs, rfl, _⟩ := h
    rfl
  · obtain ⟨p, dx, cl, st, q, b, e, n, bs, rfl, hc, hst, hq, hb, hok, hn, hl, h01, h0, k⟩ := h
    obtain ⟨cl_Mouth, n1, n2, n3, n4, n5, n6, n7, n8⟩ := T
    have hm := hok.ok.1
    have hw := hok.ok.2.1
    have hlen := hok.len
    refine ⟨_, PSs.nox (pss_cons (ps_expr (pe_cal c_need_bits (hr.mono (by decide)) pass0 (pa_cons (pe_fldK K rfl (pv 0) rfl) (pa_cons (pv 1) pa_nil))))
      (pss_cons (ps_asg (pv 1) (pg_tup rfl (pgs_cons (pg_name (i := 2) sc_Mouth_hear.nd rfl (by first | exact Or.inl rfl | exact Or.inr rfl)) (pgs_cons (pg_name (i := 3) sc_Mouth_hear.nd rfl (by first | exact Or.inl rfl | exact Or.inr rfl)) pgs_nil))))
      (pss_cons (ps_set (i := 4) sc_Mouth_hear.nd rfl (by first | exact Or.inl rfl | exact Or.inr rfl) (pe_op op_sub (pe_fldK K rfl (pv 0) rfl) pe_int))
      (pss_cons (ps_set (i := 5) sc_Mouth_hear.nd rfl (by first | exact Or.inl rfl | exact Or.inr rfl) (pe_op op_sub (pv 4) (pe_op op_mod (pe_op op_sub (pv 4) (pv 2)) (pe_fldK K rfl (pv 0) rfl))))
      (pss_cons (ps_set (i := 6) sc_Mouth_hear.nd rfl (by first | exact Or.inl rfl | exact Or.inr rfl) (pe_op op_cat (pe_lc (own := [("k", 7)]) (g := (gName 7)) rfl sc_Mouth_hear.nd (pi_range1 (by rfl) B.m_range (pa_cons (pe_fldK K rfl (pv 0) rfl) pa_nil)) (blkOk_by (own := [("k", 7)]) (N := ["self", "told", "mark", "bits", "last", "number", "some", "k", "found", "one"]) (sc := defScope s_Mouth_hear) (by decide +kernel)) (fun _ _ _ _ _ => (pg_name (i := 7) sc_Mouth_hear.nd rfl (by first | exact Or.inl rfl | exact Or.inr rfl))) (fun _ _ _ _ _ => (pts_one (pt_cmpR op_eq (pe_ix (ix_tupK K rfl) (pv 3) (pv 7) (fun _ _ => rfl)) pe_int (nomark _)))) (fun _ _ _ _ _ => (pe_op op_sub (pe_op op_sub (pv 5) pe_int) (pv 7)))) (pe_lst (pa_cons (pv 5) pa_nil))))
      (pss_cons (ps_if (pt_cmpR op_lt (pe_callB (cr_minLK K rfl rfl) (by rfl) B.m_min (by decide +kernel) (pa_cons (pv 6) pa_nil)) pe_int (nomark _)) (pss_one ps_never) pss_nil)
      (pss_cons (ps_set (i := 8) sc_Mouth_hear.nd rfl (by first | exact Or.inl rfl | exact Or.inr rfl) (pe_callB (cr_sortedIK K rfl) (by rfl) B.m_sorted (by decide +kernel) (pa_cons (pe_lc (own := [("one", 9)]) (g := (gName 9)) rfl sc_Mouth_hear.nd (pi_listK K rfl (pv 6)) (blkOk_by (own := [("one", 9)]) (N := ["self", "told", "mark", "bits", "last", "number", "some", "k", "found", "one"]) (sc := defScope s_Mouth_hear) (by decide +kernel)) (fun _ _ _ _ _ => (pg_name (i := 9) sc_Mouth_hear.nd rfl (by first | exact Or.inl rfl | exact Or.inr rfl))) (fun _ _ _ _ _ => (pts_one (pt_cmpR (op_notIn_seqK K rfl) (pv 9) (pe_fldK K rfl (pv 0) rfl) (by rfl)))) (fun _ _ _ _ _ => (pv 9))) pa_nil)))
      (pss_cons (ps_fldK K rfl (pv 0) (pe_callB (cr_sortedIK K rfl) (by rfl) B.m_sorted (by decide +kernel) (pa_cons (pe_op op_cat (pe_fldK K rfl (pv 0) rfl) (pv 8)) pa_nil)) rfl)
      (pss_cons (ps_fldK K rfl (pv 0) (pe_callB (cr_max2 rfl) (by rfl) B.m_max (by decide +kernel) (pa_cons (pe_fldK K rfl (pv 0) rfl) (pa_cons (pv 5) pa_nil))) rfl)
      (pss_one (ps_ret (pv 8)))))))))))), ?_⟩
    have N : Now K none _ H H (mouthC C p dx cl st e) [(st, StV e.m e.w e.l e.a), (q, [.int n, .ref b]), (b, bs.map V.int)] := .begin hc (by simp [hst, hq, hb])
    walk_at "go"
    refine ⟨st, q, b, e.m, e.w, e.l, e.a, n, bs, rfl, hst, hq, hb, hn, hl, hw.2, h01, fun H1 A1 => ?_⟩
    have N1 := N.pure A1
    clear N
    walk_at "k"
    refine c_lcR N1 (by omega) (fun i acc => acc = (e.far n bs i).map V.int) rfl (fun _ => rfl) (fun i Dd H2 acc hi N2 r => ?_) (fun pf H2 acc N2 r => ?_)
    · have li : i < bs.length := by omega
      have la : acc.length ≤ i := by
        rw [r, List.length_map]
        exact far_len _ _ _ _
      have eg : bs.getD i 0 = bs[i] := by rw [List.getD_eq_getElem?_getD, List.getElem?_eq_getElem li]; rfl
      have nxt : e.far n bs (i + 1) = if bs[i] = 1 then e.far n bs i ++ [e.number n - 1 - (i : Int)] else e.far n bs i := by
        unfold MS.far
        rw [List.range_succ, List.filter_append, List.map_append]
        by_cases c : bs[i] = 1
        · rw [if_pos c, List.filter_cons_of_pos (by rw [eg]; simpa using c)]
          rfl
        · rw [if_neg c, List.filter_cons_of_neg (by rw [eg]; simpa using c)]
          simp
      walk_at "k"
      refine g_ixT (xs := bs.map V.int) (v := .int bs[i]) (.of (N2.tup 2 rfl)) (atI_nat (by rw [List.getElem?_map, List.getElem?_eq_getElem li]; rfl)) ?_
      walk_at "k"
      refine c_el (fun c => ?_) (fun c => ?_)
      · walk_at "k"
        refine c_put N2 (by omega) ?_
        show acc ++ [V.int (e.number n - 1 - (i : Int))] = _
        rw [nxt, if_pos (of_decide_eq_true c), List.map_append, r]
        rfl
      · refine ⟨acc, N2, ?_⟩
        show acc = _
        rw [nxt, if_neg (of_decide_eq_false c), r]
    · subst r
      have l1 := far_len e n bs e.w.toNat
      walk_at "k"
      rename_i p1 H3 N3 p2 H4 N4
      have ey : (e.far n bs e.w.toNat).map V.int ++ [V.int (e.sent - 1 - (e.sent - 1 - n) % e.m)] = (e.some n bs).map V.int := by
        unfold MS.some
        rw [List.map_append]
        rfl
      rw [ey] at N4
      have l17 := some_len hok n bs
      refine g_minL (ns := e.some n bs) (.of (N4.cell 0 rfl)) (by unfold MS.some; rw [List.length_append]; simp) fun mn hmn _ => ?_
      have := h0 mn hmn
      walk_at "k"
      refine c_lc N4 ((e.some n bs).map V.int) (fun i acc => acc = (((e.some n bs).take i).filter fun x => decide (x ∉ e.certain)).map V.int) rfl (fun H' Dd acc N' => .of (N'.cell 1 rfl)) (fun _ => rfl) (fun i x Dd H5 acc hx N5 r => ?_) (fun pf2 H5 acc N5 r => ?_) (.of (N4.cell 0 rfl))
      · rw [List.getElem?_map] at hx
        obtain ⟨z, hz, rfl⟩ := Option.map_eq_some_iff.mp hx
        have la : acc.length ≤ 17 := by
          rw [r, List.length_map]
          exact Nat.le_trans filt_len l17
        walk_at "k"
        refine c_el (fun c => ?_) (fun c => ?_)
        · walk_at "k"
          refine c_put N5 (by omega) ?_
          show acc ++ [V.int z] = _
          rw [r, filt_snoc hz, if_pos c, List.map_append]
          rfl
        · refine ⟨acc, N5, ?_⟩
          show acc = _
          rw [r, filt_snoc hz, if_neg (fun q => by rw [c] at q; cases q)]
      · rw [List.length_map, List.take_length] at r
        subst r
        walk_at "k"
        refine g_srt N5 (.of (N5.cell 0 rfl)) fun fl H6 N6 => ?_
        have N6 : Now K none _ H H6 (⟨true, fl, .lst ((e.found n bs).map V.int)⟩ :: _) _ := N6
        have lf := foundM_len hok n bs
        walk_at "k"
        rename_i p3 H7 N7
        have ec : e.certain.map V.int ++ (e.found n bs).map V.int = (e.certain ++ e.found n bs).map V.int := by rw [List.map_append]
        rw [ec] at N7
        refine g_srt N7 (.of (N7.cell 0 rfl)) fun nc H8 N8 => ?_
        have N9 := N8.sel [7, 0, 2, 8] (l' := ⟨true, p, .ins C dx (fsM e st cl)⟩ :: ⟨true, nc, .lst ((srt (e.certain ++ e.found n bs)).map V.int)⟩ :: ⟨true, fl, .lst ((e.found n bs).map V.int)⟩ :: ⟨true, cl, .lst (e.certain.map V.int)⟩ :: []) rfl (by decide)
        have hfl := (N6.ow ⟨true, fl, _⟩ List.mem_cons_self rfl)
        clear N8
        walk_at "k"
        rename_i H10 N10 H11 N11
        have nd := N11.nd
        have lM : fl ∉ (mouthC C p dx cl st e).map Cel.a := by
          intro m
          have m : fl = p ∨ fl = cl := by simpa using m
          have nd : [p, nc, fl, cl].Nodup := nd
          simp only [List.nodup_cons, List.mem_cons, not_or] at nd
          rcases m with z | z
          · exact nd.1.2.1 z.symm
          · exact nd.2.2.1.1 z
        refine k fl nc _ (hfl.resolve_left lM) ?_ (Now.done (N11.sel [0, 1] rfl (by decide)) (by simp)) (N11.cell 2 rfl)
        intro z
        have nd : [p, nc, fl, cl].Nodup := nd
        simp only [List.nodup_cons, List.mem_cons, not_or] at nd
        exact nd.2.1.1 z.symm
end
/-! ### a Mouth that may refuse -/
section
variable {P : Program} {w : World} {K : PySem.W.Frag} {mg : Str → Option Value} {base : Heap} {C CB CF : Addr}
def spMSendE (K : PySem.W.Frag) (C CF : Addr) : Sp := fun vs H Q E => ∃ (p dx cl st : Addr) (s : MS), vs = [.ref p] ∧ CelOk H (mouthC C p dx cl st s) ∧ OkS s.m s.w s.l s.a ∧
  (s.full = false → ∀ t H', Aftr (mouthC C p dx cl st s) (mouthC C p dx cl st s.send) H H' → H' t = some (.tup [.int s.sent, .int (s.sent % s.m)]) → Q (.ref t) H') ∧ (s.full = true → E (.ref CF) none H)
theorem ok_MSendE (F : DefM K C "send" "Mouth.send" s_Mouth_send) (T : MTx K C) (T4 : ExK K mg "Full" CF) (c_Mouth_is_full : CalM P w K mg base CX0 C 1 "is_full" ["self"] (spMFull K C)) : CalM P w K mg base (L2.CX P w) C 2 "send" ["self"] (spMSendE K C CF) := by
  refine F.ok sc_Mouth_send bd_Mouth_send (fun vs H Q E h => ?_) (fun f cdv A outer s H vs Q E hr h => ?_)
  · obtain ⟨p, dx, cl, st, e, rfl, _⟩ := h
    rfl
  · obtain ⟨p, dx, cl, st, e, rfl, hc, hs, k, k2⟩ := h
    obtain ⟨cl_Mouth, n1, n2, n3, n4, n5, n6, n7, n8⟩ := T
    have hm := hs.1
    refine ⟨_, (pss_cons (ps_if (pt_val (pe_calM0 (pv 0) cl_Mouth c_Mouth_is_full (hr.mono (by decide)) pass0)) (pss_one (ps_raiseK rfl (takes_of rfl rfl rfl rfl) T4 (by rfl))) pss_nil)
      (pss_cons (ps_set (i := 1) sc_Mouth_send.nd rfl (by first | exact Or.inl rfl | exact Or.inr rfl) (pe_fldK K rfl (pv 0) rfl))
      (pss_cons (ps_fldK K rfl (pv 0) (pe_op op_add (pe_fldK K rfl (pv 0) rfl) pe_int) rfl)
      (pss_one (ps_ret (pe_tup (pa_cons (pv 1) (pa_cons (pe_op op_mod (pv 1) (pe_fldK K rfl (pv 0) rfl)) pa_nil)))))))), ?_⟩
    have N : Now K none _ H H (mouthC C p dx cl st e) [] := .begin hc (by simp)
    walk_at "go"
    refine ⟨p, dx, cl, st, e, rfl, hc, ?_⟩
    cases hf : e.full with
    | true =>
      walk_at "k"
      exact k2 hf
    | false =>
      have k := k hf
      walk_at "k"
      rename_i H2 N2 t H3 N3
      exact k t _ (Now.done N3 (by simp)) (N3.tup 0 rfl)
def spMHearE (K : PySem.W.Frag) (C CB : Addr) : Sp := fun vs H Q E => ∃ (p dx cl st q b : Addr) (s : MS) (n : Int) (bs : List Int), vs = [.ref p, .ref q] ∧ CelOk H (mouthC C p dx cl st s) ∧ H st = some (.tup (StV s.m s.w s.l s.a)) ∧ H q = some (.tup [.int n, .ref b]) ∧ H b = some (.tup (bs.map V.int)) ∧ MOk s ∧
  (0 ≤ n ∧ n < s.m) ∧ (bs.length : Int) = s.w ∧ (∀ x ∈ bs, x = 0 ∨ x = 1) ∧ ((∀ x ∈ s.some n bs, 0 ≤ x) → ∀ (l cl' : Addr) H', H l = none → l ≠ cl' → Aftr (mouthC C p dx cl st s) (mouthC C p dx cl' st (s.hear n bs)) H H' → H' l = some (.lst ((s.found n bs).map V.int)) → Q (.ref l) H') ∧
  ((∃ x ∈ s.some n bs, x < 0) → ∀ H', Aftr (mouthC C p dx cl st s) (mouthC C p dx cl st s) H H' → E (.ref CB) none H')
theorem ok_MHearE (F : DefM K C "hear" "Mouth.hear" s_Mouth_hear) (T : MTx K C) (B : Bt mg) (T3 : ExK K mg "BadBits" CB) (c_need_bits : Cal P w K mg base CX0 2 "need_bits" ["setting", "told"] spNeedB) : CalM P w K mg base (L2.CX P w) C 3 "hear" ["self", "told"] (spMHearE K C CB) := by
  refine F.ok sc_Mouth_hear bd_Mouth_hear (fun vs H Q E h => ?_) (fun f cdv A outer s H vs Q E hr h => ?_)
  · obtain ⟨p, dx, cl, st, q, b, e, n, bs, rfl, _⟩ := h
    rfl
  · obtain ⟨p, dx, cl, st, q, b, e, n, bs, rfl, hc, hst, hq, hb, hok, hn, hl, h01, k, k2⟩ := h
    obtain ⟨cl_Mouth, n1, n2, n3, n4, n5, n6, n7, n8⟩ := T
    have hm := hok.ok.1
    have hw := hok.ok.2.1
    have hlen := hok.len
    refine ⟨_, (pss_cons (ps_expr (pe_cal c_need_bits (hr.mono (by decide)) pass0 (pa_cons (pe_fldK K rfl (pv 0) rfl) (pa_cons (pv 1) pa_nil))))
      (pss_cons (ps_asg (pv 1) (pg_tup rfl (pgs_cons (pg_name (i := 2) sc_Mouth_hear.nd rfl (by first | exact Or.inl rfl | exact Or.inr rfl)) (pgs_cons (pg_name (i := 3) sc_Mouth_hear.nd rfl (by first | exact Or.inl rfl | exact Or.inr rfl)) pgs_nil))))
      (pss_cons (ps_set (i := 4) sc_Mouth_hear.nd rfl (by first | exact Or.inl rfl | exact Or.inr rfl) (pe_op op_sub (pe_fldK K rfl (pv 0) rfl) pe_int))
      (pss_cons (ps_set (i := 5) sc_Mouth_hear.nd rfl (by first | exact Or.inl rfl | exact Or.inr rfl) (pe_op op_sub (pv 4) (pe_op op_mod (pe_op op_sub (pv 4) (pv 2)) (pe_fldK K rfl (pv 0) rfl))))
      (pss_cons (ps_set (i := 6) sc_Mouth_hear.nd rfl (by first | exact Or.inl rfl | exact Or.inr rfl) (pe_op op_cat (pe_lc (own := [("k", 7)]) (g := (gName 7)) rfl sc_Mouth_hear.nd (pi_range1 (by rfl) B.m_range (pa_cons (pe_fldK K rfl (pv 0) rfl) pa_nil)) (blkOk_by (own := [("k", 7)]) (N := ["self", "told", "mark", "bits", "last", "number", "some", "k", "found", "one"]) (sc := defScope s_Mouth_hear) (by decide +kernel)) (fun _ _ _ _ _ => (pg_name (i := 7) sc_Mouth_hear.nd rfl (by first | exact Or.inl rfl | exact Or.inr rfl))) (fun _ _ _ _ _ => (pts_one (pt_cmpR op_eq (pe_ix (ix_tupK K rfl) (pv 3) (pv 7) (fun _ _ => rfl)) pe_int (nomark _)))) (fun _ _ _ _ _ => (pe_op op_sub (pe_op op_sub (pv 5) pe_int) (pv 7)))) (pe_lst (pa_cons (pv 5) pa_nil))))
      (pss_cons (ps_if (pt_cmpR op_lt (pe_callB (cr_minLK K rfl rfl) (by rfl) B.m_min (by decide +kernel) (pa_cons (pv 6) pa_nil)) pe_int (nomark _)) (pss_one (ps_raiseK rfl (takes_of rfl rfl rfl rfl) T3 (by rfl))) pss_nil)
      (pss_cons (ps_set (i := 8) sc_Mouth_hear.nd rfl (by first | exact Or.inl rfl | exact Or.inr rfl) (pe_callB (cr_sortedIK K rfl) (by rfl) B.m_sorted (by decide +kernel) (pa_cons (pe_lc (own := [("one", 9)]) (g := (gName 9)) rfl sc_Mouth_hear.nd (pi_listK K rfl (pv 6)) (blkOk_by (own := [("one", 9)]) (N := ["self", "told", "mark", "bits", "last", "number", "some", "k", "found", "one"]) (sc := defScope s_Mouth_hear) (by decide +kernel)) (fun _ _ _ _ _ => (pg_name (i := 9) sc_Mouth_hear.nd rfl (by first | exact Or.inl rfl | exact Or.inr rfl))) (fun _ _ _ _ _ => (pts_one (pt_cmpR (op_notIn_seqK K rfl) (pv 9) (pe_fldK K rfl (pv 0) rfl) (by rfl)))) (fun _ _ _ _ _ => (pv 9))) pa_nil)))
      (pss_cons (ps_fldK K rfl (pv 0) (pe_callB (cr_sortedIK K rfl) (by rfl) B.m_sorted (by decide +kernel) (pa_cons (pe_op op_cat (pe_fldK K rfl (pv 0) rfl) (pv 8)) pa_nil)) rfl)
      (pss_cons (ps_fldK K rfl (pv 0) (pe_callB (cr_max2 rfl) (by rfl) B.m_max (by decide +kernel) (pa_cons (pe_fldK K rfl (pv 0) rfl) (pa_cons (pv 5) pa_nil))) rfl)
      (pss_one (ps_ret (pv 8)))))))))))), ?_⟩
    have N : Now K none _ H H (mouthC C p dx cl st e) [(st, StV e.m e.w e.l e.a), (q, [.int n, .ref b]), (b, bs.map V.int)] := .begin hc (by simp [hst, hq, hb])
    walk_at "go"
    refine ⟨st, q, b, e.m, e.w, e.l, e.a, n, bs, rfl, hst, hq, hb, hn, hl, hw.2, h01, fun H1 A1 => ?_⟩
    have N1 := N.pure A1
    clear N
    walk_at "k"
    refine c_lcR N1 (by omega) (fun i acc => acc = (e.far n bs i).map V.int) rfl (fun _ => rfl) (fun i Dd H2 acc hi N2 r => ?_) (fun pf H2 acc N2 r => ?_)
    · have li : i < bs.length := by omega
      have la : acc.length ≤ i := by
        rw [r, List.length_map]
        exact far_len _ _ _ _
      have eg : bs.getD i 0 = bs[i] := by rw [List.getD_eq_getElem?_getD, List.getElem?_eq_getElem li]; rfl
      have nxt : e.far n bs (i + 1) = if bs[i] = 1 then e.far n bs i ++ [e.number n - 1 - (i : Int)] else e.far n bs i := by
        unfold MS.far
        rw [List.range_succ, List.filter_append, List.map_append]
        by_cases c : bs[i] = 1
        · rw [if_pos c, List.filter_cons_of_pos (by rw [eg]; simpa using c)]
          rfl
        · rw [if_neg c, List.filter_cons_of_neg (by rw [eg]; simpa using c)]
          simp
      walk_at "k"
      refine g_ixT (xs := bs.map V.int) (v := .int bs[i]) (.of (N2.tup 2 rfl)) (atI_nat (by rw [List.getElem?_map, List.getElem?_eq_getElem li]; rfl)) ?_
      walk_at "k"
      refine c_el (fun c => ?_) (fun c => ?_)
      · walk_at "k"
        refine c_put N2 (by omega) ?_
        show acc ++ [V.int (e.number n - 1 - (i : Int))] = _
        rw [nxt, if_pos (of_decide_eq_true c), List.map_append, r]
        rfl
      · refine ⟨acc, N2, ?_⟩
        show acc = _
        rw [nxt, if_neg (of_decide_eq_false c), r]
    · subst r
      have l1 := far_len e n bs e.w.toNat
      walk_at "k"
      rename_i p1 H3 N3 p2 H4 N4
      have ey : (e.far n bs e.w.toNat).map V.int ++ [V.int (e.sent - 1 - (e.sent - 1 - n) % e.m)] = (e.some n bs).map V.int := by
        unfold MS.some
        rw [List.map_append]
        rfl
      rw [ey] at N4
      have l17 := some_len hok n bs
      refine g_minL (ns := e.some n bs) (.of (N4.cell 0 rfl)) (by unfold MS.some; rw [List.length_append]; simp) fun mn hmn hle => ?_
      walk_at "kn"
      refine c_ifd (fun c => ?_) (fun c => ?_)
      · exact k2 ⟨mn, hmn, by omega⟩ _ (Now.done (N4.sel [3, 4] (l' := mouthC C p dx cl st e) rfl (by decide)) (by simp))
      have k := k (fun x hx => by have := hle x hx; omega)
      walk_at "kn"
      refine c_lc N4 ((e.some n bs).map V.int) (fun i acc => acc = (((e.some n bs).take i).filter fun x => decide (x ∉ e.certain)).map V.int) rfl (fun H' Dd acc N' => .of (N'.cell 1 rfl)) (fun _ => rfl) (fun i x Dd H5 acc hx N5 r => ?_) (fun pf2 H5 acc N5 r => ?_) (.of (N4.cell 0 rfl))
      · rw [List.getElem?_map] at hx
        obtain ⟨z, hz, rfl⟩ := Option.map_eq_some_iff.mp hx
        have la : acc.length ≤ 17 := by
          rw [r, List.length_map]
          exact Nat.le_trans filt_len l17
        walk_at "k"
        refine c_el (fun c => ?_) (fun c => ?_)
        · walk_at "k"
          refine c_put N5 (by omega) ?_
          show acc ++ [V.int z] = _
          rw [r, filt_snoc hz, if_pos c, List.map_append]
          rfl
        · refine ⟨acc, N5, ?_⟩
          show acc = _
          rw [r, filt_snoc hz, if_neg (fun q => by rw [c] at q; cases q)]
      · rw [List.length_map, List.take_length] at r
        subst r
        walk_at "k"
        refine g_srt N5 (.of (N5.cell 0 rfl)) fun fl H6 N6 => ?_
        have N6 : Now K none _ H H6 (⟨true, fl, .lst ((e.found n bs).map V.int)⟩ :: _) _ := N6
        have lf := foundM_len hok n bs
        walk_at "k"
        rename_i p3 H7 N7
        have ec : e.certain.map V.int ++ (e.found n bs).map V.int = (e.certain ++ e.found n bs).map V.int := by rw [List.map_append]
        rw [ec] at N7
        refine g_srt N7 (.of (N7.cell 0 rfl)) fun nc H8 N8 => ?_
        have N9 := N8.sel [7, 0, 2, 8] (l' := ⟨true, p, .ins C dx (fsM e st cl)⟩ :: ⟨true, nc, .lst ((srt (e.certain ++ e.found n bs)).map V.int)⟩ :: ⟨true, fl, .lst ((e.found n bs).map V.int)⟩ :: ⟨true, cl, .lst (e.certain.map V.int)⟩ :: []) rfl (by decide)
        have hfl := (N6.ow ⟨true, fl, _⟩ List.mem_cons_self rfl)
        clear N8
        walk_at "k"
        rename_i H10 N10 H11 N11
        have nd := N11.nd
        have lM : fl ∉ (mouthC C p dx cl st e).map Cel.a := by
          intro m
          have m : fl = p ∨ fl = cl := by simpa using m
          have nd : [p, nc, fl, cl].Nodup := nd
          simp only [List.nodup_cons, List.mem_cons, not_or] at nd
          rcases m with z | z
          · exact nd.1.2.1 z.symm
          · exact nd.2.2.1.1 z
        refine k fl nc _ (hfl.resolve_left lM) ?_ (Now.done (N11.sel [0, 1] rfl (by decide)) (by simp)) (N11.cell 2 rfl)
        intro z
        have nd : [p, nc, fl, cl].Nodup := nd
        simp only [List.nodup_cons, List.mem_cons, not_or] at nd
        exact nd.2.1.1 z.symm
end
section
variable {K : PySem.W.Frag} {D : Option Addr} {M : List Addr} {H0 H : Hp} {r : List Cel} {ts : List (Addr × List V)} {Q : VK} {E : XK} {CM CB CF mp mdx mcl st : Addr} {s : MS}
theorem g_mSendE (N : Now K D M H0 H (mouthC CM mp mdx mcl st s ++ r) ts) (ok : OkS s.m s.w s.l s.a)
    (k : s.full = false → ∀ t H', Now K D M H0 H' (mouthC CM mp mdx mcl st s.send ++ r) ((t, [.int s.sent, .int (s.sent % s.m)]) :: ts) → Q (.ref t) H') (k2 : s.full = true → E (.ref CF) none H) : spMSendE K CM CF [.ref mp] H Q E :=
  ⟨mp, mdx, mcl, st, s, rfl, N.front, ok, fun hf t H' B h => k hf t H' ((Now.call N (by simp) B).moreT h), k2⟩
theorem g_mHearE {q b : Addr} {n : Int} {bs : List Int} (N : Now K D M H0 H (mouthC CM mp mdx mcl st s ++ r) ts) (ht : H st = some (.tup (StV s.m s.w s.l s.a))) (hq : H q = some (.tup [.int n, .ref b])) (hb : H b = some (.tup (bs.map V.int))) (ok : MOk s) (hn : 0 ≤ n ∧ n < s.m) (hl : (bs.length : Int) = s.w)
    (h01 : ∀ x ∈ bs, x = 0 ∨ x = 1) (k : (∀ x ∈ s.some n bs, 0 ≤ x) → ∀ l mcl' H', Now K D M H0 H' (⟨true, l, .lst ((s.found n bs).map V.int)⟩ :: (mouthC CM mp mdx mcl' st (s.hear n bs) ++ r)) ts → Q (.ref l) H')
    (k2 : (∃ x ∈ s.some n bs, x < 0) → ∀ H', Now K D M H0 H' (mouthC CM mp mdx mcl st s ++ r) ts → E (.ref CB) none H') : spMHearE K CM CB [.ref mp, .ref q] H Q E := by
  refine ⟨mp, mdx, mcl, st, q, b, s, n, bs, rfl, N.front, ht, hq, hb, ok, hn, hl, h01, fun h0 l mcl' H' hN hne B hv => k h0 l mcl' H' ?_, fun h0 H' B => k2 h0 H' (Now.call N (by simp) B)⟩
  refine Now.grow N (Now.call N (by simp) B) (q := l) (fun z hz => ?_) hN hv trivial
  by_cases c : z = mcl'
  · exact .inr (fun e => hne (e.symm.trans c))
  · left
    rw [List.map_append] at hz ⊢
    rcases List.mem_append.mp hz with y | y
    · have y : z = mp ∨ z = mcl' := by simpa using y
      rcases y with y | y
      · exact List.mem_append_left _ (by rw [y]; simp)
      · exact absurd y c
    · exact List.mem_append_right _ y
end
/-! ### a World -/
structure PW where
  s : MS
  e : ES
  told : List Tl
  here : List Int
structure AP where
  (p dx st mp mdx mcl ep edx eml tl hl : Addr)
  tv : List V
abbrev fsW (l : Int) (A : AP) : List (Str × V) := [("mouth", .ref A.mp), ("ear", .ref A.ep), ("late", .int l), ("told", .ref A.tl), ("here", .ref A.hl)]
abbrev pwC (CW CM CE : Addr) (l : Int) (A : AP) (W : PW) : List Cel := ⟨true, A.p, .ins CW A.dx (fsW l A)⟩ :: (mouthC CM A.mp A.mdx A.mcl A.st W.s ++ (earC CE A.ep A.edx A.eml A.st W.e ++ [⟨true, A.tl, .lst A.tv⟩, ⟨true, A.hl, .lst (W.here.map V.int)⟩]))
structure WTx (K : PySem.W.Frag) (C : Addr) : Prop where
  cl : Cls K C
  n1 : NoAttr K C "mouth"
  n2 : NoAttr K C "ear"
  n3 : NoAttr K C "late"
  n4 : NoAttr K C "told"
  n5 : NoAttr K C "here"
section
variable {P : Program} {w : World} {K : PySem.W.Frag} {mg : Str → Option Value} {base : Heap} {CW CM CE : Addr}
theorem sc_World_init : FnScope ["self", "setting"] ["self", "setting"] (defScope s_World_init) := ⟨rfl, rfl, rfl, by decide +kernel, rfl, by decide +kernel, by decide +kernel⟩
theorem bd_World_init : Bd "__init__" "World.__init__" s_World_init ["self", "setting"] := fun _ _ _ _ _ _ us hl => match us, hl with | [_, _], _ => rfl
def spWInit (CW CM CE : Addr) : Sp := fun vs H Q _ => ∃ (p dx st : Addr) (m w l a : Int), vs = [.ref p, .ref st] ∧ H p = some (.ins CW dx []) ∧ H st = some (.tup (StV m w l a)) ∧ OkS m w l a ∧
  ∀ (A : AP) H', A.p = p → A.st = st → A.tv = [] → Aftr [⟨true, p, .ins CW dx []⟩] (pwC CW CM CE l A ⟨⟨m, w, l, a, 0, -1, []⟩, ⟨m, w, l, a, -1, []⟩, [], []⟩) H H' → Q .non H'
theorem ok_WInit (F : DefC K mg CW "World" "World.__init__" s_World_init) (T : WTx K CW) (c_Mouth : CalC P w K mg base CX0 CM 2 "Mouth" ["self", "setting"] (spMInit CM)) (c_Ear : CalC P w K mg base CX0 CE 2 "Ear" ["self", "setting"] (spEInit CE)) :
    CalC P w K mg base CX0 CW 4 "World" ["self", "setting"] (spWInit CW CM CE) := by
  refine F.ok sc_World_init bd_World_init (fun vs H Q E h => ?_) (fun f cdv A outer s H vs Q E hr h => ?_)
  · obtain ⟨p, dx, st, m, w, l, a, rfl, _⟩ := h
    rfl
  · obtain ⟨p, dx, st, m, w, l, a, rfl, hp, ht, hs, k⟩ := h
    obtain ⟨cl, n1, n2, n3, n4, n5⟩ := T
    refine ⟨_, PSs.nox (pss_cons (ps_fldK K rfl (pv 0) (pe_calC c_Mouth (hr.mono (by decide)) pass0 (pa_cons (pv 1) pa_nil)) rfl)
      (pss_cons (ps_fldK K rfl (pv 0) (pe_calC c_Ear (hr.mono (by decide)) pass0 (pa_cons (pv 1) pa_nil)) rfl)
      (pss_cons (ps_fldK K rfl (pv 0) (pe_ix (ix_tupK K rfl) (pv 1) pe_int (fun _ _ => rfl)) rfl)
      (pss_cons (ps_fldK K rfl (pv 0) (pe_lst pa_nil) rfl)
      (pss_one (ps_fldK K rfl (pv 0) (pe_lst pa_nil) rfl)))))), ?_⟩
    have N : Now K none [p] H H [⟨true, p, .ins CW dx []⟩] [(st, StV m w l a)] := .start (by simp) (by simp [hp, Mut]) (by simp [ht]) (by simp)
    walk_at "gon"
    refine g_make N fun mp mdx H5 _ N5 => ?_
    refine ⟨mp, mdx, st, m, w, l, a, rfl, N5.cell 0 rfl, N5.tup 0 rfl, hs, fun mcl H6 A6 => ⟨rfl, ?_⟩⟩
    have N6 := Now.call (fp := [⟨true, mp, .ins CM mdx []⟩]) N5 (by simp) A6
    clear N5 N
    have N7 := N6.sel [2, 0, 1] (l' := ⟨true, p, .ins CW dx []⟩ :: mouthC CM mp mdx mcl st ⟨m, w, l, a, 0, -1, []⟩) rfl (by decide)
    clear N6
    walk_at "kn"
    rename_i H8 N8
    refine g_make N8 fun ep edx H9 _ N9 => ?_
    refine ⟨ep, edx, st, m, w, l, a, rfl, N9.cell 0 rfl, N9.tup 0 rfl, hs, fun eml H10 A10 => ⟨rfl, ?_⟩⟩
    have N10 := Now.call (fp := [⟨true, ep, .ins CE edx []⟩]) N9 (by simp) A10
    have N11 := N10.sel [2, 3, 4, 0, 1] (l' := ⟨true, p, .ins CW dx [("mouth", .ref mp)]⟩ :: (mouthC CM mp mdx mcl st ⟨m, w, l, a, 0, -1, []⟩ ++ earC CE ep edx eml st ⟨m, w, l, a, -1, []⟩)) rfl (by decide)
    clear N10 N9 N8 N7
    walk_at "kn"
    rename_i H12 N12 H13 N13 tl H14 N14 H15 N15 hl H16 N16 H17 N17
    exact k ⟨p, dx, st, mp, mdx, mcl, ep, edx, eml, tl, hl, []⟩ _ rfl rfl rfl (Now.done (N17.sel [2, 3, 4, 5, 6, 1, 0] rfl (by decide)) (by simp))
theorem sc_World_is_due : FnScope ["self", "begun"] ["self", "begun"] (defScope s_World_is_due) := ⟨rfl, rfl, rfl, by decide +kernel, rfl, by decide +kernel, by decide +kernel⟩
theorem bd_World_is_due : Bd "is_due" "World.is_due" s_World_is_due ["self", "begun"] := fun _ _ _ _ _ _ us hl => match us, hl with | [_, _], _ => rfl
def spWDue (K : PySem.W.Frag) (CW CM : Addr) : Sp := fun vs H Q _ => ∃ (p dx mp mdx mcl st ep tl hl : Addr) (s : MS) (l b : Int), vs = [.ref p, .int b] ∧ H p = some (.ins CW dx [("mouth", .ref mp), ("ear", .ref ep), ("late", .int l), ("told", .ref tl), ("here", .ref hl)]) ∧ H mp = some (.ins CM mdx (fsM s st mcl)) ∧ Q (.bl (decide (s.sent - b ≤ l))) H
theorem ok_WDue (F : DefM K CW "is_due" "World.is_due" s_World_is_due) (T : WTx K CW) (TM : MTx K CM) : CalM P w K mg base CX0 CW 1 "is_due" ["self", "begun"] (spWDue K CW CM) := by
  refine F.ok sc_World_is_due bd_World_is_due (fun vs H Q E h => ?_) (fun f cdv A outer s H vs Q E hr h => ?_)
  · obtain ⟨p, dx, mp, mdx, mcl, st, ep, tl, hl, s, l, b, rfl, _⟩ := h
    rfl
  · obtain ⟨p, dx, mp, mdx, mcl, st, ep, tl, hl, s, l, b, rfl, h1, h2, k⟩ := h
    obtain ⟨cl, n1, n2, n3, n4, n5⟩ := T
    obtain ⟨clM, m1, m2, m3, m4, m5, m6, m7, m8⟩ := TM
    refine ⟨_, PSs.nox (pss_one (ps_ret (pe_cmpR op_le (pe_op op_sub (pe_fldK K rfl (pe_fldK K rfl (pv 0) rfl) rfl) (pv 1)) (pe_fldK K rfl (pv 0) rfl) (nomark _)))), ?_⟩
    walk_at "gon"
    exact k
end
/-! ### what may happen in a World -/
def PW.can (W : PW) (l : Int) : Ev → Bool
  | .send => !W.s.full
  | .tell => decide (W.e.newest ≥ 0)
  | .come n => decide (0 ≤ n) && (decide (n < W.s.sent) && decide (W.s.sent - (n + 1) ≤ l))
  | .hear n => decide (0 ≤ n) && (decide (n < (W.told.length : Int)) && decide (W.s.sent - (W.told.getD n.toNat ⟨0, [], 0⟩).c ≤ l))
section
variable {P : Program} {w : World} {K : PySem.W.Frag} {mg : Str → Option Value} {base : Heap} {CW CM CE : Addr}
theorem sc_World_can : FnScope ["self", "event"] ["self", "event"] (defScope s_World_can) := ⟨rfl, rfl, rfl, by decide +kernel, rfl, by decide +kernel, by decide +kernel⟩
theorem bd_World_can : Bd "can" "World.can" s_World_can ["self", "event"] := fun _ _ _ _ _ _ us hl => match us, hl with | [_, _], _ => rfl
def spWCan (K : PySem.W.Frag) (CW CM CE : Addr) : Sp := fun vs H Q _ => ∃ (ev : Addr) (A : AP) (l : Int) (W : PW) (e : Ev), vs = [.ref A.p, .ref ev] ∧ CelOk H (pwC CW CM CE l A W) ∧ Tls H A.tv W.told ∧ H ev = some (.tup e.v) ∧ ∀ H', Aft [] H H' → Q (.bl (W.can l e)) H'
theorem ok_WCan (F : DefM K CW "can" "World.can" s_World_can) (T : WTx K CW) (TM : MTx K CM) (TE : ETx K CE) (B : Bt mg) (c_Mouth_is_full : CalM P w K mg base CX0 CM 1 "is_full" ["self"] (spMFull K CM)) (c_World_is_due : CalM P w K mg base CX0 CW 1 "is_due" ["self", "begun"] (spWDue K CW CM)) :
    CalM P w K mg base CX0 CW 2 "can" ["self", "event"] (spWCan K CW CM CE) := by
  refine F.ok sc_World_can bd_World_can (fun vs H Q E h => ?_) (fun f cdv A outer s H vs Q E hr h => ?_)
  · obtain ⟨ev, A, l, W, e, rfl, _⟩ := h
    rfl
  · obtain ⟨ev, A, l, W, e, rfl, hc, hT, he, k⟩ := h
    obtain ⟨cl_World, n1, n2, n3, n4, n5⟩ := T
    obtain ⟨cl_Mouth, m1, m2, m3, m4, m5, m6, m7, m8⟩ := TM
    obtain ⟨cl_Ear, e1, e2, e3, e4, e5, e6, e7⟩ := TE
    have tlen : A.tv.length = W.told.length := Paired.length hT
    refine ⟨_, PSs.nox (pss_cons (ps_if (pt_cmpR (op_eqDK K rfl hr.units) (pv 1) (pe_tup (pa_cons pe_str pa_nil)) (nomark _)) (pss_one (ps_ret (pe_not (pe_calM0 (pe_fldK K rfl (pv 0) rfl) cl_Mouth c_Mouth_is_full (hr.mono (by decide)) pass0)))) pss_nil)
      (pss_cons (ps_if (pt_cmpR (op_eqDK K rfl hr.units) (pv 1) (pe_tup (pa_cons pe_str pa_nil)) (nomark _)) (pss_one (ps_ret (pe_cmpR op_ge (pe_fldK K rfl (pe_fldK K rfl (pv 0) rfl) rfl) pe_int (nomark _)))) pss_nil)
      (pss_cons (ps_if (PW.pt (pw_or (pt_cmpR op_ne (pe_callB (cr_lnK K rfl) (by rfl) B.m_len (by decide +kernel) (pa_cons (pv 1) pa_nil)) pe_int (nomark _)) (pw_or (pt_cmpR (op_notIn_seqK K rfl) (pe_ix (ix_tupK K rfl) (pv 1) pe_int (fun _ _ => rfl)) (pe_tup (pa_cons pe_str (pa_cons pe_str pa_nil))) (by rfl)) (pw_or1 (pt_cmpR op_lt (pe_ix (ix_tupK K rfl) (pv 1) pe_int (fun _ _ => rfl)) pe_int (nomark _)))))) (pss_one (ps_ret pe_bl)) pss_nil)
      (pss_cons (ps_if (pt_cmpR op_eq (pe_ix (ix_tupK K rfl) (pv 1) pe_int (fun _ _ => rfl)) pe_str (nomark _)) (pss_one (ps_ret (pe_and (pe_cmpR op_lt (pe_ix (ix_tupK K rfl) (pv 1) pe_int (fun _ _ => rfl)) (pe_fldK K rfl (pe_fldK K rfl (pv 0) rfl) rfl) (nomark _)) (pe_one (pe_calM (pv 0) cl_World c_World_is_due (hr.mono (by decide)) pass0 (pa_cons (pe_op op_add (pe_ix (ix_tupK K rfl) (pv 1) pe_int (fun _ _ => rfl)) pe_int) pa_nil)))))) pss_nil)
      (pss_one (ps_ret (pe_and (pe_cmpR op_lt (pe_ix (ix_tupK K rfl) (pv 1) pe_int (fun _ _ => rfl)) (pe_callB (cr_lnK K rfl) (by rfl) B.m_len (by decide +kernel) (pa_cons (pe_fldK K rfl (pv 0) rfl) pa_nil)) (nomark _)) (pe_one (pe_calM (pv 0) cl_World c_World_is_due (hr.mono (by decide)) pass0 (pa_cons (pe_ix (ix_tupK K rfl) (pe_ix (ix_listK K rfl) (pe_fldK K rfl (pv 0) rfl) (pe_ix (ix_tupK K rfl) (pv 1) pe_int (fun _ _ => rfl)) (fun _ _ => rfl)) pe_int (fun _ _ => rfl)) pa_nil)))))))))), ?_⟩
    cases e with
    | send =>
      replace he : H ev = some (.tup [.str "send"]) := he
      have N : Now K none [] H H ((pwC CW CM CE l A W).map Cel.ro) [(ev, [.str "send"])] := .read hc (by simp [he])
      walk_at "gon"
      rename_i p1 H1 N1
      refine g_evSend (e := .send) (r := true) rfl (.of (N1.tup 1 rfl)) (.of (N1.tup 0 rfl)) ?_
      walk_at "kn"
      refine ⟨A.mp, A.mdx, A.mcl, A.st, W.s, rfl, (hc.sel [1, 2] rfl (by decide)).keep N1.af, ?_⟩
      exact e_notV (k _ N1.af)
    | tell =>
      replace he : H ev = some (.tup [.str "tell"]) := he
      have N : Now K none [] H H ((pwC CW CM CE l A W).map Cel.ro) [(ev, [.str "tell"])] := .read hc (by simp [he])
      walk_at "gon"
      rename_i p1 H1 N1
      refine g_evSend (e := .tell) (r := false) rfl (.of (N1.tup 1 rfl)) (.of (N1.tup 0 rfl)) ?_
      walk_at "kn"
      rename_i p2 H2 N2
      refine g_evTell (e := .tell) (r := true) rfl (.of (N2.tup 2 rfl)) (.of (N2.tup 0 rfl)) ?_
      walk_at "kn"
      exact k _ N2.af
    | come n =>
      replace he : H ev = some (.tup [.str "come", .int n]) := he
      have N : Now K none [] H H ((pwC CW CM CE l A W).map Cel.ro) [(ev, [.str "come", .int n])] := .read hc (by simp [he])
      walk_at "gon"
      rename_i p1 H1 N1
      refine g_evSend (e := .come n) (r := false) rfl (.of (N1.tup 1 rfl)) (.of (N1.tup 0 rfl)) ?_
      walk_at "kn"
      rename_i p2 H2 N2
      refine g_evTell (e := .come n) (r := false) rfl (.of (N2.tup 2 rfl)) (.of (N2.tup 0 rfl)) ?_
      walk_at "kn"
      refine c_or (fun c => absurd (of_decide_eq_true c) (by simp)) (fun _ => ?_)
      walk_at "kn"
      rename_i p3 H3 N3
      refine g_inW (r := false) (ws := [.str "come", .str "hear"]) (.inr (.of (N3.tup 0 rfl))) rfl (by decide +kernel) ?_
      walk_at "kn"
      have kk := k _ N3.af
      refine c_ifd (fun c => ?_) (fun c => ?_)
      · walk_at "kn"
        have e0 : W.can l (.come n) = false := by
          show (decide (0 ≤ n) && _) = false
          rw [decide_eq_false (by omega)]
          rfl
        rw [e0] at kk
        exact kk
      · have e0 : W.can l (.come n) = (decide (n < W.s.sent) && decide (W.s.sent - (n + 1) ≤ l)) := by
          show (decide (0 ≤ n) && _) = _
          rw [decide_eq_true (by omega)]
          rfl
        rw [e0] at kk
        walk_at "kn"
        refine e_andV (fun c2 => ?_) (fun c2 => ?_)
        · rw [c2] at kk
          walk_at "kn"
          exact ⟨A.p, A.dx, A.mp, A.mdx, A.mcl, A.st, A.ep, A.tl, A.hl, W.s, l, n + 1, rfl, N3.cell 0 rfl, N3.cell 1 rfl, kk⟩
        · rw [c2] at kk
          exact kk
    | hear n =>
      replace he : H ev = some (.tup [.str "hear", .int n]) := he
      have N : Now K none [] H H ((pwC CW CM CE l A W).map Cel.ro) [(ev, [.str "hear", .int n])] := .read hc (by simp [he])
      walk_at "gon"
      rename_i p1 H1 N1
      refine g_evSend (e := .hear n) (r := false) rfl (.of (N1.tup 1 rfl)) (.of (N1.tup 0 rfl)) ?_
      walk_at "kn"
      rename_i p2 H2 N2
      refine g_evTell (e := .hear n) (r := false) rfl (.of (N2.tup 2 rfl)) (.of (N2.tup 0 rfl)) ?_
      walk_at "kn"
      refine c_or (fun c => absurd (of_decide_eq_true c) (by simp)) (fun _ => ?_)
      walk_at "kn"
      rename_i p3 H3 N3
      refine g_inW (r := false) (ws := [.str "come", .str "hear"]) (.inr (.of (N3.tup 0 rfl))) rfl (by decide +kernel) ?_
      walk_at "kn"
      have kk := k _ N3.af
      refine c_ifd (fun c => ?_) (fun c => ?_)
      · walk_at "kn"
        have e0 : W.can l (.hear n) = false := by
          show (decide (0 ≤ n) && _) = false
          rw [decide_eq_false (by omega)]
          rfl
        rw [e0] at kk
        exact kk
      · have e0 : W.can l (.hear n) = (decide (n < (W.told.length : Int)) && decide (W.s.sent - (W.told.getD n.toNat ⟨0, [], 0⟩).c ≤ l)) := by
          show (decide (0 ≤ n) && _) = _
          rw [decide_eq_true (by omega)]
          rfl
        rw [e0] at kk
        walk_at "kn"
        refine k_eqStr (by decide) ?_
        walk_at "kn"
        rw [tlen]
        refine e_andV (fun c2 => ?_) (fun c2 => ?_)
        · rw [c2] at kk
          have c2 := of_decide_eq_true c2
          have lt : n.toNat < W.told.length := by omega
          obtain ⟨x, y, b, f1, f2, f3, f4⟩ := tls_at hT (List.getElem?_eq_getElem lt)
          have eg : W.told.getD n.toNat ⟨0, [], 0⟩ = W.told[n.toNat] := by rw [List.getD_eq_getElem?_getD, List.getElem?_eq_getElem lt]; rfl
          rw [eg] at kk
          have N4 := N3.moreT (N3.af.t _ _ f2)
          clear N3
          walk_at "kn"
          refine g_ixL (xs := A.tv) (v := .ref x) (.of (N4.cell 5 rfl)) (at_of (show n = (n.toNat : Int) by omega) f1) ?_
          walk_at "kn"
          exact ⟨A.p, A.dx, A.mp, A.mdx, A.mcl, A.st, A.ep, A.tl, A.hl, W.s, l, _, rfl, N4.cell 0 rfl, N4.cell 1 rfl, kk⟩
        · rw [c2] at kk
          exact kk
end
/-! ### a telling is heard in a World (none that was never sent) -/
section
variable {P : Program} {w : World} {K : PySem.W.Frag} {mg : Str → Option Value} {base : Heap} {CW CM CE : Addr}
theorem sc_World_heard : FnScope ["self", "telling", "found", "one"] ["self", "telling"] (defScope s_World_heard) := ⟨rfl, rfl, rfl, by decide +kernel, rfl, by decide +kernel, by decide +kernel⟩
theorem bd_World_heard : Bd "heard" "World.heard" s_World_heard ["self", "telling"] := fun _ _ _ _ _ _ us hl => match us, hl with | [_, _], _ => rfl
def spWHeard (K : PySem.W.Frag) (CW CM CE : Addr) : Sp := fun vs H Q _ => ∃ (q b : Addr) (A : AP) (l : Int) (W : PW) (n : Int) (bs : List Int), vs = [.ref A.p, .ref q] ∧ CelOk H (pwC CW CM CE l A W) ∧ H A.st = some (.tup (StV W.s.m W.s.w W.s.l W.s.a)) ∧ H q = some (.tup [.int n, .ref b]) ∧ H b = some (.tup (bs.map V.int)) ∧ MOk W.s ∧
  (0 ≤ n ∧ n < W.s.m) ∧ (bs.length : Int) = W.s.w ∧ (∀ x ∈ bs, x = 0 ∨ x = 1) ∧ (∀ x ∈ W.s.some n bs, 0 ≤ x) ∧
  ∀ (mcl : Addr) (x : V) (t : Addr) H', Aftr (pwC CW CM CE l A W) (pwC CW CM CE l { A with mcl := mcl } { W with s := W.s.hear n bs }) H H' → H' t = some (.tup [x, .bl ((W.s.found n bs).any fun x => decide (x ∉ W.here))]) → Q (.ref t) H'
theorem ok_WHeard (F : DefM K CW "heard" "World.heard" s_World_heard) (T : WTx K CW) (B : Bt mg) (cl_Mouth : Cls K CM) (c_Mouth_hear : CalM P w K mg base CX0 CM 3 "hear" ["self", "told"] (spMHear K CM)) :
    CalM P w K mg base CX0 CW 4 "heard" ["self", "telling"] (spWHeard K CW CM CE) := by
  refine F.ok sc_World_heard bd_World_heard (fun vs H Q E h => ?_) (fun f cdv A outer s H vs Q E hr h => ?_)
  · obtain ⟨q, b, A, l, W, n, bs, rfl, _⟩ := h
    rfl
  · obtain ⟨q, b, A, l, W, n, bs, rfl, hc, hst, hq, hb, hok, hn, hbl, h01, h0, k⟩ := h
    obtain ⟨cl_World, n1, n2, n3, n4, n5⟩ := T
    refine ⟨_, PSs.nox (pss_cons (ps_try_thru0 (pss_one (ps_set (i := 2) sc_World_heard.nd rfl (by first | exact Or.inl rfl | exact Or.inr rfl) (pe_calM (pe_fldK K rfl (pv 0) rfl) cl_Mouth c_Mouth_hear (hr.mono (by decide)) pass0 (pa_cons (pv 1) pa_nil)))))
      (pss_one (ps_ret (pe_tup (pa_cons (pv 2) (pa_cons (pe_cmpR (op_neDK K rfl hr.units) (pe_lc (own := [("one", 3)]) (g := (gName 3)) rfl sc_World_heard.nd (pi_listK K rfl (pv 2)) (blkOk_by (own := [("one", 3)]) (N := ["self", "telling", "found", "one"]) (sc := defScope s_World_heard) (by decide +kernel)) (fun _ _ _ _ _ => (pg_name (i := 3) sc_World_heard.nd rfl (by first | exact Or.inl rfl | exact Or.inr rfl))) (fun _ _ _ _ _ => (pts_one (pt_cmpR (op_notIn_seqK K rfl) (pv 3) (pe_fldK K rfl (pv 0) rfl) (by rfl)))) (fun _ _ _ _ _ => (pv 3))) (pe_lst pa_nil) (nomark _)) pa_nil)))))), ?_⟩
    have N : Now K none _ H H (pwC CW CM CE l A W) [(q, [.int n, .ref b]), (b, bs.map V.int)] := .begin hc (by simp [hq, hb])
    walk_at "gon"
    refine ⟨A.mp, A.mdx, A.mcl, A.st, q, b, W.s, n, bs, rfl, hc.sel [1, 2] rfl (by decide), hst, hq, hb, hok, hn, hbl, h01, h0, fun fl mcl H3 hfl hne A3 hv => ?_⟩
    have N3 := N.sel [1, 2, 0, 3, 4, 5, 6] (l' := mouthC CM A.mp A.mdx A.mcl A.st W.s ++ (⟨true, A.p, .ins CW A.dx (fsW l A)⟩ :: (earC CE A.ep A.edx A.eml A.st W.e ++ [⟨true, A.tl, .lst A.tv⟩, ⟨true, A.hl, .lst (W.here.map V.int)⟩]))) rfl (by decide)
    have N4 := Now.grow N3 (Now.call (fp := mouthC CM A.mp A.mdx A.mcl A.st W.s) N3 (by simp) A3) (q := fl) (fun z hz => by
      by_cases c : z = mcl
      · exact .inr (fun e => hne (e.symm.trans c))
      · left
        have hz : z ∈ [A.mp, mcl, A.p, A.ep, A.eml, A.tl, A.hl] := hz
        show z ∈ [A.mp, A.mcl, A.p, A.ep, A.eml, A.tl, A.hl]
        simp only [List.mem_cons] at hz ⊢
        rcases hz with q | q | q | q | q | q | q
        · exact .inl q
        · exact absurd q c
        · exact .inr (.inr (.inl q))
        · exact .inr (.inr (.inr (.inl q)))
        · exact .inr (.inr (.inr (.inr (.inl q))))
        · exact .inr (.inr (.inr (.inr (.inr (.inl q)))))
        · exact .inr (.inr (.inr (.inr (.inr (.inr q)))))) hfl hv trivial
    clear N N3
    walk_at "kn"
    have lf := foundM_len hok n bs
    generalize W.s.found n bs = fd at *
    refine c_lc N4 (fd.map V.int) (fun i acc => acc = ((fd.take i).filter fun x => decide (x ∉ W.here)).map V.int) rfl (fun H' Dd acc N' => .of (N'.cell 1 rfl)) (fun _ => rfl) (fun i x Dd H5 acc hx N5 r => ?_) (fun pf H5 acc N5 r => ?_) (.of (N4.cell 0 rfl))
    · rw [List.getElem?_map] at hx
      obtain ⟨z, hz, rfl⟩ := Option.map_eq_some_iff.mp hx
      have la : acc.length ≤ 17 := by
        rw [r, List.length_map]
        exact Nat.le_trans filt_len lf
      walk_at "kn"
      refine c_el (fun c => ?_) (fun c => ?_)
      · walk_at "kn"
        refine c_put N5 (by omega) ?_
        show acc ++ [V.int z] = _
        rw [r, filt_snoc hz, if_pos c, List.map_append]
        rfl
      · refine ⟨acc, N5, ?_⟩
        show acc = _
        rw [r, filt_snoc hz, if_neg (fun q => by rw [c] at q; cases q)]
    · rw [List.length_map, List.take_length] at r
      subst r
      walk_at "kn"
      rename_i ep H6 N6
      refine g_neL (m := fd.filter fun x => decide (x ∉ W.here)) (n := []) (.of (N6.cell 1 rfl)) (.of (N6.cell 0 rfl)) ?_
      walk_at "kn"
      rename_i t H7 N7
      have e3 : decide ((fd.filter fun x => decide (x ∉ W.here)) ≠ []) = fd.any fun x => decide (x ∉ W.here) := by
        rw [Bool.eq_iff_iff, decide_eq_true_eq, List.any_eq_true]
        constructor
        · intro z
          obtain ⟨x, hx⟩ := List.exists_mem_of_ne_nil _ z
          exact ⟨x, (List.mem_filter.mp hx).1, (List.mem_filter.mp hx).2⟩
        · rintro ⟨x, hx1, hx2⟩ z
          have q : x ∈ fd.filter fun x => decide (x ∉ W.here) := List.mem_filter.mpr ⟨hx1, hx2⟩
          rw [z] at q
          cases q
      have N8 := N7.tup 0 rfl
      rw [e3] at N8
      exact k mcl _ t _ (Now.done (N7.sel [5, 3, 4, 6, 7, 8, 9] rfl (by decide)) (by simp)) N8
end
/-! ### an event in a World -/
def PW.tAt (W : PW) (j : Int) : Tl := W.told.getD j.toNat ⟨0, [], 0⟩
def PW.step (W : PW) : Ev → PW
  | .send => { W with s := W.s.send }
  | .tell => { W with told := W.told ++ [⟨W.e.newest % W.e.m, W.e.bits, W.s.sent⟩] }
  | .come n => { W with e := W.e.come (W.e.taken (n % W.s.m)), here := W.here ++ [n] }
  | .hear j => { W with s := W.s.hear (W.tAt j).n (W.tAt j).bs }
def PW.bad (W : PW) : Ev → Bool
  | .send => false
  | .tell => false
  | .come n => decide (W.e.taken (n % W.s.m) ≠ n)
  | .hear j => (W.s.found (W.tAt j).n (W.tAt j).bs).any fun x => decide (x ∉ W.here)
structure PWk (m w l a : Int) (W : PW) : Prop where
  es : W.s.m = m ∧ W.s.w = w ∧ W.s.l = l ∧ W.s.a = a
  ee : W.e.m = m ∧ W.e.w = w ∧ W.e.l = l ∧ W.e.a = a
  ok : OkS m w l a
  mok : MOk W.s
  eok : EOk W.e
  here : W.here.length ≤ 50000
  told : W.told.length ≤ 50000
  tl : ∀ t ∈ W.told, (0 ≤ t.n ∧ t.n < m) ∧ (t.bs.length : Int) = w ∧ (∀ x ∈ t.bs, x = 0 ∨ x = 1) ∧ ∀ x ∈ W.s.some t.n t.bs, True
section
variable {P : Program} {w : World} {K : PySem.W.Frag} {mg : Str → Option Value} {base : Heap} {CW CM CE : Addr}
theorem sc_World_do : FnScope ["self", "event", "found"] ["self", "event"] (defScope s_World_do) := ⟨rfl, rfl, rfl, by decide +kernel, rfl, by decide +kernel, by decide +kernel⟩
theorem bd_World_do : Bd "do" "World.do" s_World_do ["self", "event"] := fun _ _ _ _ _ _ us hl => match us, hl with | [_, _], _ => rfl
def spWDo (K : PySem.W.Frag) (CW CM CE : Addr) : Sp := fun vs H Q _ => ∃ (ev : Addr) (A : AP) (m w l a : Int) (W : PW) (e : Ev), vs = [.ref A.p, .ref ev] ∧ CelOk H (pwC CW CM CE l A W) ∧ H A.st = some (.tup (StV m w l a)) ∧ Tls H A.tv W.told ∧ H ev = some (.tup e.v) ∧ PWk m w l a W ∧ W.can l e = true ∧
  (∀ j, e = .hear j → ∀ x ∈ W.s.some (W.tAt j).n (W.tAt j).bs, 0 ≤ x) ∧
  ∀ (A' : AP) (x : V) (t : Addr) H', A'.p = A.p → A'.st = A.st → Aftr (pwC CW CM CE l A W) (pwC CW CM CE l A' (W.step e)) H H' → Tls H' A'.tv (W.step e).told → H' t = some (.tup [x, .bl (W.bad e)]) → Q (.ref t) H'
theorem ok_WDo (F : DefM K CW "do" "World.do" s_World_do) (T : WTx K CW) (TM : MTx K CM) (TE : ETx K CE) (B : Bt mg) (c_Mouth_send : CalM P w K mg base CX0 CM 2 "send" ["self"] (spMSend K CM)) (c_Ear_tell : CalM P w K mg base CX0 CE 1 "tell" ["self"] (spETell K CE)) (c_Ear_come : CalM P w K mg base CX0 CE 2 "come" ["self", "mark"] (spECome K CE))
    (c_World_heard : CalM P w K mg base CX0 CW 4 "heard" ["self", "telling"] (spWHeard K CW CM CE)) : CalM P w K mg base CX0 CW 5 "do" ["self", "event"] (spWDo K CW CM CE) := by
  refine F.ok sc_World_do bd_World_do (fun vs H Q E h => ?_) (fun f cdv A outer s H vs Q E hr h => ?_)
  · obtain ⟨ev, A, m, w, l, a, W, e, rfl, _⟩ := h
    rfl
  · obtain ⟨ev, A, m, w, l, a, W, e, rfl, hc, hst, hT, he, hk, hcan, hlow, k⟩ := h
    obtain ⟨cl_World, n1, n2, n3, n4, n5⟩ := T
    obtain ⟨cl_Mouth, m1, m2, m3, m4, m5, m6, m7, m8⟩ := TM
    obtain ⟨cl_Ear, e1, e2, e3, e4, e5, e6, e7⟩ := TE
    refine ⟨_, PSs.nox (pss_cons (ps_if (pt_cmpR op_eq (pe_ix (ix_tupK K rfl) (pv 1) pe_int (fun _ _ => rfl)) pe_str (nomark _)) (pss_one (ps_ret (pe_tup (pa_cons (pe_calM0 (pe_fldK K rfl (pv 0) rfl) cl_Mouth c_Mouth_send (hr.mono (by decide)) pass0) (pa_cons pe_bl pa_nil))))) pss_nil)
      (pss_cons (ps_if (pt_cmpR op_eq (pe_ix (ix_tupK K rfl) (pv 1) pe_int (fun _ _ => rfl)) pe_str (nomark _)) (pss_cons (ps_expr (pe_bmK K rfl PySem.F.plainAttrs_list PySem.F.slot_list_append PySem.F.type_list_append mt_append (pe_fldK K rfl (pv 0) rfl) (pa_cons (pe_tup (pa_cons (pe_calM0 (pe_fldK K rfl (pv 0) rfl) cl_Ear c_Ear_tell (hr.mono (by decide)) pass0) (pa_cons (pe_fldK K rfl (pe_fldK K rfl (pv 0) rfl) rfl) pa_nil))) pa_nil)))
      (pss_one (ps_ret (pe_tup (pa_cons (pe_ix (ix_tupK K rfl) (pe_ix (ix_listK K rfl) (pe_fldK K rfl (pv 0) rfl) (pe_un un_neg pe_int) (fun _ _ => rfl)) pe_int (fun _ _ => rfl)) (pa_cons pe_bl pa_nil)))))) pss_nil)
      (pss_cons (ps_if (pt_cmpR op_eq (pe_ix (ix_tupK K rfl) (pv 1) pe_int (fun _ _ => rfl)) pe_str (nomark _)) (pss_cons (ps_set (i := 2) sc_World_do.nd rfl (by first | exact Or.inl rfl | exact Or.inr rfl) (pe_calM (pe_fldK K rfl (pv 0) rfl) cl_Ear c_Ear_come (hr.mono (by decide)) pass0 (pa_cons (pe_op op_mod (pe_ix (ix_tupK K rfl) (pv 1) pe_int (fun _ _ => rfl)) (pe_fldK K rfl (pe_fldK K rfl (pv 0) rfl) rfl)) pa_nil)))
      (pss_cons (ps_expr (pe_bmK K rfl PySem.F.plainAttrs_list PySem.F.slot_list_append PySem.F.type_list_append mt_append (pe_fldK K rfl (pv 0) rfl) (pa_cons (pe_ix (ix_tupK K rfl) (pv 1) pe_int (fun _ _ => rfl)) pa_nil)))
      (pss_one (ps_ret (pe_tup (pa_cons (pv 2) (pa_cons (pe_cmpR op_ne (pe_ix (ix_tupK K rfl) (pv 2) pe_int (fun _ _ => rfl)) (pe_ix (ix_tupK K rfl) (pv 1) pe_int (fun _ _ => rfl)) (nomark _)) pa_nil))))))) pss_nil)
      (pss_one (ps_ret (pe_calM (pv 0) cl_World c_World_heard (hr.mono (by decide)) pass0 (pa_cons (pe_ix (ix_tupK K rfl) (pe_ix (ix_listK K rfl) (pe_fldK K rfl (pv 0) rfl) (pe_ix (ix_tupK K rfl) (pv 1) pe_int (fun _ _ => rfl)) (fun _ _ => rfl)) pe_int (fun _ _ => rfl)) pa_nil))))))), ?_⟩
    have tlen : A.tv.length = W.told.length := Paired.length hT
    have hokS := hk.ok
    unfold OkS at hokS
    obtain ⟨s1, s2, s3, s4⟩ := hk.es
    cases e with
    | send =>
      replace he : H ev = some (.tup [.str "send"]) := he
      have N : Now K none _ H H (pwC CW CM CE l A W) [(ev, [.str "send"])] := .begin hc (by simp [he])
      walk_at "gon"
      have hf : W.s.full = false := by
        have hcan : (!W.s.full) = true := hcan
        simpa using hcan
      refine ⟨A.mp, A.mdx, A.mcl, A.st, W.s, rfl, hc.sel [1, 2] rfl (by decide), hk.mok.ok, hf, fun x H2 A2 h2 => ?_⟩
      have N2 := (Now.call (fp := mouthC CM A.mp A.mdx A.mcl A.st W.s) (r := ⟨true, A.p, .ins CW A.dx (fsW l A)⟩ :: (earC CE A.ep A.edx A.eml A.st W.e ++ [⟨true, A.tl, .lst A.tv⟩, ⟨true, A.hl, .lst (W.here.map V.int)⟩])) (N.sel [1, 2, 0, 3, 4, 5, 6] rfl (by decide)) (by simp) A2).moreT h2
      clear N
      walk_at "kn"
      rename_i t H3 N3
      exact k A _ t _ rfl rfl (Now.done (N3.sel [2, 0, 1, 3, 4, 5, 6] rfl (by decide)) (by simp)) (hT.keep N3.af) (N3.tup 0 rfl)
    | tell =>
      replace he : H ev = some (.tup [.str "tell"]) := he
      have N : Now K none _ H H (pwC CW CM CE l A W) [(ev, [.str "tell"])] := .begin hc (by simp [he])
      have h0 : 0 ≤ W.e.newest := of_decide_eq_true hcan
      walk_at "gon"
      refine k_eqStr (by decide) ?_
      walk_at "kn"
      refine ⟨A.ep, A.edx, A.eml, A.st, W.e, rfl, hc.sel [3, 4] rfl (by decide), hk.eok, h0, fun y b H2 A2 h1 h2 => ?_⟩
      have N2 := ((N.pure A2).moreT h2).moreT h1
      clear N
      walk_at "kn"
      rename_i x H3 N3
      have k3 := hk.told
      refine g_app0 (N3.sel [5, 0, 1, 2, 3, 4, 6] (l' := ⟨true, A.tl, .lst A.tv⟩ :: ⟨true, A.p, .ins CW A.dx (fsW l A)⟩ :: (mouthC CM A.mp A.mdx A.mcl A.st W.s ++ (earC CE A.ep A.edx A.eml A.st W.e ++ [⟨true, A.hl, .lst (W.here.map V.int)⟩]))) rfl (by decide)) (by omega) fun H4 N4 => ?_
      clear N3 N2
      walk_at "kn"
      refine g_ixL (xs := A.tv ++ [.ref x]) (v := .ref x) (.of (N4.cell 0 rfl)) (atI_last _ _) ?_
      walk_at "kn"
      rename_i t H5 N5
      exact k { A with tv := A.tv ++ [.ref x] } _ t _ rfl rfl (Now.done (N5.sel [1, 2, 3, 4, 5, 0, 6] rfl (by decide)) (by simp)) (Paired.snoc (hT.keep N5.af) ⟨x, y, b, rfl, N5.tup 1 rfl, N5.tup 2 rfl, N5.tup 3 rfl⟩) (N5.tup 0 rfl)
    | come n =>
      replace he : H ev = some (.tup [.str "come", .int n]) := he
      have N : Now K none _ H H (pwC CW CM CE l A W) [(ev, [.str "come", .int n])] := .begin hc (by simp [he])
      obtain ⟨t1, t2, t3, t4⟩ := hk.ee
      have hmm : 0 < W.s.m := by omega
      have k4 := hk.here
      walk_at "gon"
      refine k_eqStr (by decide) ?_
      walk_at "kn"
      refine k_eqStr (by decide) ?_
      walk_at "kn"
      refine ⟨A.ep, A.edx, A.eml, A.st, W.e, n % W.s.m, rfl, hc.sel [3, 4] rfl (by decide), by rw [t1, t2, t3, t4]; exact hst, hk.eok, by rw [t1, ← s1]; exact ⟨Int.emod_nonneg _ (by omega), Int.emod_lt_of_pos _ hmm⟩, fun y eml H2 A2 h1 => ?_⟩
      have N2 := (Now.call (fp := earC CE A.ep A.edx A.eml A.st W.e) (r := ⟨true, A.p, .ins CW A.dx (fsW l A)⟩ :: (mouthC CM A.mp A.mdx A.mcl A.st W.s ++ [⟨true, A.tl, .lst A.tv⟩, ⟨true, A.hl, .lst (W.here.map V.int)⟩])) (N.sel [3, 4, 0, 1, 2, 5, 6] rfl (by decide)) (by simp) A2).moreT h1
      clear N
      walk_at "kn"
      refine g_app0 (N2.sel [6, 0, 1, 2, 3, 4, 5] (l' := ⟨true, A.hl, .lst (W.here.map V.int)⟩ :: (earC CE A.ep A.edx eml A.st (W.e.come (W.e.taken (n % W.s.m))) ++ (⟨true, A.p, .ins CW A.dx (fsW l A)⟩ :: (mouthC CM A.mp A.mdx A.mcl A.st W.s ++ [⟨true, A.tl, .lst A.tv⟩])))) rfl (by decide)) (by rw [List.length_map]; omega) fun H4 N4 => ?_
      have ec : W.here.map V.int ++ [V.int n] = (W.here ++ [n]).map V.int := by rw [List.map_append]; rfl
      rw [ec] at N4
      clear N2
      walk_at "kn"
      rename_i t H5 N5
      exact k { A with eml := eml } _ t _ rfl rfl (Now.done (N5.sel [3, 4, 5, 1, 2, 6, 0] rfl (by decide)) (by simp)) (hT.keep N5.af) (N5.tup 0 rfl)
    | hear n =>
      replace he : H ev = some (.tup [.str "hear", .int n]) := he
      have N : Now K none _ H H (pwC CW CM CE l A W) [(ev, [.str "hear", .int n])] := .begin hc (by simp [he])
      have hcan : (decide (0 ≤ n) && (decide (n < (W.told.length : Int)) && decide (W.s.sent - (W.told.getD n.toNat ⟨0, [], 0⟩).c ≤ l))) = true := hcan
      simp only [Bool.and_eq_true, decide_eq_true_eq] at hcan
      obtain ⟨c1, c2, _⟩ := hcan
      have lt : n.toNat < W.told.length := by omega
      obtain ⟨x, y, b, f1, f2, f3, f4⟩ := tls_at hT (List.getElem?_eq_getElem lt)
      have eg : W.tAt n = W.told[n.toNat] := by unfold PW.tAt; rw [List.getD_eq_getElem?_getD, List.getElem?_eq_getElem lt]; rfl
      rw [← eg] at f2 f3 f4
      have mem : W.tAt n ∈ W.told := by rw [eg]; exact List.getElem_mem lt
      obtain ⟨g1, g2, g3, _⟩ := hk.tl _ mem
      have N2 := (N.moreT f2).moreT f3
      clear N
      walk_at "gon"
      refine k_eqStr (by decide) ?_
      walk_at "kn"
      refine k_eqStr (by decide) ?_
      walk_at "kn"
      refine k_eqStr (by decide) ?_
      walk_at "kn"
      refine g_ixL (xs := A.tv) (v := .ref x) (.of (N2.cell 5 rfl)) (at_of (show n = (n.toNat : Int) by omega) f1) ?_
      walk_at "kn"
      refine ⟨y, b, A, l, W, (W.tAt n).n, (W.tAt n).bs, rfl, hc, by rw [s1, s2, s3, s4]; exact hst, f3, f4, hk.mok, by rw [s1]; exact g1, by rw [s2]; exact g2, g3, hlow n rfl, fun mcl z t H3 A3 ht => ?_⟩
      exact k { A with mcl := mcl } z t _ rfl rfl A3 (hT.keep A3.af) ht
end
/-! ### the own ear and the Ear agree -/
structure ERel (w : Int) (o : OE) (e : ES) : Prop where
  newest : o.newest = e.newest
  came : ∀ x, x ∈ e.met ↔ x ∈ o.came ∧ e.newest - w ≤ x
section
variable {m w l a : Int} {o : OE} {e : ES}
theorem ERel.start : ERel w ⟨-1, []⟩ ⟨m, w, l, a, -1, []⟩ := ⟨rfl, by simp⟩
theorem ERel.taken (R : ERel w o e) (em : e.m = m) (el : e.l = l) (k : Int) : o.taken m l k = e.taken k := by
  unfold OE.taken ES.taken OE.least ES.least
  rw [R.newest, em, el]
theorem ERel.word (R : ERel w o e) (ew : e.w = w) (n : Int) : o.word w n = e.word n := by
  have h := R.came n
  unfold OE.word ES.word
  rw [R.newest, ew]
  by_cases c1 : n < e.newest - w
  · rw [if_pos c1, if_neg (fun z => by have := (h.mp z).2; omega), if_pos c1]
  · by_cases c2 : n ∈ e.met
    · rw [if_neg c1, if_pos (h.mp c2).1, if_pos c2]
    · rw [if_neg c1, if_neg (fun z => c2 (h.mpr ⟨z, by omega⟩)), if_neg c2, if_neg c1]
theorem ERel.come (R : ERel w o e) (ew : e.w = w) (hw : w ≤ 16) (n : Int) : ERel w (o.come w n) (e.come n) := by
  have h := R.came n
  unfold OE.come ES.come
  rw [R.newest, ew]
  by_cases c1 : n < e.newest - w
  · rw [if_pos c1, if_neg (fun z => by have := (h.mp z).2; omega), if_pos c1]
    exact R
  · by_cases c2 : n ∈ e.met
    · rw [if_neg c1, if_pos (h.mp c2).1, if_pos c2]
      exact R
    · rw [if_neg c1, if_neg (fun z => c2 (h.mpr ⟨z, by omega⟩)), if_neg c2, if_neg c1]
      refine ⟨by show max o.newest n = max e.newest n; rw [R.newest], fun x => ?_⟩
      show x ∈ (e.met ++ [n]).filter (fun x => decide (x ≥ max e.newest n - e.w)) ↔ x ∈ (o.came ++ [n]).filter (fun x => decide (x ≥ max o.newest n - 20)) ∧ max e.newest n - w ≤ x
      rw [List.mem_filter, List.mem_filter, List.mem_append, List.mem_append, R.came x, List.mem_singleton, decide_eq_true_eq, decide_eq_true_eq, ew, R.newest]
      constructor
      · rintro ⟨z | z, y⟩
        · exact ⟨⟨.inl z.1, by omega⟩, y⟩
        · exact ⟨⟨.inr z, by omega⟩, y⟩
      · rintro ⟨⟨z | z, y0⟩, y⟩
        · exact ⟨.inl ⟨z, by omega⟩, y⟩
        · exact ⟨.inr z, y⟩
theorem ERel.bits (R : ERel w o e) (ew : e.w = w) : o.bits w = e.bits := by
  unfold OE.bits ES.bits
  rw [ew]
  refine List.map_congr_left fun k hk => ?_
  have hk := List.mem_range.mp hk
  have h := R.came (e.newest - 1 - (k : Int))
  have q : o.newest - (1 + (k : Int)) = e.newest - 1 - (k : Int) := by rw [R.newest]; omega
  rw [q]
  by_cases c : e.newest - 1 - (k : Int) ∈ e.met
  · rw [if_pos c, if_pos (h.mp c).1]
  · rw [if_neg c, if_neg (fun z => c (h.mpr ⟨z, by omega⟩))]
end
/-! ### the own mouth and the Mouth agree -/
structure MRel (o : OM) (s : MS) : Prop where
  sent : o.sent = s.sent
  sure : o.sure = s.certain
  top : s.top ∈ -1 :: s.certain ∧ ∀ x ∈ -1 :: s.certain, x ≤ s.top
section
variable {m w l a : Int} {o : OM} {s : MS}
theorem MRel.start : MRel ⟨0, []⟩ ⟨m, w, l, a, 0, -1, []⟩ := ⟨rfl, rfl, by simp, by simp⟩
theorem MRel.full (R : MRel o s) (sa : s.a = a) : o.full a = s.full := by
  unfold OM.full MS.full
  rw [R.sent, R.sure, sa, Bool.eq_iff_iff, List.all_eq_true, decide_eq_true_eq]
  constructor
  · intro z
    have := of_decide_eq_true (z _ R.top.1)
    omega
  · intro z x hx
    have := R.top.2 x hx
    exact decide_eq_true (by omega)
theorem MRel.number (R : MRel o s) (sm : s.m = m) (k : Int) : o.number m k = s.number k := by
  unfold OM.number MS.number
  rw [R.sent, sm]
theorem MRel.far (R : MRel o s) (sm : s.m = m) (k : Int) (bs : List Int) (n : Nat) : o.far m k bs n = s.far k bs n := by
  unfold OM.far MS.far
  rw [R.number sm]
  refine List.map_congr_left fun i _ => ?_
  omega
theorem MRel.some (R : MRel o s) (sm : s.m = m) (sw : s.w = w) (k : Int) (bs : List Int) : (o.some m w k bs).Perm (s.some k bs) := by
  unfold OM.some MS.some
  rw [R.far sm, R.number sm, sw]
  exact (List.perm_append_singleton _ _).symm
theorem MRel.low (R : MRel o s) (sm : s.m = m) (sw : s.w = w) (k : Int) (bs : List Int) : ((o.some m w k bs).any fun x => decide (x < 0)) = (s.some k bs).any fun x => decide (x < 0) := by
  rw [Bool.eq_iff_iff, List.any_eq_true, List.any_eq_true]
  have p := R.some sm sw k bs
  exact ⟨fun ⟨x, h1, h2⟩ => ⟨x, p.mem_iff.mp h1, h2⟩, fun ⟨x, h1, h2⟩ => ⟨x, p.mem_iff.mpr h1, h2⟩⟩
theorem MRel.found (R : MRel o s) (sm : s.m = m) (sw : s.w = w) (k : Int) (bs : List Int) : o.found m w k bs = s.found k bs := by
  unfold OM.found MS.found
  rw [R.sure]
  refine srt_eq ?_ (srt_sorted _)
  exact (srt_perm _).trans ((R.some sm sw k bs).filter _)
theorem MRel.send (R : MRel o s) : MRel ⟨o.sent + 1, o.sure⟩ s.send := ⟨by show o.sent + 1 = s.sent + 1; rw [R.sent], R.sure, R.top⟩
theorem MRel.hear (R : MRel o s) (sm : s.m = m) (sw : s.w = w) (k : Int) (bs : List Int) : MRel (o.hear m w k bs) (s.hear k bs) := by
  refine ⟨R.sent, ?_, ?_, ?_⟩
  · show srt (o.sure ++ o.found m w k bs) = srt (s.certain ++ s.found k bs)
    rw [R.sure, R.found sm sw]
  · show max s.top (s.number k) ∈ -1 :: srt (s.certain ++ s.found k bs)
    by_cases c : s.number k ≤ s.top
    · rw [Int.max_eq_left c]
      rcases List.mem_cons.mp R.top.1 with z | z
      · rw [z]
        exact List.mem_cons_self
      · exact List.mem_cons_of_mem _ (srt_mem.mpr (List.mem_append_left _ z))
    · rw [Int.max_eq_right (by omega)]
      refine List.mem_cons_of_mem _ (srt_mem.mpr ?_)
      by_cases d : s.number k ∈ s.certain
      · exact List.mem_append_left _ d
      · refine List.mem_append_right _ ?_
        unfold MS.found
        refine srt_mem.mpr (List.mem_filter.mpr ⟨?_, decide_eq_true d⟩)
        unfold MS.some
        exact List.mem_append_right _ (List.mem_singleton.mpr rfl)
  · intro x hx
    show x ≤ max s.top (s.number k)
    rcases List.mem_cons.mp hx with z | z
    · have := R.top.2 (-1) List.mem_cons_self
      omega
    · rcases List.mem_append.mp (srt_mem.mp z) with y | y
      · have := R.top.2 x (List.mem_cons_of_mem _ y)
        omega
      · unfold MS.found at y
        have y := (List.mem_filter.mp (srt_mem.mp y)).1
        unfold MS.some at y
        rcases List.mem_append.mp y with q | q
        · unfold MS.far at q
          obtain ⟨i, _, rfl⟩ := List.mem_map.mp q
          omega
        · have := List.mem_singleton.mp q
          omega
end
/-! ### the own world and the World agree -/
structure PRel (m w l a : Int) (O : OW) (W : PW) : Prop where
  es : W.s.m = m ∧ W.s.w = w ∧ W.s.l = l ∧ W.s.a = a
  ee : W.e.m = m ∧ W.e.w = w ∧ W.e.l = l ∧ W.e.a = a
  e : ERel w O.e W.e
  s : MRel O.m W.s
  told : O.told = W.told
  here : O.here = W.here
section
variable {m w l a : Int} {O : OW} {W : PW}
theorem PRel.start : PRel m w l a .zero ⟨⟨m, w, l, a, 0, -1, []⟩, ⟨m, w, l, a, -1, []⟩, [], []⟩ := ⟨⟨rfl, rfl, rfl, rfl⟩, ⟨rfl, rfl, rfl, rfl⟩, .start, .start, rfl, rfl⟩
theorem PRel.can (R : PRel m w l a O W) (e : Ev) : O.can l a e = W.can l e := by
  cases e with
  | send => show (!(O.m.full a)) = !W.s.full; rw [R.s.full R.es.2.2.2]
  | tell => show decide (O.e.newest ≥ 0) = decide (W.e.newest ≥ 0); rw [R.e.newest]
  | come n =>
    show decide ((0 ≤ n ∧ n < O.m.sent) ∧ O.m.sent - 1 - n ≤ l) = (decide (0 ≤ n) && (decide (n < W.s.sent) && decide (W.s.sent - (n + 1) ≤ l)))
    rw [R.s.sent, Bool.eq_iff_iff]
    simp only [Bool.and_eq_true, decide_eq_true_eq]
    omega
  | hear n =>
    show decide ((0 ≤ n ∧ n < (O.told.length : Int)) ∧ O.m.sent - (O.told.getD n.toNat ⟨0, [], 0⟩).c ≤ l) = (decide (0 ≤ n) && (decide (n < (W.told.length : Int)) && decide (W.s.sent - (W.told.getD n.toNat ⟨0, [], 0⟩).c ≤ l)))
    rw [R.s.sent, R.told, Bool.eq_iff_iff]
    simp only [Bool.and_eq_true, decide_eq_true_eq]
    omega
theorem PRel.step (R : PRel m w l a O W) (ok : OkS m w l a) {e : Ev} (hl : ∀ j, e = .hear j → O.low m w j = false) : PRel m w l a (O.step m w l e) (W.step e) := by
  obtain ⟨s1, s2, s3, s4⟩ := R.es
  obtain ⟨e1, e2, e3, e4⟩ := R.ee
  cases e with
  | send => exact ⟨R.es, R.ee, R.e, R.s.send, R.told, R.here⟩
  | tell =>
    refine ⟨R.es, R.ee, R.e, R.s, ?_, R.here⟩
    show O.told ++ [(⟨O.e.newest % m, O.e.bits w, O.m.sent⟩ : Tl)] = W.told ++ [⟨W.e.newest % W.e.m, W.e.bits, W.s.sent⟩]
    rw [R.told, R.e.newest, R.e.bits e2, R.s.sent, e1]
  | come n =>
    have tk : O.e.taken m l (n % m) = W.e.taken (n % W.s.m) := by rw [s1]; exact R.e.taken e1 e3 _
    refine ⟨R.es, ?_, ?_, R.s, R.told, ?_⟩
    · show (W.e.come (W.e.taken (n % W.s.m))).m = m ∧ (W.e.come (W.e.taken (n % W.s.m))).w = w ∧ (W.e.come (W.e.taken (n % W.s.m))).l = l ∧ (W.e.come (W.e.taken (n % W.s.m))).a = a
      unfold ES.come
      split
      · exact R.ee
      · split
        · exact R.ee
        · exact R.ee
    · show ERel w (O.e.come w (O.e.taken m l (n % m))) (W.e.come (W.e.taken (n % W.s.m)))
      rw [tk]
      exact R.e.come e2 ok.2.1.2 _
    · show O.here ++ [n] = W.here ++ [n]
      rw [R.here]
  | hear j =>
    have ll := hl j rfl
    have et : O.tAt j = W.tAt j := by unfold OW.tAt PW.tAt; rw [R.told]
    have st : O.step m w l (.hear j) = { O with m := O.m.hear m w (O.tAt j).n (O.tAt j).bs } := if_neg (by rw [ll]; simp)
    rw [st, et]
    exact ⟨R.es, R.ee, R.e, R.s.hear s1 s2 _ _, R.told, R.here⟩
end
/-! ### events of any kind; what is told of each -/
def OddS (z : List Sc) : Prop := z ≠ [.inr "send"] ∧ z ≠ [.inr "tell"] ∧ (z.length ≠ 2 ∨ ∃ (s : Str) (y : Sc), z = [.inr s, y] ∧ s ≠ "come" ∧ s ≠ "hear")
inductive EvX where
  | ev (e : Ev)
  | odd (z : List Sc) (h : OddS z) (o : z.all scOk = true)
def EvX.sc : EvX → List Sc
  | .ev e => e.sc
  | .odd z _ _ => z
theorem EvX.ok (e : EvX) : e.sc.all scOk = true := match e with
  | .ev e => e.scOk
  | .odd _ _ o => o
abbrev EvX.v (e : EvX) : List V := e.sc.map scV
abbrev EvX.d (e : EvX) : PyData := .tuple (e.sc.map scD)
def EvXs (H : Hp) : List V → List EvX → Prop := Paired fun v e => ∃ t, v = .ref t ∧ H t = some (.tup e.v)
theorem EvXs.keep {M : List Addr} {H H' : Hp} {ev : List V} {es : List EvX} (h : EvXs H ev es) (A : Aft M H H') : EvXs H' ev es := Paired.mapP h fun _ _ ⟨t, e1, e2⟩ => ⟨t, e1, A.t _ _ e2⟩
theorem evs_x {H : Hp} : ∀ {lv : List V} {es : List Ev}, Evs H lv es → EvXs H lv (es.map EvX.ev)
  | _, _, .nil => .nil
  | _, _, .cons h1 h2 => .cons h1 (evs_x h2)
theorem evx_at {H : Hp} : ∀ {lv : List V} {es : List EvX} {i : Nat} {x : V}, EvXs H lv es → lv[i]? = some x → ∃ t e, x = .ref t ∧ H t = some (.tup e.v) ∧ es[i]? = some e
  | _, _, _, _, .nil, h => by simp at h
  | _, _, 0, _, .cons (b := e) ⟨t, e1, e2⟩ _, h => by
    cases h
    exact ⟨t, e, e1, e2, rfl⟩
  | _, _, i + 1, _, .cons _ r, h => evx_at (i := i) r h
theorem EvXs.held {H : Hp} {lv : List V} {es : List EvX} (h : EvXs H lv es) : Held (fun H' => EvXs H' lv es) H :=
  held_paired (R := fun (H : Hp) (v : V) (e : EvX) => ∃ t, v = .ref t ∧ H t = some (.tup e.v)) (fun H v e ⟨t, e1, e2⟩ => ⟨[(t, e.v)], by simp [e2], fun H' h' => ⟨t, e1, h' (t, _) (by simp)⟩⟩) h
theorem dpa_evx {K : PySem.W.Frag} {H : Hp} : ∀ {lv : List V} {es : List EvX}, EvXs H lv es → DpAll K H lv (es.map EvX.d)
  | _, _, .nil => .nil
  | _, _, .cons (b := e) ⟨t, e1, e2⟩ r => by
    subst e1
    exact .cons (.tup (.of e2) (dpa_sc e.sc)) (dpa_evx r)
theorem lay_evx : ∀ es : List EvX, PyData.canLayAll0 (es.map EvX.d) = true ∧ PyData.depthAll (es.map EvX.d) ≤ 2
  | [] => by simp [PyData.canLayAll0, PyData.depthAll]
  | e :: es => by
    obtain ⟨h1, h2⟩ := lay_evx es
    obtain ⟨h3, h4⟩ := lay_sc e.sc e.ok
    simp only [List.map_cons, PyData.canLayAll0, PyData.depthAll, PyData.canLay0, PyData.depth, h1, h3, Bool.and_self, true_and]
    omega
theorem shaped_evx (es : List EvX) : SeqAt.shaped (.list (es.map EvX.d)) = true := by
  obtain ⟨h1, h2⟩ := lay_evx es
  unfold SeqAt.shaped
  simp only [PyData.canLay0, PyData.depth, h1, Bool.true_and]
  exact decide_eq_true (by omega)
theorem eqv_evx : ∀ es : List EvX, PyData.eqvAll (es.map EvX.d) (es.map EvX.d) = true
  | [] => by simp [PyData.eqvAll]
  | e :: es => by
    rw [List.map_cons, PyData.eqvAll, eqv_evx es, PyData.eqv, eqv_sc, decide_eq_true rfl]
    rfl
theorem g_neEvx {K : PySem.W.Frag} {H : Hp} {a b : Addr} {Q : VK} {lv : List V} {es : List EvX} (h1 : SqL K H a lv) (hE : EvXs H lv es) (h2 : SqL K H b lv) (q : Q (.bl false) H) : rNeD K (.ref a) (.ref b) H Q :=
  ⟨_, _, .lst h1 (dpa_evx hE), .lst h2 (dpa_evx hE), shaped_evx es, shaped_evx es, by
    rw [PyData.eqv, eqv_evx]
    exact q⟩
/-! a machine that goes by events -/
structure Mach where
  S : Type
  z : S
  can : S → Ev → Bool
  step : S → Ev → S
  tell : S → Ev → PyData
  bad : S → Ev → Bool
def Mach.canX (A : Mach) (s : A.S) : EvX → Bool
  | .ev e => A.can s e
  | .odd _ _ _ => false
def Mach.go (A : Mach) (es : List EvX) : Nat → A.S
  | 0 => A.z
  | i + 1 => match es[i]? with
    | some (.ev e) => A.step (A.go es i) e
    | _ => A.go es i
def Mach.okx (A : Mach) (es : List EvX) (i : Nat) : Prop := i < 400 ∧ ∃ x, es[i]? = some x ∧ A.canX (A.go es i) x = true
def Mach.tl (A : Mach) (es : List EvX) : Nat → List PyData
  | 0 => []
  | i + 1 => A.tl es i ++ [match es[i]? with
    | some (.ev e) => A.tell (A.go es i) e
    | _ => .none]
def Mach.wr (A : Mach) (es : List EvX) : Nat → Option Nat
  | 0 => none
  | i + 1 => match A.wr es i, es[i]? with
    | some j, _ => some j
    | none, some (.ev e) => if A.bad (A.go es i) e then some i else none
    | none, _ => none
theorem Mach.tl_len (A : Mach) (es : List EvX) : ∀ i, (A.tl es i).length = i
  | 0 => rfl
  | i + 1 => by
    show (A.tl es i ++ [_]).length = i + 1
    rw [List.length_append, A.tl_len es i]
    rfl
theorem Mach.go_ev {A : Mach} {es : List EvX} {i : Nat} {e : Ev} (h : es[i]? = some (.ev e)) : A.go es (i + 1) = A.step (A.go es i) e := by
  show (match es[i]? with | some (.ev e) => A.step (A.go es i) e | _ => A.go es i) = _
  rw [h]
theorem Mach.tl_ev {A : Mach} {es : List EvX} {i : Nat} {e : Ev} (h : es[i]? = some (.ev e)) : A.tl es (i + 1) = A.tl es i ++ [A.tell (A.go es i) e] := by
  show A.tl es i ++ [match es[i]? with | some (.ev e) => A.tell (A.go es i) e | _ => .none] = _
  rw [h]
theorem Mach.wr_some {A : Mach} {es : List EvX} {i j : Nat} (h : A.wr es i = some j) : A.wr es (i + 1) = some j := by
  show (match A.wr es i, es[i]? with
    | some j, _ => some j
    | none, some (.ev e) => if A.bad (A.go es i) e then some i else none
    | none, _ => none) = _
  rw [h]
theorem Mach.wr_none {A : Mach} {es : List EvX} {i : Nat} {e : Ev} (h : A.wr es i = none) (he : es[i]? = some (.ev e)) : A.wr es (i + 1) = if A.bad (A.go es i) e then some i else none := by
  show (match A.wr es i, es[i]? with
    | some j, _ => some j
    | none, some (.ev e) => if A.bad (A.go es i) e then some i else none
    | none, _ => none) = _
  rw [h, he]
/-- two machines that tell alike -/
structure Mach.Sim (A B : Mach) (R : A.S → B.S → Prop) : Prop where
  z : R A.z B.z
  can : ∀ s t e, R s t → A.can s e = B.can t e
  step : ∀ s t e, R s t → R (A.step s e) (B.step t e)
  tell : ∀ s t e, R s t → A.tell s e = B.tell t e
  bad : ∀ s t e, R s t → A.bad s e = B.bad t e
section
variable {A B : Mach} {R : A.S → B.S → Prop} {es : List EvX}
theorem Mach.Sim.go (T : Mach.Sim A B R) : ∀ i, R (A.go es i) (B.go es i)
  | 0 => T.z
  | i + 1 => by
    show R (match es[i]? with | some (.ev e) => A.step (A.go es i) e | _ => A.go es i) (match es[i]? with | some (.ev e) => B.step (B.go es i) e | _ => B.go es i)
    split
    · exact T.step _ _ _ (T.go i)
    · exact T.go i
theorem Mach.Sim.canX (T : Mach.Sim A B R) {s : A.S} {t : B.S} (h : R s t) (x : EvX) : A.canX s x = B.canX t x := by
  cases x with
  | ev e => exact T.can s t e h
  | odd z h o => rfl
theorem Mach.Sim.okx (T : Mach.Sim A B R) (i : Nat) : A.okx es i ↔ B.okx es i := by
  unfold Mach.okx
  refine and_congr Iff.rfl (exists_congr fun x => and_congr Iff.rfl ?_)
  rw [T.canX (T.go i) x]
theorem Mach.Sim.tl (T : Mach.Sim A B R) : ∀ i, A.tl es i = B.tl es i
  | 0 => rfl
  | i + 1 => by
    show A.tl es i ++ [match es[i]? with | some (.ev e) => A.tell (A.go es i) e | _ => .none] = B.tl es i ++ [match es[i]? with | some (.ev e) => B.tell (B.go es i) e | _ => .none]
    rw [T.tl i]
    split
    · rw [T.tell _ _ _ (T.go i)]
    · rfl
theorem Mach.Sim.wr (T : Mach.Sim A B R) : ∀ i, A.wr es i = B.wr es i
  | 0 => rfl
  | i + 1 => by
    show (match A.wr es i, es[i]? with
    | some j, _ => some j
    | none, some (.ev e) => if A.bad (A.go es i) e then some i else none
    | none, _ => none) = (match B.wr es i, es[i]? with
    | some j, _ => some j
    | none, some (.ev e) => if B.bad (B.go es i) e then some i else none
    | none, _ => none)
    rw [T.wr i]
    split
    · rfl
    · rw [T.bad _ _ _ (T.go i)]
    · rfl
end
/-! the two machines here -/
def OW.tellX (W : OW) (m w l : Int) : Ev → PyData
  | .send => .tuple [.int W.m.sent, .int (W.m.sent % m)]
  | .tell => .tuple [.int (W.e.newest % m), .tuple ((W.e.bits w).map PyData.int)]
  | .come n => .tuple [.int (W.e.taken m l (n % m)), .str (W.e.word w (W.e.taken m l (n % m)))]
  | .hear j => if W.low m w j then .none else .list ((W.m.found m w (W.tAt j).n (W.tAt j).bs).map PyData.int)
def PW.low (W : PW) (j : Int) : Bool := (W.s.some (W.tAt j).n (W.tAt j).bs).any fun x => decide (x < 0)
def PW.stepX (W : PW) : Ev → PW
  | .send => W.step .send
  | .tell => W.step .tell
  | .come n => W.step (.come n)
  | .hear j => if W.low j then W else W.step (.hear j)
def PW.badX (W : PW) : Ev → Bool
  | .send => false
  | .tell => false
  | .come n => W.bad (.come n)
  | .hear j => if W.low j then true else W.bad (.hear j)
def PW.tellX (W : PW) : Ev → PyData
  | .send => .tuple [.int W.s.sent, .int (W.s.sent % W.s.m)]
  | .tell => .tuple [.int (W.e.newest % W.e.m), .tuple (W.e.bits.map PyData.int)]
  | .come n => .tuple [.int (W.e.taken (n % W.s.m)), .str (W.e.word (W.e.taken (n % W.s.m)))]
  | .hear j => if W.low j then .none else .list ((W.s.found (W.tAt j).n (W.tAt j).bs).map PyData.int)
abbrev PW.zero (m w l a : Int) : PW := ⟨⟨m, w, l, a, 0, -1, []⟩, ⟨m, w, l, a, -1, []⟩, [], []⟩
def OMach (m w l a : Int) : Mach := ⟨OW, .zero, fun W e => W.can l a e, fun W e => W.step m w l e, fun W e => W.tellX m w l e, fun W e => W.bad m w l e⟩
def PMach (m w l a : Int) : Mach := ⟨PW, PW.zero m w l a, fun W e => W.can l e, fun W e => W.stepX e, fun W e => W.tellX e, fun W e => W.badX e⟩
section
variable {m w l a : Int} {O : OW} {W : PW}
theorem PRel.lowX (R : PRel m w l a O W) (j : Int) : O.low m w j = W.low j := by
  have e2 : O.tAt j = W.tAt j := by unfold OW.tAt PW.tAt; rw [R.told]
  unfold OW.low PW.low
  rw [e2, R.s.low R.es.1 R.es.2.1]
theorem PRel.stepX (R : PRel m w l a O W) (ok : OkS m w l a) (e : Ev) : PRel m w l a (O.step m w l e) (W.stepX e) := by
  cases e with
  | send => exact R.step (e := .send) ok fun j h => by cases h
  | tell => exact R.step (e := .tell) ok fun j h => by cases h
  | come n => exact R.step (e := .come n) ok fun j h => by cases h
  | hear j =>
    have ll := R.lowX j
    cases h : W.low j with
    | true =>
      rw [h] at ll
      have e1 : O.step m w l (.hear j) = O := if_pos ll
      have e2 : W.stepX (.hear j) = W := if_pos h
      rw [e1, e2]
      exact R
    | false =>
      rw [h] at ll
      have e2 : W.stepX (.hear j) = W.step (.hear j) := if_neg (by rw [h]; simp)
      rw [e2]
      exact R.step ok fun j' hj => by cases hj; exact ll
theorem PRel.badX (R : PRel m w l a O W) (e : Ev) : O.bad m w l e = W.badX e := by
  obtain ⟨s1, s2, s3, s4⟩ := R.es
  obtain ⟨e1, e2, e3, e4⟩ := R.ee
  cases e with
  | send => rfl
  | tell => rfl
  | come n =>
    show decide (O.e.taken m l (n % m) ≠ n) = decide (W.e.taken (n % W.s.m) ≠ n)
    rw [R.e.taken e1 e3, s1]
  | hear j =>
    have ll := R.lowX j
    have et : O.tAt j = W.tAt j := by unfold OW.tAt PW.tAt; rw [R.told]
    show (if O.low m w j then true else _) = if W.low j then true else (W.s.found (W.tAt j).n (W.tAt j).bs).any fun x => decide (x ∉ W.here)
    rw [ll, et, R.s.found s1 s2, R.here]
theorem PRel.tellX (R : PRel m w l a O W) (e : Ev) : O.tellX m w l e = W.tellX e := by
  obtain ⟨s1, s2, s3, s4⟩ := R.es
  obtain ⟨e1, e2, e3, e4⟩ := R.ee
  cases e with
  | send =>
    show PyData.tuple [.int O.m.sent, .int (O.m.sent % m)] = .tuple [.int W.s.sent, .int (W.s.sent % W.s.m)]
    rw [R.s.sent, s1]
  | tell =>
    show PyData.tuple [.int (O.e.newest % m), .tuple ((O.e.bits w).map PyData.int)] = .tuple [.int (W.e.newest % W.e.m), .tuple (W.e.bits.map PyData.int)]
    rw [R.e.newest, R.e.bits e2, e1]
  | come n =>
    show PyData.tuple [.int (O.e.taken m l (n % m)), .str (O.e.word w (O.e.taken m l (n % m)))] = .tuple [.int (W.e.taken (n % W.s.m)), .str (W.e.word (W.e.taken (n % W.s.m)))]
    rw [R.e.taken e1 e3, R.e.word e2, s1]
  | hear j =>
    have ll := R.lowX j
    have et : O.tAt j = W.tAt j := by unfold OW.tAt PW.tAt; rw [R.told]
    show (if O.low m w j then PyData.none else _) = if W.low j then PyData.none else .list ((W.s.found (W.tAt j).n (W.tAt j).bs).map PyData.int)
    rw [ll, et, R.s.found s1 s2]
theorem sim_x (ok : OkS m w l a) : Mach.Sim (OMach m w l a) (PMach m w l a) (PRel m w l a) :=
  ⟨PRel.start, fun _ _ e R => R.can e, fun _ _ e R => R.stepX ok e, fun _ _ e R => R.tellX e, fun _ _ e R => R.badX e⟩
end
/-! bounds -/
theorem bits_01 (e : ES) : ∀ x ∈ e.bits, x = 0 ∨ x = 1 := fun x hx => by
  unfold ES.bits at hx
  obtain ⟨k, _, rfl⟩ := List.mem_map.mp hx
  split <;> simp
structure PWn (m w l a : Int) (n : Nat) (W : PW) : Prop where
  es : W.s.m = m ∧ W.s.w = w ∧ W.s.l = l ∧ W.s.a = a
  ee : W.e.m = m ∧ W.e.w = w ∧ W.e.l = l ∧ W.e.a = a
  eok : EOk W.e
  sure : W.s.certain.length ≤ 17 * n
  here : W.here.length ≤ n
  told : W.told.length ≤ n
  tl : ∀ t ∈ W.told, (0 ≤ t.n ∧ t.n < m) ∧ (t.bs.length : Int) = w ∧ (∀ x ∈ t.bs, x = 0 ∨ x = 1)
section
variable {m w l a : Int} {n : Nat} {W : PW}
theorem PWn.start (ok : OkS m w l a) : PWn m w l a 0 (PW.zero m w l a) := ⟨⟨rfl, rfl, rfl, rfl⟩, ⟨rfl, rfl, rfl, rfl⟩, ⟨ok, Int.le_refl _, List.nodup_nil, by simp⟩, by simp, by simp, by simp, by simp⟩
theorem PWn.mok (h : PWn m w l a n W) (ok : OkS m w l a) (hn : n ≤ 2000) : MOk W.s := ⟨by obtain ⟨s1, s2, s3, s4⟩ := h.es; rw [s1, s2, s3, s4]; exact ok, by have := h.sure; omega⟩
theorem PWn.k (h : PWn m w l a n W) (ok : OkS m w l a) (hn : n ≤ 2000) : PWk m w l a W := ⟨h.es, h.ee, ok, h.mok ok hn, h.eok, by have := h.here; omega, by have := h.told; omega, fun t ht => ⟨(h.tl t ht).1, (h.tl t ht).2.1, (h.tl t ht).2.2, fun _ _ => trivial⟩⟩
theorem PWn.up {n' : Nat} (h : PWn m w l a n W) (hn : n ≤ n') : PWn m w l a n' W := ⟨h.es, h.ee, h.eok, Nat.le_trans h.sure (by omega), Nat.le_trans h.here hn, Nat.le_trans h.told hn, h.tl⟩
theorem PWn.step (h : PWn m w l a n W) (ok : OkS m w l a) (hn : n ≤ 2000) (e : Ev) : PWn m w l a (n + 1) (W.stepX e) := by
  obtain ⟨s1, s2, s3, s4⟩ := h.es
  obtain ⟨e1, e2, e3, e4⟩ := h.ee
  have ok1 := ok
  unfold OkS at ok1
  cases e with
  | send => exact ⟨h.es, h.ee, h.eok, Nat.le_trans h.sure (by omega), Nat.le_succ_of_le h.here, Nat.le_succ_of_le h.told, h.tl⟩
  | tell =>
    refine ⟨h.es, h.ee, h.eok, Nat.le_trans h.sure (by omega), Nat.le_succ_of_le h.here, ?_, fun t ht => ?_⟩
    · show (W.told ++ [_]).length ≤ n + 1
      rw [List.length_append]
      exact Nat.add_le_add_right h.told 1
    · rcases List.mem_append.mp ht with z | z
      · exact h.tl t z
      · rw [List.mem_singleton.mp z]
        refine ⟨?_, ?_, bits_01 _⟩
        · show 0 ≤ W.e.newest % W.e.m ∧ W.e.newest % W.e.m < m
          rw [e1]
          exact ⟨Int.emod_nonneg _ (by omega), Int.emod_lt_of_pos _ (by omega)⟩
        · show ((W.e.bits.length : Nat) : Int) = w
          unfold ES.bits
          rw [List.length_map, List.length_range, e2]
          omega
  | come k =>
    have q : EOk (W.e.come (W.e.taken (k % W.s.m))) := come_ok h.eok (taken_lo h.eok _)
    have q2 : (W.e.come (W.e.taken (k % W.s.m))).m = m ∧ (W.e.come (W.e.taken (k % W.s.m))).w = w ∧ (W.e.come (W.e.taken (k % W.s.m))).l = l ∧ (W.e.come (W.e.taken (k % W.s.m))).a = a := by
      unfold ES.come
      split
      · exact h.ee
      · split
        · exact h.ee
        · exact h.ee
    refine ⟨h.es, q2, q, Nat.le_trans h.sure (by omega), ?_, Nat.le_succ_of_le h.told, h.tl⟩
    show (W.here ++ [_]).length ≤ n + 1
    rw [List.length_append]
    exact Nat.add_le_add_right h.here 1
  | hear j =>
    show PWn m w l a (n + 1) (if W.low j then W else W.step (.hear j))
    split
    · exact h.up (Nat.le_succ n)
    · refine ⟨h.es, h.ee, h.eok, ?_, Nat.le_succ_of_le h.here, Nat.le_succ_of_le h.told, h.tl⟩
      show (srt (W.s.certain ++ _)).length ≤ 17 * (n + 1)
      have := foundM_len (h.mok ok hn) (W.tAt j).n (W.tAt j).bs
      have := h.sure
      rw [srt_len, List.length_append]
      omega
theorem go_pwn (ok : OkS m w l a) (es : List EvX) : ∀ i, i ≤ 2000 → PWn m w l a i ((PMach m w l a).go es i)
  | 0, _ => .start ok
  | i + 1, hi => by
    have ih := go_pwn ok es i (by omega)
    show PWn m w l a (i + 1) (match es[i]? with | some (.ev e) => (PMach m w l a).step ((PMach m w l a).go es i) e | _ => (PMach m w l a).go es i)
    generalize es[i]? = x
    match x with
    | none => exact ih.up (Nat.le_succ i)
    | some (.ev e) => exact ih.step ok (by omega) _
    | some (.odd _ _ _) => exact ih.up (Nat.le_succ i)
theorem go_own (ok : OkS m w l a) (es : List EvX) : ∀ i, i ≤ 2000 → OWn m w i ((OMach m w l a).go es i)
  | 0, _ => OWn.start m w
  | i + 1, hi => by
    have ih := go_own ok es i (by omega)
    have ok1 := ok
    unfold OkS at ok1
    show OWn m w (i + 1) (match es[i]? with | some (.ev e) => (OMach m w l a).step ((OMach m w l a).go es i) e | _ => (OMach m w l a).go es i)
    generalize es[i]? = x
    match x with
    | none => exact ih.up (Nat.le_succ i)
    | some (.ev e) => exact ih.step (by omega) (by omega) _
    | some (.odd _ _ _) => exact ih.up (Nat.le_succ i)
end
/-! ### the own can, events of any kind -/
section
variable {P : Program} {w : World} {K : PySem.W.Frag} {mg : Str → Option Value} {base : Heap}
def spOCanX : Sp := fun vs H Q _ => ∃ (st ev : Addr) (A : AW) (m w l a : Int) (W : OW) (x : EvX), vs = [.ref st, .ref A.w, .ref ev] ∧ H st = some (.tup (StV m w l a)) ∧ CelOk H (owC A W) ∧ Tls H A.tv W.told ∧ H ev = some (.tup x.v) ∧ W.m.sure.length ≤ 50000 ∧ ∀ H', Aft [] H H' → Q (.bl ((OMach m w l a).canX W x)) H'
theorem ok_OCanX (F : Def K mg "_law_can" s_l_can) (B : Bt mg) (c_l_is_full : Cal P w K mg base CX0 1 "_law_is_full" ["_law_setting_here", "_law_mouth_here"] spOFull) : Cal P w K mg base CX0 2 "_law_can" ["_law_setting_here", "_law_w", "_law_event_here"] spOCanX := by
  refine F.ok sc_l_can bd_l_can (fun vs H Q E h => ?_) (fun f cdv A outer s H vs Q E hr h => ?_)
  · obtain ⟨st, ev, A, m, w, l, a, W, x, rfl, _⟩ := h
    rfl
  · obtain ⟨st, ev, A, m, w, l, a, W, x, rfl, ht, hc, hT, he, hlen, k⟩ := h
    refine ⟨_, PSs.nox (pss_cons (ps_if (pt_cmpR (op_eqDK K rfl hr.units) (pv 2) (pe_tup (pa_cons pe_str pa_nil)) (nomark _)) (pss_one (ps_ret (pe_not (pe_cal c_l_is_full (hr.mono (by decide)) pass0 (pa_cons (pv 0) (pa_cons (pe_dget (hu_of hr) (pv 1) pe_str (fun _ _ => rfl)) pa_nil)))))) pss_nil)
      (pss_cons (ps_if (pt_cmpR (op_eqDK K rfl hr.units) (pv 2) (pe_tup (pa_cons pe_str pa_nil)) (nomark _)) (pss_one (ps_ret (pe_cmpR op_ge (pe_dget (hu_of hr) (pe_dget (hu_of hr) (pv 1) pe_str (fun _ _ => rfl)) pe_str (fun _ _ => rfl)) pe_int (nomark _)))) pss_nil)
      (pss_cons (ps_if (PW.pt (pw_or (pt_cmpR op_ne (pe_callB (cr_lnK K rfl) (by rfl) B.m_len (by decide +kernel) (pa_cons (pv 2) pa_nil)) pe_int (nomark _)) (pw_or1 (pt_cmpR (op_notIn_seqK K rfl) (pe_ix (ix_tupK K rfl) (pv 2) pe_int (fun _ _ => rfl)) (pe_tup (pa_cons pe_str (pa_cons pe_str pa_nil))) (by rfl))))) (pss_one (ps_ret pe_bl)) pss_nil)
      (pss_cons (ps_set (i := 3) sc_l_can.nd rfl (by first | exact Or.inl rfl | exact Or.inr rfl) (pe_dget (hu_of hr) (pe_dget (hu_of hr) (pv 1) pe_str (fun _ _ => rfl)) pe_str (fun _ _ => rfl)))
      (pss_cons (ps_if (pt_cmpR op_eq (pe_ix (ix_tupK K rfl) (pv 2) pe_int (fun _ _ => rfl)) pe_str (nomark _)) (pss_one (ps_ret (pe_and (pe_chain op_le op_lt pe_int (pe_ix (ix_tupK K rfl) (pv 2) pe_int (fun _ _ => rfl)) (pv 3)) (pe_one (pe_cmpR op_le (pe_op op_sub (pe_op op_sub (pv 3) pe_int) (pe_ix (ix_tupK K rfl) (pv 2) pe_int (fun _ _ => rfl))) (pe_ix (ix_tupK K rfl) (pv 0) pe_int (fun _ _ => rfl)) (nomark _)))))) pss_nil)
      (pss_one (ps_ret (pe_and (pe_chain op_le op_lt pe_int (pe_ix (ix_tupK K rfl) (pv 2) pe_int (fun _ _ => rfl)) (pe_callB (cr_lnK K rfl) (by rfl) B.m_len (by decide +kernel) (pa_cons (pe_dget (hu_of hr) (pv 1) pe_str (fun _ _ => rfl)) pa_nil))) (pe_one (pe_cmpR op_le (pe_op op_sub (pv 3) (pe_ix (ix_tupK K rfl) (pe_ix (ix_listK K rfl) (pe_dget (hu_of hr) (pv 1) pe_str (fun _ _ => rfl)) (pe_ix (ix_tupK K rfl) (pv 2) pe_int (fun _ _ => rfl)) (fun _ _ => rfl)) pe_int (fun _ _ => rfl))) (pe_ix (ix_tupK K rfl) (pv 0) pe_int (fun _ _ => rfl)) (nomark _))))))))))), ?_⟩
    have tlen : A.tv.length = W.told.length := Paired.length hT
    have hm : CelOk H (omC A.ma A.msl W.m) := hc.sel [3, 4] rfl (by decide)
    cases x with
    | ev e =>
      replace k : ∀ H', Aft [] H H' → Q (.bl (W.can l a e)) H' := k
      replace he : H ev = some (.tup e.v) := he
      cases e with
      | send =>
        have N : Now K none [] H H ((owC A W).map Cel.ro) [(ev, [.str "send"]), (st, StV m w l a)] := .read hc (by simp [ht]; exact he)
        walk_at "gon"
        rename_i p1 H1 N1
        refine g_evSend (e := .send) (r := true) rfl (.of (N1.tup 1 rfl)) (.of (N1.tup 0 rfl)) ?_
        walk_at "kn"
        refine ⟨st, A.ma, A.msl, m, w, l, a, W.m, rfl, N1.tup 2 rfl, hm.keep N1.af, hlen, fun H2 A2 => ?_⟩
        walk_at "kn"
        refine e_notV ?_
        exact k _ (N1.af.trans A2)
      | tell =>
        have N : Now K none [] H H ((owC A W).map Cel.ro) [(ev, [.str "tell"]), (st, StV m w l a)] := .read hc (by simp [ht]; exact he)
        walk_at "gon"
        rename_i p1 H1 N1
        refine g_evSend (e := .tell) (r := false) rfl (.of (N1.tup 1 rfl)) (.of (N1.tup 0 rfl)) ?_
        walk_at "kn"
        rename_i p2 H2 N2
        refine g_evTell (e := .tell) (r := true) rfl (.of (N2.tup 2 rfl)) (.of (N2.tup 0 rfl)) ?_
        walk_at "kn"
        exact k _ N2.af
      | come n =>
        have N : Now K none [] H H ((owC A W).map Cel.ro) [(ev, [.str "come", .int n]), (st, StV m w l a)] := .read hc (by simp [ht]; exact he)
        walk_at "gon"
        rename_i p1 H1 N1
        refine g_evSend (e := .come n) (r := false) rfl (.of (N1.tup 1 rfl)) (.of (N1.tup 0 rfl)) ?_
        walk_at "kn"
        rename_i p2 H2 N2
        refine g_evTell (e := .come n) (r := false) rfl (.of (N2.tup 2 rfl)) (.of (N2.tup 0 rfl)) ?_
        walk_at "kn"
        refine c_or (fun c => absurd (of_decide_eq_true c) (by simp)) (fun _ => ?_)
        walk_at "kn"
        rename_i p3 H3 N3
        refine g_inW (r := false) (ws := [.str "come", .str "hear"]) (.inr (.of (N3.tup 0 rfl))) rfl (by decide +kernel) ?_
        walk_at "kn"
        refine c_ch (fun c1 => ?_) (fun c1 => ?_)
        · have c1 := of_decide_eq_true c1
          walk_at "kn"
          refine e_andV (fun c2 => ?_) (fun c2 => ?_)
          · have c2 := of_decide_eq_true c2
            walk_at "kn"
            have e : decide (W.m.sent - 1 - n ≤ l) = W.can l a (.come n) := by
              unfold OW.can
              rw [decide_eq_decide]
              exact ⟨fun z => ⟨⟨c1, c2⟩, z⟩, fun z => z.2⟩
            rw [e]
            exact k _ N3.af
          · have c2 := of_decide_eq_false c2
            have e : W.can l a (.come n) = false := decide_eq_false fun z => c2 z.1.2
            have kk := k _ N3.af
            rw [e] at kk
            exact kk
        · have c1 := of_decide_eq_false c1
          have e : W.can l a (.come n) = false := decide_eq_false fun z => c1 z.1.1
          have kk := k _ N3.af
          rw [e] at kk
          walk_at "kn"
          exact kk
      | hear n =>
        have N : Now K none [] H H ((owC A W).map Cel.ro) [(ev, [.str "hear", .int n]), (st, StV m w l a)] := .read hc (by simp [ht]; exact he)
        walk_at "gon"
        rename_i p1 H1 N1
        refine g_evSend (e := .hear n) (r := false) rfl (.of (N1.tup 1 rfl)) (.of (N1.tup 0 rfl)) ?_
        walk_at "kn"
        rename_i p2 H2 N2
        refine g_evTell (e := .hear n) (r := false) rfl (.of (N2.tup 2 rfl)) (.of (N2.tup 0 rfl)) ?_
        walk_at "kn"
        refine c_or (fun c => absurd (of_decide_eq_true c) (by simp)) (fun _ => ?_)
        walk_at "kn"
        rename_i p3 H3 N3
        refine g_inW (r := false) (ws := [.str "come", .str "hear"]) (.inr (.of (N3.tup 0 rfl))) rfl (by decide +kernel) ?_
        walk_at "kn"
        refine k_eqStr (by decide) ?_
        walk_at "kn"
        refine c_ch (fun c1 => ?_) (fun c1 => ?_)
        · have c1 := of_decide_eq_true c1
          walk_at "kn"
          refine e_andV (fun c2 => ?_) (fun c2 => ?_)
          · have c2 := of_decide_eq_true c2
            have lt : n.toNat < W.told.length := by omega
            obtain ⟨x, y, b, f1, f2, f3, f4⟩ := tls_at hT (List.getElem?_eq_getElem lt)
            have eg : W.told.getD n.toNat ⟨0, [], 0⟩ = W.told[n.toNat] := by rw [List.getD_eq_getElem?_getD, List.getElem?_eq_getElem lt]; rfl
            have N4 := N3.moreT (N3.af.t _ _ f2)
            clear N3
            walk_at "kn"
            refine g_ixL (xs := A.tv) (v := .ref x) (.of (N4.cell 5 rfl)) (at_of (show n = (n.toNat : Int) by omega) f1) ?_
            walk_at "kn"
            have e : decide (W.m.sent - W.told[n.toNat].c ≤ l) = W.can l a (.hear n) := by
              unfold OW.can
              rw [decide_eq_decide, eg]
              exact ⟨fun z => ⟨⟨c1, by omega⟩, z⟩, fun z => z.2⟩
            rw [e]
            exact k _ N4.af
          · have c2 := of_decide_eq_false c2
            have e : W.can l a (.hear n) = false := decide_eq_false fun z => c2 (by rw [tlen]; exact z.1.2)
            have kk := k _ N3.af
            rw [e] at kk
            exact kk
        · have c1 := of_decide_eq_false c1
          have e : W.can l a (.hear n) = false := decide_eq_false fun z => c1 z.1.1
          have kk := k _ N3.af
          rw [e] at kk
          walk_at "kn"
          exact kk
    | odd z hz oz =>
      replace he : H ev = some (.tup (z.map scV)) := he
      have N : Now K none [] H H ((owC A W).map Cel.ro) [(ev, z.map scV), (st, StV m w l a)] := .read hc (by simp [ht]; exact he)
      have hin : ∀ (s : Str), s ≠ "come" → s ≠ "hear" → inV (.str s) [.str "come", .str "hear"] = false := fun s h1 h2 => by
        simp [inV, eqV, h1.symm, h2.symm]
      walk_at "gon"
      rename_i p1 H1 N1
      refine g_eqSc (m := z) (n := [.inr "send"]) oz (Ev.scOk .send) (.of (N1.tup 1 rfl)) (.of (N1.tup 0 rfl)) ?_
      rw [decide_eq_false hz.1]
      walk_at "kn"
      rename_i p2 H2 N2
      refine g_eqSc (m := z) (n := [.inr "tell"]) oz (Ev.scOk .tell) (.of (N2.tup 2 rfl)) (.of (N2.tup 0 rfl)) ?_
      rw [decide_eq_false hz.2.1]
      walk_at "kn"
      have lz : (z.map scV).length = z.length := List.length_map ..
      rw [lz]
      refine c_or (fun c => ?_) (fun c => ?_)
      · walk_at "kn"
        exact k _ N2.af
      · have c := of_decide_eq_false c
        rcases hz.2.2 with h | ⟨s, y, rfl, h1, h2⟩
        · omega
        · replace N2 : Now K none [] H H2 ((owC A W).map Cel.ro) [(p2, [.str "tell"]), (p1, [.str "send"]), (ev, [.str s, scV y]), (st, StV m w l a)] := N2
          walk_at "kn"
          rename_i p3 H3 N3
          refine g_inW (r := true) (ws := [.str "come", .str "hear"]) (.inr (.of (N3.tup 0 rfl))) rfl (by rw [hin s h1 h2]; rfl) ?_
          walk_at "kn"
          exact k _ N3.af
end
/-! ### World.can, events of any kind -/
section
variable {P : Program} {w : World} {K : PySem.W.Frag} {mg : Str → Option Value} {base : Heap} {CW CM CE : Addr}
def spWCanX (K : PySem.W.Frag) (CW CM CE : Addr) : Sp := fun vs H Q _ => ∃ (ev : Addr) (A : AP) (l : Int) (W : PW) (x : EvX), vs = [.ref A.p, .ref ev] ∧ CelOk H (pwC CW CM CE l A W) ∧ Tls H A.tv W.told ∧ H ev = some (.tup x.v) ∧ ∀ H', Aft [] H H' → Q (.bl ((PMach W.s.m W.s.w l W.s.a).canX W x)) H'
theorem ok_WCanX (F : DefM K CW "can" "World.can" s_World_can) (T : WTx K CW) (TM : MTx K CM) (TE : ETx K CE) (B : Bt mg) (c_Mouth_is_full : CalM P w K mg base CX0 CM 1 "is_full" ["self"] (spMFull K CM)) (c_World_is_due : CalM P w K mg base CX0 CW 1 "is_due" ["self", "begun"] (spWDue K CW CM)) :
    CalM P w K mg base CX0 CW 2 "can" ["self", "event"] (spWCanX K CW CM CE) := by
  refine F.ok sc_World_can bd_World_can (fun vs H Q E h => ?_) (fun f cdv A outer s H vs Q E hr h => ?_)
  · obtain ⟨ev, A, l, W, x, rfl, _⟩ := h
    rfl
  · obtain ⟨ev, A, l, W, x, rfl, hc, hT, he, k⟩ := h
    obtain ⟨cl_World, n1, n2, n3, n4, n5⟩ := T
    obtain ⟨cl_Mouth, m1, m2, m3, m4, m5, m6, m7, m8⟩ := TM
    obtain ⟨cl_Ear, e1, e2, e3, e4, e5, e6, e7⟩ := TE
    have tlen : A.tv.length = W.told.length := Paired.length hT
    refine ⟨_, PSs.nox (pss_cons (ps_if (pt_cmpR (op_eqDK K rfl hr.units) (pv 1) (pe_tup (pa_cons pe_str pa_nil)) (nomark _)) (pss_one (ps_ret (pe_not (pe_calM0 (pe_fldK K rfl (pv 0) rfl) cl_Mouth c_Mouth_is_full (hr.mono (by decide)) pass0)))) pss_nil)
      (pss_cons (ps_if (pt_cmpR (op_eqDK K rfl hr.units) (pv 1) (pe_tup (pa_cons pe_str pa_nil)) (nomark _)) (pss_one (ps_ret (pe_cmpR op_ge (pe_fldK K rfl (pe_fldK K rfl (pv 0) rfl) rfl) pe_int (nomark _)))) pss_nil)
      (pss_cons (ps_if (PW.pt (pw_or (pt_cmpR op_ne (pe_callB (cr_lnK K rfl) (by rfl) B.m_len (by decide +kernel) (pa_cons (pv 1) pa_nil)) pe_int (nomark _)) (pw_or (pt_cmpR (op_notIn_seqK K rfl) (pe_ix (ix_tupK K rfl) (pv 1) pe_int (fun _ _ => rfl)) (pe_tup (pa_cons pe_str (pa_cons pe_str pa_nil))) (by rfl)) (pw_or1 (pt_cmpR op_lt (pe_ix (ix_tupK K rfl) (pv 1) pe_int (fun _ _ => rfl)) pe_int (nomark _)))))) (pss_one (ps_ret pe_bl)) pss_nil)
      (pss_cons (ps_if (pt_cmpR op_eq (pe_ix (ix_tupK K rfl) (pv 1) pe_int (fun _ _ => rfl)) pe_str (nomark _)) (pss_one (ps_ret (pe_and (pe_cmpR op_lt (pe_ix (ix_tupK K rfl) (pv 1) pe_int (fun _ _ => rfl)) (pe_fldK K rfl (pe_fldK K rfl (pv 0) rfl) rfl) (nomark _)) (pe_one (pe_calM (pv 0) cl_World c_World_is_due (hr.mono (by decide)) pass0 (pa_cons (pe_op op_add (pe_ix (ix_tupK K rfl) (pv 1) pe_int (fun _ _ => rfl)) pe_int) pa_nil)))))) pss_nil)
      (pss_one (ps_ret (pe_and (pe_cmpR op_lt (pe_ix (ix_tupK K rfl) (pv 1) pe_int (fun _ _ => rfl)) (pe_callB (cr_lnK K rfl) (by rfl) B.m_len (by decide +kernel) (pa_cons (pe_fldK K rfl (pv 0) rfl) pa_nil)) (nomark _)) (pe_one (pe_calM (pv 0) cl_World c_World_is_due (hr.mono (by decide)) pass0 (pa_cons (pe_ix (ix_tupK K rfl) (pe_ix (ix_listK K rfl) (pe_fldK K rfl (pv 0) rfl) (pe_ix (ix_tupK K rfl) (pv 1) pe_int (fun _ _ => rfl)) (fun _ _ => rfl)) pe_int (fun _ _ => rfl)) pa_nil)))))))))), ?_⟩
    cases x with
    | ev e =>
      replace k : ∀ H', Aft [] H H' → Q (.bl (W.can l e)) H' := k
      replace he : H ev = some (.tup e.v) := he
      cases e with
      | send =>
        replace he : H ev = some (.tup [.str "send"]) := he
        have N : Now K none [] H H ((pwC CW CM CE l A W).map Cel.ro) [(ev, [.str "send"])] := .read hc (by simp [he])
        walk_at "gon"
        rename_i p1 H1 N1
        refine g_evSend (e := .send) (r := true) rfl (.of (N1.tup 1 rfl)) (.of (N1.tup 0 rfl)) ?_
        walk_at "kn"
        refine ⟨A.mp, A.mdx, A.mcl, A.st, W.s, rfl, (hc.sel [1, 2] rfl (by decide)).keep N1.af, ?_⟩
        exact e_notV (k _ N1.af)
      | tell =>
        replace he : H ev = some (.tup [.str "tell"]) := he
        have N : Now K none [] H H ((pwC CW CM CE l A W).map Cel.ro) [(ev, [.str "tell"])] := .read hc (by simp [he])
        walk_at "gon"
        rename_i p1 H1 N1
        refine g_evSend (e := .tell) (r := false) rfl (.of (N1.tup 1 rfl)) (.of (N1.tup 0 rfl)) ?_
        walk_at "kn"
        rename_i p2 H2 N2
        refine g_evTell (e := .tell) (r := true) rfl (.of (N2.tup 2 rfl)) (.of (N2.tup 0 rfl)) ?_
        walk_at "kn"
        exact k _ N2.af
      | come n =>
        replace he : H ev = some (.tup [.str "come", .int n]) := he
        have N : Now K none [] H H ((pwC CW CM CE l A W).map Cel.ro) [(ev, [.str "come", .int n])] := .read hc (by simp [he])
        walk_at "gon"
        rename_i p1 H1 N1
        refine g_evSend (e := .come n) (r := false) rfl (.of (N1.tup 1 rfl)) (.of (N1.tup 0 rfl)) ?_
        walk_at "kn"
        rename_i p2 H2 N2
        refine g_evTell (e := .come n) (r := false) rfl (.of (N2.tup 2 rfl)) (.of (N2.tup 0 rfl)) ?_
        walk_at "kn"
        refine c_or (fun c => absurd (of_decide_eq_true c) (by simp)) (fun _ => ?_)
        walk_at "kn"
        rename_i p3 H3 N3
        refine g_inW (r := false) (ws := [.str "come", .str "hear"]) (.inr (.of (N3.tup 0 rfl))) rfl (by decide +kernel) ?_
        walk_at "kn"
        have kk := k _ N3.af
        refine c_ifd (fun c => ?_) (fun c => ?_)
        · walk_at "kn"
          have e0 : W.can l (.come n) = false := by
            show (decide (0 ≤ n) && _) = false
            rw [decide_eq_false (by omega)]
            rfl
          rw [e0] at kk
          exact kk
        · have e0 : W.can l (.come n) = (decide (n < W.s.sent) && decide (W.s.sent - (n + 1) ≤ l)) := by
            show (decide (0 ≤ n) && _) = _
            rw [decide_eq_true (by omega)]
            rfl
          rw [e0] at kk
          walk_at "kn"
          refine e_andV (fun c2 => ?_) (fun c2 => ?_)
          · rw [c2] at kk
            walk_at "kn"
            exact ⟨A.p, A.dx, A.mp, A.mdx, A.mcl, A.st, A.ep, A.tl, A.hl, W.s, l, n + 1, rfl, N3.cell 0 rfl, N3.cell 1 rfl, kk⟩
          · rw [c2] at kk
            exact kk
      | hear n =>
        replace he : H ev = some (.tup [.str "hear", .int n]) := he
        have N : Now K none [] H H ((pwC CW CM CE l A W).map Cel.ro) [(ev, [.str "hear", .int n])] := .read hc (by simp [he])
        walk_at "gon"
        rename_i p1 H1 N1
        refine g_evSend (e := .hear n) (r := false) rfl (.of (N1.tup 1 rfl)) (.of (N1.tup 0 rfl)) ?_
        walk_at "kn"
        rename_i p2 H2 N2
        refine g_evTell (e := .hear n) (r := false) rfl (.of (N2.tup 2 rfl)) (.of (N2.tup 0 rfl)) ?_
        walk_at "kn"
        refine c_or (fun c => absurd (of_decide_eq_true c) (by simp)) (fun _ => ?_)
        walk_at "kn"
        rename_i p3 H3 N3
        refine g_inW (r := false) (ws := [.str "come", .str "hear"]) (.inr (.of (N3.tup 0 rfl))) rfl (by decide +kernel) ?_
        walk_at "kn"
        have kk := k _ N3.af
        refine c_ifd (fun c => ?_) (fun c => ?_)
        · walk_at "kn"
          have e0 : W.can l (.hear n) = false := by
            show (decide (0 ≤ n) && _) = false
            rw [decide_eq_false (by omega)]
            rfl
          rw [e0] at kk
          exact kk
        · have e0 : W.can l (.hear n) = (decide (n < (W.told.length : Int)) && decide (W.s.sent - (W.told.getD n.toNat ⟨0, [], 0⟩).c ≤ l)) := by
            show (decide (0 ≤ n) && _) = _
            rw [decide_eq_true (by omega)]
            rfl
          rw [e0] at kk
          walk_at "kn"
          refine k_eqStr (by decide) ?_
          walk_at "kn"
          rw [tlen]
          refine e_andV (fun c2 => ?_) (fun c2 => ?_)
          · rw [c2] at kk
            have c2 := of_decide_eq_true c2
            have lt : n.toNat < W.told.length := by omega
            obtain ⟨x, y, b, f1, f2, f3, f4⟩ := tls_at hT (List.getElem?_eq_getElem lt)
            have eg : W.told.getD n.toNat ⟨0, [], 0⟩ = W.told[n.toNat] := by rw [List.getD_eq_getElem?_getD, List.getElem?_eq_getElem lt]; rfl
            rw [eg] at kk
            have N4 := N3.moreT (N3.af.t _ _ f2)
            clear N3
            walk_at "kn"
            refine g_ixL (xs := A.tv) (v := .ref x) (.of (N4.cell 5 rfl)) (at_of (show n = (n.toNat : Int) by omega) f1) ?_
            walk_at "kn"
            exact ⟨A.p, A.dx, A.mp, A.mdx, A.mcl, A.st, A.ep, A.tl, A.hl, W.s, l, _, rfl, N4.cell 0 rfl, N4.cell 1 rfl, kk⟩
          · rw [c2] at kk
            exact kk
    | odd z hz oz =>
      replace he : H ev = some (.tup (z.map scV)) := he
      have N : Now K none [] H H ((pwC CW CM CE l A W).map Cel.ro) [(ev, z.map scV)] := .read hc (by simp [he])
      have hin : ∀ (s : Str), s ≠ "come" → s ≠ "hear" → inV (.str s) [.str "come", .str "hear"] = false := fun s h1 h2 => by
        simp [inV, eqV, h1.symm, h2.symm]
      walk_at "gon"
      rename_i p1 H1 N1
      refine g_eqSc (m := z) (n := [.inr "send"]) oz (Ev.scOk .send) (.of (N1.tup 1 rfl)) (.of (N1.tup 0 rfl)) ?_
      rw [decide_eq_false hz.1]
      walk_at "kn"
      rename_i p2 H2 N2
      refine g_eqSc (m := z) (n := [.inr "tell"]) oz (Ev.scOk .tell) (.of (N2.tup 2 rfl)) (.of (N2.tup 0 rfl)) ?_
      rw [decide_eq_false hz.2.1]
      walk_at "kn"
      have lz : (z.map scV).length = z.length := List.length_map ..
      rw [lz]
      refine c_or (fun c => ?_) (fun c => ?_)
      · walk_at "kn"
        exact k _ N2.af
      · have c := of_decide_eq_false c
        rcases hz.2.2 with h | ⟨s, y, rfl, h1, h2⟩
        · omega
        · replace N2 : Now K none [] H H2 ((pwC CW CM CE l A W).map Cel.ro) [(p2, [.str "tell"]), (p1, [.str "send"]), (ev, [.str s, scV y])] := N2
          walk_at "kn"
          rename_i p3 H3 N3
          refine g_inW (r := true) (ws := [.str "come", .str "hear"]) (.inr (.of (N3.tup 0 rfl))) rfl (by rw [hin s h1 h2]; rfl) ?_
          walk_at "kn"
          exact k _ N3.af
end
/-! ### what is told stands on some cells and tuples -/
theorem tp1 {H : Hp} {a : Addr} {xs : List V} (h : H a = some (.tup xs)) : ∀ p ∈ [(a, xs)], H p.1 = some (.tup p.2) := fun p hp => by
  cases List.mem_singleton.mp hp
  exact h
theorem tp2 {H : Hp} {a b : Addr} {xs ys : List V} (h : H a = some (.tup xs)) (h2 : H b = some (.tup ys)) : ∀ p ∈ [(a, xs), (b, ys)], H p.1 = some (.tup p.2) := fun p hp => by
  rcases List.mem_cons.mp hp with e | e
  · cases e
    exact h
  · exact tp1 h2 p e
def HeldC (R : Hp → Prop) (fc : List Cel) (TL : List (Addr × List V)) : Prop := ∀ H : Hp, (∀ c ∈ fc, H c.a = some c.o) → (∀ p ∈ TL, H p.1 = some (.tup p.2)) → R H
theorem dp_pair {K : PySem.W.Frag} {H : Hp} {t : Addr} {n k : Int} (h1 : H t = some (.tup [.int n, .int k])) : Dp K H (.ref t) (.tuple [.int n, .int k]) := .tup (.of h1) (.cons (.int n) (.cons (.int k) .nil))
theorem dp_tellX {K : PySem.W.Frag} {H : Hp} {t b : Addr} {n : Int} {bs : List Int} (h1 : H t = some (.tup [.int n, .ref b])) (h2 : H b = some (.tup (bs.map V.int))) : Dp K H (.ref t) (.tuple [.int n, .tuple (bs.map PyData.int)]) :=
  .tup (.of h1) (.cons (.int n) (.cons (.tup (.of h2) (dpa_ints bs)) .nil))
theorem dp_wordX {K : PySem.W.Frag} {H : Hp} {t : Addr} {n : Int} {z : Str} (h1 : H t = some (.tup [.int n, .str z])) : Dp K H (.ref t) (.tuple [.int n, .str z]) := .tup (.of h1) (.cons (.int n) (.cons (.str z) .nil))
/-! ### the own do, and what it tells -/
section
variable {P : Program} {w : World} {K : PySem.W.Frag} {mg : Str → Option Value} {base : Heap}
def spODoX (K : PySem.W.Frag) : Sp := fun vs H Q _ => ∃ (st ev : Addr) (A : AW) (m w l a : Int) (W : OW) (e : Ev), vs = [.ref st, .ref A.w, .ref ev] ∧ H st = some (.tup (StV m w l a)) ∧ OkS m w l a ∧ CelOk H (owC A W) ∧ Tls H A.tv W.told ∧ H ev = some (.tup e.v) ∧ OWk m w W ∧ W.can l a e = true ∧
  ∀ (A' : AW) (x : V) (t : Addr) (fc : List Cel) (TL : List (Addr × List V)) H', A'.w = A.w → Aftr (owC A W) (owC A' (W.step m w l e) ++ fc) H H' → Tls H' A'.tv (W.step m w l e).told → H' t = some (.tup [x, .bl (W.bad m w l e)]) → (∀ p ∈ TL, H' p.1 = some (.tup p.2)) → HeldC (fun H'' => Dp K H'' x (W.tellX m w l e)) fc TL → Q (.ref t) H'
theorem ok_ODoX (F : Def K mg "_law_do" s_l_do) (B : Bt mg) (c_l_tell : Cal P w K mg base CX0 1 "_law_tell" ["_law_setting_here", "_law_ear_here"] spOTell) (c_l_come : Cal P w K mg base CX0 2 "_law_come" ["_law_setting_here", "_law_ear_here", "_law_mark"] spOCome)
    (c_l_hear : Cal P w K mg base CX0 1 "_law_hear" ["_law_setting_here", "_law_mouth_here", "_law_told_here"] spOHear) : Cal P w K mg base CX0 3 "_law_do" ["_law_setting_here", "_law_w", "_law_event_here"] (spODoX K) := by
  refine F.ok sc_l_do bd_l_do (fun vs H Q E h => ?_) (fun f cdv A outer s H vs Q E hr h => ?_)
  · obtain ⟨st, ev, A, m, w, l, a, W, e, rfl, _⟩ := h
    rfl
  · obtain ⟨st, ev, A, m, w, l, a, W, e, rfl, ht, hok, hc, hT, he, hk, hcan, k⟩ := h
    obtain ⟨k1, k2, k3, k4, k5⟩ := hk
    have hok' := hok
    unfold OkS at hok'
    have tlen : A.tv.length = W.told.length := Paired.length hT
    refine ⟨_, PSs.nox (pss_cons (ps_if (pt_cmpR op_eq (pe_ix (ix_tupK K rfl) (pv 2) pe_int (fun _ _ => rfl)) pe_str (nomark _)) (pss_cons (ps_set (i := 3) sc_l_do.nd rfl (by first | exact Or.inl rfl | exact Or.inr rfl) (pe_dget (hu_of hr) (pe_dget (hu_of hr) (pv 1) pe_str (fun _ _ => rfl)) pe_str (fun _ _ => rfl)))
      (pss_cons (ps_dput (hu_of hr) (pe_dget (hu_of hr) (pv 1) pe_str (fun _ _ => rfl)) pe_str (pe_op op_add (pv 3) pe_int) rfl)
      (pss_one (ps_ret (pe_tup (pa_cons (pe_tup (pa_cons (pv 3) (pa_cons (pe_op op_mod (pv 3) (pe_ix (ix_tupK K rfl) (pv 0) pe_int (fun _ _ => rfl))) pa_nil))) (pa_cons pe_bl pa_nil))))))) pss_nil)
      (pss_cons (ps_if (pt_cmpR op_eq (pe_ix (ix_tupK K rfl) (pv 2) pe_int (fun _ _ => rfl)) pe_str (nomark _)) (pss_cons (ps_set (i := 4) sc_l_do.nd rfl (by first | exact Or.inl rfl | exact Or.inr rfl) (pe_cal c_l_tell (hr.mono (by decide)) pass0 (pa_cons (pv 0) (pa_cons (pe_dget (hu_of hr) (pv 1) pe_str (fun _ _ => rfl)) pa_nil))))
      (pss_cons (ps_dput (hu_of hr) (pv 1) pe_str (pe_op op_cat (pe_dget (hu_of hr) (pv 1) pe_str (fun _ _ => rfl)) (pe_lst (pa_cons (pe_tup (pa_cons (pv 4) (pa_cons (pe_dget (hu_of hr) (pe_dget (hu_of hr) (pv 1) pe_str (fun _ _ => rfl)) pe_str (fun _ _ => rfl)) pa_nil))) pa_nil))) rfl)
      (pss_one (ps_ret (pe_tup (pa_cons (pv 4) (pa_cons pe_bl pa_nil))))))) pss_nil)
      (pss_cons (ps_if (pt_cmpR op_eq (pe_ix (ix_tupK K rfl) (pv 2) pe_int (fun _ _ => rfl)) pe_str (nomark _)) (pss_cons (ps_set (i := 5) sc_l_do.nd rfl (by first | exact Or.inl rfl | exact Or.inr rfl) (pe_cal c_l_come (hr.mono (by decide)) pass0 (pa_cons (pv 0) (pa_cons (pe_dget (hu_of hr) (pv 1) pe_str (fun _ _ => rfl)) (pa_cons (pe_op op_mod (pe_ix (ix_tupK K rfl) (pv 2) pe_int (fun _ _ => rfl)) (pe_ix (ix_tupK K rfl) (pv 0) pe_int (fun _ _ => rfl))) pa_nil)))))
      (pss_cons (ps_dput (hu_of hr) (pv 1) pe_str (pe_op op_cat (pe_dget (hu_of hr) (pv 1) pe_str (fun _ _ => rfl)) (pe_lst (pa_cons (pe_ix (ix_tupK K rfl) (pv 2) pe_int (fun _ _ => rfl)) pa_nil))) rfl)
      (pss_one (ps_ret (pe_tup (pa_cons (pv 5) (pa_cons (pe_cmpR op_ne (pe_ix (ix_tupK K rfl) (pv 5) pe_int (fun _ _ => rfl)) (pe_ix (ix_tupK K rfl) (pv 2) pe_int (fun _ _ => rfl)) (nomark _)) pa_nil))))))) pss_nil)
      (pss_cons (ps_set (i := 5) sc_l_do.nd rfl (by first | exact Or.inl rfl | exact Or.inr rfl) (pe_cal c_l_hear (hr.mono (by decide)) pass0 (pa_cons (pv 0) (pa_cons (pe_dget (hu_of hr) (pv 1) pe_str (fun _ _ => rfl)) (pa_cons (pe_ix (ix_tupK K rfl) (pe_ix (ix_listK K rfl) (pe_dget (hu_of hr) (pv 1) pe_str (fun _ _ => rfl)) (pe_ix (ix_tupK K rfl) (pv 2) pe_int (fun _ _ => rfl)) (fun _ _ => rfl)) pe_int (fun _ _ => rfl)) pa_nil)))))
      (pss_cons (ps_if (pt_cmpR op_isNo (pv 5) pe_non (nomark _)) (pss_one (ps_ret (pe_tup (pa_cons pe_non (pa_cons pe_bl pa_nil))))) pss_nil)
      (pss_one (ps_ret (pe_tup (pa_cons (pv 5) (pa_cons (pe_cmpR (op_neDK K rfl hr.units) (pe_lc (own := [("_law_one", 6)]) (g := (gName 6)) rfl sc_l_do.nd (pi_listK K rfl (pv 5)) (blkOk_by (own := [("_law_one", 6)]) (N := ["_law_setting_here", "_law_w", "_law_event_here", "_law_number", "_law_told_here", "_law_found", "_law_one"]) (sc := defScope s_l_do) (by decide +kernel)) (fun _ _ _ _ _ => (pg_name (i := 6) sc_l_do.nd rfl (by first | exact Or.inl rfl | exact Or.inr rfl))) (fun _ _ _ _ _ => (pts_one (pt_cmpR (op_notIn_seqK K rfl) (pv 6) (pe_dget (hu_of hr) (pv 1) pe_str (fun _ _ => rfl)) (by rfl)))) (fun _ _ _ _ _ => (pv 6))) (pe_lst pa_nil) (nomark _)) pa_nil)))))))))), ?_⟩
    cases e with
    | send =>
      replace he : H ev = some (.tup [.str "send"]) := he
      have N : Now K none _ H H (owC A W) [(ev, [.str "send"]), (st, StV m w l a)] := .begin hc (by simp [ht, he])
      walk_at "gon"
      refine g_dputS0 (N.sel [3, 0, 1, 2, 4, 5, 6] (l' := ⟨true, A.ma, .dK (kvM W.m.sent A.msl)⟩ :: ⟨true, A.w, .dK (kvW A)⟩ :: (oeC A.ea A.ecl W.e ++ [⟨true, A.msl, .lst (W.m.sure.map V.int)⟩, ⟨true, A.tl, .lst A.tv⟩, ⟨true, A.hl, .lst (W.here.map V.int)⟩])) rfl (by decide))
        (Nat.le_of_ble_eq_true rfl) (kvs' := kvM (W.m.sent + 1) A.msl) rfl fun H2 N2 => ?_
      walk_at "kn"
      rename_i x H3 N3 t H4 N4
      have q := N4.tup 1 rfl
      exact k A _ t [] _ rfl (by rw [List.append_nil]; exact Now.done (N4.sel [1, 2, 3, 0, 4, 5, 6] rfl (by decide)) (by simp)) (hT.keep N4.af) (N4.tup 0 rfl) (TL := [(x, [.int W.m.sent, .int (W.m.sent % m)])]) (tp1 q) fun H'' _ h => dp_pair (h (x, _) (by simp))
    | tell =>
      replace he : H ev = some (.tup [.str "tell"]) := he
      have N : Now K none _ H H (owC A W) [(ev, [.str "tell"]), (st, StV m w l a)] := .begin hc (by simp [ht, he])
      walk_at "gon"
      refine k_eqStr (by decide) ?_
      walk_at "kn"
      refine ⟨st, A.ea, A.ecl, m, w, l, a, W.e, rfl, ht, hc.sel [1, 2] rfl (by decide), by omega, by omega, fun y b H2 A2 h1 h2 => ?_⟩
      have N2 := ((N.pure A2).moreT h2).moreT h1
      clear N
      walk_at "kn"
      rename_i x H3 N3 p1 H4 N4 p2 H5 N5
      refine g_dputS0 (N5.sel [2, 0, 1, 3, 4, 5, 6, 7, 8] (l' := ⟨true, A.w, .dK (kvW A)⟩ :: ⟨true, p2, .lst (A.tv ++ [.ref x])⟩ :: ⟨true, p1, .lst [.ref x]⟩ :: (oeC A.ea A.ecl W.e ++ (omC A.ma A.msl W.m ++ [⟨true, A.tl, .lst A.tv⟩, ⟨true, A.hl, .lst (W.here.map V.int)⟩]))) rfl (by decide))
        (Nat.le_of_ble_eq_true rfl) (kvs' := kvW { A with tl := p2, tv := A.tv ++ [.ref x] }) rfl fun H6 N6 => ?_
      walk_at "kn"
      rename_i t H7 N7
      have q1 := N7.tup 2 rfl
      have q2 := N7.tup 3 rfl
      exact k { A with tl := p2, tv := A.tv ++ [.ref x] } _ t [] _ rfl (by rw [List.append_nil]; exact Now.done (N7.sel [0, 3, 4, 5, 6, 1, 8] rfl (by decide)) (by simp)) (Paired.snoc (hT.keep N7.af) ⟨x, y, b, rfl, N7.tup 1 rfl, N7.tup 2 rfl, N7.tup 3 rfl⟩) (N7.tup 0 rfl) (TL := [(y, [.int (W.e.newest % m), .ref b]), (b, (W.e.bits w).map V.int)]) (tp2 q1 q2) fun H'' _ h => dp_tellX (h (y, _) (by simp)) (h (b, _) (by simp))
    | come n =>
      replace he : H ev = some (.tup [.str "come", .int n]) := he
      have N : Now K none _ H H (owC A W) [(ev, [.str "come", .int n]), (st, StV m w l a)] := .begin hc (by simp [ht, he])
      walk_at "gon"
      refine k_eqStr (by decide) ?_
      walk_at "kn"
      refine k_eqStr (by decide) ?_
      walk_at "kn"
      refine ⟨st, A.ea, A.ecl, m, w, l, a, W.e, n % m, rfl, ht, hc.sel [1, 2] rfl (by decide), by omega, ⟨Int.emod_nonneg _ (by omega), Int.emod_lt_of_pos _ (by omega)⟩, k4, fun y ecl H2 A2 h1 => ?_⟩
      have N2 := (Now.call (fp := oeC A.ea A.ecl W.e) (r := ⟨true, A.w, .dK (kvW A)⟩ :: (omC A.ma A.msl W.m ++ [⟨true, A.tl, .lst A.tv⟩, ⟨true, A.hl, .lst (W.here.map V.int)⟩])) (N.sel [1, 2, 0, 3, 4, 5, 6] rfl (by decide)) (by simp) A2).moreT h1
      clear N
      walk_at "kn"
      rename_i p1 H3 N3 p2 H4 N4
      have ec : W.here.map V.int ++ [V.int n] = (W.here ++ [n]).map V.int := by rw [List.map_append]; rfl
      rw [ec] at N4
      refine g_dputS0 (N4.sel [4, 0, 1, 2, 3, 5, 6, 7, 8] (l' := ⟨true, A.w, .dK (kvW A)⟩ :: ⟨true, p2, .lst ((W.here ++ [n]).map V.int)⟩ :: ⟨true, p1, .lst [.int n]⟩ :: (oeC A.ea ecl (W.e.come w (W.e.taken m l (n % m))) ++ (omC A.ma A.msl W.m ++ [⟨true, A.tl, .lst A.tv⟩, ⟨true, A.hl, .lst (W.here.map V.int)⟩]))) rfl (by decide))
        (Nat.le_of_ble_eq_true rfl) (kvs' := kvW { A with ecl := ecl, hl := p2 }) rfl fun H6 N6 => ?_
      clear N4 N3
      walk_at "kn"
      rename_i t H7 N7
      have q1 := N7.tup 1 rfl
      exact k { A with ecl := ecl, hl := p2 } _ t [] _ rfl (by rw [List.append_nil]; exact Now.done (N7.sel [0, 3, 4, 5, 6, 7, 1] rfl (by decide)) (by simp)) (hT.keep N7.af) (N7.tup 0 rfl) (TL := [(y, [.int (W.e.taken m l (n % m)), .str (W.e.word w (W.e.taken m l (n % m)))])]) (tp1 q1) fun H'' _ h => dp_wordX (h (y, _) (by simp))
    | hear n =>
      replace he : H ev = some (.tup [.str "hear", .int n]) := he
      have N : Now K none _ H H (owC A W) [(ev, [.str "hear", .int n]), (st, StV m w l a)] := .begin hc (by simp [ht, he])
      walk_at "gon"
      refine k_eqStr (by decide) ?_
      walk_at "kn"
      refine k_eqStr (by decide) ?_
      walk_at "kn"
      refine k_eqStr (by decide) ?_
      walk_at "kn"
      obtain ⟨⟨c1, c2⟩, c3⟩ := of_decide_eq_true hcan
      have lt : n.toNat < W.told.length := by omega
      obtain ⟨x, y, b, f1, f2, f3, f4⟩ := tls_at hT (List.getElem?_eq_getElem lt)
      have eg : W.tAt n = W.told[n.toNat] := by unfold OW.tAt; rw [List.getD_eq_getElem?_getD, List.getElem?_eq_getElem lt]; rfl
      rw [← eg] at f2 f3 f4
      have mem : W.tAt n ∈ W.told := by rw [eg]; exact List.getElem_mem lt
      obtain ⟨g1, g2⟩ := k5 _ mem
      have N2 := (N.moreT f2).moreT f3
      clear N
      refine g_ixL (xs := A.tv) (v := .ref x) (.of (N2.cell 5 rfl)) (at_of (show n = (n.toNat : Int) by omega) f1) ?_
      walk_at "kn"
      refine ⟨st, A.ma, A.msl, y, b, m, w, l, a, W.m, (W.tAt n).n, (W.tAt n).bs, rfl, ht, hc.sel [3, 4] rfl (by decide), f3, f4, hok, k1, g1, g2, fun hlow H3 A3 => ?_, fun h0 fl sl' H3 hfl hne A3 hv => ?_⟩
      · have el : W.low m w n = true := by
          obtain ⟨z, hz, hz0⟩ := hlow
          exact List.any_eq_true.mpr ⟨z, hz, decide_eq_true hz0⟩
        have e1 : W.step m w l (.hear n) = W := if_pos el
        have e2 : W.bad m w l (.hear n) = true := if_pos el
        have N3 := N2.pure A3
        clear N2
        walk_at "kn"
        rename_i t H4 N4
        have e3 : W.tellX m w l (.hear n) = .none := if_pos el
        exact k A _ t [] [] _ rfl (by rw [e1, List.append_nil]; exact Now.done N4 (by simp)) (by rw [e1]; exact hT.keep N4.af) (by rw [e2]; exact N4.tup 0 rfl) (by simp) fun H'' _ h => by rw [e3]; exact .non
      · have el : W.low m w n = false := by
          refine List.any_eq_false.mpr fun z hz => ?_
          have := h0 z hz
          simp
          omega
        have e1 : W.step m w l (.hear n) = { W with m := W.m.hear m w (W.tAt n).n (W.tAt n).bs } := if_neg (by rw [el]; simp)
        have e2 : W.bad m w l (.hear n) = (W.m.found m w (W.tAt n).n (W.tAt n).bs).any fun x => decide (x ∉ W.here) := if_neg (by rw [el]; simp)
        have N3 := N2.sel [3, 4, 0, 1, 2, 5, 6] (l' := omC A.ma A.msl W.m ++ (⟨true, A.w, .dK (kvW A)⟩ :: (oeC A.ea A.ecl W.e ++ [⟨true, A.tl, .lst A.tv⟩, ⟨true, A.hl, .lst (W.here.map V.int)⟩]))) rfl (by decide)
        have N4 := Now.grow N3 (Now.call (fp := omC A.ma A.msl W.m) N3 (by simp) A3) (q := fl) (fun z hz => by
          by_cases c : z = sl'
          · exact .inr (fun e => hne (e.symm.trans c))
          · left
            have hz : z ∈ [A.ma, sl', A.w, A.ea, A.ecl, A.tl, A.hl] := hz
            show z ∈ [A.ma, A.msl, A.w, A.ea, A.ecl, A.tl, A.hl]
            simp only [List.mem_cons] at hz ⊢
            rcases hz with q | q | q | q | q | q | q
            · exact .inl q
            · exact absurd q c
            · exact .inr (.inr (.inl q))
            · exact .inr (.inr (.inr (.inl q)))
            · exact .inr (.inr (.inr (.inr (.inl q))))
            · exact .inr (.inr (.inr (.inr (.inr (.inl q)))))
            · exact .inr (.inr (.inr (.inr (.inr (.inr q)))))) hfl hv trivial
        clear N2 N3
        walk_at "kn"
        have lf : (W.m.found m w (W.tAt n).n (W.tAt n).bs).length ≤ 17 := by
          have := ofar_len W.m m (W.tAt n).n (W.tAt n).bs w.toNat
          unfold OM.found
          rw [srt_len]
          refine Nat.le_trans (List.length_filter_le _ _) ?_
          unfold OM.some
          rw [List.length_cons]
          omega
        have et : W.tellX m w l (.hear n) = .list ((W.m.found m w (W.tAt n).n (W.tAt n).bs).map PyData.int) := if_neg (by rw [el]; simp)
        generalize W.m.found m w (W.tAt n).n (W.tAt n).bs = fd at *
        refine c_lc N4 (fd.map V.int) (fun i acc => acc = ((fd.take i).filter fun x => decide (x ∉ W.here)).map V.int) rfl (fun H' Dd acc N' => .of (N'.cell 1 rfl)) (fun _ => rfl) (fun i x Dd H5 acc hx N5 r => ?_) (fun pf H5 acc N5 r => ?_) (.of (N4.cell 0 rfl))
        · rw [List.getElem?_map] at hx
          obtain ⟨z, hz, rfl⟩ := Option.map_eq_some_iff.mp hx
          have la : acc.length ≤ 17 := by
            rw [r, List.length_map]
            exact Nat.le_trans filt_len lf
          walk_at "kn"
          refine c_el (fun c => ?_) (fun c => ?_)
          · walk_at "kn"
            refine c_put N5 (by omega) ?_
            show acc ++ [V.int z] = _
            rw [r, filt_snoc hz, if_pos c, List.map_append]
            rfl
          · refine ⟨acc, N5, ?_⟩
            show acc = _
            rw [r, filt_snoc hz, if_neg (fun q => by rw [c] at q; cases q)]
        · rw [List.length_map, List.take_length] at r
          subst r
          walk_at "kn"
          rename_i ep H6 N6
          refine g_neL (m := fd.filter fun x => decide (x ∉ W.here)) (n := []) (.of (N6.cell 1 rfl)) (.of (N6.cell 0 rfl)) ?_
          walk_at "kn"
          rename_i t H7 N7
          have e3 : decide ((fd.filter fun x => decide (x ∉ W.here)) ≠ []) = fd.any fun x => decide (x ∉ W.here) := by
            rw [Bool.eq_iff_iff, decide_eq_true_eq, List.any_eq_true]
            constructor
            · intro z
              obtain ⟨x, hx⟩ := List.exists_mem_of_ne_nil _ z
              exact ⟨x, (List.mem_filter.mp hx).1, (List.mem_filter.mp hx).2⟩
            · rintro ⟨x, hx1, hx2⟩ z
              have q : x ∈ fd.filter fun x => decide (x ∉ W.here) := List.mem_filter.mpr ⟨hx1, hx2⟩
              rw [z] at q
              cases q
          have N8 := N7.tup 0 rfl
          rw [e3, ← e2] at N8
          exact k { A with msl := sl' } _ t [⟨true, fl, .lst (fd.map V.int)⟩] [] _ rfl (by rw [e1]; exact Now.done (N7.sel [5, 6, 7, 3, 4, 8, 9, 2] rfl (by decide)) (by simp)) (by rw [e1]; exact hT.keep N7.af) N8 (by simp) fun H'' h _ => by rw [et]; exact .lst (.of (h ⟨true, fl, .lst (fd.map V.int)⟩ (by simp))) (dpa_ints _)
end
/-! ### a telling is heard in a World, whatever it tells -/
theorem ps_try_E {X : Cx} {x : Str} {c : Value} {body suite : List Stmt} {b₀ : Stmt} {np pos pos' : Pos} {tr : XK → TS} {ts : Addr → Value → Option Addr → TS} (hs : X.stack = X.env :: X.outer) (hf : X.env.frame = some X.env.locals) (hc : Names X x c)
    (hb : ∀ (E : XK) (pn : List (Addr × Obj)) (xe : Value → Shared → Prop), Passes (L2.CX X.prog X.w) (X.tr pn xe) E → PSs (X.tr pn xe) body (tr E))
    (hsu : ∀ (a : Addr) (oe : Obj) (cls : Value) (d : Option Addr) (pn : List (Addr × Obj)), Zc cls d oe → (∃ vs, oe.data = .fields vs) → PSs (X.suite a ((a, oe) :: pn)) (b₀ :: suite) (ts a cls d)) :
    PS X (.Try body [.ExceptHandler (some (.Name x np)) none (b₀ :: suite) pos'] [] [] pos) (fun D σ H => ∃ Ech : XK, (∀ cls d σ' H', Ech cls d H' → wOnly X.K c ts (fun _ _ _ _ => False) D cls d σ' H') ∧ tr Ech D σ H) := by
  refine ps_try_only (tb := fun W D σ H => ∃ Ech : XK, (∀ cls d σ' H', Ech cls d H' → W cls d σ' H') ∧ tr Ech D σ H) hs hf hc LamX.takes0 (fun W pn xe tk _ => ⟨fun pins s σ H D I h => ?_⟩) hsu
  obtain ⟨Ech, hW, h⟩ := h
  exact (hb Ech pn xe (passes_call tk fun cls d σ H e => hW cls d σ H e)).run pins s σ H D I h
section
variable {P : Program} {w : World} {K : PySem.W.Frag} {mg : Str → Option Value} {base : Heap} {CW CM CE CB : Addr}
def spWHeardX (K : PySem.W.Frag) (CW CM CE : Addr) : Sp := fun vs H Q _ => ∃ (q b : Addr) (A : AP) (l : Int) (W : PW) (n : Int) (bs : List Int), vs = [.ref A.p, .ref q] ∧ CelOk H (pwC CW CM CE l A W) ∧ H A.st = some (.tup (StV W.s.m W.s.w W.s.l W.s.a)) ∧ H q = some (.tup [.int n, .ref b]) ∧ H b = some (.tup (bs.map V.int)) ∧ MOk W.s ∧
  (0 ≤ n ∧ n < W.s.m) ∧ (bs.length : Int) = W.s.w ∧ (∀ x ∈ bs, x = 0 ∨ x = 1) ∧
  ((∃ x ∈ W.s.some n bs, x < 0) → ∀ (t : Addr) H', Aftr (pwC CW CM CE l A W) (pwC CW CM CE l A W) H H' → H' t = some (.tup [.non, .bl true]) → Q (.ref t) H') ∧
  ((∀ x ∈ W.s.some n bs, 0 ≤ x) → ∀ (mcl fl t : Addr) H', Aftr (pwC CW CM CE l A W) (pwC CW CM CE l { A with mcl := mcl } { W with s := W.s.hear n bs } ++ [⟨true, fl, .lst ((W.s.found n bs).map V.int)⟩]) H H' → H' t = some (.tup [.ref fl, .bl ((W.s.found n bs).any fun x => decide (x ∉ W.here))]) → Q (.ref t) H')
theorem ok_WHeardX (F : DefM K CW "heard" "World.heard" s_World_heard) (T : WTx K CW) (B : Bt mg) (cl_Mouth : Cls K CM) (T3 : mg "BadBits" = some (.ref CB)) (hm : PySem.W.exmOne K (.ref CB) (.ref CB) = some true) (c_Mouth_hearE : CalM P w K mg base (L2.CX P w) CM 3 "hear" ["self", "told"] (spMHearE K CM CB)) :
    CalM P w K mg base CX0 CW 4 "heard" ["self", "telling"] (spWHeardX K CW CM CE) := by
  refine F.ok sc_World_heard bd_World_heard (fun vs H Q E h => ?_) (fun f cdv A outer s H vs Q E hr h => ?_)
  · obtain ⟨q, b, A, l, W, n, bs, rfl, _⟩ := h
    rfl
  · obtain ⟨q, b, A, l, W, n, bs, rfl, hc, hst, hq, hb, hok, hn, hbl, h01, kl, kh⟩ := h
    obtain ⟨cl_World, n1, n2, n3, n4, n5⟩ := T
    refine ⟨_, PSs.nox (pss_cons (ps_try_E (c := .ref CB) rfl rfl ⟨by rfl, by decide, .inl T3⟩ (fun E pn xe hx => pss_one (ps_set (i := 2) sc_World_heard.nd rfl (by first | exact Or.inl rfl | exact Or.inr rfl) (pe_calM (pe_fldK K rfl (pv 0) rfl) cl_Mouth c_Mouth_hearE (hr.mono (by decide)) hx (pa_cons (pv 1) pa_nil)))) (fun a oe cls d pn _ _ => pss_one (ps_ret (pe_tup (pa_cons pe_non (pa_cons pe_bl pa_nil))))))
      (pss_one (ps_ret (pe_tup (pa_cons (pv 2) (pa_cons (pe_cmpR (op_neDK K rfl hr.units) (pe_lc (own := [("one", 3)]) (g := (gName 3)) rfl sc_World_heard.nd (pi_listK K rfl (pv 2)) (blkOk_by (own := [("one", 3)]) (N := ["self", "telling", "found", "one"]) (sc := defScope s_World_heard) (by decide +kernel)) (fun _ _ _ _ _ => (pg_name (i := 3) sc_World_heard.nd rfl (by first | exact Or.inl rfl | exact Or.inr rfl))) (fun _ _ _ _ _ => (pts_one (pt_cmpR (op_notIn_seqK K rfl) (pv 3) (pe_fldK K rfl (pv 0) rfl) (by rfl)))) (fun _ _ _ _ _ => (pv 3))) (pe_lst pa_nil) (nomark _)) pa_nil)))))), ?_⟩
    have N : Now K none _ H H (pwC CW CM CE l A W) [(q, [.int n, .ref b]), (b, bs.map V.int)] := .begin hc (by simp [hq, hb])
    walk_at "gon"
    refine ⟨fun cls d H' => cls = .ref CB ∧ ∀ t H'', Aft [] H' H'' → H'' t = some (.tup [.non, .bl true]) → Q (.ref t) H'', fun cls d σ' H' ⟨e, kq⟩ => ⟨true, by rw [e]; exact hm, fun _ a ha => ?_, fun z => by cases z⟩, ?_⟩
    · have N' : Now K none [] H' H' [] [] := .start0 (by simp)
      clear N
      walk_at "kn"
      rename_i t H2 N2
      exact kq t _ N2.af (N2.tup 0 rfl)
    walk_at "kn"
    have N3 := N.sel [1, 2, 0, 3, 4, 5, 6] (l' := mouthC CM A.mp A.mdx A.mcl A.st W.s ++ (⟨true, A.p, .ins CW A.dx (fsW l A)⟩ :: (earC CE A.ep A.edx A.eml A.st W.e ++ [⟨true, A.tl, .lst A.tv⟩, ⟨true, A.hl, .lst (W.here.map V.int)⟩]))) rfl (by decide)
    refine g_mHearE N3 hst hq hb hok hn hbl h01 (fun h0 fl mcl H3 N4 => ?_) (fun h0 H3 N4 => ⟨rfl, fun t H4 A4 ht => ?_⟩)
    · have kh := kh h0
      clear N N3
      walk_at "kn"
      have lf := foundM_len hok n bs
      generalize W.s.found n bs = fd at *
      refine c_lc N4 (fd.map V.int) (fun i acc => acc = ((fd.take i).filter fun x => decide (x ∉ W.here)).map V.int) rfl (fun H' Dd acc N' => .of (N'.cell 1 rfl)) (fun _ => rfl) (fun i x Dd H5 acc hx N5 r => ?_) (fun pf H5 acc N5 r => ?_) (.of (N4.cell 0 rfl))
      · rw [List.getElem?_map] at hx
        obtain ⟨z, hz, rfl⟩ := Option.map_eq_some_iff.mp hx
        have la : acc.length ≤ 17 := by
          rw [r, List.length_map]
          exact Nat.le_trans filt_len lf
        walk_at "kn"
        refine c_el (fun c => ?_) (fun c => ?_)
        · walk_at "kn"
          refine c_put N5 (by omega) ?_
          show acc ++ [V.int z] = _
          rw [r, filt_snoc hz, if_pos c, List.map_append]
          rfl
        · refine ⟨acc, N5, ?_⟩
          show acc = _
          rw [r, filt_snoc hz, if_neg (fun q => by rw [c] at q; cases q)]
      · rw [List.length_map, List.take_length] at r
        subst r
        walk_at "kn"
        rename_i ep H6 N6
        refine g_neL (m := fd.filter fun x => decide (x ∉ W.here)) (n := []) (.of (N6.cell 1 rfl)) (.of (N6.cell 0 rfl)) ?_
        walk_at "kn"
        rename_i t H7 N7
        have e3 : decide ((fd.filter fun x => decide (x ∉ W.here)) ≠ []) = fd.any fun x => decide (x ∉ W.here) := by
          rw [Bool.eq_iff_iff, decide_eq_true_eq, List.any_eq_true]
          constructor
          · intro z
            obtain ⟨x, hx⟩ := List.exists_mem_of_ne_nil _ z
            exact ⟨x, (List.mem_filter.mp hx).1, (List.mem_filter.mp hx).2⟩
          · rintro ⟨x, hx1, hx2⟩ z
            have q : x ∈ fd.filter fun x => decide (x ∉ W.here) := List.mem_filter.mpr ⟨hx1, hx2⟩
            rw [z] at q
            cases q
        have N8 := N7.tup 0 rfl
        rw [e3] at N8
        exact kh mcl fl t _ (Now.done (N7.sel [5, 3, 4, 6, 7, 8, 9, 2] rfl (by decide)) (by simp)) N8
    · have N5 := (N4.pure A4).sel [2, 0, 1, 3, 4, 5, 6] (l' := pwC CW CM CE l A W) rfl (by decide)
      exact kl h0 t _ (Now.done N5 (by simp)) ht
end
/-! ### World.do, and what it tells -/
section
variable {P : Program} {w : World} {K : PySem.W.Frag} {mg : Str → Option Value} {base : Heap} {CW CM CE : Addr}
def spWDoX (K : PySem.W.Frag) (CW CM CE : Addr) : Sp := fun vs H Q _ => ∃ (ev : Addr) (A : AP) (m w l a : Int) (W : PW) (e : Ev), vs = [.ref A.p, .ref ev] ∧ CelOk H (pwC CW CM CE l A W) ∧ H A.st = some (.tup (StV m w l a)) ∧ Tls H A.tv W.told ∧ H ev = some (.tup e.v) ∧ PWk m w l a W ∧ W.can l e = true ∧
  ∀ (A' : AP) (x : V) (t : Addr) (fc : List Cel) (TL : List (Addr × List V)) H', A'.p = A.p → A'.st = A.st → Aftr (pwC CW CM CE l A W) (pwC CW CM CE l A' (W.stepX e) ++ fc) H H' → Tls H' A'.tv (W.stepX e).told → H' t = some (.tup [x, .bl (W.badX e)]) → (∀ p ∈ TL, H' p.1 = some (.tup p.2)) → HeldC (fun H'' => Dp K H'' x (W.tellX e)) fc TL → Q (.ref t) H'
theorem ok_WDoX (F : DefM K CW "do" "World.do" s_World_do) (T : WTx K CW) (TM : MTx K CM) (TE : ETx K CE) (B : Bt mg) (c_Mouth_send : CalM P w K mg base CX0 CM 2 "send" ["self"] (spMSend K CM)) (c_Ear_tell : CalM P w K mg base CX0 CE 1 "tell" ["self"] (spETell K CE)) (c_Ear_come : CalM P w K mg base CX0 CE 2 "come" ["self", "mark"] (spECome K CE))
    (c_World_heard : CalM P w K mg base CX0 CW 4 "heard" ["self", "telling"] (spWHeardX K CW CM CE)) : CalM P w K mg base CX0 CW 5 "do" ["self", "event"] (spWDoX K CW CM CE) := by
  refine F.ok sc_World_do bd_World_do (fun vs H Q E h => ?_) (fun f cdv A outer s H vs Q E hr h => ?_)
  · obtain ⟨ev, A, m, w, l, a, W, e, rfl, _⟩ := h
    rfl
  · obtain ⟨ev, A, m, w, l, a, W, e, rfl, hc, hst, hT, he, hk, hcan, k⟩ := h
    obtain ⟨cl_World, n1, n2, n3, n4, n5⟩ := T
    obtain ⟨cl_Mouth, m1, m2, m3, m4, m5, m6, m7, m8⟩ := TM
    obtain ⟨cl_Ear, e1, e2, e3, e4, e5, e6, e7⟩ := TE
    refine ⟨_, PSs.nox (pss_cons (ps_if (pt_cmpR op_eq (pe_ix (ix_tupK K rfl) (pv 1) pe_int (fun _ _ => rfl)) pe_str (nomark _)) (pss_one (ps_ret (pe_tup (pa_cons (pe_calM0 (pe_fldK K rfl (pv 0) rfl) cl_Mouth c_Mouth_send (hr.mono (by decide)) pass0) (pa_cons pe_bl pa_nil))))) pss_nil)
      (pss_cons (ps_if (pt_cmpR op_eq (pe_ix (ix_tupK K rfl) (pv 1) pe_int (fun _ _ => rfl)) pe_str (nomark _)) (pss_cons (ps_expr (pe_bmK K rfl PySem.F.plainAttrs_list PySem.F.slot_list_append PySem.F.type_list_append mt_append (pe_fldK K rfl (pv 0) rfl) (pa_cons (pe_tup (pa_cons (pe_calM0 (pe_fldK K rfl (pv 0) rfl) cl_Ear c_Ear_tell (hr.mono (by decide)) pass0) (pa_cons (pe_fldK K rfl (pe_fldK K rfl (pv 0) rfl) rfl) pa_nil))) pa_nil)))
      (pss_one (ps_ret (pe_tup (pa_cons (pe_ix (ix_tupK K rfl) (pe_ix (ix_listK K rfl) (pe_fldK K rfl (pv 0) rfl) (pe_un un_neg pe_int) (fun _ _ => rfl)) pe_int (fun _ _ => rfl)) (pa_cons pe_bl pa_nil)))))) pss_nil)
      (pss_cons (ps_if (pt_cmpR op_eq (pe_ix (ix_tupK K rfl) (pv 1) pe_int (fun _ _ => rfl)) pe_str (nomark _)) (pss_cons (ps_set (i := 2) sc_World_do.nd rfl (by first | exact Or.inl rfl | exact Or.inr rfl) (pe_calM (pe_fldK K rfl (pv 0) rfl) cl_Ear c_Ear_come (hr.mono (by decide)) pass0 (pa_cons (pe_op op_mod (pe_ix (ix_tupK K rfl) (pv 1) pe_int (fun _ _ => rfl)) (pe_fldK K rfl (pe_fldK K rfl (pv 0) rfl) rfl)) pa_nil)))
      (pss_cons (ps_expr (pe_bmK K rfl PySem.F.plainAttrs_list PySem.F.slot_list_append PySem.F.type_list_append mt_append (pe_fldK K rfl (pv 0) rfl) (pa_cons (pe_ix (ix_tupK K rfl) (pv 1) pe_int (fun _ _ => rfl)) pa_nil)))
      (pss_one (ps_ret (pe_tup (pa_cons (pv 2) (pa_cons (pe_cmpR op_ne (pe_ix (ix_tupK K rfl) (pv 2) pe_int (fun _ _ => rfl)) (pe_ix (ix_tupK K rfl) (pv 1) pe_int (fun _ _ => rfl)) (nomark _)) pa_nil))))))) pss_nil)
      (pss_one (ps_ret (pe_calM (pv 0) cl_World c_World_heard (hr.mono (by decide)) pass0 (pa_cons (pe_ix (ix_tupK K rfl) (pe_ix (ix_listK K rfl) (pe_fldK K rfl (pv 0) rfl) (pe_ix (ix_tupK K rfl) (pv 1) pe_int (fun _ _ => rfl)) (fun _ _ => rfl)) pe_int (fun _ _ => rfl)) pa_nil))))))), ?_⟩
    have tlen : A.tv.length = W.told.length := Paired.length hT
    have hokS := hk.ok
    unfold OkS at hokS
    obtain ⟨s1, s2, s3, s4⟩ := hk.es
    cases e with
    | send =>
      replace he : H ev = some (.tup [.str "send"]) := he
      have N : Now K none _ H H (pwC CW CM CE l A W) [(ev, [.str "send"])] := .begin hc (by simp [he])
      walk_at "gon"
      have hf : W.s.full = false := by
        have hcan : (!W.s.full) = true := hcan
        simpa using hcan
      refine ⟨A.mp, A.mdx, A.mcl, A.st, W.s, rfl, hc.sel [1, 2] rfl (by decide), hk.mok.ok, hf, fun x H2 A2 h2 => ?_⟩
      have N2 := (Now.call (fp := mouthC CM A.mp A.mdx A.mcl A.st W.s) (r := ⟨true, A.p, .ins CW A.dx (fsW l A)⟩ :: (earC CE A.ep A.edx A.eml A.st W.e ++ [⟨true, A.tl, .lst A.tv⟩, ⟨true, A.hl, .lst (W.here.map V.int)⟩])) (N.sel [1, 2, 0, 3, 4, 5, 6] rfl (by decide)) (by simp) A2).moreT h2
      clear N
      walk_at "kn"
      rename_i t H3 N3
      have q := N3.tup 1 rfl
      exact k A _ t [] _ rfl rfl (by rw [List.append_nil]; exact Now.done (N3.sel [2, 0, 1, 3, 4, 5, 6] rfl (by decide)) (by simp)) (hT.keep N3.af) (N3.tup 0 rfl) (TL := [(x, [.int W.s.sent, .int (W.s.sent % W.s.m)])]) (tp1 q) fun H'' _ h => dp_pair (h (x, _) (by simp))
    | tell =>
      replace he : H ev = some (.tup [.str "tell"]) := he
      have N : Now K none _ H H (pwC CW CM CE l A W) [(ev, [.str "tell"])] := .begin hc (by simp [he])
      have h0 : 0 ≤ W.e.newest := of_decide_eq_true hcan
      walk_at "gon"
      refine k_eqStr (by decide) ?_
      walk_at "kn"
      refine ⟨A.ep, A.edx, A.eml, A.st, W.e, rfl, hc.sel [3, 4] rfl (by decide), hk.eok, h0, fun y b H2 A2 h1 h2 => ?_⟩
      have N2 := ((N.pure A2).moreT h2).moreT h1
      clear N
      walk_at "kn"
      rename_i x H3 N3
      have k3 := hk.told
      refine g_app0 (N3.sel [5, 0, 1, 2, 3, 4, 6] (l' := ⟨true, A.tl, .lst A.tv⟩ :: ⟨true, A.p, .ins CW A.dx (fsW l A)⟩ :: (mouthC CM A.mp A.mdx A.mcl A.st W.s ++ (earC CE A.ep A.edx A.eml A.st W.e ++ [⟨true, A.hl, .lst (W.here.map V.int)⟩]))) rfl (by decide)) (by omega) fun H4 N4 => ?_
      clear N3 N2
      walk_at "kn"
      refine g_ixL (xs := A.tv ++ [.ref x]) (v := .ref x) (.of (N4.cell 0 rfl)) (atI_last _ _) ?_
      walk_at "kn"
      rename_i t H5 N5
      have q1 := N5.tup 2 rfl
      have q2 := N5.tup 3 rfl
      exact k { A with tv := A.tv ++ [.ref x] } _ t [] _ rfl rfl (by rw [List.append_nil]; exact Now.done (N5.sel [1, 2, 3, 4, 5, 0, 6] rfl (by decide)) (by simp)) (Paired.snoc (hT.keep N5.af) ⟨x, y, b, rfl, N5.tup 1 rfl, N5.tup 2 rfl, N5.tup 3 rfl⟩) (N5.tup 0 rfl) (TL := [(y, [.int (W.e.newest % W.e.m), .ref b]), (b, W.e.bits.map V.int)]) (tp2 q1 q2) fun H'' _ h => dp_tellX (h (y, _) (by simp)) (h (b, _) (by simp))
    | come n =>
      replace he : H ev = some (.tup [.str "come", .int n]) := he
      have N : Now K none _ H H (pwC CW CM CE l A W) [(ev, [.str "come", .int n])] := .begin hc (by simp [he])
      obtain ⟨t1, t2, t3, t4⟩ := hk.ee
      have hmm : 0 < W.s.m := by omega
      have k4 := hk.here
      walk_at "gon"
      refine k_eqStr (by decide) ?_
      walk_at "kn"
      refine k_eqStr (by decide) ?_
      walk_at "kn"
      refine ⟨A.ep, A.edx, A.eml, A.st, W.e, n % W.s.m, rfl, hc.sel [3, 4] rfl (by decide), by rw [t1, t2, t3, t4]; exact hst, hk.eok, by rw [t1, ← s1]; exact ⟨Int.emod_nonneg _ (by omega), Int.emod_lt_of_pos _ hmm⟩, fun y eml H2 A2 h1 => ?_⟩
      have N2 := (Now.call (fp := earC CE A.ep A.edx A.eml A.st W.e) (r := ⟨true, A.p, .ins CW A.dx (fsW l A)⟩ :: (mouthC CM A.mp A.mdx A.mcl A.st W.s ++ [⟨true, A.tl, .lst A.tv⟩, ⟨true, A.hl, .lst (W.here.map V.int)⟩])) (N.sel [3, 4, 0, 1, 2, 5, 6] rfl (by decide)) (by simp) A2).moreT h1
      clear N
      walk_at "kn"
      refine g_app0 (N2.sel [6, 0, 1, 2, 3, 4, 5] (l' := ⟨true, A.hl, .lst (W.here.map V.int)⟩ :: (earC CE A.ep A.edx eml A.st (W.e.come (W.e.taken (n % W.s.m))) ++ (⟨true, A.p, .ins CW A.dx (fsW l A)⟩ :: (mouthC CM A.mp A.mdx A.mcl A.st W.s ++ [⟨true, A.tl, .lst A.tv⟩])))) rfl (by decide)) (by rw [List.length_map]; omega) fun H4 N4 => ?_
      have ec : W.here.map V.int ++ [V.int n] = (W.here ++ [n]).map V.int := by rw [List.map_append]; rfl
      rw [ec] at N4
      clear N2
      walk_at "kn"
      rename_i t H5 N5
      have q1 := N5.tup 1 rfl
      exact k { A with eml := eml } _ t [] _ rfl rfl (by rw [List.append_nil]; exact Now.done (N5.sel [3, 4, 5, 1, 2, 6, 0] rfl (by decide)) (by simp)) (hT.keep N5.af) (N5.tup 0 rfl) (TL := [(y, [.int (W.e.taken (n % W.s.m)), .str (W.e.word (W.e.taken (n % W.s.m)))])]) (tp1 q1) fun H'' _ h => dp_wordX (h (y, _) (by simp))
    | hear n =>
      replace he : H ev = some (.tup [.str "hear", .int n]) := he
      have N : Now K none _ H H (pwC CW CM CE l A W) [(ev, [.str "hear", .int n])] := .begin hc (by simp [he])
      have hcan : (decide (0 ≤ n) && (decide (n < (W.told.length : Int)) && decide (W.s.sent - (W.told.getD n.toNat ⟨0, [], 0⟩).c ≤ l))) = true := hcan
      simp only [Bool.and_eq_true, decide_eq_true_eq] at hcan
      obtain ⟨c1, c2, _⟩ := hcan
      have lt : n.toNat < W.told.length := by omega
      obtain ⟨x, y, b, f1, f2, f3, f4⟩ := tls_at hT (List.getElem?_eq_getElem lt)
      have eg : W.tAt n = W.told[n.toNat] := by unfold PW.tAt; rw [List.getD_eq_getElem?_getD, List.getElem?_eq_getElem lt]; rfl
      rw [← eg] at f2 f3 f4
      have mem : W.tAt n ∈ W.told := by rw [eg]; exact List.getElem_mem lt
      obtain ⟨g1, g2, g3, _⟩ := hk.tl _ mem
      have N2 := (N.moreT f2).moreT f3
      clear N
      walk_at "gon"
      refine k_eqStr (by decide) ?_
      walk_at "kn"
      refine k_eqStr (by decide) ?_
      walk_at "kn"
      refine k_eqStr (by decide) ?_
      walk_at "kn"
      refine g_ixL (xs := A.tv) (v := .ref x) (.of (N2.cell 5 rfl)) (at_of (show n = (n.toNat : Int) by omega) f1) ?_
      walk_at "kn"
      refine ⟨y, b, A, l, W, (W.tAt n).n, (W.tAt n).bs, rfl, hc, by rw [s1, s2, s3, s4]; exact hst, f3, f4, hk.mok, by rw [s1]; exact g1, by rw [s2]; exact g2, g3, fun h0 t H3 A3 ht => ?_, fun h0 mcl fl t H3 A3 ht => ?_⟩
      · have el : W.low n = true := by
          obtain ⟨z, hz, hz0⟩ := h0
          exact List.any_eq_true.mpr ⟨z, hz, decide_eq_true hz0⟩
        have e1 : W.stepX (.hear n) = W := if_pos el
        have e2 : W.badX (.hear n) = true := if_pos el
        have e3 : W.tellX (.hear n) = .none := if_pos el
        exact k A .non t [] [] _ rfl rfl (by rw [e1, List.append_nil]; exact A3) (by rw [e1]; exact hT.keep A3.af) (by rw [e2]; exact ht) (by simp) fun H'' _ _ => by rw [e3]; exact .non
      · have el : W.low n = false := by
          refine List.any_eq_false.mpr fun z hz => ?_
          have := h0 z hz
          simp
          omega
        have e1 : W.stepX (.hear n) = W.step (.hear n) := if_neg (by rw [el]; simp)
        have e2 : W.badX (.hear n) = W.bad (.hear n) := if_neg (by rw [el]; simp)
        have e3 : W.tellX (.hear n) = .list ((W.s.found (W.tAt n).n (W.tAt n).bs).map PyData.int) := if_neg (by rw [el]; simp)
        exact k { A with mcl := mcl } (.ref fl) t [⟨true, fl, .lst ((W.s.found (W.tAt n).n (W.tAt n).bs).map V.int)⟩] [] _ rfl rfl (by rw [e1]; exact A3) (by rw [e1]; exact hT.keep A3.af) (by rw [e2]; exact ht) (by simp) fun H'' h _ => by rw [e3]; exact .lst (.of (h ⟨true, fl, .lst ((W.s.found (W.tAt n).n (W.tAt n).bs).map V.int)⟩ (by simp))) (dpa_ints _)
end
/-! ### played by own going, events of any kind -/
def wrV : Option Nat → V
  | none => .non
  | some j => .int (j : Int)
def wrD : Option Nat → PyData
  | none => .none
  | some j => .int (j : Int)
theorem dp_wr {K : PySem.W.Frag} {H : Hp} : ∀ o : Option Nat, Dp K H (wrV o) (wrD o)
  | none => .non
  | some j => .int (j : Int)
theorem dpa_app {K : PySem.W.Frag} {H : Hp} : ∀ {a b : List V} {c d : List PyData}, DpAll K H a c → DpAll K H b d → DpAll K H (a ++ b) (c ++ d)
  | _, _, _, _, .nil, h => h
  | _, _, _, _, .cons h1 h2, h => .cons h1 (dpa_app h2 h)
theorem heldC_snoc {K : PySem.W.Frag} {fv : List V} {ds : List PyData} {x : V} {d : PyData} {fc fc2 : List Cel} {TL TL2 : List (Addr × List V)} (h : HeldC (fun H => DpAll K H fv ds) fc TL) (h2 : HeldC (fun H => Dp K H x d) fc2 TL2) : HeldC (fun H => DpAll K H (fv ++ [x]) (ds ++ [d])) (fc2 ++ fc) (TL2 ++ TL) := fun H hc hT =>
  dpa_app (h H (fun c m => hc c (List.mem_append_right _ m)) fun p m => hT p (List.mem_append_right _ m)) (.cons (h2 H (fun c m => hc c (List.mem_append_left _ m)) fun p m => hT p (List.mem_append_left _ m)) .nil)
section
variable {K : PySem.W.Frag} {D : Option Addr} {M : List Addr} {H0 H : Hp} {l fp f2 f3 : List Cel} {ts : List (Addr × List V)} {p : Addr} {xs : List V} {v : V} {Q : VK} {c1 c2 : Cel}
theorem g_appI (i : Nat) (N : Now K D M H0 H l ts) (h : l[i]? = some ⟨true, p, .lst xs⟩) (hz : xs.length < 100000) (q : ∀ H', Now K D M H0 H' (l.set i ⟨true, p, .lst (xs ++ [v])⟩) ts → Q .non H') : rAppend (.ref p) [v] H Q := ⟨p, xs, v, rfl, rfl, N.cell i h, Nat.lt_of_lt_of_le hz (by decide), q _ (N.put i h trivial)⟩
theorem Now.sink2 (N : Now K D M H0 H ((fp ++ f2) ++ (c1 :: c2 :: f3)) ts) : Now K D M H0 H (fp ++ (c1 :: c2 :: (f2 ++ f3))) ts := N.perm (by
  rw [List.append_assoc]
  refine List.Perm.append_left fp ?_
  exact ((List.perm_middle (l₁ := f2) (a := c1) (l₂ := c2 :: f3)).trans ((List.perm_middle (l₁ := f2) (a := c2) (l₂ := f3)).cons c1)).symm)
theorem Now.sink1 (N : Now K D M H0 H ((fp ++ f2) ++ (c1 :: f3)) ts) : Now K D M H0 H (fp ++ (c1 :: (f2 ++ f3))) ts := N.perm (by
  rw [List.append_assoc]
  refine List.Perm.append_left fp ?_
  exact (List.perm_middle (l₁ := f2) (a := c1) (l₂ := f3)).symm)
end
theorem Tls.heldX {H : Hp} {tv : List V} {ts : List Tl} (h : Tls H tv ts) : Held (fun H' => Tls H' tv ts) H :=
  held_paired (R := fun (H : Hp) (v : V) (t : Tl) => ∃ x y b, v = .ref x ∧ H x = some (.tup [.ref y, .int t.c]) ∧ H y = some (.tup [.int t.n, .ref b]) ∧ H b = some (.tup (t.bs.map V.int)))
    (fun H v t ⟨x, y, b, e1, e2, e3, e4⟩ => ⟨[(x, [.ref y, .int t.c]), (y, [.int t.n, .ref b]), (b, t.bs.map V.int)], by simp [e2, e3, e4], fun H' h' => ⟨x, y, b, e1, h' (x, _) (by simp), h' (y, _) (by simp), h' (b, _) (by simp)⟩⟩) h
section
variable {P : Program} {w : World} {K : PySem.W.Frag} {mg : Str → Option Value} {base : Heap}
theorem sc_l_played : FnScope ["_law_setting_here", "_law_events_here", "_law_w", "_law_found", "_law_wrong", "_law_number", "_law_told_here", "_law_is_wrong"] ["_law_setting_here", "_law_events_here"] (defScope s_l_played) := ⟨rfl, rfl, rfl, by decide +kernel, rfl, by decide +kernel, by decide +kernel⟩
theorem bd_l_played : Bd "_law_played" "_law_played" s_l_played ["_law_setting_here", "_law_events_here"] := fun _ _ _ _ _ _ us hl => match us, hl with | [_, _], _ => rfl
def spOPlayX (K : PySem.W.Frag) : Sp := fun vs H Q _ => ∃ (st L : Addr) (m w l a : Int) (lv : List V) (es : List EvX), vs = [.ref st, .ref L] ∧ H st = some (.tup (StV m w l a)) ∧ OkS m w l a ∧ H L = some (.lst lv) ∧ EvXs H lv es ∧ es.length ≤ 1000 ∧
  (∀ j, (∀ i, i < j → (OMach m w l a).okx es i) → j < es.length → ¬ (OMach m w l a).okx es j → ∀ H', Aft [] H H' → Q (.int (j : Int)) H') ∧
  ((∀ i, i < es.length → (OMach m w l a).okx es i) → ∀ (t fl : Addr) (fv : List V) (fc : List Cel) (TL : List (Addr × List V)) H', Aftr [] (⟨true, fl, .lst fv⟩ :: fc) H H' → H' t = some (.tup [.ref fl, wrV ((OMach m w l a).wr es es.length)]) → (∀ p ∈ TL, H' p.1 = some (.tup p.2)) →
    HeldC (fun H'' => DpAll K H'' fv ((OMach m w l a).tl es es.length)) fc TL → Q (.ref t) H')
theorem ok_OPlayX (F : Def K mg "_law_played" s_l_played) (B : Bt mg) (c__law_world : Cal P w K mg base CX0 2 "_law_world" [] spOWorld) (c_l_can : Cal P w K mg base CX0 2 "_law_can" ["_law_setting_here", "_law_w", "_law_event_here"] spOCanX)
    (c_l_do : Cal P w K mg base CX0 3 "_law_do" ["_law_setting_here", "_law_w", "_law_event_here"] (spODoX K)) : Cal P w K mg base CX0 4 "_law_played" ["_law_setting_here", "_law_events_here"] (spOPlayX K) := by
  refine F.ok sc_l_played bd_l_played (fun vs H Q E h => ?_) (fun f cdv A outer s H vs Q E hr h => ?_)
  · obtain ⟨st, L, m, w, l, a, lv, es, rfl, _⟩ := h
    rfl
  · obtain ⟨st, L, m, w, l, a, lv, es, rfl, ht, hok, hL, hE, hlen, kn, ky⟩ := h
    have hok' := hok
    unfold OkS at hok'
    have lvl : lv.length = es.length := Paired.length hE
    refine ⟨_, PSs.nox (pss_cons (ps_set (i := 2) sc_l_played.nd rfl (by first | exact Or.inl rfl | exact Or.inr rfl) (pe_cal0 c__law_world (hr.mono (by decide)) pass0))
      (pss_cons (ps_set (i := 3) sc_l_played.nd rfl (by first | exact Or.inl rfl | exact Or.inr rfl) (pe_lst pa_nil))
      (pss_cons (ps_set (i := 4) sc_l_played.nd rfl (by first | exact Or.inl rfl | exact Or.inr rfl) pe_non)
      (pss_cons (ps_for PassesOwn.never rfl (pi_range1 (by rfl) B.m_range (pa_cons (pe_callB (cr_lnK K rfl) (by rfl) B.m_len (by decide +kernel) (pa_cons (pv 1) pa_nil)) pa_nil)) (pg_name (i := 5) sc_l_played.nd rfl (by first | exact Or.inl rfl | exact Or.inr rfl))
      (pss_cons (ps_if (PW.pt (pw_or (pt_cmpR op_gt (pv 5) pe_int (nomark _)) (pw_or1 (pt_not (pt_val (pe_cal c_l_can (hr.mono (by decide)) pass0 (pa_cons (pv 0) (pa_cons (pv 2) (pa_cons (pe_ix (ix_listK K rfl) (pv 1) (pv 5) (fun _ _ => rfl)) pa_nil))))))))) (pss_one (ps_ret (pv 5))) pss_nil)
      (pss_cons (ps_asg (pe_cal c_l_do (hr.mono (by decide)) pass0 (pa_cons (pv 0) (pa_cons (pv 2) (pa_cons (pe_ix (ix_listK K rfl) (pv 1) (pv 5) (fun _ _ => rfl)) pa_nil)))) (pg_tup rfl (pgs_cons (pg_name (i := 6) sc_l_played.nd rfl (by first | exact Or.inl rfl | exact Or.inr rfl)) (pgs_cons (pg_name (i := 7) sc_l_played.nd rfl (by first | exact Or.inl rfl | exact Or.inr rfl)) pgs_nil))))
      (pss_cons (ps_expr (pe_bmK K rfl PySem.F.plainAttrs_list PySem.F.slot_list_append PySem.F.type_list_append mt_append (pv 3) (pa_cons (pv 6) pa_nil)))
      (pss_one (ps_if (PW.pt (pw_and (pt_val (pv 7)) (pw_and1 (pt_cmpR op_isNo (pv 4) pe_non (nomark _))))) (pss_one (ps_set (i := 4) sc_l_played.nd rfl (by first | exact Or.inl rfl | exact Or.inr rfl) (pv 5))) pss_nil))))))
      (pss_one (ps_ret (pe_tup (pa_cons (pv 3) (pa_cons (pv 4) pa_nil))))))))), ?_⟩
    have N : Now K none [] H H [⟨false, L, .lst lv⟩] [(st, StV m w l a)] := .start (by simp) (by simp [hL, Mut]) (by simp [ht]) (by simp)
    walk_at "gon"
    refine ⟨rfl, fun A H1 hA0 A1 => ?_⟩
    have N1 := Now.call (fp := []) (r := [⟨false, L, .lst lv⟩]) N (by simp) A1
    clear N
    walk_at "gon"
    rename_i fl H2 N2'
    have N2 : Now K none [] H H2 (owC A OW.zero ++ (⟨true, fl, .lst []⟩ :: ⟨false, L, .lst lv⟩ :: [])) ((st, StV m w l a) :: []) := N2'.sel [1, 2, 3, 4, 5, 6, 7, 0, 8] rfl (by decide)
    clear N1 N2'
    refine c_forR (by omega) (fun i σ H' => ∃ (A' : AW) (fv : List V) (fc : List Cel) (TL : List (Addr × List V)) (x5 x6 x7 : Option V), σ = [some (.ref st), some (.ref L), some (.ref A'.w), some (.ref fl), some (wrV ((OMach m w l a).wr es i)), x5, x6, x7] ∧
      Now K none [] H H' (owC A' ((OMach m w l a).go es i) ++ (⟨true, fl, .lst fv⟩ :: ⟨false, L, .lst lv⟩ :: fc)) ((st, StV m w l a) :: TL) ∧ (∀ c ∈ fc, c.w = true) ∧
      Tls H' A'.tv (OW.told ((OMach m w l a).go es i)) ∧ HeldC (fun H'' => DpAll K H'' fv ((OMach m w l a).tl es i)) fc TL ∧ fv.length = i ∧ ∀ j, j < i → (OMach m w l a).okx es j) ⟨A, [], [], [], _, _, _, rfl, N2, by simp, by rw [hA0]; exact .nil, fun _ _ _ => .nil, rfl, by simp⟩ ?_ ?_
    · clear N2
      rintro i σ H8 hi ⟨A', fv, fc, TL, _, _, _, rfl, N', hfc, hT, hC, hf, hprev⟩
      rw [lvl] at hi
      have il : i < es.length := by omega
      have hW : OWn m w i ((OMach m w l a).go es i) := go_own hok es i (by omega)
      obtain ⟨t, x, et, he, hi2⟩ := evx_at hE (List.getElem?_eq_getElem (show i < lv.length by omega))
      have at_ : atI lv (i : Int) = some (.ref t) := atI_nat (by rw [List.getElem?_eq_getElem (show i < lv.length by omega), et])
      have hk := hW.k (by omega)
      obtain ⟨TL0, tl1, tl2⟩ := hT.heldX
      have N8 := (N'.moreT (N'.af.t _ _ he)).addTs tl1
      clear N'
      have hgo : ∀ e, x = .ev e → (OMach m w l a).go es (i + 1) = OW.step ((OMach m w l a).go es i) m w l e := fun e he' => Mach.go_ev (by rw [hi2, he'])
      have htl : ∀ e, x = .ev e → (OMach m w l a).tl es (i + 1) = (OMach m w l a).tl es i ++ [OW.tellX ((OMach m w l a).go es i) m w l e] := fun e he' => Mach.tl_ev (by rw [hi2, he'])
      have hwn : ∀ e, x = .ev e → (OMach m w l a).wr es i = none → (OMach m w l a).wr es (i + 1) = if OW.bad ((OMach m w l a).go es i) m w l e then some i else none := fun e he' h0 => Mach.wr_none h0 (by rw [hi2, he'])
      have hws : ∀ j, (OMach m w l a).wr es i = some j → (OMach m w l a).wr es (i + 1) = some j := fun j h0 => Mach.wr_some h0
      have hokx : (OMach m w l a).okx es i ↔ i < 400 ∧ (OMach m w l a).canX ((OMach m w l a).go es i) x = true := by
        unfold Mach.okx
        rw [hi2]
        simp
      have hgt : ∀ G : OW, (OMach m w l a).go es i = G → True := fun _ _ => trivial
      generalize hG : (OMach m w l a).go es i = G at *
      walk_at "kn"
      refine c_or (fun c => ?_) (fun c => ?_)
      · walk_at "kn"
        have c := of_decide_eq_true c
        exact kn i hprev il (fun z => by have := (hokx.mp z).1; omega) _ N8.af
      · have c := of_decide_eq_false c
        walk_at "kn"
        refine g_ixL (xs := lv) (v := .ref t) (.of (N8.cell 8 rfl)) at_ ?_
        walk_at "kn"
        refine ⟨st, t, A', m, w, l, a, G, x, rfl, N8.tup 1 rfl, (N8.sel [0, 1, 2, 3, 4, 5, 6] (l' := owC A' G) rfl (by decide)).ok, tl2 _ (fun p hp => N8.tp p (by simp [hp])), N8.tup 0 rfl, hk.sure, fun H9 A9 => ?_⟩
        have N9 := N8.pure A9
        clear N8
        cases hcan : (OMach m w l a).canX G x with
        | false =>
          walk_at "kn"
          exact kn i hprev il (fun z => by have := (hokx.mp z).2; rw [hcan] at this; cases this) _ N9.af
        | true =>
          cases x with
          | odd z h1 h2 => cases hcan
          | ev e =>
          have okI := hokx.mpr ⟨by omega, hcan⟩
          walk_at "kn"
          refine g_ixL (xs := lv) (v := .ref t) (.of (N9.cell 8 rfl)) at_ ?_
          walk_at "kn"
          refine ⟨st, t, A', m, w, l, a, G, e, rfl, N9.tup 1 rfl, hok, (N9.sel [0, 1, 2, 3, 4, 5, 6] (l' := owC A' G) rfl (by decide)).ok, tl2 _ (fun p hp => N9.tp p (by simp [hp])), N9.tup 0 rfl, hk, hcan, fun A2 xv tt fc2 TL2 H10 eA AA hT2 ht2 hTL2 hC2 => ?_⟩
          have fw2 : ∀ c ∈ fc2, c.w = true := fun c hc => (AA.nw c (List.mem_append_right _ hc)).1
          obtain ⟨TL3, tm1, tm2⟩ := hT2.heldX
          have N10 := (Now.sink2 (((Now.call (fp := owC A' G) (r := ⟨true, fl, .lst fv⟩ :: ⟨false, L, .lst lv⟩ :: fc) N9 (by simp) AA).addTs hTL2).addTs tm1)).moreT ht2
          clear N9
          have fin : ∀ σ' H', (∃ x5 x6 x7, σ' = [some (.ref st), some (.ref L), some (.ref A2.w), some (.ref fl), some (wrV ((OMach m w l a).wr es (i + 1))), x5, x6, x7]) → Now K none [] H H' (owC A2 (G.step m w l e) ++ (⟨true, fl, .lst (fv ++ [xv])⟩ :: ⟨false, L, .lst lv⟩ :: (fc2 ++ fc))) ((tt, [xv, .bl (G.bad m w l e)]) :: (((t, EvX.v (.ev e)) :: (st, StV m w l a) :: TL) ++ TL0 ++ TL2 ++ TL3)) → ∃ (A' : AW) (fv : List V) (fc : List Cel) (TL : List (Addr × List V)) (x5 x6 x7 : Option V), σ' = [some (.ref st), some (.ref L), some (.ref A'.w), some (.ref fl), some (wrV ((OMach m w l a).wr es (i + 1))), x5, x6, x7] ∧
              Now K none [] H H' (owC A' ((OMach m w l a).go es (i + 1)) ++ (⟨true, fl, .lst fv⟩ :: ⟨false, L, .lst lv⟩ :: fc)) ((st, StV m w l a) :: TL) ∧ (∀ c ∈ fc, c.w = true) ∧
              Tls H' A'.tv (OW.told ((OMach m w l a).go es (i + 1))) ∧ HeldC (fun H'' => DpAll K H'' fv ((OMach m w l a).tl es (i + 1))) fc TL ∧ fv.length = i + 1 ∧ ∀ j, j < i + 1 → (OMach m w l a).okx es j := by
            rintro σ' H' ⟨x5, x6, x7, e1⟩ N11
            refine ⟨A2, fv ++ [xv], fc2 ++ fc, TL2 ++ TL, x5, x6, x7, e1, ?_, ?_, ?_, ?_, ?_, ?_⟩
            · rw [hgo e rfl]
              refine N11.subT _ fun p hp => ?_
              simp only [List.mem_cons, List.mem_append] at hp ⊢
              rcases hp with h | h | h
              · exact .inr (.inl (.inl (.inl (.inr (.inl h)))))
              · exact .inr (.inl (.inr h))
              · exact .inr (.inl (.inl (.inl (.inr (.inr h)))))
            · intro c hc
              rcases List.mem_append.mp hc with h | h
              · exact fw2 c h
              · exact hfc c h
            · rw [hgo e rfl]
              exact tm2 _ fun p hp => N11.tp p (List.mem_cons_of_mem _ (List.mem_append_right _ hp))
            · rw [htl e rfl]
              exact heldC_snoc hC hC2
            · rw [List.length_append, hf]
              rfl
            · intro j hj
              by_cases q : j = i
              · rw [q]
                exact okI
              · exact hprev j (by omega)
          have hbl : fv.length < 100000 := by omega
          cases hb : G.bad m w l e with
          | true =>
            rw [hb] at N10 fin ht2
            cases hw : (OMach m w l a).wr es i with
            | none =>
              have hwr : (OMach m w l a).wr es (i + 1) = some i := by rw [hwn e rfl hw, hb]; rfl
              rw [hwr] at fin
              rw [show wrV none = V.non from rfl]
              walk_at "kn"
              refine g_appI 7 N10 rfl hbl fun H12 N12 => ?_
              walk_at "kn"
              rw [hwr]
              exact fin _ _ ⟨_, _, _, by rw [eA]; rfl⟩ N12
            | some j =>
              have hwr := hws j hw
              rw [hwr] at fin
              walk_at "kn"
              refine g_appI 7 N10 rfl hbl fun H12 N12 => ?_
              walk_at "kn"
              rw [hwr]
              exact fin _ _ ⟨_, _, _, by rw [eA]; rfl⟩ N12
          | false =>
            rw [hb] at N10 fin ht2
            have hwr : (OMach m w l a).wr es (i + 1) = (OMach m w l a).wr es i := by
              cases hw : (OMach m w l a).wr es i with
              | none => rw [hwn e rfl hw, hb]; rfl
              | some j => rw [hws j hw]
            walk_at "kn"
            refine g_appI 7 N10 rfl hbl fun H12 N12 => ?_
            walk_at "kn"
            exact fin _ _ ⟨_, _, _, by rw [eA, hwr]; rfl⟩ N12
    · rintro σ H' ⟨A', fv, fc, TL, _, _, _, rfl, N', hfc, hT, hC, hf, hprev⟩
      rw [show ((lv.length : Int)).toNat = es.length by omega] at N' hT hC hf hprev ⊢
      clear N2
      walk_at "kn"
      rename_i t H8 N8
      have N9 : Now K none [] H H8 (⟨true, fl, .lst fv⟩ :: fc) _ := N8.sub (⟨true, fl, .lst fv⟩ :: fc) (fun c hc => by
        refine List.mem_append_right _ ?_
        rcases List.mem_cons.mp hc with h | h
        · rw [h]
          exact List.mem_cons_self
        · exact List.mem_cons_of_mem _ (List.mem_cons_of_mem _ h)) (by
        have nd := N8.nd
        rw [List.map_append, List.nodup_append] at nd
        have nd2 := nd.2.1
        simp only [List.map_cons, List.nodup_cons, List.mem_cons, not_or] at nd2 ⊢
        exact ⟨nd2.1.2, nd2.2.2⟩)
      refine ky hprev t fl fv fc TL _ (Now.done (fp := []) N9 fun c hc => ?_) (N8.tup 0 rfl) (fun p hp => N8.tp p (List.mem_cons_of_mem _ (List.mem_cons_of_mem _ hp))) hC
      rcases List.mem_cons.mp hc with h | h
      · rw [h]
      · exact hfc c h
end
/-! ### BadEvent's own __init__ -/
section
variable {P : Program} {w : World} {K : PySem.W.Frag} {mg : Str → Option Value} {base : Heap} {C cb : Addr}
theorem sc_BadEvent_init : FnScope ["self", "number"] ["self", "number"] (defScope s_BadEvent_init) := ⟨rfl, rfl, rfl, by decide +kernel, rfl, by decide +kernel, by decide +kernel⟩
theorem bd_BadEvent_init : Bd "__init__" "BadEvent.__init__" s_BadEvent_init ["self", "number"] := fun _ _ _ _ _ _ us hl => match us, hl with | [_, _], _ => rfl
theorem ok_BadEvent (F : DefX K mg C "BadEvent" "BadEvent.__init__" s_BadEvent_init) (T : OexC K C) (BI : BaseI K mg "BitsError" cb) (nn : PySem.W.findIn K (.ref C) "number" = some none) : ExI P w K mg base CX0 C 1 "BadEvent" "number" := by
  refine F.ok T sc_BadEvent_init bd_BadEvent_init rfl (fun f cdv A outer s H vs Q E hr h => ?_)
  obtain ⟨a, v, rfl, ha, k⟩ := h
  refine ⟨_, PSs.nox (pss_cons (ps_expr (pe_baseInit BI (by rfl) (pa_cons (pv 0) (pa_cons pe_str pa_nil))))
      (pss_one (ps_ost (pv 0) (pv 1)))), ?_⟩
  walk_at "gon"
  refine k_veI ?_
  walk_at "kn"
  refine ⟨a, C, [.str "it cannot be"], rfl, by simp, T, ha, ?_⟩
  walk_at "kn"
  refine k_ost ?_
  walk_at "kn"
  refine ⟨a, C, rfl, T, nn, .inl ⟨ha, fun dx h1 h2 => ?_⟩⟩
  exact k dx h1 h2
end
/-! ### played, events of any kind -/
section
variable {P : Program} {w : World} {K : PySem.W.Frag} {mg : Str → Option Value} {base : Heap} {CW CM CE C5 : Addr}
theorem sc_played : FnScope ["setting", "events", "world", "found", "wrong", "number", "event", "told", "is_wrong"] ["setting", "events"] (defScope s_played) := ⟨rfl, rfl, rfl, by decide +kernel, rfl, by decide +kernel, by decide +kernel⟩
theorem bd_played : Bd "played" "played" s_played ["setting", "events"] := fun _ _ _ _ _ _ us hl => match us, hl with | [_, _], _ => rfl
def spPlayX (K : PySem.W.Frag) (C5 : Addr) : Sp := fun vs H Q E => ∃ (st L : Addr) (m w l a : Int) (lv : List V) (es : List EvX), vs = [.ref st, .ref L] ∧ H st = some (.tup (StV m w l a)) ∧ OkS m w l a ∧ H L = some (.lst lv) ∧ EvXs H lv es ∧ es.length ≤ 1000 ∧
  (∀ j, (∀ i, i < j → (PMach m w l a).okx es i) → j < es.length → ¬ (PMach m w l a).okx es j → ∀ dd H', Aft [] H H' → H' dd = some (.xd [("number", .int (j : Int))]) → E (.ref C5) (some dd) H') ∧
  ((∀ i, i < es.length → (PMach m w l a).okx es i) → ∀ (t fl : Addr) (fv : List V) (fc : List Cel) (TL : List (Addr × List V)) H', Aftr [] (⟨true, fl, .lst fv⟩ :: fc) H H' → H' t = some (.tup [.ref fl, wrV ((PMach m w l a).wr es es.length)]) → (∀ p ∈ TL, H' p.1 = some (.tup p.2)) →
    HeldC (fun H'' => DpAll K H'' fv ((PMach m w l a).tl es es.length)) fc TL → Q (.ref t) H')
theorem ok_playedX (F : Def K mg "played" s_played) (T : WTx K CW) (B : Bt mg) (XE : ExI P w K mg base CX0 C5 1 "BadEvent" "number") (g_MOST_EVENTS : ∃ t, mg "MOST_EVENTS" = some (.int 400 t)) (c_need_setting : Cal P w K mg base CX0 1 "need_setting" ["setting"] spNeedS) (c_World : CalC P w K mg base CX0 CW 4 "World" ["self", "setting"] (spWInit CW CM CE))
    (c_World_can : CalM P w K mg base CX0 CW 2 "can" ["self", "event"] (spWCanX K CW CM CE)) (c_World_do : CalM P w K mg base CX0 CW 5 "do" ["self", "event"] (spWDoX K CW CM CE)) : Cal P w K mg base (L2.CX P w) 6 "played" ["setting", "events"] (spPlayX K C5) := by
  refine F.ok sc_played bd_played (fun vs H Q E h => ?_) (fun f cdv A outer s H vs Q E hr h => ?_)
  · obtain ⟨st, L, m, w, l, a, lv, es, rfl, _⟩ := h
    rfl
  · obtain ⟨st, L, m, w, l, a, lv, es, rfl, ht, hok, hL, hE, hlen, kn, ky⟩ := h
    obtain ⟨cl_World, n1, n2, n3, n4, n5⟩ := T
    have lvl : lv.length = es.length := Paired.length hE
    refine ⟨_, (pss_cons (ps_expr (pe_cal c_need_setting (hr.mono (by decide)) pass0 (pa_cons (pv 0) pa_nil)))
      (pss_cons (ps_set (i := 2) sc_played.nd rfl (by first | exact Or.inl rfl | exact Or.inr rfl) (pe_calC c_World (hr.mono (by decide)) pass0 (pa_cons (pv 0) pa_nil)))
      (pss_cons (ps_set (i := 3) sc_played.nd rfl (by first | exact Or.inl rfl | exact Or.inr rfl) (pe_lst pa_nil))
      (pss_cons (ps_set (i := 4) sc_played.nd rfl (by first | exact Or.inl rfl | exact Or.inr rfl) pe_non)
      (pss_cons (ps_for (passes_of rfl) rfl (pi_enum (by rfl) B.m_enumerate (pa_cons (pv 1) pa_nil)) (pg_tup rfl (pgs_cons (pg_name (i := 5) sc_played.nd rfl (by first | exact Or.inl rfl | exact Or.inr rfl)) (pgs_cons (pg_name (i := 6) sc_played.nd rfl (by first | exact Or.inl rfl | exact Or.inr rfl)) pgs_nil)))
      (pss_cons (ps_if (PW.pt (pw_or (pt_cmpR op_ge (pv 5) (pe_gint (by rfl) g_MOST_EVENTS) (nomark _)) (pw_or1 (pt_not (pt_val (pe_calM (pv 2) cl_World c_World_can (hr.mono (by decide)) pass0 (pa_cons (pv 6) pa_nil))))))) (pss_one (ps_raiseI rfl (takes_of rfl rfl rfl rfl) XE (hr.mono (by decide)) pass0 (by rfl) (pa_cons (pv 5) pa_nil))) pss_nil)
      (pss_cons (ps_asg (pe_calM (pv 2) cl_World c_World_do (hr.mono (by decide)) pass0 (pa_cons (pv 6) pa_nil)) (pg_tup rfl (pgs_cons (pg_name (i := 7) sc_played.nd rfl (by first | exact Or.inl rfl | exact Or.inr rfl)) (pgs_cons (pg_name (i := 8) sc_played.nd rfl (by first | exact Or.inl rfl | exact Or.inr rfl)) pgs_nil))))
      (pss_cons (ps_expr (pe_bmK K rfl PySem.F.plainAttrs_list PySem.F.slot_list_append PySem.F.type_list_append mt_append (pv 3) (pa_cons (pv 7) pa_nil)))
      (pss_one (ps_if (PW.pt (pw_and (pt_val (pv 8)) (pw_and1 (pt_cmpR op_isNo (pv 4) pe_non (nomark _))))) (pss_one (ps_set (i := 4) sc_played.nd rfl (by first | exact Or.inl rfl | exact Or.inr rfl) (pv 5))) pss_nil))))))
      (pss_one (ps_ret (pe_tup (pa_cons (pv 3) (pa_cons (pv 4) pa_nil)))))))))), ?_⟩
    have N : Now K none [] H H [] [(st, StV m w l a)] := .start0 (by simp [ht])
    walk_at "gon"
    refine ⟨st, m, w, l, a, rfl, ht, hok, ?_⟩
    walk_at "kn"
    refine g_make N fun p dx H5 _ N5 => ?_
    refine ⟨p, dx, st, m, w, l, a, rfl, N5.cell 0 rfl, N5.tup 0 rfl, hok, fun A H6 eA1 eA2 eA3 A6 => ⟨rfl, ?_⟩⟩
    have N6 := Now.call (fp := [⟨true, p, .ins CW dx []⟩]) N5 (by simp) A6
    rw [List.append_nil] at N6
    clear N5 N
    subst eA1
    subst eA2
    walk_at "kn"
    rename_i fl H7 N7'
    have N7 : Now K none [] H H7 (pwC CW CM CE l A (PW.zero m w l a) ++ (⟨true, fl, .lst []⟩ :: [])) ((A.st, StV m w l a) :: []) := N7'.sel [1, 2, 3, 4, 5, 6, 7, 0] rfl (by decide)
    clear N7' N6
    refine c_forE (xs := lv) (fun i σ H' => ∃ (A' : AP) (fv : List V) (fc : List Cel) (TL : List (Addr × List V)) (x5 x6 x7 x8 : Option V), σ = [some (.ref A'.st), some (.ref L), some (.ref A'.p), some (.ref fl), some (wrV ((PMach m w l a).wr es i)), x5, x6, x7, x8] ∧
      Now K none [] H H' (pwC CW CM CE l A' ((PMach m w l a).go es i) ++ (⟨true, fl, .lst fv⟩ :: fc)) ((A'.st, StV m w l a) :: TL) ∧ (∀ c ∈ fc, c.w = true) ∧
      Tls H' A'.tv (PW.told ((PMach m w l a).go es i)) ∧ HeldC (fun H'' => DpAll K H'' fv ((PMach m w l a).tl es i)) fc TL ∧ fv.length = i ∧ ∀ j, j < i → (PMach m w l a).okx es j) ⟨A, [], [], [], _, _, _, _, rfl, N7, by simp, by rw [eA3]; exact .nil, fun _ _ _ => .nil, rfl, by simp⟩ (fun i σ H' _ ⟨A', fv, _, _, _, _, _, _, _, N', _⟩ => .of (N'.af.k _ _ hL (by simp))) ?_ ?_
    · clear N7
      rintro i x σ H8 T hx ⟨A', fv, fc, TL, _, _, _, _, rfl, N', hfc, hT, hC, hf, hprev⟩ hTn
      obtain ⟨t, x, rfl, he, hi2⟩ := evx_at hE hx
      have il : i < es.length := (List.getElem?_eq_some_iff.mp hi2).1
      have hW : PWn m w l a i ((PMach m w l a).go es i) := go_pwn hok es i (by omega)
      obtain ⟨TL0, tl1, tl2⟩ := hT.heldX
      have N8 := ((N'.moreT (N'.af.t _ _ he)).addTs tl1).newT hTn (xs := [.int (i : Nat), .ref t])
      clear N'
      have hgo : ∀ e, x = .ev e → (PMach m w l a).go es (i + 1) = PW.stepX ((PMach m w l a).go es i) e := fun e he' => Mach.go_ev (by rw [hi2, he'])
      have htl : ∀ e, x = .ev e → (PMach m w l a).tl es (i + 1) = (PMach m w l a).tl es i ++ [PW.tellX ((PMach m w l a).go es i) e] := fun e he' => Mach.tl_ev (by rw [hi2, he'])
      have hwn : ∀ e, x = .ev e → (PMach m w l a).wr es i = none → (PMach m w l a).wr es (i + 1) = if PW.badX ((PMach m w l a).go es i) e then some i else none := fun e he' h0 => Mach.wr_none h0 (by rw [hi2, he'])
      have hws : ∀ j, (PMach m w l a).wr es i = some j → (PMach m w l a).wr es (i + 1) = some j := fun j h0 => Mach.wr_some h0
      have hokx : (PMach m w l a).okx es i ↔ i < 400 ∧ (PMach m w l a).canX ((PMach m w l a).go es i) x = true := by
        unfold Mach.okx
        rw [hi2]
        simp
      generalize hG : (PMach m w l a).go es i = G at *
      have hk := hW.k hok (by omega)
      obtain ⟨s1, s2, s3, s4⟩ := hk.es
      walk_at "kn"
      have raised : ¬ (PMach m w l a).okx es i → ∀ H9, Aft [] H H9 → ∀ d, H9 d = none → E (.ref C5) (some d) (upd H9 d (.xd [("number", .int (i : Int))])) := fun hno H9 A9 d hd => kn i hprev il hno d _ (A9.new hd) upd_same
      refine c_or (fun c => ?_) (fun c => ?_)
      · walk_at "kn"
        have c := of_decide_eq_true c
        refine k_raiseI ?_
        walk_at "kn"
        exact c_mkO (raised (fun z => by have := (hokx.mp z).1; omega) _ N8.af)
      · have c := of_decide_eq_false c
        walk_at "kn"
        refine ⟨t, A', l, G, x, rfl, (N8.sel [0, 1, 2, 3, 4, 5, 6] (l' := pwC CW CM CE l A' G) rfl (by decide)).ok, tl2 _ (fun p hp => N8.tp p (by simp [hp])), N8.tup 1 rfl, fun H9 A9 => ?_⟩
        have N9 := N8.pure A9
        clear N8
        have ecan : (PMach G.s.m G.s.w l G.s.a).canX G x = (PMach m w l a).canX G x := by cases x <;> rfl
        rw [ecan]
        cases hcan : (PMach m w l a).canX G x with
        | false =>
          walk_at "kn"
          refine k_raiseI ?_
          walk_at "kn"
          exact c_mkO (raised (fun z => by have := (hokx.mp z).2; rw [hcan] at this; cases this) _ N9.af)
        | true =>
          cases x with
          | odd z h1 h2 => cases hcan
          | ev e =>
          have okI := hokx.mpr ⟨by omega, hcan⟩
          walk_at "kn"
          refine ⟨t, A', m, w, l, a, G, e, rfl, (N9.sel [0, 1, 2, 3, 4, 5, 6] (l' := pwC CW CM CE l A' G) rfl (by decide)).ok, N9.tup 2 rfl, tl2 _ (fun p hp => N9.tp p (by simp [hp])), N9.tup 1 rfl, hk, hcan, fun A2 xv tt fc2 TL2 H10 eA eB AA hT2 ht2 hTL2 hC2 => ?_⟩
          have fw2 : ∀ c ∈ fc2, c.w = true := fun c hc => (AA.nw c (List.mem_append_right _ hc)).1
          obtain ⟨TL3, tm1, tm2⟩ := hT2.heldX
          have N10 := (Now.sink1 (((Now.call (fp := pwC CW CM CE l A' G) (r := ⟨true, fl, .lst fv⟩ :: fc) N9 (by simp) AA).addTs hTL2).addTs tm1)).moreT ht2
          clear N9
          have fin : ∀ σ' H', (∃ x5 x6 x7 x8, σ' = [some (.ref A2.st), some (.ref L), some (.ref A2.p), some (.ref fl), some (wrV ((PMach m w l a).wr es (i + 1))), x5, x6, x7, x8]) → Now K none [] H H' (pwC CW CM CE l A2 (G.stepX e) ++ (⟨true, fl, .lst (fv ++ [xv])⟩ :: (fc2 ++ fc))) ((tt, [xv, .bl (G.badX e)]) :: (((T, [.int (i : Nat), .ref t]) :: (((t, EvX.v (.ev e)) :: (A'.st, StV m w l a) :: TL) ++ TL0)) ++ TL2 ++ TL3)) → ∃ (A' : AP) (fv : List V) (fc : List Cel) (TL : List (Addr × List V)) (x5 x6 x7 x8 : Option V), σ' = [some (.ref A'.st), some (.ref L), some (.ref A'.p), some (.ref fl), some (wrV ((PMach m w l a).wr es (i + 1))), x5, x6, x7, x8] ∧
              Now K none [] H H' (pwC CW CM CE l A' ((PMach m w l a).go es (i + 1)) ++ (⟨true, fl, .lst fv⟩ :: fc)) ((A'.st, StV m w l a) :: TL) ∧ (∀ c ∈ fc, c.w = true) ∧
              Tls H' A'.tv (PW.told ((PMach m w l a).go es (i + 1))) ∧ HeldC (fun H'' => DpAll K H'' fv ((PMach m w l a).tl es (i + 1))) fc TL ∧ fv.length = i + 1 ∧ ∀ j, j < i + 1 → (PMach m w l a).okx es j := by
            rintro σ' H' ⟨x5, x6, x7, x8, e1⟩ N11
            refine ⟨A2, fv ++ [xv], fc2 ++ fc, TL2 ++ TL, x5, x6, x7, x8, e1, ?_, ?_, ?_, ?_, ?_, ?_⟩
            · rw [hgo e rfl]
              refine N11.subT _ fun p hp => ?_
              rw [eB] at hp
              simp only [List.mem_cons, List.mem_append] at hp ⊢
              rcases hp with h | h | h
              · exact .inr (.inl (.inl (.inr (.inl (.inr (.inl h))))))
              · exact .inr (.inl (.inr h))
              · exact .inr (.inl (.inl (.inr (.inl (.inr (.inr h))))))
            · intro c hc
              rcases List.mem_append.mp hc with h | h
              · exact fw2 c h
              · exact hfc c h
            · rw [hgo e rfl]
              exact tm2 _ fun p hp => N11.tp p (List.mem_cons_of_mem _ (List.mem_append_right _ hp))
            · rw [htl e rfl]
              exact heldC_snoc hC hC2
            · rw [List.length_append, hf]
              rfl
            · intro j hj
              by_cases q : j = i
              · rw [q]
                exact okI
              · exact hprev j (by omega)
          have hbl : fv.length < 100000 := by omega
          cases hb : G.badX e with
          | true =>
            rw [hb] at N10 fin ht2
            cases hw : (PMach m w l a).wr es i with
            | none =>
              have hwr : (PMach m w l a).wr es (i + 1) = some i := by rw [hwn e rfl hw, hb]; rfl
              rw [hwr] at fin
              rw [show wrV none = V.non from rfl]
              walk_at "kn"
              refine g_appI 7 N10 rfl hbl fun H12 N12 => ?_
              walk_at "kn"
              rw [hwr]
              exact fin _ _ ⟨_, _, _, _, by rw [eA, eB]; rfl⟩ N12
            | some j =>
              have hwr := hws j hw
              rw [hwr] at fin
              walk_at "kn"
              refine g_appI 7 N10 rfl hbl fun H12 N12 => ?_
              walk_at "kn"
              rw [hwr]
              exact fin _ _ ⟨_, _, _, _, by rw [eA, eB]; rfl⟩ N12
          | false =>
            rw [hb] at N10 fin ht2
            have hwr : (PMach m w l a).wr es (i + 1) = (PMach m w l a).wr es i := by
              cases hw : (PMach m w l a).wr es i with
              | none => rw [hwn e rfl hw, hb]; rfl
              | some j => rw [hws j hw]
            walk_at "kn"
            refine g_appI 7 N10 rfl hbl fun H12 N12 => ?_
            walk_at "kn"
            exact fin _ _ ⟨_, _, _, _, by rw [eA, eB, hwr]; rfl⟩ N12
    · rintro σ H' ⟨A', fv, fc, TL, _, _, _, _, rfl, N', hfc, hT, hC, hf, hprev⟩
      rw [lvl] at N' hT hC hf hprev ⊢
      clear N7
      walk_at "kn"
      rename_i t H8 N8
      have N9 : Now K none [] H H8 (⟨true, fl, .lst fv⟩ :: fc) _ := N8.sub (⟨true, fl, .lst fv⟩ :: fc) (fun c hc => List.mem_append_right _ hc) (by
        have nd := N8.nd
        rw [List.map_append, List.nodup_append] at nd
        exact nd.2.1)
      refine ky hprev t fl fv fc TL _ (Now.done (fp := []) N9 fun c hc => ?_) (N8.tup 0 rfl) (fun p hp => N8.tp p (List.mem_cons_of_mem _ (List.mem_cons_of_mem _ hp))) hC
      rcases List.mem_cons.mp hc with h | h
      · rw [h]
      · exact hfc c h
end
/-! ### events with one put in that perhaps can't be, or too many -/
theorem evx_app {H : Hp} : ∀ {a b : List V} {c d : List EvX}, EvXs H a c → EvXs H b d → EvXs H (a ++ b) (c ++ d)
  | _, _, _, _, .nil, h => h
  | _, _, _, _, .cons h1 h2, h => .cons h1 (evx_app h2 h)
theorem evx_take {H : Hp} : ∀ {a : List V} {c : List EvX}, EvXs H a c → ∀ n, EvXs H (a.take n) (c.take n)
  | _, _, .nil, n => by rw [List.take_nil, List.take_nil]; exact .nil
  | _, _, .cons _ _, 0 => .nil
  | _, _, .cons h1 h2, n + 1 => .cons h1 (evx_take h2 n)
theorem evx_drop {H : Hp} : ∀ {a : List V} {c : List EvX}, EvXs H a c → ∀ n, EvXs H (a.drop n) (c.drop n)
  | _, _, .nil, n => by rw [List.drop_nil, List.drop_nil]; exact .nil
  | _, _, .cons h1 h2, 0 => .cons h1 h2
  | _, _, .cons _ h2, n + 1 => evx_drop h2 n
theorem evx_rep {H : Hp} {t : Addr} {e : EvX} (h : H t = some (.tup e.v)) : ∀ n, EvXs H (List.replicate n [V.ref t]).flatten (List.replicate n e)
  | 0 => .nil
  | n + 1 => by
    rw [List.replicate_succ, List.flatten_cons, List.replicate_succ]
    exact .cons ⟨t, rfl, h⟩ (evx_rep h n)
theorem evx_one {H : Hp} {t : Addr} {e : EvX} (h : H t = some (.tup e.v)) : EvXs H [.ref t] [e] := .cons ⟨t, rfl, h⟩ .nil
def oSend1 : EvX := .odd [.inr "send", .inl 1] ⟨by decide, by decide, .inr ⟨"send", .inl 1, rfl, by decide, by decide⟩⟩ (by decide +kernel)
def oTell0 : EvX := .odd [.inr "tell", .inl 0] ⟨by decide, by decide, .inr ⟨"tell", .inl 0, rfl, by decide, by decide⟩⟩ (by decide +kernel)
def oBig : EvX := .odd [.inr "Send"] ⟨by decide, by decide, .inl (by decide)⟩ (by decide +kernel)
def oNone : EvX := .odd [] ⟨by decide, by decide, .inl (by decide)⟩ (by decide +kernel)
def oCome : EvX := .odd [.inr "come"] ⟨by decide, by decide, .inl (by decide)⟩ (by decide +kernel)
def oHear2 : EvX := .odd [.inr "hear", .inl 0, .inl 0] ⟨by decide, by decide, .inl (by decide)⟩ (by decide +kernel)
def oEmpty : EvX := .odd [.inr "", .inl 0] ⟨by decide, by decide, .inr ⟨"", .inl 0, rfl, by decide, by decide⟩⟩ (by decide +kernel)
section
variable {P : Program} {w : World} {K : PySem.W.Frag} {mg : Str → Option Value} {base : Heap}
theorem sc_l_odd : FnScope ["_law_d", "_law_events_here", "_law_at", "_law_far", "_law_some"] ["_law_d", "_law_events_here"] (defScope s_l_odd) := ⟨rfl, rfl, rfl, by decide +kernel, rfl, by decide +kernel, by decide +kernel⟩
theorem bd_l_odd : Bd "_law_odd" "_law_odd" s_l_odd ["_law_d", "_law_events_here"] := fun _ _ _ _ _ _ us hl => match us, hl with | [_, _], _ => rfl
def spOOdd (K : PySem.W.Frag) : Sp := fun vs H Q _ => ∃ (d L : Addr) (lv : List V) (es : List EvX), vs = [.ref d, .ref L] ∧ Dice K H d ∧ H L = some (.lst lv) ∧ d ≠ L ∧ EvXs H lv es ∧ es.length ≤ 300 ∧
  ∀ (L' : Addr) (lv' : List V) (es' : List EvX) H', H L' = none → Aft [d] H H' → Dice K H' d → H' L' = some (.lst lv') → EvXs H' lv' es' → es'.length ≤ 500 → Q (.ref L') H'
theorem ok_OOdd (F : Def K mg "_law_odd" s_l_odd) (B : Bt mg) (c_l_next : Cal P w K mg base CX0 1 "_law_next" ["_law_dice_here", "_law_many"] (spNext K)) : Cal P w K mg base CX0 2 "_law_odd" ["_law_d", "_law_events_here"] (spOOdd K) := by
  refine F.ok sc_l_odd bd_l_odd (fun vs H Q E h => ?_) (fun f cdv A outer s H vs Q E hr h => ?_)
  · obtain ⟨d, L, lv, es, rfl, _⟩ := h
    rfl
  · obtain ⟨d, L, lv, es, rfl, hD, hL, hdL, hE, hlen, k⟩ := h
    have lvl : lv.length = es.length := Paired.length hE
    refine ⟨_, PSs.nox (pss_cons (ps_set (i := 2) sc_l_odd.nd rfl (by first | exact Or.inl rfl | exact Or.inr rfl) (pe_cal c_l_next (hr.mono (by decide)) pass0 (pa_cons (pv 0) (pa_cons (pe_op op_add (pe_callB (cr_lnK K rfl) (by rfl) B.m_len (by decide +kernel) (pa_cons (pv 1) pa_nil)) pe_int) pa_nil))))
      (pss_cons (ps_set (i := 3) sc_l_odd.nd rfl (by first | exact Or.inl rfl | exact Or.inr rfl) (pe_cal c_l_next (hr.mono (by decide)) pass0 (pa_cons (pv 0) (pa_cons pe_int pa_nil))))
      (pss_cons (ps_set (i := 4) sc_l_odd.nd rfl (by first | exact Or.inl rfl | exact Or.inr rfl) (pe_lst (pa_cons (pe_tup (pa_cons pe_str (pa_cons (pv 2) pa_nil))) (pa_cons (pe_tup (pa_cons pe_str (pa_cons (pv 2) pa_nil))) (pa_cons (pe_tup (pa_cons pe_str (pa_cons (pe_un un_neg pe_int) pa_nil))) (pa_cons (pe_tup (pa_cons pe_str (pa_cons (pe_op op_sub (pe_un un_neg pe_int) (pv 3)) pa_nil))) (pa_cons (pe_tup (pa_cons pe_str (pa_cons pe_int pa_nil))) (pa_cons (pe_tup (pa_cons pe_str (pa_cons pe_int pa_nil))) (pa_cons (pe_tup (pa_cons pe_str pa_nil)) (pa_cons (pe_tup pa_nil) pa_nil))))))))))
      (pss_cons (ps_set (i := 4) sc_l_odd.nd rfl (by first | exact Or.inl rfl | exact Or.inr rfl) (pe_op op_cat (pv 4) (pe_lst (pa_cons (pe_tup (pa_cons pe_str (pa_cons (pv 3) pa_nil))) (pa_cons (pe_tup (pa_cons pe_str (pa_cons (pv 3) pa_nil))) (pa_cons (pe_tup (pa_cons pe_str pa_nil)) (pa_cons (pe_tup (pa_cons pe_str pa_nil)) (pa_cons (pe_tup (pa_cons pe_str pa_nil)) (pa_cons (pe_tup (pa_cons pe_str (pa_cons pe_int (pa_cons pe_int pa_nil)))) (pa_cons (pe_tup (pa_cons pe_str (pa_cons pe_int pa_nil))) pa_nil))))))))))
      (pss_cons (ps_if (pt_cmpR op_eq (pe_cal c_l_next (hr.mono (by decide)) pass0 (pa_cons (pv 0) (pa_cons pe_int pa_nil))) pe_int (nomark _)) (pss_one (ps_ret (pe_op op_cat (pe_lst (pa_cons (pe_tup (pa_cons pe_str pa_nil)) (pa_cons (pe_tup (pa_cons pe_str (pa_cons pe_int pa_nil))) pa_nil))) (pe_op op_rep (pe_lst (pa_cons (pe_tup (pa_cons pe_str pa_nil)) pa_nil)) (pe_op op_add pe_int (pe_op op_mod (pv 3) pe_int)))))) pss_nil)
      (pss_one (ps_ret (pe_op op_cat (pe_op op_cat (pe_op op_cat (pe_slice (sl_listK K rfl) (pv 1) po_none (po_some (pv 2))) (pe_lst (pa_cons (pe_ix (ix_listK K rfl) (pv 4) (pe_cal c_l_next (hr.mono (by decide)) pass0 (pa_cons (pv 0) (pa_cons pe_int pa_nil))) (fun _ _ => rfl)) pa_nil))) (pe_slice (sl_listK K rfl) (pv 1) (po_some (pv 2)) po_none)) (pe_op op_rep (pe_lst (pa_cons (pe_tup pa_nil) pa_nil)) (pe_cal c_l_next (hr.mono (by decide)) pass0 (pa_cons (pv 0) (pa_cons pe_int pa_nil)))))))))))), ?_⟩
    have N : Now K (some d) [d] H H [⟨false, L, .lst lv⟩] [] := .start (by simp) (by simp [hL, Mut]) (by simp) (fun e he => by cases he; exact ⟨hD, by simp, by simpa using hdL⟩)
    walk_at "gon"
    rename_i v1 H1 N1 b1 b2 v2 H2 N2 b3 b4 q1 H3 N3 q2 H4 N4 q3 H5 N5 q4 H6 N6 q5 H7 N7 q6 H8 N8 q7 H9 N9 q8 H10 N10 l1 H11 N11 r1 H12 N12 r2 H13 N13 r3 H14 N14 r4 H15 N15 r5 H16 N16 r6 H17 N17 r7 H18 N18 l2 H19 N19 l3 H20 N20 v3 H21 N21 b5 b6
    clear N N1 N2 N3 N4 N5 N6 N7 N8 N9 N10 N11 N12 N13 N14 N15 N16 N17 N18 N19 N20
    refine c_ifd (fun c => ?_) (fun c => ?_)
    · walk_at "kn"
      rename_i s1 H22 N22 s2 H23 N23 l4 H24 N24 s3 H25 N25 l5 H26 N26
      clear N22 N23 N24 N25
      refine g_rep (n := (398 + v2 % 3).toNat) N26 (N26.cell 0 rfl) (by omega) (by omega) (by simp) fun l6 H27 N27 => ?_
      have len1 : ((List.replicate (398 + v2 % 3).toNat [V.ref s3]).flatten).length = (398 + v2 % 3).toNat := by
        rw [List.length_flatten, List.map_replicate]
        simp
      refine g_cat N27 (N27.cell 2 rfl) (N27.cell 0 rfl) (by rw [len1]; simp; omega) fun l7 H28 N28 => ?_
      walk_at "kn"
      have e1 : H28 s1 = some (.tup (EvX.v (.ev .send))) := N28.tup 2 rfl
      have e2 : H28 s2 = some (.tup (EvX.v (.ev (.come 0)))) := N28.tup 1 rfl
      have e3 : H28 s3 = some (.tup (EvX.v (.ev .tell))) := N28.tup 0 rfl
      refine k l7 _ _ _ ((N28.ow ⟨true, l7, _⟩ List.mem_cons_self rfl).resolve_left fun z => ?_) N28.af (N28.dc d rfl).1 (N28.cell 0 rfl) (evx_app (evx_app (evx_one e1) (evx_one e2)) (evx_rep e3 _)) ?_
      · have e : l7 = d := by simpa using z
        exact (N28.dc d rfl).2.2 (by rw [← e]; simp)
      · rw [List.length_append, List.length_append, List.length_replicate]
        simp
        omega
    · obtain ⟨n, rfl⟩ : ∃ n : Nat, v1 = (n : Int) := ⟨v1.toNat, by omega⟩
      walk_at "kn"
      rename_i a1 H22 N22 v4 H23 N23 c1 c2
      clear N21 N22
      rw [cut_take] at N23
      have ev15 : EvXs H23 [V.ref q1, V.ref q2, V.ref q3, V.ref q4, V.ref q5, V.ref q6, V.ref q7, V.ref q8, V.ref r1, V.ref r2, V.ref r3, V.ref r4, V.ref r5, V.ref r6, V.ref r7] [.ev (.come n), .ev (.hear n), .ev (.come (-1)), .ev (.hear (-1 - v2)), oSend1, oTell0, oBig, oNone, .ev (.come v2), .ev (.hear v2), .ev .send, .ev .tell, oCome, oHear2, oEmpty] := .cons ⟨q1, rfl, N23.tup 14 rfl⟩ (.cons ⟨q2, rfl, N23.tup 13 rfl⟩ (.cons ⟨q3, rfl, N23.tup 12 rfl⟩ (.cons ⟨q4, rfl, N23.tup 11 rfl⟩ (.cons ⟨q5, rfl, N23.tup 10 rfl⟩ (.cons ⟨q6, rfl, N23.tup 9 rfl⟩ (.cons ⟨q7, rfl, N23.tup 8 rfl⟩ (.cons ⟨q8, rfl, N23.tup 7 rfl⟩ (.cons ⟨r1, rfl, N23.tup 6 rfl⟩ (.cons ⟨r2, rfl, N23.tup 5 rfl⟩ (.cons ⟨r3, rfl, N23.tup 4 rfl⟩ (.cons ⟨r4, rfl, N23.tup 3 rfl⟩ (.cons ⟨r5, rfl, N23.tup 2 rfl⟩ (.cons ⟨r6, rfl, N23.tup 1 rfl⟩ (.cons ⟨r7, rfl, N23.tup 0 rfl⟩ (.nil)))))))))))))))
      have lt : v4.toNat < ([V.ref q1, V.ref q2, V.ref q3, V.ref q4, V.ref q5, V.ref q6, V.ref q7, V.ref q8, V.ref r1, V.ref r2, V.ref r3, V.ref r4, V.ref r5, V.ref r6, V.ref r7] : List V).length := by
        show v4.toNat < 15
        omega
      obtain ⟨t, e, f1, f2, f3⟩ := evx_at ev15 (List.getElem?_eq_getElem lt)
      have f4 : ([V.ref q1, V.ref q2, V.ref q3, V.ref q4, V.ref q5, V.ref q6, V.ref q7, V.ref q8, V.ref r1, V.ref r2, V.ref r3, V.ref r4, V.ref r5, V.ref r6, V.ref r7] : List V)[v4.toNat]? = some (.ref t) := by rw [List.getElem?_eq_getElem lt, f1]
      have N24 := (N23.moreT f2).subT [(t, e.v)] (by simp)
      clear N23 ev15
      refine g_ixL (xs := [V.ref q1, V.ref q2, V.ref q3, V.ref q4, V.ref q5, V.ref q6, V.ref q7, V.ref q8, V.ref r1, V.ref r2, V.ref r3, V.ref r4, V.ref r5, V.ref r6, V.ref r7]) (v := .ref t) (.of (N24.cell 1 rfl)) (at_of (show v4 = (v4.toNat : Int) by omega) f4) ?_
      walk_at "kn"
      rename_i a2 H25 N25
      clear N24
      have lt1 : (lv.take n).length ≤ 300 := by rw [List.length_take]; omega
      have lt2 : (lv.drop n).length ≤ 300 := by rw [List.length_drop]; omega
      refine g_cat N25 (N25.cell 1 rfl) (N25.cell 0 rfl) (by simp; omega) fun a3 H26 N26 => ?_
      clear N25
      walk_at "kn"
      rename_i a4 H27 N27
      clear N26
      rw [cut_drop] at N27
      refine g_cat N27 (N27.cell 1 rfl) (N27.cell 0 rfl) (by rw [List.length_append]; simp; omega) fun a5 H28 N28 => ?_
      clear N27
      walk_at "kn"
      rename_i u H29 N29 a6 H30 N30 v5 H31 N31 c3 c4
      clear N28 N29 N30
      refine g_rep (n := v5.toNat) N31 (N31.cell 0 rfl) (by omega) (by omega) (by simp) fun a7 H32 N32 => ?_
      have len1 : ((List.replicate v5.toNat [V.ref u]).flatten).length = v5.toNat := by
        rw [List.length_flatten, List.map_replicate]
        simp
      refine g_cat N32 (N32.cell 2 rfl) (N32.cell 0 rfl) (by rw [len1, List.length_append, List.length_append]; simp; omega) fun a8 H33 N33 => ?_
      have e1 : H33 u = some (.tup (EvX.v oNone)) := N33.tup 0 rfl
      have e2 : H33 t = some (.tup e.v) := N33.tup 1 rfl
      have hE' := hE.keep N33.af
      refine k a8 _ _ _ ((N33.ow ⟨true, a8, _⟩ List.mem_cons_self rfl).resolve_left fun z => ?_) N33.af (N33.dc d rfl).1 (N33.cell 0 rfl) (evx_app (evx_app (evx_app (evx_take hE' n) (evx_one e2)) (evx_drop hE' n)) (evx_rep e1 _)) ?_
      · have e : a8 = d := by simpa using z
        exact (N33.dc d rfl).2.2 (by rw [← e]; simp)
      · rw [List.length_append, List.length_append, List.length_append, List.length_replicate, List.length_take, List.length_drop]
        simp
        omega
end
/-! ### what is told, or the word of a refusal and its field -/
def sufOf : List Stmt → List Stmt
  | [.Try _ [.ExceptHandler _ _ b _] _ _ _] => b
  | _ => []
theorem g_isZ {K : PySem.W.Frag} {c1 c2 c3 c4 c5 c6 cb D a : Addr} {d : Option Addr} {n : Nat} {H : Hp} {c : V} {cv : Value} {b : Bool} {Q : VK} (ko : Kof K c1 c2 c3 c4 c5 c6 cb D n) (hd : XDic d H) (hc : ∀ u, RelV c u → u = cv) (hk : PySem.W.kitOne K (.ref D) cv = some b) (q : Q (.bl b) H) : rIsEz K (.ref D) d a [.ref a, c] H Q :=
  ⟨D, c, cv, b, rfl, hd, ko.c, rfl, hc, hk, q⟩
section
variable {c1 c2 c3 c4 c5 c6 cb : Addr}
theorem sc_l_told : FnScope ["_law_work", "e", "_law_kinds", "_law_words", "_law_word"] ["_law_work"] (defScope s_l_told) := ⟨rfl, rfl, rfl, by decide +kernel, rfl, by decide +kernel, by decide +kernel⟩
theorem bd_l_told : Bd "_law_told" "_law_told" s_l_told ["_law_work"] := fun _ _ _ _ _ _ us hl => match us, hl with | [_], _ => rfl
abbrev N_told : List Str := ["_law_work", "e", "_law_kinds", "_law_words", "_law_word"]
theorem told_suite {prog : Program} {w : World} {K : PySem.W.Frag} {mg : Str → Option Value} {base : Heap} {A : Around} {stack : List Env} {s : Shared} {H : Hp} {g : Addr} {cdg : Value} (B : Bt mg) (Kn : Kin mg c1 c2 c3 c4 c5 c6 cb) (KX : KinX K c1 c5 c6) :
    ∃ ts : Addr → Value → Option Addr → TS, (∀ (a : Addr) (oe : Obj) (cls : Value) (d : Option Addr) (pn : List (Addr × Obj)), Zc cls d oe → (∃ vs, oe.data = .fields vs) →
      PSs (Cx.suite (cxOf C8.CX0 prog w K mg base N_told "_law_told" (defScope s_l_told) g cdg A stack s H C8.E0).nox a ((a, oe) :: pn)) (sufOf (defBody s_l_told)) (ts a cls d)) ∧
      ∀ (cls : Value) (d : Option Addr) (a : Addr) (σ : L2.St) (H' : Hp) (E : Ends) (xs : List V), RefX K c1 c2 c3 c4 c5 c6 cb cls d H' xs → σ.length = 5 → (∀ p H'', Aft [] H' H'' → H'' p = some (.tup xs) → E.rt (.ref p) H'') → ts a cls d E (σ.set 1 (some (.ref a))) H' := by
  refine ⟨_, fun a oe cls d pn hz hf => (pss_cons (ps_set (i := 2) sc_l_told.nd rfl (by first | exact Or.inl rfl | exact Or.inr rfl) (pe_lst (pa_cons (pe_callB (call_isEzK K rfl hz hf) (by rfl) B.m_isinstance (by decide +kernel) (pa_cons (pv 1) (pa_cons (pe_gref (by rfl) Kn.g1) pa_nil))) (pa_cons (pe_callB (call_isEzK K rfl hz hf) (by rfl) B.m_isinstance (by decide +kernel) (pa_cons (pv 1) (pa_cons (pe_gref (by rfl) Kn.g2) pa_nil))) (pa_cons (pe_callB (call_isEzK K rfl hz hf) (by rfl) B.m_isinstance (by decide +kernel) (pa_cons (pv 1) (pa_cons (pe_gref (by rfl) Kn.g3) pa_nil))) (pa_cons (pe_callB (call_isEzK K rfl hz hf) (by rfl) B.m_isinstance (by decide +kernel) (pa_cons (pv 1) (pa_cons (pe_gref (by rfl) Kn.g4) pa_nil))) pa_nil))))))
      (pss_cons (ps_set (i := 2) sc_l_told.nd rfl (by first | exact Or.inl rfl | exact Or.inr rfl) (pe_op op_cat (pv 2) (pe_lst (pa_cons (pe_callB (call_isEzK K rfl hz hf) (by rfl) B.m_isinstance (by decide +kernel) (pa_cons (pv 1) (pa_cons (pe_gref (by rfl) Kn.g5) pa_nil))) (pa_cons (pe_callB (call_isEzK K rfl hz hf) (by rfl) B.m_isinstance (by decide +kernel) (pa_cons (pv 1) (pa_cons (pe_gref (by rfl) Kn.g6) pa_nil))) pa_nil)))))
      (pss_cons (ps_set (i := 3) sc_l_told.nd rfl (by first | exact Or.inl rfl | exact Or.inr rfl) (pe_lst (pa_cons pe_str (pa_cons pe_str (pa_cons pe_str (pa_cons pe_str (pa_cons pe_str (pa_cons pe_str pa_nil))))))))
      (pss_cons (ps_if (PW.pt (pw_or (pt_cmpR op_ne (pe_bmK K rfl PySem.F.plainAttrs_list PySem.F.slot_list_count PySem.F.type_list_count (mt_countFK K rfl) (pv 2) (pa_cons pe_bl pa_nil)) pe_int (nomark _)) (pw_or1 (pt_not (pt_val (pe_callB (call_isEzK K rfl hz hf) (by rfl) B.m_isinstance (by decide +kernel) (pa_cons (pv 1) (pa_cons (pe_bltn (v := .ty "ValueError") (by rfl) Kn.ve (by decide +kernel) rfl) pa_nil)))))))) (pss_one (ps_ret (pe_tup (pa_cons pe_str pa_nil)))) pss_nil)
      (pss_cons (ps_set (i := 4) sc_l_told.nd rfl (by first | exact Or.inl rfl | exact Or.inr rfl) (pe_ix (ix_listK K rfl) (pv 3) (pe_bmK K rfl PySem.F.plainAttrs_list PySem.F.slot_list_index PySem.F.type_list_index (mt_indexK K rfl) (pv 2) (pa_cons pe_bl pa_nil)) (fun _ _ => rfl)))
      (pss_cons (ps_if (pt_cmpR op_eq (pv 4) pe_str (nomark _)) (pss_one (ps_ret (pe_tup (pa_cons (pv 4) (pa_cons (pe_xf KX.x1 KX.n1 hz hf (pv 1)) pa_nil))))) pss_nil)
      (pss_cons (ps_if (pt_cmpR op_eq (pv 4) pe_str (nomark _)) (pss_one (ps_ret (pe_tup (pa_cons (pv 4) (pa_cons (pe_xf KX.x5 KX.n5 hz hf (pv 1)) pa_nil))))) pss_nil)
      (pss_one (ps_ret (pe_ifExp (pt_cmpR op_eq (pv 4) pe_str (nomark _)) (pe_tup (pa_cons (pv 4) (pa_cons (pe_xf KX.x6 KX.n6 hz hf (pv 1)) pa_nil))) (pe_tup (pa_cons (pv 4) pa_nil)))))))))))), ?hr⟩
  intro cls d a σ H' E xs hR hlen k
  obtain ⟨D, n, rfl, ko, hR⟩ := hR
  match σ, hlen with
  | [s0, s1, s2, s3, s4], _ =>
    have N : Now K none [] H' H' [] [] := .start0 (by simp)
    rcases hR with ⟨rfl, hn, rfl⟩ | ⟨dd, fs, v, rfl, hdd, rfl, hn⟩
    · have hd : ∀ H'', Aft [] H' H'' → XDic none H'' := fun _ _ => .inl rfl
      rcases hn with rfl | rfl | rfl
      · walk_at "kn"
        refine g_isZ ko (b := false) (hd _ N.af) (fun u h => h) ko.k1 ?_
        walk_at "kn"
        refine g_isZ ko (b := true) (hd _ N.af) (fun u h => h) ko.k2 ?_
        walk_at "kn"
        refine g_isZ ko (b := false) (hd _ N.af) (fun u h => h) ko.k3 ?_
        walk_at "kn"
        refine g_isZ ko (b := false) (hd _ N.af) (fun u h => h) ko.k4 ?_
        walk_at "kn"
        refine g_isZ ko (b := false) (hd _ (Now.af (K := K) (by assumption))) (fun u h => h) ko.k5 ?_
        walk_at "kn"
        refine g_isZ ko (b := false) (hd _ (Now.af (K := K) (by assumption))) (fun u h => h) ko.k6 ?_
        walk_at "kn"
        rename_i p1 H1 N1 p2 H2 N2 p3 H3 N3 p4 H4 N4
        refine g_cntF (n := 1) (ys := [.bl false, .bl true, .bl false, .bl false, .bl false, .bl false]) (.of (N4.cell 1 rfl)) rfl rfl rfl ?_
        walk_at "kn"
        refine c_or (fun c => absurd (of_decide_eq_true c) (by simp)) (fun _ => ?_)
        walk_at "kn"
        refine g_isZ ko (b := true) (hd _ N4.af) (fun u h => h) ko.kv ?_
        walk_at "kn"
        refine g_idx (ys := [.bl false, .bl true, .bl false, .bl false, .bl false, .bl false]) (z := .bl true) 1 (.of (N4.cell 1 rfl)) rfl rfl rfl rfl ?_ ?_
        · intro m z' hm hz
          have : m = 0 := by omega
          rcases this with rfl <;> (cases hz; rfl)
        · walk_at "kn"
          refine k_eqStr (by decide) ?_
          walk_at "kn"
          refine k_eqStr (by decide) ?_
          walk_at "kn"
          refine k_eqStr (by decide) ?_
          walk_at "kn"
          rename_i p5 H5 N5
          exact k p5 H5 N5.af (N5.tup 0 rfl)
      · walk_at "kn"
        refine g_isZ ko (b := false) (hd _ N.af) (fun u h => h) ko.k1 ?_
        walk_at "kn"
        refine g_isZ ko (b := false) (hd _ N.af) (fun u h => h) ko.k2 ?_
        walk_at "kn"
        refine g_isZ ko (b := true) (hd _ N.af) (fun u h => h) ko.k3 ?_
        walk_at "kn"
        refine g_isZ ko (b := false) (hd _ N.af) (fun u h => h) ko.k4 ?_
        walk_at "kn"
        refine g_isZ ko (b := false) (hd _ (Now.af (K := K) (by assumption))) (fun u h => h) ko.k5 ?_
        walk_at "kn"
        refine g_isZ ko (b := false) (hd _ (Now.af (K := K) (by assumption))) (fun u h => h) ko.k6 ?_
        walk_at "kn"
        rename_i p1 H1 N1 p2 H2 N2 p3 H3 N3 p4 H4 N4
        refine g_cntF (n := 1) (ys := [.bl false, .bl false, .bl true, .bl false, .bl false, .bl false]) (.of (N4.cell 1 rfl)) rfl rfl rfl ?_
        walk_at "kn"
        refine c_or (fun c => absurd (of_decide_eq_true c) (by simp)) (fun _ => ?_)
        walk_at "kn"
        refine g_isZ ko (b := true) (hd _ N4.af) (fun u h => h) ko.kv ?_
        walk_at "kn"
        refine g_idx (ys := [.bl false, .bl false, .bl true, .bl false, .bl false, .bl false]) (z := .bl true) 2 (.of (N4.cell 1 rfl)) rfl rfl rfl rfl ?_ ?_
        · intro m z' hm hz
          have : m = 0 ∨ m = 1 := by omega
          rcases this with rfl | rfl <;> (cases hz; rfl)
        · walk_at "kn"
          refine k_eqStr (by decide) ?_
          walk_at "kn"
          refine k_eqStr (by decide) ?_
          walk_at "kn"
          refine k_eqStr (by decide) ?_
          walk_at "kn"
          rename_i p5 H5 N5
          exact k p5 H5 N5.af (N5.tup 0 rfl)
      · walk_at "kn"
        refine g_isZ ko (b := false) (hd _ N.af) (fun u h => h) ko.k1 ?_
        walk_at "kn"
        refine g_isZ ko (b := false) (hd _ N.af) (fun u h => h) ko.k2 ?_
        walk_at "kn"
        refine g_isZ ko (b := false) (hd _ N.af) (fun u h => h) ko.k3 ?_
        walk_at "kn"
        refine g_isZ ko (b := true) (hd _ N.af) (fun u h => h) ko.k4 ?_
        walk_at "kn"
        refine g_isZ ko (b := false) (hd _ (Now.af (K := K) (by assumption))) (fun u h => h) ko.k5 ?_
        walk_at "kn"
        refine g_isZ ko (b := false) (hd _ (Now.af (K := K) (by assumption))) (fun u h => h) ko.k6 ?_
        walk_at "kn"
        rename_i p1 H1 N1 p2 H2 N2 p3 H3 N3 p4 H4 N4
        refine g_cntF (n := 1) (ys := [.bl false, .bl false, .bl false, .bl true, .bl false, .bl false]) (.of (N4.cell 1 rfl)) rfl rfl rfl ?_
        walk_at "kn"
        refine c_or (fun c => absurd (of_decide_eq_true c) (by simp)) (fun _ => ?_)
        walk_at "kn"
        refine g_isZ ko (b := true) (hd _ N4.af) (fun u h => h) ko.kv ?_
        walk_at "kn"
        refine g_idx (ys := [.bl false, .bl false, .bl false, .bl true, .bl false, .bl false]) (z := .bl true) 3 (.of (N4.cell 1 rfl)) rfl rfl rfl rfl ?_ ?_
        · intro m z' hm hz
          have : m = 0 ∨ m = 1 ∨ m = 2 := by omega
          rcases this with rfl | rfl | rfl <;> (cases hz; rfl)
        · walk_at "kn"
          refine k_eqStr (by decide) ?_
          walk_at "kn"
          refine k_eqStr (by decide) ?_
          walk_at "kn"
          refine k_eqStr (by decide) ?_
          walk_at "kn"
          rename_i p5 H5 N5
          exact k p5 H5 N5.af (N5.tup 0 rfl)
    · have hd : ∀ H'', Aft [] H' H'' → XDic (some dd) H'' := fun H'' A => .inr ⟨dd, fs, rfl, A.k _ _ hdd (by simp)⟩
      rcases hn with ⟨rfl, rfl, hv⟩ | ⟨rfl, rfl, hv⟩ | ⟨rfl, rfl, hv⟩
      · walk_at "kn"
        refine g_isZ ko (b := true) (hd _ N.af) (fun u h => h) ko.k1 ?_
        walk_at "kn"
        refine g_isZ ko (b := false) (hd _ N.af) (fun u h => h) ko.k2 ?_
        walk_at "kn"
        refine g_isZ ko (b := false) (hd _ N.af) (fun u h => h) ko.k3 ?_
        walk_at "kn"
        refine g_isZ ko (b := false) (hd _ N.af) (fun u h => h) ko.k4 ?_
        walk_at "kn"
        refine g_isZ ko (b := false) (hd _ (Now.af (K := K) (by assumption))) (fun u h => h) ko.k5 ?_
        walk_at "kn"
        refine g_isZ ko (b := false) (hd _ (Now.af (K := K) (by assumption))) (fun u h => h) ko.k6 ?_
        walk_at "kn"
        rename_i p1 H1 N1 p2 H2 N2 p3 H3 N3 p4 H4 N4
        refine g_cntF (n := 1) (ys := [.bl true, .bl false, .bl false, .bl false, .bl false, .bl false]) (.of (N4.cell 1 rfl)) rfl rfl rfl ?_
        walk_at "kn"
        refine c_or (fun c => absurd (of_decide_eq_true c) (by simp)) (fun _ => ?_)
        walk_at "kn"
        refine g_isZ ko (b := true) (hd _ N4.af) (fun u h => h) ko.kv ?_
        walk_at "kn"
        refine g_idx (ys := [.bl true, .bl false, .bl false, .bl false, .bl false, .bl false]) (z := .bl true) 0 (.of (N4.cell 1 rfl)) rfl rfl rfl rfl ?_ ?_
        · intro m z' hm hz
          omega
        · walk_at "kn"
          refine k_xf ?_
          walk_at "kn"
          refine g_xf (N4.af.k _ _ hdd (by simp)) hv ?_
          walk_at "kn"
          rename_i p5 H5 N5
          exact k p5 H5 N5.af (N5.tup 0 rfl)
      · walk_at "kn"
        refine g_isZ ko (b := false) (hd _ N.af) (fun u h => h) ko.k1 ?_
        walk_at "kn"
        refine g_isZ ko (b := false) (hd _ N.af) (fun u h => h) ko.k2 ?_
        walk_at "kn"
        refine g_isZ ko (b := false) (hd _ N.af) (fun u h => h) ko.k3 ?_
        walk_at "kn"
        refine g_isZ ko (b := false) (hd _ N.af) (fun u h => h) ko.k4 ?_
        walk_at "kn"
        refine g_isZ ko (b := true) (hd _ (Now.af (K := K) (by assumption))) (fun u h => h) ko.k5 ?_
        walk_at "kn"
        refine g_isZ ko (b := false) (hd _ (Now.af (K := K) (by assumption))) (fun u h => h) ko.k6 ?_
        walk_at "kn"
        rename_i p1 H1 N1 p2 H2 N2 p3 H3 N3 p4 H4 N4
        refine g_cntF (n := 1) (ys := [.bl false, .bl false, .bl false, .bl false, .bl true, .bl false]) (.of (N4.cell 1 rfl)) rfl rfl rfl ?_
        walk_at "kn"
        refine c_or (fun c => absurd (of_decide_eq_true c) (by simp)) (fun _ => ?_)
        walk_at "kn"
        refine g_isZ ko (b := true) (hd _ N4.af) (fun u h => h) ko.kv ?_
        walk_at "kn"
        refine g_idx (ys := [.bl false, .bl false, .bl false, .bl false, .bl true, .bl false]) (z := .bl true) 4 (.of (N4.cell 1 rfl)) rfl rfl rfl rfl ?_ ?_
        · intro m z' hm hz
          have : m = 0 ∨ m = 1 ∨ m = 2 ∨ m = 3 := by omega
          rcases this with rfl | rfl | rfl | rfl <;> (cases hz; rfl)
        · walk_at "kn"
          refine k_eqStr (by decide) ?_
          walk_at "kn"
          refine k_xf ?_
          walk_at "kn"
          refine g_xf (N4.af.k _ _ hdd (by simp)) hv ?_
          walk_at "kn"
          rename_i p5 H5 N5
          exact k p5 H5 N5.af (N5.tup 0 rfl)
      · walk_at "kn"
        refine g_isZ ko (b := false) (hd _ N.af) (fun u h => h) ko.k1 ?_
        walk_at "kn"
        refine g_isZ ko (b := false) (hd _ N.af) (fun u h => h) ko.k2 ?_
        walk_at "kn"
        refine g_isZ ko (b := false) (hd _ N.af) (fun u h => h) ko.k3 ?_
        walk_at "kn"
        refine g_isZ ko (b := false) (hd _ N.af) (fun u h => h) ko.k4 ?_
        walk_at "kn"
        refine g_isZ ko (b := false) (hd _ (Now.af (K := K) (by assumption))) (fun u h => h) ko.k5 ?_
        walk_at "kn"
        refine g_isZ ko (b := true) (hd _ (Now.af (K := K) (by assumption))) (fun u h => h) ko.k6 ?_
        walk_at "kn"
        rename_i p1 H1 N1 p2 H2 N2 p3 H3 N3 p4 H4 N4
        refine g_cntF (n := 1) (ys := [.bl false, .bl false, .bl false, .bl false, .bl false, .bl true]) (.of (N4.cell 1 rfl)) rfl rfl rfl ?_
        walk_at "kn"
        refine c_or (fun c => absurd (of_decide_eq_true c) (by simp)) (fun _ => ?_)
        walk_at "kn"
        refine g_isZ ko (b := true) (hd _ N4.af) (fun u h => h) ko.kv ?_
        walk_at "kn"
        refine g_idx (ys := [.bl false, .bl false, .bl false, .bl false, .bl false, .bl true]) (z := .bl true) 5 (.of (N4.cell 1 rfl)) rfl rfl rfl rfl ?_ ?_
        · intro m z' hm hz
          have : m = 0 ∨ m = 1 ∨ m = 2 ∨ m = 3 ∨ m = 4 := by omega
          rcases this with rfl | rfl | rfl | rfl | rfl <;> (cases hz; rfl)
        · walk_at "kn"
          refine k_eqStr (by decide) ?_
          walk_at "kn"
          refine k_eqStr (by decide) ?_
          walk_at "kn"
          refine k_xf ?_
          walk_at "kn"
          refine g_xf (N4.af.k _ _ hdd (by simp)) hv ?_
          walk_at "kn"
          rename_i p5 H5 N5
          exact k p5 H5 N5.af (N5.tup 0 rfl)
end
section
variable {c1 c2 c3 c4 c5 c6 cb : Addr}
theorem told_gives {X : Cx} (B : Bt X.mg) (Kn : Kin X.mg c1 c2 c3 c4 c5 c6 cb) (KX : KinX X.K c1 c5 c6) {g : Addr} {cdg : Value} {q : Str} : LamX.GivesTo X N_told "_law_told" (defScope s_l_told) g cdg (defBody s_l_told) "_law_work" q (TToldX X.K c1 c2 c3 c4 c5 c6 cb) := by
  obtain ⟨prog, w, K, mg, base, A, N, s_0, H_0, env, outer, stack, ex, fn, calm, pn0, xe0⟩ := X
  replace Kn : Kin mg c1 c2 c3 c4 c5 c6 cb := Kn
  replace B : Bt mg := B
  replace KX : KinX K c1 c5 c6 := KX
  intro f c' s H Q tl act hc h
  obtain ⟨ts, hs1, hs2⟩ := told_suite (prog := prog) (w := w) (K := K) (base := base) (A := A) (stack := stack) (s := s) (H := H) (g := g) (cdg := cdg) B Kn KX
  refine ⟨_, pss_one (ps_try_as (X := (cxOf C8.CX0 prog w K mg base N_told "_law_told" (defScope s_l_told) g cdg A stack s H C8.E0).nox) (x := "BitsError") (n := "e") (c := .ref cb) (i := 1) (ts := ts)
      (tb := fun W D σ H => ∃ Ech : XK, (∀ cls d σ' H', Ech cls d H' → σ'.length = 5 → W cls d σ' H') ∧ σ[0]? = some (some (.ref f)) ∧ H c' = some (LamX.CodeO c' q) ∧ tl Ech H D.rt) (Wout := fun _ _ _ _ => False)
      rfl rfl sc_l_told.nd rfl rfl ⟨rfl, by decide, .inl Kn.gb⟩ LamX.takes0 (fun W pn xe tk _ => ?_) hs1), ?_⟩
  · refine ⟨fun pins s' σ H' D I h' => ?_⟩
    obtain ⟨Ech, hW, h1, h2, h3⟩ := h'
    exact (pss_one (ps_ret (act _ pn xe Ech _ _ (takes_len tk) hW))).run pins s' σ H' D I ⟨h1, h2, h3⟩
  · refine ⟨_, fun cls d σ' H' h hl => ?_, rfl, hc, h⟩
    obtain ⟨xs, hR, k⟩ := h
    obtain ⟨D, n, e1, ko, hR'⟩ := id hR
    subst e1
    exact ⟨true, ko.m, fun _ a _ => hs2 (.ref D) d a σ' H' _ xs hR hl k, fun z => by cases z⟩
end
/-! ### cells that are only read -/
section
variable {K : PySem.W.Frag} {D : Option Addr} {M : List Addr} {H0 H H1 : Hp} {l : List Cel} {ts : List (Addr × List V)} {p : Addr} {xs : List V} {v : V} {Q : VK}
theorem Now.roB (N : Now K D M H0 H l ts) (hw : ∀ c ∈ l, c.w = false) : Now K none [] H H l ts :=
  .start N.nd (fun c hc => ⟨N.at_ c hc, N.mu c hc, fun z => by rw [hw c hc] at z; cases z⟩) N.tp (by simp)
theorem Now.mkro (N : Now K D M H0 H l ts) : Now K none [] H H (l.map Cel.ro) ts :=
  Now.read (M := []) N.ok N.tp
theorem Now.extR (N : Now K D M H0 H l ts) (hw : ∀ c ∈ l, c.w = false) (e : LamX.ExtN H H1) : Now K none [] H1 H1 l ts :=
  .start N.nd (fun c hc => ⟨e _ _ (N.at_ c hc) (fun ps z => by
      have m := N.mu c hc
      rw [z] at m
      exact m), N.mu c hc, fun z => by rw [hw c hc] at z; cases z⟩) (fun p hp => e _ _ (N.tp p hp) (fun ps z => by cases z)) (by simp)
theorem Now.dropR {r : List Cel} (N : Now K D M H0 H (l ++ r) ts) : Now K D M H0 H l ts := N.sub _ (fun c hc => List.mem_append_left _ hc) (((List.sublist_append_left l r).map Cel.a).nodup N.nd)
theorem Now.rb (N : Now K D M H0 H l ts) : Now K D M H0 H l ts := N
theorem Now.roT {o : HO} (N : Now K D M H0 H (⟨true, p, o⟩ :: l) ts) (hw : ∀ c ∈ l, c.w = false) : Now K none [] H H (⟨false, p, o⟩ :: l) ts :=
  .start N.nd (fun c hc => by
    rcases List.mem_cons.mp hc with e | hc
    · subst e
      exact ⟨N.at_ ⟨true, p, o⟩ List.mem_cons_self, N.mu ⟨true, p, o⟩ List.mem_cons_self, fun z => by cases z⟩
    · exact ⟨N.at_ c (List.mem_cons_of_mem _ hc), N.mu c (List.mem_cons_of_mem _ hc), fun z => by rw [hw c hc] at z; cases z⟩) N.tp (by simp)
theorem Now.drop2 {c0 c1 c2 : Cel} {f2 f3 : List Cel} (N : Now K D M H0 H (c0 :: c1 :: c2 :: (f2 ++ f3)) ts) : Now K D M H0 H (c1 :: c2 :: f3) ts := by
  have sl : (c1 :: c2 :: f3).Sublist (c0 :: c1 :: c2 :: (f2 ++ f3)) := ((((List.sublist_append_right f2 f3).cons_cons c2).cons_cons c1)).cons c0
  exact N.sub _ (fun c hc => sl.subset hc) ((sl.map Cel.a).nodup N.nd)
theorem Now.mix {c : Cel} {dc r : List Cel} (N : Now K D M H0 H (dc ++ (c :: r)) ts) : Now K D M H0 H (c :: (r ++ dc)) ts := N.perm (by
  rw [← List.cons_append]
  exact List.perm_append_comm)
end
theorem first_bad {p : Nat → Prop} : ∀ n : Nat, (∀ i, i < n → p i) ∨ ∃ j, j < n ∧ (∀ i, i < j → p i) ∧ ¬ p j
  | 0 => .inl fun i h => absurd h (Nat.not_lt_zero i)
  | n + 1 => by
    rcases first_bad (p := p) n with h | ⟨j, h1, h2⟩
    · by_cases q : p n
      · left
        intro i hi
        rcases Nat.lt_succ_iff_lt_or_eq.mp hi with z | z
        · exact h i z
        · rw [z]
          exact q
      · exact .inr ⟨n, Nat.lt_succ_self n, h, q⟩
    · exact .inr ⟨j, Nat.lt_succ_of_lt h1, h2⟩
theorem HeldC.ro {R : Hp → Prop} {fc : List Cel} {TL : List (Addr × List V)} (h : HeldC R fc TL) : HeldC R (fc.map Cel.ro) TL := fun H hc hT => h H (fun c m => hc c.ro (List.mem_map.mpr ⟨c, m, rfl⟩)) hT
theorem ro_same : ∀ {l : List Cel}, (∀ c ∈ l, c.w = false) → l.map Cel.ro = l
  | [], _ => rfl
  | c :: l, h => by
    rw [List.map_cons, ro_same fun x hx => h x (List.mem_cons_of_mem _ hx)]
    have q := h c List.mem_cons_self
    obtain ⟨w, a, o⟩ := c
    cases q
    rfl
theorem ro_w {fc : List Cel} : ∀ c ∈ fc.map Cel.ro, c.w = false := fun c m => by
  obtain ⟨b, _, rfl⟩ := List.mem_map.mp m
  rfl
/-! what is told is no deep data -/
theorem dOk_num {m : Nat} (i : Int) : dOk m (.int i) := by cases m <;> trivial
theorem dOk_str {m : Nat} (z : Str) : dOk m (.str z) := by cases m <;> trivial
theorem dOk_none {m : Nat} : dOk m .none := by cases m <;> trivial
theorem tellX_dOk {m w l a : Int} (hw : w ≤ 16) (W : OW) (e : Ev) : dOk 2 (W.tellX m w l e) := by
  cases e with
  | send =>
    refine ⟨by simp, fun d hd => ?_⟩
    simp only [List.mem_cons, List.not_mem_nil, or_false] at hd
    rcases hd with rfl | rfl <;> exact dOk_num _
  | tell =>
    refine ⟨by simp, fun d hd => ?_⟩
    simp only [List.mem_cons, List.not_mem_nil, or_false] at hd
    rcases hd with rfl | rfl
    · exact dOk_num _
    · refine (dOk_ints (m := 0) ?_).2
      unfold OE.bits
      rw [List.length_map, List.length_range]
      omega
  | come n =>
    refine ⟨by simp, fun d hd => ?_⟩
    simp only [List.mem_cons, List.not_mem_nil, or_false] at hd
    rcases hd with rfl | rfl
    · exact dOk_num _
    · exact dOk_str _
  | hear j =>
    show dOk 2 (if W.low m w j then PyData.none else _)
    split
    · exact dOk_none
    · refine (dOk_ints (m := 1) ?_).1
      have := ofound_len W.m m w (W.tAt j).n (W.tAt j).bs hw
      omega
theorem tl_dOk {m w l a : Int} (hw : w ≤ 16) (es : List EvX) : ∀ i, ∀ d ∈ (OMach m w l a).tl es i, dOk 2 d
  | 0 => by
    intro d hd
    cases hd
  | i + 1 => by
    intro d hd
    rcases List.mem_append.mp hd with h | h
    · exact tl_dOk hw es i d h
    · cases List.mem_singleton.mp h
      generalize es[i]? = x
      match x with
      | none => exact dOk_none
      | some (.ev e) => exact tellX_dOk (a := a) hw _ e
      | some (.odd _ _ _) => exact dOk_none
theorem wr_dOk {m : Nat} : ∀ o, dOk m (wrD o)
  | none => dOk_none
  | some j => dOk_num _
theorem played_dOk {m w l a : Int} (hw : w ≤ 16) (es : List EvX) (i : Nat) (hi : i ≤ 1000) (o : Option Nat) : dOk 4 (.tuple [.list ((OMach m w l a).tl es i), wrD o]) := by
  refine ⟨by simp, fun d hd => ?_⟩
  simp only [List.mem_cons, List.not_mem_nil, or_false] at hd
  rcases hd with rfl | rfl
  · exact ⟨by rw [Mach.tl_len]; omega, tl_dOk hw es i⟩
  · exact wr_dOk _
theorem dp_played {K : PySem.W.Frag} {H : Hp} {t fl : Addr} {fv : List V} {o : Option Nat} {ds : List PyData} (h1 : H t = some (.tup [.ref fl, wrV o])) (h2 : H fl = some (.lst fv)) (h3 : DpAll K H fv ds) : Dp K H (.ref t) (.tuple [.list ds, wrD o]) :=
  .tup (.of h1) (.cons (.lst (.of h2) h3) (.cons (dp_wr o) .nil))
theorem dp_num {K : PySem.W.Frag} {H : Hp} {t : Addr} {z : Str} {i : Int} (h1 : H t = some (.tup [.str z, .int i])) : Dp K H (.ref t) (.tuple [.str z, .int i]) := .tup (.of h1) (.cons (.str z) (.cons (.int i) .nil))
theorem dOk_wnum {m : Nat} {z : Str} {i : Int} : dOk (m + 1) (.tuple [.str z, .int i]) := by
  refine ⟨by simp, fun d hd => ?_⟩
  simp only [List.mem_cons, List.not_mem_nil, or_false] at hd
  rcases hd with rfl | rfl
  · exact dOk_str _
  · exact dOk_num _
section
variable {P : Program} {w : World} {K : PySem.W.Frag} {mg : Str → Option Value} {base : Heap} {C5 TP c1 c2 c3 c4 c5 c6 cb : Addr}
theorem sc_law : FnScope ["_law_script", "_law_d", "_law_setting_here", "_law_events_here", "_law_some", "_law_due", "_law_handed", "_law_again", "_law_found"] ["_law_script"] (defScope s_law) := ⟨rfl, rfl, rfl, by decide +kernel, rfl, by decide +kernel, by decide +kernel⟩
theorem bd_law : Bd "law" "law" s_law ["_law_script"] := fun _ _ _ _ _ _ us hl => match us, hl with | [_], _ => rfl
def spLaw (K : PySem.W.Frag) (TP : Addr) : Sp := fun vs H Q _ => ∃ (a : Addr) (ns : List Int), vs = [.ref a] ∧ SqL K H a (ns.map V.int) ∧ ns.length ≤ 63 ∧ H TP = some (.tbl #[]) ∧ ∀ H', Q (.bl true) H'
theorem ok_law {f : Addr} {fd : FuncData} (F : FunD K "law" "law" (defArgs s_law) (defBody s_law) (defScope s_law) [] [] f fd) (B : Bt mg) (Kn : Kin mg c1 c2 c3 c4 c5 c6 cb) (KX : KinX K c1 c5 c6) (ko5 : Kof K c1 c2 c3 c4 c5 c6 cb c5 5) (HTB : ∀ c, fd.code = .ref c → LamX.TabB base mg c TP) (FT : Def K mg "_law_told" s_l_told)
    (c_l_dice : Cal P w K mg base CX0 1 "_law_dice" ["_law_script"] (spDice K)) (c_l_next : Cal P w K mg base CX0 1 "_law_next" ["_law_dice_here", "_law_many"] (spNext K)) (c_l_setting : Cal P w K mg base CX0 2 "_law_setting" ["_law_d"] (spSetting K)) (c_l_like : Cal P w K mg base CX0 6 "_law_like" ["_law_found", "_law_due"] (spLike K 5))
    (c_l_events : Cal P w K mg base CX0 4 "_law_events" ["_law_d", "_law_setting_here", "_law_most"] (spOEvents K)) (c_l_odd : Cal P w K mg base CX0 2 "_law_odd" ["_law_d", "_law_events_here"] (spOOdd K)) (c_l_played : Cal P w K mg base CX0 4 "_law_played" ["_law_setting_here", "_law_events_here"] (spOPlayX K))
    (c_played : Cal P w K mg base (L2.CX P w) 6 "played" ["setting", "events"] (spPlayX K c5)) : FnOk P w K mg base CX0 12 f fd ["_law_script"] (spLaw K TP) := by
  refine okC F sc_law (fun vs H Q E h => ?_) (fun c A outer s H vs Q E hcode hr h => ?_)
  · obtain ⟨a, ns, rfl, _⟩ := h
    rfl
  · obtain ⟨sc, ns, rfl, hS, hl, hTP, k⟩ := h
    have TB := HTB c hcode
    obtain ⟨gT, fdT, FT, hmT⟩ := FT.ex
    obtain ⟨ocT, odT, dVT, kVT, docT, pmT, anT, cdvT, ctT, oslT, rfl, lkT, hcT, _, _⟩ := id FT.ex
    have KT := FT.kp
    have bT := FT.bindsN bd_l_told
    refine law_core (q := (envOfC "law" (defScope s_law) s.heap.objs.size f (.ref c)).qual ++ "<lambda>") (PSs.nox (pss_cons (ps_set (i := 1) sc_law.nd rfl (by first | exact Or.inl rfl | exact Or.inr rfl) (pe_cal c_l_dice (hr.mono (by decide)) pass0 (pa_cons (pv 0) pa_nil)))
      (pss_cons (ps_set (i := 2) sc_law.nd rfl (by first | exact Or.inl rfl | exact Or.inr rfl) (pe_cal c_l_setting (hr.mono (by decide)) pass0 (pa_cons (pv 1) pa_nil)))
      (pss_cons (ps_set (i := 3) sc_law.nd rfl (by first | exact Or.inl rfl | exact Or.inr rfl) (pe_cal c_l_events (hr.mono (by decide)) pass0 (pa_cons (pv 1) (pa_cons (pv 2) (pa_cons (pe_ix (ix_listK K rfl) (pe_lst (pa_cons pe_int (pa_cons pe_int pa_nil))) (pe_cal c_l_next (hr.mono (by decide)) pass0 (pa_cons (pv 1) (pa_cons pe_int pa_nil))) (fun _ _ => rfl)) pa_nil)))))
      (pss_cons (ps_for PassesOwn.never rfl (pi_listK K rfl (pe_lst (pa_cons (pv 3) (pa_cons (pe_cal c_l_odd (hr.mono (by decide)) pass0 (pa_cons (pv 1) (pa_cons (pv 3) pa_nil))) (pa_cons (pv 3) pa_nil))))) (pg_name (i := 4) sc_law.nd rfl (by first | exact Or.inl rfl | exact Or.inr rfl))
      (pss_cons (ps_set (i := 5) sc_law.nd rfl (by first | exact Or.inl rfl | exact Or.inr rfl) (pe_cal c_l_played (hr.mono (by decide)) pass0 (pa_cons (pv 2) (pa_cons (pv 4) pa_nil))))
      (pss_cons (ps_set (i := 6) sc_law.nd rfl (by first | exact Or.inl rfl | exact Or.inr rfl) (pe_callTy (cr_lstSK K rfl) (by rfl) B.m_list (by decide +kernel) (pa_cons (pv 4) pa_nil)))
      (pss_one (ps_for PassesOwn.never rfl (pi_range1 (by rfl) B.m_range (pa_cons pe_int pa_nil)) (pg_name (i := 7) sc_law.nd rfl (by first | exact Or.inl rfl | exact Or.inr rfl))
      (pss_cons (ps_set (i := 8) sc_law.nd rfl (by first | exact Or.inl rfl | exact Or.inr rfl) (LamX.pe_lamcall (k := 6) (T := [(TP, _)]) (by rfl) hmT KT lkT hcT bT sc_l_told rfl (Or.inl rfl) (told_gives B Kn KX) TB rfl (List.mem_singleton.mpr rfl) (fun p hp _ => congrArg Prod.snd (List.mem_singleton.mp hp)) (hr.mono (by decide)) (show LamX.LamS (defScope s_law) _ from LamX.lamS_by (by decide +kernel)) rfl (fun _ _ _ _ _ => rfl) (fun A outer s H E f c hr2 => (pe_cal c_played (hr2.mono (by decide)) (passes_call (takes_of rfl rfl rfl rfl) (fun _ _ _ _ h => h)) (pa_cons (pv 2) (pa_cons (pv 6) pa_nil))))))
      (pss_cons (ps_if (PW.pt (pw_or (pt_cmpR (op_neDK K rfl hr.units) (pv 6) (pv 4) (nomark _)) (pw_or1 (pt_not (pt_val (pe_cal c_l_like (hr.mono (by decide)) pass0 (pa_cons (pv 8) (pa_cons (pe_ifExp (pt_val (pe_callB (call_isiQ K rfl) (by rfl) B.m_isinstance (by decide +kernel) (pa_cons (pv 5) (pa_cons (pe_bltn (v := .ty "int") (by rfl) B.m_int (by decide +kernel) rfl) pa_nil)))) (pe_tup (pa_cons pe_str (pa_cons (pv 5) pa_nil))) (pv 5)) pa_nil)))))))) (pss_one (ps_ret pe_bl)) pss_nil)
      (pss_one (ps_if (pt_not (pt_val (pe_callB (call_isiQ K rfl) (by rfl) B.m_isinstance (by decide +kernel) (pa_cons (pv 5) (pa_cons (pe_bltn (v := .ty "int") (by rfl) B.m_int (by decide +kernel) rfl) pa_nil))))) (pss_one (ps_expr (pe_bmK K rfl PySem.F.plainAttrs_list PySem.F.slot_list_append PySem.F.type_list_append mt_append (pe_ix (ix_tupK K rfl) (pv 8) pe_int (fun _ _ => rfl)) (pa_cons (pe_tup pa_nil) pa_nil)))) pss_nil)))))))))
      (pss_one (ps_ret pe_bl))))))) hS hTP (fun H Z D _ hSc hTZ kk => ?_) k
    walk_at "gon"
    refine ⟨sc, ns, rfl, hSc, hl, fun d H1 A1 hd D1 => ?_⟩
    have Z1 : TZ _ Z H1 := hTZ.aft0 A1
    have N1 : Now K (some d) [] H H1 [] [] := ⟨by simp, by simp, by simp, by simp, by simp, A1, fun e he => by cases he; exact ⟨D1, .inr hd, by simp⟩⟩
    walk_at "kn"
    refine ⟨d, rfl, (N1.dc d rfl).1, fun st m w l a H2 A2 D2 ht hok => ?_⟩
    have hok' := hok
    unfold OkS at hok'
    have N2 := (N1.roll A2 D2).moreT ht
    clear N1 Z1
    walk_at "kn"
    rename_i p1 H3 N3 v1 H4 N4 b1 b2 v2 hv
    clear N3 N2
    refine ⟨d, st, m, w, l, a, v2, rfl, (N4.dc d rfl).1, N4.tup 0 rfl, hok, by omega, fun L0 lv0 es0 H5 hn5 A5 D5 hL5 hE5 _ hlen5 => ?_⟩
    have N5 := Now.grow N4 (N4.roll A5 D5) (fun _ h => .inl h) hn5 hL5 trivial
    clear N4
    have hX0 := evs_x hE5
    have hl0 : (es0.map EvX.ev).length ≤ 300 := by rw [List.length_map]; omega
    generalize es0.map EvX.ev = ex0 at *
    clear hE5 hlen5
    walk_at "kn"
    refine ⟨d, L0, lv0, ex0, rfl, (N5.dc d rfl).1, N5.cell 0 rfl, fun z => (N5.dc d rfl).2.2 (by rw [z]; simp), hX0, hl0, fun L1 lv1 ex1 H6 hn6 A6 D6 hL6 hX1 hl1 => ?_⟩
    have N6 := Now.grow N5 (N5.roll A6 D6) (fun _ h => .inl h) hn6 hL6 trivial
    obtain ⟨TE0, t01, t02⟩ := (hX0.keep A6).held
    obtain ⟨TE1, t11, t12⟩ := hX1.held
    have N7 := (N6.addTs t01).addTs t11
    clear N6 N5
    walk_at "kn"
    rename_i FL H8 N8
    have Z8 : TZ _ Z H8 := hTZ.aft0 N8.af
    generalize hTS : (st, StV m w l a) :: (TE0 ++ TE1) = TS at *
    have NB : Now K none [] H8 H8 [⟨false, L0, .lst lv0⟩, ⟨false, L1, .lst lv1⟩, ⟨false, FL, .lst [.ref L0, .ref L1, .ref L0]⟩] TS := ((N8.sel [2, 1, 0] (l' := [⟨true, L0, .lst lv0⟩, ⟨true, L1, .lst lv1⟩, ⟨true, FL, .lst [.ref L0, .ref L1, .ref L0]⟩]) rfl (by decide)).subT TS (by rw [← hTS]; intro p hp; simp only [List.mem_cons, List.mem_append] at hp ⊢; rcases hp with h | h | h <;> simp [h])).mkro
    have hst : ∀ H' : Hp, (∀ p ∈ TS, H' p.1 = some (.tup p.2)) → H' st = some (.tup (StV m w l a)) := fun H' h => h (st, StV m w l a) (by rw [← hTS]; simp)
    have hx0 : ∀ H' : Hp, (∀ p ∈ TS, H' p.1 = some (.tup p.2)) → EvXs H' lv0 ex0 := fun H' h => t02 H' fun p hp => h p (by rw [← hTS]; simp [hp])
    have hx1 : ∀ H' : Hp, (∀ p ∈ TS, H' p.1 = some (.tup p.2)) → EvXs H' lv1 ex1 := fun H' h => t12 H' fun p hp => h p (by rw [← hTS]; simp [hp])
    have sim := sim_x hok
    have hw16 : w ≤ 16 := by omega
    clear N8 N7 t01 t02 t11 t12 hTZ hTS
    refine c_for (xs := [.ref L0, .ref L1, .ref L0]) (fun j σ H' => ∃ (x4 x5 x6 x7 x8 : Option V), σ = [some (.ref sc), some (.ref d), some (.ref st), some (.ref L0), x4, x5, x6, x7, x8] ∧ Now K none [] H' H' [⟨false, L0, .lst lv0⟩, ⟨false, L1, .lst lv1⟩, ⟨false, FL, .lst [.ref L0, .ref L1, .ref L0]⟩] TS ∧ TZ [(TP, (envOfC "law" (defScope s_law) s.heap.objs.size f (.ref c)).qual ++ "<lambda>")] Z H') ⟨_, _, _, _, _, rfl, NB, Z8⟩ (fun j σ H' _ ⟨_, _, _, _, _, _, N', _⟩ => .of (N'.cell 2 rfl)) ?_ ?_
    · clear NB Z8
      rintro j x σ H7 hx ⟨_, _, _, _, _, rfl, NB, Zn⟩
      obtain ⟨Lx, lvx, esx, R2, rfl, NX, hR2, back, hEx, hlx⟩ : ∃ (Lx : Addr) (lvx : List V) (esx : List EvX) (R2 : List Cel), x = .ref Lx ∧ Now K none [] H7 H7 (⟨false, Lx, .lst lvx⟩ :: R2) TS ∧ (∀ c ∈ R2, c.w = false) ∧ (∀ H', Now K none [] H' H' (⟨false, Lx, .lst lvx⟩ :: R2) TS → Now K none [] H' H' [⟨false, L0, .lst lv0⟩, ⟨false, L1, .lst lv1⟩, ⟨false, FL, .lst [.ref L0, .ref L1, .ref L0]⟩] TS) ∧
          (∀ H' : Hp, (∀ p ∈ TS, H' p.1 = some (.tup p.2)) → EvXs H' lvx esx) ∧ esx.length ≤ 500 := by
        have y0 : Now K none [] H7 H7 (⟨false, L0, .lst lv0⟩ :: [⟨false, L1, .lst lv1⟩, ⟨false, FL, .lst [.ref L0, .ref L1, .ref L0]⟩]) TS := NB
        have y1 : Now K none [] H7 H7 (⟨false, L1, .lst lv1⟩ :: [⟨false, L0, .lst lv0⟩, ⟨false, FL, .lst [.ref L0, .ref L1, .ref L0]⟩]) TS := NB.sel [1, 0, 2] rfl (by decide)
        match j, hx with
        | 0, hx => cases hx; exact ⟨L0, lv0, ex0, _, rfl, y0, by simp, fun H' N => N, hx0, by omega⟩
        | 1, hx => cases hx; exact ⟨L1, lv1, ex1, _, rfl, y1, by simp, fun H' N => N.sel [1, 0, 2] rfl (by decide), hx1, hl1⟩
        | 2, hx => cases hx; exact ⟨L0, lv0, ex0, _, rfl, y0, by simp, fun H' N => N, hx0, by omega⟩
      have lvx' : lvx.length = esx.length := Paired.length (hEx _ NX.tp)
      clear NB hx
      walk_at "kn"
      refine ⟨st, Lx, m, w, l, a, lvx, esx, rfl, hst _ NX.tp, hok, NX.cell 0 rfl, hEx _ NX.tp, by omega, fun jj hp hl2 hn H8 A8 => ?_, fun hall t fl fv fc TL H8 A8 ht8 hTL hC => ?_⟩
      · have N8 := NX.pure A8
        have Z8 := Zn.aft0 A8
        walk_at "kn"
        rename_i Hd H9 N9
        have Z9 := Zn.aft0 N9.af
        have NC : Now K none [] H9 H9 (⟨false, Hd, .lst lvx⟩ :: ⟨false, Lx, .lst lvx⟩ :: R2) TS := N9.roT (by simpa using hR2)
        have hwC : ∀ c ∈ (⟨false, Hd, .lst lvx⟩ :: ⟨false, Lx, .lst lvx⟩ :: R2 : List Cel), c.w = false := by simpa using hR2
        clear N9 N8 NX Z8 Zn
        refine c_forR (by decide) (fun i σ H' => ∃ (x7 x8 : Option V), σ = [some (.ref sc), some (.ref d), some (.ref st), some (.ref L0), some (.ref Lx), some (.int (jj : Int)), some (.ref Hd), x7, x8] ∧ Now K none [] H' H' (⟨false, Hd, .lst lvx⟩ :: ⟨false, Lx, .lst lvx⟩ :: R2) TS ∧ TZ [(TP, (envOfC "law" (defScope s_law) s.heap.objs.size f (.ref c)).qual ++ "<lambda>")] Z H') ⟨_, _, rfl, NC, Z9⟩ ?_ ?_
        · clear NC Z9
          rintro i σ H10 hi ⟨_, _, rfl, N, Zn⟩
          walk_at "kn"
          refine k_lam Zn.t fun H11 eN T11 => k_toldx ?_
          have N12 := N.extR hwC eN
          have Z12 := Zn.ext eN T11
          clear N Zn
          walk_at "kn"
          refine ⟨st, Hd, m, w, l, a, lvx, esx, rfl, hst _ N12.tp, hok, N12.cell 0 rfl, hEx _ N12.tp, by omega, fun j2 hp2 hl3 hn2 dd H13 A13 hdd => ?_, fun hall2 => absurd ((sim.okx jj).mpr (hall2 jj hl2)) hn⟩
          have ej : j2 = jj := by
            rcases Nat.lt_trichotomy j2 jj with z | z | z
            · exact absurd ((sim.okx j2).mp (hp j2 z)) hn2
            · exact z
            · exact absurd ((sim.okx jj).mpr (hp2 jj z)) hn
          subst ej
          refine ⟨[.str "event", .int (j2 : Int)], ⟨c5, 5, rfl, ko5, .inr ⟨dd, _, .int (j2 : Int), rfl, hdd, rfl, .inr (.inl ⟨rfl, rfl, rfl⟩)⟩⟩, fun p H14 A14 hp14 => ?_⟩
          have N14 := ((N12.pure A13).pure A14).moreT hp14
          clear N12
          walk_at "kn"
          refine g_neEvx (.of (N14.cell 0 rfl)) (hEx _ fun p hp => N14.tp p (List.mem_cons_of_mem _ hp)) (.of (N14.cell 1 rfl)) ?_
          walk_at "kn"
          rename_i p2 H15 N15
          refine g_like (dp_num (N15.tup 1 rfl)) (dp_num (N15.tup 0 rfl)) (dOk_wnum (m := 3)) fun H16 A16 => ?_
          have N16 := N15.pure A16
          clear N14 N15
          walk_at "kn"
          have N17 := (N16.subT TS (fun p hp => by simp [hp])).roB hwC
          exact ⟨_, _, rfl, N17, Z12.aft0 N16.af⟩
        · clear NC Z9
          rintro σ H10 ⟨_, _, rfl, N, Zn⟩
          exact ⟨_, _, _, _, _, rfl, back _ N.tl.rb, Zn⟩
      · have N8 := (((Now.call (fp := []) (r := ⟨false, Lx, .lst lvx⟩ :: R2) NX (by simp) A8).mkro).addTs hTL).moreT ht8
        have Z8 := Zn.aft0 A8.af
        have eR : ((⟨true, fl, .lst fv⟩ :: fc) ++ (⟨false, Lx, .lst lvx⟩ :: R2)).map Cel.ro = ((⟨true, fl, .lst fv⟩ :: fc).map Cel.ro) ++ (⟨false, Lx, .lst lvx⟩ :: R2) := by
          rw [List.map_append]
          exact congrArg _ (ro_same (by simpa using hR2))
        rw [eR] at N8
        have hdc : ∀ c ∈ ((⟨true, fl, .lst fv⟩ :: fc).map Cel.ro), c.w = false := ro_w
        have dueDp : ∀ H' : Hp, (∀ c ∈ ((⟨true, fl, .lst fv⟩ :: fc).map Cel.ro), H' c.a = some c.o) → H' t = some (.tup [.ref fl, wrV ((OMach m w l a).wr esx esx.length)]) → (∀ p ∈ TL, H' p.1 = some (.tup p.2)) → Dp K H' (.ref t) (.tuple [.list ((OMach m w l a).tl esx esx.length), wrD ((OMach m w l a).wr esx esx.length)]) := fun H' h1 h2 h3 =>
          dp_played h2 (h1 ⟨false, fl, .lst fv⟩ List.mem_cons_self) (hC.ro H' (fun c hc => h1 c (List.mem_cons_of_mem _ hc)) h3)
        generalize (⟨true, fl, .lst fv⟩ :: fc : List Cel).map Cel.ro = dc at *
        have NY := Now.mix N8
        have hR3 : ∀ c ∈ R2 ++ dc, c.w = false := fun c hc => (List.mem_append.mp hc).elim (hR2 c) (hdc c)
        generalize hTS3 : (t, [.ref fl, wrV ((OMach m w l a).wr esx esx.length)]) :: (TS ++ TL) = TS3 at *
        have sT : ∀ p ∈ TS, p ∈ TS3 := fun p hp => by rw [← hTS3]; simp [hp]
        have sL : ∀ p ∈ TL, p ∈ TS3 := fun p hp => by rw [← hTS3]; simp [hp]
        have s1 : (t, [.ref fl, wrV ((OMach m w l a).wr esx esx.length)]) ∈ TS3 := by rw [← hTS3]; simp
        clear N8 eR NX
        walk_at "kn"
        rename_i Hd H9 N9
        have Z9 := Z8.aft0 N9.af
        have NC : Now K none [] H9 H9 (⟨false, Hd, .lst lvx⟩ :: ⟨false, Lx, .lst lvx⟩ :: (R2 ++ dc)) TS3 := N9.roT (by simpa using hR3)
        have hwC : ∀ c ∈ (⟨false, Hd, .lst lvx⟩ :: ⟨false, Lx, .lst lvx⟩ :: (R2 ++ dc) : List Cel), c.w = false := by simpa using hR3
        clear N9 NY Z8 Zn
        refine c_forR (by decide) (fun i σ H' => ∃ (x7 x8 : Option V), σ = [some (.ref sc), some (.ref d), some (.ref st), some (.ref L0), some (.ref Lx), some (.ref t), some (.ref Hd), x7, x8] ∧ Now K none [] H' H' (⟨false, Hd, .lst lvx⟩ :: ⟨false, Lx, .lst lvx⟩ :: (R2 ++ dc)) TS3 ∧ TZ [(TP, (envOfC "law" (defScope s_law) s.heap.objs.size f (.ref c)).qual ++ "<lambda>")] Z H') ⟨_, _, rfl, NC, Z9⟩ ?_ ?_
        · clear NC Z9
          rintro i σ H10 hi ⟨_, _, rfl, N, Zn⟩
          walk_at "kn"
          refine k_lam Zn.t fun H11 eN T11 => k_toldx ?_
          have N12 := N.extR hwC eN
          have Z12 := Zn.ext eN T11
          clear N Zn
          walk_at "kn"
          refine ⟨st, Hd, m, w, l, a, lvx, esx, rfl, hst _ (fun p hp => N12.tp p (sT p hp)), hok, N12.cell 0 rfl, hEx _ (fun p hp => N12.tp p (sT p hp)), by omega, fun j2 hp2 hl3 hn2 dd H13 A13 hdd => absurd ((sim.okx j2).mp (hall j2 hl3)) hn2, fun hall2 t2 fl2 fv2 fc2 TL2 H13 A13 ht13 hTL13 hC13 => ?_⟩
          rw [← sim.tl esx.length] at hC13
          rw [← sim.wr esx.length] at ht13
          have N13 : Now K none [] H11 H13 (⟨true, fl2, .lst fv2⟩ :: ⟨false, Hd, .lst lvx⟩ :: ⟨false, Lx, .lst lvx⟩ :: (fc2 ++ (R2 ++ dc))) _ := ((Now.sink2 (fp := [⟨true, fl2, .lst fv2⟩]) (f2 := fc2) (Now.call (fp := []) (fp' := [⟨true, fl2, .lst fv2⟩] ++ fc2) (r := ⟨false, Hd, .lst lvx⟩ :: ⟨false, Lx, .lst lvx⟩ :: (R2 ++ dc)) N12 (by simp) A13)).addTs hTL13).moreT ht13
          clear N12
          walk_at "kn"
          refine g_neEvx (.of (N13.cell 1 rfl)) (hEx _ fun p hp => N13.tp p (List.mem_cons_of_mem _ (List.mem_append_left _ (sT p hp)))) (.of (N13.cell 2 rfl)) ?_
          walk_at "kn"
          refine g_isi (a := "tuple") (r := false) (sqt_ty (.of (N13.tp _ (List.mem_cons_of_mem _ (List.mem_append_left _ s1))))) kb_ti ?_
          walk_at "kn"
          refine g_like (dp_played (N13.tup 0 rfl) (N13.cell 0 rfl) (hC13 _ (fun c hc => N13.at_ c (by simp [hc])) (fun p hp => N13.tp p (by simp [hp])))) (dueDp _ (fun c hc => N13.at_ c (by simp [hc])) (N13.tp _ (List.mem_cons_of_mem _ (List.mem_append_left _ s1))) (fun p hp => N13.tp p (List.mem_cons_of_mem _ (List.mem_append_left _ (sL p hp))))) (played_dOk (a := a) hw16 esx esx.length (by omega) _) fun H16 A16 => ?_
          have N16 := N13.pure A16
          clear N13
          walk_at "kn"
          refine g_isi (a := "tuple") (r := false) (sqt_ty (.of (N16.tp _ (List.mem_cons_of_mem _ (List.mem_append_left _ s1))))) kb_ti ?_
          walk_at "kn"
          rename_i u H17 N17
          clear N16
          have lf : fv2.length = esx.length := by
            have q := dpa_len (hC13 _ (fun c hc => (A13.at_ c (List.mem_cons_of_mem _ hc)).1) (fun p hp => hTL13 p hp))
            rw [q, Mach.tl_len]
          refine g_app0 N17 (by omega) fun H18 N18 => ?_
          have N19 := ((Now.drop2 N18).subT TS3 (fun p hp => by simp [hp])).roB hwC
          exact ⟨_, _, rfl, N19, Z12.aft0 N18.af⟩
        · clear NC Z9
          rintro σ H10 ⟨_, _, rfl, N, Zn⟩
          exact ⟨_, _, _, _, _, rfl, back _ ((Now.dropR (l := ⟨false, Lx, .lst lvx⟩ :: R2) (r := dc) N.tl).subT TS sT), Zn⟩
    · rintro σ H10 ⟨_, _, _, _, _, rfl, N, Zn⟩
      clear NB Z8
      walk_at "kn"
      exact kk _ Zn.z
end
theorem facts {P : Program} {w : World} {K : PySem.W.Frag} {h : Heap} {mg : Str → Option Value} {f : Addr} (X : K.In h) (G : h.Ns mainGlobals mg) (hfa : mg ("law" : Str) = some (.ref f)) (cx : xb K = true) (c : He.SaysD fa fn K) :
    ∃ fd : FuncData, (∀ (s : Shared) (v : Value), BindsTo s fd ⟨[v], []⟩ [("_law_script", v)]) ∧ ∀ base : Heap, K.In base → base.Ns mainGlobals mg → LamX.TabB base mg (He.cT K ("law", none)).1 (He.cT K ("law", none)).2 → FnOk P w K mg base CX0 12 f fd ["_law_script"] (spLaw K (He.cT K ("law", none)).2) := by
  have F_l_dice : Def K mg "_law_dice" s_l_dice := by
    obtain ⟨fd, F⟩ := c.def_ 0 (d := d_l_dice) rfl
    exact ⟨_, fd, F, He.glo_ok X G (c.fact 0 (f := .glo "_law_dice") rfl)⟩
  have F_l_next : Def K mg "_law_next" s_l_next := by
    obtain ⟨fd, F⟩ := c.def_ 1 (d := d_l_next) rfl
    exact ⟨_, fd, F, He.glo_ok X G (c.fact 1 (f := .glo "_law_next") rfl)⟩
  have F_need_setting : Def K mg "need_setting" s_need_setting := by
    obtain ⟨fd, F⟩ := c.def_ 2 (d := d_need_setting) rfl
    exact ⟨_, fd, F, He.glo_ok X G (c.fact 2 (f := .glo "need_setting") rfl)⟩
  have F_need_mark : Def K mg "need_mark" s_need_mark := by
    obtain ⟨fd, F⟩ := c.def_ 3 (d := d_need_mark) rfl
    exact ⟨_, fd, F, He.glo_ok X G (c.fact 3 (f := .glo "need_mark") rfl)⟩
  have F_need_bits : Def K mg "need_bits" s_need_bits := by
    obtain ⟨fd, F⟩ := c.def_ 4 (d := d_need_bits) rfl
    exact ⟨_, fd, F, He.glo_ok X G (c.fact 4 (f := .glo "need_bits") rfl)⟩
  have F_l_like : Def K mg "_law_like" s_l_like := by
    obtain ⟨fd, F⟩ := c.def_ 5 (d := d_l_like) rfl
    exact ⟨_, fd, F, He.glo_ok X G (c.fact 5 (f := .glo "_law_like") rfl)⟩
  have F_Ear_init : DefC K mg (He.ga K "Ear") "Ear" "Ear.__init__" s_Ear_init := by
    obtain ⟨fd, F⟩ := c.def_ 6 (d := d_Ear_init) rfl
    exact ⟨_, fd, F, He.mkr_ok (c.fact 50 (f := .mkr "Ear") rfl), He.glo_ok X G (c.fact 41 (f := .glo "Ear") rfl)⟩
  have F_Ear_taken : DefM K (He.ga K "Ear") "taken" "Ear.taken" s_Ear_taken := by
    obtain ⟨fd, F⟩ := c.def_ 7 (d := d_Ear_taken) rfl
    exact ⟨_, fd, F, He.meth_ok (c.fact 72 (f := .meth "Ear" "taken") rfl)⟩
  have F_Ear_come : DefM K (He.ga K "Ear") "come" "Ear.come" s_Ear_come := by
    obtain ⟨fd, F⟩ := c.def_ 8 (d := d_Ear_come) rfl
    exact ⟨_, fd, F, He.meth_ok (c.fact 73 (f := .meth "Ear" "come") rfl)⟩
  have F_Ear_tell : DefM K (He.ga K "Ear") "tell" "Ear.tell" s_Ear_tell := by
    obtain ⟨fd, F⟩ := c.def_ 9 (d := d_Ear_tell) rfl
    exact ⟨_, fd, F, He.meth_ok (c.fact 74 (f := .meth "Ear" "tell") rfl)⟩
  have F_Ear_last : DefM K (He.ga K "Ear") "last" "Ear.last" s_Ear_last := by
    obtain ⟨fd, F⟩ := c.def_ 10 (d := d_Ear_last) rfl
    exact ⟨_, fd, F, He.meth_ok (c.fact 75 (f := .meth "Ear" "last") rfl)⟩
  have F_Mouth_init : DefC K mg (He.ga K "Mouth") "Mouth" "Mouth.__init__" s_Mouth_init := by
    obtain ⟨fd, F⟩ := c.def_ 11 (d := d_Mouth_init) rfl
    exact ⟨_, fd, F, He.mkr_ok (c.fact 61 (f := .mkr "Mouth") rfl), He.glo_ok X G (c.fact 51 (f := .glo "Mouth") rfl)⟩
  have F_Mouth_is_full : DefM K (He.ga K "Mouth") "is_full" "Mouth.is_full" s_Mouth_is_full := by
    obtain ⟨fd, F⟩ := c.def_ 12 (d := d_Mouth_is_full) rfl
    exact ⟨_, fd, F, He.meth_ok (c.fact 76 (f := .meth "Mouth" "is_full") rfl)⟩
  have F_Mouth_send : DefM K (He.ga K "Mouth") "send" "Mouth.send" s_Mouth_send := by
    obtain ⟨fd, F⟩ := c.def_ 13 (d := d_Mouth_send) rfl
    exact ⟨_, fd, F, He.meth_ok (c.fact 77 (f := .meth "Mouth" "send") rfl)⟩
  have F_Mouth_hear : DefM K (He.ga K "Mouth") "hear" "Mouth.hear" s_Mouth_hear := by
    obtain ⟨fd, F⟩ := c.def_ 14 (d := d_Mouth_hear) rfl
    exact ⟨_, fd, F, He.meth_ok (c.fact 78 (f := .meth "Mouth" "hear") rfl)⟩
  have F_Mouth_last : DefM K (He.ga K "Mouth") "last" "Mouth.last" s_Mouth_last := by
    obtain ⟨fd, F⟩ := c.def_ 15 (d := d_Mouth_last) rfl
    exact ⟨_, fd, F, He.meth_ok (c.fact 79 (f := .meth "Mouth" "last") rfl)⟩
  have F_Mouth_sure : DefM K (He.ga K "Mouth") "sure" "Mouth.sure" s_Mouth_sure := by
    obtain ⟨fd, F⟩ := c.def_ 16 (d := d_Mouth_sure) rfl
    exact ⟨_, fd, F, He.meth_ok (c.fact 80 (f := .meth "Mouth" "sure") rfl)⟩
  have F_World_init : DefC K mg (He.ga K "World") "World" "World.__init__" s_World_init := by
    obtain ⟨fd, F⟩ := c.def_ 17 (d := d_World_init) rfl
    exact ⟨_, fd, F, He.mkr_ok (c.fact 69 (f := .mkr "World") rfl), He.glo_ok X G (c.fact 62 (f := .glo "World") rfl)⟩
  have F_World_is_due : DefM K (He.ga K "World") "is_due" "World.is_due" s_World_is_due := by
    obtain ⟨fd, F⟩ := c.def_ 18 (d := d_World_is_due) rfl
    exact ⟨_, fd, F, He.meth_ok (c.fact 81 (f := .meth "World" "is_due") rfl)⟩
  have F_World_can : DefM K (He.ga K "World") "can" "World.can" s_World_can := by
    obtain ⟨fd, F⟩ := c.def_ 19 (d := d_World_can) rfl
    exact ⟨_, fd, F, He.meth_ok (c.fact 82 (f := .meth "World" "can") rfl)⟩
  have F_World_do : DefM K (He.ga K "World") "do" "World.do" s_World_do := by
    obtain ⟨fd, F⟩ := c.def_ 20 (d := d_World_do) rfl
    exact ⟨_, fd, F, He.meth_ok (c.fact 83 (f := .meth "World" "do") rfl)⟩
  have F_World_heard : DefM K (He.ga K "World") "heard" "World.heard" s_World_heard := by
    obtain ⟨fd, F⟩ := c.def_ 21 (d := d_World_heard) rfl
    exact ⟨_, fd, F, He.meth_ok (c.fact 84 (f := .meth "World" "heard") rfl)⟩
  have F_played : Def K mg "played" s_played := by
    obtain ⟨fd, F⟩ := c.def_ 22 (d := d_played) rfl
    exact ⟨_, fd, F, He.glo_ok X G (c.fact 6 (f := .glo "played") rfl)⟩
  have F_BadEvent_init : DefX K mg (He.ga K "BadEvent") "BadEvent" "BadEvent.__init__" s_BadEvent_init := by
    obtain ⟨fd, F⟩ := c.def_ 23 (d := d_BadEvent_init) rfl
    exact ⟨⟨_, fd, F, He.meth_ok (c.fact 71 (f := .meth "BadEvent" "__init__") rfl)⟩, He.glo_ok X G (c.fact 70 (f := .glo "BadEvent") rfl)⟩
  have F_l_setting : Def K mg "_law_setting" s_l_setting := by
    obtain ⟨fd, F⟩ := c.def_ 24 (d := d_l_setting) rfl
    exact ⟨_, fd, F, He.glo_ok X G (c.fact 7 (f := .glo "_law_setting") rfl)⟩
  have F_l_ear : Def K mg "_law_ear" s_l_ear := by
    obtain ⟨fd, F⟩ := c.def_ 25 (d := d_l_ear) rfl
    exact ⟨_, fd, F, He.glo_ok X G (c.fact 8 (f := .glo "_law_ear") rfl)⟩
  have F_l_taken : Def K mg "_law_taken" s_l_taken := by
    obtain ⟨fd, F⟩ := c.def_ 26 (d := d_l_taken) rfl
    exact ⟨_, fd, F, He.glo_ok X G (c.fact 9 (f := .glo "_law_taken") rfl)⟩
  have F_l_come : Def K mg "_law_come" s_l_come := by
    obtain ⟨fd, F⟩ := c.def_ 27 (d := d_l_come) rfl
    exact ⟨_, fd, F, He.glo_ok X G (c.fact 10 (f := .glo "_law_come") rfl)⟩
  have F_l_tell : Def K mg "_law_tell" s_l_tell := by
    obtain ⟨fd, F⟩ := c.def_ 28 (d := d_l_tell) rfl
    exact ⟨_, fd, F, He.glo_ok X G (c.fact 11 (f := .glo "_law_tell") rfl)⟩
  have F_l_mouth : Def K mg "_law_mouth" s_l_mouth := by
    obtain ⟨fd, F⟩ := c.def_ 29 (d := d_l_mouth) rfl
    exact ⟨_, fd, F, He.glo_ok X G (c.fact 12 (f := .glo "_law_mouth") rfl)⟩
  have F_l_is_full : Def K mg "_law_is_full" s_l_is_full := by
    obtain ⟨fd, F⟩ := c.def_ 30 (d := d_l_is_full) rfl
    exact ⟨_, fd, F, He.glo_ok X G (c.fact 13 (f := .glo "_law_is_full") rfl)⟩
  have F_l_hear : Def K mg "_law_hear" s_l_hear := by
    obtain ⟨fd, F⟩ := c.def_ 31 (d := d_l_hear) rfl
    exact ⟨_, fd, F, He.glo_ok X G (c.fact 14 (f := .glo "_law_hear") rfl)⟩
  have F_l_world : Def K mg "_law_world" s_l_world := by
    obtain ⟨fd, F⟩ := c.def_ 32 (d := d_l_world) rfl
    exact ⟨_, fd, F, He.glo_ok X G (c.fact 15 (f := .glo "_law_world") rfl)⟩
  have F_l_can : Def K mg "_law_can" s_l_can := by
    obtain ⟨fd, F⟩ := c.def_ 33 (d := d_l_can) rfl
    exact ⟨_, fd, F, He.glo_ok X G (c.fact 16 (f := .glo "_law_can") rfl)⟩
  have F_l_do : Def K mg "_law_do" s_l_do := by
    obtain ⟨fd, F⟩ := c.def_ 34 (d := d_l_do) rfl
    exact ⟨_, fd, F, He.glo_ok X G (c.fact 17 (f := .glo "_law_do") rfl)⟩
  have F_l_event : Def K mg "_law_event" s_l_event := by
    obtain ⟨fd, F⟩ := c.def_ 35 (d := d_l_event) rfl
    exact ⟨_, fd, F, He.glo_ok X G (c.fact 18 (f := .glo "_law_event") rfl)⟩
  have F_l_events : Def K mg "_law_events" s_l_events := by
    obtain ⟨fd, F⟩ := c.def_ 36 (d := d_l_events) rfl
    exact ⟨_, fd, F, He.glo_ok X G (c.fact 19 (f := .glo "_law_events") rfl)⟩
  have F_l_played : Def K mg "_law_played" s_l_played := by
    obtain ⟨fd, F⟩ := c.def_ 37 (d := d_l_played) rfl
    exact ⟨_, fd, F, He.glo_ok X G (c.fact 20 (f := .glo "_law_played") rfl)⟩
  have F_l_odd : Def K mg "_law_odd" s_l_odd := by
    obtain ⟨fd, F⟩ := c.def_ 38 (d := d_l_odd) rfl
    exact ⟨_, fd, F, He.glo_ok X G (c.fact 21 (f := .glo "_law_odd") rfl)⟩
  have F_l_told : Def K mg "_law_told" s_l_told := by
    obtain ⟨fd, F⟩ := c.def_ 39 (d := d_l_told) rfl
    exact ⟨_, fd, F, He.glo_ok X G (c.fact 22 (f := .glo "_law_told") rfl)⟩
  obtain ⟨fdL, F_law⟩ := c.def_ 40 (d := d_law) rfl
  cases hfa.symm.trans (He.glo_ok X G (c.fact 23 (f := .glo "law") rfl))
  have B : Bt mg := ⟨He.free_ok X G (c.fact 24 (f := .free "len") rfl), He.free_ok X G (c.fact 25 (f := .free "int") rfl), He.free_ok X G (c.fact 26 (f := .free "isinstance") rfl), He.free_ok X G (c.fact 27 (f := .free "range") rfl), He.free_ok X G (c.fact 28 (f := .free "sorted") rfl), He.free_ok X G (c.fact 29 (f := .free "list") rfl), He.free_ok X G (c.fact 30 (f := .free "tuple") rfl), He.free_ok X G (c.fact 31 (f := .free "max") rfl), He.free_ok X G (c.fact 32 (f := .free "min") rfl), He.free_ok X G (c.fact 33 (f := .free "set") rfl), He.free_ok X G (c.fact 34 (f := .free "str") rfl), He.free_ok X G (c.fact 35 (f := .free "enumerate") rfl), He.free_ok X G (c.fact 36 (f := .free "bool") rfl), He.free_ok X G (c.fact 37 (f := .free "dict") rfl)⟩
  unfold xb at cx
  obtain ⟨cx_LEAST, cx⟩ := He.ba cx
  obtain ⟨cx_MOST, cx⟩ := He.ba cx
  obtain ⟨ck_BadBits, cx⟩ := He.ba cx
  obtain ⟨co_BadEvent, cx⟩ := He.ba cx
  obtain ⟨cy_base, cx⟩ := He.ba cx
  obtain ⟨cy_kx, cx⟩ := He.ba cx
  obtain ⟨cy_oex, cx⟩ := He.ba cx
  have cy_exm := cx
  have Kn : Kin mg (He.ga K "BadSetting") (He.ga K "BadMark") (He.ga K "BadBits") (He.ga K "Full") (He.ga K "BadEvent") (He.ga K "BadText") (He.ga K "BitsError") := ⟨He.glo_ok X G (c.fact 85 (f := .glo "BadSetting") rfl), He.glo_ok X G (c.fact 86 (f := .glo "BadMark") rfl), He.glo_ok X G (c.fact 87 (f := .glo "BadBits") rfl), He.glo_ok X G (c.fact 88 (f := .glo "Full") rfl), He.glo_ok X G (c.fact 89 (f := .glo "BadEvent") rfl), He.glo_ok X G (c.fact 90 (f := .glo "BadText") rfl), He.glo_ok X G (c.fact 91 (f := .glo "BitsError") rfl), He.free_ok X G (c.fact 92 (f := .free "ValueError") rfl)⟩
  have T_BadBits : ExK K mg "BadBits" (He.ga K "BadBits") := exKB_ok Kn.g3 ck_BadBits
  have ko_BadEvent := kofB_ok co_BadEvent
  have BI : BaseI K mg "BitsError" (He.ga K "BitsError") := baseIB_ok Kn.gb cy_base
  have KX := kinXB_ok cy_kx
  have OX := oexB_ok cy_oex
  have hmB := of_decide_eq_true cy_exm
  have htab : ∀ c', fdL.code = .ref c' → (He.cT K ("law", none)).1 = c' := fun c' e => by
    obtain ⟨oc, od, dV, kV, doc, pm, an, cdv, ct, osl, hfd, lk, _, _, _⟩ := id F_law.ex
    exact He.codeOf_eq lk e
  have g_MOST_EVENTS := He.int_ok X G (c.fact 40 (f := .int "MOST_EVENTS" 400) rfl)
  have C_LEAST : Cst K mg "LEAST" (He.ga K "LEAST") [.int 2, .int 0, .int 0, .int 1] := ⟨He.glo_ok X G (c.fact 38 (f := .glo "LEAST") rfl), fun H => He.tupB_ok cx_LEAST H⟩
  have C_MOST : Cst K mg "MOST" (He.ga K "MOST") [.int 64, .int 16, .int 8, .int 16] := ⟨He.glo_ok X G (c.fact 39 (f := .glo "MOST") rfl), fun H => He.tupB_ok cx_MOST H⟩
  have cl_Ear : Cls K (He.ga K "Ear") := He.cls_ok (c.fact 42 (f := .cls "Ear") rfl)
  have na_Ear_marks : NoAttr K (He.ga K "Ear") "marks" := He.noat_ok (c.fact 43 (f := .noat "Ear" "marks") rfl)
  have na_Ear_wide : NoAttr K (He.ga K "Ear") "wide" := He.noat_ok (c.fact 44 (f := .noat "Ear" "wide") rfl)
  have na_Ear_late : NoAttr K (He.ga K "Ear") "late" := He.noat_ok (c.fact 45 (f := .noat "Ear" "late") rfl)
  have na_Ear_ahead : NoAttr K (He.ga K "Ear") "ahead" := He.noat_ok (c.fact 46 (f := .noat "Ear" "ahead") rfl)
  have na_Ear_setting : NoAttr K (He.ga K "Ear") "setting" := He.noat_ok (c.fact 47 (f := .noat "Ear" "setting") rfl)
  have na_Ear_newest : NoAttr K (He.ga K "Ear") "newest" := He.noat_ok (c.fact 48 (f := .noat "Ear" "newest") rfl)
  have na_Ear_met : NoAttr K (He.ga K "Ear") "met" := He.noat_ok (c.fact 49 (f := .noat "Ear" "met") rfl)
  have cl_Mouth : Cls K (He.ga K "Mouth") := He.cls_ok (c.fact 52 (f := .cls "Mouth") rfl)
  have na_Mouth_marks : NoAttr K (He.ga K "Mouth") "marks" := He.noat_ok (c.fact 53 (f := .noat "Mouth" "marks") rfl)
  have na_Mouth_wide : NoAttr K (He.ga K "Mouth") "wide" := He.noat_ok (c.fact 54 (f := .noat "Mouth" "wide") rfl)
  have na_Mouth_late : NoAttr K (He.ga K "Mouth") "late" := He.noat_ok (c.fact 55 (f := .noat "Mouth" "late") rfl)
  have na_Mouth_ahead : NoAttr K (He.ga K "Mouth") "ahead" := He.noat_ok (c.fact 56 (f := .noat "Mouth" "ahead") rfl)
  have na_Mouth_setting : NoAttr K (He.ga K "Mouth") "setting" := He.noat_ok (c.fact 57 (f := .noat "Mouth" "setting") rfl)
  have na_Mouth_sent : NoAttr K (He.ga K "Mouth") "sent" := He.noat_ok (c.fact 58 (f := .noat "Mouth" "sent") rfl)
  have na_Mouth_certain : NoAttr K (He.ga K "Mouth") "certain" := He.noat_ok (c.fact 59 (f := .noat "Mouth" "certain") rfl)
  have na_Mouth_top : NoAttr K (He.ga K "Mouth") "top" := He.noat_ok (c.fact 60 (f := .noat "Mouth" "top") rfl)
  have cl_World : Cls K (He.ga K "World") := He.cls_ok (c.fact 63 (f := .cls "World") rfl)
  have na_World_mouth : NoAttr K (He.ga K "World") "mouth" := He.noat_ok (c.fact 64 (f := .noat "World" "mouth") rfl)
  have na_World_ear : NoAttr K (He.ga K "World") "ear" := He.noat_ok (c.fact 65 (f := .noat "World" "ear") rfl)
  have na_World_late : NoAttr K (He.ga K "World") "late" := He.noat_ok (c.fact 66 (f := .noat "World" "late") rfl)
  have na_World_told : NoAttr K (He.ga K "World") "told" := He.noat_ok (c.fact 67 (f := .noat "World" "told") rfl)
  have na_World_here : NoAttr K (He.ga K "World") "here" := He.noat_ok (c.fact 68 (f := .noat "World" "here") rfl)
  have b := FunD.bindsA (ps := ["_law_script"]) F_law fun _ _ _ _ _ _ us hl => match us, hl with | [_], _ => rfl
  refine ⟨fdL, fun s v => b s [v] rfl, fun base _ _ htb => ?_⟩
  have HTB : ∀ c', fdL.code = .ref c' → LamX.TabB base mg c' (He.cT K ("law", none)).2 := fun c' e => htab c' e ▸ htb
  have c_l_dice : Cal P w K mg base CX0 1 "_law_dice" ["_law_script"] (spDice K) := ok_dice F_l_dice B
  have c_l_next : Cal P w K mg base CX0 1 "_law_next" ["_law_dice_here", "_law_many"] (spNext K) := ok_next F_l_next B
  have c_l_like : Cal P w K mg base CX0 6 "_law_like" ["_law_found", "_law_due"] (spLike K 5) := ok_like F_l_like B 5
  have c_needS : Cal P w K mg base CX0 1 "need_setting" ["setting"] spNeedS := ok_needS F_need_setting B C_LEAST C_MOST
  have c_needM : Cal P w K mg base CX0 1 "need_mark" ["setting", "mark"] spNeedM := ok_needM F_need_mark B
  have c_needB : Cal P w K mg base CX0 2 "need_bits" ["setting", "told"] spNeedB := ok_needB F_need_bits B c_needM
  have TE : ETx K (He.ga K "Ear") := ⟨cl_Ear, na_Ear_marks, na_Ear_wide, na_Ear_late, na_Ear_ahead, na_Ear_setting, na_Ear_newest, na_Ear_met⟩
  have c_einit : CalC P w K mg base CX0 (He.ga K "Ear") 2 "Ear" ["self", "setting"] (spEInit (He.ga K "Ear")) := ok_EInit F_Ear_init TE B c_needS
  have c_etaken : CalM P w K mg base CX0 (He.ga K "Ear") 1 "taken" ["self", "mark"] (spETaken K (He.ga K "Ear")) := ok_ETaken F_Ear_taken TE B
  have c_elast : CalM P w K mg base CX0 (He.ga K "Ear") 1 "last" ["self"] (spELast K (He.ga K "Ear")) := ok_ELast F_Ear_last TE
  have c_ecome : CalM P w K mg base CX0 (He.ga K "Ear") 2 "come" ["self", "mark"] (spECome K (He.ga K "Ear")) := ok_ECome F_Ear_come TE B c_needM c_etaken
  have c_etell : CalM P w K mg base CX0 (He.ga K "Ear") 1 "tell" ["self"] (spETell K (He.ga K "Ear")) := ok_ETell F_Ear_tell TE B
  have TM : MTx K (He.ga K "Mouth") := ⟨cl_Mouth, na_Mouth_marks, na_Mouth_wide, na_Mouth_late, na_Mouth_ahead, na_Mouth_setting, na_Mouth_sent, na_Mouth_certain, na_Mouth_top⟩
  have c_minit : CalC P w K mg base CX0 (He.ga K "Mouth") 2 "Mouth" ["self", "setting"] (spMInit (He.ga K "Mouth")) := ok_MInit F_Mouth_init TM B c_needS
  have c_mfull : CalM P w K mg base CX0 (He.ga K "Mouth") 1 "is_full" ["self"] (spMFull K (He.ga K "Mouth")) := ok_MFull F_Mouth_is_full TM
  have c_mlast : CalM P w K mg base CX0 (He.ga K "Mouth") 1 "last" ["self"] (spMLast K (He.ga K "Mouth")) := ok_MLast F_Mouth_last TM
  have c_msend : CalM P w K mg base CX0 (He.ga K "Mouth") 2 "send" ["self"] (spMSend K (He.ga K "Mouth")) := ok_MSend F_Mouth_send TM c_mfull
  have c_hearE := ok_MHearE (P := P) (w := w) (base := base) F_Mouth_hear TM B T_BadBits c_needB
  have c_oear := ok_OEar (P := P) (w := w) (base := base) F_l_ear
  have c_otaken := ok_OTaken (P := P) (w := w) (base := base) F_l_taken B
  have c_ocome := ok_OCome F_l_come B c_otaken
  have c_otell := ok_OTell (P := P) (w := w) (base := base) F_l_tell B
  have c_omouth := ok_OMouth (P := P) (w := w) (base := base) F_l_mouth
  have c_ofull := ok_OFull (P := P) (w := w) (base := base) F_l_is_full B
  have c_ohear := ok_OHear (P := P) (w := w) (base := base) F_l_hear B
  have c_oworld := ok_OWorld F_l_world c_oear c_omouth
  have c_ocan := ok_OCan F_l_can B c_ofull
  have c_odo := ok_ODo F_l_do B c_otell c_ocome c_ohear
  have c_oevent := ok_OEvent F_l_event B c_l_next c_ocan
  have c_oevents := ok_OEvents F_l_events B c_l_next c_oworld c_oevent c_odo
  have c_setting := ok_setting F_l_setting B c_l_next
  have TW : WTx K (He.ga K "World") := ⟨cl_World, na_World_mouth, na_World_ear, na_World_late, na_World_told, na_World_here⟩
  have c_winit := ok_WInit F_World_init TW c_minit c_einit
  have c_wdue := ok_WDue (mg := mg) (P := P) (w := w) (base := base) F_World_is_due TW TM
  have c_wcanx := ok_WCanX F_World_can TW TM TE B c_mfull c_wdue
  have c_wheardx := ok_WHeardX (CE := (He.ga K "Ear")) F_World_heard TW B cl_Mouth Kn.g3 hmB c_hearE
  have c_wdox := ok_WDoX F_World_do TW TM TE B c_msend c_etell c_ecome c_wheardx
  have c_ocanx := ok_OCanX F_l_can B c_ofull
  have c_odox := ok_ODoX F_l_do B c_otell c_ocome c_ohear
  have c_oplayx := ok_OPlayX F_l_played B c_oworld c_ocanx c_odox
  have XE := ok_BadEvent (P := P) (w := w) (base := base) F_BadEvent_init OX BI KX.n5
  have c_playedx := ok_playedX F_played TW B XE g_MOST_EVENTS c_needS c_winit c_wcanx c_wdox
  have c_odd := ok_OOdd F_l_odd B c_l_next
  exact ok_law F_law B Kn KX ko_BadEvent HTB F_l_told c_l_dice c_l_next c_setting c_l_like c_oevents c_odd c_oplayx c_playedx
end Ak
open PySem PySem.W PySem.Calls PyProof.Rows
theorem PySem.Challenge.cw_ackbits_k04_what_happens_holds : PySem.Challenge.rw_ackbits_k04_what_happens.Holds := by
  w_on; o_law
  refine HandSHeadRun.head_any (r := OpenLaw.row PySem.Challenge.rw_ackbits_k04_what_happens) (q := view (OpenLaw.row PySem.Challenge.rw_ackbits_k04_what_happens).prog [44]) (H := Ak.hk) (ob := Ak.ob) (M := 4000) (loose := Ak.looseN) (d := HandSHeadRun.topDef (OpenLaw.row PySem.Challenge.rw_ackbits_k04_what_happens).prog 44) (kwd := []) Ak.ob_eq
    (by kernel_rfl) (fun s => by kernel_rfl) Ak.run (by kernel_rfl) (by kernel_rfl) (by kernel_rfl) (by rfl) (by first | assumption | decide +kernel) (by decide +kernel) ⟨rfl, rfl, rfl, rfl, rfl, by decide +kernel⟩ ?hw ?hc
  case hw => w_witness2
  case hc =>
    refine LamX.walk_ofTsE (l := PySem.Challenge.rw_ackbits_k04_what_happens) (n := 63) (k := 12) (x := "_law_script") (CX := fun _ => L2.CX0) rfl (by decide) (by kernel_rfl) ⟨rfl, by decide, by decide⟩ ?F (fun _ _ _ _ _ z => z)
    intro w mg fa h Y G hmg0
    obtain ⟨K, KX, c⟩ := Y
    have hmg : mg ("law" : PySem.Str) = some (.ref fa) := by
      have e : (HandSHeadRun.topDef (OpenLaw.row PySem.Challenge.rw_ackbits_k04_what_happens).prog 44).name = ("law" : PySem.Str) := by kernel_rfl
      rw [← e]
      exact hmg0
    obtain ⟨fd, hb, hF⟩ := Ak.facts (P := (PySem.Challenge.rw_ackbits_k04_what_happens).prog) (w := w) KX G hmg c.more c.t.d
    have mem : (("law", none) : He.Defn) ∈ Ak.tf := List.mem_cons_self
    have one : ∀ p ∈ [He.cT K ("law", none)], p = He.cT K ("law", none) := fun p hp => List.mem_singleton.mp hp
    exact ⟨K, KX, fd, [He.cT K ("law", none)], Ak.spLaw K (He.cT K ("law", none)).2, fun p hp => by rw [one p hp]; exact c.empty _ mem, fun p hp => by rw [one p hp]; exact c.out _ mem, fun p hp => by rw [one p hp]; exact codeHd_of_K KX (c.hd _ mem), hb,
      fun H a ns hl hbits hH hS => ⟨a, ns, rfl, hS, hl, hH _ List.mem_cons_self, fun _ => rfl⟩, fun base hK hN hT => hF base hK hN (hT _ List.mem_cons_self)⟩
