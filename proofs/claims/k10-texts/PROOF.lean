import PyProof.Rows.All
import Wide.All
import OpenK.AllK
import Wide.FinOn
import KE.KStateDown
import Lean
import HandS.Base
import HandS.Call
import HandS.Ends
import HandS.More
import HandS.Words
import HandS.WordsExc
import HandS.Defaults
import HandS.Head0
import HandS.Head1
import HandS.Head2
import HandS.HeadEnd
import HandS.HeadHook1
import HandS.HeadHook2
import HandS.HeadHook4
import HandS.ForMost
import HandS.IsInst
import KE.KAssignIn
import HandS.SortInts
import HandS.Zip
import HandS.Style
import HandS.Exc
import HandS.ExcOwn
import HandS.ExcIs
import HandS.ExcField
import HandS.TryOnly
import HandS.Lambda
import HandS.EndTab
import HandS.HeadWalk
import KE.KExcIs
import HandS.ExcInit
import HandS.ClsMeth
import HandS.Codes
import HandS.Replace
import HandS.Walk
import PySem.Challenge.RW_ackbits_k10_written_and_read
set_option Elab.async false
set_option linter.all false
set_option maxRecDepth 100000
set_option maxHeartbeats 8000000
namespace Ak
open PySem PySem.Spec PyProof.Rows L2
def top (i : Nat) : Stmt := PySem.Challenge.pw_ackbits_k10_written_and_read.main.body.getD i (.Pass ⟨0, 0, 0, 0⟩)
abbrev s_l_dice : Stmt := top 22
abbrev s_l_next : Stmt := top 23
abbrev s_need_setting : Stmt := top 12
abbrev s_need_mark : Stmt := top 13
abbrev s_need_bits : Stmt := top 14
abbrev s_l_setting : Stmt := top 25
abbrev s_l_safe : Stmt := top 26
abbrev s_l_like : Stmt := top 24
abbrev s_written : Stmt := top 18
abbrev s_is_right : Stmt := top 19
abbrev s_BadText_init : Stmt := inClass (top 7) 0
abbrev s_read : Stmt := top 20
abbrev s_l_due : Stmt := top 28
abbrev s_l_told : Stmt := top 27
abbrev s_law : Stmt := top 29
abbrev veTail : List Value := [.type "ValueError", .type "Exception", .type "BaseException", .type "object"]
def exKB (K : PySem.W.Frag) (C : Addr) : Bool := PySem.W.keepIn K (.ref C) && (PySem.W.excIn K C veTail "ValueError.__new__" && (decide (PySem.W.subIn K (.ref C) (.type "BaseException") = some true) && decide (PySem.W.typeIn K (.ref C) = some (.type "type"))))
def excCB (K : PySem.W.Frag) (D : Addr) : Bool :=
  decide (PySem.W.findIn K (.ref D) "__getattribute__" = some (some (.builtin "BaseException.__getattribute__"))) && (decide (PySem.W.findIn K (.ref D) "__getattr__" = some none) && (decide (PySem.W.subIn K (.ref D) (.type "BaseException") = some true) && (PySem.W.hasDictIn K D &&
  (decide (PySem.W.findIn K (.ref D) "__class__" = some (some (.builtin "object.__class__"))) && (decide (PySem.W.specialIn K (.builtin "object.__class__") "__get__" = some (some (.builtin "getset_descriptor.__get__"))) && (decide (PySem.W.takesIn K (.builtin "object.__class__") = some true) && decide (PySem.W.mroIn K D (.type "object") = some true)))))))
def kofB (K : PySem.W.Frag) (c1 c2 c3 c4 c5 c6 cb D : Addr) (n : Nat) : Bool :=
  excCB K D && (decide (PySem.W.kitOne K (.ref D) (.ref c1) = some (decide (n = 1))) && (decide (PySem.W.kitOne K (.ref D) (.ref c2) = some (decide (n = 2))) && (decide (PySem.W.kitOne K (.ref D) (.ref c3) = some (decide (n = 3))) && (decide (PySem.W.kitOne K (.ref D) (.ref c4) = some (decide (n = 4))) &&
  (decide (PySem.W.kitOne K (.ref D) (.ref c5) = some (decide (n = 5))) && (decide (PySem.W.kitOne K (.ref D) (.ref c6) = some (decide (n = 6))) && (decide (PySem.W.kitOne K (.ref D) (.type "ValueError") = some true) && decide (PySem.W.exmOne K (.ref D) (.ref cb) = some true))))))))
def valOf : Option PySem.W.CFound → Option Value
  | some (.val v) => some v
  | _ => none
def baseIB (K : PySem.W.Frag) (B : Addr) : Bool := PySem.W.readsIn K B (.type "type") && (decide (PySem.W.specialIn K (.ref B) "__getattribute__" = some (some (.builtin "type.__getattribute__"))) && decide (valOf (PySem.W.findCls K (.ref B) (.type "type") "__init__") = some (.builtin "ValueError.__init__")))
def oexB (K : PySem.W.Frag) (C : Addr) : Bool := (match K.lookup C with
  | some ⟨.type t, _, .cls cd, sl⟩ => decide (t = "type") && ((match cd.mro with
    | .ref D :: bm => decide (D = C) && PySem.HandSPX.refsVE bm
    | _ => false) && (cd.hasDict && (!cd.hasDel && (match sl.toList with
    | [_, _, _, _, some (.builtin n), _] => decide (n = "ValueError.__new__")
    | _ => false))))
  | _ => false) && (decide (PySem.W.findIn K (.ref C) "__setattr__" = some (some (.builtin "object.__setattr__"))) && (decide (PySem.W.subIn K (.ref C) (.type "BaseException") = some true) && (decide (PySem.W.typeIn K (.ref C) = some (.type "type")) && PySem.W.keepIn K (.ref C))))
def kinXB (K : PySem.W.Frag) (c1 c5 c6 : Addr) : Bool := xfB K c1 && (xfB K c5 && (xfB K c6 && (decide (PySem.W.findIn K (.ref c1) "word" = some none) && (decide (PySem.W.findIn K (.ref c5) "number" = some none) && decide (PySem.W.findIn K (.ref c6) "place" = some none)))))
def asY (g : Addr → Option Obj) (n : Nat) : List Addr := He.asD g n ++ [cStatics]
def obsY (n : Nat) (fa : List He.Fa) (fn : List He.DefD) (tf : List He.Defn) (ex : PySem.W.Frag → Bool) (g : Addr → Option Obj) : He.AlX := (He.obsT fa fn [] (He.frT g (asY g n)), ex (He.frT g (asY g n)) && He.tabsB g tf (He.frT g (asY g n)))
theorem saysY {n : Nat} {fa : List He.Fa} {fn : List He.DefD} {tf : List He.Defn} {ex : PySem.W.Frag → Bool} {w : World} {h : Heap} (e : obsY n fa fn tf ex h.get? = He.valX fn [] w) : He.SaysX fa fn [] tf ex w h (He.frT h.get? (asY h.get? n)) := by
  generalize hK : He.frT h.get? (asY h.get? n) = K
  have e1 : He.obsT fa fn [] K = He.valT fn [] w := by rw [← hK]; exact congrArg Prod.fst e
  have e2 : (ex K && He.tabsB h.get? tf K) = true := by rw [← hK]; exact congrArg Prod.snd e
  obtain ⟨e3, e4⟩ := Bool.and_eq_true_iff.mp e2
  have tab : ∀ p ∈ tf, PySem.W.codeHdIn K (He.cT K p).1 (He.cT K p).2 = true ∧ ∃ o, h.get? (He.cT K p).2 = some o ∧ He.emptyTab o = true := by
    intro p hp
    obtain ⟨q1, q2⟩ := Bool.and_eq_true_iff.mp (List.all_eq_true.mp e4 p hp)
    refine ⟨q1, ?_⟩
    split at q2
    · rename_i o ho
      exact ⟨o, ho, q2⟩
    · cases q2
  refine { t := e1, more := e3, hd := fun p hp => (tab p hp).1, out := ?_, empty := ?_ }
  · intro p hp
    obtain ⟨_, o, ho, z⟩ := tab p hp
    have y := He.frT_none (as := asY h.get? n) ho z
    rw [hK] at y
    exact y
  · intro p hp
    obtain ⟨_, o, ho, z⟩ := tab p hp
    rw [ho, He.emptyTab_eq z]
def hookY (n : Nat) (fa : List He.Fa) (fn : List He.DefD) (tf : List He.Defn) (ex : PySem.W.Frag → Bool) : PySem.W.Hook where
  α := He.AlX
  obs := fun s => obsY n fa fn tf ex s.heap.get?
  val := fun w => He.valX fn [] w
  says := fun w h => ∃ K : PySem.W.Frag, K.In h ∧ He.SaysX fa fn [] tf ex w h K
  of := fun _ _ e => ⟨_, He.frT_in, saysY e⟩
  keeps := fun _ _ _ ⟨K, hK, c⟩ k => ⟨K, PySem.W.Frag.In.keeps hK k, { t := c.t, more := c.more, hd := c.hd, out := c.out, empty := fun p hp => k _ _ (c.empty p hp) }⟩
/-! ### the head: facts by names, the run of the top -/
def d_l_dice : He.DefD := ⟨("_law_dice", none), "_law_dice", "_law_dice", defArgs s_l_dice, defBody s_l_dice, defScope s_l_dice, [], []⟩
def d_l_next : He.DefD := ⟨("_law_next", none), "_law_next", "_law_next", defArgs s_l_next, defBody s_l_next, defScope s_l_next, [], []⟩
def d_need_setting : He.DefD := ⟨("need_setting", none), "need_setting", "need_setting", defArgs s_need_setting, defBody s_need_setting, defScope s_need_setting, [], []⟩
def d_need_mark : He.DefD := ⟨("need_mark", none), "need_mark", "need_mark", defArgs s_need_mark, defBody s_need_mark, defScope s_need_mark, [], []⟩
def d_need_bits : He.DefD := ⟨("need_bits", none), "need_bits", "need_bits", defArgs s_need_bits, defBody s_need_bits, defScope s_need_bits, [], []⟩
def d_l_like : He.DefD := ⟨("_law_like", none), "_law_like", "_law_like", defArgs s_l_like, defBody s_l_like, defScope s_l_like, [], []⟩
def d_written : He.DefD := ⟨("written", none), "written", "written", defArgs s_written, defBody s_written, defScope s_written, [], []⟩
def d_is_right : He.DefD := ⟨("is_right", none), "is_right", "is_right", defArgs s_is_right, defBody s_is_right, defScope s_is_right, [], []⟩
def d_read : He.DefD := ⟨("read", none), "read", "read", defArgs s_read, defBody s_read, defScope s_read, [], []⟩
def d_BadText_init : He.DefD := ⟨("BadText", some "__init__"), "__init__", "BadText.__init__", defArgs s_BadText_init, defBody s_BadText_init, defScope s_BadText_init, [], []⟩
def d_l_setting : He.DefD := ⟨("_law_setting", none), "_law_setting", "_law_setting", defArgs s_l_setting, defBody s_l_setting, defScope s_l_setting, [], []⟩
def d_l_due : He.DefD := ⟨("_law_due", none), "_law_due", "_law_due", defArgs s_l_due, defBody s_l_due, defScope s_l_due, [], []⟩
def d_l_told : He.DefD := ⟨("_law_told", none), "_law_told", "_law_told", defArgs s_l_told, defBody s_l_told, defScope s_l_told, [], []⟩
def d_law : He.DefD := ⟨("law", none), "law", "law", defArgs s_law, defBody s_law, defScope s_law, [], []⟩
def fn : List He.DefD := [d_l_dice, d_l_next, d_need_setting, d_need_mark, d_need_bits, d_l_like, d_written, d_is_right, d_read, d_BadText_init, d_l_setting, d_l_due, d_l_told, d_law]
def fa : List He.Fa := [.glo "_law_dice", .glo "_law_next", .glo "need_setting", .glo "need_mark", .glo "need_bits", .glo "_law_like", .glo "written", .glo "is_right", .glo "read", .glo "_law_setting", .glo "_law_due", .glo "_law_told", .glo "law", .free "len", .free "int", .free "isinstance", .free "range", .free "sorted", .free "list", .free "tuple", .free "max", .free "min", .free "set", .free "str", .free "enumerate", .free "bool", .free "dict", .glo "LEAST", .glo "MOST", .str "FIGURES" "0123456789", .str "NONE" "-", .glo "BadText", .meth "BadText" "__init__", .glo "BadSetting", .glo "BadMark", .glo "BadBits", .glo "Full", .glo "BadEvent", .glo "BadText", .glo "BitsError", .free "ValueError"]
abbrev R : PySem.W.OpenRow := PySem.W.OpenLaw.row PySem.Challenge.rw_ackbits_k10_written_and_read
def xb (K : PySem.W.Frag) : Bool := He.tupB K "LEAST" [.int 2, .int 0, .int 0, .int 1] && (He.tupB K "MOST" [.int 64, .int 16, .int 8, .int 16] && (exKB K (He.ga K "BadMark") && (exKB K (He.ga K "BadBits") && (kofB K (He.ga K "BadSetting") (He.ga K "BadMark") (He.ga K "BadBits") (He.ga K "Full") (He.ga K "BadEvent") (He.ga K "BadText") (He.ga K "BitsError") (He.ga K "BadMark") 2 && (kofB K (He.ga K "BadSetting") (He.ga K "BadMark") (He.ga K "BadBits") (He.ga K "Full") (He.ga K "BadEvent") (He.ga K "BadText") (He.ga K "BitsError") (He.ga K "BadBits") 3 && (kofB K (He.ga K "BadSetting") (He.ga K "BadMark") (He.ga K "BadBits") (He.ga K "Full") (He.ga K "BadEvent") (He.ga K "BadText") (He.ga K "BitsError") (He.ga K "BadText") 6 && (baseIB K (He.ga K "BitsError") && (kinXB K (He.ga K "BadSetting") (He.ga K "BadEvent") (He.ga K "BadText") && (oexB K (He.ga K "BadText"))))))))))
def tf : List He.Defn := [("law", none)]
def hk : PySem.W.Hook := hookY 6 fa fn tf xb
def ob (s : PySem.W.SharedT) : He.AlX := obsY 6 fa fn tf xb (HandSHeadRun.getT s)
theorem ob_eq (s : PySem.W.SharedT) : ob s = hk.obs s.abs := congrArg (obsY 6 fa fn tf xb) (funext fun a => HandSHeadRun.getT_eq s a)
def looseN : List PySem.Str := [("BitsError" : PySem.Str), ("BadSetting" : PySem.Str), ("BadMark" : PySem.Str), ("BadBits" : PySem.Str), ("Full" : PySem.Str), ("BadEvent" : PySem.Str), ("BadText" : PySem.Str), ("LEAST" : PySem.Str), ("MOST" : PySem.Str), ("WORDS" : PySem.Str), ("need_setting" : PySem.Str), ("need_mark" : PySem.Str), ("need_bits" : PySem.Str), ("FIGURES" : PySem.Str), ("NONE" : PySem.Str), ("written" : PySem.Str), ("is_right" : PySem.Str), ("read" : PySem.Str), ("_law_dice" : PySem.Str), ("_law_next" : PySem.Str), ("_law_like" : PySem.Str), ("_law_setting" : PySem.Str), ("_law_safe" : PySem.Str), ("_law_told" : PySem.Str), ("_law_due" : PySem.Str)]
theorem run (w : World) : HandSHeadRun.RunEq R (PySem.W.view R.prog [29]) hk ob 4000 looseN w := by
  intro os
  kernel_rfl
end Ak
/-! The common part: what a def keeps (Aft), what stands now (Now), the dice, calls by name. -/
namespace Ak
open PySem PySem.Spec PyProof.Rows L2

/-! ### what is kept -/
structure Aft (M : List Addr) (H H' : Hp) : Prop where
  k : ∀ b o, H b = some o → b ∉ M → H' b = some o
  t : ∀ b xs, H b = some (.tup xs) → H' b = some (.tup xs)
  z : ∀ b u o, H b = some (.frz u o) → H' b = some (.frz u o)
section
variable {M M' : List Addr} {H H' H1 H2 : Hp} {p : Addr} {o u : HO} {K : PySem.W.Frag} {a : Addr} {xs : List V}
theorem Aft.refl : Aft M H H := ⟨fun _ _ h _ => h, fun _ _ h => h, fun _ _ _ h => h⟩
theorem Aft.trans (a : Aft M H H1) (b : Aft M H1 H2) : Aft M H H2 :=
  ⟨fun c o h hm => b.k c o (a.k c o h hm) hm, fun c xs h => b.t c xs (a.t c xs h), fun c v o h => b.z c v o (a.z c v o h)⟩
theorem Aft.mono (a : Aft M H H') (h : ∀ x ∈ M, x ∈ M') : Aft M' H H' := ⟨fun b o e hm => a.k b o e fun z => hm (h b z), a.t, a.z⟩
/-- behind a call that changes M' -/
theorem Aft.call (a : Aft M H H1) (b : Aft M' H1 H2) (h : ∀ x ∈ M', x ∈ M ∨ H x = none) : Aft M H H2 :=
  ⟨fun c o e hm => b.k c o (a.k c o e hm) fun z => (h c z).elim hm fun n => (by rw [n] at e; cases e), fun c xs h => b.t c xs (a.t c xs h), fun c v o h => b.z c v o (a.z c v o h)⟩
theorem Aft.new (a : Aft M H H') (hp : H' p = none) : Aft M H (upd H' p o) :=
  ⟨fun b v e hm => by rw [upd_ne (ne_of_none (a.k b v e hm) hp)]; exact a.k b v e hm,
   fun b xs e => by rw [upd_ne (ne_of_none (a.t b xs e) hp)]; exact a.t b xs e,
   fun b v w e => by rw [upd_ne (ne_of_none (a.z b v w e) hp)]; exact a.z b v w e⟩
theorem Aft.put (a : Aft M H H') (hp : H' p = some u) (hn : Mut (some u)) (hw : p ∈ M ∨ H p = none) : Aft M H (upd H' p o) := by
  refine ⟨fun b v e hm => ?_, fun b xs e => ?_, fun b v w e => ?_⟩
  · have ne : b ≠ p := by
      rintro rfl
      rcases hw with z | z
      · exact hm z
      · rw [z] at e; cases e
    rw [upd_ne ne]; exact a.k b v e hm
  · have ne : b ≠ p := by
      rintro rfl
      have q := a.t b xs e
      rw [hp] at q
      cases q
      exact hn
    rw [upd_ne ne]; exact a.t b xs e
  · have ne : b ≠ p := by
      rintro rfl
      have q := a.z b v w e
      rw [hp] at q
      cases q
      exact hn
    rw [upd_ne ne]; exact a.z b v w e
theorem Aft.free (a : Aft M H H') (hm : p ∉ M) (h : H' p = none) : H p = none := by
  cases q : H p with
  | none => rfl
  | some o => rw [a.k p o q hm] at h; cases h
theorem Aft.sqt (e : Aft M H H') (h : SqT K H a xs) : SqT K H' a xs := by
  rcases h with (h | ⟨o, h⟩) | h
  · exact .inl (.inl (e.t _ _ h))
  · exact .inl (.inr ⟨o, e.z _ _ _ h⟩)
  · exact .inr h
/-- the script: locked, or the module's own -/
def Scr (K : PySem.W.Frag) (H : Hp) (a : Addr) (xs : List V) : Prop := (∃ u, H a = some (.frz u (.lst xs))) ∨
  ∃ (o : Obj) (its : Array Value) (n : Nat), K.lookup a = some o ∧ o.cls = .type "list" ∧ o.dict = none ∧ o.data = .seq its n ∧ its.size ≤ sizeLine ∧ Vals xs its.toList
theorem Scr.sq (h : Scr K H a xs) : SqL K H a xs := h.elim (fun ⟨u, h⟩ => .inl (.inr ⟨u, h⟩)) .inr
theorem Scr.keep (h : Scr K H a xs) (e : Aft M H H') : Scr K H' a xs := h.elim (fun ⟨u, h⟩ => .inl ⟨u, e.z _ _ _ h⟩) .inr
theorem Scr.only (hO : Only H) (h : SqL K H a xs) : Scr K H a xs := by
  rcases h with (h | h) | h
  · rcases hO a with z | ⟨u, ys, z⟩
    · rw [z] at h; cases h
    · rw [z] at h; cases h
  · exact .inl h
  · exact .inr h
end

/-! ### the dice: a list of the script, a place, two numbers -/
abbrev dO (a : Addr) (i m r : Int) : HO := .lst [.ref a, .int i, .int m, .int r]
structure Dice (K : PySem.W.Frag) (H : Hp) (d : Addr) : Prop where
  ex : ∃ (a : Addr) (ns : List Int) (i m r : Int), H d = some (dO a i m r) ∧ Scr K H a (ns.map V.int) ∧ ns.length ≤ 63 ∧ 0 ≤ i ∧ 0 ≤ m ∧ m < 2147483647
section
variable {K : PySem.W.Frag} {H H' : Hp} {d : Addr} {M : List Addr}
theorem Dice.lst (h : Dice K H d) : ∃ xs, H d = some (.lst xs) := by
  obtain ⟨a, ns, i, m, r, h, _⟩ := h.ex
  exact ⟨_, h⟩
theorem Dice.keep (h : Dice K H d) (e : Aft M H H') (hd : d ∉ M) : Dice K H' d := by
  obtain ⟨a, ns, i, m, r, h1, h2, h3⟩ := h.ex
  exact ⟨a, ns, i, m, r, e.k _ _ h1 hd, h2.keep e, h3⟩
end

/-! ### what stands now -/
structure Cel where
  w : Bool
  a : Addr
  o : HO
/-- l: the cells, the own ones (w) may be changed; ts: tuples; M: what may be changed of H0's; D: the dice -/
structure Now (K : PySem.W.Frag) (D : Option Addr) (M : List Addr) (H0 H : Hp) (l : List Cel) (ts : List (Addr × List V)) : Prop where
  nd : (l.map Cel.a).Nodup
  at_ : ∀ c ∈ l, H c.a = some c.o
  mu : ∀ c ∈ l, Mut (some c.o)
  ow : ∀ c ∈ l, c.w = true → c.a ∈ M ∨ H0 c.a = none
  tp : ∀ p ∈ ts, H p.1 = some (.tup p.2)
  af : Aft M H0 H
  dc : ∀ d, D = some d → Dice K H d ∧ (d ∈ M ∨ H0 d = none) ∧ d ∉ l.map Cel.a
section
variable {K : PySem.W.Frag} {D : Option Addr} {M M' : List Addr} {H0 H H' : Hp} {l l' : List Cel} {ts : List (Addr × List V)} {p a d : Addr} {o u : HO} {xs : List V} {c : Cel} {w : Bool}
theorem Now.get (N : Now K D M H0 H l ts) (i : Nat) (h : l[i]? = some c) : H c.a = some c.o := N.at_ c (List.mem_of_getElem? h)
theorem Now.cell (N : Now K D M H0 H l ts) (i : Nat) (h : l[i]? = some ⟨w, a, o⟩) : H a = some o := N.get i h
theorem Now.tup (N : Now K D M H0 H l ts) (i : Nat) (h : ts[i]? = some (a, xs)) : H a = some (.tup xs) := N.tp _ (List.mem_of_getElem? h)
theorem Now.free (N : Now K D M H0 H l ts) (hp : H p = none) : p ∉ l.map Cel.a := fun m => by
  obtain ⟨c, hc, e⟩ := List.mem_map.mp m
  have q := N.at_ c hc
  rw [e, hp] at q; cases q
/-- a new tuple -/
theorem Now.newT (N : Now K D M H0 H l ts) (hp : H p = none) : Now K D M H0 (upd H p (.tup xs)) l ((p, xs) :: ts) where
  nd := N.nd
  at_ := fun c hc => by rw [upd_ne (ne_of_none (N.at_ c hc) hp)]; exact N.at_ c hc
  mu := N.mu
  ow := N.ow
  tp := fun q hq => by
    rcases List.mem_cons.mp hq with e | hq
    · subst e; exact upd_same
    · rw [upd_ne (ne_of_none (N.tp q hq) hp)]; exact N.tp q hq
  af := N.af.new hp
  dc := fun d e => by
    obtain ⟨h1, h2, h3⟩ := N.dc d e
    exact ⟨h1.keep (M := []) (Aft.refl.new hp) (by simp), h2, h3⟩
/-- a new cell -/
theorem Now.newC (N : Now K D M H0 H l ts) (hp : H p = none) (hm : Mut (some o)) : Now K D M H0 (upd H p o) (⟨true, p, o⟩ :: l) ts where
  nd := List.nodup_cons.mpr ⟨N.free hp, N.nd⟩
  at_ := fun c hc => by
    rcases List.mem_cons.mp hc with e | hc
    · subst e; exact upd_same
    · rw [upd_ne (ne_of_none (N.at_ c hc) hp)]; exact N.at_ c hc
  mu := fun c hc => by
    rcases List.mem_cons.mp hc with e | hc
    · subst e; exact hm
    · exact N.mu c hc
  ow := fun c hc hw => by
    rcases List.mem_cons.mp hc with e | hc
    · subst e
      by_cases z : p ∈ M
      · exact .inl z
      · exact .inr (N.af.free z hp)
    · exact N.ow c hc hw
  tp := fun q hq => by rw [upd_ne (ne_of_none (N.tp q hq) hp)]; exact N.tp q hq
  af := N.af.new hp
  dc := fun d e => by
    obtain ⟨h1, h2, h3⟩ := N.dc d e
    refine ⟨h1.keep (M := []) (Aft.refl.new hp) (by simp), h2, ?_⟩
    intro m
    rcases List.mem_cons.mp m with q | q
    · obtain ⟨ys, hy⟩ := h1.lst
      rw [q] at hy
      have z : H p = some (.lst ys) := hy
      rw [hp] at z; cases z
    · exact h3 q
theorem nodup_at {l : List Cel} (nd : (l.map Cel.a).Nodup) {i j : Nat} {c c' : Cel} (h : l[i]? = some c) (h' : l[j]? = some c') (e : c.a = c'.a) : i = j := by
  have h1 : (l.map Cel.a)[i]? = some c.a := by rw [List.getElem?_map, h]; rfl
  have h2 : (l.map Cel.a)[j]? = some c.a := by rw [List.getElem?_map, h', e]; rfl
  obtain ⟨b1, e1⟩ := List.getElem?_eq_some_iff.mp h1
  obtain ⟨b2, e2⟩ := List.getElem?_eq_some_iff.mp h2
  exact (List.getElem_inj nd).mp (e1.trans e2.symm)
theorem set_map {l : List Cel} {i : Nat} {o o' : HO} (h : l[i]? = some ⟨w, a, o⟩) : (l.set i ⟨w, a, o'⟩).map Cel.a = l.map Cel.a := by
  rw [List.map_set]
  have h1 : (l.map Cel.a)[i]? = some a := by rw [List.getElem?_map, h]; rfl
  obtain ⟨b, e⟩ := List.getElem?_eq_some_iff.mp h1
  show (l.map Cel.a).set i a = _
  rw [← e]
  exact List.set_getElem_self b
/-- a cell is written: directly, or by a call that changes it alone -/
theorem Now.set (N : Now K D M H0 H l ts) (i : Nat) (h : l[i]? = some ⟨true, a, o⟩) (A : Aft [a] H H') (hu : H' a = some u) (hm : Mut (some u)) : Now K D M H0 H' (l.set i ⟨true, a, u⟩) ts := by
  have mem := List.mem_of_getElem? h
  have other : ∀ c ∈ l, c.a ≠ a → H' c.a = some c.o := fun c hc ne => A.k _ _ (N.at_ c hc) (by simpa using ne)
  have cases_ : ∀ c ∈ l.set i ⟨true, a, u⟩, c = ⟨true, a, u⟩ ∨ (c ∈ l ∧ c.a ≠ a) := fun c hc => by
    obtain ⟨j, hj⟩ := List.getElem?_of_mem hc
    by_cases e : i = j
    · subst e
      rw [List.getElem?_set_self (List.getElem?_eq_some_iff.mp h).1] at hj
      exact .inl (Option.some.inj hj).symm
    · rw [List.getElem?_set_ne e] at hj
      exact .inr ⟨List.mem_of_getElem? hj, fun q => e (nodup_at N.nd h hj q.symm)⟩
  refine ⟨by rw [set_map h]; exact N.nd, fun c hc => ?_, fun c hc => ?_, fun c hc hw => ?_, fun q hq => A.t _ _ (N.tp q hq), N.af.call A (by simpa using N.ow _ mem rfl), fun d e => ?_⟩
  · rcases cases_ c hc with e | ⟨hc, ne⟩
    · subst e; exact hu
    · exact other c hc ne
  · rcases cases_ c hc with e | ⟨hc, ne⟩
    · subst e; exact hm
    · exact N.mu c hc
  · rcases cases_ c hc with e | ⟨hc, ne⟩
    · subst e; exact N.ow ⟨true, a, o⟩ mem rfl
    · exact N.ow c hc hw
  · obtain ⟨h1, h2, h3⟩ := N.dc d e
    rw [set_map h]
    exact ⟨h1.keep A (by
      intro m
      have e : d = a := by simpa using m
      subst e
      exact h3 (List.mem_map.mpr ⟨_, mem, rfl⟩)), h2, h3⟩
theorem Now.put (N : Now K D M H0 H l ts) (i : Nat) (h : l[i]? = some ⟨true, a, o⟩) (hm : Mut (some u)) : Now K D M H0 (upd H a u) (l.set i ⟨true, a, u⟩) ts :=
  N.set i h (Aft.refl.put (N.cell i h) (N.mu _ (List.mem_of_getElem? h)) (.inl (by simp))) upd_same hm
/-- a call that changes nothing -/
theorem Now.pure (N : Now K D M H0 H l ts) (A : Aft [] H H') : Now K D M H0 H' l ts where
  nd := N.nd
  at_ := fun c hc => A.k _ _ (N.at_ c hc) (by simp)
  mu := N.mu
  ow := N.ow
  tp := fun q hq => A.t _ _ (N.tp q hq)
  af := N.af.call A (by simp)
  dc := fun d e => by
    obtain ⟨h1, h2, h3⟩ := N.dc d e
    exact ⟨h1.keep A (by simp), h2, h3⟩
/-- a call that rolls the dice -/
theorem Now.roll (N : Now K (some d) M H0 H l ts) (A : Aft [d] H H') (hd : Dice K H' d) : Now K (some d) M H0 H' l ts where
  nd := N.nd
  at_ := fun c hc => A.k _ _ (N.at_ c hc) (by
    intro m
    have e : c.a = d := by simpa using m
    exact (N.dc d rfl).2.2 (List.mem_map.mpr ⟨c, hc, e⟩))
  mu := N.mu
  ow := N.ow
  tp := fun q hq => A.t _ _ (N.tp q hq)
  af := N.af.call A (by simpa using (N.dc d rfl).2.1)
  dc := fun d' e => by
    cases e
    exact ⟨hd, (N.dc d rfl).2⟩
/-- cells are forgotten, or in another order -/
theorem Now.sub (N : Now K D M H0 H l ts) (l' : List Cel) (h : ∀ c ∈ l', c ∈ l) (nd : (l'.map Cel.a).Nodup) : Now K D M H0 H l' ts where
  nd := nd
  at_ := fun c hc => N.at_ c (h c hc)
  mu := fun c hc => N.mu c (h c hc)
  ow := fun c hc => N.ow c (h c hc)
  tp := N.tp
  af := N.af
  dc := fun d e => by
    obtain ⟨h1, h2, h3⟩ := N.dc d e
    exact ⟨h1, h2, fun m => by
      obtain ⟨c, hc, e⟩ := List.mem_map.mp m
      exact h3 (List.mem_map.mpr ⟨c, h c hc, e⟩)⟩
theorem Now.tl (N : Now K D M H0 H (c :: l) ts) : Now K D M H0 H l ts := N.sub l (fun _ h => List.mem_cons_of_mem _ h) (List.nodup_cons.mp N.nd).2
theorem Now.tl1 {c' : Cel} (N : Now K D M H0 H (c' :: c :: l) ts) : Now K D M H0 H (c' :: l) ts := N.sub _ (fun x h => by
  rcases List.mem_cons.mp h with e | h
  · exact List.mem_cons.mpr (.inl e)
  · exact List.mem_cons_of_mem _ (List.mem_cons_of_mem _ h)) (by
  have := N.nd
  simp only [List.map_cons, List.nodup_cons, List.mem_cons, not_or] at this ⊢
  exact ⟨this.1.2, this.2.2⟩)
theorem Now.subT (N : Now K D M H0 H l ts) (ts' : List (Addr × List V)) (h : ∀ p ∈ ts', p ∈ ts) : Now K D M H0 H l ts' := ⟨N.nd, N.at_, N.mu, N.ow, fun p hp => N.tp p (h p hp), N.af, N.dc⟩
theorem Now.moreT (N : Now K D M H0 H l ts) (h : H p = some (.tup xs)) : Now K D M H0 H l ((p, xs) :: ts) := ⟨N.nd, N.at_, N.mu, N.ow, fun q hq => by
  rcases List.mem_cons.mp hq with e | hq
  · subst e; exact h
  · exact N.tp q hq, N.af, N.dc⟩
/-- the start of a def -/
theorem Now.start (nd : (l.map Cel.a).Nodup) (at_ : ∀ c ∈ l, H c.a = some c.o ∧ Mut (some c.o) ∧ (c.w = true → c.a ∈ M)) (tp : ∀ p ∈ ts, H p.1 = some (.tup p.2)) (dc : ∀ d, D = some d → Dice K H d ∧ d ∈ M ∧ d ∉ l.map Cel.a) : Now K D M H H l ts :=
  ⟨nd, fun c hc => (at_ c hc).1, fun c hc => (at_ c hc).2.1, fun c hc hw => .inl ((at_ c hc).2.2 hw), tp, .refl, fun d e => ⟨(dc d e).1, .inl (dc d e).2.1, (dc d e).2.2⟩⟩
theorem Now.start0 (tp : ∀ p ∈ ts, H p.1 = some (.tup p.2)) : Now K none M H H [] ts := .start (by simp) (by simp) tp (by simp)
theorem Now.startD (hd : Dice K H d) (tp : ∀ p ∈ ts, H p.1 = some (.tup p.2)) : Now K (some d) [d] H H [] ts := .start (by simp) (by simp) tp (by simp [hd])
end
end Ak
namespace Ak
open PySem PySem.Spec PyProof.Rows L2
/-! ### readings, step by step -/
section
variable {σ : L2.St} {H : Hp} {D : Ends} {t u : TS} {te ta tb tc : TE} {tr : TA} {g : TG} {Q : VK} {tt tu : TT} {v x y : V} {i : Nat} {K : PySem.W.Frag}
variable {nx bk ct : L2.St → Hp → Prop} {rt : VK}
theorem k_seq (h : t ⟨u ⟨nx, rt, bk, ct⟩, rt, bk, ct⟩ σ H) : tSeq t u ⟨nx, rt, bk, ct⟩ σ H := h
theorem k_next (h : nx σ H) : tNext ⟨nx, rt, bk, ct⟩ σ H := h
theorem k_asg (h : te σ H fun x H1 => g x σ H1 nx) : tAsg te g ⟨nx, rt, bk, ct⟩ σ H := h
theorem k_gname {Q : L2.St → Hp → Prop} (h : Q (σ.set i (some v)) H) : gName i v σ H Q := h
theorem k_drop (h : te σ H fun _ H1 => nx σ H1) : tDrop te ⟨nx, rt, bk, ct⟩ σ H := h
theorem k_ret (h : te σ H rt) : tRet te ⟨nx, rt, bk, ct⟩ σ H := h
theorem k_retN (h : rt .non H) : tRetN ⟨nx, rt, bk, ct⟩ σ H := h
/-- the two ways of an if -/
def cIf (t u : TS) (D : Ends) (σ : L2.St) : Bool → Hp → Prop := fun b H => if b = true then t D σ H else u D σ H
theorem k_if (h : tt σ H (cIf t u D σ)) : tIfS tt t u D σ H := h
theorem c_ifT (h : t D σ H) : cIf t u D σ true H := h
theorem c_ifF (h : u D σ H) : cIf t u D σ false H := h
theorem c_if {b : Bool} (h1 : b = true → t D σ H) (h2 : b = false → u D σ H) : cIf t u D σ b H := by
  cases b with
  | true => exact h1 rfl
  | false => exact h2 rfl
theorem c_ifd {p : Prop} [Decidable p] (h1 : p → t D σ H) (h2 : ¬ p → u D σ H) : cIf t u D σ (decide p) H :=
  c_if (fun e => h1 (of_decide_eq_true e)) (fun e => h2 (of_decide_eq_false e))
theorem c_ifdT {p : Prop} [Decidable p] (hp : p) (h1 : t D σ H) : cIf t u D σ (decide p) H := c_ifd (fun _ => h1) fun n => (n hp).elim
theorem c_ifdF {p : Prop} [Decidable p] (hp : ¬ p) (h1 : u D σ H) : cIf t u D σ (decide p) H := c_ifd (fun n => (hp n).elim) fun _ => h1
/-- two names at once -/
def cPar (i j : Nat) (nx : L2.St → Hp → Prop) (σ : L2.St) : List V → Hp → Prop := fun vs H1 => ∃ v w, vs = [v, w] ∧ nx ((σ.set i (some v)).set j (some w)) H1
theorem k_par {i j : Nat} (h : tr σ H (cPar i j nx σ)) : tPar i j tr ⟨nx, rt, bk, ct⟩ σ H := h
theorem e_par {i j : Nat} {v w : V} (h : nx ((σ.set i (some v)).set j (some w)) H) : cPar i j nx σ [v, w] H := ⟨v, w, rfl, h⟩
/-- loops -/
def cFor (K : PySem.W.Frag) (g : TG) (tb : TS) (D : Ends) (σ : L2.St) : VK := fun x H1 => ∃ a, x = .ref a ∧ (∃ xs, SqL K H1 a xs) ∧
  ∃ W : Nat → Nat → L2.St → Hp → Prop, (∃ m, W 0 m σ H1) ∧ ∀ i m σ H, W i m σ H →
  ((Itl K a).stop i H ∧ D.nx σ H) ∨ ((Itl K a).go i H ∧ ∃ N : L2.St → Hp → Prop, (∀ σ' H', N σ' H' → ∃ m', m' < m ∧ W (i + 1) m' σ' H') ∧ ∀ x H', (Itl K a).yld i H x H' → g x σ H' fun σ2 H2 => tb { D with nx := N, ct := N, bk := D.nx } σ2 H2)
theorem k_for {tl : TE} (h : tl σ H (cFor K g t D σ)) : tFor (iList K tl) g t D σ H := h
theorem c_for {a : Addr} {xs : List V} (Pv : Nat → L2.St → Hp → Prop) (h0 : Pv 0 σ H) (hl : ∀ i σ H, i ≤ xs.length → Pv i σ H → SqL K H a xs)
    (hs : ∀ i x σ H, xs[i]? = some x → Pv i σ H → g x σ H fun σ2 H2 => t ⟨Pv (i + 1), rt, nx, Pv (i + 1)⟩ σ2 H2) (hd : ∀ σ H, Pv xs.length σ H → nx σ H) : cFor K g t ⟨nx, rt, bk, ct⟩ σ (.ref a) H :=
  ⟨a, rfl, ⟨xs, hl 0 σ H (Nat.zero_le _) h0⟩, for_list (D := ⟨nx, rt, bk, ct⟩) Pv h0 hl hs hd⟩
def cForT (K : PySem.W.Frag) (g : TG) (tb : TS) (D : Ends) (σ : L2.St) : VK := fun x H1 => ∃ a, x = .ref a ∧ (∃ xs, SqT K H1 a xs) ∧
  ∃ W : Nat → Nat → L2.St → Hp → Prop, (∃ m, W 0 m σ H1) ∧ ∀ i m σ H, W i m σ H →
  ((Itt K a).stop i H ∧ D.nx σ H) ∨ ((Itt K a).go i H ∧ ∃ N : L2.St → Hp → Prop, (∀ σ' H', N σ' H' → ∃ m', m' < m ∧ W (i + 1) m' σ' H') ∧ ∀ x H', (Itt K a).yld i H x H' → g x σ H' fun σ2 H2 => tb { D with nx := N, ct := N, bk := D.nx } σ2 H2)
theorem k_forT {tl : TE} (h : tl σ H (cForT K g t D σ)) : tFor (iTup K tl) g t D σ H := h
theorem c_forT {a : Addr} {xs : List V} (Pv : Nat → L2.St → Hp → Prop) (h0 : Pv 0 σ H) (hl : ∀ i σ H, i ≤ xs.length → Pv i σ H → SqT K H a xs)
    (hs : ∀ i x σ H, xs[i]? = some x → Pv i σ H → g x σ H fun σ2 H2 => t ⟨Pv (i + 1), rt, nx, Pv (i + 1)⟩ σ2 H2) (hd : ∀ σ H, Pv xs.length σ H → nx σ H) : cForT K g t ⟨nx, rt, bk, ct⟩ σ (.ref a) H :=
  ⟨a, rfl, ⟨xs, hl 0 σ H (Nat.zero_le _) h0⟩, for_tup (D := ⟨nx, rt, bk, ct⟩) Pv h0 hl hs hd⟩
def cForR (g : TG) (tb : TS) (D : Ends) (σ : L2.St) : List V → Hp → Prop := fun vs H1 => ∃ j : Int, vs = [.int j] ∧ -(2 ^ 62) ≤ j ∧ j < 2 ^ 62 ∧
  ∃ W : Nat → Nat → L2.St → Hp → Prop, (∃ m, W 0 m σ H1) ∧ ∀ i m σ H, W i m σ H →
  ((Itr 0 j.toNat).stop i H ∧ D.nx σ H) ∨ ((Itr 0 j.toNat).go i H ∧ ∃ N : L2.St → Hp → Prop, (∀ σ' H', N σ' H' → ∃ m', m' < m ∧ W (i + 1) m' σ' H') ∧ ∀ x H', (Itr 0 j.toNat).yld i H x H' → g x σ H' fun σ2 H2 => tb { D with nx := N, ct := N, bk := D.nx } σ2 H2)
theorem k_forR (h : tr σ H (cForR g t D σ)) : tFor (iRng1 tr) g t D σ H := h
theorem c_forR {n : Int} (hn : -100000 ≤ n ∧ n ≤ 100000) (Pv : Nat → L2.St → Hp → Prop) (h0 : Pv 0 σ H)
    (hs : ∀ (i : Nat) σ H, (i : Int) < n → Pv i σ H → g (.int (i : Int)) σ H fun σ2 H2 => t ⟨Pv (i + 1), rt, nx, Pv (i + 1)⟩ σ2 H2) (hd : ∀ σ H, Pv n.toNat σ H → nx σ H) : cForR g t ⟨nx, rt, bk, ct⟩ σ [.int n] H :=
  ⟨n, rfl, by omega, by omega, for_range (D := ⟨nx, rt, bk, ct⟩) (lo := 0) Pv h0 (fun i σ H hi p => by
    rw [show (0 : Int) + (i : Int) = (i : Int) from Int.zero_add _]
    exact hs i σ H (by omega) p) hd⟩
theorem k_var (h : σ[i]? = some (some v)) (k : Q v H) : tVar i σ H Q := ⟨v, h, k⟩
theorem k_c (h : Q v H) : tC v σ H Q := h
theorem k_op {r : R2} (h : ta σ H fun x H1 => tb σ H1 fun y H2 => r x y H2 Q) : tOp r ta tb σ H Q := h
theorem k_un {r : V → Hp → VK → Prop} (h : ta σ H fun x H1 => r x H1 Q) : tUn r ta σ H Q := h
def cCh (r' : R2) (tc : TE) (σ : L2.St) (y : V) (Q : VK) : VK := fun z H3 => ∃ k, z = .bl k ∧ (if k = true then tc σ H3 fun w' H4 => r' y w' H4 Q else Q (.bl false) H3)
theorem k_chain {r r' : R2} (h : ta σ H fun x H1 => tb σ H1 fun y H2 => r x y H2 (cCh r' tc σ y Q)) : tChain r r' ta tb tc σ H Q := h
theorem c_ch {r' : R2} {y : V} {b : Bool} (h1 : b = true → tc σ H fun w' H4 => r' y w' H4 Q) (h2 : b = false → Q (.bl false) H) : cCh r' tc σ y Q (.bl b) H := ⟨b, rfl, by
  cases b with
  | true => exact h1 rfl
  | false => exact h2 rfl⟩
def cT (Q : Bool → Hp → Prop) : VK := fun x H' => ∃ k, x = .bl k ∧ Q k H'
theorem k_test {Q : Bool → Hp → Prop} (h : te σ H (cT Q)) : tTest te σ H Q := h
theorem k_tB {Q : Bool → Hp → Prop} (h : te σ H (cT Q)) : tB te σ H Q := h
theorem e_bl {Q : Bool → Hp → Prop} {b : Bool} (h : Q b H) : cT Q (.bl b) H := ⟨b, rfl, h⟩
def cNt (Q : Bool → Hp → Prop) : Bool → Hp → Prop := fun c H1 => Q (!c) H1
theorem k_not {Q : Bool → Hp → Prop} (h : tt σ H (cNt Q)) : tNot tt σ H Q := h
theorem c_nt {Q : Bool → Hp → Prop} {b : Bool} (h : Q (!b) H) : cNt Q b H := h
theorem c_ntT {Q : Bool → Hp → Prop} (h : Q false H) : cNt Q true H := h
theorem c_ntF {Q : Bool → Hp → Prop} (h : Q true H) : cNt Q false H := h
theorem c_ntD {Q : Bool → Hp → Prop} {p : Prop} [Decidable p] (h : Q (decide (¬ p)) H) : cNt Q (decide p) H := by
  show Q (!decide p) H
  rw [← decide_not]
  exact h
def cAnd (u : TT) (σ : L2.St) (Q : Bool → Hp → Prop) : Bool → Hp → Prop := fun c H1 => if c = true then u σ H1 Q else Q false H1
def cOr (u : TT) (σ : L2.St) (Q : Bool → Hp → Prop) : Bool → Hp → Prop := fun c H1 => if c = true then Q true H1 else u σ H1 Q
theorem k_and {Q : Bool → Hp → Prop} (h : tt σ H (cAnd tu σ Q)) : tAnd tt tu σ H Q := h
theorem k_or {Q : Bool → Hp → Prop} (h : tt σ H (cOr tu σ Q)) : tOr tt tu σ H Q := h
theorem c_and {Q : Bool → Hp → Prop} {b : Bool} (h1 : b = true → tu σ H Q) (h2 : b = false → Q false H) : cAnd tu σ Q b H := by
  cases b with
  | true => exact h1 rfl
  | false => exact h2 rfl
theorem c_or {Q : Bool → Hp → Prop} {b : Bool} (h1 : b = true → Q true H) (h2 : b = false → tu σ H Q) : cOr tu σ Q b H := by
  cases b with
  | true => exact h1 rfl
  | false => exact h2 rfl
/-- the second test's answer is told whatever the first is -/
theorem c_and' {Q : Bool → Hp → Prop} {b c : Bool} (h1 : ∀ Q', Q' c H → tu σ H Q') (h : Q (b && c) H) : cAnd tu σ Q b H := by
  cases b with
  | true => exact h1 _ h
  | false => exact h
theorem c_or' {Q : Bool → Hp → Prop} {b c : Bool} (h1 : ∀ Q', Q' c H → tu σ H Q') (h : Q (b || c) H) : cOr tu σ Q b H := by
  cases b with
  | true => exact h
  | false => exact h1 _ h
def cAndV (tb : TE) (σ : L2.St) (Q : VK) : VK := fun x H1 => ∃ c, x = .bl c ∧ if c = true then tb σ H1 Q else Q (.bl false) H1
def cOrV (tb : TE) (σ : L2.St) (Q : VK) : VK := fun x H1 => ∃ c, x = .bl c ∧ if c = true then Q (.bl true) H1 else tb σ H1 Q
def cNotV (Q : VK) : VK := fun x H1 => ∃ c, x = .bl c ∧ Q (.bl (!c)) H1
theorem k_andV (h : ta σ H (cAndV tb σ Q)) : tAndV ta tb σ H Q := h
theorem k_orV (h : ta σ H (cOrV tb σ Q)) : tOrV ta tb σ H Q := h
theorem e_andV {b : Bool} (h1 : b = true → tb σ H Q) (h2 : b = false → Q (.bl false) H) : cAndV tb σ Q (.bl b) H := ⟨b, rfl, by
  cases b with
  | true => exact h1 rfl
  | false => exact h2 rfl⟩
theorem e_orV {b : Bool} (h1 : b = true → Q (.bl true) H) (h2 : b = false → tb σ H Q) : cOrV tb σ Q (.bl b) H := ⟨b, rfl, by
  cases b with
  | true => exact h1 rfl
  | false => exact h2 rfl⟩
theorem k_notV (h : ta σ H (cNotV Q)) : tNotV ta σ H Q := h
def cIfE (ta tb : TE) (σ : L2.St) (Q : VK) : Bool → Hp → Prop := fun c H1 => if c = true then ta σ H1 Q else tb σ H1 Q
theorem k_ifE (h : tt σ H (cIfE ta tb σ Q)) : tIf tt ta tb σ H Q := h
theorem c_ifE {b : Bool} (h1 : b = true → ta σ H Q) (h2 : b = false → tb σ H Q) : cIfE ta tb σ Q b H := by
  cases b with
  | true => exact h1 rfl
  | false => exact h2 rfl
theorem c_ifEV {b : Bool} {v : V} (h1 : b = true → ∀ Q' : VK, Q' v H → ta σ H Q') (h2 : b = false → ∀ Q' : VK, Q' v H → tb σ H Q') (q : Q v H) : cIfE ta tb σ Q b H := by
  cases b with
  | true => exact h1 rfl _ q
  | false => exact h2 rfl _ q
theorem k_cons {Q : List V → Hp → Prop} (h : ta σ H fun x H1 => tr σ H1 fun xs H2 => Q (x :: xs) H2) : tCons ta tr σ H Q := h
theorem k_nil {Q : List V → Hp → Prop} (h : Q [] H) : tNil σ H Q := h
def cTup (Q : VK) : List V → Hp → Prop := fun xs H1 => xs.length ≤ sizeLine ∧ ∀ p, H1 p = none → Q (.ref p) (upd H1 p (.tup xs))
def cLst (Q : VK) : List V → Hp → Prop := fun xs H1 => xs.length ≤ sizeLine ∧ ∀ p, H1 p = none → Q (.ref p) (upd H1 p (.lst xs))
theorem k_tup (h : tr σ H (cTup Q)) : tTup tr σ H Q := h
theorem k_lst (h : tr σ H (cLst Q)) : tLst tr σ H Q := h
theorem k_call {sp : Sp} {dvs : List V} {E : XK} (h : tr σ H fun vs H1 => sp (vs ++ dvs) H1 Q E) : tCall sp dvs E tr σ H Q := h
theorem k_cb {r : List V → Hp → VK → Prop} (h : tr σ H fun vs H1 => r vs H1 Q) : tCB r tr σ H Q := h
theorem k_I0 {f : Int → Int → V} {a b : Int} (h : Q (f a b) H) : rI0 f (.int a) (.int b) H Q := ⟨a, b, rfl, rfl, h⟩
theorem k_I {C : Int → Int → Prop} {f : Int → Int → V} {a b : Int} (hc : C a b) (h : Q (f a b) H) : rI C f (.int a) (.int b) H Q := ⟨a, b, rfl, rfl, hc, h⟩
theorem k_U {f : Int → V} {a : Int} (h : Q (f a) H) : rU f (.int a) H Q := ⟨a, rfl, h⟩
theorem k_eq (hs : scal x y = true) (h : Q (.bl (decide (x = y))) H) : rEq x y H Q := ⟨hs, h⟩
theorem k_ne (hs : scal x y = true) (h : Q (.bl (!decide (x = y))) H) : rNe x y H Q := ⟨hs, h⟩
theorem k_eqI {a b : Int} (h : Q (.bl (decide (a = b))) H) : rEq (.int a) (.int b) H Q := ⟨rfl, by
  have e : decide (V.int a = V.int b) = decide (a = b) := by by_cases q : a = b <;> simp [q]
  rw [e]; exact h⟩
theorem k_neI {a b : Int} (h : Q (.bl (decide (a ≠ b))) H) : rNe (.int a) (.int b) H Q := ⟨rfl, by
  have e : (!decide (V.int a = V.int b)) = decide (a ≠ b) := by by_cases q : a = b <;> simp [q]
  rw [e]; exact h⟩
end

/-! ### answers that are known -/
section
variable {σ : L2.St} {H : Hp} {t u : TS} {D : Ends} {ta tb : TE} {tu : TT} {Q : VK} {x : V}
theorem k_eqS (hs : scal x x = true) (h : Q (.bl true) H) : rEq x x H Q := ⟨hs, by rw [decide_eq_true rfl]; exact h⟩
theorem k_neS (hs : scal x x = true) (h : Q (.bl false) H) : rNe x x H Q := ⟨hs, by rw [decide_eq_true rfl]; exact h⟩
theorem k_eqB {a b : Bool} (h : Q (.bl (decide (a = b))) H) : rEq (.bl a) (.bl b) H Q := ⟨rfl, by
  have e : decide (V.bl a = V.bl b) = decide (a = b) := by cases a <;> cases b <;> rfl
  rw [e]; exact h⟩
theorem e_andT (h : tb σ H Q) : cAndV tb σ Q (.bl true) H := ⟨true, rfl, h⟩
theorem e_andF (h : Q (.bl false) H) : cAndV tb σ Q (.bl false) H := ⟨false, rfl, h⟩
theorem e_orT (h : Q (.bl true) H) : cOrV tb σ Q (.bl true) H := ⟨true, rfl, h⟩
theorem e_orF (h : tb σ H Q) : cOrV tb σ Q (.bl false) H := ⟨false, rfl, h⟩
theorem e_notT (h : Q (.bl false) H) : cNotV Q (.bl true) H := ⟨true, rfl, h⟩
theorem e_notF (h : Q (.bl true) H) : cNotV Q (.bl false) H := ⟨false, rfl, h⟩
theorem e_notV {b : Bool} (h : Q (.bl (!b)) H) : cNotV Q (.bl b) H := ⟨b, rfl, h⟩
variable {Qb : Bool → Hp → Prop}
theorem c_andT (h : tu σ H Qb) : cAnd tu σ Qb true H := h
theorem c_andF (h : Qb false H) : cAnd tu σ Qb false H := h
theorem c_orT (h : Qb true H) : cOr tu σ Qb true H := h
theorem c_orF (h : tu σ H Qb) : cOr tu σ Qb false H := h
theorem c_ifET (h : ta σ H Q) : cIfE ta tb σ Q true H := h
theorem c_ifEF (h : tb σ H Q) : cIfE ta tb σ Q false H := h
def rIsNo : R2 := fun x y H Q => y = .non ∧ Q (.bl (decide (x = .non))) H
def rNotNo : R2 := fun x y H Q => y = .non ∧ Q (.bl (!decide (x = .non))) H
theorem op_isNo {X : Cx} : OpR X (compareOp .Is) rIsNo := op_isN
theorem op_notNo {X : Cx} : OpR X (compareOp .IsNot) rNotNo := op_notN
theorem k_isY (h : Q (.bl true) H) : rIsNo .non .non H Q := ⟨rfl, h⟩
theorem k_isX (hx : x ≠ .non) (h : Q (.bl false) H) : rIsNo x .non H Q := ⟨rfl, by rw [decide_eq_false hx]; exact h⟩
theorem k_ntY (h : Q (.bl false) H) : rNotNo .non .non H Q := ⟨rfl, h⟩
theorem k_ntX (hx : x ≠ .non) (h : Q (.bl true) H) : rNotNo x .non H Q := ⟨rfl, by rw [decide_eq_false hx]; exact h⟩
end

/-! ### defs, methods, classes by name -/
section
variable (P : Program) (w : World) (K : PySem.W.Frag) (mg : Str → Option Value) (base : Heap) (CX : CXT)
/-- a def of the top, as it is called: the name x, k the level -/
structure Cal (k : Nat) (x : Str) (ps : List Str) (sp : Sp) : Prop where
  ex : ∃ (f : Addr) (fd : FuncData), FnOk P w K mg base CX k f fd ps sp ∧ Binds K fd ps [] ∧ PySem.W.keepIn K (.ref f) = true ∧ mg x = some (.ref f)
/-- a method of the class at C -/
structure CalM (C : Addr) (k : Nat) (m : Str) (ps : List Str) (sp : Sp) : Prop where
  ex : ∃ (f : Addr) (fd : FuncData), FnOk P w K mg base CX k f fd ps sp ∧ Binds K fd ps [] ∧ Meth K C m f
/-- the class at C, called by the name x; sp: its __init__ 's -/
structure CalC (C : Addr) (k : Nat) (x : Str) (ps : List Str) (sp : Sp) : Prop where
  ex : ∃ (f : Addr) (fd : FuncData), FnOk P w K mg base CX k f fd ps sp ∧ Binds K fd ps [] ∧ Mk K C f ∧ mg x = some (.ref C)
end
section
variable {X : Cx} {CX : CXT} {k : Nat} {C : Addr} {ps : List Str} {sp : Sp} {E : XK} {x m : Str} {p pos apos : Pos} {e o : Expr} {es : List Expr} {ta : TE} {t : TA}
theorem pe_cal (c : Cal X.prog X.w X.K X.mg X.base CX k x ps sp) (hr : Room k X.A) (hx : Passes CX X E) (ha : PA X (e :: es) t) (hg : Gl X x := by rfl) (hdb : (x == ("__debug__" : Str)) = false := by decide)
    (he : starEach (e :: es) X.env = (false, eval e X.env) :: starEach es X.env := by rfl) (hpl : (backTo pos (starEach es X.env)).any (·.1) = false := by rfl) :
    PE X (.Call (.Name x p) (e :: es) [] pos) (tCall sp [] E t) := by
  obtain ⟨f, fd, F, b, kp, hm⟩ := c.ex
  exact pe_call F hr hg hm kp b .nil hx ha hdb he hpl
theorem pe_cal0 (c : Cal X.prog X.w X.K X.mg X.base CX k x ps sp) (hr : Room k X.A) (hx : Passes CX X E) (hg : Gl X x := by rfl) (hdb : (x == ("__debug__" : Str)) = false := by decide) :
    PE X (.Call (.Name x p) [] [] pos) (tCall sp [] E tNil) := by
  obtain ⟨f, fd, F, b, kp, hm⟩ := c.ex
  exact pe_call0 F hr hg hm kp b .nil hx hdb
theorem pe_calM {pl : Sem Bool} (he : PE X o ta) (c : Cls X.K C) (cm : CalM X.prog X.w X.K X.mg X.base CX C k m ps sp) (hr : Room k X.A) (hx : Passes CX X E) (ha : PA X (e :: es) t)
    (hst : starEach (e :: es) X.env = (false, eval e X.env) :: starEach es X.env := by rfl) (hpl : (backTo pos (starEach es X.env)).any (·.1) = false := by rfl)
    (ht : eval (.Call (.Attribute o m apos) (e :: es) [] pos) X.env = (do
      let ov ← eval o X.env
      standAt apos.atName
      let (f, first) ← holding [ov] (getMethod ov m pl)
      callWith pos f first (backTo pos (starEach (e :: es) X.env)) (backToKw pos (keywordEach [] X.env))) := by rfl) :
    PE X (.Call (.Attribute o m apos) (e :: es) [] pos) (tMeth C m sp [] E ta t) := by
  obtain ⟨f, fd, F, b, M⟩ := cm.ex
  exact pe_meth he c M F hr b .nil hx ha hst hpl ht
theorem pe_calM0 {pl : Sem Bool} (he : PE X o ta) (c : Cls X.K C) (cm : CalM X.prog X.w X.K X.mg X.base CX C k m ps sp) (hr : Room k X.A) (hx : Passes CX X E)
    (ht : eval (.Call (.Attribute o m apos) [] [] pos) X.env = (do
      let ov ← eval o X.env
      standAt apos.atName
      let (f, first) ← holding [ov] (getMethod ov m pl)
      callWith pos f first (backTo pos (starEach [] X.env)) (backToKw pos (keywordEach [] X.env))) := by rfl) :
    PE X (.Call (.Attribute o m apos) [] [] pos) (tMeth C m sp [] E ta tNil) := by
  obtain ⟨f, fd, F, b, M⟩ := cm.ex
  exact pe_meth0 he c M F hr b .nil hx ht
theorem pe_calC (c : CalC X.prog X.w X.K X.mg X.base CX C k x ps sp) (hr : Room (k + 1) X.A) (hx : Passes CX X E) (ha : PA X (e :: es) t) (hg : Gl X x := by rfl) (hdb : (x == ("__debug__" : Str)) = false := by decide)
    (he : starEach (e :: es) X.env = (false, eval e X.env) :: starEach es X.env := by rfl) (hpl : (backTo pos (starEach es X.env)).any (·.1) = false := by rfl) :
    PE X (.Call (.Name x p) (e :: es) [] pos) (tMake C sp [] E t) := by
  obtain ⟨f, fd, F, b, M, hm⟩ := c.ex
  exact pe_make M F hr hg hm b .nil hx ha hdb he hpl
end

/-! ### what is now, through the steps -/
section
variable {K : PySem.W.Frag} {D : Option Addr} {M : List Addr} {H0 H : Hp} {l : List Cel} {ts : List (Addr × List V)} {p a d : Addr} {o u : HO} {xs : List V} {Q : VK} {E : XK}
theorem g_tup (N : Now K D M H0 H l ts) (hl : xs.length ≤ 100000) (h : ∀ p H', Now K D M H0 H' l ((p, xs) :: ts) → Q (.ref p) H') : cTup Q xs H := ⟨Nat.le_trans hl (by decide), fun p hp => h p _ (N.newT hp)⟩
theorem g_lst (N : Now K D M H0 H l ts) (hl : xs.length ≤ 100000) (h : ∀ p H', Now K D M H0 H' (⟨true, p, .lst xs⟩ :: l) ts → Q (.ref p) H') : cLst Q xs H := ⟨Nat.le_trans hl (by decide), fun p hp => h p _ (N.newC hp trivial)⟩
/-- the dice's promise -/
def spNext (K : PySem.W.Frag) : Sp := fun vs H Q _ => ∃ (d : Addr) (n : Int), vs = [.ref d, .int n] ∧ Dice K H d ∧ 0 < n ∧ n < 1073741824 ∧ ∀ v H', Aft [d] H H' → Dice K H' d → 0 ≤ v → v < n → Q (.int v) H'
theorem g_next {n : Int} (N : Now K (some d) M H0 H l ts) (hn : 0 < n ∧ n < 1073741824) (h : ∀ v H', Now K (some d) M H0 H' l ts → 0 ≤ v → v < n → Q (.int v) H') : spNext K [.ref d, .int n] H Q E :=
  ⟨d, n, rfl, (N.dc d rfl).1, hn.1, hn.2, fun v H' A hd h0 h1 => h v H' (N.roll A hd) h0 h1⟩
end
end Ak
namespace Ak
open PySem PySem.Spec PyProof.Rows L2
/-! ### the built-ins stand, constants by name -/
structure Bt (mg : Str → Option Value) : Prop where
  m_len : mg "len" = none
  m_int : mg "int" = none
  m_isinstance : mg "isinstance" = none
  m_range : mg "range" = none
  m_sorted : mg "sorted" = none
  m_list : mg "list" = none
  m_tuple : mg "tuple" = none
  m_max : mg "max" = none
  m_min : mg "min" = none
  m_set : mg "set" = none
  m_str : mg "str" = none
  m_enumerate : mg "enumerate" = none
  m_bool : mg "bool" = none
  m_dict : mg "dict" = none
theorem pe_gint {X : Cx} {x : Str} {i : Int} {pos : Pos} (hg : Gl X x) (h : ∃ t, X.mg x = some (.int i t)) (hd : (x == ("__debug__" : Str)) = false := by decide) : PE X (.Name x pos) (tC (.int i)) := by
  obtain ⟨t, h⟩ := h
  exact pe_glob hg h ⟨t, rfl⟩ hd
theorem pe_gstr {X : Cx} {x : Str} {z : Str} {pos : Pos} (hg : Gl X x) (h : ∃ t, X.mg x = some (.str z t)) (hd : (x == ("__debug__" : Str)) = false := by decide) : PE X (.Name x pos) (tC (.str z)) := by
  obtain ⟨t, h⟩ := h
  exact pe_glob hg h ⟨t, rfl⟩ hd
theorem pe_gref {X : Cx} {x : Str} {a : Addr} {pos : Pos} (hg : Gl X x) (h : X.mg x = some (.ref a)) (hd : (x == ("__debug__" : Str)) = false := by decide) : PE X (.Name x pos) (tC (.ref a)) := pe_glob hg h rfl hd

/-! ### readings by name -/
section
variable {X : Cx} {K : PySem.W.Frag} {H : Hp} {Q : VK} {p : Addr} {xs : List V}
def rLn (K : PySem.W.Frag) : List V → Hp → VK → Prop := fun xs H Q => ∃ p ys, xs = [.ref p] ∧ (SqL K H p ys ∨ SqT K H p ys) ∧ Q (.int ys.length) H
theorem cr_ln : CallR X (.builtin "len") (rLn X.K) := call_len_seq
theorem g_lnL (h : SqL K H p xs) (q : Q (.int xs.length) H) : rLn K [.ref p] H Q := ⟨p, xs, rfl, .inl h, q⟩
theorem g_lnT (h : SqT K H p xs) (q : Q (.int xs.length) H) : rLn K [.ref p] H Q := ⟨p, xs, rfl, .inr h, q⟩
def rIntB : List V → Hp → VK → Prop := fun xs H Q => ∃ k, xs = [.bl k] ∧ Q (.int (if k then 1 else 0)) H
theorem cr_intB : CallR X (.type "int") rIntB := fun pins s σ H xs us Q I r h => call_int1 pins s σ H xs us Q I r (.inr h)
theorem g_intB {b : Bool} (q : Q (.int (if b then 1 else 0)) H) : rIntB [.bl b] H Q := ⟨b, rfl, q⟩
theorem g_ixL {i : Int} {v : V} (h : SqL K H p xs) (ha : atI xs i = some v) (q : Q v H) : rIxL K (.ref p) (.int i) H Q := ⟨p, xs, i, v, rfl, rfl, h, ha, q⟩
theorem g_ixT {i : Int} {v : V} (h : SqT K H p xs) (ha : atI xs i = some v) (q : Q v H) : rIxT K (.ref p) (.int i) H Q := ⟨p, xs, i, v, rfl, rfl, h, ha, q⟩
theorem g_setL {Q : Hp → Prop} {i : Int} {j : Nat} {v : V} (h : H p = some (.lst xs)) (hi : ixN xs.length i = some j) (q : Q (upd H p (.lst (xs.set j v)))) : rSetL (.ref p) (.int i) v H Q := ⟨p, xs, i, j, rfl, rfl, h, hi, q⟩
section
variable {D : Option Addr} {M : List Addr} {H0 : Hp} {l : List Cel} {ts : List (Addr × List V)} {c0 c1 c2 c3 : Cel} {i : Int} {j : Nat} {v : V} {Qh : Hp → Prop}
theorem g_set0 (N : Now K D M H0 H (⟨true, p, .lst xs⟩ :: l) ts) (hi : ixN xs.length i = some j) (q : ∀ H', Now K D M H0 H' (⟨true, p, .lst (xs.set j v)⟩ :: l) ts → Qh H') : rSetL (.ref p) (.int i) v H Qh := g_setL (N.cell 0 rfl) hi (q _ (N.put 0 rfl trivial))
theorem g_set1 (N : Now K D M H0 H (c0 :: ⟨true, p, .lst xs⟩ :: l) ts) (hi : ixN xs.length i = some j) (q : ∀ H', Now K D M H0 H' (c0 :: ⟨true, p, .lst (xs.set j v)⟩ :: l) ts → Qh H') : rSetL (.ref p) (.int i) v H Qh := g_setL (N.cell 1 rfl) hi (q _ (N.put 1 rfl trivial))
def rApp (K : PySem.W.Frag) : V → List V → Hp → VK → Prop := fun x vs H Q => ∃ l xs y, x = .ref l ∧ vs = [y] ∧ H l = some (.lst xs) ∧ xs.length < sizeLine ∧ Q .non (upd H l (.lst (xs ++ [y])))
theorem g_app0 (N : Now K D M H0 H (⟨true, p, .lst xs⟩ :: l) ts) (hz : xs.length < 100000) (q : ∀ H', Now K D M H0 H' (⟨true, p, .lst (xs ++ [v])⟩ :: l) ts → Q .non H') : rAppend (.ref p) [v] H Q := ⟨p, xs, v, rfl, rfl, N.cell 0 rfl, Nat.lt_of_lt_of_le hz (by decide), q _ (N.put 0 rfl trivial)⟩
theorem g_app1 (N : Now K D M H0 H (c0 :: ⟨true, p, .lst xs⟩ :: l) ts) (hz : xs.length < 100000) (q : ∀ H', Now K D M H0 H' (c0 :: ⟨true, p, .lst (xs ++ [v])⟩ :: l) ts → Q .non H') : rAppend (.ref p) [v] H Q := ⟨p, xs, v, rfl, rfl, N.cell 1 rfl, Nat.lt_of_lt_of_le hz (by decide), q _ (N.put 1 rfl trivial)⟩
end
theorem k_gsub {σ : L2.St} {to ti : TE} {t : TSet} {v : V} {Q : L2.St → Hp → Prop} (h : to σ H fun o H1 => ti σ H1 fun i H2 => t o i v H2 fun H3 => Q σ H3) : gSub to ti t v σ H Q := h
end
/-! ### o.f = .. among several targets -/
def gAttr (K : PySem.W.Frag) (ta : TE) (f : Str) : TG := fun v σ H Q => ta σ H fun x H2 => ∃ a C dx fs, x = .ref a ∧ H2 a = some (.ins C dx fs) ∧ Cls K C ∧ NoAttr K C f ∧ fs.length < 1000 ∧ Q σ (upd H2 a (.ins C dx (putF f v fs)))
theorem pg_attr {X : Cx} {o : Expr} {f : Str} {pos : Pos} {ta : TE} (ha : PE X o ta) : PG X (.Attribute o f pos) (gAttr X.K ta f) := by
  refine ⟨fun pins s σ H v u Q I r h => ?_⟩
  refine PySem.W.kas_attr (thn (ha.run pins s σ H _ I h) fun ov s2 ⟨x, H2, I2, rx, a, C, dx, fs, ex, ea, c, n, l, q2⟩ => ?_)
  subst ex
  obtain rfl : ov = Value.ref a := rx
  exact setattr_ok I2 ea c n l r fun s3 I3 => ⟨σ, _, I3, q2⟩

/-! ### sorted of a dict with int keys, any number of them -/
def rSortedDA : List V → Hp → VK → Prop := fun xs H Q => ∃ (a : Addr) (kvs : List (Key × V)) (ks : List Int), xs = [.ref a] ∧ Rd H a (.dK kvs) ∧ kvs.map (·.1) = ks.map Sum.inl ∧
    ∀ (ys : List Int) (p : Addr), ys.Perm ks → ys.Pairwise (· ≤ ·) → H p = none → Q (.ref p) (upd H p (.lst (ys.map V.int)))
theorem call_sortedDA {X : Cx} (hcalm : X.calm = true) : CallR X (.builtin "sorted") rSortedDA := by
  intro pins s σ H xs us Q I r q
  obtain ⟨a, kvs, ks, ex, hd, hks, q⟩ := q
  subst ex
  obtain ⟨u, eu, rx⟩ := vals1 r
  subst eu
  cases rx
  obtain ⟨z, lo, vs, rel, dd⟩ := dk_rd I.hok hd
  obtain ⟨ep, hat⟩ := dd.dictAt
  have hkeys : vs.map (·.1) = ks.map Sum.inl := rel.keys.symm.trans hks
  have hl : vs.length = ks.length := by
    have e := congrArg List.length hkeys
    rw [List.length_map, List.length_map] at e
    exact e
  have hl2 : kvs.length = ks.length := by
    have e := congrArg List.length hks
    rw [List.length_map, List.length_map] at e
    exact e
  have h16 : vs.length ≤ sizeLine := by rw [hl, ← hl2]; exact z
  refine Calls.call_function_entry PyProof.Rows.kind_sorted PyProof.Rows.plain_sorted PyProof.Rows.entry_sorted (PyProof.Rows.args_sorted1 _) ?_
  unfold Builtin.«sorted»
  refine wpAny_bind (m := checkCount "sorted" 1 1 _) (wpAny_pure ?_)
  refine wpAny_bind (PySem.W.kdu_collect (A := X.A.in1) (PySem.W.kdl_dict (knd := mixKind X.prog X.w) (kvs := vs) (ep := ep) lo) (I.ok.hd hcalm) hat h16 fun h' tk acc hk hacc => ?_)
  have hal : acc.toList.length = ks.length := by rw [Array.length_toList, hacc.1, hl]
  have hS : IntsAre acc.toList ks := ints_each hal fun j v e => by
    obtain ⟨k, x, e1, e2⟩ := hacc.2 j v (by rw [← Array.getElem?_toList]; exact e)
    have e3 : (vs.map (·.1))[j]? = some k := by rw [List.getElem?_map, e1]; rfl
    rw [hkeys, List.getElem?_map] at e3
    cases e4 : ks[j]? with
    | none => rw [e4] at e3; cases e3
    | some y =>
      rw [e4] at e3
      have e5 : Sum.inl y = k := Option.some.inj e3
      subst e5
      rcases keyIs_shape (show keyIs (Sum.inl y) v = true from e2) with ⟨i, t, ek, ev⟩ | ⟨z, t, ek, ev⟩
      · cases ek
        exact ⟨y, t, rfl, ev⟩
      · cases ek
  have I1 : Inv X pins σ H { s with heap := h', toks := tk } := I.kept hk
  have hz2 : acc.toList.length ≤ sizeLine := by rw [hal, ← hl]; exact h16
  refine wpAny_bind (wpAny_newList ?_ hz2)
  have hoL : (h'.push (seqObj "list" acc.toList.toArray 0)).get? h'.objs.size = some (seqObj "list" acc.toList.toArray 0) := Heap.get?_push_size _ rfl
  show wpAny _ _ _ _ _ { s with heap := h'.push (seqObj "list" acc.toList.toArray 0), toks := tk }
  refine wpAny_bind (wpAny_holding (wpAny_call_entry PyProof.Rows.slot_list_sort ⟨_, hoL, rfl⟩ PyProof.Rows.entry_list_sort
    (SrtO.list_sort_ord (s := { s with heap := h'.push (seqObj "list" acc.toList.toArray 0), toks := tk }) SrtO.swo_int hoL hz2 (fun h2 => SrtO.ints_sortable hS h2) fun out h1 h2 => ⟨_, rfl, ?_⟩) (PyProof.Rows.args_list_sort _)))
  obtain ⟨k1, k2, k3⟩ := SrtO.ints_out hS h1 h2
  obtain ⟨e', he'⟩ := PyProof.Rows.sortedHeap_at (vs := acc.toList) (out := out.toArray) hoL
  have hlen : ((out.map SrtO.iv).map V.int).length ≤ sizeLine := by
    rw [List.length_map, k2.length_eq, ← hl]
    exact h16
  refine wpAny_pure ⟨_, rfl, .ref h'.objs.size, upd H h'.objs.size (.lst ((out.map SrtO.iv).map V.int)), I1.laid (t' := tk) (fun b u e => ?_) (Nat.le_refl _)
    (show ObjOk X.prog X.w _ _ _ (.lst ((out.map SrtO.iv).map V.int)) from ⟨hlen, out, e', vals_of_ints k1, he'⟩), rfl, q _ _ k2 k3 (I1.hok.fresh (Nat.le_refl _))⟩
  have hb : b < h'.objs.size := Heap.lt_size e
  rw [PyProof.Rows.sortedHeap_old (Nat.ne_of_lt hb) (by rw [size_push']; exact Nat.lt_succ_of_lt hb)]
  exact Heap.get?_push_of_some _ e

/-! ### a def of the text by name -/
def Bd (x qual : Str) (st : Stmt) (ps : List Str) : Prop := ∀ (kV doc pm : Value) (an : Option Addr) (cdv ct : Value) (us : List Value), us.length = ps.length → bindArgs (PySem.W.fnOf x qual (defArgs st) (defBody st) (defScope st) .none kV doc pm an cdv ct) ⟨us, []⟩ = pure (ps.zip us)
structure Def (K : PySem.W.Frag) (mg : Str → Option Value) (x : Str) (st : Stmt) : Prop where
  ex : ∃ (f : Addr) (fd : FuncData), FunD K x x (defArgs st) (defBody st) (defScope st) [] [] f fd ∧ mg x = some (.ref f)
structure DefM (K : PySem.W.Frag) (C : Addr) (m qual : Str) (st : Stmt) : Prop where
  ex : ∃ (f : Addr) (fd : FuncData), FunD K m qual (defArgs st) (defBody st) (defScope st) [] [] f fd ∧ Meth K C m f
structure DefC (K : PySem.W.Frag) (mg : Str → Option Value) (C : Addr) (x qual : Str) (st : Stmt) : Prop where
  ex : ∃ (f : Addr) (fd : FuncData), FunD K "__init__" qual (defArgs st) (defBody st) (defScope st) [] [] f fd ∧ Mk K C f ∧ mg x = some (.ref C)
section
variable {P : Program} {w : World} {K : PySem.W.Frag} {mg : Str → Option Value} {base : Heap} {CX : CXT} {x m qual : Str} {st : Stmt} {N ps : List Str} {k : Nat} {sp : Sp} {C : Addr}
theorem Def.ok (F : Def K mg x st) (S : FnScope N ps (defScope st)) (b : Bd x x st ps) (len : ∀ vs H Q E, sp vs H Q E → vs.length = ps.length)
    (hbody : ∀ (f : Addr) (cdv : Value) (A : Around) (outer : List Env) (s : Shared) (H : Hp) (vs : List V) (Q : VK) (E : XK), Room k (A.deeper (envOfC x (defScope st) s.heap.objs.size f cdv)) → sp vs H Q E →
      ∃ t, PSs (cxOf CX P w K mg base N x (defScope st) f cdv A outer s H E) (defBody st) t ∧ t { nx := fun _ H' => Q .non H', rt := Q } (start N vs) H) : Cal P w K mg base CX (k + 1) x ps sp := by
  obtain ⟨f, fd, F, hm⟩ := F.ex
  exact ⟨f, fd, F.ok S len (hbody f), F.bindsN b, F.kp, hm⟩
theorem DefM.ok (F : DefM K C m qual st) (S : FnScope N ps (defScope st)) (b : Bd m qual st ps) (len : ∀ vs H Q E, sp vs H Q E → vs.length = ps.length)
    (hbody : ∀ (f : Addr) (cdv : Value) (A : Around) (outer : List Env) (s : Shared) (H : Hp) (vs : List V) (Q : VK) (E : XK), Room k (A.deeper (envOfC qual (defScope st) s.heap.objs.size f cdv)) → sp vs H Q E →
      ∃ t, PSs (cxOf CX P w K mg base N qual (defScope st) f cdv A outer s H E) (defBody st) t ∧ t { nx := fun _ H' => Q .non H', rt := Q } (start N vs) H) : CalM P w K mg base CX C (k + 1) m ps sp := by
  obtain ⟨f, fd, F, hm⟩ := F.ex
  exact ⟨f, fd, F.ok S len (hbody f), F.bindsN b, hm⟩
theorem DefC.ok (F : DefC K mg C x qual st) (S : FnScope N ps (defScope st)) (b : Bd "__init__" qual st ps) (len : ∀ vs H Q E, sp vs H Q E → vs.length = ps.length)
    (hbody : ∀ (f : Addr) (cdv : Value) (A : Around) (outer : List Env) (s : Shared) (H : Hp) (vs : List V) (Q : VK) (E : XK), Room k (A.deeper (envOfC qual (defScope st) s.heap.objs.size f cdv)) → sp vs H Q E →
      ∃ t, PSs (cxOf CX P w K mg base N qual (defScope st) f cdv A outer s H E) (defBody st) t ∧ t { nx := fun _ H' => Q .non H', rt := Q } (start N vs) H) : CalC P w K mg base CX C (k + 1) x ps sp := by
  obtain ⟨f, fd, F, M, hm⟩ := F.ex
  exact ⟨f, fd, F.ok S len (hbody f), F.bindsN b, M, hm⟩
end
end Ak
namespace Ak
open PySem PySem.Spec PyProof.Rows L2
/-! ### data: what _law_like compares -/
section
variable {K : PySem.W.Frag} {H H' : Hp} {M : List Addr}
theorem Aft.sql (e : Aft [] H H') {a : Addr} {xs : List V} (h : SqL K H a xs) : SqL K H' a xs := by
  rcases h with (h | ⟨o, h⟩) | h
  · exact .inl (.inl (e.k _ _ h (by simp)))
  · exact .inl (.inr ⟨o, e.z _ _ _ h⟩)
  · exact .inr h
mutual
theorem dp_keep (e : Aft [] H H') : ∀ {d : PyData} {v : V}, Dp K H v d → Dp K H' v d
  | .none, _, h => by cases h; exact .non
  | .bool b, _, h => by cases h; exact .bl b
  | .int i, _, h => by cases h; exact .int i
  | .str x, _, h => by cases h; exact .str x
  | .list ds, _, h => by
    cases h with
    | lst h1 h2 => exact .lst (e.sql h1) (dpa_keep e h2)
  | .tuple ds, _, h => by
    cases h with
    | tup h1 h2 => exact .tup (e.sqt h1) (dpa_keep e h2)
theorem dpa_keep (e : Aft [] H H') : ∀ {ds : List PyData} {vs : List V}, DpAll K H vs ds → DpAll K H' vs ds
  | [], _, h => by cases h; exact .nil
  | d :: ds, _, h => by
    cases h with
    | cons h1 h2 => exact .cons (dp_keep e h1) (dpa_keep e h2)
end
theorem dpa_len : ∀ {ds : List PyData} {vs : List V}, DpAll K H vs ds → vs.length = ds.length
  | _, _, .nil => rfl
  | _, _, .cons _ t => congrArg (· + 1) (dpa_len t)
theorem dpa_at : ∀ {ds : List PyData} {vs : List V}, DpAll K H vs ds → ∀ (i : Nat) (h : i < ds.length), ∃ v, vs[i]? = some v ∧ Dp K H v ds[i]
  | _, _, .nil, i, h => absurd h (by simp)
  | _, _, .cons h1 _, 0, _ => ⟨_, rfl, h1⟩
  | _, _, .cons _ t, i + 1, h => by
    obtain ⟨v, h1, h2⟩ := dpa_at t i (by simpa using h)
    exact ⟨v, by simpa using h1, by simpa using h2⟩
theorem dpa_ints : ∀ ns : List Int, DpAll K H (ns.map V.int) (ns.map PyData.int)
  | [] => .nil
  | n :: ns => .cons (.int n) (dpa_ints ns)
/-- how deep, how long -/
def dOk : Nat → PyData → Prop
  | 0, .list _ => False
  | 0, .tuple _ => False
  | n + 1, .list ds => ds.length ≤ 100000 ∧ ∀ d ∈ ds, dOk n d
  | n + 1, .tuple ds => ds.length ≤ 100000 ∧ ∀ d ∈ ds, dOk n d
  | _, _ => True
/-- what isinstance asks -/
theorem sql_ty {a : Addr} {xs : List V} (h : SqL K H a xs) : TyX K H (.ref a) (.type "list") := by
  rcases h with (h | ⟨o, h⟩) | ⟨o, its, n, h1, h2, _⟩
  · exact .base (.lst h)
  · exact .base (.frz h)
  · exact .kList h1 h2
theorem sqt_ty {a : Addr} {xs : List V} (h : SqT K H a xs) : TyX K H (.ref a) (.type "tuple") := by
  rcases h with (h | ⟨o, h⟩) | ⟨o, its, n, h1, h2, _⟩
  · exact .base (.tup h)
  · exact .fTuple h
  · exact .kTuple h1 h2
theorem tyx_non : TyX K H .non (.type "NoneType") := .base .non
theorem tyx_bl {b : Bool} : TyX K H (.bl b) (.type "bool") := .base (.bl b)
theorem tyx_int {b : Int} : TyX K H (.int b) (.type "int") := .base (.int b)
theorem tyx_str {b : Str} : TyX K H (.str b) (.type "str") := .base (.str b)
theorem g_isi {x : V} {a b : String} {r : Bool} {Q : VK} (ht : TyX K H x (.type a)) (hk : kitB a b = some r) (q : Q (.bl r) H) : rIsi K [x, .ty b] H Q := ⟨x, .ty b, .type a, .type b, r, rfl, .ty b, ht, kit_ty hk, q⟩
theorem g_ixQ {p : Addr} {xs : List V} {i : Int} {v : V} {Q : VK} (h : SqL K H p xs ∨ SqT K H p xs) (ha : atI xs i = some v) (q : Q v H) : rIx K (.ref p) (.int i) H Q := by
  rcases h with h | h
  · exact .inl ⟨p, xs, i, v, rfl, rfl, h, ha, q⟩
  · exact .inr (.inl ⟨p, xs, i, v, rfl, rfl, h, ha, q⟩)
/-- the promise, by depth -/
def spLike (K : PySem.W.Frag) : Nat → Sp
  | 0 => fun _ _ _ _ => False
  | n + 1 => fun vs H Q _ => ∃ (x y : V) (d : PyData), vs = [x, y] ∧ Dp K H x d ∧ Dp K H y d ∧ dOk n d ∧ ∀ H', Aft [] H H' → Q (.bl true) H'
theorem kb_bb : kitB "bool" "bool" = some true := by decide +kernel
theorem kb_ib : kitB "int" "bool" = some false := by decide +kernel
theorem kb_sb : kitB "str" "bool" = some false := by decide +kernel
theorem kb_nb : kitB "NoneType" "bool" = some false := by decide +kernel
theorem kb_lb : kitB "list" "bool" = some false := by decide +kernel
theorem kb_tb : kitB "tuple" "bool" = some false := by decide +kernel
theorem kb_is : kitB "int" "str" = some false := by decide +kernel
theorem kb_ss : kitB "str" "str" = some true := by decide +kernel
theorem kb_ns : kitB "NoneType" "str" = some false := by decide +kernel
theorem kb_ls : kitB "list" "str" = some false := by decide +kernel
theorem kb_ts : kitB "tuple" "str" = some false := by decide +kernel
theorem kb_ii : kitB "int" "int" = some true := by decide +kernel
theorem kb_ni : kitB "NoneType" "int" = some false := by decide +kernel
theorem kb_li : kitB "list" "int" = some false := by decide +kernel
theorem kb_ti : kitB "tuple" "int" = some false := by decide +kernel
theorem kb_ld : kitB "list" "dict" = some false := by decide +kernel
theorem kb_td : kitB "tuple" "dict" = some false := by decide +kernel
theorem kb_lt : kitB "list" "tuple" = some false := by decide +kernel
theorem kb_tt : kitB "tuple" "tuple" = some true := by decide +kernel
theorem kb_ll : kitB "list" "list" = some true := by decide +kernel
theorem kb_tl : kitB "tuple" "list" = some false := by decide +kernel
theorem kb_il : kitB "int" "list" = some false := by decide +kernel
end
/-! ### the rules with their written part told -/
section
variable {X : Cx} {e o : Expr} {es : List Expr} {te to tl ta tv : TE} {t : TA} {f : Str} {pos apos cpos pos' : Pos} {name : Str} {T id : String} {r : V → List V → Hp → VK → Prop} {value : Expr} {tg : Expr} {l : Expr}
theorem ix_listK (K : PySem.W.Frag) (h : X.K = K) : IxR X (rIxL K) := h ▸ ix_list
theorem ix_tupK (K : PySem.W.Frag) (h : X.K = K) : IxR X (rIxT K) := h ▸ ix_tup
theorem ix_seqK (K : PySem.W.Frag) (h : X.K = K) : IxR X (rIx K) := h ▸ ix_seq
theorem op_in_seqK (K : PySem.W.Frag) (h : X.K = K) : OpR X (compareOp .In) (rIn K false) := h ▸ op_in_seq
theorem op_notIn_seqK (K : PySem.W.Frag) (h : X.K = K) : OpR X (compareOp .NotIn) (rIn K true) := h ▸ op_notIn_seq
theorem cr_lnK (K : PySem.W.Frag) (h : X.K = K) : CallR X (.builtin "len") (rLn K) := h ▸ cr_ln
theorem call_isiQ (K : PySem.W.Frag) (h : X.K = K) : CallR X (.builtin "isinstance") (rIsi K) := h ▸ call_isi
theorem sl_listK (K : PySem.W.Frag) (h : X.K = K) : SlR X (rSlL K) := h ▸ sl_list
theorem op_eqDK (K : PySem.W.Frag) (h : X.K = K) (hu : X.A.units + 64 < cLine) : OpR X (compareOp .Eq) (rEqD K) := h ▸ op_eqD hu
theorem op_neDK (K : PySem.W.Frag) (h : X.K = K) (hu : X.A.units + 64 < cLine) : OpR X (compareOp .NotEq) (rNeD K) := h ▸ op_neD hu
theorem pe_fldK (K : PySem.W.Frag) (h : X.K = K) (he : PE X e te) (hb : attributeBase e f X.env (eval e X.env) = eval e X.env) : PE X (.Attribute e f pos) (tFld K te f) := h ▸ pe_fld he hb
theorem pe_bm0K (K : PySem.W.Frag) (h : X.K = K) (pa : PlainAttrs T) (slot : Slot T name id) (hty : typeOf (.builtin id) = pure (.type "method_descriptor")) (hm : MtR X id r) (ho : PE X o to)
    (hbase : attributeBase o name X.env (eval o X.env) = eval o X.env := by rfl) (hline : (apos.endLine == cpos.line) = true := by rfl) : PE X (.Call (.Attribute o name apos) [] [] cpos) (tBM0 K T r to) := h ▸ pe_bm0 pa slot hty hm ho hbase hline
theorem pe_bmK (K : PySem.W.Frag) (h : X.K = K) (pa : PlainAttrs T) (slot : Slot T name id) (hty : typeOf (.builtin id) = pure (.type "method_descriptor")) (hm : MtR X id r) (ho : PE X o to) (ha : PA X (e :: es) t)
    (hbase : attributeBase o name X.env (eval o X.env) = eval o X.env := by rfl)
    (hfew : ((backTo cpos (starEach (e :: es) X.env)).all (fun x => !x.1) && (backToKw cpos (keywordEach [] X.env)).all (fun x => x.1.isSome)
      && decide ((e :: es).length + ([] : List Keyword).length + (if ([] : List Keyword).isEmpty then 0 else 1) < 30)) = true := by rfl)
    (hline : (apos.endLine == cpos.line) = true := by rfl) (hs : starEach (e :: es) X.env = (false, eval e X.env) :: starEach es X.env := by rfl) (hplain : (backTo cpos (starEach es X.env)).any (·.1) = false := by rfl) :
    PE X (.Call (.Attribute o name apos) (e :: es) [] cpos) (tBM K T r to t) := h ▸ pe_bm pa slot hty hm ho ha hbase hfew hline hs hplain
theorem ps_fldK (K : PySem.W.Frag) (h : X.K = K) (ha : PE X o ta) (hv : PE X value tv) (hs : swapsWith value (some (.Attribute o f pos')) pos.line X.env = pure false) : PS X (.Assign [.Attribute o f pos'] value pos) (sFld K ta tv f) := h ▸ ps_fld ha hv hs
theorem pi_listK (K : PySem.W.Frag) (h : X.K = K) (hl : PE X l tl) : PI X tg l (iList K tl) := h ▸ pi_list hl
theorem pi_tupK (K : PySem.W.Frag) (h : X.K = K) (hl : PE X l tl) : PI X tg l (iTup K tl) := h ▸ pi_tup hl
theorem cr_sortedIK (K : PySem.W.Frag) (h : X.K = K) : CallR X (.builtin "sorted") (rSortedI K) := h ▸ cr_sortedI
end
/-- a def that is never called keeps what it likes -/
theorem cal_never {P : Program} {w : World} {K : PySem.W.Frag} {mg : Str → Option Value} {base : Heap} {CX : CXT} {x : Str} {st : Stmt} {ps : List Str} (F : Def K mg x st) (b : Bd x x st ps) : Cal P w K mg base CX 1 x ps (fun _ _ _ _ => False) := by
  obtain ⟨f, fd, F, hm⟩ := F.ex
  exact ⟨f, fd, ⟨fun _ _ _ _ h => h.elim, fun _ _ _ _ _ _ _ _ _ _ _ _ _ h => h.elim⟩, F.bindsN b, F.kp, hm⟩
theorem Cal.mono {P : Program} {w : World} {K : PySem.W.Frag} {mg : Str → Option Value} {base : Heap} {CX : CXT} {x : Str} {ps : List Str} {j k : Nat} {sp : Sp} (c : Cal P w K mg base CX j x ps sp) (h : j ≤ k) : Cal P w K mg base CX k x ps sp := by
  obtain ⟨f, fd, F, r⟩ := c.ex
  exact ⟨f, fd, F.mono h, r⟩
end Ak
namespace Ak
open PySem PySem.Spec PyProof.Rows L2
section
variable {K : PySem.W.Frag} {D : Option Addr} {M M' : List Addr} {H0 H H' : Hp} {l l' r fp fp' : List Cel} {ts ts' : List (Addr × List V)} {p q a d : Addr} {o u : HO} {xs : List V} {c : Cel} {w : Bool}
/-- an object that H does not know may change as it likes -/
theorem Aft.own (a : Aft M H H') (hp : H p = none) : Aft M H (upd H' p o) :=
  ⟨fun b v e hm => by rw [upd_ne (ne_of_none e hp)]; exact a.k b v e hm, fun b xs e => by rw [upd_ne (ne_of_none e hp)]; exact a.t b xs e, fun b v w e => by rw [upd_ne (ne_of_none e hp)]; exact a.z b v w e⟩
/-- something new that is no cell -/
theorem Now.alloc (N : Now K D M H0 H l ts) (hp : H p = none) : Now K D M H0 (upd H p o) l ts := N.pure (Aft.refl.new hp)
/-- a call, l = fp ++ r: fp becomes fp' -/
structure Aftr (fp fp' : List Cel) (H H' : Hp) : Prop where
  af : Aft (fp.map Cel.a) H H'
  nd : (fp'.map Cel.a).Nodup
  at_ : ∀ c ∈ fp', H' c.a = some c.o ∧ Mut (some c.o)
  nw : ∀ c ∈ fp', c.w = true ∧ (c.a ∈ fp.map Cel.a ∨ H c.a = none)
theorem Now.done (N : Now K D (fp.map Cel.a) H H' fp' ts) (hw : ∀ c ∈ fp', c.w = true) : Aftr fp fp' H H' :=
  ⟨N.af, N.nd, fun c hc => ⟨N.at_ c hc, N.mu c hc⟩, fun c hc => ⟨hw c hc, N.ow c hc (hw c hc)⟩⟩
theorem Now.call (N : Now K D M H0 H (fp ++ r) ts) (hw : ∀ c ∈ fp, c.w = true) (A : Aftr fp fp' H H') : Now K D M H0 H' (fp' ++ r) ts := by
  have nd := N.nd
  rw [List.map_append, List.nodup_append] at nd
  obtain ⟨nd1, nd2, dis⟩ := nd
  have mr : ∀ c ∈ r, c.a ∉ fp.map Cel.a := fun c hc m => dis _ m _ (List.mem_map.mpr ⟨c, hc, rfl⟩) rfl
  have fpw : ∀ a ∈ fp.map Cel.a, a ∈ M ∨ H0 a = none := fun a m => by
    obtain ⟨c, hc, rfl⟩ := List.mem_map.mp m
    exact N.ow c (List.mem_append_left _ hc) (hw c hc)
  refine ⟨?_, fun c hc => ?_, fun c hc => ?_, fun c hc hcw => ?_, fun q hq => A.af.t _ _ (N.tp q hq), N.af.call A.af fpw, fun d e => ?_⟩
  · rw [List.map_append, List.nodup_append]
    refine ⟨A.nd, nd2, fun a m b m' => ?_⟩
    rintro rfl
    obtain ⟨c, hc, rfl⟩ := List.mem_map.mp m
    obtain ⟨c', hc', e⟩ := List.mem_map.mp m'
    rcases (A.nw c hc).2 with z | z
    · exact mr c' hc' (e ▸ z)
    · have y := N.at_ c' (List.mem_append_right _ hc')
      rw [e, z] at y; cases y
  · rcases List.mem_append.mp hc with hc | hc
    · exact (A.at_ c hc).1
    · exact A.af.k _ _ (N.at_ c (List.mem_append_right _ hc)) (mr c hc)
  · rcases List.mem_append.mp hc with hc | hc
    · exact (A.at_ c hc).2
    · exact N.mu c (List.mem_append_right _ hc)
  · rcases List.mem_append.mp hc with hc | hc
    · rcases (A.nw c hc).2 with z | z
      · exact fpw _ z
      · by_cases m : c.a ∈ M
        · exact .inl m
        · exact .inr (N.af.free m z)
    · exact N.ow c (List.mem_append_right _ hc) hcw
  · obtain ⟨h1, h2, h3⟩ := N.dc d e
    rw [List.map_append, List.mem_append, not_or] at h3
    refine ⟨h1.keep A.af h3.1, h2, ?_⟩
    rw [List.map_append, List.mem_append, not_or]
    refine ⟨fun m => ?_, h3.2⟩
    obtain ⟨c, hc, e⟩ := List.mem_map.mp m
    rcases (A.nw c hc).2 with z | z
    · exact h3.1 (e ▸ z)
    · obtain ⟨ys, hy⟩ := h1.lst
      rw [e, hy] at z; cases z
/-- a call whose footprint is the front, written l = fp ++ r -/
theorem Now.perm (N : Now K D M H0 H l ts) (h : l'.Perm l) : Now K D M H0 H l' ts := N.sub l' (fun c hc => h.mem_iff.mp hc) ((h.map Cel.a).nodup_iff.mpr N.nd)
/-- some of the cells, by their places -/
theorem Now.sel (N : Now K D M H0 H l ts) (is : List Nat) (h : is.map (fun i => l[i]?) = l'.map some) (hn : is.Nodup) : Now K D M H0 H l' ts := by
  have at_ : ∀ (j : Nat) (c : Cel), l'[j]? = some c → ∃ i, is[j]? = some i ∧ l[i]? = some c := fun j c e => by
    have e1 : (l'.map some)[j]? = some (some c) := by rw [List.getElem?_map, e]; rfl
    rw [← h, List.getElem?_map] at e1
    cases e2 : is[j]? with
    | none => rw [e2] at e1; cases e1
    | some i => rw [e2] at e1; exact ⟨i, rfl, Option.some.inj e1⟩
  refine N.sub l' (fun c hc => ?_) ?_
  · obtain ⟨j, hj⟩ := List.getElem?_of_mem hc
    obtain ⟨i, _, e⟩ := at_ j c hj
    exact List.mem_of_getElem? e
  · refine List.pairwise_iff_getElem.mpr fun i j hi hj hij e => ?_
    have hi' : i < l'.length := by simpa using hi
    have hj' : j < l'.length := by simpa using hj
    rw [List.getElem_map, List.getElem_map] at e
    obtain ⟨a, ha, ea⟩ := at_ i _ (List.getElem?_eq_getElem hi')
    obtain ⟨b, hb, eb⟩ := at_ j _ (List.getElem?_eq_getElem hj')
    have q := nodup_at N.nd ea eb e
    subst q
    exact absurd (nd_ix hn ha hb) (by omega)
/-- a new cell that a call laid -/
theorem Now.grow (N : Now K D M H0 H l ts) (N' : Now K D M H0 H' l' ts') (hl : ∀ a ∈ l'.map Cel.a, a ∈ l.map Cel.a ∨ a ≠ q) (hq : H q = none) (h : H' q = some o) (hm : Mut (some o)) : Now K D M H0 H' (⟨true, q, o⟩ :: l') ts' where
  nd := List.nodup_cons.mpr ⟨fun m => (hl q m).elim (N.free hq) (fun z => z rfl), N'.nd⟩
  at_ := fun c hc => by
    rcases List.mem_cons.mp hc with e | hc
    · subst e; exact h
    · exact N'.at_ c hc
  mu := fun c hc => by
    rcases List.mem_cons.mp hc with e | hc
    · subst e; exact hm
    · exact N'.mu c hc
  ow := fun c hc hw => by
    rcases List.mem_cons.mp hc with e | hc
    · subst e
      by_cases z : q ∈ M
      · exact .inl z
      · exact .inr (N.af.free z hq)
    · exact N'.ow c hc hw
  tp := N'.tp
  af := N'.af
  dc := fun d e => by
    obtain ⟨h1, h2, h3⟩ := N'.dc d e
    refine ⟨h1, h2, ?_⟩
    intro m
    rcases List.mem_cons.mp m with z | z
    · obtain ⟨g1, _, _⟩ := N.dc d e
      obtain ⟨ys, hy⟩ := g1.lst
      rw [z, hq] at hy; cases hy
    · exact h3 z
/-- the start of a method -/
theorem Now.begin (hc : (fp.map Cel.a).Nodup ∧ ∀ c ∈ fp, H c.a = some c.o ∧ Mut (some c.o)) (tp : ∀ p ∈ ts, H p.1 = some (.tup p.2)) : Now K none (fp.map Cel.a) H H fp ts :=
  .start hc.1 (fun c h => ⟨(hc.2 c h).1, (hc.2 c h).2, fun _ => List.mem_map.mpr ⟨c, h, rfl⟩⟩) tp (by simp)
theorem Now.front (N : Now K D M H0 H (fp ++ r) ts) : (fp.map Cel.a).Nodup ∧ ∀ c ∈ fp, H c.a = some c.o ∧ Mut (some c.o) := by
  have nd := N.nd
  rw [List.map_append, List.nodup_append] at nd
  exact ⟨nd.1, fun c h => ⟨N.at_ c (List.mem_append_left _ h), N.mu c (List.mem_append_left _ h)⟩⟩
end
/-! ### fields, methods, made instances -/
section
variable {r' : R2} {tc : TE} {σ : L2.St} {y : V} {Q : VK} {H : Hp} {p : Prop} [Decidable p]
theorem c_chD (hp : p) (h : tc σ H fun w' H4 => r' y w' H4 Q) : cCh r' tc σ y Q (.bl (decide p)) H := c_ch (fun _ => h) fun e => absurd hp (of_decide_eq_false e)
theorem c_chN (hp : ¬ p) (h : Q (.bl false) H) : cCh r' tc σ y Q (.bl (decide p)) H := c_ch (fun e => absurd (of_decide_eq_true e) hp) fun _ => h
end
section
variable {K : PySem.W.Frag} {D : Option Addr} {M M' : List Addr} {H0 H H' : Hp} {l : List Cel} {ts : List (Addr × List V)} {p a C dx : Addr} {o u : HO} {c0 c1 c2 c3 : Cel} {σ : L2.St} {ta tv te : TE} {t : TA} {f m : Str} {fs fs' : List (Str × V)} {v y : V} {Q : VK} {sp : Sp} {dvs : List V} {E : XK} {nx bk ct : L2.St → Hp → Prop} {rt : VK} {w : Bool}
def cFld (K : PySem.W.Frag) (f : Str) (Q : VK) : VK := fun x H1 => ∃ a C dx fs v, x = .ref a ∧ H1 a = some (.ins C dx fs) ∧ Cls K C ∧ NoAttr K C f ∧ fs.lookup f = some v ∧ Q v H1
theorem k_fld (h : ta σ H (cFld K f Q)) : tFld K ta f σ H Q := h
theorem g_fld (h : H a = some (.ins C dx fs)) (cl : Cls K C) (na : NoAttr K C f) (hl : fs.lookup f = some v) (q : Q v H) : cFld K f Q (.ref a) H := ⟨a, C, dx, fs, v, rfl, h, cl, na, hl, q⟩
def cSF (K : PySem.W.Frag) (f : Str) (y : V) (nx : L2.St → Hp → Prop) (σ : L2.St) : VK := fun x H2 => ∃ a C dx fs, x = .ref a ∧ H2 a = some (.ins C dx fs) ∧ Cls K C ∧ NoAttr K C f ∧ fs.length < 1000 ∧ nx σ (upd H2 a (.ins C dx (putF f y fs)))
theorem k_sfld (h : tv σ H fun y H1 => ta σ H1 (cSF K f y nx σ)) : sFld K ta tv f ⟨nx, rt, bk, ct⟩ σ H := h
theorem g_sf0 (N : Now K D M H0 H (⟨true, p, .ins C dx fs⟩ :: l) ts) (cl : Cls K C) (na : NoAttr K C f) (hl : fs.length < 1000) (he : putF f y fs = fs') (q : ∀ H', Now K D M H0 H' (⟨true, p, .ins C dx fs'⟩ :: l) ts → nx σ H') : cSF K f y nx σ (.ref p) H :=
  ⟨p, C, dx, fs, rfl, N.cell 0 rfl, cl, na, hl, by rw [he]; exact q _ (N.put 0 rfl trivial)⟩
theorem g_sf1 (N : Now K D M H0 H (c0 :: ⟨true, p, .ins C dx fs⟩ :: l) ts) (cl : Cls K C) (na : NoAttr K C f) (hl : fs.length < 1000) (he : putF f y fs = fs') (q : ∀ H', Now K D M H0 H' (c0 :: ⟨true, p, .ins C dx fs'⟩ :: l) ts → nx σ H') : cSF K f y nx σ (.ref p) H :=
  ⟨p, C, dx, fs, rfl, N.cell 1 rfl, cl, na, hl, by rw [he]; exact q _ (N.put 1 rfl trivial)⟩
theorem g_sf2 (N : Now K D M H0 H (c0 :: c1 :: ⟨true, p, .ins C dx fs⟩ :: l) ts) (cl : Cls K C) (na : NoAttr K C f) (hl : fs.length < 1000) (he : putF f y fs = fs') (q : ∀ H', Now K D M H0 H' (c0 :: c1 :: ⟨true, p, .ins C dx fs'⟩ :: l) ts → nx σ H') : cSF K f y nx σ (.ref p) H :=
  ⟨p, C, dx, fs, rfl, N.cell 2 rfl, cl, na, hl, by rw [he]; exact q _ (N.put 2 rfl trivial)⟩
def cMeth (C : Addr) (m : Str) (sp : Sp) (dvs : List V) (E : XK) (t : TA) (σ : L2.St) (Q : VK) : VK := fun x H1 => ∃ a dx fs, x = .ref a ∧ H1 a = some (.ins C dx fs) ∧ fs.lookup m = none ∧ t σ H1 fun vs H2 => sp (x :: (vs ++ dvs)) H2 Q E
theorem k_meth (h : ta σ H (cMeth C m sp dvs E t σ Q)) : tMeth C m sp dvs E ta t σ H Q := h
theorem g_meth (h : H a = some (.ins C dx fs)) (hl : fs.lookup m = none) (q : t σ H fun vs H2 => sp (.ref a :: (vs ++ dvs)) H2 Q E) : cMeth C m sp dvs E t σ Q (.ref a) H := ⟨a, dx, fs, rfl, h, hl, q⟩
def cMake (C : Addr) (sp : Sp) (dvs : List V) (E : XK) (Q : VK) : List V → Hp → Prop := fun vs H1 => ∀ x dx, H1 x = none → H1 dx = none → dx ≠ x → sp (.ref x :: (vs ++ dvs)) (upd (upd H1 dx (.own x)) x (.ins C dx [])) (fun v H2 => v = .non ∧ Q (.ref x) H2) E
theorem k_make (h : t σ H (cMake C sp dvs E Q)) : tMake C sp dvs E t σ H Q := h
theorem g_make {vs : List V} (N : Now K D M H0 H l ts) (q : ∀ x dx H', H x = none → Now K D M H0 H' (⟨true, x, .ins C dx []⟩ :: l) ts → sp (.ref x :: (vs ++ dvs)) H' (fun v H2 => v = .non ∧ Q (.ref x) H2) E) : cMake C sp dvs E Q vs H := fun x dx hx hd ne =>
  q x dx _ hx ((N.alloc (o := .own x) hd).newC (by rw [upd_ne ne.symm]; exact hx) trivial)
end
/-! ### dicts -/
section
variable {K : PySem.W.Frag} {D : Option Addr} {M M' : List Addr} {H0 H H' : Hp} {l : List Cel} {ts : List (Addr × List V)} {p a : Addr} {kvs kvs' : List (Key × V)} {c0 c1 c2 : Cel} {σ : L2.St} {td ty tv te : TE} {v y : V} {Q : VK} {nx bk ct : L2.St → Hp → Prop} {rt : VK} {n : Int} {z : Str} {ro : Option V}
def cDGet (x : V) (Q : VK) : VK := fun y H2 => ∃ a v, x = .ref a ∧ DGet H2 a y (some v) ∧ Q v H2
theorem k_dget (h : td σ H fun x H1 => ty σ H1 (cDGet x Q)) : tDGet td ty σ H Q := h
theorem g_dgetI (h : H a = some (.dK kvs)) (hv : valV kvs (Sum.inl n) = some v) (q : Q v H) : cDGet (.ref a) Q (.int n) H := ⟨a, v, rfl, by rw [← hv]; exact DGet.k (k := Sum.inl n) h, q⟩
def lkS (z : Str) : List (Key × V) → Option V
  | [] => none
  | (Sum.inr y, v) :: r => if y = z then some v else lkS z r
  | (Sum.inl _, _) :: r => lkS z r
theorem valV_lk (z : Str) : ∀ kvs : List (Key × V), valV kvs (Sum.inr z) = lkS z kvs
  | [] => rfl
  | (Sum.inr y, v) :: r => by
    show _ = if y = z then some v else lkS z r
    by_cases e : y = z
    · subst e
      rw [if_pos rfl, valV_pos rfl]
    · rw [if_neg e, valV_neg (by simpa using e), valV_lk z r]
  | (Sum.inl i, v) :: r => by
    show _ = lkS z r
    rw [valV_neg (by simp), valV_lk z r]
theorem g_dgetS (h : H a = some (.dK kvs)) (hv : lkS z kvs = some v) (q : Q v H) : cDGet (.ref a) Q (.str z) H := ⟨a, v, rfl, by rw [← hv, ← valV_lk]; exact DGet.k (k := Sum.inr z) h, q⟩
def cDIn (y : V) (Q : VK) : VK := fun x H2 => ∃ a o, x = .ref a ∧ DGet H2 a y o ∧ Q (.bl o.isSome) H2
def cDNin (y : V) (Q : VK) : VK := fun x H2 => ∃ a o, x = .ref a ∧ DGet H2 a y o ∧ Q (.bl (!o.isSome)) H2
theorem k_din (h : ty σ H fun y H1 => td σ H1 (cDIn y Q)) : tDIn ty td σ H Q := h
theorem k_dnin (h : ty σ H fun y H1 => td σ H1 (cDNin y Q)) : tDNotIn ty td σ H Q := h
theorem g_dinI (h : H a = some (.dK kvs)) (q : Q (.bl (valV kvs (Sum.inl n)).isSome) H) : cDIn (.int n) Q (.ref a) H := ⟨a, _, rfl, DGet.k (k := Sum.inl n) h, q⟩
theorem g_dninI (h : H a = some (.dK kvs)) (q : Q (.bl (!(valV kvs (Sum.inl n)).isSome)) H) : cDNin (.int n) Q (.ref a) H := ⟨a, _, rfl, DGet.k (k := Sum.inl n) h, q⟩
def cDPut (v x : V) (nx : L2.St → Hp → Prop) (σ : L2.St) : VK := fun y H3 => ∃ a H4, x = .ref a ∧ DPut H3 a y v H4 ∧ nx σ H4
theorem k_dput (h : tv σ H fun v H1 => td σ H1 fun x H2 => ty σ H2 (cDPut v x nx σ)) : sDPut td ty tv ⟨nx, rt, bk, ct⟩ σ H := h
theorem g_dputI0 (N : Now K D M H0 H (⟨true, p, .dK kvs⟩ :: l) ts) (hl : kvs.length < 100000) (q : ∀ H', Now K D M H0 H' (⟨true, p, .dK (putK kvs (Sum.inl n) v)⟩ :: l) ts → nx σ H') : cDPut v (.ref p) nx σ (.int n) H :=
  ⟨p, _, rfl, DPut.k (k := Sum.inl n) (N.cell 0 rfl) (Nat.lt_of_lt_of_le hl (by decide)), q _ (N.put 0 rfl trivial)⟩
theorem g_dputI1 (N : Now K D M H0 H (c0 :: ⟨true, p, .dK kvs⟩ :: l) ts) (hl : kvs.length < 100000) (q : ∀ H', Now K D M H0 H' (c0 :: ⟨true, p, .dK (putK kvs (Sum.inl n) v)⟩ :: l) ts → nx σ H') : cDPut v (.ref p) nx σ (.int n) H :=
  ⟨p, _, rfl, DPut.k (k := Sum.inl n) (N.cell 1 rfl) (Nat.lt_of_lt_of_le hl (by decide)), q _ (N.put 1 rfl trivial)⟩
theorem g_dputI2 (N : Now K D M H0 H (c0 :: c1 :: ⟨true, p, .dK kvs⟩ :: l) ts) (hl : kvs.length < 100000) (q : ∀ H', Now K D M H0 H' (c0 :: c1 :: ⟨true, p, .dK (putK kvs (Sum.inl n) v)⟩ :: l) ts → nx σ H') : cDPut v (.ref p) nx σ (.int n) H :=
  ⟨p, _, rfl, DPut.k (k := Sum.inl n) (N.cell 2 rfl) (Nat.lt_of_lt_of_le hl (by decide)), q _ (N.put 2 rfl trivial)⟩
theorem g_dputS0 (N : Now K D M H0 H (⟨true, p, .dK kvs⟩ :: l) ts) (hl : kvs.length < 100000) (he : putK kvs (Sum.inr z) v = kvs') (q : ∀ H', Now K D M H0 H' (⟨true, p, .dK kvs'⟩ :: l) ts → nx σ H') : cDPut v (.ref p) nx σ (.str z) H :=
  ⟨p, _, rfl, DPut.k (k := Sum.inr z) (N.cell 0 rfl) (Nat.lt_of_lt_of_le hl (by decide)), by rw [he]; exact q _ (N.put 0 rfl trivial)⟩
theorem g_dputS1 (N : Now K D M H0 H (c0 :: ⟨true, p, .dK kvs⟩ :: l) ts) (hl : kvs.length < 100000) (he : putK kvs (Sum.inr z) v = kvs') (q : ∀ H', Now K D M H0 H' (c0 :: ⟨true, p, .dK kvs'⟩ :: l) ts → nx σ H') : cDPut v (.ref p) nx σ (.str z) H :=
  ⟨p, _, rfl, DPut.k (k := Sum.inr z) (N.cell 1 rfl) (Nat.lt_of_lt_of_le hl (by decide)), by rw [he]; exact q _ (N.put 1 rfl trivial)⟩
theorem g_dputS2 (N : Now K D M H0 H (c0 :: c1 :: ⟨true, p, .dK kvs⟩ :: l) ts) (hl : kvs.length < 100000) (he : putK kvs (Sum.inr z) v = kvs') (q : ∀ H', Now K D M H0 H' (c0 :: c1 :: ⟨true, p, .dK kvs'⟩ :: l) ts → nx σ H') : cDPut v (.ref p) nx σ (.str z) H :=
  ⟨p, _, rfl, DPut.k (k := Sum.inr z) (N.cell 2 rfl) (Nat.lt_of_lt_of_le hl (by decide)), by rw [he]; exact q _ (N.put 2 rfl trivial)⟩
theorem k_dnew {Q : VK} (N : Now K D M H0 H l ts) (q : ∀ p H', Now K D M H0 H' (⟨true, p, .dK []⟩ :: l) ts → Q (.ref p) H') : tDNewK σ H Q := fun p hp => q p _ (N.newC hp trivial)
/-- pop of a key that is there -/
def cDPop (σ : L2.St) (ty : TE) (Q : VK) : VK := fun x H1 => ∃ a, x = .ref a ∧ IsD H1 a ∧ ty σ H1 fun y H2 => ∃ kvs k v, H2 a = some (.dK kvs) ∧ y = kV k ∧ valV kvs k = some v ∧ Q v (upd H2 a (.dK (dropK kvs k)))
theorem k_dpop (h : td σ H (cDPop σ ty Q)) : tDPop1 td ty σ H Q := h
end
end Ak
namespace Ak
open PySem PySem.Spec PyProof.Rows L2
/-! ### comprehensions -/
section
variable {K : PySem.W.Frag} {D : Option Addr} {M : List Addr} {H0 H : Hp} {l : List Cel} {ts : List (Addr × List V)} {a p : Addr} {xs acc : List V} {σ : L2.St} {g : TG} {tt : TT} {te tl : TE} {tr : TA} {vs : List Nat} {Q : VK} {j : Nat} {y : V}
def cPut (Dd : Addr) (P : Hp → Prop) : VK := fun y H4 => ∃ acc, H4 Dd = some (.lst acc) ∧ acc.length < sizeLine ∧ P (upd H4 Dd (.lst (acc ++ [y])))
def cElt (te : TE) (σ : L2.St) (Dd : Addr) (P : Hp → Prop) : Bool → Hp → Prop := fun b H3 => if b = true then te σ H3 (cPut Dd P) else P H3
def LcW (J : It) (g : TG) (tt : TT) (te : TE) (vs : List Nat) (σ : L2.St) (Q : VK) (H1 : Hp) : Prop := ∀ D, H1 D = none → ∃ W : Nat → Nat → Hp → Prop, (∃ m, W 0 m (upd H1 D (.lst []))) ∧ ∀ i m H, W i m H →
  (J.stop i H ∧ Q (.ref D) H) ∨ (J.go i H ∧ ∃ Nx : Hp → Prop, (∀ H', Nx H' → ∃ m', m' < m ∧ W (i + 1) m' H') ∧ ∀ x H', J.yld i H x H' → g x (wipe σ vs) H' fun σ2 H2 => wipe σ2 vs = wipe σ vs ∧ tt σ2 H2 fun b H3 =>
    if b = true then te σ2 H3 fun y H4 => ∃ acc, H4 D = some (.lst acc) ∧ acc.length < sizeLine ∧ Nx (upd H4 D (.lst (acc ++ [y]))) else Nx H3)
def cLc (K : PySem.W.Frag) (g : TG) (tt : TT) (te : TE) (vs : List Nat) (σ : L2.St) (Q : VK) : VK := fun x H1 => ∃ a, x = .ref a ∧ (∃ xs, SqL K H1 a xs) ∧ LcW (Itl K a) g tt te vs σ Q H1
def cLcT (K : PySem.W.Frag) (g : TG) (tt : TT) (te : TE) (vs : List Nat) (σ : L2.St) (Q : VK) : VK := fun x H1 => ∃ a, x = .ref a ∧ (∃ xs, SqT K H1 a xs) ∧ LcW (Itt K a) g tt te vs σ Q H1
def cLcR (g : TG) (tt : TT) (te : TE) (vs : List Nat) (σ : L2.St) (Q : VK) : List V → Hp → Prop := fun us H1 => ∃ j : Int, us = [.int j] ∧ -(2 ^ 62) ≤ j ∧ j < 2 ^ 62 ∧ LcW (Itr 0 j.toNat) g tt te vs σ Q H1
def cLcR2 (g : TG) (tt : TT) (te : TE) (vs : List Nat) (σ : L2.St) (Q : VK) : List V → Hp → Prop := fun us H1 => ∃ i j : Int, us = [.int i, .int j] ∧ (-(2 ^ 62) ≤ i ∧ i < 2 ^ 62 ∧ -(2 ^ 62) ≤ j ∧ j < 2 ^ 62) ∧ LcW (Itr i (j - i).toNat) g tt te vs σ Q H1
theorem k_lc (h : tl σ H (cLc K g tt te vs σ Q)) : tLc (iList K tl) g tt te vs σ H Q := h
theorem k_lcT (h : tl σ H (cLcT K g tt te vs σ Q)) : tLc (iTup K tl) g tt te vs σ H Q := h
theorem k_lcR (h : tr σ H (cLcR g tt te vs σ Q)) : tLc (iRng1 tr) g tt te vs σ H Q := h
theorem k_lcR2 (h : tr σ H (cLcR2 g tt te vs σ Q)) : tLc (iRng2 tr) g tt te vs σ H Q := h
/-- what is made so far: R -/
def LcP (K : PySem.W.Frag) (D : Option Addr) (M : List Addr) (H0 : Hp) (l : List Cel) (ts : List (Addr × List V)) (R : Nat → List V → Prop) (Dd : Addr) (i : Nat) : Hp → Prop := fun H => ∃ acc, Now K D M H0 H (⟨true, Dd, .lst acc⟩ :: l) ts ∧ R i acc
theorem c_put {R : Nat → List V → Prop} {Dd : Addr} {i : Nat} (N : Now K D M H0 H (⟨true, Dd, .lst acc⟩ :: l) ts) (hz : acc.length < 100000) (h : R i (acc ++ [y])) : cPut Dd (LcP K D M H0 l ts R Dd i) y H :=
  ⟨acc, N.cell 0 rfl, Nat.lt_of_lt_of_le hz (by decide), _, N.put 0 rfl trivial, h⟩
theorem c_elT {Dd : Addr} {P : Hp → Prop} (h : te σ H (cPut Dd P)) : cElt te σ Dd P true H := h
theorem c_elF {R : Nat → List V → Prop} {Dd : Addr} {i : Nat} (N : Now K D M H0 H (⟨true, Dd, .lst acc⟩ :: l) ts) (h : R i acc) : cElt te σ Dd (LcP K D M H0 l ts R Dd i) false H := ⟨acc, N, h⟩
theorem c_el {Dd : Addr} {P : Hp → Prop} {b : Bool} (h1 : b = true → te σ H (cPut Dd P)) (h2 : b = false → P H) : cElt te σ Dd P b H := by
  cases b with
  | true => exact h1 rfl
  | false => exact h2 rfl
theorem k_yes {Q : Bool → Hp → Prop} (h : Q true H) : tYes σ H Q := h
theorem c_lc (N : Now K D M H0 H l ts) (xs : List V) (R : Nat → List V → Prop) (h0 : R 0 []) (hl : ∀ (H' : Hp) (Dd : Addr) (acc : List V), Now K D M H0 H' (⟨true, Dd, .lst acc⟩ :: l) ts → SqL K H' a xs)
    (hw : ∀ x, wipe ((wipe σ vs).set j (some x)) vs = wipe σ vs)
    (hs : ∀ i x (Dd : Addr) (H' : Hp) (acc : List V), xs[i]? = some x → Now K D M H0 H' (⟨true, Dd, .lst acc⟩ :: l) ts → R i acc → tt ((wipe σ vs).set j (some x)) H' (cElt te ((wipe σ vs).set j (some x)) Dd (LcP K D M H0 l ts R Dd (i + 1))))
    (hd : ∀ (p : Addr) (H' : Hp) (acc : List V), Now K D M H0 H' (⟨true, p, .lst acc⟩ :: l) ts → R xs.length acc → Q (.ref p) H') (hx : SqL K H a xs) : cLc K (gName j) tt te vs σ Q (.ref a) H := by
  refine ⟨a, rfl, ⟨xs, hx⟩, fun Dd hD => ?_⟩
  refine lc_list (K := K) (a := a) (xs := xs) (LcP K D M H0 l ts R Dd) ⟨[], N.newC hD trivial, h0⟩ (fun i H' _ ⟨acc, N', _⟩ => hl _ _ _ N') (fun i x H' hi ⟨acc, N', r⟩ => ?_) fun H' ⟨acc, N', r⟩ => hd _ _ _ N' r
  exact ⟨hw x, hs i x Dd H' acc hi N' r⟩
theorem c_lcT (N : Now K D M H0 H l ts) (xs : List V) (R : Nat → List V → Prop) (h0 : R 0 []) (hl : ∀ (H' : Hp) (l' : List Cel), Now K D M H0 H' l' ts → SqT K H' a xs)
    (hw : ∀ x, wipe ((wipe σ vs).set j (some x)) vs = wipe σ vs)
    (hs : ∀ i x (Dd : Addr) (H' : Hp) (acc : List V), xs[i]? = some x → Now K D M H0 H' (⟨true, Dd, .lst acc⟩ :: l) ts → R i acc → tt ((wipe σ vs).set j (some x)) H' (cElt te ((wipe σ vs).set j (some x)) Dd (LcP K D M H0 l ts R Dd (i + 1))))
    (hd : ∀ (p : Addr) (H' : Hp) (acc : List V), Now K D M H0 H' (⟨true, p, .lst acc⟩ :: l) ts → R xs.length acc → Q (.ref p) H') : cLcT K (gName j) tt te vs σ Q (.ref a) H := by
  refine ⟨a, rfl, ⟨xs, hl _ _ N⟩, fun Dd hD => ?_⟩
  refine lc_tup (K := K) (a := a) (xs := xs) (LcP K D M H0 l ts R Dd) ⟨[], N.newC hD trivial, h0⟩ (fun i H' _ ⟨acc, N', _⟩ => hl _ _ N') (fun i x H' hi ⟨acc, N', r⟩ => ?_) fun H' ⟨acc, N', r⟩ => hd _ _ _ N' r
  exact ⟨hw x, hs i x Dd H' acc hi N' r⟩
theorem c_lcR {n : Int} (N : Now K D M H0 H l ts) (hn : -100000 ≤ n ∧ n ≤ 100000) (R : Nat → List V → Prop) (h0 : R 0 [])
    (hw : ∀ x, wipe ((wipe σ vs).set j (some x)) vs = wipe σ vs)
    (hs : ∀ (i : Nat) (Dd : Addr) (H' : Hp) (acc : List V), (i : Int) < n → Now K D M H0 H' (⟨true, Dd, .lst acc⟩ :: l) ts → R i acc → tt ((wipe σ vs).set j (some (.int (i : Int)))) H' (cElt te ((wipe σ vs).set j (some (.int (i : Int)))) Dd (LcP K D M H0 l ts R Dd (i + 1))))
    (hd : ∀ (p : Addr) (H' : Hp) (acc : List V), Now K D M H0 H' (⟨true, p, .lst acc⟩ :: l) ts → R n.toNat acc → Q (.ref p) H') : cLcR (gName j) tt te vs σ Q [.int n] H := by
  refine ⟨n, rfl, by omega, by omega, fun Dd hD => ?_⟩
  refine lc_range (lo := 0) (n := n.toNat) (LcP K D M H0 l ts R Dd) ⟨[], N.newC hD trivial, h0⟩ (fun i H' hi ⟨acc, N', r⟩ => ?_) fun H' ⟨acc, N', r⟩ => hd _ _ _ N' r
  rw [show (0 : Int) + (i : Int) = (i : Int) from Int.zero_add _]
  exact ⟨hw _, hs i Dd H' acc (by omega) N' r⟩
theorem c_lcR2 {lo n : Int} (N : Now K D M H0 H l ts) (hn : -100000 ≤ n ∧ n ≤ 100000 ∧ -100000 ≤ lo ∧ lo ≤ 100000) (R : Nat → List V → Prop) (h0 : R 0 [])
    (hw : ∀ x, wipe ((wipe σ vs).set j (some x)) vs = wipe σ vs)
    (hs : ∀ (i : Nat) (Dd : Addr) (H' : Hp) (acc : List V), lo + (i : Int) < n → Now K D M H0 H' (⟨true, Dd, .lst acc⟩ :: l) ts → R i acc → tt ((wipe σ vs).set j (some (.int (lo + (i : Int))))) H' (cElt te ((wipe σ vs).set j (some (.int (lo + (i : Int))))) Dd (LcP K D M H0 l ts R Dd (i + 1))))
    (hd : ∀ (p : Addr) (H' : Hp) (acc : List V), Now K D M H0 H' (⟨true, p, .lst acc⟩ :: l) ts → R (n - lo).toNat acc → Q (.ref p) H') : cLcR2 (gName j) tt te vs σ Q [.int lo, .int n] H := by
  refine ⟨lo, n, rfl, by omega, fun Dd hD => ?_⟩
  refine lc_range (lo := lo) (n := (n - lo).toNat) (LcP K D M H0 l ts R Dd) ⟨[], N.newC hD trivial, h0⟩ (fun i H' hi ⟨acc, N', r⟩ => ?_) fun H' ⟨acc, N', r⟩ => hd _ _ _ N' r
  exact ⟨hw _, hs i Dd H' acc (by omega) N' r⟩
end
/-! ### methods of lists -/
section
variable {K : PySem.W.Frag} {D : Option Addr} {M : List Addr} {H0 H : Hp} {l : List Cel} {ts : List (Addr × List V)} {a p : Addr} {xs : List V} {σ : L2.St} {to : TE} {t : TA} {Q : VK} {r : V → List V → Hp → VK → Prop} {T : String} {c0 c1 c2 : Cel} {v : V} {kvs : List (Key × V)} {n : Int} {nx : L2.St → Hp → Prop}
def cBM (K : PySem.W.Frag) (T : String) (r : V → List V → Hp → VK → Prop) (t : TA) (σ : L2.St) (Q : VK) : VK := fun x H1 => tyV K T x H1 ∧ t σ H1 fun xs H2 => r x xs H2 Q
theorem k_bm (h : to σ H (cBM K T r t σ Q)) : tBM K T r to t σ H Q := h
theorem g_bmL (h : SqL K H p xs) (q : t σ H fun xs H2 => r (.ref p) xs H2 Q) : cBM K "list" r t σ Q (.ref p) H := ⟨.inl ⟨rfl, _, h⟩, q⟩
def cBM0 (K : PySem.W.Frag) (T : String) (r : V → List V → Hp → VK → Prop) (Q : VK) : VK := fun x H1 => tyV K T x H1 ∧ r x [] H1 Q
theorem k_bm0 (h : to σ H (cBM0 K T r Q)) : tBM0 K T r to σ H Q := h
theorem g_bmL0 (h : SqL K H p xs) (q : r (.ref p) [] H Q) : cBM0 K "list" r Q (.ref p) H := ⟨.inl ⟨rfl, _, h⟩, q⟩
theorem g_app2 (N : Now K D M H0 H (c0 :: c1 :: ⟨true, p, .lst xs⟩ :: l) ts) (hz : xs.length < 100000) (q : ∀ H', Now K D M H0 H' (c0 :: c1 :: ⟨true, p, .lst (xs ++ [v])⟩ :: l) ts → Q .non H') : rAppend (.ref p) [v] H Q := ⟨p, xs, v, rfl, rfl, N.cell 2 rfl, Nat.lt_of_lt_of_le hz (by decide), q _ (N.put 2 rfl trivial)⟩
theorem g_app3 (N : Now K D M H0 H (c0 :: c1 :: c2 :: ⟨true, p, .lst xs⟩ :: l) ts) (hz : xs.length < 100000) (q : ∀ H', Now K D M H0 H' (c0 :: c1 :: c2 :: ⟨true, p, .lst (xs ++ [v])⟩ :: l) ts → Q .non H') : rAppend (.ref p) [v] H Q := ⟨p, xs, v, rfl, rfl, N.cell 3 rfl, Nat.lt_of_lt_of_le hz (by decide), q _ (N.put 3 rfl trivial)⟩
/-- cells as a callee wants them -/
def CelOk (H : Hp) (fp : List Cel) : Prop := (fp.map Cel.a).Nodup ∧ ∀ c ∈ fp, H c.a = some c.o ∧ Mut (some c.o)
theorem Now.ok (N : Now K D M H0 H l ts) : CelOk H l := ⟨N.nd, fun c hc => ⟨N.at_ c hc, N.mu c hc⟩⟩
end
/-! ### slices, tuple(..), list(..) -/
section
variable {K : PySem.W.Frag} {D : Option Addr} {M : List Addr} {H0 H : Hp} {l : List Cel} {ts : List (Addr × List V)} {a p : Addr} {xs : List V} {σ : L2.St} {te : TE} {tl th : TO} {Q : VK} {r : V → Option Int → Option Int → Hp → VK → Prop}
theorem k_sl (h : te σ H fun x H1 => tl σ H1 fun l H2 => th σ H2 fun u H3 => r x l u H3 Q) : tSl r te tl th σ H Q := h
theorem k_nopart {Q : Option Int → Hp → Prop} (h : Q none H) : tNoPart σ H Q := h
def cPart (Q : Option Int → Hp → Prop) : VK := fun x H1 => ∃ i, x = .int i ∧ Q (some i) H1
theorem k_part {Q : Option Int → Hp → Prop} (h : te σ H (cPart Q)) : tPart te σ H Q := h
theorem c_part {Q : Option Int → Hp → Prop} {i : Int} (h : Q (some i) H) : cPart Q (.int i) H := ⟨i, rfl, h⟩
theorem g_slL {lo hi : Option Int} (N : Now K D M H0 H l ts) (hx : SqL K H a xs) (q : ∀ p H', Now K D M H0 H' (⟨true, p, .lst (cutV xs lo hi)⟩ :: l) ts → Q (.ref p) H') : rSlL K (.ref a) lo hi H Q := ⟨a, xs, rfl, hx, fun p hp => q p _ (N.newC hp trivial)⟩
theorem cut_take {xs : List V} (n : Nat) : cutV xs none (some (n : Int)) = xs.take n := by
  unfold cutV
  rw [HT.sIx_none, HT.sIx_nat, List.drop_zero, Nat.sub_zero]
  by_cases h : n ≤ xs.length
  · rw [Nat.min_eq_left h]
  · rw [Nat.min_eq_right (by omega), List.take_of_length_le (by omega), List.take_of_length_le (by omega)]
theorem cut_drop {xs : List V} (n : Nat) : cutV xs (some (n : Int)) none = xs.drop n := by
  unfold cutV
  rw [HT.sIx_nat, HT.sIx_none]
  by_cases h : n ≤ xs.length
  · rw [Nat.min_eq_left h]
    exact List.take_of_length_le (by rw [List.length_drop]; omega)
  · rw [Nat.min_eq_right (by omega), List.drop_of_length_le (by omega : xs.length ≤ n)]
    simp
def rTupL (K : PySem.W.Frag) : List V → Hp → VK → Prop := fun xs H Q => ∃ p ys, xs = [.ref p] ∧ SqL K H p ys ∧ ∀ l, H l = none → Q (.ref l) (upd H l (.tup ys))
theorem cr_tupL {X : Cx} : CallR X (.type "tuple") (rTupL X.K) := fun pins s σ H xs us Q I r h => call_tuple_of pins s σ H xs us Q I r (let ⟨p, ys, e, h1, h2⟩ := h; ⟨p, ys, e, .inl ⟨h1, h2⟩⟩)
theorem cr_tupLK {X : Cx} (K : PySem.W.Frag) (h : X.K = K) : CallR X (.type "tuple") (rTupL K) := h ▸ cr_tupL
theorem g_tupL (N : Now K D M H0 H l ts) (hx : SqL K H a xs) (q : ∀ p H', Now K D M H0 H' l ((p, xs) :: ts) → Q (.ref p) H') : rTupL K [.ref a] H Q := ⟨a, xs, rfl, hx, fun p hp => q p _ (N.newT hp)⟩
def rLstS (K : PySem.W.Frag) : List V → Hp → VK → Prop := fun xs H Q => ∃ p ys, xs = [.ref p] ∧ (SqL K H p ys ∨ SqT K H p ys) ∧ ∀ l, H l = none → Q (.ref l) (upd H l (.lst ys))
theorem cr_lstS {X : Cx} : CallR X (.type "list") (rLstS X.K) := call_list_of
theorem cr_lstSK {X : Cx} (K : PySem.W.Frag) (h : X.K = K) : CallR X (.type "list") (rLstS K) := h ▸ cr_lstS
theorem g_lstL (N : Now K D M H0 H l ts) (hx : SqL K H a xs) (q : ∀ p H', Now K D M H0 H' (⟨true, p, .lst xs⟩ :: l) ts → Q (.ref p) H') : rLstS K [.ref a] H Q := ⟨a, xs, rfl, .inl hx, fun p hp => q p _ (N.newC hp trivial)⟩
theorem g_lstT (N : Now K D M H0 H l ts) (hx : SqT K H a xs) (q : ∀ p H', Now K D M H0 H' (⟨true, p, .lst xs⟩ :: l) ts → Q (.ref p) H') : rLstS K [.ref a] H Q := ⟨a, xs, rfl, .inr hx, fun p hp => q p _ (N.newC hp trivial)⟩
/-- sorted of a dict, of a list of ints: a new cell -/
theorem g_sortD {kvs : List (Key × V)} {ks : List Int} (N : Now K D M H0 H l ts) (hd : H a = some (.dK kvs)) (hk : kvs.map (·.1) = ks.map Sum.inl) (q : ∀ p H' (ys : List Int), ys.Perm ks → ys.Pairwise (· ≤ ·) → Now K D M H0 H' (⟨true, p, .lst (ys.map V.int)⟩ :: l) ts → Q (.ref p) H') : rSortedDA [.ref a] H Q :=
  ⟨a, kvs, ks, rfl, .of hd, hk, fun ys p h1 h2 hp => q p _ ys h1 h2 (N.newC hp trivial)⟩
theorem g_sortL {ks : List Int} (N : Now K D M H0 H l ts) (hx : SqL K H a (ks.map V.int)) (q : ∀ p H' (ys : List Int), ys.Perm ks → ys.Pairwise (· ≤ ·) → Now K D M H0 H' (⟨true, p, .lst (ys.map V.int)⟩ :: l) ts → Q (.ref p) H') : rSortedI K [.ref a] H Q :=
  ⟨a, ks, rfl, hx, fun ys p h1 h2 hp => q p _ ys h1 h2 (N.newC hp trivial)⟩
/-- xs + ys: a new cell -/
theorem g_cat {b : Addr} {ys : List V} (N : Now K D M H0 H l ts) (hx : H a = some (.lst xs)) (hy : H b = some (.lst ys)) (hz : xs.length + ys.length ≤ 100000) (q : ∀ p H', Now K D M H0 H' (⟨true, p, .lst (xs ++ ys)⟩ :: l) ts → Q (.ref p) H') : rCat (.ref a) (.ref b) H Q :=
  ⟨a, b, xs, ys, rfl, rfl, hx, hy, Nat.le_trans hz (by decide), fun p hp => q p _ (N.newC hp trivial)⟩
/-- x in xs, ints -/
theorem inV_ints {n : Int} : ∀ {ns : List Int}, inV (.int n) (ns.map V.int) = decide (n ∈ ns)
  | [] => by simp [inV]
  | m :: ns => by
    have ih := inV_ints (n := n) (ns := ns)
    unfold inV at ih ⊢
    rw [List.map_cons, List.any_cons, ih]
    by_cases e : n = m
    · subst e; simp [eqV]
    · have e' : ¬ m = n := fun z => e z.symm
      simp [eqV, e, e']
theorem flat_ints {ns : List Int} : (ns.map V.int).all flatV = true := by
  rw [List.all_eq_true]
  intro x hx
  obtain ⟨n, _, rfl⟩ := List.mem_map.mp hx
  rfl
theorem g_inI {n : Int} {ns : List Int} (h : SqL K H a (ns.map V.int) ∨ SqT K H a (ns.map V.int)) (q : Q (.bl (decide (n ∈ ns))) H) : rIn K false (.int n) (.ref a) H Q :=
  ⟨a, _, rfl, h, rfl, flat_ints, by rw [inV_ints]; exact q⟩
theorem g_ninI {n : Int} {ns : List Int} (h : SqL K H a (ns.map V.int) ∨ SqT K H a (ns.map V.int)) (q : Q (.bl (decide (n ∉ ns))) H) : rIn K true (.int n) (.ref a) H Q :=
  ⟨a, _, rfl, h, rfl, flat_ints, by
    rw [inV_ints, if_pos rfl, ← decide_not]
    exact q⟩
/-- == and != of lists of ints -/
theorem eqv_ints : ∀ {a b : List Int}, PyData.eqvAll (a.map PyData.int) (b.map PyData.int) = decide (a = b)
  | [], [] => by simp [PyData.eqvAll]
  | [], _ :: _ => by simp [PyData.eqvAll]
  | _ :: _, [] => by simp [PyData.eqvAll]
  | x :: a, y :: b => by
    have ih := eqv_ints (a := a) (b := b)
    rw [List.map_cons, List.map_cons, PyData.eqvAll, ih]
    by_cases e : x = y
    · subst e; by_cases e2 : a = b <;> simp [PyData.eqv, e2]
    · simp [PyData.eqv, e]
theorem lay_ints : ∀ ns : List Int, PyData.canLayAll0 (ns.map PyData.int) = true ∧ PyData.depthAll (ns.map PyData.int) ≤ 1
  | [] => by simp [PyData.canLayAll0, PyData.depthAll]
  | n :: ns => by
    obtain ⟨h1, h2⟩ := lay_ints ns
    simp only [List.map_cons, PyData.canLayAll0, PyData.depthAll, PyData.canLay0, PyData.depth, h1, Bool.and_self, true_and]
    omega
theorem shaped_ints (ns : List Int) : SeqAt.shaped (.list (ns.map PyData.int)) = true := by
  obtain ⟨h1, h2⟩ := lay_ints ns
  unfold SeqAt.shaped
  simp only [PyData.canLay0, PyData.depth, h1, Bool.true_and]
  exact decide_eq_true (by omega)
theorem shaped_intsT (ns : List Int) : SeqAt.shaped (.tuple (ns.map PyData.int)) = true := by
  obtain ⟨h1, h2⟩ := lay_ints ns
  unfold SeqAt.shaped
  simp only [PyData.canLay0, PyData.depth, h1, Bool.true_and]
  exact decide_eq_true (by omega)
variable {b : Addr}
theorem g_eqL {m n : List Int} (h1 : SqL K H a (m.map V.int)) (h2 : SqL K H b (n.map V.int)) (q : Q (.bl (decide (m = n))) H) : rEqD K (.ref a) (.ref b) H Q :=
  ⟨_, _, .lst h1 (dpa_ints m), .lst h2 (dpa_ints n), shaped_ints m, shaped_ints n, by rw [PyData.eqv, eqv_ints]; exact q⟩
theorem g_neL {m n : List Int} (h1 : SqL K H a (m.map V.int)) (h2 : SqL K H b (n.map V.int)) (q : Q (.bl (decide (m ≠ n))) H) : rNeD K (.ref a) (.ref b) H Q :=
  ⟨_, _, .lst h1 (dpa_ints m), .lst h2 (dpa_ints n), shaped_ints m, shaped_ints n, by rw [PyData.eqv, eqv_ints, ← decide_not]; exact q⟩
theorem g_eqT {m n : List Int} (h1 : SqT K H a (m.map V.int)) (h2 : SqT K H b (n.map V.int)) (q : Q (.bl (decide (m = n))) H) : rEqD K (.ref a) (.ref b) H Q :=
  ⟨_, _, .tup h1 (dpa_ints m), .tup h2 (dpa_ints n), shaped_intsT m, shaped_intsT n, by rw [PyData.eqv, eqv_ints]; exact q⟩
theorem g_neT {m n : List Int} (h1 : SqT K H a (m.map V.int)) (h2 : SqT K H b (n.map V.int)) (q : Q (.bl (decide (m ≠ n))) H) : rNeD K (.ref a) (.ref b) H Q :=
  ⟨_, _, .tup h1 (dpa_ints m), .tup h2 (dpa_ints n), shaped_intsT m, shaped_intsT n, by rw [PyData.eqv, eqv_ints, ← decide_not]; exact q⟩
end
end Ak
namespace Ak
open PySem PySem.Spec PyProof.Rows L2
/-! ### a locked dict is walked -/
section
variable {K : PySem.W.Frag} {D : Option Addr} {M : List Addr} {H0 H : Hp} {l : List Cel} {ts : List (Addr × List V)} {a p d : Addr} {u o' : HO} {ob : Obj} {σ : L2.St} {te td ty : TE} {t : TS} {g : TG} {Q : VK} {c0 c1 c2 : Cel} {v : V} {kvs : List (Key × V)} {n : Int} {nx bk ct : L2.St → Hp → Prop} {rt : VK}
theorem Now.lock (N : Now K D M H0 H (⟨true, d, u⟩ :: l) ts) (hM : d ∉ M) : Now K D M H0 (upd H d o') l ts := by
  have h0 : H0 d = none := (N.ow ⟨true, d, u⟩ List.mem_cons_self rfl).resolve_left hM
  have hd : H d = some u := N.cell 0 rfl
  have hmu : Mut (some u) := N.mu ⟨true, d, u⟩ List.mem_cons_self
  have nd := List.nodup_cons.mp N.nd
  have A : Aft [d] H (upd H d o') := Aft.refl.put hd hmu (.inl (by simp))
  exact {
    nd := nd.2
    at_ := fun c hc => A.k _ _ (N.at_ c (List.mem_cons_of_mem _ hc)) (by
      intro m
      have e : c.a = d := by simpa using m
      exact nd.1 (List.mem_map.mpr ⟨c, hc, e⟩))
    mu := fun c hc => N.mu c (List.mem_cons_of_mem _ hc)
    ow := fun c hc => N.ow c (List.mem_cons_of_mem _ hc)
    tp := fun q hq => A.t _ _ (N.tp q hq)
    af := N.af.own h0
    dc := fun e he => by
      obtain ⟨h1, h2, h3⟩ := N.dc e he
      refine ⟨h1.keep A ?_, h2, fun m => h3 (List.mem_cons_of_mem _ m)⟩
      intro m
      have q : e = d := by simpa using m
      subst q
      exact h3 List.mem_cons_self }
/-- the lock is taken off again -/
theorem Now.unlock (N : Now K none M H0 H l ts) (h0 : H0 d = none) (hd : H d = some (.frz ob o')) : Now K none M H0 (upd H d u) l ts where
  nd := N.nd
  at_ := fun c hc => by
    have q := N.at_ c hc
    have m := N.mu c hc
    rw [upd_ne]
    · exact q
    · intro e
      rw [e, hd] at q
      rw [← Option.some.inj q] at m
      exact m
  mu := N.mu
  ow := N.ow
  tp := fun q hq => by
    have z := N.tp q hq
    rw [upd_ne]
    · exact z
    · intro e
      rw [e, hd] at z; cases z
  af := N.af.own h0
  dc := fun e he => by cases he
def cForK (g : TG) (tb : TS) (D : Ends) (σ : L2.St) : VK := fun x H1 => ∃ d o, x = .ref d ∧ ((∃ kvs, H1 d = some (.frz o (.dK kvs)) ∧ ∃ W : Nat → Nat → L2.St → Hp → Prop, (∃ m, W 0 m σ H1) ∧ ∀ i m σ H, W i m σ H →
    ((Itk d o kvs).stop i H ∧ D.nx σ H) ∨ ((Itk d o kvs).go i H ∧ ∃ N : L2.St → Hp → Prop, (∀ σ' H', N σ' H' → ∃ m', m' < m ∧ W (i + 1) m' σ' H') ∧ ∀ x H', (Itk d o kvs).yld i H x H' → g x σ H' fun σ2 H2 => tb { D with nx := N, ct := N, bk := D.nx } σ2 H2)) ∨
  ∃ kvs, H1 d = some (.frz o (.dT kvs)) ∧ ∃ W : Nat → Nat → L2.St → Hp → Prop, (∃ m, W 0 m σ H1) ∧ ∀ i m σ H, W i m σ H →
    ((Itkt d o kvs).stop i H ∧ D.nx σ H) ∨ ((Itkt d o kvs).go i H ∧ ∃ N : L2.St → Hp → Prop, (∀ σ' H', N σ' H' → ∃ m', m' < m ∧ W (i + 1) m' σ' H') ∧ ∀ x H', (Itkt d o kvs).yld i H x H' → g x σ H' fun σ2 H2 => tb { D with nx := N, ct := N, bk := D.nx } σ2 H2))
theorem k_forK (h : td σ H (cForK g t ⟨nx, rt, bk, ct⟩ σ)) : tFor (iKeys td) g t ⟨nx, rt, bk, ct⟩ σ H := h
theorem c_forK (Pv : Nat → L2.St → Hp → Prop) (h0 : Pv 0 σ H) (hl : ∀ i σ H, Pv i σ H → H d = some (.frz ob (.dK kvs)))
    (hs : ∀ i k v σ H, kvs[i]? = some (k, v) → Pv i σ H → g (kV k) σ H fun σ2 H2 => t ⟨Pv (i + 1), rt, nx, Pv (i + 1)⟩ σ2 H2) (hd : ∀ σ H, Pv kvs.length σ H → nx σ H) : cForK g t ⟨nx, rt, bk, ct⟩ σ (.ref d) H := by
  refine ⟨d, ob, rfl, .inl ⟨kvs, hl _ _ _ h0, fun i m σ H => m = kvs.length - i ∧ i ≤ kvs.length ∧ Pv i σ H, ⟨kvs.length, by simp, Nat.zero_le _, h0⟩, ?_⟩⟩
  rintro i m σ H ⟨rfl, hi, q⟩
  by_cases lt : i < kvs.length
  · refine .inr ⟨⟨hl _ _ _ q, lt⟩, Pv (i + 1), fun σ' H' q' => ⟨kvs.length - (i + 1), by omega, rfl, lt, q'⟩, ?_⟩
    rintro x H' ⟨rfl, k, v, hk, rfl⟩
    exact hs i k v σ _ hk q
  · have e : i = kvs.length := by omega
    subst e
    exact .inl ⟨⟨hl _ _ _ q, Nat.le_refl _⟩, hd σ H q⟩
def cLock (t : TS) (D : Ends) (σ : L2.St) (H : Hp) : Prop := ∃ d u, H d = some u ∧ Mut (some u) ∧ ∀ od, t ⟨fun σ' H' => H' d = some (.frz od u) ∧ D.nx σ' (upd H' d u), fun v H' => H' d = some (.frz od u) ∧ D.rt v (upd H' d u), fun σ' H' => H' d = some (.frz od u) ∧ D.bk σ' (upd H' d u), fun σ' H' => H' d = some (.frz od u) ∧ D.ct σ' (upd H' d u)⟩ σ (upd H d (.frz od u))
theorem k_lock (hd : H d = some u) (hm : Mut (some u)) (q : ∀ od, t ⟨fun σ' H' => H' d = some (.frz od u) ∧ nx σ' (upd H' d u), fun v H' => H' d = some (.frz od u) ∧ rt v (upd H' d u), fun σ' H' => H' d = some (.frz od u) ∧ bk σ' (upd H' d u), fun σ' H' => H' d = some (.frz od u) ∧ ct σ' (upd H' d u)⟩ σ (upd H d (.frz od u))) :
    tLock t ⟨nx, rt, bk, ct⟩ σ H := ⟨d, u, hd, hm, q⟩
theorem g_dpop1 (N : Now K D M H0 H (c0 :: ⟨true, p, .dK kvs⟩ :: l) ts) (q : ty σ H fun y H2 => ∃ kvs k v, H2 p = some (.dK kvs) ∧ y = kV k ∧ valV kvs k = some v ∧ Q v (upd H2 p (.dK (dropK kvs k)))) : cDPop σ ty Q (.ref p) H := ⟨p, rfl, .inl ⟨kvs, .of (N.cell 1 rfl)⟩, q⟩
end
end Ak
namespace Ak
open PySem PySem.Spec PyProof.Rows L2
/-! ### dict displays, names by pattern, a cut -/
section
variable {K : PySem.W.Frag} {D : Option Addr} {M : List Addr} {H0 H H' : Hp} {l : List Cel} {ts : List (Addr × List V)} {a p : Addr} {σ : L2.St} {te ta tb : TE} {t : TS} {g : TG} {Q : VK} {c0 c1 c2 : Cel} {v w x : V} {kvs kvs' : List (Key × V)} {n i j : Nat} {nx bk ct : L2.St → Hp → Prop} {rt : VK} {trs : List (TE × TE)} {ps : List (V × V)}
def cDisp (p : Addr) (Q : VK) : List (V × V) → Hp → Prop := fun ps H2 => H2 p = some (.dK []) ∧ ∃ kvs : List (Key × V), ps = kvs.map (fun kv => (kV kv.1, kv.2)) ∧ kvs.length ≤ 15 ∧ Q (.ref p) (upd H2 p (.dK (mergeK [] kvs)))
theorem k_disp (N : Now K D M H0 H l ts) (q : ∀ p H', Now K D M H0 H' (⟨true, p, .dK []⟩ :: l) ts → tPairs trs σ H' (cDisp p Q)) : tDisp trs σ H Q := fun p hp => q p _ (N.newC hp trivial)
theorem k_pairs0 {Q : List (V × V) → Hp → Prop} (h : Q [] H) : tPairs [] σ H Q := h
theorem k_pairs {Q : List (V × V) → Hp → Prop} (h : ta σ H fun x H1 => tb σ H1 fun y H2 => tPairs trs σ H2 fun ps H3 => Q ((x, y) :: ps) H3) : tPairs ((ta, tb) :: trs) σ H Q := h
theorem g_disp0 (N : Now K D M H0 H (⟨true, p, .dK []⟩ :: l) ts) (hk : ps = kvs.map (fun kv => (kV kv.1, kv.2))) (hl : kvs.length ≤ 15) (hm : mergeK [] kvs = kvs') (q : ∀ H', Now K D M H0 H' (⟨true, p, .dK kvs'⟩ :: l) ts → Q (.ref p) H') : cDisp p Q ps H :=
  ⟨N.cell 0 rfl, kvs, hk, hl, by rw [hm]; exact q _ (N.put 0 rfl trivial)⟩
theorem g_un {QQ : L2.St → Hp → Prop} (h : SqT K H a [v, w]) (hn : n = 2) (hq : QQ ((σ.set i (some v)).set j (some w)) H) : gTup K n (gCons (gName i) (gCons (gName j) gNil)) (.ref a) σ H QQ :=
  ⟨a, [v, w], rfl, h, hn.symm, v, [w], rfl, w, [], rfl, rfl, hq⟩
/-- what comes after is told once -/
theorem k_cut {R : L2.St → Hp → Prop} (q : ∀ σ H, R σ H → nx σ H) (h : ∀ nx' : L2.St → Hp → Prop, (∀ σ H, R σ H → nx' σ H) → t ⟨nx', rt, bk, ct⟩ σ H) : t ⟨nx, rt, bk, ct⟩ σ H := h nx q
theorem k_cut3 {R : L2.St → Hp → Prop} {t1 t2 t3 : TS} (q : ∀ σ H, R σ H → t3 ⟨nx, rt, bk, ct⟩ σ H) (h : ∀ nx' : L2.St → Hp → Prop, (∀ σ H, R σ H → nx' σ H) → tSeq t1 t2 ⟨nx', rt, bk, ct⟩ σ H) : tSeq t1 (tSeq t2 t3) ⟨nx, rt, bk, ct⟩ σ H := h _ q
theorem g_like {E : XK} {y : V} {d : PyData} {m : Nat} (h1 : Dp K H x d) (h2 : Dp K H y d) (h3 : dOk m d) (q : ∀ H', Aft [] H H' → Q (.bl true) H') : spLike K (m + 1) [x, y] H Q E := ⟨x, y, d, rfl, h1, h2, h3, q⟩
theorem dOk_ints {m : Nat} {ns : List Int} (h : ns.length ≤ 100000) : dOk (m + 1) (.list (ns.map PyData.int)) ∧ dOk (m + 1) (.tuple (ns.map PyData.int)) := by
  have q : ∀ d ∈ ns.map PyData.int, dOk m d := fun d hd => by
    obtain ⟨n, _, rfl⟩ := List.mem_map.mp hd
    cases m <;> trivial
  constructor
  · exact ⟨by rw [List.length_map]; exact h, q⟩
  · exact ⟨by rw [List.length_map]; exact h, q⟩
theorem Now.fresh {o : HO} (N : Now K D M H0 H l ts) (A : Aft [] H H') (hp : H p = none) (h : H' p = some o) (hm : Mut (some o)) : Now K D M H0 H' (⟨true, p, o⟩ :: l) ts :=
  Now.grow N (N.pure A) (fun _ h => .inl h) hp h hm
theorem sorted_eq {a b c : List Int} (h1 : a.Perm c) (h2 : a.Pairwise (· ≤ ·)) (h3 : b.Perm c) (h4 : b.Pairwise (· ≤ ·)) : a = b :=
  (h1.trans h3.symm).eq_of_pairwise (fun x y _ _ e1 e2 => by omega) h2 h4
end
end Ak
namespace Ak
open PySem PySem.Spec PyProof.Rows L2
/-! ### max, min, tuple of a tuple, patterns, constants of the written part -/
section
variable {X : Cx} {K : PySem.W.Frag} {D : Option Addr} {M : List Addr} {H0 H H' : Hp} {l : List Cel} {ts : List (Addr × List V)} {a p : Addr} {σ : L2.St} {te ta tb : TE} {t : TGs} {g : TG} {Q : VK} {v w x : V} {xs vs : List V} {n : Nat} {QQ : L2.St → Hp → Prop} {f : Str} {u : TGs}
def rMax2 : List V → Hp → VK → Prop := fun xs H Q => ∃ i j, xs = [.int i, .int j] ∧ Q (.int (max i j)) H
def rMin2 : List V → Hp → VK → Prop := fun xs H Q => ∃ i j, xs = [.int i, .int j] ∧ Q (.int (min i j)) H
theorem cr_max2 (hc : X.calm = true) : CallR X (.builtin "max") rMax2 := fun pins s σ H xs us Q I r ⟨i, j, e, q⟩ => call_max2 hc pins s σ H xs us Q I r ⟨i, j, e, by
  have z : (if j > i then j else i) = max i j := by omega
  rw [z]; exact q⟩
theorem cr_min2 (hc : X.calm = true) : CallR X (.builtin "min") rMin2 := fun pins s σ H xs us Q I r ⟨i, j, e, q⟩ => call_min2 hc pins s σ H xs us Q I r ⟨i, j, e, by
  have z : (if j < i then j else i) = min i j := by omega
  rw [z]; exact q⟩
theorem g_max2 {i j : Int} (q : Q (.int (max i j)) H) : rMax2 [.int i, .int j] H Q := ⟨i, j, rfl, q⟩
theorem g_min2 {i j : Int} (q : Q (.int (min i j)) H) : rMin2 [.int i, .int j] H Q := ⟨i, j, rfl, q⟩
def rTupT (K : PySem.W.Frag) : List V → Hp → VK → Prop := fun xs H Q => ∃ a ys, xs = [.ref a] ∧ SqT K H a ys ∧ Q (.ref a) H
theorem cr_tupT : CallR X (.type "tuple") (rTupT X.K) := call_tupleT
theorem cr_tupTK (K : PySem.W.Frag) (h : X.K = K) : CallR X (.type "tuple") (rTupT K) := h ▸ cr_tupT
theorem g_tupT (h : SqT K H a xs) (q : Q (.ref a) H) : rTupT K [.ref a] H Q := ⟨a, xs, rfl, h, q⟩
theorem cr_minLK (K : PySem.W.Frag) (h : X.K = K) (hc : X.calm = true) : CallR X (.builtin "min") (rMin K) := h ▸ cr_min hc
theorem cr_maxLK (K : PySem.W.Frag) (h : X.K = K) (hc : X.calm = true) : CallR X (.builtin "max") (rMax K) := h ▸ cr_max hc
theorem g_minL {ns : List Int} (h : SqL K H a (ns.map V.int)) (h0 : 0 < ns.length) (q : ∀ m, m ∈ ns → (∀ y, y ∈ ns → m ≤ y) → Q (.int m) H) : rMin K [.ref a] H Q := ⟨a, ns, rfl, h, h0, q⟩
theorem g_maxL {ns : List Int} (h : SqL K H a (ns.map V.int)) (h0 : 0 < ns.length) (q : ∀ m, m ∈ ns → (∀ y, y ∈ ns → y ≤ m) → Q (.int m) H) : rMax K [.ref a] H Q := ⟨a, ns, rfl, h, h0, q⟩
theorem k_gtup (h : SqT K H a xs) (hn : xs.length = n) (q : t xs σ H QQ) : gTup K n t (.ref a) σ H QQ := ⟨a, xs, rfl, h, hn, q⟩
theorem k_gcons (q : g v σ H fun σ' H' => u vs σ' H' QQ) : gCons g u (v :: vs) σ H QQ := ⟨v, vs, rfl, q⟩
theorem k_gnil (q : QQ σ H) : gNil [] σ H QQ := ⟨rfl, q⟩
theorem k_gattr (h : ta σ H (cSF K f v QQ σ)) : gAttr K ta f v σ H QQ := h
/-- a constant tuple of the top -/
structure Cst (K : PySem.W.Frag) (mg : Str → Option Value) (x : Str) (a : Addr) (xs : List V) : Prop where
  g : mg x = some (.ref a)
  at_ : ∀ H, SqT K H a xs
def Cel.ro (c : Cel) : Cel := { c with w := false }
/-- a method that only reads -/
theorem Now.read {fp : List Cel} (h : CelOk H fp) (tp : ∀ p ∈ ts, H p.1 = some (.tup p.2)) : Now K none M H H (fp.map Cel.ro) ts :=
  .start (by rw [List.map_map]; exact h.1) (fun c hc => by
    obtain ⟨b, hb, rfl⟩ := List.mem_map.mp hc
    exact ⟨(h.2 b hb).1, (h.2 b hb).2, fun z => by cases z⟩) tp (by simp)
theorem filt_snoc {α : Type} {p : α → Bool} {l : List α} {i : Nat} {z : α} (h : l[i]? = some z) : (l.take (i + 1)).filter p = if p z = true then (l.take i).filter p ++ [z] else (l.take i).filter p := by
  rw [List.take_add_one, h, List.filter_append]
  by_cases c : p z = true
  · simp [c]
  · simp [c]
theorem filt_len {α : Type} {p : α → Bool} {l : List α} {i : Nat} : ((l.take i).filter p).length ≤ l.length :=
  Nat.le_trans (List.length_filter_le _ _) (by rw [List.length_take]; omega)
def cPar3 (i j l : Nat) (nx : L2.St → Hp → Prop) (σ : L2.St) : List V → Hp → Prop := fun vs H1 => ∃ u v w, vs = [u, v, w] ∧ nx (((σ.set i (some u)).set j (some v)).set l (some w)) H1
theorem k_par3 {i j l : Nat} {tr : TA} {nx bk ct : L2.St → Hp → Prop} {rt : VK} (h : tr σ H (cPar3 i j l nx σ)) : tPar3 i j l tr ⟨nx, rt, bk, ct⟩ σ H := h
theorem e_par3 {i j l : Nat} {nx : L2.St → Hp → Prop} {u v w : V} (h : nx (((σ.set i (some u)).set j (some v)).set l (some w)) H) : cPar3 i j l nx σ [u, v, w] H := ⟨u, v, w, rfl, h⟩
theorem k_lenSet {K : PySem.W.Frag} (h : te σ H fun x H1 => ∃ (l : Addr) (ns : List Int), x = .ref l ∧ SqL K H1 l (ns.map V.int) ∧ ns.Nodup ∧ ns.length ≤ 4000 ∧ Q (.int (ns.length : Nat)) H1) : RZ.tLenSetI K te σ H Q := h
theorem k_eqStr {a b : Str} (h : a ≠ b) (q : Q (.bl false) H) : rEq (.str a) (.str b) H Q := k_eq rfl (by rw [decide_eq_false (fun e => h (V.str.inj e))]; exact q)
def scRetCmp : Stmt → Scope
  | .Return (some (.Compare (.ListComp _ _ sc _) _ _ _)) _ => sc
  | _ => ⟨.function, [], false, false, []⟩
theorem atI_neg1 {α : Type} {xs : List α} (h : 0 < xs.length) : atI xs (-1) = xs[xs.length - 1]? := by
  have e : ixN xs.length (-1) = some (xs.length - 1) := by
    unfold ixN
    rw [if_neg (by omega), if_pos (by omega)]
    congr 1
    omega
  unfold atI
  rw [e]
  rfl
/-! ### menus -/
theorem g_menu2 {b c i : Int} (h : SqL K H p [.int b, .int c]) (hi : 0 ≤ i ∧ i < 2) (q : ∀ v, v = b ∨ v = c → Q (.int v) H) : rIxL K (.ref p) (.int i) H Q := by
  have : i = 0 ∨ i = 1 := by omega
  rcases this with rfl | rfl
  · exact g_ixL h rfl (q _ (.inl rfl))
  · exact g_ixL h rfl (q _ (.inr rfl))
theorem g_menu3 {b c d i : Int} (h : SqL K H p [.int b, .int c, .int d]) (hi : 0 ≤ i ∧ i < 3) (q : ∀ v, v = b ∨ v = c ∨ v = d → Q (.int v) H) : rIxL K (.ref p) (.int i) H Q := by
  have : i = 0 ∨ i = 1 ∨ i = 2 := by omega
  rcases this with rfl | rfl | rfl
  · exact g_ixL h rfl (q _ (.inl rfl))
  · exact g_ixL h rfl (q _ (.inr (.inl rfl)))
  · exact g_ixL h rfl (q _ (.inr (.inr rfl)))
theorem g_menu4 {b c d e i : Int} (h : SqL K H p [.int b, .int c, .int d, .int e]) (hi : 0 ≤ i ∧ i < 4) (q : ∀ v, v = b ∨ v = c ∨ v = d ∨ v = e → Q (.int v) H) : rIxL K (.ref p) (.int i) H Q := by
  have : i = 0 ∨ i = 1 ∨ i = 2 ∨ i = 3 := by omega
  rcases this with rfl | rfl | rfl | rfl
  · exact g_ixL h rfl (q _ (.inl rfl))
  · exact g_ixL h rfl (q _ (.inr (.inl rfl)))
  · exact g_ixL h rfl (q _ (.inr (.inr (.inl rfl))))
  · exact g_ixL h rfl (q _ (.inr (.inr (.inr rfl))))
theorem g_menu5 {b c d e f i : Int} (h : SqL K H p [.int b, .int c, .int d, .int e, .int f]) (hi : 0 ≤ i ∧ i < 5) (q : ∀ v, v = b ∨ v = c ∨ v = d ∨ v = e ∨ v = f → Q (.int v) H) : rIxL K (.ref p) (.int i) H Q := by
  have : i = 0 ∨ i = 1 ∨ i = 2 ∨ i = 3 ∨ i = 4 := by omega
  rcases this with rfl | rfl | rfl | rfl | rfl
  · exact g_ixL h rfl (q _ (.inl rfl))
  · exact g_ixL h rfl (q _ (.inr (.inl rfl)))
  · exact g_ixL h rfl (q _ (.inr (.inr (.inl rfl))))
  · exact g_ixL h rfl (q _ (.inr (.inr (.inr (.inl rfl)))))
  · exact g_ixL h rfl (q _ (.inr (.inr (.inr (.inr rfl)))))
/-! ### sorted -/
def srt (l : List Int) : List Int := l.mergeSort fun a b => decide (a ≤ b)
theorem srt_perm (l : List Int) : (srt l).Perm l := List.mergeSort_perm l _
theorem srt_sorted (l : List Int) : (srt l).Pairwise (· ≤ ·) := by
  have h : (srt l).Pairwise fun a b => decide (a ≤ b) = true := List.pairwise_mergeSort (fun a b c h1 h2 => by
    have := of_decide_eq_true h1
    have := of_decide_eq_true h2
    exact decide_eq_true (by omega)) (fun a b => by
    by_cases c : a ≤ b
    · simp [c]
    · simp [show b ≤ a by omega]) l
  exact h.imp fun {a b} h => of_decide_eq_true h
theorem srt_eq {ys l : List Int} (hp : ys.Perm l) (hs : ys.Pairwise (· ≤ ·)) : ys = srt l := sorted_eq hp hs (srt_perm l) (srt_sorted l)
theorem srt_len (l : List Int) : (srt l).length = l.length := (srt_perm l).length_eq
theorem srt_mem {l : List Int} {x : Int} : x ∈ srt l ↔ x ∈ l := (srt_perm l).mem_iff
theorem g_srt {ks : List Int} (N : Now K D M H0 H l ts) (hx : SqL K H a (ks.map V.int)) (q : ∀ p H', Now K D M H0 H' (⟨true, p, .lst ((srt ks).map V.int)⟩ :: l) ts → Q (.ref p) H') : rSortedI K [.ref a] H Q :=
  g_sortL N hx fun p H' ys h1 h2 N' => q p H' (by rw [← srt_eq h1 h2]; exact N')
end
end Ak
namespace Ak
open PySem PySem.Spec PyProof.Rows L2
/-! ### while, by counted turns -/
section
variable {σ : L2.St} {H : Hp} {c : TT} {tb : TS} {Pv : Nat → L2.St → Hp → Prop} {n i : Nat} {nx bk ct : L2.St → Hp → Prop} {rt : VK}
def WW (Pv : Nat → L2.St → Hp → Prop) (n : Nat) : Nat → L2.St → Hp → Prop := fun m σ H => ∃ i, i ≤ n ∧ m = n - i ∧ Pv i σ H
def cWh (Pv : Nat → L2.St → Hp → Prop) (n i : Nat) (tb : TS) (D : Ends) (σ : L2.St) : Bool → Hp → Prop := fun b H1 => if b = true then ∃ N : L2.St → Hp → Prop, (∀ σ' H', N σ' H' → ∃ m', m' < n - i ∧ WW Pv n m' σ' H') ∧ tb { D with nx := N, ct := N, bk := D.nx } σ H1 else D.nx σ H1
theorem k_while (Pv : Nat → L2.St → Hp → Prop) (n : Nat) (h0 : Pv 0 σ H) (hs : ∀ i σ H, i ≤ n → Pv i σ H → c σ H (cWh Pv n i tb ⟨nx, rt, bk, ct⟩ σ)) : tWhile c tb ⟨nx, rt, bk, ct⟩ σ H :=
  ⟨WW Pv n, ⟨n, 0, Nat.zero_le _, rfl, h0⟩, fun m σ H ⟨i, hi, e, p⟩ => by
    subst e
    exact hs i σ H hi p⟩
theorem c_whT (hi : i < n) (q : tb ⟨Pv (i + 1), rt, nx, Pv (i + 1)⟩ σ H) : cWh Pv n i tb ⟨nx, rt, bk, ct⟩ σ true H := ⟨Pv (i + 1), fun σ' H' p => ⟨n - (i + 1), by omega, i + 1, hi, rfl, p⟩, q⟩
theorem c_whF (q : nx σ H) : cWh Pv n i tb ⟨nx, rt, bk, ct⟩ σ false H := q
end
/-! ### for over range(a, b) -/
section
variable {σ : L2.St} {H : Hp} {g : TG} {t : TS} {tr : TA} {nx bk ct : L2.St → Hp → Prop} {rt : VK}
def cForR2 (g : TG) (tb : TS) (D : Ends) (σ : L2.St) : List V → Hp → Prop := fun vs H1 => ∃ i j : Int, vs = [.int i, .int j] ∧ (-(2 ^ 62) ≤ i ∧ i < 2 ^ 62 ∧ -(2 ^ 62) ≤ j ∧ j < 2 ^ 62) ∧
  ∃ W : Nat → Nat → L2.St → Hp → Prop, (∃ m, W 0 m σ H1) ∧ ∀ k m σ H, W k m σ H →
  ((Itr i (j - i).toNat).stop k H ∧ D.nx σ H) ∨ ((Itr i (j - i).toNat).go k H ∧ ∃ N : L2.St → Hp → Prop, (∀ σ' H', N σ' H' → ∃ m', m' < m ∧ W (k + 1) m' σ' H') ∧ ∀ x H', (Itr i (j - i).toNat).yld k H x H' → g x σ H' fun σ2 H2 => tb { D with nx := N, ct := N, bk := D.nx } σ2 H2)
theorem k_forR2 (h : tr σ H (cForR2 g t ⟨nx, rt, bk, ct⟩ σ)) : tFor (iRng2 tr) g t ⟨nx, rt, bk, ct⟩ σ H := h
theorem c_forR2 {lo hi : Int} (hn : (-100000 ≤ lo ∧ lo ≤ 100000) ∧ -100000 ≤ hi ∧ hi ≤ 100000) (Pv : Nat → L2.St → Hp → Prop) (h0 : Pv 0 σ H)
    (hs : ∀ (i : Nat) σ H, lo + (i : Int) < hi → Pv i σ H → g (.int (lo + (i : Int))) σ H fun σ2 H2 => t ⟨Pv (i + 1), rt, nx, Pv (i + 1)⟩ σ2 H2) (hd : ∀ σ H, Pv (hi - lo).toNat σ H → nx σ H) : cForR2 g t ⟨nx, rt, bk, ct⟩ σ [.int lo, .int hi] H :=
  ⟨lo, hi, rfl, ⟨by omega, by omega, by omega, by omega⟩, for_range (D := ⟨nx, rt, bk, ct⟩) Pv h0 (fun i σ H h p => hs i σ H (by omega) p) hd⟩
end
/-- nothing was written yet -/
theorem Now.back {K : PySem.W.Frag} {D : Option Addr} {H0 H : Hp} {fp l : List Cel} {ts : List (Addr × List V)} (N : Now K D (fp.map Cel.a) H0 H l ts) (h : ∀ c ∈ fp, c ∈ l ∧ H0 c.a = some c.o) : Aft [] H0 H :=
  ⟨fun b o e _ => by
    by_cases m : b ∈ fp.map Cel.a
    · obtain ⟨c, hc, rfl⟩ := List.mem_map.mp m
      obtain ⟨h1, h2⟩ := h c hc
      rw [h2] at e
      rw [← e]
      exact N.at_ c h1
    · exact N.af.k b o e m, N.af.t, N.af.z⟩
theorem CelOk.keep {H H' : Hp} {fp : List Cel} (h : CelOk H fp) (A : Aft [] H H') : CelOk H' fp := ⟨h.1, fun c hc => ⟨A.k _ _ (h.2 c hc).1 (by simp), (h.2 c hc).2⟩⟩
theorem CelOk.sel {H : Hp} {l l' : List Cel} (h : CelOk H l) (is : List Nat) (e : is.map (fun i => l[i]?) = l'.map some) (hn : is.Nodup) : CelOk H l' := ((Now.begin (K := []) (ts := []) h (by simp)).sel is e hn).ok
/-- the least number from a place on with a rest -/
theorem least_ne {m lo k : Int} {i : Nat} (hm : 0 < m) (hk : 0 ≤ k ∧ k < m) (hi : (i : Int) < (k - lo) % m) : (lo + i) % m ≠ k := fun e => by
  have h1 : (k - lo - (i : Int)) % m = 0 := by
    have : k - lo - (i : Int) = k - (lo + i) := by omega
    rw [this, ← e, Int.sub_emod, Int.emod_emod, Int.sub_self, Int.zero_emod]
  have h2 := Int.emod_lt_of_pos (k - lo) hm
  have h3 : ((k - lo) % m - (i : Int)) % m = 0 := by rw [Int.sub_emod, Int.emod_emod, ← Int.sub_emod]; exact h1
  rw [Int.emod_eq_of_lt (by omega) (by omega)] at h3
  omega
theorem least_eq {m lo k : Int} (hm : 0 < m) (hk : 0 ≤ k ∧ k < m) : (lo + (k - lo) % m) % m = k := by
  rw [Int.add_emod, Int.emod_emod, ← Int.add_emod]
  rw [show lo + (k - lo) = k by omega]
  exact Int.emod_eq_of_lt hk.1 hk.2
theorem most_ne {m hi k : Int} {i : Nat} (hm : 0 < m) (hk : 0 ≤ k ∧ k < m) (h : (i : Int) < (hi - k) % m) : (hi - i) % m ≠ k := fun e => by
  have h1 : (hi - k - (i : Int)) % m = 0 := by
    have : hi - k - (i : Int) = (hi - i) - k := by omega
    rw [this, ← e, Int.sub_emod, Int.emod_emod, Int.sub_self, Int.zero_emod]
  have h2 := Int.emod_lt_of_pos (hi - k) hm
  have h3 : ((hi - k) % m - (i : Int)) % m = 0 := by rw [Int.sub_emod, Int.emod_emod, ← Int.sub_emod]; exact h1
  rw [Int.emod_eq_of_lt (by omega) (by omega)] at h3
  omega
theorem most_eq {m hi k : Int} (hm : 0 < m) (hk : 0 ≤ k ∧ k < m) : (hi - (hi - k) % m) % m = k := by
  rw [Int.sub_emod, Int.emod_emod, ← Int.sub_emod]
  rw [show hi - (hi - k) = k by omega]
  exact Int.emod_eq_of_lt hk.1 hk.2
end Ak
namespace Ak
open PySem PySem.Spec PyProof.Rows L2
/-! ### tuples of numbers and words -/
abbrev Sc := Int ⊕ Str
def scV : Sc → V
  | .inl n => .int n
  | .inr s => .str s
def scD : Sc → PyData
  | .inl n => .int n
  | .inr s => .str s
theorem eqv_sc : ∀ {a b : List Sc}, PyData.eqvAll (a.map scD) (b.map scD) = decide (a = b)
  | [], [] => by simp [PyData.eqvAll]
  | [], _ :: _ => by simp [PyData.eqvAll]
  | _ :: _, [] => by simp [PyData.eqvAll]
  | x :: a, y :: b => by
    have ih := eqv_sc (a := a) (b := b)
    rw [List.map_cons, List.map_cons, PyData.eqvAll, ih]
    cases x with
    | inl x =>
      cases y with
      | inl y =>
        by_cases e : x = y
        · subst e; by_cases e2 : a = b <;> simp [scD, PyData.eqv, e2]
        · simp [scD, PyData.eqv, e]
      | inr y => simp [scD, PyData.eqv]
    | inr x =>
      cases y with
      | inl y => simp [scD, PyData.eqv]
      | inr y =>
        by_cases e : x = y
        · subst e; by_cases e2 : a = b <;> simp [scD, PyData.eqv, e2]
        · simp [scD, PyData.eqv, e]
def scOk : Sc → Bool
  | .inl _ => true
  | .inr s => PySem.PyData.strOk s
theorem lay_sc : ∀ ns : List Sc, ns.all scOk = true → PyData.canLayAll0 (ns.map scD) = true ∧ PyData.depthAll (ns.map scD) ≤ 1
  | [], _ => by simp [PyData.canLayAll0, PyData.depthAll]
  | .inl n :: ns, h => by
    obtain ⟨h1, h2⟩ := lay_sc ns (by simpa [scOk] using h)
    simp only [List.map_cons, scD, PyData.canLayAll0, PyData.depthAll, PyData.canLay0, PyData.depth, h1, Bool.and_self, true_and]
    omega
  | .inr n :: ns, h => by
    have h : PySem.PyData.strOk n = true ∧ ns.all scOk = true := by simpa [scOk] using h
    obtain ⟨h1, h2⟩ := lay_sc ns h.2
    simp only [List.map_cons, scD, PyData.canLayAll0, PyData.depthAll, PyData.canLay0, PyData.depth, h1, h.1, Bool.and_self, true_and]
    omega
theorem shaped_sc {ns : List Sc} (h : ns.all scOk = true) : SeqAt.shaped (.tuple (ns.map scD)) = true := by
  obtain ⟨h1, h2⟩ := lay_sc ns h
  unfold SeqAt.shaped
  simp only [PyData.canLay0, PyData.depth, h1, Bool.true_and]
  exact decide_eq_true (by omega)
section
variable {K : PySem.W.Frag} {H : Hp} {a b : Addr} {Q : VK}
theorem dpa_sc : ∀ ns : List Sc, DpAll K H (ns.map scV) (ns.map scD)
  | [] => .nil
  | .inl n :: ns => .cons (.int n) (dpa_sc ns)
  | .inr n :: ns => .cons (.str n) (dpa_sc ns)
theorem g_eqSc {m n : List Sc} (o1 : m.all scOk = true) (o2 : n.all scOk = true) (h1 : SqT K H a (m.map scV)) (h2 : SqT K H b (n.map scV)) (q : Q (.bl (decide (m = n))) H) : rEqD K (.ref a) (.ref b) H Q :=
  ⟨_, _, .tup h1 (dpa_sc m), .tup h2 (dpa_sc n), shaped_sc o1, shaped_sc o2, by rw [PyData.eqv, eqv_sc]; exact q⟩
theorem g_neSc {m n : List Sc} (o1 : m.all scOk = true) (o2 : n.all scOk = true) (h1 : SqT K H a (m.map scV)) (h2 : SqT K H b (n.map scV)) (q : Q (.bl (decide (m ≠ n))) H) : rNeD K (.ref a) (.ref b) H Q :=
  ⟨_, _, .tup h1 (dpa_sc m), .tup h2 (dpa_sc n), shaped_sc o1, shaped_sc o2, by rw [PyData.eqv, eqv_sc, ← decide_not]; exact q⟩
end
/-! ### enumerate of a list -/
section
variable {K : PySem.W.Frag} {σ : L2.St} {H : Hp} {g : TG} {t : TS} {tr : TA} {nx bk ct : L2.St → Hp → Prop} {rt : VK} {a : Addr} {xs : List V}
def cForE (K : PySem.W.Frag) (g : TG) (tb : TS) (D : Ends) (σ : L2.St) : List V → Hp → Prop := fun vs H1 => ∃ a xs, vs = [.ref a] ∧ SqL K H1 a xs ∧
  ∃ W : Nat → Nat → L2.St → Hp → Prop, (∃ m, W 0 m σ H1) ∧ ∀ i m σ H, W i m σ H →
  ((Ite K a).stop i H ∧ D.nx σ H) ∨ ((Ite K a).go i H ∧ ∃ N : L2.St → Hp → Prop, (∀ σ' H', N σ' H' → ∃ m', m' < m ∧ W (i + 1) m' σ' H') ∧ ∀ x H', (Ite K a).yld i H x H' → g x σ H' fun σ2 H2 => tb { D with nx := N, ct := N, bk := D.nx } σ2 H2)
theorem k_forE (h : tr σ H (cForE K g t ⟨nx, rt, bk, ct⟩ σ)) : tFor (iEnum K tr) g t ⟨nx, rt, bk, ct⟩ σ H := h
theorem c_forE (Pv : Nat → L2.St → Hp → Prop) (h0 : Pv 0 σ H) (hl : ∀ i σ H, i ≤ xs.length → Pv i σ H → SqL K H a xs)
    (hs : ∀ i x σ H T, xs[i]? = some x → Pv i σ H → H T = none → g (.ref T) σ (upd H T (.tup [.int (i : Nat), x])) fun σ2 H2 => t ⟨Pv (i + 1), rt, nx, Pv (i + 1)⟩ σ2 H2) (hd : ∀ σ H, Pv xs.length σ H → nx σ H) : cForE K g t ⟨nx, rt, bk, ct⟩ σ [.ref a] H := by
  refine ⟨a, xs, rfl, hl 0 σ H (Nat.zero_le _) h0, fun i m σ H => m = xs.length - i ∧ i ≤ xs.length ∧ Pv i σ H, ⟨xs.length, by simp, Nat.zero_le _, h0⟩, ?_⟩
  rintro i m σ H ⟨rfl, hi, q⟩
  have sq := hl i σ H hi q
  by_cases lt : i < xs.length
  · refine .inr ⟨⟨xs, xs[i], sq, by simp [lt]⟩, Pv (i + 1), fun σ' H' q' => ⟨xs.length - (i + 1), by omega, rfl, lt, q'⟩, ?_⟩
    rintro x H' ⟨T, y, rfl, hT, rfl, hy⟩
    exact hs i y σ H T (hy xs sq) q hT
  · have e : i = xs.length := by omega
    subst e
    exact .inl ⟨⟨xs, sq, Nat.le_refl _⟩, hd σ H q⟩
end
/-! ### events -/
inductive Ev where
  | send
  | come (n : Int)
  | tell
  | hear (n : Int)
  deriving DecidableEq
def Ev.sc : Ev → List Sc
  | .send => [.inr "send"]
  | .come n => [.inr "come", .inl n]
  | .tell => [.inr "tell"]
  | .hear n => [.inr "hear", .inl n]
theorem Ev.scOk (e : Ev) : e.sc.all Ak.scOk = true := by
  cases e
  · show (PySem.PyData.strOk (PySem.Str.ofString "send") && true) = true
    decide +kernel
  · show (PySem.PyData.strOk (PySem.Str.ofString "come") && true) = true
    decide +kernel
  · show (PySem.PyData.strOk (PySem.Str.ofString "tell") && true) = true
    decide +kernel
  · show (PySem.PyData.strOk (PySem.Str.ofString "hear") && true) = true
    decide +kernel
theorem Ev.sc_inj {e f : Ev} (h : e.sc = f.sc) : e = f := by
  have d1 : ("send" : Str) ≠ "tell" := by decide
  have d2 : ("come" : Str) ≠ "hear" := by decide
  cases e <;> cases f <;> simp_all [Ev.sc]
abbrev Ev.v (e : Ev) : List V := e.sc.map scV
section
variable {K : PySem.W.Frag} {H : Hp} {a b : Addr} {Q : VK}
def Ev.isSend : Ev → Bool
  | .send => true
  | _ => false
def Ev.isTell : Ev → Bool
  | .tell => true
  | _ => false
theorem ev_send (e : Ev) : decide (e.sc = [.inr "send"]) = e.isSend := by
  have d1 : ("come" : Str) ≠ "send" := by decide
  have d2 : ("tell" : Str) ≠ "send" := by decide
  have d3 : ("hear" : Str) ≠ "send" := by decide
  cases e <;> simp_all [Ev.sc, Ev.isSend]
theorem ev_tell (e : Ev) : decide (e.sc = [.inr "tell"]) = e.isTell := by
  have d1 : ("come" : Str) ≠ "tell" := by decide
  have d2 : ("send" : Str) ≠ "tell" := by decide
  have d3 : ("hear" : Str) ≠ "tell" := by decide
  cases e <;> simp_all [Ev.sc, Ev.isTell]
theorem g_evSend {e : Ev} {r : Bool} (hr : e.isSend = r) (h1 : SqT K H a e.v) (h2 : SqT K H b [.str "send"]) (q : Q (.bl r) H) : rEqD K (.ref a) (.ref b) H Q :=
  g_eqSc (m := e.sc) (n := [.inr "send"]) e.scOk (Ev.scOk .send) h1 h2 (by rw [ev_send, hr]; exact q)
theorem g_evTell {e : Ev} {r : Bool} (hr : e.isTell = r) (h1 : SqT K H a e.v) (h2 : SqT K H b [.str "tell"]) (q : Q (.bl r) H) : rEqD K (.ref a) (.ref b) H Q :=
  g_eqSc (m := e.sc) (n := [.inr "tell"]) e.scOk (Ev.scOk .tell) h1 h2 (by rw [ev_tell, hr]; exact q)
/-- a word in a tuple of words -/
theorem g_inW {neg r : Bool} {s : Str} {ws : List V} (h : SqL K H a ws ∨ SqT K H a ws) (hf : ws.all flatV = true) (hr : (if neg then !inV (.str s) ws else inV (.str s) ws) = r) (q : Q (.bl r) H) : rIn K neg (.str s) (.ref a) H Q := ⟨a, ws, rfl, h, rfl, hf, by rw [hr]; exact q⟩
end
/-! ### tuples that stand: many at once -/
section
variable {K : PySem.W.Frag} {D : Option Addr} {M : List Addr} {H0 H H' : Hp} {l : List Cel} {ts : List (Addr × List V)} {a p : Addr} {Q : VK} {xs : List V}
theorem Now.addTs (N : Now K D M H0 H l ts) {L : List (Addr × List V)} (h : ∀ p ∈ L, H p.1 = some (.tup p.2)) : Now K D M H0 H l (ts ++ L) := ⟨N.nd, N.at_, N.mu, N.ow, fun p hp => (List.mem_append.mp hp).elim (N.tp p) (h p), N.af, N.dc⟩
/-- what tuples tell of a list of values -/
def Held (R : Hp → Prop) (H : Hp) : Prop := ∃ L : List (Addr × List V), (∀ p ∈ L, H p.1 = some (.tup p.2)) ∧ ∀ H', (∀ p ∈ L, H' p.1 = some (.tup p.2)) → R H'
theorem held_paired {α : Type} {R : Hp → V → α → Prop} (hR : ∀ H v x, R H v x → Held (fun H' => R H' v x) H) : ∀ {H : Hp} {vs : List V} {xs : List α}, Paired (R H) vs xs → Held (fun H' => Paired (R H') vs xs) H
  | _, _, _, .nil => ⟨[], by simp, fun _ _ => .nil⟩
  | H, _, _, .cons h1 h2 => by
    obtain ⟨L1, a1, b1⟩ := hR _ _ _ h1
    obtain ⟨L2, a2, b2⟩ := held_paired hR h2
    exact ⟨L1 ++ L2, fun p hp => (List.mem_append.mp hp).elim (a1 p) (a2 p), fun H' h => .cons (b1 H' fun p hp => h p (List.mem_append_left _ hp)) (b2 H' fun p hp => h p (List.mem_append_right _ hp))⟩
theorem g_rep {k : Int} {n : Nat} (N : Now K D M H0 H l ts) (hx : H a = some (.lst xs)) (hk : k = (n : Int)) (hn : n ≤ 1000) (hz : xs.length ≤ 100) (q : ∀ p H', Now K D M H0 H' (⟨true, p, .lst (List.replicate n xs).flatten⟩ :: l) ts → Q (.ref p) H') : rRep (.ref a) (.int k) H Q := by
  subst hk
  refine ⟨a, (n : Int), xs, rfl, rfl, hx, by omega, by omega, ?_, fun p hp => ?_⟩
  · have : xs.length * n ≤ 100 * 1000 := Nat.mul_le_mul hz hn
    exact Nat.le_trans this (by decide)
  · have := q p _ (N.newC hp (o := .lst (List.replicate n xs).flatten) trivial)
    exact this
theorem g_rep0 (N : Now K D M H0 H l ts) (hx : H a = some (.lst xs)) (hz : xs.length ≤ 100) (q : ∀ p H', Now K D M H0 H' (⟨true, p, .lst []⟩ :: l) ts → Q (.ref p) H') : rRep (.ref a) (.int 0) H Q :=
  g_rep (n := 0) N hx rfl (by omega) hz fun p H' N' => q p H' N'
theorem g_rep1 (N : Now K D M H0 H l ts) (hx : H a = some (.lst xs)) (hz : xs.length ≤ 100) (q : ∀ p H', Now K D M H0 H' (⟨true, p, .lst xs⟩ :: l) ts → Q (.ref p) H') : rRep (.ref a) (.int 1) H Q :=
  g_rep (n := 1) N hx rfl (by omega) hz fun p H' N' => q p H' (by
    have e : (List.replicate 1 xs).flatten = xs := by simp
    rw [e] at N'
    exact N')
/-- how many cells: another order of three parts -/
theorem Now.turn {l1 l2 l3 : List Cel} (N : Now K D M H0 H (l1 ++ (l2 ++ l3)) ts) : Now K D M H0 H (l2 ++ (l1 ++ l3)) ts := N.perm (List.perm_append_comm_assoc l2 l1 l3)
end
end Ak
namespace Ak
open PySem PySem.Spec PyProof.Rows L2
/-! ### exceptions: own classes without own __init__ -/
structure ExK (K : PySem.W.Frag) (mg : Str → Option Value) (x : Str) (C : Addr) : Prop where
  g : mg x = some (.ref C)
  kp : PySem.W.keepIn K (.ref C) = true
  ei : PySem.W.excIn K C veTail "ValueError.__new__" = true
  sb : PySem.W.subIn K (.ref C) (.type "BaseException") = some true
  ty : PySem.W.typeIn K (.ref C) = some (.type "type")
theorem exKB_ok {K : PySem.W.Frag} {mg : Str → Option Value} {x : Str} {C : Addr} (g : mg x = some (.ref C)) (h : exKB K C = true) : ExK K mg x C := by
  unfold exKB at h
  simp only [Bool.and_eq_true, decide_eq_true_eq] at h
  exact ⟨g, h.1, h.2.1, h.2.2.1, h.2.2.2⟩
theorem ps_raiseK {X : Cx} {W : WX} {x m : Str} {C : Addr} {j : Nat} {p p2 pos pos2 : Pos} (hc : X.calm = true) (tk : Takes X W) (T : ExK X.K X.mg x C) (hg : Gl X x) (hdb : (x == ("__debug__" : Str)) = false := by decide) :
    PS X (.Raise (some (.Call (.Name x p) [.Constant (.str m) j p2] [] pos)) none pos2) (fun _ σ H => W (.ref C) none σ H) :=
  ps_raise hc tk (pmk_own PySem.F.excBase_ValueError T.ei T.g T.kp (raises_own T.sb T.ty) hg hdb)
theorem pe_nev {X : Cx} {e : Expr} : PE X e (fun _ _ _ => False) := ⟨fun _ _ _ _ _ _ h => h.elim⟩
/-- a def that makes lambdas: its code object is told -/
theorem okC {P : Program} {w : World} {K : PySem.W.Frag} {mg : Str → Option Value} {base : Heap} {x qual : Str} {params : Arguments} {body : List Stmt} {scope : Scope} {dvs : List V} {kws : List (Str × V)} {f : Addr} {fd : FuncData}
    {CX : CXT} {N ps : List Str} {k : Nat} {sp : Sp} (F : FunD K x qual params body scope dvs kws f fd) (S : FnScope N ps scope) (len : ∀ vs H Q E, sp vs H Q E → vs.length = ps.length)
    (hbody : ∀ (c : Addr) (A : Around) (outer : List Env) (s : Shared) (H : Hp) (vs : List V) (Q : VK) (E : XK), fd.code = .ref c → Room k (A.deeper (envOfC qual scope s.heap.objs.size f (.ref c))) → sp vs H Q E →
      ∃ t, PSs (cxOf CX P w K mg base N qual scope f (.ref c) A outer s H E) body t ∧ t { nx := fun _ H' => Q .non H', rt := Q } (start N vs) H) : FnOk P w K mg base CX (k + 1) f fd ps sp := by
  obtain ⟨oc, od, dV, kV, doc, pm, an, cdv, ct, osl, rfl, lk, hcd, _, _⟩ := F.ex
  obtain ⟨c, rfl⟩ := He.codeIn_ref hcd
  exact fn_of lk hcd S len fun A outer s H vs Q E hr hsp => hbody c A outer s H vs Q E rfl hr hsp
/-! ### list.count, flat items -/
theorem mt_countF_eq {ys : List V} {its : List Value} {y : V} {uy : Value} (rv : Vals ys its) (ry : RelV y uy) (fys : ys.all flatV = true) : its.countP (eqU y) = ys.countP fun z => eqV z y := by
  induction rv with
  | nil => rfl
  | cons r rv ih =>
    rename_i v u vs us
    have h := List.all_eq_true.mp fys
    have h1 : flatV v = true := h v List.mem_cons_self
    have h2 : vs.all flatV = true := List.all_eq_true.mpr fun z hz => h z (List.mem_cons_of_mem _ hz)
    rw [List.countP_cons, List.countP_cons, ih h2, eqU_of r h1]
def rCntF (K : PySem.W.Frag) : V → List V → Hp → VK → Prop := fun x xs H Q => ∃ (p : Addr) (ys : List V) (y : V), x = .ref p ∧ xs = [y] ∧ SqL K H p ys ∧ flatV y = true ∧ ys.all flatV = true ∧ Q (.int ((ys.countP fun z => eqV z y : Nat) : Int)) H
theorem mt_countF {X : Cx} : MtR X "list.count" (rCntF X.K) := by
  intro pins s σ H x xs v us Q I rx rxs h
  obtain ⟨p, ys, y, rfl, rfl, hs, fy, fys, q⟩ := h
  cases rx
  cases rxs with
  | cons ry rt =>
    rename_i uy ut
    cases rt
    obtain ⟨its, rv, ⟨⟨cls, dd, data, sl⟩, n, ho, hc, hdn, hd⟩, hlen⟩ := I.list hs
    simp only at hc hd
    subst hc hd
    refine call_meets PySem.F.slot_list_count ⟨_, ho, rfl⟩ PySem.F.entry_list_count (PySem.F.args_list_count_2 _ _)
      (SeqAt.list_countAt p its.toArray n dd sl uy (eqU y)) ⟨ho, fun u' hu' => mem_eqAt ry fy rv fys u' (by simpa using hu'), ?_⟩
    have ec : its.toArray.toList.countP (eqU y) = ys.countP fun z => eqV z y := mt_countF_eq rv ry fys
    refine ⟨.int ((ys.countP fun z => eqV z y : Nat) : Int), H, I.tok _, ⟨s.toks, ?_⟩, q⟩
    show Value.int ((its.toArray.toList.countP (eqU y) : Nat) : Int) s.toks = Value.int ((ys.countP fun z => eqV z y : Nat) : Int) s.toks
    rw [ec]
/-! ### a caught exception -/
theorem takes_len {X : Cx} {W : WX} (tk : Takes X W) : Takes X (fun cls d σ H => σ.length = X.N.length → W cls d σ H) := fun u s' ⟨a, B, sI, pins, σ, H, cls, d, e, I, nb, up, sky, na, os, ag, h⟩ =>
  tk u s' ⟨a, B, sI, pins, σ, H, cls, d, e, I, nb, up, sky, na, os, ag, h I.len⟩
/-- isinstance(e, c), e the exception of the suite -/
def rIsEg (K : PySem.W.Frag) (cls : Value) (d : Option Addr) (a : Addr) : List V → Hp → VK → Prop := fun xs H Q => ∃ (D : Addr) (c : V) (cv : Value) (b : Bool), cls = .ref D ∧ d = none ∧ ExcC K D ∧ xs = [.ref a, c] ∧ (∀ u, RelV c u → u = cv) ∧ PySem.W.kitOne K (.ref D) cv = some b ∧ Q (.bl b) H
theorem call_isEg {X : Cx} {a : Addr} {cls : Value} {d : Option Addr} {oe : Obj} {pn : List (Addr × Obj)} (hz : Zc cls d oe) (hf : ∃ vs, oe.data = .fields vs) : CallR (X.suite a ((a, oe) :: pn)) (.builtin "isinstance") (rIsEg X.K cls d a) := by
  intro pins s σ H xs us Q I r h
  obtain ⟨D, c, cv, b, rfl, rfl, C, e1, e2, e3, q⟩ := h
  exact call_isE C hz hf pins s σ H xs us Q I r ⟨c, cv, b, e1, e2, e3, q⟩
/-- the kinds of refusals by name -/
structure Kin (mg : Str → Option Value) (c1 c2 c3 c4 c5 c6 cb : Addr) : Prop where
  g1 : mg "BadSetting" = some (.ref c1)
  g2 : mg "BadMark" = some (.ref c2)
  g3 : mg "BadBits" = some (.ref c3)
  g4 : mg "Full" = some (.ref c4)
  g5 : mg "BadEvent" = some (.ref c5)
  g6 : mg "BadText" = some (.ref c6)
  gb : mg "BitsError" = some (.ref cb)
  ve : mg "ValueError" = none
/-- D is the kind n among them -/
structure Kof (K : PySem.W.Frag) (c1 c2 c3 c4 c5 c6 cb D : Addr) (n : Nat) : Prop where
  c : ExcC K D
  k1 : PySem.W.kitOne K (.ref D) (.ref c1) = some (decide (n = 1))
  k2 : PySem.W.kitOne K (.ref D) (.ref c2) = some (decide (n = 2))
  k3 : PySem.W.kitOne K (.ref D) (.ref c3) = some (decide (n = 3))
  k4 : PySem.W.kitOne K (.ref D) (.ref c4) = some (decide (n = 4))
  k5 : PySem.W.kitOne K (.ref D) (.ref c5) = some (decide (n = 5))
  k6 : PySem.W.kitOne K (.ref D) (.ref c6) = some (decide (n = 6))
  kv : PySem.W.kitOne K (.ref D) (.type "ValueError") = some true
  m : PySem.W.exmOne K (.ref D) (.ref cb) = some true
theorem excCB_ok {K : PySem.W.Frag} {D : Addr} (h : excCB K D = true) : ExcC K D := by
  unfold excCB at h
  simp only [Bool.and_eq_true, decide_eq_true_eq] at h
  obtain ⟨h1, h2, h3, h4, h5, h6, h7, h8⟩ := h
  exact ⟨h1, h2, h3, h4, h5, h6, h7, h8⟩
theorem kofB_ok {K : PySem.W.Frag} {c1 c2 c3 c4 c5 c6 cb D : Addr} {n : Nat} (h : kofB K c1 c2 c3 c4 c5 c6 cb D n = true) : Kof K c1 c2 c3 c4 c5 c6 cb D n := by
  unfold kofB at h
  simp only [Bool.and_eq_true, decide_eq_true_eq] at h
  obtain ⟨h0, h1, h2, h3, h4, h5, h6, h7, h8⟩ := h
  exact ⟨excCB_ok h0, h1, h2, h3, h4, h5, h6, h7, h8⟩
def kWord : Nat → Str
  | 1 => "setting"
  | 2 => "mark"
  | 3 => "bits"
  | 4 => "full"
  | 5 => "event"
  | _ => "text"
/-- what _law_told makes of a lambda's reading, where no field is asked -/
def TTold (K : PySem.W.Frag) (c1 c2 c3 c4 c5 c6 cb : Addr) : (XK → Hp → VK → Prop) → Hp → VK → Prop := fun tl H Q =>
  tl (fun cls d H' => ∃ (D : Addr) (n : Nat), cls = .ref D ∧ d = none ∧ Kof K c1 c2 c3 c4 c5 c6 cb D n ∧ (n = 2 ∨ n = 3 ∨ n = 4) ∧ ∀ p H'', Aft [] H' H'' → H'' p = some (.tup [.str (kWord n)]) → Q (.ref p) H'') H Q
theorem g_cntF {K : PySem.W.Frag} {H : Hp} {p : Addr} {ys : List V} {y : V} {n : Nat} {Q : VK} (h : SqL K H p ys) (f1 : flatV y = true) (f2 : ys.all flatV = true) (hn : (ys.countP fun z => eqV z y) = n) (q : Q (.int (n : Int)) H) : rCntF K (.ref p) [y] H Q := ⟨p, ys, y, rfl, rfl, h, f1, f2, by rw [hn]; exact q⟩
theorem g_idx {K : PySem.W.Frag} {H : Hp} {p : Addr} {ys : List V} {y z : V} (j : Nat) {Q : VK} (h : SqL K H p ys) (f1 : flatV y = true) (f2 : ys.all flatV = true) (hz : ys[j]? = some z) (hj : eqV z y = true) (hno : ∀ (m : Nat) (z' : V), m < j → ys[m]? = some z' → eqV z' y = false) (q : Q (.int (j : Int)) H) : rIndex K (.ref p) [y] H Q :=
  ⟨p, ys, y, j, z, rfl, rfl, h, f1, f2, hz, hj, hno, q⟩
theorem mt_indexK {X : Cx} (K : PySem.W.Frag) (h : X.K = K) : MtR X "list.index" (rIndex K) := h ▸ mt_index
theorem mt_countFK {X : Cx} (K : PySem.W.Frag) (h : X.K = K) : MtR X "list.count" (rCntF K) := h ▸ mt_countF
theorem call_isEgK {X : Cx} (K : PySem.W.Frag) (h : X.K = K) {a : Addr} {cls : Value} {d : Option Addr} {oe : Obj} {pn : List (Addr × Obj)} (hz : Zc cls d oe) (hf : ∃ vs, oe.data = .fields vs) : CallR (X.suite a ((a, oe) :: pn)) (.builtin "isinstance") (rIsEg K cls d a) := h ▸ call_isEg hz hf
/-! ### lambdas: tables of code objects beside the cells -/
def plainO : HO → Bool
  | .lst _ => true
  | .dK _ => true
  | .ins _ _ _ => true
  | _ => false
theorem tabs_aft {T : List (Addr × Str)} {M : List Addr} {H H' : Hp} (t : LamX.Tabs T H) (A : Aft M H H') (hM : ∀ b ∈ M, ∃ o, H b = some o ∧ plainO o = true) : LamX.Tabs T H' := fun p hp => by
  obtain ⟨ps, h1, h2, h3⟩ := t p hp
  have nP : p.1 ∉ M := fun m => by
    obtain ⟨o, e1, e2⟩ := hM _ m
    rw [h1] at e1
    rw [← Option.some.inj e1] at e2
    cases e2
  refine ⟨ps, A.k _ _ h1 nP, h2, fun pos cv hc => ?_⟩
  obtain ⟨c, e, hco⟩ := h3 pos cv hc
  refine ⟨c, e, A.k _ _ hco fun m => ?_⟩
  obtain ⟨o, e1, e2⟩ := hM _ m
  rw [hco] at e1
  rw [← Option.some.inj e1] at e2
  cases e2
section
variable {K : PySem.W.Frag} {M : List Addr} {H0 H H1 H2 : Hp} {l : List Cel} {ts : List (Addr × List V)} {d : Addr} {T : List (Addr × Str)}
theorem Now.tabs (N : Now K (some d) M H0 H l ts) (t : LamX.Tabs T H) (hl : ∀ c ∈ l, plainO c.o = true) (A : Aft (d :: l.map Cel.a) H H2) : LamX.Tabs T H2 := tabs_aft t A fun b hb => by
  rcases List.mem_cons.mp hb with e | e
  · subst e
    obtain ⟨_, _, _, _, _, h, _⟩ := (N.dc b rfl).1.ex
    exact ⟨_, h, rfl⟩
  · obtain ⟨c, hc, rfl⟩ := List.mem_map.mp e
    exact ⟨_, N.at_ c hc, hl c hc⟩
theorem Now.reb (N : Now K (some d) M H0 H l ts) : Now K (some d) (d :: l.map Cel.a) H H l ts :=
  .start N.nd (fun c hc => ⟨N.at_ c hc, N.mu c hc, fun _ => List.mem_cons_of_mem _ (List.mem_map.mpr ⟨c, hc, rfl⟩)⟩) N.tp fun e he => by
    cases he
    obtain ⟨h1, h2, h3⟩ := N.dc d rfl
    exact ⟨h1, List.mem_cons_self, h3⟩
theorem Now.extN (N : Now K (some d) M H0 H l ts) (e : LamX.ExtN H H1) : Now K (some d) (d :: l.map Cel.a) H1 H1 l ts :=
  .start N.nd (fun c hc => ⟨e _ _ (N.at_ c hc) (fun ps z => by
      have m := N.mu c hc
      rw [z] at m
      exact m), N.mu c hc, fun _ => List.mem_cons_of_mem _ (List.mem_map.mpr ⟨c, hc, rfl⟩)⟩) (fun p hp => e _ _ (N.tp p hp) (fun ps z => by cases z)) fun e' he => by
    cases he
    obtain ⟨⟨a, ns, i, m, r, h1, h2, h3⟩, _, h5⟩ := N.dc d rfl
    refine ⟨⟨a, ns, i, m, r, e _ _ h1 (fun ps z => by cases z), ?_, h3⟩, List.mem_cons_self, h5⟩
    rcases h2 with ⟨u, h⟩ | h
    · exact .inl ⟨u, e _ _ h (fun ps z => by cases z)⟩
    · exact .inr h
theorem k_lam {TT : (XK → Hp → VK → Prop) → Hp → VK → Prop} {t : XK → TE} {σ : L2.St} {Q : VK} (hT : LamX.Tabs T H) (h : ∀ H1, LamX.ExtN H H1 → LamX.Tabs T H1 → TT (fun E H' Q' => t E σ H' Q') H1 Q) : LamX.tLam T TT t σ H Q := ⟨hT, h⟩
end
/-! ### a block under a lock, or as it is -/
theorem pss_lockA {X : Cx} {sts : List Stmt} {t : TS} (h : PSs X sts t) : PSs X sts (fun D σ H => t D σ H ∨ tLock t D σ H) := ⟨fun pins s σ H D I z => by
  rcases z with z | ⟨e, o, he, mo, z⟩
  · exact h.run pins s σ H D I z
  · obtain ⟨oo, J⟩ := I.lock he mo
    have back : ∀ {σ' : L2.St} {H' : Hp} {s' : Shared}, Inv X pins σ' H' s' → H' e = some (.frz oo o) → Inv X pins σ' (upd H' e o) s' := fun J' q => J'.unlock q (I.nofrz he mo)
    refine wpAny_mono (h.run pins s σ _ _ J (z oo)) (fun f s1 q => ?_) (fun _ _ q => q)
    cases f with
    | ret v =>
      obtain ⟨x, σ1, H1, J1, rx, q1, q2⟩ := q
      exact ⟨x, σ1, upd H1 e o, back J1 q1, rx, q2⟩
    | next =>
      obtain ⟨σ1, H1, J1, q1, q2⟩ := q
      exact ⟨σ1, upd H1 e o, back J1 q1, q2⟩
    | brk =>
      obtain ⟨σ1, H1, J1, q1, q2⟩ := q
      exact ⟨σ1, upd H1 e o, back J1 q1, q2⟩
    | cont =>
      obtain ⟨σ1, H1, J1, q1, q2⟩ := q
      exact ⟨σ1, upd H1 e o, back J1 q1, q2⟩⟩
/-- tables and locks -/
structure TZ (T : List (Addr × Str)) (Z : List (Addr × Obj × HO)) (H : Hp) : Prop where
  t : LamX.Tabs T H
  z : ∀ p ∈ Z, H p.1 = some (.frz p.2.1 p.2.2)
section
variable {K : PySem.W.Frag} {M : List Addr} {H0 H H1 H2 : Hp} {l : List Cel} {ts : List (Addr × List V)} {d : Addr} {T : List (Addr × Str)} {Z : List (Addr × Obj × HO)}
theorem TZ.aft (h : TZ T Z H) (N : Now K (some d) M H0 H l ts) (hl : ∀ c ∈ l, plainO c.o = true) (A : Aft (d :: l.map Cel.a) H H2) : TZ T Z H2 := ⟨N.tabs h.t hl A, fun p hp => A.z _ _ _ (h.z p hp)⟩
theorem TZ.aft0 (h : TZ T Z H) (A : Aft [] H H2) : TZ T Z H2 := ⟨tabs_aft h.t A (by simp), fun p hp => A.z _ _ _ (h.z p hp)⟩
theorem TZ.ext (h : TZ T Z H) (e : LamX.ExtN H H1) (t : LamX.Tabs T H1) : TZ T Z H1 := ⟨t, fun p hp => e _ _ (h.z p hp) (fun ps q => by cases q)⟩
/-- the law's core, for a script that is locked, written or not -/
theorem law_core {X : Cx} {sts : List Stmt} {t : TS} {Q : VK} {N : List Str} {a P : Addr} {q : Str} {xs : List V} (hp : PSs X sts t) (hS : SqL X.K H a xs) (hP : H P = some (.tbl #[]))
    (core : ∀ (H : Hp) (Z : List (Addr × Obj × HO)) (D : Ends), (∃ ns : List V, ns = xs) → ((∃ u, H a = some (.frz u (.lst xs))) ∨ (∃ (o : Obj) (its : Array Value) (n : Nat), X.K.lookup a = some o ∧ o.cls = .type "list" ∧ o.dict = none ∧ o.data = .seq its n ∧ its.size ≤ sizeLine ∧ Vals xs its.toList)) → TZ [(P, q)] Z H → (∀ H', (∀ p ∈ Z, H' p.1 = some (.frz p.2.1 p.2.2)) → D.rt (.bl true) H') → t D (L2.start N [.ref a]) H)
    (k : ∀ H', Q (.bl true) H') : ∃ t', PSs X sts t' ∧ t' { nx := fun _ H' => Q .non H', rt := Q } (L2.start N [.ref a]) H := by
  have tb : ∀ H' : Hp, H' P = some (.tbl #[]) → LamX.Tabs [(P, q)] H' := fun H' e p hp => by
    cases List.mem_singleton.mp hp
    exact .nil e
  refine ⟨_, pss_lockA hp, ?_⟩
  rcases hS with (h | h) | h
  · refine .inr ⟨a, .lst xs, h, trivial, fun od => ?_⟩
    have ne : P ≠ a := fun e => by rw [e, h] at hP; cases hP
    refine core _ [(a, od, .lst xs)] _ ⟨_, rfl⟩ (.inl ⟨od, upd_same⟩) ⟨tb _ (by rw [upd_ne ne]; exact hP), fun p hp => ?_⟩ (fun H' hz => ⟨hz (a, od, .lst xs) (by simp), k _⟩)
    cases List.mem_singleton.mp hp
    exact upd_same
  · exact .inl (core H [] _ ⟨_, rfl⟩ (.inl h) ⟨tb _ hP, by simp⟩ (fun H' _ => k H'))
  · exact .inl (core H [] _ ⟨_, rfl⟩ (.inr h) ⟨tb _ hP, by simp⟩ (fun H' _ => k H'))
end
end Ak
namespace Ak
open PySem PySem.Spec PyProof.Rows L2
/-! ### refusals with an own __init__ -/
/-- an own base class at B, by whose name ValueError's __init__ is called -/
structure BaseI (K : PySem.W.Frag) (mg : Str → Option Value) (x : Str) (B : Addr) : Prop where
  g : mg x = some (.ref B)
  rd : PySem.W.readsIn K B (.type "type") = true
  ga : PySem.W.specialIn K (.ref B) "__getattribute__" = some (some (.builtin "type.__getattribute__"))
  at_ : PySem.W.findCls K (.ref B) (.type "type") "__init__" = some (.val (.builtin "ValueError.__init__"))
theorem valOf_ok {o : Option PySem.W.CFound} {v : Value} (h : valOf o = some v) : o = some (.val v) := by
  cases o with
  | none => cases h
  | some c =>
    cases c with
    | val u => cases h; rfl
    | get a b c d => cases h
theorem baseIB_ok {K : PySem.W.Frag} {mg : Str → Option Value} {x : Str} {B : Addr} (g : mg x = some (.ref B)) (h : baseIB K B = true) : BaseI K mg x B := by
  unfold baseIB at h
  simp only [Bool.and_eq_true, decide_eq_true_eq] at h
  exact ⟨g, h.1, h.2.1, valOf_ok h.2.2⟩
/-- B.__init__(self, ..), B an own class over ValueError -/
theorem pe_baseInit {X : Cx} {x : Str} {B : Addr} {e : Expr} {es : List Expr} {ta : TA} {p1 p2 pos : Pos} {pl : Sem Bool} (T : BaseI X.K X.mg x B) (hg : Gl X x) (ha : PA X (e :: es) ta) (hdb : (x == ("__debug__" : Str)) = false := by decide)
    (hc : eval (.Call (.Attribute (.Name x p1) "__init__" p2) (e :: es) [] pos) X.env = (do
      let ov ← eval (.Name x p1) X.env
      standAt p2.atName
      let (f, first) ← holding [ov] (getMethod ov "__init__" pl)
      callWith pos f first (backTo pos (starEach (e :: es) X.env)) (backToKw pos (keywordEach [] X.env))) := by rfl)
    (he : starEach (e :: es) X.env = (false, eval e X.env) :: starEach es X.env := by rfl) (hpl : (backTo pos (starEach es X.env)).any (·.1) = false := by rfl) :
    PE X (.Call (.Attribute (.Name x p1) "__init__" p2) (e :: es) [] pos) (tVeI X.K ta) := by
  refine ⟨fun pins s σ H Q I h => PySem.W.methodCall_KW (ld_glob I hg T.g ?_ hdb) hc⟩
  refine PySem.W.method_cls I.kIn T.ga (PySem.W.cls_value I.kIn T.rd T.at_ (by rfl) ?_)
  refine PyProof.Rows.callWith_method1 (thn (ha.run pos pins _ σ H _ (I.tok _) h) fun us s1 ⟨vs, H1, I1, r1, a, C, ws, ev, hl, T', ea, q⟩ => ?_) he hpl
  subst ev
  cases r1 with
  | @cons _ u0 _ ur ra rw' =>
    cases (show u0 = Value.ref a from ra)
    exact oinit_ok T' I1 ea (by rw [← Paired.length rw', sizeLine_eq]; omega) fun s' J => ⟨.non, H1, J, rfl, q⟩
/-! ### C(v): an own class whose __init__ keeps v under one name -/
def spXI (K : PySem.W.Frag) (C : Addr) (f : Str) : Sp := fun vs H Q _ => ∃ (a : Addr) (v : V), vs = [.ref a, v] ∧ H a = some (exo a C none) ∧ ∀ dx, H dx = none → dx ≠ a → Q .non (upd (upd H dx (exd dx [(f, v)])) a (exo a C (some dx)))
structure ExI (P : Program) (w : World) (K : PySem.W.Frag) (mg : Str → Option Value) (base : Heap) (CX : CXT) (C : Addr) (k : Nat) (x f : Str) : Prop where
  T : OexC K C
  ex : ∃ (fI : Addr) (fd : FuncData) (ps : List Str), FnOk P w K mg base CX k fI fd ps (spXI K C f) ∧ Binds K fd ps [] ∧ PySem.W.findIn K (.ref C) "__init__" = some (some (.ref fI)) ∧ PySem.W.typeIn K (.ref fI) = some (.type "function")
  g : mg x = some (.ref C)
/-- the __init__ of such a class, in the text -/
structure DefX (K : PySem.W.Frag) (mg : Str → Option Value) (C : Addr) (x qual : Str) (st : Stmt) : Prop where
  ex : ∃ (f : Addr) (fd : FuncData), FunD K "__init__" qual (defArgs st) (defBody st) (defScope st) [] [] f fd ∧ Meth K C "__init__" f
  g : mg x = some (.ref C)
theorem DefX.ok {P : Program} {w : World} {K : PySem.W.Frag} {mg : Str → Option Value} {base : Heap} {CX : CXT} {x fl qual : Str} {st : Stmt} {N ps : List Str} {k : Nat} {C : Addr} (F : DefX K mg C x qual st) (T : OexC K C) (S : FnScope N ps (defScope st)) (b : Bd "__init__" qual st ps) (h2 : ps.length = 2)
    (hbody : ∀ (f : Addr) (cdv : Value) (A : Around) (outer : List Env) (s : Shared) (H : Hp) (vs : List V) (Q : VK) (E : XK), Room k (A.deeper (envOfC qual (defScope st) s.heap.objs.size f cdv)) → spXI K C fl vs H Q E →
      ∃ t, PSs (cxOf CX P w K mg base N qual (defScope st) f cdv A outer s H E) (defBody st) t ∧ t { nx := fun _ H' => Q .non H', rt := Q } (start N vs) H) : ExI P w K mg base CX C (k + 1) x fl := by
  obtain ⟨f, fd, F', M⟩ := F.ex
  refine ⟨T, ⟨f, fd, ps, F'.ok S (fun vs H Q E h => ?_) (hbody f), F'.bindsN b, M.at_, ?_⟩, F.g⟩
  · obtain ⟨a, v, rfl, _⟩ := h
    exact h2.symm
  · exact beq_iff_eq.mp M.fn
def cMkO (K : PySem.W.Frag) (C : Addr) (f : Str) (Q : XK) : List V → Hp → Prop := fun vs H1 => vs.length ≤ 1000 ∧ ∀ a, H1 a = none → spXI K C f (.ref a :: (vs ++ [])) (upd H1 a (exo a C none))
  (fun v H2 => v = .non ∧ ∃ (d : Addr) (fs : List (Str × V)), H2 a = some (exo a C (some d)) ∧ H2 d = some (exd d fs) ∧ H1 d = none ∧ Q (.ref C) (some d) (upd (del H2 a) d (.xd fs))) (fun _ _ _ => False)
theorem c_mkO {K : PySem.W.Frag} {C : Addr} {f : Str} {Q : XK} {v : V} {H : Hp} (h : ∀ d, H d = none → Q (.ref C) (some d) (upd H d (.xd [(f, v)]))) : cMkO K C f Q [v] H := by
  refine ⟨by simp, fun a ha => ⟨a, v, rfl, upd_same, fun dx hdx hne => ⟨rfl, dx, [(f, v)], upd_same, ?_, ?_, ?_⟩⟩⟩
  · rw [upd_ne hne]
    exact upd_same
  · rw [← hdx, upd_ne hne]
  · have q := h dx (by rw [← hdx, upd_ne hne])
    have e : upd (del (upd (upd (upd H a (exo a C none)) dx (exd dx [(f, v)])) a (exo a C (some dx))) a) dx (.xd [(f, v)]) = upd H dx (.xd [(f, v)]) := by
      funext b
      by_cases h1 : b = dx
      · rw [h1, upd_same, upd_same]
      · rw [upd_ne h1, upd_ne h1]
        by_cases h2 : b = a
        · rw [h2, del_same, ha]
        · rw [del_ne h2, upd_ne h2, upd_ne h1, upd_ne h2]
    rw [e]
    exact q
def tRaiseI (K : PySem.W.Frag) (C : Addr) (f : Str) (W : WX) (ta : TA) : TS := fun _ σ H => ta σ H (cMkO K C f fun cls d H' => W cls d σ H')
theorem ps_raiseI {X : Cx} {W : WX} {CX : CXT} {C : Addr} {k : Nat} {x f : Str} {e : Expr} {ta : TA} {p pos pos2 : Pos} (hc : X.calm = true) (tk : Takes X W) (T : ExI X.prog X.w X.K X.mg X.base CX C k x f) (hr : Room (k + 1) X.A) (hx : Passes CX X (fun _ _ _ => False)) (hg : Gl X x) (ha : PA X [e] ta)
    (hdb : (x == ("__debug__" : Str)) = false := by decide) (he : starEach [e] X.env = (false, eval e X.env) :: starEach [] X.env := by rfl) (hpl : (backTo pos (starEach [] X.env)).any (·.1) = false := by rfl) :
    PS X (.Raise (some (.Call (.Name x p) [e] [] pos)) none pos2) (tRaiseI X.K C f W ta) := by
  obtain ⟨fI, fd, ps, F1, hb, iC, tI⟩ := T.ex
  exact ps_raise hc tk (pmk_oex T.T iC tI F1 hr hb .nil hx hg T.g ha hdb he hpl)
theorem k_raiseI {K : PySem.W.Frag} {C : Addr} {f : Str} {W : WX} {ta : TA} {D : Ends} {σ : L2.St} {H : Hp} (h : ta σ H (cMkO K C f fun cls d H' => W cls d σ H')) : tRaiseI K C f W ta D σ H := h
/-! steps inside such an __init__ -/
theorem k_veI {K : PySem.W.Frag} {ta : TA} {σ : L2.St} {H : Hp} {Q : VK} (h : ta σ H fun vs H1 => ∃ (a C : Addr) (ws : List V), vs = .ref a :: ws ∧ ws.length ≤ 1000 ∧ OexC K C ∧ H1 a = some (exo a C none) ∧ Q .non H1) : tVeI K ta σ H Q := h
theorem k_ost {K : PySem.W.Frag} {f : Str} {to te : TE} {D : Ends} {σ : L2.St} {H : Hp} (h : te σ H fun y H1 => to σ H1 fun x H2 => ∃ a C : Addr, x = .ref a ∧ OexC K C ∧ PySem.W.findIn K (.ref C) f = some none ∧
  ((H2 a = some (exo a C none) ∧ ∀ dx, H2 dx = none → dx ≠ a → D.nx σ (upd (upd H2 dx (exd dx [(f, y)])) a (exo a C (some dx)))) ∨
    ∃ (dx : Addr) (fs : List (Str × V)), H2 a = some (exo a C (some dx)) ∧ H2 dx = some (exd dx fs) ∧ fs.length ≤ 900 ∧ D.nx σ (upd H2 dx (exd dx ((f, y) :: fs))))) : tOst K f to te D σ H := h
/-! ### facts of the head -/
theorem oexB_ok {K : PySem.W.Frag} {C : Addr} (h : oexB K C = true) : OexC K C := by
  unfold oexB at h
  obtain ⟨h0, h⟩ := Bool.and_eq_true_iff.mp h
  simp only [Bool.and_eq_true, decide_eq_true_eq] at h
  obtain ⟨h1, h2, h3, h4⟩ := h
  refine ⟨?_, h1, h2, h3, h4⟩
  split at h0
  · rename_i t dd cd sl hl
    obtain ⟨q1, g1⟩ := Bool.and_eq_true_iff.mp h0
    obtain ⟨q2, g2⟩ := Bool.and_eq_true_iff.mp g1
    obtain ⟨q3, g3⟩ := Bool.and_eq_true_iff.mp g2
    obtain ⟨q4, q5⟩ := Bool.and_eq_true_iff.mp g3
    clear h0 g1 g2 g3
    have e1 := of_decide_eq_true q1
    subst e1
    obtain ⟨nm, bs, mro, ns, qn, hd, sn, sub, ab, col, del⟩ := cd
    dsimp only at q2 q3 q4
    subst q3
    have e4 : del = false := by simpa using q4
    subst e4
    split at q2
    · rename_i D bm
      obtain ⟨z1, z2⟩ := Bool.and_eq_true_iff.mp q2
      have e2 := of_decide_eq_true z1
      subst e2
      split at q5
      · rename_i k0 k1 k2 k3 n k5 hs
        have e5 := of_decide_eq_true q5
        subst e5
        obtain ⟨l⟩ := sl
        have e6 : l = [k0, k1, k2, k3, some (.builtin "ValueError.__new__"), k5] := hs
        subst e6
        exact ⟨nm, qn, ns, bs, bm, sn, sub, ab, col, dd, k0, k1, k2, k3, k5, hl, z2⟩
      · cases q5
    · cases q2
  · cases h0
/-! ### isinstance of a caught refusal, with or without fields -/
def XDic (d : Option Addr) (H : Hp) : Prop := d = none ∨ ∃ (dd : Addr) (fs : List (Str × V)), d = some dd ∧ H dd = some (.xd fs)
theorem XDic.keep {d : Option Addr} {H H' : Hp} (h : XDic d H) (A : Aft [] H H') : XDic d H' := h.imp id fun ⟨dd, fs, e, z⟩ => ⟨dd, fs, e, A.k _ _ z (by simp)⟩
def rIsEz (K : PySem.W.Frag) (cls : Value) (d : Option Addr) (a : Addr) : List V → Hp → VK → Prop := fun xs H Q => ∃ (D : Addr) (c : V) (cv : Value) (b : Bool), cls = .ref D ∧ XDic d H ∧ ExcC K D ∧ xs = [.ref a, c] ∧ (∀ u, RelV c u → u = cv) ∧ PySem.W.kitOne K (.ref D) cv = some b ∧ Q (.bl b) H
theorem call_isEz {X : Cx} {a : Addr} {cls : Value} {d : Option Addr} {oe : Obj} {pn : List (Addr × Obj)} (hz : Zc cls d oe) (hf : ∃ vs, oe.data = .fields vs) : CallR (X.suite a ((a, oe) :: pn)) (.builtin "isinstance") (rIsEz X.K cls d a) := by
  intro pins s σ H xs us Q I r h
  obtain ⟨D, c, cv, b, rfl, hd, C, rfl, e2, e3, q⟩ := h
  rcases hd with rfl | ⟨dd, fs, rfl, hdd⟩
  · exact call_isE C hz hf pins s σ H _ us Q I r ⟨c, cv, b, rfl, e2, e3, q⟩
  · obtain ⟨u1, u2, rfl, r1, r2⟩ : ∃ u1 u2, us = [u1, u2] ∧ RelV (.ref a) u1 ∧ RelV c u2 := by
      cases r with
      | cons ra rr =>
        cases rr with
        | cons rb rc =>
          cases rc
          exact ⟨_, _, rfl, ra, rb⟩
    cases r1
    cases e2 _ r2
    obtain ⟨ga, _⟩ := I.pin (a, oe) (List.mem_append_left _ List.mem_cons_self)
    obtain ⟨vs, hv⟩ := hf
    have xo : ObjOk X.prog X.w H s.heap dd (.xd fs) := I.hok dd _ hdd
    obtain ⟨mA, hns, _⟩ := xo
    obtain ⟨od, ho, _⟩ := lookIn_ns hns
    have J : PySem.W.InstAt s.heap a oe D (some od) := ⟨ga, hz.1, by unfold PySem.W.notCls; rw [hv] <;> rfl, by rw [hz.2]; exact ho⟩
    obtain ⟨cd, hcd, _⟩ := PySem.W.any_some C.hd
    exact PySem.W.kia_one (PySem.W.kitx_exc (od := some od) (by rw [hcd]; rfl) C.hg C.hk C.hs C.ha C.hn C.ht C.hm) I.kIn J e3 (fun z => nomatch z) fun tk => ⟨.bl b, H, I.kept (t' := tk) fun _ _ z => z, rfl, q⟩
theorem call_isEzK {X : Cx} (K : PySem.W.Frag) (h : X.K = K) {a : Addr} {cls : Value} {d : Option Addr} {oe : Obj} {pn : List (Addr × Obj)} (hz : Zc cls d oe) (hf : ∃ vs, oe.data = .fields vs) : CallR (X.suite a ((a, oe) :: pn)) (.builtin "isinstance") (rIsEz K cls d a) := h ▸ call_isEz hz hf
def cXf (a : Addr) (cls : Value) (d : Option Addr) (C : Addr) (f : Str) (Q : VK) : VK := fun x H1 => x = .ref a ∧ cls = .ref C ∧ ∃ (dd : Addr) (fs : List (Str × V)) (v : V), d = some dd ∧ H1 dd = some (.xd fs) ∧ fs.lookup f = some v ∧ Q v H1
theorem k_xf {a C : Addr} {cls : Value} {d : Option Addr} {f : Str} {te : TE} {σ : L2.St} {H : Hp} {Q : VK} (h : te σ H (cXf a cls d C f Q)) : tXf a cls d C f te σ H Q := h
theorem g_xf {a C dd : Addr} {f : Str} {H : Hp} {Q : VK} {fs : List (Str × V)} {v : V} (h1 : H dd = some (.xd fs)) (h2 : fs.lookup f = some v) (q : Q v H) : cXf a (.ref C) (some dd) C f Q (.ref a) H := ⟨rfl, rfl, dd, fs, v, rfl, h1, h2, q⟩
/-- the fields of the three kinds that have one -/
structure KinX (K : PySem.W.Frag) (c1 c5 c6 : Addr) : Prop where
  x1 : XfC K c1
  x5 : XfC K c5
  x6 : XfC K c6
  n1 : PySem.W.findIn K (.ref c1) "word" = some none
  n5 : PySem.W.findIn K (.ref c5) "number" = some none
  n6 : PySem.W.findIn K (.ref c6) "place" = some none
theorem kinXB_ok {K : PySem.W.Frag} {c1 c5 c6 : Addr} (h : kinXB K c1 c5 c6 = true) : KinX K c1 c5 c6 := by
  unfold kinXB at h
  simp only [Bool.and_eq_true, decide_eq_true_eq] at h
  obtain ⟨h1, h2, h3, h4, h5, h6⟩ := h
  exact ⟨xfB_ok h1, xfB_ok h2, xfB_ok h3, h4, h5, h6⟩
/-- which of them a refusal is, and its field -/
def RefX (K : PySem.W.Frag) (c1 c2 c3 c4 c5 c6 cb : Addr) (cls : Value) (d : Option Addr) (H : Hp) (xs : List V) : Prop := ∃ (D : Addr) (n : Nat), cls = .ref D ∧ Kof K c1 c2 c3 c4 c5 c6 cb D n ∧
  ((d = none ∧ (n = 2 ∨ n = 3 ∨ n = 4) ∧ xs = [.str (kWord n)]) ∨ ∃ (dd : Addr) (fs : List (Str × V)) (v : V), d = some dd ∧ H dd = some (.xd fs) ∧ xs = [.str (kWord n), v] ∧
    ((n = 1 ∧ D = c1 ∧ fs.lookup ("word" : Str) = some v) ∨ (n = 5 ∧ D = c5 ∧ fs.lookup ("number" : Str) = some v) ∨ (n = 6 ∧ D = c6 ∧ fs.lookup ("place" : Str) = some v)))
/-- what _law_told makes of a lambda's reading -/
def TToldX (K : PySem.W.Frag) (c1 c2 c3 c4 c5 c6 cb : Addr) : (XK → Hp → VK → Prop) → Hp → VK → Prop := fun tl H Q =>
  tl (fun cls d H' => ∃ xs, RefX K c1 c2 c3 c4 c5 c6 cb cls d H' xs ∧ ∀ p H'', Aft [] H' H'' → H'' p = some (.tup xs) → Q (.ref p) H'') H Q
theorem k_toldx {K : PySem.W.Frag} {c1 c2 c3 c4 c5 c6 cb : Addr} {t : XK → TE} {σ : L2.St} {H : Hp} {Q : VK}
    (h : t (fun cls d H' => ∃ xs, RefX K c1 c2 c3 c4 c5 c6 cb cls d H' xs ∧ ∀ p H'', Aft [] H' H'' → H'' p = some (.tup xs) → Q (.ref p) H'') σ H Q) : TToldX K c1 c2 c3 c4 c5 c6 cb (fun E H' Q' => t E σ H' Q') H Q := h
/-! ### the observation of the head, the statics with it -/
end Ak
namespace Ak
open PySem PySem.Spec PyProof.Rows L2
/-! ### texts by their signs -/
abbrev tx (l : List Nat) : Str := ⟨l.toArray⟩
theorem tx_len (l : List Nat) : (tx l).length = l.length := by simp [Str.length]
section
variable {X : Cx} {σ : L2.St} {H : Hp} {Q : VK} {l a b : List Nat} {c : Nat} {i : Int} {te ta : TE} {to tb : TE}
def rLenT : List V → Hp → VK → Prop := fun xs H Q => ∃ z : Str, xs = [.str z] ∧ z.length ≤ sizeLine ∧ Q (.int z.length) H
theorem cr_lenT : CallR X (.builtin "len") rLenT := call_len_str
theorem g_lenT (hl : l.length ≤ 1000) (q : Q (.int (l.length : Nat)) H) : rLenT [.str (tx l)] H Q := ⟨tx l, rfl, by rw [tx_len]; exact Nat.le_trans hl (by decide), by rw [tx_len]; exact q⟩
theorem g_ixS (hl : l.length ≤ 1000) (h : atI l i = some c) (q : Q (.str (tx [c])) H) : rIxS (.str (tx l)) (.int i) H Q := ⟨tx l, i, c, rfl, rfl, by rw [tx_len]; exact Nat.le_trans hl (by decide), h, q⟩
def rInS : R2 := fun x y H Q => ∃ (c : Nat) (z : Str), x = .str ⟨#[c]⟩ ∧ y = .str z ∧ Q (.bl (decide (c ∈ z.cps.toList))) H
theorem op_inS {X : Cx} : OpR X (compareOp .In) rInS := op_in_sign
theorem g_inS {z z2 : Str} (hc : z = tx [c]) (h2 : z2 = tx l) (q : Q (.bl (decide (c ∈ l))) H) : rInS (.str z) (.str z2) H Q := by
  subst hc h2
  exact ⟨c, tx l, rfl, rfl, q⟩
def rAddT : R2 := fun x y H Q => ∃ i j : Str, x = .str i ∧ y = .str j ∧ i.length + j.length ≤ sizeLine ∧ Q (.str (i ++ j)) H
theorem op_addT {X : Cx} : OpR X (binaryOp .Add) rAddT := op_add_str
theorem g_addT (hl : a.length + b.length ≤ 1000) {z z2 : Str} (h1 : z = tx a) (h2 : z2 = tx b) (q : Q (.str (tx (a ++ b))) H) : rAddT (.str z) (.str z2) H Q := by
  subst h1 h2
  exact ⟨tx a, tx b, rfl, rfl, by rw [tx_len, tx_len]; exact Nat.le_trans hl (by decide), by rw [SX.S_cat]; exact q⟩
/-- the signs between two places -/
def cutT (l : List Nat) (lo hi : Option Int) : List Nat := (l.drop (HT.sIx l.length 0 lo)).take (HT.sIx l.length l.length hi - HT.sIx l.length 0 lo)
theorem g_slS {lo hi : Option Int} (hl : l.length ≤ 1000) (q : Q (.str (tx (cutT l lo hi))) H) : rSlS (.str (tx l)) lo hi H Q := ⟨tx l, rfl, by rw [tx_len]; exact Nat.le_trans hl (by decide), by
  have e : cutS (tx l) lo hi = tx (cutT l lo hi) := by
    unfold cutS cutT
    rw [tx_len]
  rw [e]
  exact q⟩
theorem cutT_take (n : Nat) : cutT l none (some (n : Int)) = l.take n := by
  unfold cutT
  rw [HT.sIx_none, HT.sIx_nat, List.drop_zero, Nat.sub_zero]
  by_cases h : n ≤ l.length
  · rw [Nat.min_eq_left h]
  · rw [Nat.min_eq_right (by omega), List.take_of_length_le (by omega), List.take_of_length_le (by omega)]
theorem cutT_drop (n : Nat) : cutT l (some (n : Int)) none = l.drop n := by
  unfold cutT
  rw [HT.sIx_nat, HT.sIx_none]
  by_cases h : n ≤ l.length
  · rw [Nat.min_eq_left h]
    exact List.take_of_length_le (by rw [List.length_drop]; omega)
  · rw [Nat.min_eq_right (by omega), List.drop_of_length_le (by omega : l.length ≤ n)]
    simp
theorem eqT {a b : List Nat} : decide (V.str (tx a) = V.str (tx b)) = decide (a = b) := decide_eq_decide.mpr ⟨fun h => SX.S_inj (V.str.inj h), fun h => by rw [h]⟩
theorem g_eqTx {z z2 : Str} (h1 : z = tx a) (h2 : z2 = tx b) (q : Q (.bl (decide (a = b))) H) : rEq (.str z) (.str z2) H Q := by
  subst h1 h2
  exact k_eq rfl (by rw [eqT]; exact q)
theorem g_neTx {z z2 : Str} (h1 : z = tx a) (h2 : z2 = tx b) (q : Q (.bl (decide (a ≠ b))) H) : rNe (.str z) (.str z2) H Q := by
  subst h1 h2
  exact k_ne rfl (by rw [eqT, ← decide_not]; exact q)
def rStrI : List V → Hp → VK → Prop := fun xs H Q => ∃ i : Int, xs = [.int i] ∧ i.natAbs.log2 < 1920 ∧ Q (.str (toString i)) H
theorem cr_strI : CallR X (.type "str") rStrI := call_str_int
theorem g_strI {n : Int} (hn : 0 ≤ n ∧ n < 1000) (q : Q (.str (tx (TL.numL n.toNat))) H) : rStrI [.int n] H Q := by
  obtain ⟨k, rfl⟩ : ∃ k : Nat, n = (k : Int) := ⟨n.toNat, by omega⟩
  refine ⟨(k : Int), rfl, ?_, ?_⟩
  · by_cases h0 : (k : Int).natAbs = 0
    · rw [h0]; decide
    · have h1 : (k : Int).natAbs.log2 < 10 := (Nat.log2_lt h0).mpr (by omega)
      omega
  · have e : Str.ofString (toString ((k : Nat) : Int)) = tx (TL.numL k) := SX.num_S k
    rw [e]
    exact q
def rIntS : List V → Hp → VK → Prop := fun xs H Q => ∃ (a : Str) (n : Int), xs = [.str a] ∧ PySem.intText? a = some n ∧ a.length ≤ 640 ∧ Q (.int n) H
theorem cr_intS : CallR X (.type "int") rIntS := call_int_str
def dgs (l : List Nat) : Bool := l.all fun c => decide (48 ≤ c) && decide (c ≤ 57)
theorem g_intS (h : dgs l = true) (hne : l ≠ []) (hl : l.length ≤ 100) (q : Q (.int ((NumText.digitsVal l : Nat) : Int)) H) : rIntS [.str (tx l)] H Q := ⟨tx l, _, rfl, SX.int_S h hne (by omega), by rw [tx_len]; omega, q⟩
def rJoin (K : PySem.W.Frag) : V → List V → Hp → VK → Prop := fun x xs H Q => ∃ (a : Str) (p : Addr), ∃ ys : List Str, x = .str a ∧ xs = [.ref p] ∧ (SqL K H p (ys.map V.str) ∨ SqT K H p (ys.map V.str)) ∧ (ys.map (·.length)).sum + ys.length * a.length ≤ 16777216 ∧ Q (.str (Txt.join a ys)) H
theorem k_m1 {r : V → List V → Hp → VK → Prop} (h : to σ H fun x H1 => (∃ a, x = .str a) ∧ te σ H1 fun y H2 => r x [y] H2 Q) : tM1 r to te σ H Q := h
theorem joinL_nil : ∀ l : List Nat, TL.joinL [] (l.map fun c => [c]) = l
  | [] => rfl
  | [c] => rfl
  | c :: d :: l => by
    have ih := joinL_nil (d :: l)
    simp only [List.map_cons] at ih ⊢
    rw [TL.joinL, List.nil_append, ih]
    rfl
theorem sum_ones : ∀ l : List Nat, ((l.map fun c => tx [c]).map (·.length)).sum = l.length
  | [] => rfl
  | c :: l => by
    have ih := sum_ones l
    simp only [List.map_cons, List.sum_cons, List.length_cons] at ih ⊢
    rw [ih, tx_len]
    simp
    omega
theorem g_join {K : PySem.W.Frag} {p : Addr} {z : Str} (hz : z = tx []) (h : SqL K H p (l.map fun c => V.str (tx [c]))) (hl : l.length ≤ 1000) (q : Q (.str (tx l)) H) : rJoin K (.str z) [.ref p] H Q := by
  subst hz
  have e : Txt.join (tx []) (l.map fun c => tx [c]) = tx l := by
    have e1 : (l.map fun c => tx [c]) = (l.map fun c => [c]).map SX.S := by rw [List.map_map]; rfl
    rw [e1, SX.join_S, joinL_nil]
  refine ⟨tx [], p, l.map fun c => tx [c], rfl, rfl, .inl ?_, ?_, by rw [e]; exact q⟩
  · rw [List.map_map]
    exact h
  · rw [sum_ones, List.length_map]
    have : (tx []).length = 0 := rfl
    rw [this]
    omega
def rIdxS : V → List V → Hp → VK → Prop := fun x xs H Q => ∃ a b i rest, x = .str a ∧ xs = [.str b] ∧ Builtin.Str.occurrences a b 0 a.length 1 = i :: rest ∧ Q (.int (i : Nat)) H
theorem mt_idxS : MtR X "str.index" rIdxS := mt_sindex
theorem idx_ne {c : Nat} : ∀ {l : List Nat} {i : Nat}, i < l.idxOf c → ∀ h : i < l.length, l[i] ≠ c
  | x :: l, i, hi, h => by
    by_cases e : x = c
    · rw [List.idxOf_cons, e] at hi
      simp at hi
    · have e2 : (x == c) = false := by simpa using e
      rw [List.idxOf_cons, e2] at hi
      cases i with
      | zero => exact e
      | succ i =>
        have hi2 : i < l.idxOf c := by simpa using hi
        exact idx_ne hi2 (Nat.lt_of_succ_lt_succ h)
theorem occ_one {l : List Nat} {c : Nat} (h : c ∈ l) : ∃ rest, Builtin.Str.occurrences (tx l) (tx [c]) 0 (tx l).length 1 = l.idxOf c :: rest := by
  have hl : l.idxOf c < l.length := List.idxOf_lt_length_iff.mpr h
  have at1 : l[l.idxOf c]? = some c := by rw [List.getElem?_eq_getElem hl, List.getElem_idxOf hl]
  rcases StrLaws.occ_head (tx l) (tx [c]) 1 (Nat.le_refl 1) with ⟨_, hn⟩ | ⟨i, r, e, hi, hno⟩
  · exact absurd ((StrLaws.subAt_one (tx l) c _).mpr at1) (hn _)
  · have hi2 : l[i]? = some c := (StrLaws.subAt_one (tx l) c i).mp hi
    obtain ⟨b, hi3⟩ := List.getElem?_eq_some_iff.mp hi2
    have ei : i = l.idxOf c := by
      rcases Nat.lt_trichotomy i (l.idxOf c) with z | z | z
      · exact absurd hi3 (idx_ne z b)
      · exact z
      · exact absurd ((StrLaws.subAt_one (tx l) c _).mpr at1) (hno _ z)
    exact ⟨r, by rw [← ei]; exact e⟩
theorem g_idxS {z z2 : Str} (h1 : z = tx l) (h2 : z2 = tx [c]) (hc : c ∈ l) (q : Q (.int ((l.idxOf c : Nat) : Int)) H) : rIdxS (.str z) [.str z2] H Q := by
  subst h1 h2
  obtain ⟨rest, e⟩ := occ_one hc
  exact ⟨tx l, tx [c], l.idxOf c, rest, rfl, rfl, e, q⟩
theorem pe_joinK (K : PySem.W.Frag) (h : X.K = K) {o e : Expr} {apos pos : Pos} (ho : PE X o to) (he : PE X e te) (hs : starEach [e] X.env = [(false, eval e X.env)] := by rfl) (hbase : attributeBase o "join" X.env (eval o X.env) = eval o X.env := by rfl) (hline : (apos.endLine == pos.line) = true := by rfl) :
    PE X (.Call (.Attribute o "join" apos) [e] [] pos) (tM1 (rJoin K) to te) := by
  subst h
  exact pe_join ho he hs hbase hline
theorem pe_idxT {o e : Expr} {apos pos : Pos} (ho : PE X o to) (he : PE X e te) (hs : starEach [e] X.env = [(false, eval e X.env)] := by rfl) (hbase : attributeBase o "index" X.env (eval o X.env) = eval o X.env := by rfl) (hline : (apos.endLine == pos.line) = true := by rfl) :
    PE X (.Call (.Attribute o "index" apos) [e] [] pos) (tM1 rIdxS to te) := pe_m1 PySem.F.slot_str_index PySem.F.type_str_index mt_idxS ho he hs hbase hline
theorem k_m1s {r : V → List V → Hp → VK → Prop} {z : Str} {σ : L2.St} {H : Hp} {Q : VK} {te : TE} (h : te σ H fun y H2 => r (.str z) [y] H2 Q) : (∃ a, V.str z = .str a) ∧ te σ H fun y H2 => r (.str z) [y] H2 Q := ⟨⟨z, rfl⟩, h⟩
theorem lit_blank : (" " : Str) = tx [32] := by decide +kernel
theorem lit_dash : ("-" : Str) = tx [45] := by decide +kernel
theorem lit_zero : ("0" : Str) = tx [48] := by decide +kernel
theorem lit_one : ("1" : Str) = tx [49] := by decide +kernel
theorem lit_01 : ("01" : Str) = tx [48, 49] := by decide +kernel
theorem lit_figs : ("0123456789" : Str) = tx [48, 49, 50, 51, 52, 53, 54, 55, 56, 57] := by decide +kernel
theorem lit_empty : ("" : Str) = tx [] := by decide +kernel
end
/-! ### a comprehension over a text -/
section
variable {K : PySem.W.Frag} {D : Option Addr} {M : List Addr} {H0 H : Hp} {l : List Cel} {ts : List (Addr × List V)} {σ : L2.St} {tt : TT} {te tl : TE} {vs : List Nat} {Q : VK} {j : Nat} {z : List Nat}
def cLcS (g : TG) (tt : TT) (te : TE) (vs : List Nat) (σ : L2.St) (Q : VK) : VK := fun x H1 => ∃ z, x = .str z ∧ LcW (Its z) g tt te vs σ Q H1
theorem k_lcS {g : TG} (h : tl σ H (cLcS g tt te vs σ Q)) : tLc (iStr tl) g tt te vs σ H Q := by
  have mono : ∀ x H1, cLcS g tt te vs σ Q x H1 = ∃ z, x = .str z ∧ LcW (Its z) g tt te vs σ Q H1 := fun _ _ => rfl
  exact h
theorem c_lcS (N : Now K D M H0 H l ts) (R : Nat → List V → Prop) (h0 : R 0 [])
    (hw : ∀ x, wipe ((wipe σ vs).set j (some x)) vs = wipe σ vs)
    (hs : ∀ (i c : Nat) (Dd : Addr) (H' : Hp) (acc : List V), z[i]? = some c → Now K D M H0 H' (⟨true, Dd, .lst acc⟩ :: l) ts → R i acc → tt ((wipe σ vs).set j (some (.str (tx [c])))) H' (cElt te ((wipe σ vs).set j (some (.str (tx [c])))) Dd (LcP K D M H0 l ts R Dd (i + 1))))
    (hd : ∀ (p : Addr) (H' : Hp) (acc : List V), Now K D M H0 H' (⟨true, p, .lst acc⟩ :: l) ts → R z.length acc → Q (.ref p) H') : cLcS (gName j) tt te vs σ Q (.str (tx z)) H := by
  refine ⟨tx z, rfl, fun Dd hD => ?_⟩
  refine lc_it (walk_str (z := tx z)) (LcP K D M H0 l ts R Dd) ⟨[], N.newC hD trivial, h0⟩ (fun _ _ _ _ => trivial) (fun i x H1 H' hi ⟨acc, N', r⟩ hy => ?_) fun H' ⟨acc, N', r⟩ => hd _ _ _ N' (by simpa using r)
  obtain ⟨rfl, c, hc, rfl⟩ := hy
  have hc2 : z[i]? = some c := by simpa using hc
  exact ⟨hw _, hs i c Dd _ acc hc2 N' r⟩
end
end Ak
namespace Ak
open PySem PySem.Spec PyProof.Rows L2
local macro_rules | `(tactic| walk_at "ty") => `(tactic| first
  | assumption | exact tyx_non | exact tyx_bl | exact tyx_int | exact tyx_str
  | (refine sql_ty (xs := ?x0) ?_; walk_at "sq") | (refine sqt_ty (xs := ?x0) ?_; walk_at "sq"))
local macro_rules | `(tactic| walk_at "kb") => `(tactic| with_reducible first
  | exact kb_bb | exact kb_ib | exact kb_sb | exact kb_nb | exact kb_lb | exact kb_tb | exact kb_is | exact kb_ss | exact kb_ns | exact kb_ls | exact kb_ts
  | exact kb_ii | exact kb_ni | exact kb_li | exact kb_ti | exact kb_ld | exact kb_td | exact kb_lt | exact kb_tt | exact kb_ll | exact kb_tl | exact kb_il)
local macro_rules | `(tactic| walk_at "arith") => `(tactic| first
  | (show (0 : Int) < _; first | decide | omega)
  | (show CDiv _ _; exact ⟨by first | decide | omega, by first | decide | omega⟩)
  | (show CMul _ _; exact Or.inr ⟨by decide, by decide⟩)
  | (show CMul _ _; exact Or.inl ⟨by omega, by omega⟩)
  | (show CMul _ _; exact Or.inr ⟨by omega, by omega⟩)
  | (show CPow _ _; exact ⟨by decide, by decide, by decide⟩))
local macro_rules | `(tactic| walk_at "c") => `(tactic| first
  | assumption
  | ((refine Now.cell (K := ?K0) (D := ?D0) (M := ?M0) (H0 := ?H00) (w := ?w0) (l := ?l0) (ts := ?t0) ?n0 0 ?h0); (case n0 => assumption); (case h0 => rfl))
  | ((refine Now.cell (K := ?K0) (D := ?D0) (M := ?M0) (H0 := ?H00) (w := ?w0) (l := ?l0) (ts := ?t0) ?n0 1 ?h0); (case n0 => assumption); (case h0 => rfl))
  | ((refine Now.cell (K := ?K0) (D := ?D0) (M := ?M0) (H0 := ?H00) (w := ?w0) (l := ?l0) (ts := ?t0) ?n0 2 ?h0); (case n0 => assumption); (case h0 => rfl))
  | ((refine Now.cell (K := ?K0) (D := ?D0) (M := ?M0) (H0 := ?H00) (w := ?w0) (l := ?l0) (ts := ?t0) ?n0 3 ?h0); (case n0 => assumption); (case h0 => rfl))
  | ((refine Now.cell (K := ?K0) (D := ?D0) (M := ?M0) (H0 := ?H00) (w := ?w0) (l := ?l0) (ts := ?t0) ?n0 4 ?h0); (case n0 => assumption); (case h0 => rfl))
  | ((refine Now.cell (K := ?K0) (D := ?D0) (M := ?M0) (H0 := ?H00) (w := ?w0) (l := ?l0) (ts := ?t0) ?n0 5 ?h0); (case n0 => assumption); (case h0 => rfl))
  | ((refine Now.cell (K := ?K0) (D := ?D0) (M := ?M0) (H0 := ?H00) (w := ?w0) (l := ?l0) (ts := ?t0) ?n0 6 ?h0); (case n0 => assumption); (case h0 => rfl))
  | ((refine Now.cell (K := ?K0) (D := ?D0) (M := ?M0) (H0 := ?H00) (w := ?w0) (l := ?l0) (ts := ?t0) ?n0 7 ?h0); (case n0 => assumption); (case h0 => rfl))
  | ((refine Now.cell (K := ?K0) (D := ?D0) (M := ?M0) (H0 := ?H00) (w := ?w0) (l := ?l0) (ts := ?t0) ?n0 8 ?h0); (case n0 => assumption); (case h0 => rfl))
  | ((refine Now.cell (K := ?K0) (D := ?D0) (M := ?M0) (H0 := ?H00) (w := ?w0) (l := ?l0) (ts := ?t0) ?n0 9 ?h0); (case n0 => assumption); (case h0 => rfl))
  | ((refine Now.cell (K := ?K0) (D := ?D0) (M := ?M0) (H0 := ?H00) (w := ?w0) (l := ?l0) (ts := ?t0) ?n0 10 ?h0); (case n0 => assumption); (case h0 => rfl))
  | ((refine Now.cell (K := ?K0) (D := ?D0) (M := ?M0) (H0 := ?H00) (w := ?w0) (l := ?l0) (ts := ?t0) ?n0 11 ?h0); (case n0 => assumption); (case h0 => rfl))
  | ((refine Now.cell (K := ?K0) (D := ?D0) (M := ?M0) (H0 := ?H00) (w := ?w0) (l := ?l0) (ts := ?t0) ?n0 12 ?h0); (case n0 => assumption); (case h0 => rfl))
  | ((refine Now.tup (K := ?K0) (D := ?D0) (M := ?M0) (H0 := ?H00) (l := ?l0) (ts := ?t0) ?n0 0 ?h0); (case n0 => assumption); (case h0 => rfl))
  | ((refine Now.tup (K := ?K0) (D := ?D0) (M := ?M0) (H0 := ?H00) (l := ?l0) (ts := ?t0) ?n0 1 ?h0); (case n0 => assumption); (case h0 => rfl))
  | ((refine Now.tup (K := ?K0) (D := ?D0) (M := ?M0) (H0 := ?H00) (l := ?l0) (ts := ?t0) ?n0 2 ?h0); (case n0 => assumption); (case h0 => rfl))
  | ((refine Now.tup (K := ?K0) (D := ?D0) (M := ?M0) (H0 := ?H00) (l := ?l0) (ts := ?t0) ?n0 3 ?h0); (case n0 => assumption); (case h0 => rfl))
  | ((refine Now.tup (K := ?K0) (D := ?D0) (M := ?M0) (H0 := ?H00) (l := ?l0) (ts := ?t0) ?n0 4 ?h0); (case n0 => assumption); (case h0 => rfl))
  | ((refine Now.tup (K := ?K0) (D := ?D0) (M := ?M0) (H0 := ?H00) (l := ?l0) (ts := ?t0) ?n0 5 ?h0); (case n0 => assumption); (case h0 => rfl))
  | ((refine Now.tup (K := ?K0) (D := ?D0) (M := ?M0) (H0 := ?H00) (l := ?l0) (ts := ?t0) ?n0 6 ?h0); (case n0 => assumption); (case h0 => rfl)))
local macro_rules | `(tactic| walk_at "sq") => `(tactic| first
  | assumption
  | (refine Scr.sq ?_; assumption)
  | ((refine Scr.sq (Scr.keep (M := ?m0) (H := ?h00) ?hs (Now.af (K := ?K0) (D := ?D0) (l := ?l0) (ts := ?t0) ?hn)); (case hn => assumption); (case hs => assumption)))
  | (refine SqL.of ?_; walk_at "c")
  | (refine SqT.of ?_; walk_at "c")
  | ((refine Cst.at_ (K := ?K0) (mg := ?m0) (x := ?x0) ?hc _); (case hc => assumption)))
local macro_rules | `(tactic| walk_at "k1") => `(tactic| first
  | (with_reducible refine k_seq ?_)
  | (with_reducible refine k_asg ?_)
  | (with_reducible refine k_gname ?_)
  | ((with_reducible refine k_var (v := ?kv) ?kh ?kk); (case kh => exact rfl))
  | (with_reducible refine k_c ?_)
  | (with_reducible refine k_cons ?_)
  | (with_reducible refine k_nil ?_)
  | (with_reducible refine k_op ?_)
  | (with_reducible refine k_I0 ?_)
  | ((with_reducible refine k_I ?kh ?kk); (case kh => walk_at "arith"))
  | (with_reducible refine g_intB ?_)
  | ((with_reducible refine g_lnL (xs := ?kx) ?kh ?kk); (case kh => walk_at "sq"))
  | ((with_reducible refine g_lnT (xs := ?kx) ?kh ?kk); (case kh => walk_at "sq"))
  | ((with_reducible refine g_ixL (xs := ?kx) (v := ?kv) ?kh ?ki ?kk); (case kh => walk_at "sq"); (case ki => rfl))
  | ((with_reducible refine g_ixT (xs := ?kx) (v := ?kv) ?kh ?ki ?kk); (case kh => walk_at "sq"); (case ki => rfl))
  | (with_reducible refine k_gsub ?_)
  | ((with_reducible refine g_set0 (l := ?kl) (xs := ?kx) (ts := ?kt) (D := ?kd) (H0 := ?k0) (M := ?km) (K := ?kK) (j := ?kj) ?kn ?ki (fun H' N' => ?kk)); (case kn => with_reducible assumption); (case ki => rfl))
  | ((with_reducible refine g_set1 (c0 := ?kc) (l := ?kl) (xs := ?kx) (ts := ?kt) (D := ?kd) (H0 := ?k0) (M := ?km) (K := ?kK) (j := ?kj) ?kn ?ki (fun H' N' => ?kk)); (case kn => with_reducible assumption); (case ki => rfl))
  | ((with_reducible refine g_tup (l := ?kl) (ts := ?kt) (D := ?kd) (H0 := ?k0) (M := ?km) (K := ?kK) ?kn ?ki (fun p H' N' => ?kk)); (case kn => with_reducible assumption); (case ki => exact Nat.le_of_ble_eq_true rfl))
  | ((with_reducible refine g_lst (l := ?kl) (ts := ?kt) (D := ?kd) (H0 := ?k0) (M := ?km) (K := ?kK) ?kn ?ki (fun p H' N' => ?kk)); (case kn => with_reducible assumption); (case ki => exact Nat.le_of_ble_eq_true rfl))
  | (with_reducible refine c_ifT ?_)
  | (with_reducible refine c_ifF ?_)
  | (with_reducible refine c_andT ?_)
  | (with_reducible refine c_andF ?_)
  | (with_reducible refine c_orT ?_)
  | (with_reducible refine c_orF ?_)
  | (with_reducible refine c_ifET ?_)
  | (with_reducible refine c_ifEF ?_)
  | (with_reducible refine e_andT ?_)
  | (with_reducible refine e_andF ?_)
  | (with_reducible refine e_orT ?_)
  | (with_reducible refine e_orF ?_)
  | (with_reducible refine e_notT ?_)
  | (with_reducible refine e_notF ?_)
  | (with_reducible refine c_ntT ?_)
  | (with_reducible refine c_ntF ?_)
  | (with_reducible refine c_ntD ?_)
  | (with_reducible refine k_isY ?_)
  | ((with_reducible refine k_isX ?kh ?kk); (case kh => intro z; cases z))
  | (with_reducible refine k_ntY ?_)
  | ((with_reducible refine k_ntX ?kh ?kk); (case kh => intro z; cases z))
  | ((with_reducible refine g_isi (a := ?ka) (r := ?kr) ?kt ?kb ?kk); (case kt => walk_at "ty"); (case kb => walk_at "kb"))
  | (with_reducible refine k_fld ?_)
  | ((with_reducible refine g_fld (C := ?kC) (dx := ?kdx) (fs := ?kfs) (v := ?kv) ?kh ?kcl ?kna ?kl ?kk); (case kh => walk_at "c"); (case kcl => assumption); (case kna => assumption); (case kl => rfl))
  | (with_reducible refine k_sfld ?_)
  | ((with_reducible refine g_sf0 (K := ?kK) (D := ?kd) (M := ?km) (H0 := ?k0) (l := ?kl) (ts := ?kt) (C := ?kC) (dx := ?kdx) (fs := ?kfs) (fs' := ?kfs') ?kn ?kcl ?kna ?kll ?ke (fun H' N' => ?kk)); (case kn => with_reducible assumption); (case kcl => assumption); (case kna => assumption); (case kll => exact Nat.le_of_ble_eq_true rfl); (case ke => rfl))
  | ((with_reducible refine g_sf1 (K := ?kK) (D := ?kd) (M := ?km) (H0 := ?k0) (c0 := ?kc0) (l := ?kl) (ts := ?kt) (C := ?kC) (dx := ?kdx) (fs := ?kfs) (fs' := ?kfs') ?kn ?kcl ?kna ?kll ?ke (fun H' N' => ?kk)); (case kn => with_reducible assumption); (case kcl => assumption); (case kna => assumption); (case kll => exact Nat.le_of_ble_eq_true rfl); (case ke => rfl))
  | ((with_reducible refine g_sf2 (K := ?kK) (D := ?kd) (M := ?km) (H0 := ?k0) (c0 := ?kc0) (c1 := ?kc1) (l := ?kl) (ts := ?kt) (C := ?kC) (dx := ?kdx) (fs := ?kfs) (fs' := ?kfs') ?kn ?kcl ?kna ?kll ?ke (fun H' N' => ?kk)); (case kn => with_reducible assumption); (case kcl => assumption); (case kna => assumption); (case kll => exact Nat.le_of_ble_eq_true rfl); (case ke => rfl))
  | (with_reducible refine k_meth ?_)
  | ((with_reducible refine g_meth (dx := ?kdx) (fs := ?kfs) ?kh ?kl ?kk); (case kh => walk_at "c"); (case kl => rfl))
  | (with_reducible refine k_make ?_)
  | (with_reducible refine k_dget ?_)
  | (with_reducible refine k_din ?_)
  | (with_reducible refine k_dnin ?_)
  | (with_reducible refine k_dput ?_)
  | (with_reducible refine k_dpop ?_)
  | ((with_reducible refine g_dgetS (kvs := ?kkv) (v := ?kv) ?kh ?kl ?kk); (case kh => walk_at "c"); (case kl => rfl))
  | ((with_reducible refine k_dnew (K := ?kK) (D := ?kd) (M := ?km) (H0 := ?k0) (l := ?kl) (ts := ?kt) ?kn (fun p H' N' => ?kk)); (case kn => with_reducible assumption))
  | ((with_reducible refine c_chD ?kh ?kk); (case kh => omega))
  | ((with_reducible refine c_chN ?kh ?kk); (case kh => omega))
  | ((with_reducible refine c_ifdT ?kh ?kk); (case kh => omega))
  | ((with_reducible refine c_ifdF ?kh ?kk); (case kh => omega))
  | (with_reducible refine k_lc ?_)
  | (with_reducible refine k_lcT ?_)
  | (with_reducible refine k_lcR ?_)
  | (with_reducible refine k_lcR2 ?_)
  | (with_reducible refine k_yes ?_)
  | (with_reducible refine c_elT ?_)
  | (with_reducible refine k_sl ?_)
  | (with_reducible refine k_nopart ?_)
  | (with_reducible refine k_part ?_)
  | (with_reducible refine c_part ?_)
  | ((with_reducible refine g_slL (K := ?kK) (D := ?kd) (M := ?km) (H0 := ?k0) (l := ?kl) (ts := ?kt) (xs := ?kxs) ?kn ?kx (fun p H' N' => ?kk)); (case kn => with_reducible assumption); (case kx => walk_at "sq"))
  | ((with_reducible refine g_tupL (K := ?kK) (D := ?kd) (M := ?km) (H0 := ?k0) (l := ?kl) (ts := ?kt) (xs := ?kxs) ?kn ?kx (fun p H' N' => ?kk)); (case kn => with_reducible assumption); (case kx => walk_at "sq"))
  | ((with_reducible refine g_lstL (K := ?kK) (D := ?kd) (M := ?km) (H0 := ?k0) (l := ?kl) (ts := ?kt) (xs := ?kxs) ?kn ?kx (fun p H' N' => ?kk)); (case kn => with_reducible assumption); (case kx => walk_at "sq"))
  | ((with_reducible refine g_lstT (K := ?kK) (D := ?kd) (M := ?km) (H0 := ?k0) (l := ?kl) (ts := ?kt) (xs := ?kxs) ?kn ?kx (fun p H' N' => ?kk)); (case kn => with_reducible assumption); (case kx => walk_at "sq"))
  | ((with_reducible refine g_cat (K := ?kK) (D := ?kd) (M := ?km) (H0 := ?k0) (l := ?kl) (ts := ?kt) (xs := ?kxs) (ys := ?kys) ?kn ?kx ?ky ?kz (fun p H' N' => ?kk)); (case kn => with_reducible assumption); (case kx => walk_at "c"); (case ky => walk_at "c"); (case kz => first | (simp only [List.length_map, List.length_cons, List.length_nil]; omega) | omega))
  | (with_reducible refine k_bm ?_)
  | (with_reducible refine k_bm0 ?_)
  | ((with_reducible refine g_bmL (xs := ?kxs) ?kx ?kk); (case kx => walk_at "sq"))
  | ((with_reducible refine g_bmL0 (xs := ?kxs) ?kx ?kk); (case kx => walk_at "sq"))
  | (with_reducible refine k_forK ?_)
  | ((with_reducible refine g_inI (ns := ?kns) ?kx ?kk); (case kx => first | (refine Or.inl ?_; walk_at "sq") | (refine Or.inr ?_; walk_at "sq")))
  | ((with_reducible refine g_ninI (ns := ?kns) ?kx ?kk); (case kx => first | (refine Or.inl ?_; walk_at "sq") | (refine Or.inr ?_; walk_at "sq")))
  | (with_reducible refine k_if ?_)
  | (with_reducible refine k_test ?_)
  | (with_reducible refine e_bl ?_)
  | ((with_reducible refine k_eqS ?kh ?kk); (case kh => rfl))
  | ((with_reducible refine k_neS ?kh ?kk); (case kh => rfl))
  | (with_reducible refine k_eqI ?_)
  | (with_reducible refine k_neI ?_)
  | (with_reducible refine k_call ?_)
  | (with_reducible refine k_cb ?_)
  | (with_reducible refine k_tup ?_)
  | (with_reducible refine k_lst ?_)
  | (with_reducible refine k_drop ?_)
  | (with_reducible refine k_ret ?_)
  | (with_reducible refine k_for ?_)
  | (with_reducible refine k_forT ?_)
  | (with_reducible refine k_forR ?_)
  | (with_reducible refine k_forR2 ?_)
  | (with_reducible refine k_forE ?_)
  | (with_reducible refine k_tB ?_)
  | (with_reducible refine k_not ?_)
  | (with_reducible refine k_and ?_)
  | (with_reducible refine k_or ?_)
  | (with_reducible refine k_andV ?_)
  | (with_reducible refine k_orV ?_)
  | (with_reducible refine k_notV ?_)
  | (with_reducible refine k_ifE ?_)
  | (with_reducible refine k_par ?_)
  | (with_reducible refine k_par3 ?_)
  | (with_reducible refine e_par3 ?_)
  | (with_reducible refine k_lenSet ?_)
  | (with_reducible refine e_par ?_)
  | (with_reducible refine k_next ?_)
  | (with_reducible refine k_un ?_)
  | (with_reducible refine k_U ?_)
  | (with_reducible refine k_chain ?_)
  | (with_reducible refine k_pairs ?_)
  | ((with_reducible refine k_gtup (xs := ?kx) ?kh ?kn ?kk); (case kh => walk_at "sq"); (case kn => rfl))
  | (with_reducible refine k_gcons ?_)
  | (with_reducible refine k_gnil ?_)
  | (with_reducible refine k_gattr ?_)
  | (with_reducible refine g_max2 ?_)
  | (with_reducible refine g_min2 ?_)
  | ((with_reducible refine g_tupT (xs := ?kx) ?kh ?kk); (case kh => walk_at "sq"))
  | (with_reducible refine k_pairs0 ?_)
  | ((with_reducible refine k_disp (K := ?kK) (D := ?kd) (M := ?km) (H0 := ?k0) (l := ?kl) (ts := ?kt) ?kn (fun p H' N' => ?kk)); (case kn => with_reducible assumption)))
local macro_rules | `(tactic| walk_at "k") => `(tactic| repeat (walk_at "k1"))
local macro_rules | `(tactic| walk_at "go") => `(tactic| (dsimp only [cxOf, Cx.nox, Cx.wish, L2.start, List.map_cons, List.map_nil, List.length_cons, List.length_nil, Nat.reduceAdd, Nat.reduceSub, List.replicate, List.cons_append, List.nil_append]; walk_at "k"))
local macro_rules | `(tactic| walk_at "kn1") => `(tactic| first
  | walk_at "k1"
  | ((with_reducible refine g_menu2 (b := ?mb) (c := ?mc) ?kh ?ki (fun v hv => ?kk)); (case kh => walk_at "sq"); (case ki => omega))
  | ((with_reducible refine g_menu3 (b := ?mb) (c := ?mc) (d := ?md) ?kh ?ki (fun v hv => ?kk)); (case kh => walk_at "sq"); (case ki => omega))
  | ((with_reducible refine g_menu4 (b := ?mb) (c := ?mc) (d := ?md) (e := ?me) ?kh ?ki (fun v hv => ?kk)); (case kh => walk_at "sq"); (case ki => omega))
  | ((with_reducible refine g_menu5 (b := ?mb) (c := ?mc) (d := ?md) (e := ?me) (f := ?mf) ?kh ?ki (fun v hv => ?kk)); (case kh => walk_at "sq"); (case ki => omega))
  | ((show spNext _ _ _ _ _); (refine g_next (K := ?kK) (M := ?km) (H0 := ?k0) (l := ?kl) (ts := ?kt) (n := ?kz) ?kn ?kb (fun v H' N' b1 b2 => ?kk)); (case kn => with_reducible assumption); (case kb => first | decide | omega)))
local macro_rules | `(tactic| walk_at "kn") => `(tactic| repeat (walk_at "kn1"))
local macro_rules | `(tactic| walk_at "gon") => `(tactic| (dsimp only [cxOf, Cx.nox, Cx.wish, L2.start, List.map_cons, List.map_nil, List.length_cons, List.length_nil, Nat.reduceAdd, Nat.reduceSub, List.replicate, List.cons_append, List.nil_append]; walk_at "kn"))
/-! ### the dice -/
section
variable {P : Program} {w : World} {K : PySem.W.Frag} {mg : Str → Option Value} {base : Heap}
theorem sc_l_dice : FnScope ["_law_script", "_law_mixed", "_law_cell"] ["_law_script"] (defScope s_l_dice) := ⟨rfl, rfl, rfl, by decide +kernel, rfl, by decide +kernel, by decide +kernel⟩
theorem bd_l_dice : Bd "_law_dice" "_law_dice" s_l_dice ["_law_script"] := fun _ _ _ _ _ _ us hl => match us, hl with | [_], _ => rfl
def spDice (K : PySem.W.Frag) : Sp := fun vs H Q _ => ∃ (a : Addr) (ns : List Int), vs = [.ref a] ∧ Scr K H a (ns.map V.int) ∧ ns.length ≤ 63 ∧ ∀ d H', Aft [] H H' → H d = none → Dice K H' d → Q (.ref d) H'
theorem ok_dice (F : Def K mg "_law_dice" s_l_dice) (B : Bt mg) : Cal P w K mg base CX0 1 "_law_dice" ["_law_script"] (spDice K) := by
  refine F.ok sc_l_dice bd_l_dice (fun vs H Q E h => ?_) (fun f cdv A outer s H vs Q E hr h => ?_)
  · obtain ⟨a, ns, rfl, _⟩ := h
    rfl
  · obtain ⟨a, ns, rfl, hS, hl, k⟩ := h
    refine ⟨_, PSs.nox (pss_cons (ps_set (i := 1) sc_l_dice.nd rfl (by first | exact Or.inl rfl | exact Or.inr rfl) pe_int)
      (pss_cons (ps_for PassesOwn.never rfl (pi_listK K rfl (pv 0)) (pg_name (i := 2) sc_l_dice.nd rfl (by first | exact Or.inl rfl | exact Or.inr rfl))
      (pss_one (ps_set (i := 1) sc_l_dice.nd rfl (by first | exact Or.inl rfl | exact Or.inr rfl) (pe_op op_mod (pe_op op_add (pe_op op_add (pe_op op_mul (pv 1) pe_int) (pe_op op_mul (pe_op op_mod (pv 2) pe_int) pe_int)) pe_int) pe_int))))
      (pss_one (ps_ret (pe_lst (pa_cons (pv 0) (pa_cons pe_int (pa_cons (pe_op op_mul (pv 1) (pe_callTy cr_intB (by rfl) B.m_int (by decide +kernel) (pa_cons (pe_cmpR op_gt (pe_callB (cr_lnK K rfl) (by rfl) B.m_len (by decide +kernel) (pa_cons (pv 0) pa_nil)) pe_int (nomark _)) pa_nil))) (pa_cons pe_int pa_nil))))))))), ?_⟩
    walk_at "go"
    refine c_for (xs := ns.map V.int) (fun i σ H' => ∃ m v, σ = [some (.ref a), some (.int m), v] ∧ H' = H ∧ 0 ≤ m ∧ m < 2147483647) ⟨0, _, rfl, rfl, by decide, by decide⟩ (fun i σ H' _ ⟨_, _, _, e, _⟩ => e ▸ hS.sq) ?_ ?_
    · rintro i x σ H' hx ⟨m, v, rfl, rfl, h0, h1⟩
      rw [List.getElem?_map] at hx
      obtain ⟨z, hz, rfl⟩ := Option.map_eq_some_iff.mp hx
      walk_at "k"
      exact ⟨_, _, rfl, rfl, Int.emod_nonneg _ (by decide), Int.emod_lt_of_pos _ (by decide)⟩
    · rintro σ H' ⟨m, v, rfl, rfl, h0, h1⟩
      walk_at "k"
      refine ⟨by show 4 ≤ sizeLine; decide, fun p hp => ?_⟩
      refine k p _ (Aft.refl.new hp) hp ⟨a, ns, 0, _, 0, upd_same, hS.keep (M := []) (Aft.refl.new hp), hl, Int.le_refl 0, ?_, ?_⟩
      all_goals (split <;> omega)
end
section
variable {P : Program} {w : World} {K : PySem.W.Frag} {mg : Str → Option Value} {base : Heap}
theorem sc_l_next : FnScope ["_law_dice_here", "_law_many", "_law_found", "_law_cell"] ["_law_dice_here", "_law_many"] (defScope s_l_next) := ⟨rfl, rfl, rfl, by decide +kernel, rfl, by decide +kernel, by decide +kernel⟩
theorem bd_l_next : Bd "_law_next" "_law_next" s_l_next ["_law_dice_here", "_law_many"] := fun _ _ _ _ _ _ us hl => match us, hl with | [_, _], _ => rfl
theorem ok_next (F : Def K mg "_law_next" s_l_next) (B : Bt mg) : Cal P w K mg base CX0 1 "_law_next" ["_law_dice_here", "_law_many"] (spNext K) := by
  refine F.ok sc_l_next bd_l_next (fun vs H Q E h => ?_) (fun f cdv A outer s H vs Q E hr h => ?_)
  · obtain ⟨a, ns, rfl, _⟩ := h
    rfl
  · obtain ⟨d, n, rfl, hD, h0, h1, k⟩ := h
    obtain ⟨a, ns, i, m, r, hd, hS, hl, hi, hm0, hm1⟩ := hD.ex
    refine ⟨_, PSs.nox (pss_cons (ps_if (pt_cmpR op_gt (pe_ix (ix_listK K rfl) (pv 0) pe_int (fun _ _ => rfl)) pe_int (nomark _)) (pss_cons (ps_set (i := 2) sc_l_next.nd rfl (by first | exact Or.inl rfl | exact Or.inr rfl) (pe_op op_mod (pe_ix (ix_listK K rfl) (pv 0) pe_int (fun _ _ => rfl)) (pv 1)))
      (pss_cons (ps_asg (pe_op op_fdiv (pe_ix (ix_listK K rfl) (pv 0) pe_int (fun _ _ => rfl)) (pv 1)) (pg_sub (pv 0) pe_int set_list))
      (pss_one (ps_ret (pv 2))))) pss_nil)
      (pss_cons (ps_asg (pe_op op_add (pe_ix (ix_listK K rfl) (pv 0) pe_int (fun _ _ => rfl)) pe_int) (pg_sub (pv 0) pe_int set_list))
      (pss_cons (ps_if (pt_cmpR op_le (pe_ix (ix_listK K rfl) (pv 0) pe_int (fun _ _ => rfl)) (pe_callB (cr_lnK K rfl) (by rfl) B.m_len (by decide +kernel) (pa_cons (pe_ix (ix_listK K rfl) (pv 0) pe_int (fun _ _ => rfl)) pa_nil)) (nomark _)) (pss_cons (ps_set (i := 3) sc_l_next.nd rfl (by first | exact Or.inl rfl | exact Or.inr rfl) (pe_ix (ix_listK K rfl) (pe_ix (ix_listK K rfl) (pv 0) pe_int (fun _ _ => rfl)) (pe_op op_sub (pe_ix (ix_listK K rfl) (pv 0) pe_int (fun _ _ => rfl)) pe_int) (fun _ _ => rfl)))
      (pss_cons (ps_asg (pe_ifExp (pt_cmpR op_ge (pv 3) (pe_op op_pow pe_int pe_int) (nomark _)) (pe_op op_fdiv (pv 3) (pv 1)) pe_int) (pg_sub (pv 0) pe_int set_list))
      (pss_one (ps_ret (pe_op op_mod (pv 3) (pv 1)))))) pss_nil)
      (pss_cons (ps_asg (pe_op op_mod (pe_op op_mul (pe_ix (ix_listK K rfl) (pv 0) pe_int (fun _ _ => rfl)) pe_int) pe_int) (pg_sub (pv 0) pe_int set_list))
      (pss_one (ps_ret (pe_op op_mod (pe_op op_fdiv (pe_ix (ix_listK K rfl) (pv 0) pe_int (fun _ _ => rfl)) pe_int) (pv 1)))))))), ?_⟩
    have N : Now K none [d] H H [⟨true, d, dO a i m r⟩] [] := .start (by simp) (by simp [hd, Mut]) (by simp) (by simp)
    have fin : ∀ (i' m' r' : Int) (H' : Hp) (v : Int), Now K none [d] H H' [⟨true, d, dO a i' m' r'⟩] [] → 0 ≤ i' → 0 ≤ m' → m' < 2147483647 → 0 ≤ v → v < n → Q (.int v) H' := fun i' m' r' H' v N' e1 e2 e3 e4 e5 =>
      k v H' N'.af ⟨a, ns, i', m', r', N'.cell 0 rfl, hS.keep N'.af, hl, e1, e2, e3⟩ e4 e5
    have b1 : ∀ z : Int, 0 ≤ z % n := fun z => Int.emod_nonneg z (by omega)
    have b2 : ∀ z : Int, z % n < n := fun z => Int.emod_lt_of_pos z h0
    walk_at "go"
    refine c_ifd (fun c1 => ?_) (fun c1 => ?_)
    · walk_at "k"
      exact fin i m (r / n) _ _ (by assumption) hi hm0 hm1 (b1 _) (b2 _)
    · walk_at "k"
      refine c_ifd (fun c2 => ?_) (fun c2 => ?_)
      · rw [List.length_map] at c2
        have e : (i + 1 - 1 : Int) = ((i.toNat : Nat) : Int) := by omega
        have lt : i.toNat < ns.length := by omega
        have at_ : atI (ns.map V.int) (i + 1 - 1) = some (V.int ns[i.toNat]) := at_of e (by rw [List.getElem?_map, List.getElem?_eq_getElem lt]; rfl)
        walk_at "k"
        refine g_ixL (xs := ns.map V.int) (v := V.int ns[i.toNat]) (by walk_at "sq") at_ ?_
        walk_at "k"
        refine c_ifE (fun c3 => ?_) (fun c3 => ?_)
        · walk_at "k"
          exact fin (i + 1) m (ns[i.toNat] / n) _ _ (by assumption) (by omega) hm0 hm1 (b1 _) (b2 _)
        · walk_at "k"
          exact fin (i + 1) m 0 _ _ (by assumption) (by omega) hm0 hm1 (b1 _) (b2 _)
      · walk_at "k"
        exact fin (i + 1) (m * 48271 % 2147483647) r _ _ (by assumption) (by omega) (Int.emod_nonneg _ (by decide)) (Int.emod_lt_of_pos _ (by decide)) (b1 _) (b2 _)
end
/-! ### settings, marks, bits as they should be -/
abbrev StV (m w l a : Int) : List V := [.int m, .int w, .int l, .int a]
def OkS (m w l a : Int) : Prop := (2 ≤ m ∧ m ≤ 64) ∧ (0 ≤ w ∧ w ≤ 16) ∧ (0 ≤ l ∧ l ≤ 8) ∧ (1 ≤ a ∧ a ≤ 16)
section
variable {P : Program} {w : World} {K : PySem.W.Frag} {mg : Str → Option Value} {base : Heap} {aL aM : Addr}
theorem sc_need_setting : FnScope ["setting", "at"] ["setting"] (defScope s_need_setting) := ⟨rfl, rfl, rfl, by decide +kernel, rfl, by decide +kernel, by decide +kernel⟩
theorem bd_need_setting : Bd "need_setting" "need_setting" s_need_setting ["setting"] := fun _ _ _ _ _ _ us hl => match us, hl with | [_], _ => rfl
def spNeedS : Sp := fun vs H Q _ => ∃ (t : Addr) (m w l a : Int), vs = [.ref t] ∧ H t = some (.tup (StV m w l a)) ∧ OkS m w l a ∧ Q .non H
theorem ok_needS (F : Def K mg "need_setting" s_need_setting) (B : Bt mg) (CL : Cst K mg "LEAST" aL (StV 2 0 0 1)) (CM : Cst K mg "MOST" aM (StV 64 16 8 16)) : Cal P w K mg base CX0 1 "need_setting" ["setting"] spNeedS := by
  refine F.ok sc_need_setting bd_need_setting (fun vs H Q E h => ?_) (fun f cdv A outer s H vs Q E hr h => ?_)
  · obtain ⟨t, m, w, l, a, rfl, _⟩ := h
    rfl
  · obtain ⟨t, m, w, l, a, rfl, ht, ⟨⟨h1, h2⟩, ⟨h3, h4⟩, ⟨h5, h6⟩, h7, h8⟩, k⟩ := h
    have g_LEAST := CL.g
    have g_MOST := CM.g
    refine ⟨_, PSs.nox (pss_one (ps_for PassesOwn.never rfl (pi_range1 (by rfl) B.m_range (pa_cons pe_int pa_nil)) (pg_name (i := 1) sc_need_setting.nd rfl (by first | exact Or.inl rfl | exact Or.inr rfl))
      (pss_one (ps_if (pt_not (pt_chain op_le op_le (pe_ix (ix_tupK K rfl) (pe_gref (by rfl) g_LEAST) (pv 1) (fun _ _ => rfl)) (pe_ix (ix_tupK K rfl) (pv 0) (pv 1) (fun _ _ => rfl)) (pe_ix (ix_tupK K rfl) (pe_gref (by rfl) g_MOST) (pv 1) (fun _ _ => rfl)))) (pss_one ps_never) pss_nil)))), ?_⟩
    walk_at "go"
    refine c_forR (by decide) (fun i σ H' => ∃ x, σ = [some (.ref t), x] ∧ H' = H) ⟨_, rfl, rfl⟩ ?_ ?_
    · rintro i σ H' hi ⟨x, rfl, rfl⟩
      have hq : SqT K H' t (StV m w l a) := .of ht
      have : i = 0 ∨ i = 1 ∨ i = 2 ∨ i = 3 := by omega
      rcases this with rfl | rfl | rfl | rfl
      · walk_at "k"
        exact ⟨_, rfl, rfl⟩
      · walk_at "k"
        exact ⟨_, rfl, rfl⟩
      · walk_at "k"
        exact ⟨_, rfl, rfl⟩
      · walk_at "k"
        exact ⟨_, rfl, rfl⟩
    · rintro σ H' ⟨x, rfl, rfl⟩
      walk_at "k"
      exact k
theorem sc_need_mark : FnScope ["setting", "mark"] ["setting", "mark"] (defScope s_need_mark) := ⟨rfl, rfl, rfl, by decide +kernel, rfl, by decide +kernel, by decide +kernel⟩
theorem bd_need_mark : Bd "need_mark" "need_mark" s_need_mark ["setting", "mark"] := fun _ _ _ _ _ _ us hl => match us, hl with | [_, _], _ => rfl
def spNeedM : Sp := fun vs H Q _ => ∃ (t : Addr) (m w l a n : Int), vs = [.ref t, .int n] ∧ H t = some (.tup (StV m w l a)) ∧ (0 ≤ n ∧ n < m) ∧ Q .non H
theorem ok_needM (F : Def K mg "need_mark" s_need_mark) (B : Bt mg) : Cal P w K mg base CX0 1 "need_mark" ["setting", "mark"] spNeedM := by
  refine F.ok sc_need_mark bd_need_mark (fun vs H Q E h => ?_) (fun f cdv A outer s H vs Q E hr h => ?_)
  · obtain ⟨t, m, w, l, a, n, rfl, _⟩ := h
    rfl
  · obtain ⟨t, m, w, l, a, n, rfl, ht, ⟨h1, h2⟩, k⟩ := h
    refine ⟨_, PSs.nox (pss_one (ps_if (pt_not (pt_chain op_le op_lt pe_int (pv 1) (pe_ix (ix_tupK K rfl) (pv 0) pe_int (fun _ _ => rfl)))) (pss_one ps_never) pss_nil)), ?_⟩
    have hq : SqT K H t (StV m w l a) := .of ht
    walk_at "go"
    exact k
end
section
variable {P : Program} {w : World} {K : PySem.W.Frag} {mg : Str → Option Value} {base : Heap}
theorem sc_need_bits : FnScope ["setting", "told", "mark", "bits", "bit"] ["setting", "told"] (defScope s_need_bits) := ⟨rfl, rfl, rfl, by decide +kernel, rfl, by decide +kernel, by decide +kernel⟩
theorem bd_need_bits : Bd "need_bits" "need_bits" s_need_bits ["setting", "told"] := fun _ _ _ _ _ _ us hl => match us, hl with | [_, _], _ => rfl
def spNeedB : Sp := fun vs H Q _ => ∃ (t q b : Addr) (m w l a n : Int) (bs : List Int), vs = [.ref t, .ref q] ∧ H t = some (.tup (StV m w l a)) ∧ H q = some (.tup [.int n, .ref b]) ∧ H b = some (.tup (bs.map V.int)) ∧ (0 ≤ n ∧ n < m) ∧ (bs.length : Int) = w ∧ w ≤ 16 ∧ (∀ x ∈ bs, x = 0 ∨ x = 1) ∧ ∀ H', Aft [] H H' → Q .non H'
theorem ok_needB (F : Def K mg "need_bits" s_need_bits) (B : Bt mg) (c_need_mark : Cal P w K mg base CX0 1 "need_mark" ["setting", "mark"] spNeedM) : Cal P w K mg base CX0 2 "need_bits" ["setting", "told"] spNeedB := by
  refine F.ok sc_need_bits bd_need_bits (fun vs H Q E h => ?_) (fun f cdv A outer s H vs Q E hr h => ?_)
  · obtain ⟨t, q, b, m, w, l, a, n, bs, rfl, _⟩ := h
    rfl
  · obtain ⟨t, q, b, m, w, l, a, n, bs, rfl, ht, hq, hb, hn, hl, hw, h01, k⟩ := h
    refine ⟨_, PSs.nox (pss_cons (ps_asg (pv 1) (pg_tup rfl (pgs_cons (pg_name (i := 2) sc_need_bits.nd rfl (by first | exact Or.inl rfl | exact Or.inr rfl)) (pgs_cons (pg_name (i := 3) sc_need_bits.nd rfl (by first | exact Or.inl rfl | exact Or.inr rfl)) pgs_nil))))
      (pss_cons (ps_expr (pe_cal c_need_mark (hr.mono (by decide)) pass0 (pa_cons (pv 0) (pa_cons (pv 2) pa_nil))))
      (pss_one (ps_if (PW.pt (pw_or (pt_cmpR op_ne (pe_callB (cr_lnK K rfl) (by rfl) B.m_len (by decide +kernel) (pa_cons (pv 3) pa_nil)) (pe_ix (ix_tupK K rfl) (pv 0) pe_int (fun _ _ => rfl)) (nomark _)) (pw_or1 (pt_cmpR (op_neDK K rfl hr.units) (pe_lc (own := [("bit", 4)]) (g := (gName 4)) rfl sc_need_bits.nd (pi_tupK K rfl (pv 3)) (blkOk_by (own := [("bit", 4)]) (N := ["setting", "told", "mark", "bits", "bit"]) (sc := defScope s_need_bits) (by decide +kernel)) (fun _ _ _ _ _ => (pg_name (i := 4) sc_need_bits.nd rfl (by first | exact Or.inl rfl | exact Or.inr rfl))) (fun _ _ _ _ _ => (pts_one (pt_cmpR (op_notIn_seqK K rfl) (pv 4) (pe_tup (pa_cons pe_int (pa_cons pe_int pa_nil))) (by rfl)))) (fun _ _ _ _ _ => (pv 4))) (pe_lst pa_nil) (nomark _))))) (pss_one ps_never) pss_nil)))), ?_⟩
    have N : Now K none [] H H [] [(t, StV m w l a), (q, [.int n, .ref b]), (b, bs.map V.int)] := .start0 (by simp [ht, hq, hb])
    walk_at "go"
    refine ⟨t, m, w, l, a, n, rfl, ht, hn, ?_⟩
    walk_at "k"
    refine c_or (fun c => absurd (of_decide_eq_true c) (by rw [List.length_map]; omega)) (fun c => ?_)
    walk_at "k"
    refine c_lcT N (bs.map V.int) (fun i acc => acc = []) rfl (fun H' l' N' => .of (N'.tup 2 rfl)) (fun _ => rfl) (fun i x Dd H2 acc hx N2 r => ?_) (fun p H2 acc N2 r => ?_)
    · subst r
      rw [List.getElem?_map] at hx
      obtain ⟨z, hz, rfl⟩ := Option.map_eq_some_iff.mp hx
      have z01 := h01 z (List.mem_of_getElem? hz)
      walk_at "k"
      rename_i tp H3 N3
      refine g_ninI (ns := [0, 1]) (.inr (.of (N3.tup 0 rfl))) ?_
      walk_at "k"
      refine c_el (fun c => absurd (of_decide_eq_true c) (by rcases z01 with e | e <;> simp [e])) (fun c => ?_)
      exact ⟨[], N3.subT _ (by simp), rfl⟩
    · subst r
      walk_at "k"
      rename_i ep H3 N3
      refine g_neL (m := []) (n := []) (.of (N3.cell 1 rfl)) (.of (N3.cell 0 rfl)) ?_
      walk_at "k"
      refine c_ifdF (fun q => q rfl) ?_
      walk_at "k"
      exact k _ N3.af
end
/-! ### marks and bits that may be refused -/
section
variable {P : Program} {w : World} {K : PySem.W.Frag} {mg : Str → Option Value} {base : Heap} {C2 C3 : Addr}
def spNeedME (C2 : Addr) : Sp := fun vs H Q E => ∃ (t : Addr) (m w l a n : Int), vs = [.ref t, .int n] ∧ H t = some (.tup (StV m w l a)) ∧ ((0 ≤ n ∧ n < m) → Q .non H) ∧ (¬ (0 ≤ n ∧ n < m) → E (.ref C2) none H)
theorem ok_needME (F : Def K mg "need_mark" s_need_mark) (T2 : ExK K mg "BadMark" C2) : Cal P w K mg base (L2.CX P w) 1 "need_mark" ["setting", "mark"] (spNeedME C2) := by
  refine F.ok sc_need_mark bd_need_mark (fun vs H Q E h => ?_) (fun f cdv A outer s H vs Q E hr h => ?_)
  · obtain ⟨t, m, w, l, a, n, rfl, _⟩ := h
    rfl
  · obtain ⟨t, m, w, l, a, n, rfl, ht, k1, k2⟩ := h
    refine ⟨_, (pss_one (ps_if (pt_not (pt_chain op_le op_lt pe_int (pv 1) (pe_ix (ix_tupK K rfl) (pv 0) pe_int (fun _ _ => rfl)))) (pss_one (ps_raiseK rfl (takes_of rfl rfl rfl rfl) T2 (by rfl))) pss_nil)), ?_⟩
    have hq : SqT K H t (StV m w l a) := .of ht
    by_cases h1 : 0 ≤ n
    · by_cases h2 : n < m
      · walk_at "go"
        exact k1 ⟨h1, h2⟩
      · walk_at "go"
        exact k2 fun z => h2 z.2
    · walk_at "go"
      exact k2 fun z => h1 z.1
def BitsOk (w : Int) (bs : List Int) : Prop := (bs.length : Int) = w ∧ ∀ x ∈ bs, x = 0 ∨ x = 1
def spNeedBE (C2 C3 : Addr) : Sp := fun vs H Q E => ∃ (t q b : Addr) (m w l a n : Int) (bs : List Int), vs = [.ref t, .ref q] ∧ H t = some (.tup (StV m w l a)) ∧ H q = some (.tup [.int n, .ref b]) ∧ H b = some (.tup (bs.map V.int)) ∧ bs.length ≤ 1000 ∧
  (((0 ≤ n ∧ n < m) ∧ BitsOk w bs) → ∀ H', Aft [] H H' → Q .non H') ∧ (¬ (0 ≤ n ∧ n < m) → ∀ H', Aft [] H H' → E (.ref C2) none H') ∧ (((0 ≤ n ∧ n < m) ∧ ¬ BitsOk w bs) → ∀ H', Aft [] H H' → E (.ref C3) none H')
theorem ok_needBE (F : Def K mg "need_bits" s_need_bits) (B : Bt mg) (T3 : ExK K mg "BadBits" C3) (c_need_markE : Cal P w K mg base (L2.CX P w) 1 "need_mark" ["setting", "mark"] (spNeedME C2)) : Cal P w K mg base (L2.CX P w) 2 "need_bits" ["setting", "told"] (spNeedBE C2 C3) := by
  refine F.ok sc_need_bits bd_need_bits (fun vs H Q E h => ?_) (fun f cdv A outer s H vs Q E hr h => ?_)
  · obtain ⟨t, q, b, m, w, l, a, n, bs, rfl, _⟩ := h
    rfl
  · obtain ⟨t, q, b, m, w, l, a, n, bs, rfl, ht, hq, hb, hlen, k1, k2, k3⟩ := h
    refine ⟨_, (pss_cons (ps_asg (pv 1) (pg_tup rfl (pgs_cons (pg_name (i := 2) sc_need_bits.nd rfl (by first | exact Or.inl rfl | exact Or.inr rfl)) (pgs_cons (pg_name (i := 3) sc_need_bits.nd rfl (by first | exact Or.inl rfl | exact Or.inr rfl)) pgs_nil))))
      (pss_cons (ps_expr (pe_cal c_need_markE (hr.mono (by decide)) (passes_call (takes_of rfl rfl rfl rfl) (fun _ _ _ _ h => h)) (pa_cons (pv 0) (pa_cons (pv 2) pa_nil))))
      (pss_one (ps_if (PW.pt (pw_or (pt_cmpR op_ne (pe_callB (cr_lnK K rfl) (by rfl) B.m_len (by decide +kernel) (pa_cons (pv 3) pa_nil)) (pe_ix (ix_tupK K rfl) (pv 0) pe_int (fun _ _ => rfl)) (nomark _)) (pw_or1 (pt_cmpR (op_neDK K rfl hr.units) (pe_lc (own := [("bit", 4)]) (g := (gName 4)) rfl sc_need_bits.nd (pi_tupK K rfl (pv 3)) (blkOk_by (own := [("bit", 4)]) (N := ["setting", "told", "mark", "bits", "bit"]) (sc := defScope s_need_bits) (by decide +kernel)) (fun _ _ _ _ _ => (pg_name (i := 4) sc_need_bits.nd rfl (by first | exact Or.inl rfl | exact Or.inr rfl))) (fun _ _ _ _ _ => (pts_one (pt_cmpR (op_notIn_seqK K rfl) (pv 4) (pe_tup (pa_cons pe_int (pa_cons pe_int pa_nil))) (by rfl)))) (fun _ _ _ _ _ => (pv 4))) (pe_lst pa_nil) (nomark _))))) (pss_one (ps_raiseK rfl (takes_of rfl rfl rfl rfl) T3 (by rfl))) pss_nil)))), ?_⟩
    have N : Now K none [] H H [] [(t, StV m w l a), (q, [.int n, .ref b]), (b, bs.map V.int)] := .start0 (by simp [ht, hq, hb])
    walk_at "go"
    refine ⟨t, m, w, l, a, n, rfl, ht, fun hn => ?_, fun hn => k2 hn _ N.af⟩
    walk_at "k"
    have bad : ¬ BitsOk w bs → ∀ H', Aft [] H H' → E (.ref C3) none H' := fun z => k3 ⟨hn, z⟩
    have lm : (bs.map V.int).length = bs.length := List.length_map ..
    rw [lm]
    refine c_or (fun c => ?_) (fun c => ?_)
    · walk_at "k"
      exact bad (fun z => of_decide_eq_true c z.1) _ N.af
    walk_at "k"
    have c := of_decide_eq_false c
    have hw : (bs.length : Int) = w := by omega
    refine c_lcT N (bs.map V.int) (fun i acc => acc = ((bs.take i).filter fun x => decide (x ∉ [0, 1])).map V.int) rfl (fun H' l' N' => .of (N'.tup 2 rfl)) (fun _ => rfl) (fun i x Dd H2 acc hx N2 r => ?_) (fun p H2 acc N2 r => ?_)
    · rw [List.getElem?_map] at hx
      obtain ⟨z, hz, rfl⟩ := Option.map_eq_some_iff.mp hx
      have la : acc.length ≤ bs.length := by
        rw [r, List.length_map]
        exact filt_len
      walk_at "k"
      rename_i tp H3 N3
      refine g_ninI (ns := [0, 1]) (.inr (.of (N3.tup 0 rfl))) ?_
      walk_at "k"
      refine c_el (fun c => ?_) (fun c => ?_)
      · walk_at "k"
        refine c_put (N3.subT _ (by simp)) (by omega) ?_
        show acc ++ [V.int z] = _
        rw [r, filt_snoc hz, if_pos c, List.map_append]
        rfl
      · refine ⟨acc, N3.subT _ (by simp), ?_⟩
        show acc = _
        rw [r, filt_snoc hz, if_neg (fun q => by rw [c] at q; cases q)]
    · rw [List.length_map, List.take_length] at r
      subst r
      walk_at "k"
      rename_i ep H3 N3
      refine g_neL (m := bs.filter fun x => decide (x ∉ [0, 1])) (n := []) (.of (N3.cell 1 rfl)) (.of (N3.cell 0 rfl)) ?_
      walk_at "k"
      refine c_ifd (fun c => ?_) (fun c => ?_)
      · walk_at "k"
        refine bad (fun z => c ?_) _ N3.af
        refine List.filter_eq_nil_iff.mpr fun x hx => ?_
        rcases z.2 x hx with e | e <;> simp [e]
      · walk_at "k"
        refine k1 ⟨hn, hw, fun x hx => ?_⟩ _ N3.af
        have c := Decidable.not_not.mp c
        have := List.filter_eq_nil_iff.mp c x hx
        by_cases e : x = 0
        · exact .inl e
        · exact .inr (by simpa [e] using this)
end
/-! ### a setting by the dice -/
section
variable {P : Program} {w : World} {K : PySem.W.Frag} {mg : Str → Option Value} {base : Heap}
theorem sc_l_setting : FnScope ["_law_d", "_law_late", "_law_ahead", "_law_wide", "_law_marks"] ["_law_d"] (defScope s_l_setting) := ⟨rfl, rfl, rfl, by decide +kernel, rfl, by decide +kernel, by decide +kernel⟩
theorem bd_l_setting : Bd "_law_setting" "_law_setting" s_l_setting ["_law_d"] := fun _ _ _ _ _ _ us hl => match us, hl with | [_], _ => rfl
def spSetting (K : PySem.W.Frag) : Sp := fun vs H Q _ => ∃ d, vs = [.ref d] ∧ Dice K H d ∧ ∀ (t : Addr) (m w l a : Int) H', Aft [d] H H' → Dice K H' d → H' t = some (.tup (StV m w l a)) → OkS m w l a → Q (.ref t) H'
theorem ok_setting (F : Def K mg "_law_setting" s_l_setting) (B : Bt mg) (c_l_next : Cal P w K mg base CX0 1 "_law_next" ["_law_dice_here", "_law_many"] (spNext K)) : Cal P w K mg base CX0 2 "_law_setting" ["_law_d"] (spSetting K) := by
  refine F.ok sc_l_setting bd_l_setting (fun vs H Q E h => ?_) (fun f cdv A outer s H vs Q E hr h => ?_)
  · obtain ⟨d, rfl, _⟩ := h
    rfl
  · obtain ⟨d, rfl, hD, k⟩ := h
    refine ⟨_, PSs.nox (pss_cons (ps_set (i := 1) sc_l_setting.nd rfl (by first | exact Or.inl rfl | exact Or.inr rfl) (pe_ix (ix_listK K rfl) (pe_lst (pa_cons (pe_cal c_l_next (hr.mono (by decide)) pass0 (pa_cons (pv 0) (pa_cons pe_int pa_nil))) (pa_cons (pe_cal c_l_next (hr.mono (by decide)) pass0 (pa_cons (pv 0) (pa_cons pe_int pa_nil))) pa_nil))) (pe_cal c_l_next (hr.mono (by decide)) pass0 (pa_cons (pv 0) (pa_cons pe_int pa_nil))) (fun _ _ => rfl)))
      (pss_cons (ps_set (i := 2) sc_l_setting.nd rfl (by first | exact Or.inl rfl | exact Or.inr rfl) (pe_op op_add pe_int (pe_ix (ix_listK K rfl) (pe_lst (pa_cons (pe_cal c_l_next (hr.mono (by decide)) pass0 (pa_cons (pv 0) (pa_cons pe_int pa_nil))) (pa_cons (pe_cal c_l_next (hr.mono (by decide)) pass0 (pa_cons (pv 0) (pa_cons pe_int pa_nil))) pa_nil))) (pe_cal c_l_next (hr.mono (by decide)) pass0 (pa_cons (pv 0) (pa_cons pe_int pa_nil))) (fun _ _ => rfl))))
      (pss_cons (ps_set (i := 3) sc_l_setting.nd rfl (by first | exact Or.inl rfl | exact Or.inr rfl) (pe_ix (ix_listK K rfl) (pe_lst (pa_cons (pe_cal c_l_next (hr.mono (by decide)) pass0 (pa_cons (pv 0) (pa_cons pe_int pa_nil))) (pa_cons (pe_cal c_l_next (hr.mono (by decide)) pass0 (pa_cons (pv 0) (pa_cons pe_int pa_nil))) pa_nil))) (pe_cal c_l_next (hr.mono (by decide)) pass0 (pa_cons (pv 0) (pa_cons pe_int pa_nil))) (fun _ _ => rfl)))
      (pss_cons (ps_set (i := 4) sc_l_setting.nd rfl (by first | exact Or.inl rfl | exact Or.inr rfl) (pe_op op_add (pe_op op_add (pv 1) (pv 2)) (pe_ix (ix_listK K rfl) (pe_lst (pa_cons pe_int (pa_cons pe_int (pa_cons pe_int (pa_cons pe_int (pa_cons (pe_op op_sub (pe_cal c_l_next (hr.mono (by decide)) pass0 (pa_cons (pv 0) (pa_cons pe_int pa_nil))) pe_int) pa_nil)))))) (pe_cal c_l_next (hr.mono (by decide)) pass0 (pa_cons (pv 0) (pa_cons pe_int pa_nil))) (fun _ _ => rfl))))
      (pss_cons (ps_set (i := 4) sc_l_setting.nd rfl (by first | exact Or.inl rfl | exact Or.inr rfl) (pe_ix (ix_listK K rfl) (pe_lst (pa_cons (pv 4) (pa_cons (pe_op op_add pe_int (pe_cal c_l_next (hr.mono (by decide)) pass0 (pa_cons (pv 0) (pa_cons pe_int pa_nil)))) (pa_cons pe_int pa_nil)))) (pe_callB (cr_max2 rfl) (by rfl) B.m_max (by decide +kernel) (pa_cons pe_int (pa_cons (pe_op op_sub (pe_cal c_l_next (hr.mono (by decide)) pass0 (pa_cons (pv 0) (pa_cons pe_int pa_nil))) pe_int) pa_nil))) (fun _ _ => rfl)))
      (pss_one (ps_ret (pe_tup (pa_cons (pe_callB (cr_min2 rfl) (by rfl) B.m_min (by decide +kernel) (pa_cons pe_int (pa_cons (pe_callB (cr_max2 rfl) (by rfl) B.m_max (by decide +kernel) (pa_cons pe_int (pa_cons (pv 4) pa_nil))) pa_nil))) (pa_cons (pv 3) (pa_cons (pv 1) (pa_cons (pv 2) pa_nil)))))))))))), ?_⟩
    have N : Now K (some d) [d] H H [] [] := .startD hD (by simp)
    walk_at "gon"
    rename_i N9
    refine k _ _ _ _ _ _ N9.af (N9.dc d rfl).1 (N9.tup 0 rfl) ?_
    unfold OkS
    omega
theorem sc_l_safe : FnScope ["_law_d", "_law_marks", "_law_wide", "_law_late", "_law_ahead"] ["_law_d"] (defScope s_l_safe) := ⟨rfl, rfl, rfl, by decide +kernel, rfl, by decide +kernel, by decide +kernel⟩
theorem bd_l_safe : Bd "_law_safe" "_law_safe" s_l_safe ["_law_d"] := fun _ _ _ _ _ _ us hl => match us, hl with | [_], _ => rfl
def spSafe (K : PySem.W.Frag) : Sp := fun vs H Q _ => ∃ d, vs = [.ref d] ∧ Dice K H d ∧ ∀ (t : Addr) (m w l a : Int) H', Aft [d] H H' → Dice K H' d → H' t = some (.tup (StV m w l a)) → OkS m w l a → l + a + 1 ≤ m → Q (.ref t) H'
theorem ok_safe (F : Def K mg "_law_safe" s_l_safe) (B : Bt mg) (c_l_setting : Cal P w K mg base CX0 2 "_law_setting" ["_law_d"] (spSetting K)) : Cal P w K mg base CX0 3 "_law_safe" ["_law_d"] (spSafe K) := by
  refine F.ok sc_l_safe bd_l_safe (fun vs H Q E h => ?_) (fun f cdv A outer s H vs Q E hr h => ?_)
  · obtain ⟨d, rfl, _⟩ := h
    rfl
  · obtain ⟨d, rfl, hD, k⟩ := h
    refine ⟨_, PSs.nox (pss_cons (ps_asg (pe_cal c_l_setting (hr.mono (by decide)) pass0 (pa_cons (pv 0) pa_nil)) (pg_tup rfl (pgs_cons (pg_name (i := 1) sc_l_safe.nd rfl (by first | exact Or.inl rfl | exact Or.inr rfl)) (pgs_cons (pg_name (i := 2) sc_l_safe.nd rfl (by first | exact Or.inl rfl | exact Or.inr rfl)) (pgs_cons (pg_name (i := 3) sc_l_safe.nd rfl (by first | exact Or.inl rfl | exact Or.inr rfl)) (pgs_cons (pg_name (i := 4) sc_l_safe.nd rfl (by first | exact Or.inl rfl | exact Or.inr rfl)) pgs_nil))))))
      (pss_one (ps_ret (pe_tup (pa_cons (pe_callB (cr_min2 rfl) (by rfl) B.m_min (by decide +kernel) (pa_cons pe_int (pa_cons (pe_callB (cr_max2 rfl) (by rfl) B.m_max (by decide +kernel) (pa_cons (pv 1) (pa_cons (pe_op op_add (pe_op op_add (pv 3) (pv 4)) pe_int) pa_nil))) pa_nil))) (pa_cons (pv 2) (pa_cons (pv 3) (pa_cons (pv 4) pa_nil)))))))), ?_⟩
    have N : Now K (some d) [d] H H [] [] := .startD hD (by simp)
    walk_at "gon"
    refine ⟨d, rfl, hD, fun t m w l a H1 A1 D1 ht hs => ?_⟩
    have N1 := (N.roll A1 D1).moreT ht
    clear N
    walk_at "kn"
    rename_i N9
    unfold OkS at hs
    refine k _ _ _ _ _ _ N9.af (N9.dc d rfl).1 (N9.tup 0 rfl) ?_ ?_
    · unfold OkS
      omega
    · omega
end
/-! ### what is told is what is due -/
section
variable {P : Program} {w : World} {K : PySem.W.Frag} {mg : Str → Option Value} {base : Heap}
theorem sc_l_like : FnScope ["_law_found", "_law_due_here", "_law_key", "_law_k"] ["_law_found", "_law_due_here"] (defScope s_l_like) := ⟨rfl, rfl, rfl, by decide +kernel, rfl, by decide +kernel, by decide +kernel⟩
theorem bd_l_like : Bd "_law_like" "_law_like" s_l_like ["_law_found", "_law_due_here"] := fun _ _ _ _ _ _ us hl => match us, hl with | [_, _], _ => rfl
theorem ok_like (F : Def K mg "_law_like" s_l_like) (B : Bt mg) : ∀ n : Nat, Cal P w K mg base CX0 (n + 1) "_law_like" ["_law_found", "_law_due_here"] (spLike K n)
  | 0 => cal_never F bd_l_like
  | n + 1 => by
    have c_l_like := ok_like F B n
    refine F.ok sc_l_like bd_l_like (fun vs H Q E h => ?_) (fun f cdv A outer s H vs Q E hr h => ?_)
    · obtain ⟨x, y, d, rfl, _⟩ := h
      rfl
    · obtain ⟨x, y, d, rfl, hx, hy, hn, k⟩ := h
      refine ⟨_, PSs.nox (pss_cons (ps_if (pt_val (pe_callB (call_isiQ K rfl) (by rfl) B.m_isinstance (by decide +kernel) (pa_cons (pv 1) (pa_cons (pe_bltn (v := .ty "bool") (by rfl) B.m_bool (by decide +kernel) rfl) pa_nil)))) (pss_one (ps_ret (pe_and (pe_callB (call_isiQ K rfl) (by rfl) B.m_isinstance (by decide +kernel) (pa_cons (pv 0) (pa_cons (pe_bltn (v := .ty "bool") (by rfl) B.m_bool (by decide +kernel) rfl) pa_nil))) (pe_one (pe_cmpR op_eq (pv 0) (pv 1) (nomark _)))))) pss_nil)
      (pss_cons (ps_if (pt_val (pe_callB (call_isiQ K rfl) (by rfl) B.m_isinstance (by decide +kernel) (pa_cons (pv 1) (pa_cons (pe_bltn (v := .ty "str") (by rfl) B.m_str (by decide +kernel) rfl) pa_nil)))) (pss_one (ps_ret (pe_and (pe_callB (call_isiQ K rfl) (by rfl) B.m_isinstance (by decide +kernel) (pa_cons (pv 0) (pa_cons (pe_bltn (v := .ty "str") (by rfl) B.m_str (by decide +kernel) rfl) pa_nil))) (pe_one (pe_cmpR op_eq (pv 0) (pv 1) (nomark _)))))) pss_nil)
      (pss_cons (ps_if (pt_val (pe_callB (call_isiQ K rfl) (by rfl) B.m_isinstance (by decide +kernel) (pa_cons (pv 1) (pa_cons (pe_bltn (v := .ty "int") (by rfl) B.m_int (by decide +kernel) rfl) pa_nil)))) (pss_one (ps_ret (pe_and (pe_callB (call_isiQ K rfl) (by rfl) B.m_isinstance (by decide +kernel) (pa_cons (pv 0) (pa_cons (pe_bltn (v := .ty "int") (by rfl) B.m_int (by decide +kernel) rfl) pa_nil))) (pe_and (pe_not (pe_callB (call_isiQ K rfl) (by rfl) B.m_isinstance (by decide +kernel) (pa_cons (pv 0) (pa_cons (pe_bltn (v := .ty "bool") (by rfl) B.m_bool (by decide +kernel) rfl) pa_nil)))) (pe_one (pe_cmpR op_eq (pv 0) (pv 1) (nomark _))))))) pss_nil)
      (pss_cons (ps_if (pt_cmpR op_isNo (pv 1) pe_non (nomark _)) (pss_one (ps_ret (pe_cmpR op_isNo (pv 0) pe_non (nomark _)))) pss_nil)
      (pss_cons (ps_if (pt_val (pe_callB (call_isiQ K rfl) (by rfl) B.m_isinstance (by decide +kernel) (pa_cons (pv 1) (pa_cons (pe_bltn (v := .ty "dict") (by rfl) B.m_dict (by decide +kernel) rfl) pa_nil)))) (pss_cons ps_never
      (pss_one ps_never)) pss_nil)
      (pss_cons (ps_if (PW.pt (pw_or (pt_cmpR op_ne (pe_callB (call_isiQ K rfl) (by rfl) B.m_isinstance (by decide +kernel) (pa_cons (pv 1) (pa_cons (pe_bltn (v := .ty "tuple") (by rfl) B.m_tuple (by decide +kernel) rfl) pa_nil))) (pe_callB (call_isiQ K rfl) (by rfl) B.m_isinstance (by decide +kernel) (pa_cons (pv 0) (pa_cons (pe_bltn (v := .ty "tuple") (by rfl) B.m_tuple (by decide +kernel) rfl) pa_nil))) (nomark _)) (pw_or1 (pt_cmpR op_ne (pe_callB (call_isiQ K rfl) (by rfl) B.m_isinstance (by decide +kernel) (pa_cons (pv 1) (pa_cons (pe_bltn (v := .ty "list") (by rfl) B.m_list (by decide +kernel) rfl) pa_nil))) (pe_callB (call_isiQ K rfl) (by rfl) B.m_isinstance (by decide +kernel) (pa_cons (pv 0) (pa_cons (pe_bltn (v := .ty "list") (by rfl) B.m_list (by decide +kernel) rfl) pa_nil))) (nomark _))))) (pss_one (ps_ret pe_bl)) pss_nil)
      (pss_cons (ps_if (pt_cmpR op_ne (pe_callB (cr_lnK K rfl) (by rfl) B.m_len (by decide +kernel) (pa_cons (pv 0) pa_nil)) (pe_callB (cr_lnK K rfl) (by rfl) B.m_len (by decide +kernel) (pa_cons (pv 1) pa_nil)) (nomark _)) (pss_one (ps_ret pe_bl)) pss_nil)
      (pss_cons (ps_for PassesOwn.never rfl (pi_range1 (by rfl) B.m_range (pa_cons (pe_callB (cr_lnK K rfl) (by rfl) B.m_len (by decide +kernel) (pa_cons (pv 1) pa_nil)) pa_nil)) (pg_name (i := 3) sc_l_like.nd rfl (by first | exact Or.inl rfl | exact Or.inr rfl))
      (pss_one (ps_if (pt_not (pt_val (pe_cal c_l_like hr pass0 (pa_cons (pe_ix (ix_seqK K rfl) (pv 0) (pv 3) (fun _ _ => rfl)) (pa_cons (pe_ix (ix_seqK K rfl) (pv 1) (pv 3) (fun _ _ => rfl)) pa_nil))))) (pss_one (ps_ret pe_bl)) pss_nil)))
      (pss_one (ps_ret pe_bl)))))))))), ?_⟩
      have kn := k H .refl
      have loop : ∀ (p q : Addr) (xs ys : List V) (ds : List PyData), (SqL K H p xs ∨ SqT K H p xs) → (SqL K H q ys ∨ SqT K H q ys) → DpAll K H xs ds → DpAll K H ys ds → (∃ m, n = m + 1 ∧ ds.length ≤ 100000 ∧ ∀ d ∈ ds, dOk m d) →
          cForR (gName 3) (tIfS (tNot (tB (tCall (spLike K n) [] E0 (tCons (tOp (rIx K) (tVar 0) (tVar 3)) (tCons (tOp (rIx K) (tVar 1) (tVar 3)) tNil))))) (tRet (tC (V.bl false))) tNext)
            { nx := tRet (tC (V.bl true)) { nx := fun x H' => Q V.non H', rt := Q }, rt := Q } [some (V.ref p), some (V.ref q), none, none] [V.int (ys.length : Int)] H := by
        intro p q xs ys ds hp hq hxs hys ⟨m, e, hz, hd⟩
        subst e
        have l1 := dpa_len hxs
        have l2 := dpa_len hys
        refine c_forR (by omega) (fun i σ H' => ∃ z, σ = [some (V.ref p), some (V.ref q), none, z] ∧ Aft [] H H') ⟨_, rfl, .refl⟩ ?_ ?_
        · rintro i σ H' hi ⟨z, rfl, A⟩
          have hi' : i < ds.length := by omega
          obtain ⟨v, e1, d1⟩ := dpa_at hxs i hi'
          obtain ⟨u, e2, d2⟩ := dpa_at hys i hi'
          walk_at "k"
          refine g_ixQ (hp.imp A.sql A.sqt) (atI_nat e1) ?_
          walk_at "k"
          refine g_ixQ (hq.imp A.sql A.sqt) (atI_nat e2) ?_
          walk_at "k"
          refine ⟨v, u, ds[i], rfl, dp_keep A d1, dp_keep A d2, hd _ (List.getElem_mem hi'), fun H2 A2 => ?_⟩
          walk_at "k"
          exact ⟨_, rfl, A.trans A2⟩
        · rintro σ H' ⟨z, rfl, A⟩
          walk_at "k"
          exact k H' A
      cases d with
      | none =>
        cases hx
        cases hy
        walk_at "go"
        exact kn
      | bool b =>
        cases hx
        cases hy
        walk_at "go"
        exact kn
      | int b =>
        cases hx
        cases hy
        walk_at "go"
        exact kn
      | str b =>
        cases hx
        cases hy
        walk_at "go"
        exact kn
      | list ds =>
        cases hx with
        | @lst p xs _ h1 h2 =>
        cases hy with
        | @lst q ys _ h3 h4 =>
        have l1 := dpa_len h2
        have l2 := dpa_len h4
        have t1 := sql_ty h1
        have t2 := sql_ty h3
        walk_at "go"
        refine loop p q xs ys ds (.inl h1) (.inl h3) h2 h4 ?_
        cases n with
        | zero => exact hn.elim
        | succ m => exact ⟨m, rfl, hn⟩
      | tuple ds =>
        cases hx with
        | @tup p xs _ h1 h2 =>
        cases hy with
        | @tup q ys _ h3 h4 =>
        have l1 := dpa_len h2
        have l2 := dpa_len h4
        have t1 := sqt_ty h1
        have t2 := sqt_ty h3
        walk_at "go"
        refine loop p q xs ys ds (.inr h1) (.inr h3) h2 h4 ?_
        cases n with
        | zero => exact hn.elim
        | succ m => exact ⟨m, rfl, hn⟩
      | dict kvs => cases hx
end
/-! ### the texts, by their signs -/
def dg (c : Nat) : Bool := decide (c ∈ [48, 49, 50, 51, 52, 53, 54, 55, 56, 57])
def b01 (c : Nat) : Bool := decide (c ∈ [48, 49])
theorem dg_iff {c : Nat} : dg c = true ↔ 48 ≤ c ∧ c ≤ 57 := by
  unfold dg
  rw [decide_eq_true_eq]
  simp only [List.mem_cons, List.not_mem_nil, or_false]
  omega
theorem b01_iff {c : Nat} : b01 c = true ↔ c = 48 ∨ c = 49 := by
  unfold b01
  rw [decide_eq_true_eq]
  simp
def isR (t : List Nat) (p b : Nat) : Bool :=
  if p < b then dg (t.getD p 0) && (decide (p < 2) && (decide (p = 0) || decide (t.getD 0 0 ≠ 48)))
  else if p = b then decide (0 < p)
  else if t.getD p 0 = 45 then decide (p = b + 1)
  else b01 (t.getD p 0) && decide (t.getD (b + 1) 0 ≠ 45)
def np (t : List Nat) : Nat := if dg (t.getD 0 0) = true then (if t.getD 0 0 ≠ 48 ∧ dg (t.getD 1 0) = true then 2 else 1) else 0
def okR (r : List Nat) (k : Nat) : Bool := (b01 (r.getD k 0) && decide (r.getD 0 0 ≠ 45)) || (decide (r.getD k 0 = 45) && decide (k = 0))
inductive Out where
  | bad (p : Nat)
  | mark
  | bits
  | ok (n : Nat) (bs : List Int)
def firstBad (r : List Nat) : Option Nat := (List.range r.length).find? fun k => !okR r k
def bitsOf (r : List Nat) : List Int := (r.filter fun (c : Nat) => decide (c ≠ 45)).map fun (c : Nat) => ((c : Nat) : Int) - 48
def finO (m w : Int) (n : Nat) (bs : List Int) : Out := if (n : Int) ≥ m then .mark else if (bs.length : Int) = w then .ok n bs else .bits
def rd (m w : Int) (t : List Nat) : Out :=
  if np t = t.length ∨ np t = 0 ∨ t.getD (np t) 0 ≠ 32 then .bad (np t)
  else if np t + 1 = t.length then .bad t.length
  else match firstBad (t.drop (np t + 1)) with
    | some k => .bad (np t + 1 + k)
    | none => finO m w (NumText.digitsVal (t.take (np t))) (bitsOf (t.drop (np t + 1)))
def blk (t : List Nat) : Nat := if 32 ∈ t then t.idxOf 32 else 99
theorem getD_in {t : List Nat} {i : Nat} (h : t.getD i 0 ≠ 0) : i < t.length := by
  by_cases q : i < t.length
  · exact q
  · rw [List.getD_eq_getElem?_getD, List.getElem?_eq_none (by omega)] at h
    exact absurd rfl h
theorem dg_in {t : List Nat} {i : Nat} (h : dg (t.getD i 0) = true) : i < t.length := getD_in (by
  have := dg_iff.mp h
  omega)
theorem np_le2 (t : List Nat) : np t ≤ 2 := by
  unfold np
  split
  · split <;> omega
  · omega
theorem np_dg {t : List Nat} {i : Nat} (h : i < np t) : dg (t.getD i 0) = true ∧ (i = 0 ∨ t.getD 0 0 ≠ 48) ∧ i < 2 := by
  unfold np at h
  split at h
  · rename_i h0
    split at h
    · rename_i h1
      have : i = 0 ∨ i = 1 := by omega
      rcases this with rfl | rfl
      · exact ⟨h0, .inl rfl, by omega⟩
      · exact ⟨h1.2, .inr h1.1, by omega⟩
    · have : i = 0 := by omega
      subst this
      exact ⟨h0, .inl rfl, by omega⟩
  · omega
theorem np_no {t : List Nat} (h2 : np t < 2) (h : dg (t.getD (np t) 0) = true) : ¬ (np t = 0 ∨ t.getD 0 0 ≠ 48) := by
  unfold np at *
  split at h2
  · rename_i h0
    split at h2
    · omega
    · rename_i h1
      rw [if_pos h0, if_neg h1] at h ⊢
      rintro (z | z)
      · omega
      · exact h1 ⟨z, h⟩
  · rename_i h0
    rw [if_neg h0] at h
    exact absurd h h0
theorem np_len (t : List Nat) : np t ≤ t.length := by
  rcases Nat.eq_zero_or_pos (np t) with h | h
  · omega
  · have := dg_in (np_dg (t := t) (i := np t - 1) (by omega)).1
    omega
/-- where the first blank is -/
structure Blk (t : List Nat) (b : Nat) : Prop where
  lo : ∀ i, i < b → t.getD i 0 ≠ 32
  hi : b < t.length → t.getD b 0 = 32
theorem blk_ok {t : List Nat} (hl : t.length ≤ 90) : Blk t (blk t) := by
  unfold blk
  by_cases h : 32 ∈ t
  · rw [if_pos h]
    have hi := List.idxOf_lt_length_iff.mpr h
    refine ⟨fun i hlt z => ?_, fun _ => ?_⟩
    · have b : i < t.length := by omega
      rw [List.getD_eq_getElem?_getD, List.getElem?_eq_getElem b] at z
      exact idx_ne hlt b z
    · rw [List.getD_eq_getElem?_getD, List.getElem?_eq_getElem hi]
      exact List.getElem_idxOf hi
  · rw [if_neg h]
    refine ⟨fun i _ z => h ?_, fun q => by omega⟩
    have b := getD_in (t := t) (i := i) (by omega)
    rw [List.getD_eq_getElem?_getD, List.getElem?_eq_getElem b] at z
    exact List.mem_of_getElem z
section
variable {t : List Nat} {b p : Nat} {m w : Int}
theorem isR_lt (h : p < b) : isR t p b = true ↔ dg (t.getD p 0) = true ∧ p < 2 ∧ (p = 0 ∨ t.getD 0 0 ≠ 48) := by
  unfold isR
  rw [if_pos h]
  simp
theorem isR_eq : isR t b b = true ↔ 0 < b := by
  unfold isR
  rw [if_neg (by omega), if_pos rfl]
  simp
theorem isR_gt {k : Nat} : isR t (b + 1 + k) b = okR (t.drop (b + 1)) k := by
  have e : ∀ j, (t.drop (b + 1)).getD j 0 = t.getD (b + 1 + j) 0 := fun j => by rw [List.getD_eq_getElem?_getD, List.getD_eq_getElem?_getD, List.getElem?_drop]
  unfold isR okR
  rw [if_neg (by omega), if_neg (by omega), e k, e 0, Nat.add_zero]
  by_cases h : t.getD (b + 1 + k) 0 = 45
  · rw [if_pos h, h]
    have : b01 45 = false := rfl
    rw [this]
    simp
  · rw [if_neg h, decide_eq_false h]
    simp
theorem np_ge {k : Nat} (hk : k ≤ b) (h : ∀ i, i < k → isR t i b = true) : k ≤ np t := by
  by_cases q : np t < k
  · have h1 := (isR_lt (t := t) (b := b) (p := np t) (by omega)).mp (h _ q)
    exact absurd h1.2.2 (np_no h1.2.1 h1.1)
  · omega
theorem rd_bad (B : Blk t b) (hp : p < t.length) (hb : ∀ i, i < p → isR t i b = true) (hn : isR t p b = false) : rd m w t = .bad p := by
  have h2 := np_le2 t
  rcases Nat.lt_trichotomy p b with h | h | h
  · have h1 := np_ge (t := t) (b := b) (k := p) (by omega) hb
    have e : np t = p := by
      by_cases q : p < np t
      · have z := np_dg q
        have := (isR_lt (t := t) h).mpr ⟨z.1, z.2.2, z.2.1⟩
        rw [hn] at this
        cases this
      · omega
    unfold rd
    rw [e, if_pos (.inr (.inr (B.lo p h)))]
  · subst h
    have h0 : p = 0 := by
      by_cases q : 0 < p
      · rw [isR_eq.mpr q] at hn
        cases hn
      · omega
    subst h0
    have e : np t = 0 := by
      by_cases q : 0 < np t
      · have z := dg_iff.mp (np_dg q).1
        have := B.hi hp
        omega
      · omega
    unfold rd
    rw [e, if_pos (.inr (.inl rfl))]
  · obtain ⟨k, rfl⟩ : ∃ k, p = b + 1 + k := ⟨p - (b + 1), by omega⟩
    have hb0 : 0 < b := isR_eq.mp (hb b (by omega))
    have h1 := np_ge (t := t) (b := b) (k := b) (Nat.le_refl b) fun i hi => hb i (by omega)
    have tb := B.hi (by omega)
    have e : np t = b := by
      by_cases q : b < np t
      · have z := dg_iff.mp (np_dg q).1
        omega
      · omega
    have fb : firstBad (t.drop (b + 1)) = some k := by
      unfold firstBad
      rw [List.find?_range_eq_some]
      refine ⟨?_, ?_, fun j hj => ?_⟩
      · rw [← isR_gt, hn]
        rfl
      · rw [List.mem_range, List.length_drop]
        omega
      · rw [← isR_gt, hb _ (by omega)]
        rfl
    unfold rd
    rw [e, if_neg (by omega), if_neg (by omega), fb]
theorem rd_end (B : Blk t b) (hl : t.length ≤ 90) (hall : ∀ i, i < t.length → isR t i b = true) (h : t.length ≤ b + 1) : rd m w t = .bad t.length := by
  have h3 := np_len t
  by_cases q : b < t.length
  · have e1 : b + 1 = t.length := by omega
    have hb0 : 0 < b := isR_eq.mp (hall b q)
    have h1 := np_ge (t := t) (b := b) (k := b) (Nat.le_refl b) fun i hi => hall i (by omega)
    have tb := B.hi q
    have e : np t = b := by
      by_cases q : b < np t
      · have z := dg_iff.mp (np_dg q).1
        omega
      · omega
    unfold rd
    rw [e, if_neg (by omega), if_pos e1]
  · have h1 := np_ge (t := t) (b := b) (k := t.length) (by omega) hall
    have e : np t = t.length := by omega
    unfold rd
    rw [e, if_pos (.inl rfl)]
theorem rd_fin (B : Blk t b) (hall : ∀ i, i < t.length → isR t i b = true) (h : b + 1 < t.length) : rd m w t = finO m w (NumText.digitsVal (t.take b)) (bitsOf (t.drop (b + 1))) ∧ 0 < b ∧ b ≤ 2 ∧ dgs (t.take b) = true ∧
    (t.getD (b + 1) 0 = 45 → bitsOf (t.drop (b + 1)) = []) ∧ (t.getD (b + 1) 0 ≠ 45 → bitsOf (t.drop (b + 1)) = (t.drop (b + 1)).map (fun (c : Nat) => ((c : Nat) : Int) - 48) ∧ ∀ c ∈ t.drop (b + 1), c = 48 ∨ c = 49) := by
  have h2 := np_le2 t
  have hb0 : 0 < b := isR_eq.mp (hall b (by omega))
  have h1 := np_ge (t := t) (b := b) (k := b) (Nat.le_refl b) fun i hi => hall i (by omega)
  have tb := B.hi (by omega)
  have e : np t = b := by
    by_cases q : b < np t
    · have z := dg_iff.mp (np_dg q).1
      omega
    · omega
  have ok : ∀ k, k < (t.drop (b + 1)).length → okR (t.drop (b + 1)) k = true := fun k hk => by
    rw [List.length_drop] at hk
    rw [← isR_gt]
    exact hall _ (by omega)
  have fb : firstBad (t.drop (b + 1)) = none := by
    unfold firstBad
    rw [List.find?_range_eq_none]
    intro k hk
    rw [ok k hk]
    rfl
  have e0 : (t.drop (b + 1)).getD 0 0 = t.getD (b + 1) 0 := by rw [List.getD_eq_getElem?_getD, List.getD_eq_getElem?_getD, List.getElem?_drop, Nat.add_zero]
  refine ⟨?_, hb0, by omega, ?_, fun q => ?_, fun q => ?_⟩
  · unfold rd
    rw [e, if_neg (by omega), if_neg (by omega), fb]
  · unfold dgs
    refine List.all_eq_true.mpr fun c hc => ?_
    obtain ⟨i, hi, rfl⟩ := List.getElem_of_mem hc
    rw [List.length_take] at hi
    have z := dg_iff.mp ((isR_lt (t := t) (b := b) (p := i) (by omega)).mp (hall i (by omega))).1
    rw [List.getD_eq_getElem?_getD, List.getElem?_eq_getElem (by omega)] at z
    rw [List.getElem_take]
    simpa using z
  · -- the dash alone
    have hlen : (t.drop (b + 1)).length = 1 := by
      by_cases z : 1 < (t.drop (b + 1)).length
      · have y := ok 1 z
        unfold okR at y
        rw [e0, q] at y
        simp at y
      · rw [List.length_drop] at z ⊢
        omega
    match hr : t.drop (b + 1), hlen with
    | [c], _ =>
      rw [hr] at e0
      have : c = 45 := by rw [← q, ← e0]; rfl
      subst this
      rfl
  · have all : ∀ c ∈ t.drop (b + 1), c = 48 ∨ c = 49 := fun c hc => by
      obtain ⟨i, hi, rfl⟩ := List.getElem_of_mem hc
      have y := ok i hi
      unfold okR at y
      have e1 : (t.drop (b + 1)).getD i 0 = (t.drop (b + 1))[i] := by rw [List.getD_eq_getElem?_getD, List.getElem?_eq_getElem hi]; rfl
      rw [e0, e1] at y
      simp only [Bool.or_eq_true, Bool.and_eq_true, decide_eq_true_eq] at y
      rcases y with y | ⟨y1, y2⟩
      · exact b01_iff.mp y.1
      · subst y2
        rw [← e1, e0] at y1
        exact absurd y1 q
    refine ⟨?_, all⟩
    unfold bitsOf
    have ef : (t.drop (b + 1)).filter (fun (c : Nat) => decide (c ≠ 45)) = t.drop (b + 1) := List.filter_eq_self.mpr fun c hc => by
      rcases all c hc with z | z <;> rw [z] <;> rfl
    rw [ef]
end
/-! the text of a telling -/
def codes (bs : List Int) : List Nat := bs.map fun x => 48 + x.toNat
def wrT (n : Nat) (bs : List Int) : List Nat := TL.numL n ++ ([32] ++ if bs = [] then [45] else codes bs)
/-! ### the text of a telling is written -/
theorem numL_len {n : Nat} (h : n < 100) : (TL.numL n).length ≤ 2 := by
  by_cases q : n < 10
  · rw [TL.numL_lt q]
    simp
  · rw [TL.numL_step (by omega), TL.numL_lt (by omega)]
    simp
section
variable {P : Program} {w : World} {K : PySem.W.Frag} {mg : Str → Option Value} {base : Heap}
theorem sc_written : FnScope ["setting", "told", "mark", "bits", "bit"] ["setting", "told"] (defScope s_written) := ⟨rfl, rfl, rfl, by decide +kernel, rfl, by decide +kernel, by decide +kernel⟩
theorem bd_written : Bd "written" "written" s_written ["setting", "told"] := fun _ _ _ _ _ _ us hl => match us, hl with | [_, _], _ => rfl
def spWritten : Sp := fun vs H Q _ => ∃ (st q b : Addr) (m w l a n : Int) (bs : List Int), vs = [.ref st, .ref q] ∧ H st = some (.tup (StV m w l a)) ∧ OkS m w l a ∧ H q = some (.tup [.int n, .ref b]) ∧ H b = some (.tup (bs.map V.int)) ∧ (0 ≤ n ∧ n < m) ∧ (bs.length : Int) = w ∧ (∀ x ∈ bs, x = 0 ∨ x = 1) ∧
  ∀ H', Aft [] H H' → Q (.str (tx (wrT n.toNat bs))) H'
theorem ok_written (F : Def K mg "written" s_written) (B : Bt mg) (g_NONE : ∃ t, mg "NONE" = some (.str "-" t)) (c_need_setting : Cal P w K mg base CX0 1 "need_setting" ["setting"] spNeedS) (c_need_bits : Cal P w K mg base CX0 2 "need_bits" ["setting", "told"] spNeedB) :
    Cal P w K mg base CX0 3 "written" ["setting", "told"] spWritten := by
  refine F.ok sc_written bd_written (fun vs H Q E h => ?_) (fun f cdv A outer s H vs Q E hr h => ?_)
  · obtain ⟨st, q, b, m, w, l, a, n, bs, rfl, _⟩ := h
    rfl
  · obtain ⟨st, q, b, m, w, l, a, n, bs, rfl, ht, hok, hq, hb, hn, hl, h01, k⟩ := h
    have hok' := hok
    unfold OkS at hok'
    refine ⟨_, PSs.nox (pss_cons (ps_expr (pe_cal c_need_setting (hr.mono (by decide)) pass0 (pa_cons (pv 0) pa_nil)))
      (pss_cons (ps_expr (pe_cal c_need_bits (hr.mono (by decide)) pass0 (pa_cons (pv 0) (pa_cons (pv 1) pa_nil))))
      (pss_cons (ps_asg (pv 1) (pg_tup rfl (pgs_cons (pg_name (i := 2) sc_written.nd rfl (by first | exact Or.inl rfl | exact Or.inr rfl)) (pgs_cons (pg_name (i := 3) sc_written.nd rfl (by first | exact Or.inl rfl | exact Or.inr rfl)) pgs_nil))))
      (pss_one (ps_ret (pe_op op_addT (pe_op op_addT (pe_callTy cr_strI (by rfl) B.m_str (by decide +kernel) (pa_cons (pv 2) pa_nil)) pe_str) (pe_ifExp (pt_cmpR (op_neDK K rfl hr.units) (pv 3) (pe_tup pa_nil) (nomark _)) (pe_joinK K rfl pe_str (pe_lc (own := [("bit", 4)]) (g := (gName 4)) rfl sc_written.nd (pi_tupK K rfl (pv 3)) (blkOk_by (own := [("bit", 4)]) (N := ["setting", "told", "mark", "bits", "bit"]) (sc := defScope s_written) (by decide +kernel)) (fun _ _ _ _ _ => (pg_name (i := 4) sc_written.nd rfl (by first | exact Or.inl rfl | exact Or.inr rfl))) (fun _ _ _ _ _ => pts_nil) (fun _ _ _ _ _ => (pe_callTy cr_strI (by rfl) B.m_str (by decide +kernel) (pa_cons (pv 4) pa_nil))))) (pe_gstr (by rfl) g_NONE)))))))), ?_⟩
    have N : Now K none [] H H [] [(st, StV m w l a), (q, [.int n, .ref b]), (b, bs.map V.int)] := .start0 (by simp [ht, hq, hb])
    walk_at "gon"
    refine ⟨st, m, w, l, a, rfl, ht, hok, ?_⟩
    walk_at "kn"
    refine ⟨st, q, b, m, w, l, a, n, bs, rfl, ht, hq, hb, hn, hl, by omega, h01, fun H1 A1 => ?_⟩
    have N1 := N.pure A1
    clear N
    walk_at "kn"
    refine g_strI (by omega) ?_
    walk_at "kn"
    have nl := numL_len (n := n.toNat) (by omega)
    refine g_addT (a := TL.numL n.toNat) (b := [32]) (by simp; omega) rfl lit_blank ?_
    walk_at "kn"
    rename_i ep H2 N2
    refine g_neT (m := bs) (n := []) (.of (N2.tup 3 rfl)) (.of (N2.tup 0 rfl)) ?_
    walk_at "kn"
    refine c_ifE (fun c => ?_) (fun c => ?_)
    · have c := of_decide_eq_true c
      refine k_m1 ?_
      walk_at "kn"
      refine k_m1s ?_
      walk_at "kn"
      refine c_lcT N2 (bs.map V.int) (fun i acc => acc = (codes (bs.take i)).map fun c => V.str (tx [c])) rfl (fun H' l' N' => .of (N'.tup 3 rfl)) (fun _ => rfl) (fun i x Dd H3 acc hx N3 r => ?_) (fun p H3 acc N3 r => ?_)
      · rw [List.getElem?_map] at hx
        obtain ⟨z, hz, rfl⟩ := Option.map_eq_some_iff.mp hx
        have z01 := h01 z (List.mem_of_getElem? hz)
        have la : acc.length ≤ bs.length := by
          rw [r, List.length_map]
          unfold codes
          rw [List.length_map, List.length_take]
          omega
        walk_at "kn"
        refine g_strI (by omega) ?_
        rw [TL.numL_lt (by omega)]
        refine c_put N3 (by omega) ?_
        show acc ++ [V.str (tx [48 + z.toNat])] = _
        rw [r]
        unfold codes
        rw [List.take_add_one, hz, List.map_append, List.map_append]
        rfl
      · rw [List.length_map, List.take_length] at r
        subst r
        have lc : (codes bs).length = bs.length := List.length_map ..
        refine g_join lit_empty (.of (N3.cell 0 rfl)) (by omega) ?_
        refine g_addT (a := TL.numL n.toNat ++ [32]) (b := codes bs) (by simp; omega) rfl rfl ?_
        have e : wrT n.toNat bs = TL.numL n.toNat ++ [32] ++ codes bs := by
          unfold wrT
          rw [if_neg c, List.append_assoc]
        rw [← e]
        exact k _ N3.af
    · have c := Decidable.not_not.mp (of_decide_eq_false c)
      walk_at "kn"
      refine g_addT (a := TL.numL n.toNat ++ [32]) (b := [45]) (by simp; omega) rfl lit_dash ?_
      have e : wrT n.toNat bs = TL.numL n.toNat ++ [32] ++ [45] := by
        unfold wrT
        rw [if_pos c, List.append_assoc]
      rw [← e]
      exact k _ N2.af
end
/-! ### what is written is read -/
theorem codes_01 {bs : List Int} (h : ∀ x ∈ bs, x = 0 ∨ x = 1) : ∀ c ∈ codes bs, c = 48 ∨ c = 49 := fun c hc => by
  unfold codes at hc
  obtain ⟨x, hx, rfl⟩ := List.mem_map.mp hc
  rcases h x hx with rfl | rfl
  · exact .inl rfl
  · exact .inr rfl
theorem codes_bits {bs : List Int} (h : ∀ x ∈ bs, x = 0 ∨ x = 1) : bitsOf (codes bs) = bs := by
  have q := codes_01 h
  have ef : (codes bs).filter (fun (c : Nat) => decide (c ≠ 45)) = codes bs := List.filter_eq_self.mpr fun c hc => by
    rcases q c hc with z | z <;> rw [z] <;> rfl
  unfold bitsOf
  rw [ef]
  unfold codes
  rw [List.map_map]
  have : ∀ l : List Int, (∀ x ∈ l, x = 0 ∨ x = 1) → l.map ((fun (c : Nat) => ((c : Nat) : Int) - 48) ∘ fun (x : Int) => 48 + x.toNat) = l := fun l => by
    induction l with
    | nil => exact fun _ => rfl
    | cons x l ih =>
      intro h
      rw [List.map_cons, ih fun y hy => h y (List.mem_cons_of_mem _ hy)]
      rcases h x List.mem_cons_self with rfl | rfl <;> rfl
  exact this bs h
theorem num_shape {n : Nat} (h : n < 100) : (∃ a, TL.numL n = [a] ∧ dg a = true) ∨ ∃ a b, TL.numL n = [a, b] ∧ dg a = true ∧ a ≠ 48 ∧ dg b = true := by
  by_cases q : n < 10
  · exact .inl ⟨48 + n, TL.numL_lt q, dg_iff.mpr ⟨by omega, by omega⟩⟩
  · refine .inr ⟨48 + n / 10, 48 + n % 10, ?_, dg_iff.mpr ⟨by omega, by omega⟩, by omega, dg_iff.mpr ⟨by omega, by omega⟩⟩
    rw [TL.numL_step (by omega), TL.numL_lt (by omega)]
    rfl
theorem np_wr {r hd : List Nat} (h : (∃ a, hd = [a] ∧ dg a = true) ∨ ∃ a b, hd = [a, b] ∧ dg a = true ∧ a ≠ 48 ∧ dg b = true) : np (hd ++ (32 :: r)) = hd.length := by
  have d32 : dg 32 = false := rfl
  rcases h with ⟨a, rfl, h1⟩ | ⟨a, b, rfl, h1, h2, h3⟩
  · unfold np
    simp [h1, d32]
  · unfold np
    simp [h1, h2, h3]
theorem rd_wr {m w : Int} {n : Nat} {bs : List Int} (hn : (n : Int) < m) (hm : m ≤ 64) (hl : (bs.length : Int) = w) (h01 : ∀ x ∈ bs, x = 0 ∨ x = 1) : rd m w (wrT n bs) = .ok n bs := by
  have sh := num_shape (n := n) (by omega)
  have key : ∀ r : List Nat, 0 < r.length → firstBad r = none → bitsOf r = bs → rd m w (TL.numL n ++ (32 :: r)) = .ok n bs := fun r hr fb hbs => by
    have e := np_wr (r := r) sh
    have l0 : 0 < (TL.numL n).length := by
      rcases sh with ⟨a, h, _⟩ | ⟨a, b, h, _⟩ <;> rw [h] <;> simp
    have e1 : (TL.numL n ++ (32 :: r)).getD (TL.numL n).length 0 = 32 := by rw [List.getD_eq_getElem?_getD, List.getElem?_append_right (Nat.le_refl _), Nat.sub_self]; rfl
    have e2 : (TL.numL n ++ (32 :: r)).length = (TL.numL n).length + 1 + r.length := by rw [List.length_append, List.length_cons]; omega
    have e3 : (TL.numL n ++ (32 :: r)).drop ((TL.numL n).length + 1) = r := by rw [List.drop_append, List.drop_of_length_le (by omega), List.nil_append, show (TL.numL n).length + 1 - (TL.numL n).length = 1 by omega]; rfl
    have e4 : (TL.numL n ++ (32 :: r)).take (TL.numL n).length = TL.numL n := List.take_left
    unfold rd
    rw [e, e1, e2, e3, e4, fb, if_neg (by omega), if_neg (by omega)]
    show finO m w _ _ = _
    rw [TL.numL_val, hbs]
    unfold finO
    rw [if_neg (by omega), if_pos hl]
  unfold wrT
  by_cases hb : bs = []
  · subst hb
    rw [if_pos rfl]
    exact key [45] (by simp) rfl rfl
  · rw [if_neg hb]
    have q := codes_01 h01
    have hlen : (codes bs).length = bs.length := List.length_map ..
    have hpos : 0 < (codes bs).length := by
      rw [hlen]
      exact List.length_pos_iff.mpr hb
    refine key (codes bs) hpos ?_ (codes_bits h01)
    have gt : ∀ i, i < (codes bs).length → (codes bs).getD i 0 = 48 ∨ (codes bs).getD i 0 = 49 := fun i hi => by
      rw [List.getD_eq_getElem?_getD, List.getElem?_eq_getElem hi]
      exact q _ (List.getElem_mem hi)
    unfold firstBad
    rw [List.find?_range_eq_none]
    intro k hk
    have ok : okR (codes bs) k = true := by
      unfold okR
      rw [Bool.or_eq_true, Bool.and_eq_true]
      left
      refine ⟨b01_iff.mpr (gt k hk), decide_eq_true ?_⟩
      rcases gt 0 hpos with z | z <;> rw [z] <;> decide
    rw [ok]
    rfl
theorem wrT_len {n : Nat} {bs : List Int} (hn : n < 100) (hl : bs.length ≤ 16) : (wrT n bs).length ≤ 20 := by
  have h1 := numL_len hn
  unfold wrT
  rw [List.length_append, List.length_append]
  by_cases hb : bs = []
  · rw [if_pos hb]
    simp
    omega
  · rw [if_neg hb]
    have hlen : (codes bs).length = bs.length := List.length_map ..
    simp
    omega
/-! ### whether a sign may stand at its place -/
theorem e_andK {σ : L2.St} {H : Hp} {tb : TE} {Q : VK} {b c : Bool} (q : Q (.bl (b && c)) H) (h : Q (.bl c) H → tb σ H Q) : cAndV tb σ Q (.bl b) H := by
  cases b with
  | true => exact ⟨true, rfl, h q⟩
  | false => exact ⟨false, rfl, q⟩
theorem e_orK {σ : L2.St} {H : Hp} {tb : TE} {Q : VK} {b c : Bool} (q : Q (.bl (b || c)) H) (h : Q (.bl c) H → tb σ H Q) : cOrV tb σ Q (.bl b) H := by
  cases b with
  | true => exact ⟨true, rfl, q⟩
  | false => exact ⟨false, rfl, h q⟩
section
variable {P : Program} {w : World} {K : PySem.W.Frag} {mg : Str → Option Value} {base : Heap}
theorem sc_is_right : FnScope ["text", "place", "blank", "sign"] ["text", "place", "blank"] (defScope s_is_right) := ⟨rfl, rfl, rfl, by decide +kernel, rfl, by decide +kernel, by decide +kernel⟩
theorem bd_is_right : Bd "is_right" "is_right" s_is_right ["text", "place", "blank"] := fun _ _ _ _ _ _ us hl => match us, hl with | [_, _, _], _ => rfl
def spIsR : Sp := fun vs H Q _ => ∃ (t : List Nat) (p b : Nat), vs = [.str (tx t), .int (p : Int), .int (b : Int)] ∧ p < t.length ∧ t.length ≤ 200 ∧ Q (.bl (isR t p b)) H
theorem ok_isRight (F : Def K mg "is_right" s_is_right) (B : Bt mg) (g_FIGURES : ∃ t, mg "FIGURES" = some (.str "0123456789" t)) (g_NONE : ∃ t, mg "NONE" = some (.str "-" t)) : Cal P w K mg base CX0 1 "is_right" ["text", "place", "blank"] spIsR := by
  refine F.ok sc_is_right bd_is_right (fun vs H Q E h => ?_) (fun f cdv A outer s H vs Q E hr h => ?_)
  · obtain ⟨t, p, b, rfl, _⟩ := h
    rfl
  · obtain ⟨t, p, b, rfl, hp, hl, k⟩ := h
    refine ⟨_, PSs.nox (pss_cons (ps_set (i := 3) sc_is_right.nd rfl (by first | exact Or.inl rfl | exact Or.inr rfl) (pe_ix ix_str (pv 0) (pv 1) (fun _ _ => rfl)))
      (pss_cons (ps_if (pt_cmpR op_lt (pv 1) (pv 2) (nomark _)) (pss_one (ps_ret (pe_and (pe_cmpR op_inS (pv 3) (pe_gstr (by rfl) g_FIGURES) (by rfl)) (pe_and (pe_cmpR op_lt (pv 1) pe_int (nomark _)) (pe_one (pe_or (pe_cmpR op_eq (pv 1) pe_int (nomark _)) (pe_one (pe_cmpR op_ne (pe_ix ix_str (pv 0) pe_int (fun _ _ => rfl)) pe_str (nomark _))))))))) pss_nil)
      (pss_cons (ps_if (pt_cmpR op_eq (pv 1) (pv 2) (nomark _)) (pss_one (ps_ret (pe_cmpR op_gt (pv 1) pe_int (nomark _)))) pss_nil)
      (pss_cons (ps_if (pt_cmpR op_eq (pv 3) (pe_gstr (by rfl) g_NONE) (nomark _)) (pss_one (ps_ret (pe_cmpR op_eq (pv 1) (pe_op op_add (pv 2) pe_int) (nomark _)))) pss_nil)
      (pss_one (ps_ret (pe_and (pe_cmpR op_inS (pv 3) pe_str (by rfl)) (pe_one (pe_cmpR op_ne (pe_ix ix_str (pv 0) (pe_op op_add (pv 2) pe_int) (fun _ _ => rfl)) (pe_gstr (by rfl) g_NONE) (nomark _)))))))))), ?_⟩
    have gd : ∀ i, i < t.length → t[i]? = some (t.getD i 0) := fun i hi => by rw [List.getD_eq_getElem?_getD, List.getElem?_eq_getElem hi]; rfl
    walk_at "gon"
    refine g_ixS (by omega) (atI_nat (gd p hp)) ?_
    walk_at "kn"
    have gt0 : t[0]? = some (t.getD 0 0) := gd 0 (by omega)
    refine c_ifd (fun c => ?_) (fun c => ?_)
    · have c : p < b := by omega
      have e : isR t p b = (dg (t.getD p 0) && (decide ((p : Int) < 2) && (decide ((p : Int) = 0) || decide (t.getD 0 0 ≠ 48)))) := by
        unfold isR
        rw [if_pos c, show decide ((p : Int) < 2) = decide (p < 2) from decide_eq_decide.mpr (by omega), show decide ((p : Int) = 0) = decide (p = 0) from decide_eq_decide.mpr (by omega)]
      rw [e] at k
      walk_at "kn"
      refine g_inS rfl lit_figs ?_
      refine e_andK k fun k => ?_
      walk_at "kn"
      refine e_andK k fun k => ?_
      walk_at "kn"
      refine e_orK k fun k => ?_
      walk_at "kn"
      refine g_ixS (by omega) (atI_nat (j := 0) gt0) ?_
      walk_at "kn"
      refine g_neTx rfl lit_zero ?_
      rw [show decide ([t.getD 0 0] ≠ [48]) = decide (t.getD 0 0 ≠ 48) from decide_eq_decide.mpr (by simp)]
      exact k
    · walk_at "kn"
      refine c_ifd (fun c2 => ?_) (fun c2 => ?_)
      · have e : isR t p b = decide ((p : Int) > 0) := by
          unfold isR
          rw [if_neg (by omega), if_pos (by omega)]
          exact decide_eq_decide.mpr (by omega)
        rw [e] at k
        walk_at "kn"
        exact k
      · walk_at "kn"
        refine g_eqTx rfl lit_dash ?_
        walk_at "kn"
        refine c_ifd (fun c3 => ?_) (fun c3 => ?_)
        · have c3 : t.getD p 0 = 45 := by simpa using c3
          have e : isR t p b = decide ((p : Int) = (b : Int) + 1) := by
            unfold isR
            rw [if_neg (by omega), if_neg (by omega), if_pos c3]
            exact decide_eq_decide.mpr (by omega)
          rw [e] at k
          walk_at "kn"
          exact k
        · have c3 : t.getD p 0 ≠ 45 := fun z => c3 (by rw [z])
          have e : isR t p b = (b01 (t.getD p 0) && decide (t.getD (b + 1) 0 ≠ 45)) := by
            unfold isR
            rw [if_neg (by omega), if_neg (by omega), if_neg c3]
          rw [e] at k
          walk_at "kn"
          refine g_inS rfl lit_01 ?_
          refine e_andK k fun k => ?_
          walk_at "kn"
          refine g_ixS (by omega) (show atI t ((b : Int) + 1) = some (t.getD (b + 1) 0) from atI_nat (j := b + 1) (gd _ (by omega))) ?_
          walk_at "kn"
          refine g_neTx rfl lit_dash ?_
          rw [show decide ([t.getD (b + 1) 0] ≠ [45]) = decide (t.getD (b + 1) 0 ≠ 45) from decide_eq_decide.mpr (by simp)]
          exact k
end
/-! ### BadText's own __init__ -/
section
variable {P : Program} {w : World} {K : PySem.W.Frag} {mg : Str → Option Value} {base : Heap} {C cb : Addr}
theorem sc_BadText_init : FnScope ["self", "place"] ["self", "place"] (defScope s_BadText_init) := ⟨rfl, rfl, rfl, by decide +kernel, rfl, by decide +kernel, by decide +kernel⟩
theorem bd_BadText_init : Bd "__init__" "BadText.__init__" s_BadText_init ["self", "place"] := fun _ _ _ _ _ _ us hl => match us, hl with | [_, _], _ => rfl
theorem ok_BadText (F : DefX K mg C "BadText" "BadText.__init__" s_BadText_init) (T : OexC K C) (BI : BaseI K mg "BitsError" cb) (nn : PySem.W.findIn K (.ref C) "place" = some none) : ExI P w K mg base CX0 C 1 "BadText" "place" := by
  refine F.ok T sc_BadText_init bd_BadText_init rfl (fun f cdv A outer s H vs Q E hr h => ?_)
  obtain ⟨a, v, rfl, ha, k⟩ := h
  refine ⟨_, PSs.nox (pss_cons (ps_expr (pe_baseInit BI (by rfl) (pa_cons (pv 0) (pa_cons pe_str pa_nil))))
      (pss_one (ps_ost (pv 0) (pv 1)))), ?_⟩
  walk_at "gon"
  refine k_veI ?_
  walk_at "kn"
  refine ⟨a, C, [.str "a bad sign"], rfl, by simp, T, ha, ?_⟩
  walk_at "kn"
  refine k_ost ?_
  walk_at "kn"
  refine ⟨a, C, rfl, T, nn, .inl ⟨ha, fun dx h1 h2 => ?_⟩⟩
  exact k dx h1 h2
end
/-! ### a text is read -/
def tupO : Out → List V
  | .bad p => [.str "text", .int (p : Int)]
  | .mark => [.str "mark"]
  | .bits => [.str "bits"]
  | .ok n _ => [.int (n : Int)]
theorem c_ifEP {σ : L2.St} {H : Hp} {ta tb : TE} {Q R : VK} {b : Bool} (h1 : b = true → ∀ Q' : VK, (∀ v H', R v H' → Q' v H') → ta σ H Q') (h2 : b = false → ∀ Q' : VK, (∀ v H', R v H' → Q' v H') → tb σ H Q') (q : ∀ v H', R v H' → Q v H') : cIfE ta tb σ Q b H := by
  cases b with
  | true => exact h1 rfl _ q
  | false => exact h2 rfl _ q
theorem val_one {c : Nat} (h : c = 48 ∨ c = 49) : ((NumText.digitsVal [c] : Nat) : Int) = (c : Int) - 48 := by
  rcases h with rfl | rfl <;> rfl
section
variable {P : Program} {w : World} {K : PySem.W.Frag} {mg : Str → Option Value} {base : Heap} {C2 C3 C6 : Addr}
theorem sc_read : FnScope ["setting", "text", "blank", "place", "bits", "sign", "told"] ["setting", "text"] (defScope s_read) := ⟨rfl, rfl, rfl, by decide +kernel, rfl, by decide +kernel, by decide +kernel⟩
theorem bd_read : Bd "read" "read" s_read ["setting", "text"] := fun _ _ _ _ _ _ us hl => match us, hl with | [_, _], _ => rfl
def spRead (C2 C3 C6 : Addr) : Sp := fun vs H Q E => ∃ (st : Addr) (m w l a : Int) (t : List Nat), vs = [.ref st, .str (tx t)] ∧ H st = some (.tup (StV m w l a)) ∧ OkS m w l a ∧ t.length ≤ 90 ∧
  (∀ p, rd m w t = .bad p → ∀ dd H', Aft [] H H' → H' dd = some (.xd [("place", .int (p : Int))]) → E (.ref C6) (some dd) H') ∧ (rd m w t = .mark → ∀ H', Aft [] H H' → E (.ref C2) none H') ∧ (rd m w t = .bits → ∀ H', Aft [] H H' → E (.ref C3) none H') ∧
  (∀ n bs, rd m w t = .ok n bs → ∀ q b H', Aft [] H H' → H' q = some (.tup [.int (n : Int), .ref b]) → H' b = some (.tup (bs.map V.int)) → Q (.ref q) H')
theorem ok_read (F : Def K mg "read" s_read) (B : Bt mg) (g_NONE : ∃ t, mg "NONE" = some (.str "-" t)) (XT : ExI P w K mg base CX0 C6 1 "BadText" "place") (c_need_setting : Cal P w K mg base CX0 1 "need_setting" ["setting"] spNeedS) (c_is_right : Cal P w K mg base CX0 1 "is_right" ["text", "place", "blank"] spIsR)
    (c_need_bitsE : Cal P w K mg base (L2.CX P w) 2 "need_bits" ["setting", "told"] (spNeedBE C2 C3)) : Cal P w K mg base (L2.CX P w) 3 "read" ["setting", "text"] (spRead C2 C3 C6) := by
  refine F.ok sc_read bd_read (fun vs H Q E h => ?_) (fun f cdv A outer s H vs Q E hr h => ?_)
  · obtain ⟨st, m, w, l, a, t, rfl, _⟩ := h
    rfl
  · obtain ⟨st, m, w, l, a, t, rfl, ht, hok, hl, kb, km, kw, ko⟩ := h
    refine ⟨_, (pss_cons (ps_expr (pe_cal c_need_setting (hr.mono (by decide)) pass0 (pa_cons (pv 0) pa_nil)))
      (pss_cons (ps_set (i := 2) sc_read.nd rfl (by first | exact Or.inl rfl | exact Or.inr rfl) (pe_ifExp (pt_cmpR op_inS pe_str (pv 1) (by rfl)) (pe_idxT (pv 1) pe_str) pe_int))
      (pss_cons (ps_for (passes_of rfl) rfl (pi_range1 (by rfl) B.m_range (pa_cons (pe_callB cr_lenT (by rfl) B.m_len (by decide +kernel) (pa_cons (pv 1) pa_nil)) pa_nil)) (pg_name (i := 3) sc_read.nd rfl (by first | exact Or.inl rfl | exact Or.inr rfl))
      (pss_one (ps_if (pt_not (pt_val (pe_cal c_is_right (hr.mono (by decide)) pass0 (pa_cons (pv 1) (pa_cons (pv 3) (pa_cons (pv 2) pa_nil)))))) (pss_one (ps_raiseI rfl (takes_of rfl rfl rfl rfl) XT (hr.mono (by decide)) pass0 (by rfl) (pa_cons (pv 3) pa_nil))) pss_nil)))
      (pss_cons (ps_if (pt_cmpR op_ge (pv 2) (pe_op op_sub (pe_callB cr_lenT (by rfl) B.m_len (by decide +kernel) (pa_cons (pv 1) pa_nil)) pe_int) (nomark _)) (pss_one (ps_raiseI rfl (takes_of rfl rfl rfl rfl) XT (hr.mono (by decide)) pass0 (by rfl) (pa_cons (pe_callB cr_lenT (by rfl) B.m_len (by decide +kernel) (pa_cons (pv 1) pa_nil)) pa_nil))) pss_nil)
      (pss_cons (ps_set (i := 4) sc_read.nd rfl (by first | exact Or.inl rfl | exact Or.inr rfl) (pe_ifExp (pt_cmpR op_eq (pe_ix ix_str (pv 1) (pe_op op_add (pv 2) pe_int) (fun _ _ => rfl)) (pe_gstr (by rfl) g_NONE) (nomark _)) (pe_lst pa_nil) (pe_lc (own := [("sign", 5)]) (g := (gName 5)) rfl sc_read.nd (pi_str (pe_slice sl_str (pv 1) (po_some (pe_op op_add (pv 2) pe_int)) po_none)) (blkOk_by (own := [("sign", 5)]) (N := ["setting", "text", "blank", "place", "bits", "sign", "told"]) (sc := defScope s_read) (by decide +kernel)) (fun _ _ _ _ _ => (pg_name (i := 5) sc_read.nd rfl (by first | exact Or.inl rfl | exact Or.inr rfl))) (fun _ _ _ _ _ => pts_nil) (fun _ _ _ _ _ => (pe_callTy cr_intS (by rfl) B.m_int (by decide +kernel) (pa_cons (pv 5) pa_nil))))))
      (pss_cons (ps_set (i := 6) sc_read.nd rfl (by first | exact Or.inl rfl | exact Or.inr rfl) (pe_tup (pa_cons (pe_callTy cr_intS (by rfl) B.m_int (by decide +kernel) (pa_cons (pe_slice sl_str (pv 1) po_none (po_some (pv 2))) pa_nil)) (pa_cons (pe_callTy (cr_tupLK K rfl) (by rfl) B.m_tuple (by decide +kernel) (pa_cons (pv 4) pa_nil)) pa_nil))))
      (pss_cons (ps_expr (pe_cal c_need_bitsE (hr.mono (by decide)) (passes_call (takes_of rfl rfl rfl rfl) (fun _ _ _ _ h => h)) (pa_cons (pv 0) (pa_cons (pv 6) pa_nil))))
      (pss_one (ps_ret (pv 6)))))))))), ?_⟩
    have N : Now K none [] H H [] [(st, StV m w l a)] := .start0 (by simp [ht])
    have BB := blk_ok hl
    walk_at "gon"
    refine ⟨st, m, w, l, a, rfl, ht, hok, ?_⟩
    walk_at "kn"
    refine g_inS lit_blank rfl ?_
    refine e_bl (c_ifEV (v := .int ((blk t : Nat) : Int)) (fun c Q' q => ?_) (fun c Q' q => ?_) ?_)
    · have c := of_decide_eq_true c
      have e : blk t = t.idxOf 32 := if_pos c
      rw [e] at q
      refine k_m1 ?_
      walk_at "kn"
      refine k_m1s ?_
      walk_at "kn"
      exact g_idxS rfl lit_blank c q
    · have c := of_decide_eq_false c
      have e : blk t = 99 := if_neg c
      rw [e] at q
      walk_at "kn"
      exact q
    generalize hb : blk t = b at *
    have raised : ∀ p, rd m w t = .bad p → ∀ H9, Aft [] H H9 → ∀ d, H9 d = none → E (.ref C6) (some d) (upd H9 d (.xd [("place", .int (p : Int))])) := fun p hp H9 A9 d hd => kb p hp d _ (A9.new hd) upd_same
    walk_at "kn"
    refine g_lenT (by omega) ?_
    walk_at "kn"
    refine c_forR (by omega) (fun i σ H' => ∃ x3 x4 x5 x6, σ = [some (.ref st), some (.str (tx t)), some (.int (b : Int)), x3, x4, x5, x6] ∧ Now K none [] H H' [] [(st, StV m w l a)] ∧ ∀ j, j < i → isR t j b = true) ⟨_, _, _, _, rfl, N, by simp⟩ ?_ ?_
    · clear N
      rintro i σ H1 hi ⟨_, _, _, _, rfl, N, hall⟩
      walk_at "kn"
      refine ⟨t, i, b, rfl, by omega, by omega, ?_⟩
      cases hR : isR t i b with
      | true =>
        walk_at "kn"
        refine ⟨_, _, _, _, rfl, N, fun j hj => ?_⟩
        by_cases q : j = i
        · rw [q]
          exact hR
        · exact hall j (by omega)
      | false =>
        walk_at "kn"
        refine k_raiseI ?_
        walk_at "kn"
        exact c_mkO (raised i (rd_bad BB (by omega) hall hR) _ N.af)
    · clear N
      rintro σ H1 ⟨_, _, _, _, rfl, N, hall⟩
      have hall : ∀ i, i < t.length → isR t i b = true := fun i hi => hall i (by omega)
      walk_at "kn"
      refine g_lenT (by omega) ?_
      walk_at "kn"
      refine c_ifd (fun c => ?_) (fun c => ?_)
      · walk_at "kn"
        refine k_raiseI ?_
        walk_at "kn"
        refine g_lenT (by omega) ?_
        walk_at "kn"
        exact c_mkO (raised t.length (rd_end BB hl hall (by omega)) _ N.af)
      · have hlt : b + 1 < t.length := by omega
        obtain ⟨f1, f2, f3, f4, f5, f6⟩ := rd_fin (m := m) (w := w) BB hall hlt
        walk_at "kn"
        have gd : ∀ i, i < t.length → t[i]? = some (t.getD i 0) := fun i hi => by rw [List.getD_eq_getElem?_getD, List.getElem?_eq_getElem hi]; rfl
        refine g_ixS (by omega) (show atI t ((b : Int) + 1) = some (t.getD (b + 1) 0) from atI_nat (j := b + 1) (gd _ hlt)) ?_
        walk_at "kn"
        refine g_eqTx rfl lit_dash ?_
        refine e_bl (c_ifEP (R := fun v H2 => ∃ p, v = .ref p ∧ Now K none [] H H2 [⟨true, p, .lst ((bitsOf (t.drop (b + 1))).map V.int)⟩] [(st, StV m w l a)]) (fun c Q' q => ?_) (fun c Q' q => ?_) ?_)
        · have c : t.getD (b + 1) 0 = 45 := by simpa using of_decide_eq_true c
          walk_at "kn"
          rename_i p H2 N2
          exact q _ _ ⟨p, rfl, by rw [f5 c]; exact N2⟩
        · have c : t.getD (b + 1) 0 ≠ 45 := fun z => of_decide_eq_false c (by rw [z])
          obtain ⟨f7, f8⟩ := f6 c
          have lr : (t.drop (b + 1)).length ≤ 90 := by rw [List.length_drop]; omega
          refine k_lcS ?_
          walk_at "kn"
          refine g_slS (by omega) ?_
          rw [show ((b : Int) + 1) = ((b + 1 : Nat) : Int) from rfl, cutT_drop]
          generalize t.drop (b + 1) = r at *
          refine c_lcS N (fun i acc => acc = ((r.take i).map fun (c : Nat) => V.int ((c : Int) - 48))) rfl (fun _ => rfl) (fun i c Dd H3 acc hc N3 re => ?_) (fun p H3 acc N3 re => ?_)
          · have c01 := f8 c (List.mem_of_getElem? hc)
            have la : acc.length ≤ 90 := by
              rw [re, List.length_map, List.length_take]
              omega
            walk_at "kn"
            refine g_intS (by rcases c01 with rfl | rfl <;> rfl) (by simp) (by simp) ?_
            refine c_put N3 (by omega) ?_
            show acc ++ [_] = _
            rw [re, List.take_add_one, hc, List.map_append, val_one c01]
            rfl
          · rw [List.take_length] at re
            subst re
            refine q _ _ ⟨p, rfl, ?_⟩
            rw [f7, List.map_map]
            exact N3
        · rintro v H2 ⟨p, rfl, N2⟩
          have b01s : ∀ x ∈ bitsOf (t.drop (b + 1)), x = 0 ∨ x = 1 := fun x hx => by
            by_cases c : t.getD (b + 1) 0 = 45
            · rw [f5 c] at hx
              cases hx
            · obtain ⟨f7, f8⟩ := f6 c
              rw [f7] at hx
              obtain ⟨y, hy, rfl⟩ := List.mem_map.mp hx
              rcases f8 y hy with rfl | rfl <;> simp
          have lb : (bitsOf (t.drop (b + 1))).length ≤ 90 := by
            unfold bitsOf
            rw [List.length_map]
            refine Nat.le_trans (List.length_filter_le _ _) ?_
            rw [List.length_drop]
            omega
          have ne : t.take b ≠ [] := fun z => by
            have := congrArg List.length z
            rw [List.length_take, List.length_nil] at this
            omega
          have lt : (t.take b).length ≤ 90 := by rw [List.length_take]; omega
          clear N
          walk_at "kn"
          refine g_slS (by omega) ?_
          rw [cutT_take]
          generalize bitsOf (t.drop (b + 1)) = bs at *
          generalize t.take b = hd at *
          walk_at "kn"
          refine g_intS f4 ne (by omega) ?_
          walk_at "kn"
          rename_i q1 H3 N3 q2 H4 N4
          generalize NumText.digitsVal hd = n at *
          refine ⟨st, q2, q1, m, w, l, a, (n : Int), bs, rfl, N4.tup 2 rfl, N4.tup 0 rfl, N4.tup 1 rfl, by omega, fun z H5 A5 => ?_, fun z H5 A5 => ?_, fun z H5 A5 => ?_⟩
          · have e : rd m w t = .ok n bs := by
              rw [f1]
              unfold finO
              rw [if_neg (by omega), if_pos z.2.1]
            have N5 := N4.pure A5
            walk_at "kn"
            exact ko n bs e q2 q1 _ N5.af (N5.tup 0 rfl) (N5.tup 1 rfl)
          · have e : rd m w t = .mark := by
              rw [f1]
              unfold finO
              rw [if_pos (by omega)]
            exact km e _ (N4.pure A5).af
          · have e : rd m w t = .bits := by
              rw [f1]
              unfold finO
              rw [if_neg (by omega), if_neg fun y => z.2 ⟨y, b01s⟩]
            exact kw e _ (N4.pure A5).af
end
/-! ### the reader here -/
theorem inV_01 {c : Nat} : inV (.str (tx [c])) [.str "0", .str "1"] = b01 c := by
  have h0 : ("0" : Str) = tx [48] := lit_zero
  have h1 : ("1" : Str) = tx [49] := lit_one
  rw [h0, h1]
  have e : ∀ d : Nat, eqV (.str (tx [d])) (.str (tx [c])) = decide (c = d) := fun d => by
    by_cases q : c = d
    · subst q
      simp [eqV]
    · have q2 : ¬ d = c := fun z => q z.symm
      simp [eqV, q, q2]
  unfold inV b01
  rw [List.any_cons, List.any_cons, List.any_nil, e, e]
  simp
theorem take_dgs (t : List Nat) : dgs (t.take (np t)) = true := by
  unfold dgs
  refine List.all_eq_true.mpr fun c hc => ?_
  obtain ⟨i, hi, rfl⟩ := List.getElem_of_mem hc
  rw [List.length_take] at hi
  have z := dg_iff.mp (np_dg (t := t) (i := i) (by omega)).1
  rw [List.getD_eq_getElem?_getD, List.getElem?_eq_getElem (by omega)] at z
  rw [List.getElem_take]
  simpa using z
theorem val_oneX {c : Nat} (h : c = 48 ∨ c = 49) : ((NumText.digitsVal [c] : Nat) : Int) = (c : Int) - 48 := by
  rcases h with rfl | rfl <;> rfl
section
variable {P : Program} {w : World} {K : PySem.W.Frag} {mg : Str → Option Value} {base : Heap}
theorem sc_l_due : FnScope ["_law_setting_here", "_law_text", "_law_place", "_law_rest", "_law_k", "_law_bits", "_law_sign"] ["_law_setting_here", "_law_text"] (defScope s_l_due) := ⟨rfl, rfl, rfl, by decide +kernel, rfl, by decide +kernel, by decide +kernel⟩
theorem bd_l_due : Bd "_law_due" "_law_due" s_l_due ["_law_setting_here", "_law_text"] := fun _ _ _ _ _ _ us hl => match us, hl with | [_, _], _ => rfl
def spDue : Sp := fun vs H Q _ => ∃ (st : Addr) (m w l a : Int) (t : List Nat), vs = [.ref st, .str (tx t)] ∧ H st = some (.tup (StV m w l a)) ∧ t.length ≤ 90 ∧
  (∀ p, rd m w t = .bad p → ∀ q H', Aft [] H H' → H' q = some (.tup [.str "text", .int (p : Int)]) → Q (.ref q) H') ∧ (rd m w t = .mark → ∀ q H', Aft [] H H' → H' q = some (.tup [.str "mark"]) → Q (.ref q) H') ∧ (rd m w t = .bits → ∀ q H', Aft [] H H' → H' q = some (.tup [.str "bits"]) → Q (.ref q) H') ∧
  (∀ n bs, rd m w t = .ok n bs → bs.length ≤ 90 → ∀ q b H', Aft [] H H' → H' q = some (.tup [.int (n : Int), .ref b]) → H' b = some (.tup (bs.map V.int)) → Q (.ref q) H')
theorem ok_due (F : Def K mg "_law_due" s_l_due) (B : Bt mg) : Cal P w K mg base CX0 1 "_law_due" ["_law_setting_here", "_law_text"] spDue := by
  refine F.ok sc_l_due bd_l_due (fun vs H Q E h => ?_) (fun f cdv A outer s H vs Q E hr h => ?_)
  · obtain ⟨st, m, w, l, a, t, rfl, _⟩ := h
    rfl
  · obtain ⟨st, m, w, l, a, t, rfl, ht, hl, kb, km, kw, ko⟩ := h
    refine ⟨_, PSs.nox (pss_cons (ps_set (i := 2) sc_l_due.nd rfl (by first | exact Or.inl rfl | exact Or.inr rfl) pe_int)
      (pss_cons (ps_while PassesOwn.never (PW.pt (pw_and (pt_cmpR op_lt (pv 2) (pe_callB (cr_min2 rfl) (by rfl) B.m_min (by decide +kernel) (pa_cons pe_int (pa_cons (pe_callB cr_lenT (by rfl) B.m_len (by decide +kernel) (pa_cons (pv 1) pa_nil)) pa_nil))) (nomark _)) (pw_and (pt_cmpR op_inS (pe_ix ix_str (pv 1) (pv 2) (fun _ _ => rfl)) pe_str (by rfl)) (pw_and1 (pt_not (PW.pt (pw_and (pt_cmpR op_eq (pv 2) pe_int (nomark _)) (pw_and1 (pt_cmpR op_eq (pe_ix ix_str (pv 1) pe_int (fun _ _ => rfl)) pe_str (nomark _)))))))))) (pss_one (ps_set (i := 2) sc_l_due.nd rfl (by first | exact Or.inl rfl | exact Or.inr rfl) (pe_op op_add (pv 2) pe_int))))
      (pss_cons (ps_if (PW.pt (pw_or (pt_cmpR op_eq (pv 2) (pe_callB cr_lenT (by rfl) B.m_len (by decide +kernel) (pa_cons (pv 1) pa_nil)) (nomark _)) (pw_or (pt_cmpR op_eq (pv 2) pe_int (nomark _)) (pw_or1 (pt_cmpR op_ne (pe_ix ix_str (pv 1) (pv 2) (fun _ _ => rfl)) pe_str (nomark _)))))) (pss_one (ps_ret (pe_tup (pa_cons pe_str (pa_cons (pv 2) pa_nil))))) pss_nil)
      (pss_cons (ps_if (pt_cmpR op_eq (pv 2) (pe_op op_sub (pe_callB cr_lenT (by rfl) B.m_len (by decide +kernel) (pa_cons (pv 1) pa_nil)) pe_int) (nomark _)) (pss_one (ps_ret (pe_tup (pa_cons pe_str (pa_cons (pe_callB cr_lenT (by rfl) B.m_len (by decide +kernel) (pa_cons (pv 1) pa_nil)) pa_nil))))) pss_nil)
      (pss_cons (ps_set (i := 3) sc_l_due.nd rfl (by first | exact Or.inl rfl | exact Or.inr rfl) (pe_slice sl_str (pv 1) (po_some (pe_op op_add (pv 2) pe_int)) po_none))
      (pss_cons (ps_for PassesOwn.never rfl (pi_range1 (by rfl) B.m_range (pa_cons (pe_callB cr_lenT (by rfl) B.m_len (by decide +kernel) (pa_cons (pv 3) pa_nil)) pa_nil)) (pg_name (i := 4) sc_l_due.nd rfl (by first | exact Or.inl rfl | exact Or.inr rfl))
      (pss_one (ps_if (pt_not (PW.pt (pw_or (PW.pt (pw_and (pt_cmpR (op_in_seqK K rfl) (pe_ix ix_str (pv 3) (pv 4) (fun _ _ => rfl)) (pe_tup (pa_cons pe_str (pa_cons pe_str pa_nil))) (by rfl)) (pw_and1 (pt_cmpR op_ne (pe_ix ix_str (pv 3) pe_int (fun _ _ => rfl)) pe_str (nomark _))))) (pw_or1 (PW.pt (pw_and (pt_cmpR op_eq (pe_ix ix_str (pv 3) (pv 4) (fun _ _ => rfl)) pe_str (nomark _)) (pw_and1 (pt_cmpR op_eq (pv 4) pe_int (nomark _))))))))) (pss_one (ps_ret (pe_tup (pa_cons pe_str (pa_cons (pe_op op_add (pe_op op_add (pv 2) pe_int) (pv 4)) pa_nil))))) pss_nil)))
      (pss_cons (ps_set (i := 5) sc_l_due.nd rfl (by first | exact Or.inl rfl | exact Or.inr rfl) (pe_callTy (cr_tupLK K rfl) (by rfl) B.m_tuple (by decide +kernel) (pa_cons (pe_lc (own := [("_law_sign", 6)]) (g := (gName 6)) rfl sc_l_due.nd (pi_str (pv 3)) (blkOk_by (own := [("_law_sign", 6)]) (N := ["_law_setting_here", "_law_text", "_law_place", "_law_rest", "_law_k", "_law_bits", "_law_sign"]) (sc := defScope s_l_due) (by decide +kernel)) (fun _ _ _ _ _ => (pg_name (i := 6) sc_l_due.nd rfl (by first | exact Or.inl rfl | exact Or.inr rfl))) (fun _ _ _ _ _ => (pts_one (pt_cmpR op_ne (pv 6) pe_str (nomark _)))) (fun _ _ _ _ _ => (pe_callTy cr_intS (by rfl) B.m_int (by decide +kernel) (pa_cons (pv 6) pa_nil)))) pa_nil)))
      (pss_cons (ps_if (pt_cmpR op_ge (pe_callTy cr_intS (by rfl) B.m_int (by decide +kernel) (pa_cons (pe_slice sl_str (pv 1) po_none (po_some (pv 2))) pa_nil)) (pe_ix (ix_tupK K rfl) (pv 0) pe_int (fun _ _ => rfl)) (nomark _)) (pss_one (ps_ret (pe_tup (pa_cons pe_str pa_nil)))) pss_nil)
      (pss_one (ps_ret (pe_ifExp (pt_cmpR op_eq (pe_callB (cr_lnK K rfl) (by rfl) B.m_len (by decide +kernel) (pa_cons (pv 5) pa_nil)) (pe_ix (ix_tupK K rfl) (pv 0) pe_int (fun _ _ => rfl)) (nomark _)) (pe_tup (pa_cons (pe_callTy cr_intS (by rfl) B.m_int (by decide +kernel) (pa_cons (pe_slice sl_str (pv 1) po_none (po_some (pv 2))) pa_nil)) (pa_cons (pv 5) pa_nil))) (pe_tup (pa_cons pe_str pa_nil))))))))))))), ?_⟩
    have N : Now K none [] H H [] [(st, StV m w l a)] := .start0 (by simp [ht])
    have gd : ∀ i, i < t.length → t[i]? = some (t.getD i 0) := fun i hi => by rw [List.getD_eq_getElem?_getD, List.getElem?_eq_getElem hi]; rfl
    have n2 := np_le2 t
    have nl := np_len t
    walk_at "gon"
    refine k_cut (R := fun σ H' => ∃ x3 x4 x5 x6, σ = [some (.ref st), some (.str (tx t)), some (.int ((np t : Nat) : Int)), x3, x4, x5, x6] ∧ Now K none [] H H' [] [(st, StV m w l a)]) ?_ ?_
    · clear N
      rintro σ H1 ⟨_, _, _, _, rfl, N⟩
      have bad1 : ∀ q H', (np t = t.length ∨ np t = 0 ∨ t.getD (np t) 0 ≠ 32) → Aft [] H H' → H' q = some (.tup [.str "text", .int ((np t : Nat) : Int)]) → Q (.ref q) H' := fun q H' h A hq => kb (np t) (by unfold rd; rw [if_pos h]) q H' A hq
      walk_at "kn"
      refine g_lenT (by omega) ?_
      walk_at "kn"
      refine c_or (fun c => ?_) (fun c1 => ?_)
      · have c := of_decide_eq_true c
        walk_at "kn"
        rename_i q H2 N2
        exact bad1 q _ (.inl (by omega)) N2.af (N2.tup 0 rfl)
      have c1 := of_decide_eq_false c1
      walk_at "kn"
      refine c_or (fun c => ?_) (fun c2 => ?_)
      · have c := of_decide_eq_true c
        walk_at "kn"
        rename_i q H2 N2
        exact bad1 q _ (.inr (.inl (by omega))) N2.af (N2.tup 0 rfl)
      have c2 := of_decide_eq_false c2
      walk_at "kn"
      refine g_ixS (by omega) (atI_nat (gd (np t) (by omega))) ?_
      walk_at "kn"
      refine g_neTx rfl lit_blank ?_
      walk_at "kn"
      refine c_ifd (fun c => ?_) (fun c3 => ?_)
      · walk_at "kn"
        rename_i q H2 N2
        exact bad1 q _ (.inr (.inr fun z => c (by rw [z]))) N2.af (N2.tup 0 rfl)
      have c3 : t.getD (np t) 0 = 32 := by simpa using c3
      walk_at "kn"
      refine g_lenT (by omega) ?_
      walk_at "kn"
      refine c_ifd (fun c => ?_) (fun c4 => ?_)
      · walk_at "kn"
        refine g_lenT (by omega) ?_
        walk_at "kn"
        rename_i q H2 N2
        exact kb t.length (by unfold rd; rw [if_neg (by omega), if_pos (by omega)]) q _ N2.af (N2.tup 0 rfl)
      have e0 : rd m w t = match firstBad (t.drop (np t + 1)) with
          | some k => .bad (np t + 1 + k)
          | none => finO m w (NumText.digitsVal (t.take (np t))) (bitsOf (t.drop (np t + 1))) := by
        unfold rd
        rw [if_neg (by omega), if_neg (by omega)] <;> rfl
      have lr : (t.drop (np t + 1)).length ≤ 90 := by rw [List.length_drop]; omega
      have lr0 : 0 < (t.drop (np t + 1)).length := by rw [List.length_drop]; omega
      have ldg := take_dgs t
      have lne : t.take (np t) ≠ [] := fun z => by
        have := congrArg List.length z
        rw [List.length_take, List.length_nil] at this
        omega
      have ll : (t.take (np t)).length ≤ 90 := by rw [List.length_take]; omega
      walk_at "kn"
      refine g_slS (by omega) ?_
      rw [show (((np t : Nat) : Int) + 1) = ((np t + 1 : Nat) : Int) from rfl, cutT_drop]
      clear bad1 c1 c2 c3 c4
      generalize t.drop (np t + 1) = r at *
      have gr : ∀ i, i < r.length → r[i]? = some (r.getD i 0) := fun i hi => by rw [List.getD_eq_getElem?_getD, List.getElem?_eq_getElem hi]; rfl
      walk_at "kn"
      refine g_lenT (by omega) ?_
      walk_at "kn"
      refine c_forR (by omega) (fun i σ H' => ∃ x4 x5 x6, σ = [some (.ref st), some (.str (tx t)), some (.int ((np t : Nat) : Int)), some (.str (tx r)), x4, x5, x6] ∧ Now K none [] H H' [] [(st, StV m w l a)] ∧ ∀ j, j < i → okR r j = true) ⟨_, _, _, rfl, N, by simp⟩ ?_ ?_
      · clear N
        rintro i σ H2 hi ⟨_, _, _, rfl, N, hall⟩
        walk_at "kn"
        refine g_ixS (by omega) (atI_nat (gr i (by omega))) ?_
        walk_at "kn"
        rename_i tp H3 N3
        refine g_inW (r := b01 (r.getD i 0)) (ws := [.str "0", .str "1"]) (.inr (.of (N3.tup 0 rfl))) rfl (by rw [if_neg (by simp), inV_01]) ?_
        walk_at "kn"
        refine c_and' (c := decide (r.getD 0 0 ≠ 45)) (fun Q' q => ?_) ?_
        · walk_at "kn"
          refine g_ixS (by omega) (atI_nat (j := 0) (gr 0 lr0)) ?_
          walk_at "kn"
          refine g_neTx rfl lit_dash ?_
          rw [show decide ([r.getD 0 0] ≠ [45]) = decide (r.getD 0 0 ≠ 45) from decide_eq_decide.mpr (by simp)]
          walk_at "kn"
          exact q
        refine c_or' (c := decide (r.getD i 0 = 45) && decide (i = 0)) (fun Q' q => ?_) ?_
        · walk_at "kn"
          refine g_ixS (by omega) (atI_nat (gr i (by omega))) ?_
          walk_at "kn"
          refine g_eqTx rfl lit_dash ?_
          rw [show decide ([r.getD i 0] = [45]) = decide (r.getD i 0 = 45) from decide_eq_decide.mpr (by simp)]
          walk_at "kn"
          refine c_and' (c := decide (i = 0)) (fun Q2 q2 => ?_) q
          walk_at "kn"
          rw [show decide ((i : Int) = 0) = decide (i = 0) from decide_eq_decide.mpr (by omega)]
          exact q2
        have eo : (b01 (r.getD i 0) && decide (r.getD 0 0 ≠ 45) || (decide (r.getD i 0 = 45) && decide (i = 0))) = okR r i := rfl
        rw [eo]
        cases ho : okR r i with
        | true =>
          walk_at "kn"
          refine ⟨_, _, _, rfl, N3.subT _ (by simp), fun j hj => ?_⟩
          by_cases q : j = i
          · rw [q]
            exact ho
          · exact hall j (by omega)
        | false =>
          walk_at "kn"
          rename_i q H4 N4
          have fb : firstBad r = some i := by
            unfold firstBad
            rw [List.find?_range_eq_some]
            refine ⟨by rw [ho]; rfl, by rw [List.mem_range]; omega, fun j hj => by rw [hall j hj]; rfl⟩
          rw [fb] at e0
          exact kb (np t + 1 + i) e0 q _ N4.af (N4.tup 0 rfl)
      · clear N
        rintro σ H2 ⟨_, _, _, rfl, N, hall⟩
        have hall : ∀ i, i < r.length → okR r i = true := fun i hi => hall i (by omega)
        have fb : firstBad r = none := by
          unfold firstBad
          rw [List.find?_range_eq_none]
          intro k hk
          rw [hall k hk]
          rfl
        rw [fb] at e0
        have sg : ∀ c ∈ r, c = 45 ∨ c = 48 ∨ c = 49 := fun c hc => by
          obtain ⟨i, hi, rfl⟩ := List.getElem_of_mem hc
          have y := hall i hi
          unfold okR at y
          have e1 : r.getD i 0 = r[i] := by rw [List.getD_eq_getElem?_getD, List.getElem?_eq_getElem hi]; rfl
          rw [e1] at y
          simp only [Bool.or_eq_true, Bool.and_eq_true, decide_eq_true_eq] at y
          rcases y with y | y
          · exact .inr (b01_iff.mp y.1)
          · exact .inl y.1
        have blen : ∀ i, (bitsOf (r.take i)).length ≤ 90 := fun i => by
          unfold bitsOf
          rw [List.length_map]
          refine Nat.le_trans (List.length_filter_le _ _) ?_
          rw [List.length_take]
          omega
        walk_at "kn"
        refine k_lcS ?_
        walk_at "kn"
        refine c_lcS N (fun i acc => acc = (bitsOf (r.take i)).map V.int) rfl (fun _ => rfl) (fun i c Dd H3 acc hc N3 re => ?_) (fun p H3 acc N3 re => ?_)
        · have c01 := sg c (List.mem_of_getElem? hc)
          have la := blen i
          have nxt : bitsOf (r.take (i + 1)) = if c = 45 then bitsOf (r.take i) else bitsOf (r.take i) ++ [(c : Int) - 48] := by
            unfold bitsOf
            rw [List.take_add_one, hc, List.filter_append, List.map_append]
            by_cases q : c = 45
            · rw [if_pos q, q]
              simp
            · rw [if_neg q]
              simp [q]
          walk_at "kn"
          refine g_neTx rfl lit_dash ?_
          walk_at "kn"
          refine c_el (fun c2 => ?_) (fun c2 => ?_)
          · have c2 : c ≠ 45 := fun z => of_decide_eq_true c2 (by rw [z])
            have c3 : c = 48 ∨ c = 49 := by omega
            walk_at "kn"
            refine g_intS (by rcases c3 with rfl | rfl <;> rfl) (by simp) (by simp) ?_
            refine c_put N3 (by rw [re, List.length_map]; omega) ?_
            show acc ++ [_] = _
            rw [re, nxt, if_neg c2, List.map_append, val_oneX c3]
            rfl
          · have c2 : c = 45 := by simpa using of_decide_eq_false c2
            refine ⟨acc, N3, ?_⟩
            show acc = _
            rw [re, nxt, if_pos c2]
        · have hb := blen r.length
          rw [List.take_length] at re hb
          subst re
          clear N
          walk_at "kn"
          rename_i q1 H4 N4
          clear N3
          refine g_slS (by omega) ?_
          rw [cutT_take]
          walk_at "kn"
          refine g_intS ldg lne (by omega) ?_
          walk_at "kn"
          refine c_ifd (fun c => ?_) (fun c => ?_)
          · walk_at "kn"
            rename_i q H5 N5
            exact km (by rw [e0]; unfold finO; rw [if_pos c]) q _ N5.af (N5.tup 0 rfl)
          · walk_at "kn"
            have lm : ((bitsOf r).map V.int).length = (bitsOf r).length := List.length_map ..
            rw [lm]
            refine c_ifE (fun c2 => ?_) (fun c2 => ?_)
            · have c2 := of_decide_eq_true c2
              walk_at "kn"
              refine g_slS (by omega) ?_
              rw [cutT_take]
              walk_at "kn"
              refine g_intS ldg lne (by omega) ?_
              walk_at "kn"
              rename_i q H5 N5
              exact ko _ _ (by rw [e0]; unfold finO; rw [if_neg c, if_pos c2]) hb q q1 _ N5.af (N5.tup 0 rfl) (N5.tup 1 rfl)
            · have c2 := of_decide_eq_false c2
              walk_at "kn"
              rename_i q H5 N5
              exact kw (by rw [e0]; unfold finO; rw [if_neg c, if_neg c2]) q _ N5.af (N5.tup 0 rfl)
    · intro nx' fin
      refine k_while (fun i σ H' => ∃ x3 x4 x5 x6, σ = [some (.ref st), some (.str (tx t)), some (.int ((i : Nat) : Int)), x3, x4, x5, x6] ∧ Now K none [] H H' [] [(st, StV m w l a)] ∧ i ≤ np t) 2 ⟨_, _, _, _, rfl, N, Nat.zero_le _⟩ ?_
      clear N
      rintro i σ H1 hi ⟨y3, y4, y5, y6, rfl, N, hin⟩
      walk_at "kn"
      refine g_lenT (by omega) ?_
      walk_at "kn"
      by_cases lt : i < np t
      · obtain ⟨z1, z2, z3⟩ := np_dg lt
        have ilen := dg_in z1
        rw [show decide ((i : Int) < min 2 ((t.length : Nat) : Int)) = true from decide_eq_true (by omega)]
        walk_at "kn"
        refine g_ixS (by omega) (atI_nat (gd i ilen)) ?_
        walk_at "kn"
        refine g_inS rfl lit_figs ?_
        rw [show decide (t.getD i 0 ∈ [48, 49, 50, 51, 52, 53, 54, 55, 56, 57]) = true from z1]
        walk_at "kn"
        have : i = 0 ∨ i = 1 := by omega
        rcases this with rfl | rfl
        · rw [show decide (((0 : Nat) : Int) = 1) = false from rfl]
          walk_at "kn"
          refine c_whT (by omega) ?_
          walk_at "kn"
          exact ⟨_, _, _, _, rfl, N, lt⟩
        · have z2 : t.getD 0 0 ≠ 48 := by
            rcases z2 with z2 | z2
            · cases z2
            · exact z2
          rw [show decide (((1 : Nat) : Int) = 1) = true from rfl]
          walk_at "kn"
          refine g_ixS (by omega) (atI_nat (j := 0) (gd 0 (by omega))) ?_
          walk_at "kn"
          refine g_eqTx rfl lit_zero ?_
          rw [show decide ([t.getD 0 0] = [48]) = false from decide_eq_false (by simpa using z2)]
          walk_at "kn"
          refine c_whT (by omega) ?_
          walk_at "kn"
          exact ⟨_, _, _, _, rfl, N, lt⟩
      · have ei : i = np t := by omega
        subst ei
        have exit : ∀ H', H' = H1 → nx' [some (.ref st), some (.str (tx t)), some (.int ((np t : Nat) : Int)), y3, y4, y5, y6] H' := fun H' e => fin _ _ ⟨_, _, _, _, rfl, by rw [e]; exact N⟩
        refine c_and (fun c => ?_) (fun c => c_whF (exit _ rfl))
        have c := of_decide_eq_true c
        walk_at "kn"
        refine g_ixS (by omega) (atI_nat (gd (np t) (by omega))) ?_
        walk_at "kn"
        refine g_inS rfl lit_figs ?_
        walk_at "kn"
        refine c_and (fun c2 => ?_) (fun c2 => c_whF (exit _ rfl))
        have no := np_no (t := t) (by omega) c2
        have n1 : np t = 1 := by
          by_cases q : np t = 0
          · exact absurd (.inl q) no
          · omega
        have t48 : t.getD 0 0 = 48 := by
          by_cases q : t.getD 0 0 = 48
          · exact q
          · exact absurd (.inr q) no
        walk_at "kn"
        rw [show decide (((np t : Nat) : Int) = 1) = true from decide_eq_true (by omega)]
        walk_at "kn"
        refine g_ixS (by omega) (atI_nat (j := 0) (gd 0 (by omega))) ?_
        walk_at "kn"
        refine g_eqTx rfl lit_zero ?_
        rw [t48]
        walk_at "kn"
        exact c_whF (exit _ rfl)
end
/-! ### what is told, or the word of a refusal and its field -/
def sufOf : List Stmt → List Stmt
  | [.Try _ [.ExceptHandler _ _ b _] _ _ _] => b
  | _ => []
theorem g_isZ {K : PySem.W.Frag} {c1 c2 c3 c4 c5 c6 cb D a : Addr} {d : Option Addr} {n : Nat} {H : Hp} {c : V} {cv : Value} {b : Bool} {Q : VK} (ko : Kof K c1 c2 c3 c4 c5 c6 cb D n) (hd : XDic d H) (hc : ∀ u, RelV c u → u = cv) (hk : PySem.W.kitOne K (.ref D) cv = some b) (q : Q (.bl b) H) : rIsEz K (.ref D) d a [.ref a, c] H Q :=
  ⟨D, c, cv, b, rfl, hd, ko.c, rfl, hc, hk, q⟩
section
variable {c1 c2 c3 c4 c5 c6 cb : Addr}
theorem sc_l_told : FnScope ["_law_work", "e", "_law_kinds", "_law_words", "_law_word"] ["_law_work"] (defScope s_l_told) := ⟨rfl, rfl, rfl, by decide +kernel, rfl, by decide +kernel, by decide +kernel⟩
theorem bd_l_told : Bd "_law_told" "_law_told" s_l_told ["_law_work"] := fun _ _ _ _ _ _ us hl => match us, hl with | [_], _ => rfl
abbrev N_told : List Str := ["_law_work", "e", "_law_kinds", "_law_words", "_law_word"]
theorem told_suite {prog : Program} {w : World} {K : PySem.W.Frag} {mg : Str → Option Value} {base : Heap} {A : Around} {stack : List Env} {s : Shared} {H : Hp} {g : Addr} {cdg : Value} (B : Bt mg) (Kn : Kin mg c1 c2 c3 c4 c5 c6 cb) (KX : KinX K c1 c5 c6) :
    ∃ ts : Addr → Value → Option Addr → TS, (∀ (a : Addr) (oe : Obj) (cls : Value) (d : Option Addr) (pn : List (Addr × Obj)), Zc cls d oe → (∃ vs, oe.data = .fields vs) →
      PSs (Cx.suite (cxOf C8.CX0 prog w K mg base N_told "_law_told" (defScope s_l_told) g cdg A stack s H C8.E0).nox a ((a, oe) :: pn)) (sufOf (defBody s_l_told)) (ts a cls d)) ∧
      ∀ (cls : Value) (d : Option Addr) (a : Addr) (σ : L2.St) (H' : Hp) (E : Ends) (xs : List V), RefX K c1 c2 c3 c4 c5 c6 cb cls d H' xs → σ.length = 5 → (∀ p H'', Aft [] H' H'' → H'' p = some (.tup xs) → E.rt (.ref p) H'') → ts a cls d E (σ.set 1 (some (.ref a))) H' := by
  refine ⟨_, fun a oe cls d pn hz hf => (pss_cons (ps_set (i := 2) sc_l_told.nd rfl (by first | exact Or.inl rfl | exact Or.inr rfl) (pe_lst (pa_cons (pe_callB (call_isEzK K rfl hz hf) (by rfl) B.m_isinstance (by decide +kernel) (pa_cons (pv 1) (pa_cons (pe_gref (by rfl) Kn.g1) pa_nil))) (pa_cons (pe_callB (call_isEzK K rfl hz hf) (by rfl) B.m_isinstance (by decide +kernel) (pa_cons (pv 1) (pa_cons (pe_gref (by rfl) Kn.g2) pa_nil))) (pa_cons (pe_callB (call_isEzK K rfl hz hf) (by rfl) B.m_isinstance (by decide +kernel) (pa_cons (pv 1) (pa_cons (pe_gref (by rfl) Kn.g3) pa_nil))) (pa_cons (pe_callB (call_isEzK K rfl hz hf) (by rfl) B.m_isinstance (by decide +kernel) (pa_cons (pv 1) (pa_cons (pe_gref (by rfl) Kn.g4) pa_nil))) pa_nil))))))
      (pss_cons (ps_set (i := 2) sc_l_told.nd rfl (by first | exact Or.inl rfl | exact Or.inr rfl) (pe_op op_cat (pv 2) (pe_lst (pa_cons (pe_callB (call_isEzK K rfl hz hf) (by rfl) B.m_isinstance (by decide +kernel) (pa_cons (pv 1) (pa_cons (pe_gref (by rfl) Kn.g5) pa_nil))) (pa_cons (pe_callB (call_isEzK K rfl hz hf) (by rfl) B.m_isinstance (by decide +kernel) (pa_cons (pv 1) (pa_cons (pe_gref (by rfl) Kn.g6) pa_nil))) pa_nil)))))
      (pss_cons (ps_set (i := 3) sc_l_told.nd rfl (by first | exact Or.inl rfl | exact Or.inr rfl) (pe_lst (pa_cons pe_str (pa_cons pe_str (pa_cons pe_str (pa_cons pe_str (pa_cons pe_str (pa_cons pe_str pa_nil))))))))
      (pss_cons (ps_if (PW.pt (pw_or (pt_cmpR op_ne (pe_bmK K rfl PySem.F.plainAttrs_list PySem.F.slot_list_count PySem.F.type_list_count (mt_countFK K rfl) (pv 2) (pa_cons pe_bl pa_nil)) pe_int (nomark _)) (pw_or1 (pt_not (pt_val (pe_callB (call_isEzK K rfl hz hf) (by rfl) B.m_isinstance (by decide +kernel) (pa_cons (pv 1) (pa_cons (pe_bltn (v := .ty "ValueError") (by rfl) Kn.ve (by decide +kernel) rfl) pa_nil)))))))) (pss_one (ps_ret (pe_tup (pa_cons pe_str pa_nil)))) pss_nil)
      (pss_cons (ps_set (i := 4) sc_l_told.nd rfl (by first | exact Or.inl rfl | exact Or.inr rfl) (pe_ix (ix_listK K rfl) (pv 3) (pe_bmK K rfl PySem.F.plainAttrs_list PySem.F.slot_list_index PySem.F.type_list_index (mt_indexK K rfl) (pv 2) (pa_cons pe_bl pa_nil)) (fun _ _ => rfl)))
      (pss_cons (ps_if (pt_cmpR op_eq (pv 4) pe_str (nomark _)) (pss_one (ps_ret (pe_tup (pa_cons (pv 4) (pa_cons (pe_xf KX.x1 KX.n1 hz hf (pv 1)) pa_nil))))) pss_nil)
      (pss_cons (ps_if (pt_cmpR op_eq (pv 4) pe_str (nomark _)) (pss_one (ps_ret (pe_tup (pa_cons (pv 4) (pa_cons (pe_xf KX.x5 KX.n5 hz hf (pv 1)) pa_nil))))) pss_nil)
      (pss_one (ps_ret (pe_ifExp (pt_cmpR op_eq (pv 4) pe_str (nomark _)) (pe_tup (pa_cons (pv 4) (pa_cons (pe_xf KX.x6 KX.n6 hz hf (pv 1)) pa_nil))) (pe_tup (pa_cons (pv 4) pa_nil)))))))))))), ?hr⟩
  intro cls d a σ H' E xs hR hlen k
  obtain ⟨D, n, rfl, ko, hR⟩ := hR
  match σ, hlen with
  | [s0, s1, s2, s3, s4], _ =>
    have N : Now K none [] H' H' [] [] := .start0 (by simp)
    rcases hR with ⟨rfl, hn, rfl⟩ | ⟨dd, fs, v, rfl, hdd, rfl, hn⟩
    · have hd : ∀ H'', Aft [] H' H'' → XDic none H'' := fun _ _ => .inl rfl
      rcases hn with rfl | rfl | rfl
      · walk_at "kn"
        refine g_isZ ko (b := false) (hd _ N.af) (fun u h => h) ko.k1 ?_
        walk_at "kn"
        refine g_isZ ko (b := true) (hd _ N.af) (fun u h => h) ko.k2 ?_
        walk_at "kn"
        refine g_isZ ko (b := false) (hd _ N.af) (fun u h => h) ko.k3 ?_
        walk_at "kn"
        refine g_isZ ko (b := false) (hd _ N.af) (fun u h => h) ko.k4 ?_
        walk_at "kn"
        refine g_isZ ko (b := false) (hd _ (Now.af (K := K) (by assumption))) (fun u h => h) ko.k5 ?_
        walk_at "kn"
        refine g_isZ ko (b := false) (hd _ (Now.af (K := K) (by assumption))) (fun u h => h) ko.k6 ?_
        walk_at "kn"
        rename_i p1 H1 N1 p2 H2 N2 p3 H3 N3 p4 H4 N4
        refine g_cntF (n := 1) (ys := [.bl false, .bl true, .bl false, .bl false, .bl false, .bl false]) (.of (N4.cell 1 rfl)) rfl rfl rfl ?_
        walk_at "kn"
        refine c_or (fun c => absurd (of_decide_eq_true c) (by simp)) (fun _ => ?_)
        walk_at "kn"
        refine g_isZ ko (b := true) (hd _ N4.af) (fun u h => h) ko.kv ?_
        walk_at "kn"
        refine g_idx (ys := [.bl false, .bl true, .bl false, .bl false, .bl false, .bl false]) (z := .bl true) 1 (.of (N4.cell 1 rfl)) rfl rfl rfl rfl ?_ ?_
        · intro m z' hm hz
          have : m = 0 := by omega
          rcases this with rfl <;> (cases hz; rfl)
        · walk_at "kn"
          refine k_eqStr (by decide) ?_
          walk_at "kn"
          refine k_eqStr (by decide) ?_
          walk_at "kn"
          refine k_eqStr (by decide) ?_
          walk_at "kn"
          rename_i p5 H5 N5
          exact k p5 H5 N5.af (N5.tup 0 rfl)
      · walk_at "kn"
        refine g_isZ ko (b := false) (hd _ N.af) (fun u h => h) ko.k1 ?_
        walk_at "kn"
        refine g_isZ ko (b := false) (hd _ N.af) (fun u h => h) ko.k2 ?_
        walk_at "kn"
        refine g_isZ ko (b := true) (hd _ N.af) (fun u h => h) ko.k3 ?_
        walk_at "kn"
        refine g_isZ ko (b := false) (hd _ N.af) (fun u h => h) ko.k4 ?_
        walk_at "kn"
        refine g_isZ ko (b := false) (hd _ (Now.af (K := K) (by assumption))) (fun u h => h) ko.k5 ?_
        walk_at "kn"
        refine g_isZ ko (b := false) (hd _ (Now.af (K := K) (by assumption))) (fun u h => h) ko.k6 ?_
        walk_at "kn"
        rename_i p1 H1 N1 p2 H2 N2 p3 H3 N3 p4 H4 N4
        refine g_cntF (n := 1) (ys := [.bl false, .bl false, .bl true, .bl false, .bl false, .bl false]) (.of (N4.cell 1 rfl)) rfl rfl rfl ?_
        walk_at "kn"
        refine c_or (fun c => absurd (of_decide_eq_true c) (by simp)) (fun _ => ?_)
        walk_at "kn"
        refine g_isZ ko (b := true) (hd _ N4.af) (fun u h => h) ko.kv ?_
        walk_at "kn"
        refine g_idx (ys := [.bl false, .bl false, .bl true, .bl false, .bl false, .bl false]) (z := .bl true) 2 (.of (N4.cell 1 rfl)) rfl rfl rfl rfl ?_ ?_
        · intro m z' hm hz
          have : m = 0 ∨ m = 1 := by omega
          rcases this with rfl | rfl <;> (cases hz; rfl)
        · walk_at "kn"
          refine k_eqStr (by decide) ?_
          walk_at "kn"
          refine k_eqStr (by decide) ?_
          walk_at "kn"
          refine k_eqStr (by decide) ?_
          walk_at "kn"
          rename_i p5 H5 N5
          exact k p5 H5 N5.af (N5.tup 0 rfl)
      · walk_at "kn"
        refine g_isZ ko (b := false) (hd _ N.af) (fun u h => h) ko.k1 ?_
        walk_at "kn"
        refine g_isZ ko (b := false) (hd _ N.af) (fun u h => h) ko.k2 ?_
        walk_at "kn"
        refine g_isZ ko (b := false) (hd _ N.af) (fun u h => h) ko.k3 ?_
        walk_at "kn"
        refine g_isZ ko (b := true) (hd _ N.af) (fun u h => h) ko.k4 ?_
        walk_at "kn"
        refine g_isZ ko (b := false) (hd _ (Now.af (K := K) (by assumption))) (fun u h => h) ko.k5 ?_
        walk_at "kn"
        refine g_isZ ko (b := false) (hd _ (Now.af (K := K) (by assumption))) (fun u h => h) ko.k6 ?_
        walk_at "kn"
        rename_i p1 H1 N1 p2 H2 N2 p3 H3 N3 p4 H4 N4
        refine g_cntF (n := 1) (ys := [.bl false, .bl false, .bl false, .bl true, .bl false, .bl false]) (.of (N4.cell 1 rfl)) rfl rfl rfl ?_
        walk_at "kn"
        refine c_or (fun c => absurd (of_decide_eq_true c) (by simp)) (fun _ => ?_)
        walk_at "kn"
        refine g_isZ ko (b := true) (hd _ N4.af) (fun u h => h) ko.kv ?_
        walk_at "kn"
        refine g_idx (ys := [.bl false, .bl false, .bl false, .bl true, .bl false, .bl false]) (z := .bl true) 3 (.of (N4.cell 1 rfl)) rfl rfl rfl rfl ?_ ?_
        · intro m z' hm hz
          have : m = 0 ∨ m = 1 ∨ m = 2 := by omega
          rcases this with rfl | rfl | rfl <;> (cases hz; rfl)
        · walk_at "kn"
          refine k_eqStr (by decide) ?_
          walk_at "kn"
          refine k_eqStr (by decide) ?_
          walk_at "kn"
          refine k_eqStr (by decide) ?_
          walk_at "kn"
          rename_i p5 H5 N5
          exact k p5 H5 N5.af (N5.tup 0 rfl)
    · have hd : ∀ H'', Aft [] H' H'' → XDic (some dd) H'' := fun H'' A => .inr ⟨dd, fs, rfl, A.k _ _ hdd (by simp)⟩
      rcases hn with ⟨rfl, rfl, hv⟩ | ⟨rfl, rfl, hv⟩ | ⟨rfl, rfl, hv⟩
      · walk_at "kn"
        refine g_isZ ko (b := true) (hd _ N.af) (fun u h => h) ko.k1 ?_
        walk_at "kn"
        refine g_isZ ko (b := false) (hd _ N.af) (fun u h => h) ko.k2 ?_
        walk_at "kn"
        refine g_isZ ko (b := false) (hd _ N.af) (fun u h => h) ko.k3 ?_
        walk_at "kn"
        refine g_isZ ko (b := false) (hd _ N.af) (fun u h => h) ko.k4 ?_
        walk_at "kn"
        refine g_isZ ko (b := false) (hd _ (Now.af (K := K) (by assumption))) (fun u h => h) ko.k5 ?_
        walk_at "kn"
        refine g_isZ ko (b := false) (hd _ (Now.af (K := K) (by assumption))) (fun u h => h) ko.k6 ?_
        walk_at "kn"
        rename_i p1 H1 N1 p2 H2 N2 p3 H3 N3 p4 H4 N4
        refine g_cntF (n := 1) (ys := [.bl true, .bl false, .bl false, .bl false, .bl false, .bl false]) (.of (N4.cell 1 rfl)) rfl rfl rfl ?_
        walk_at "kn"
        refine c_or (fun c => absurd (of_decide_eq_true c) (by simp)) (fun _ => ?_)
        walk_at "kn"
        refine g_isZ ko (b := true) (hd _ N4.af) (fun u h => h) ko.kv ?_
        walk_at "kn"
        refine g_idx (ys := [.bl true, .bl false, .bl false, .bl false, .bl false, .bl false]) (z := .bl true) 0 (.of (N4.cell 1 rfl)) rfl rfl rfl rfl ?_ ?_
        · intro m z' hm hz
          omega
        · walk_at "kn"
          refine k_xf ?_
          walk_at "kn"
          refine g_xf (N4.af.k _ _ hdd (by simp)) hv ?_
          walk_at "kn"
          rename_i p5 H5 N5
          exact k p5 H5 N5.af (N5.tup 0 rfl)
      · walk_at "kn"
        refine g_isZ ko (b := false) (hd _ N.af) (fun u h => h) ko.k1 ?_
        walk_at "kn"
        refine g_isZ ko (b := false) (hd _ N.af) (fun u h => h) ko.k2 ?_
        walk_at "kn"
        refine g_isZ ko (b := false) (hd _ N.af) (fun u h => h) ko.k3 ?_
        walk_at "kn"
        refine g_isZ ko (b := false) (hd _ N.af) (fun u h => h) ko.k4 ?_
        walk_at "kn"
        refine g_isZ ko (b := true) (hd _ (Now.af (K := K) (by assumption))) (fun u h => h) ko.k5 ?_
        walk_at "kn"
        refine g_isZ ko (b := false) (hd _ (Now.af (K := K) (by assumption))) (fun u h => h) ko.k6 ?_
        walk_at "kn"
        rename_i p1 H1 N1 p2 H2 N2 p3 H3 N3 p4 H4 N4
        refine g_cntF (n := 1) (ys := [.bl false, .bl false, .bl false, .bl false, .bl true, .bl false]) (.of (N4.cell 1 rfl)) rfl rfl rfl ?_
        walk_at "kn"
        refine c_or (fun c => absurd (of_decide_eq_true c) (by simp)) (fun _ => ?_)
        walk_at "kn"
        refine g_isZ ko (b := true) (hd _ N4.af) (fun u h => h) ko.kv ?_
        walk_at "kn"
        refine g_idx (ys := [.bl false, .bl false, .bl false, .bl false, .bl true, .bl false]) (z := .bl true) 4 (.of (N4.cell 1 rfl)) rfl rfl rfl rfl ?_ ?_
        · intro m z' hm hz
          have : m = 0 ∨ m = 1 ∨ m = 2 ∨ m = 3 := by omega
          rcases this with rfl | rfl | rfl | rfl <;> (cases hz; rfl)
        · walk_at "kn"
          refine k_eqStr (by decide) ?_
          walk_at "kn"
          refine k_xf ?_
          walk_at "kn"
          refine g_xf (N4.af.k _ _ hdd (by simp)) hv ?_
          walk_at "kn"
          rename_i p5 H5 N5
          exact k p5 H5 N5.af (N5.tup 0 rfl)
      · walk_at "kn"
        refine g_isZ ko (b := false) (hd _ N.af) (fun u h => h) ko.k1 ?_
        walk_at "kn"
        refine g_isZ ko (b := false) (hd _ N.af) (fun u h => h) ko.k2 ?_
        walk_at "kn"
        refine g_isZ ko (b := false) (hd _ N.af) (fun u h => h) ko.k3 ?_
        walk_at "kn"
        refine g_isZ ko (b := false) (hd _ N.af) (fun u h => h) ko.k4 ?_
        walk_at "kn"
        refine g_isZ ko (b := false) (hd _ (Now.af (K := K) (by assumption))) (fun u h => h) ko.k5 ?_
        walk_at "kn"
        refine g_isZ ko (b := true) (hd _ (Now.af (K := K) (by assumption))) (fun u h => h) ko.k6 ?_
        walk_at "kn"
        rename_i p1 H1 N1 p2 H2 N2 p3 H3 N3 p4 H4 N4
        refine g_cntF (n := 1) (ys := [.bl false, .bl false, .bl false, .bl false, .bl false, .bl true]) (.of (N4.cell 1 rfl)) rfl rfl rfl ?_
        walk_at "kn"
        refine c_or (fun c => absurd (of_decide_eq_true c) (by simp)) (fun _ => ?_)
        walk_at "kn"
        refine g_isZ ko (b := true) (hd _ N4.af) (fun u h => h) ko.kv ?_
        walk_at "kn"
        refine g_idx (ys := [.bl false, .bl false, .bl false, .bl false, .bl false, .bl true]) (z := .bl true) 5 (.of (N4.cell 1 rfl)) rfl rfl rfl rfl ?_ ?_
        · intro m z' hm hz
          have : m = 0 ∨ m = 1 ∨ m = 2 ∨ m = 3 ∨ m = 4 := by omega
          rcases this with rfl | rfl | rfl | rfl | rfl <;> (cases hz; rfl)
        · walk_at "kn"
          refine k_eqStr (by decide) ?_
          walk_at "kn"
          refine k_eqStr (by decide) ?_
          walk_at "kn"
          refine k_xf ?_
          walk_at "kn"
          refine g_xf (N4.af.k _ _ hdd (by simp)) hv ?_
          walk_at "kn"
          rename_i p5 H5 N5
          exact k p5 H5 N5.af (N5.tup 0 rfl)
end
section
variable {c1 c2 c3 c4 c5 c6 cb : Addr}
theorem told_gives {X : Cx} (B : Bt X.mg) (Kn : Kin X.mg c1 c2 c3 c4 c5 c6 cb) (KX : KinX X.K c1 c5 c6) {g : Addr} {cdg : Value} {q : Str} : LamX.GivesTo X N_told "_law_told" (defScope s_l_told) g cdg (defBody s_l_told) "_law_work" q (TToldX X.K c1 c2 c3 c4 c5 c6 cb) := by
  obtain ⟨prog, w, K, mg, base, A, N, s_0, H_0, env, outer, stack, ex, fn, calm, pn0, xe0⟩ := X
  replace Kn : Kin mg c1 c2 c3 c4 c5 c6 cb := Kn
  replace B : Bt mg := B
  replace KX : KinX K c1 c5 c6 := KX
  intro f c' s H Q tl act hc h
  obtain ⟨ts, hs1, hs2⟩ := told_suite (prog := prog) (w := w) (K := K) (base := base) (A := A) (stack := stack) (s := s) (H := H) (g := g) (cdg := cdg) B Kn KX
  refine ⟨_, pss_one (ps_try_as (X := (cxOf C8.CX0 prog w K mg base N_told "_law_told" (defScope s_l_told) g cdg A stack s H C8.E0).nox) (x := "BitsError") (n := "e") (c := .ref cb) (i := 1) (ts := ts)
      (tb := fun W D σ H => ∃ Ech : XK, (∀ cls d σ' H', Ech cls d H' → σ'.length = 5 → W cls d σ' H') ∧ σ[0]? = some (some (.ref f)) ∧ H c' = some (LamX.CodeO c' q) ∧ tl Ech H D.rt) (Wout := fun _ _ _ _ => False)
      rfl rfl sc_l_told.nd rfl rfl ⟨rfl, by decide, .inl Kn.gb⟩ LamX.takes0 (fun W pn xe tk _ => ?_) hs1), ?_⟩
  · refine ⟨fun pins s' σ H' D I h' => ?_⟩
    obtain ⟨Ech, hW, h1, h2, h3⟩ := h'
    exact (pss_one (ps_ret (act _ pn xe Ech _ _ (takes_len tk) hW))).run pins s' σ H' D I ⟨h1, h2, h3⟩
  · refine ⟨_, fun cls d σ' H' h hl => ?_, rfl, hc, h⟩
    obtain ⟨xs, hR, k⟩ := h
    obtain ⟨D, n, e1, ko, hR'⟩ := id hR
    subst e1
    exact ⟨true, ko.m, fun _ a _ => hs2 (.ref D) d a σ' H' _ xs hR hl k, fun z => by cases z⟩
end
/-! ### some text of at most so many signs -/
def TxB (n : Nat) (v : V) : Prop := ∃ t : List Nat, v = .str (tx t) ∧ t.length ≤ n
theorem tx_of (z : Str) : z = tx z.cps.toList := by
  obtain ⟨⟨l⟩⟩ := z
  rfl
theorem txb_lit {n : Nat} (z : Str) (h : z.cps.size ≤ n) : TxB n (.str z) := ⟨z.cps.toList, by rw [← tx_of], by rw [Array.length_toList]; exact h⟩
section
variable {K : PySem.W.Frag} {H : Hp} {Q : VK} {p : Addr} {xs : List V} {i : Int} {z : Str} {n : Nat}
theorem g_ixAny {R : V → Prop} (h : SqL K H p xs) (hi : 0 ≤ i ∧ i < xs.length) (hR : ∀ v ∈ xs, R v) (q : ∀ v, R v → Q v H) : rIxL K (.ref p) (.int i) H Q := by
  have lt : i.toNat < xs.length := by omega
  exact g_ixL h (at_of (show i = (i.toNat : Int) by omega) (List.getElem?_eq_getElem lt)) (q _ (hR _ (List.getElem_mem lt)))
theorem g_ixLit (hz : z.cps.size = n) (hn : n ≤ 1000) (hi : 0 ≤ i ∧ i < (n : Int)) (q : ∀ c, Q (.str (tx [c])) H) : rIxS (.str z) (.int i) H Q := by
  have e := tx_of z
  have l : z.cps.toList.length = n := by rw [Array.length_toList]; exact hz
  rw [e]
  obtain ⟨j, rfl⟩ : ∃ j : Nat, i = (j : Int) := ⟨i.toNat, by omega⟩
  have lt : j < z.cps.toList.length := by omega
  exact g_ixS (by omega) (atI_nat (List.getElem?_eq_getElem lt)) (q _)
end
theorem dp_one {K : PySem.W.Frag} {H : Hp} {t : Addr} {z : Str} (h1 : H t = some (.tup [.str z])) : Dp K H (.ref t) (.tuple [.str z]) := .tup (.of h1) (.cons (.str z) .nil)
theorem dOk_num {m : Nat} (i : Int) : dOk m (.int i) := by cases m <;> trivial
theorem dOk_str {m : Nat} (z : Str) : dOk m (.str z) := by cases m <;> trivial
theorem dOk_one {m : Nat} {z : Str} : dOk (m + 1) (.tuple [.str z]) := by
  refine ⟨by simp, fun d hd => ?_⟩
  cases List.mem_singleton.mp hd
  exact dOk_str _
theorem dp_num {K : PySem.W.Frag} {H : Hp} {t : Addr} {z : Str} {i : Int} (h1 : H t = some (.tup [.str z, .int i])) : Dp K H (.ref t) (.tuple [.str z, .int i]) := .tup (.of h1) (.cons (.str z) (.cons (.int i) .nil))
theorem dOk_wnum {m : Nat} {z : Str} {i : Int} : dOk (m + 1) (.tuple [.str z, .int i]) := by
  refine ⟨by simp, fun d hd => ?_⟩
  simp only [List.mem_cons, List.not_mem_nil, or_false] at hd
  rcases hd with rfl | rfl
  · exact dOk_str _
  · exact dOk_num _
theorem dp_tell {K : PySem.W.Frag} {H : Hp} {t b : Addr} {n : Int} {bs : List Int} (h1 : H t = some (.tup [.int n, .ref b])) (h2 : H b = some (.tup (bs.map V.int))) : Dp K H (.ref t) (.tuple [.int n, .tuple (bs.map PyData.int)]) :=
  .tup (.of h1) (.cons (.int n) (.cons (.tup (.of h2) (dpa_ints bs)) .nil))
theorem dOk_tell {n : Int} {bs : List Int} (h : bs.length ≤ 100) : dOk 3 (.tuple [.int n, .tuple (bs.map PyData.int)]) := by
  refine ⟨by simp, fun d hd => ?_⟩
  simp only [List.mem_cons, List.not_mem_nil, or_false] at hd
  rcases hd with rfl | rfl
  · exact dOk_num _
  · exact (dOk_ints (m := 1) (ns := bs) (by omega)).2
section
variable {P : Program} {w : World} {K : PySem.W.Frag} {mg : Str → Option Value} {base : Heap} {TP c1 c2 c3 c4 c5 c6 cb : Addr}
theorem sc_law : FnScope ["_law_script", "_law_d", "_law_turn", "_law_setting_here", "_law_mark", "_law_bits", "_law_k", "_law_text", "_law_bit", "_law_told_here", "_law_bad", "_law_change", "_law_at", "_law_every", "_law_sign", "_law_way"] ["_law_script"] (defScope s_law) := ⟨rfl, rfl, rfl, by decide +kernel, rfl, by decide +kernel, by decide +kernel⟩
theorem bd_law : Bd "law" "law" s_law ["_law_script"] := fun _ _ _ _ _ _ us hl => match us, hl with | [_], _ => rfl
def spLaw (K : PySem.W.Frag) (TP : Addr) : Sp := fun vs H Q _ => ∃ (a : Addr) (ns : List Int), vs = [.ref a] ∧ SqL K H a (ns.map V.int) ∧ ns.length ≤ 63 ∧ H TP = some (.tbl #[]) ∧ ∀ H', Q (.bl true) H'
theorem ok_law {f : Addr} {fd : FuncData} (F : FunD K "law" "law" (defArgs s_law) (defBody s_law) (defScope s_law) [] [] f fd) (B : Bt mg) (Kn : Kin mg c1 c2 c3 c4 c5 c6 cb) (KX : KinX K c1 c5 c6) (ko2 : Kof K c1 c2 c3 c4 c5 c6 cb c2 2) (ko3 : Kof K c1 c2 c3 c4 c5 c6 cb c3 3) (ko6 : Kof K c1 c2 c3 c4 c5 c6 cb c6 6) (HTB : ∀ c, fd.code = .ref c → LamX.TabB base mg c TP) (FT : Def K mg "_law_told" s_l_told)
    (c_l_dice : Cal P w K mg base CX0 1 "_law_dice" ["_law_script"] (spDice K)) (c_l_next : Cal P w K mg base CX0 1 "_law_next" ["_law_dice_here", "_law_many"] (spNext K)) (c_l_setting : Cal P w K mg base CX0 2 "_law_setting" ["_law_d"] (spSetting K)) (c_l_like : Cal P w K mg base CX0 5 "_law_like" ["_law_found", "_law_due_here"] (spLike K 4))
    (c_written : Cal P w K mg base CX0 3 "written" ["setting", "told"] spWritten) (c_read : Cal P w K mg base (L2.CX P w) 3 "read" ["setting", "text"] (spRead c2 c3 c6)) (c_l_due : Cal P w K mg base CX0 1 "_law_due" ["_law_setting_here", "_law_text"] spDue) : FnOk P w K mg base CX0 12 f fd ["_law_script"] (spLaw K TP) := by
  refine okC F sc_law (fun vs H Q E h => ?_) (fun c A outer s H vs Q E hcode hr h => ?_)
  · obtain ⟨a, ns, rfl, _⟩ := h
    rfl
  · obtain ⟨sc, ns, rfl, hS, hl, hTP, k⟩ := h
    have TB := HTB c hcode
    obtain ⟨gT, fdT, FT, hmT⟩ := FT.ex
    obtain ⟨ocT, odT, dVT, kVT, docT, pmT, anT, cdvT, ctT, oslT, rfl, lkT, hcT, _, _⟩ := id FT.ex
    have KT := FT.kp
    have bT := FT.bindsN bd_l_told
    refine law_core (q := (envOfC "law" (defScope s_law) s.heap.objs.size f (.ref c)).qual ++ "<lambda>") (PSs.nox (pss_cons (ps_set (i := 1) sc_law.nd rfl (by first | exact Or.inl rfl | exact Or.inr rfl) (pe_cal c_l_dice (hr.mono (by decide)) pass0 (pa_cons (pv 0) pa_nil)))
      (pss_cons (ps_for PassesOwn.never rfl (pi_range1 (by rfl) B.m_range (pa_cons pe_int pa_nil)) (pg_name (i := 2) sc_law.nd rfl (by first | exact Or.inl rfl | exact Or.inr rfl))
      (pss_cons (ps_set (i := 3) sc_law.nd rfl (by first | exact Or.inl rfl | exact Or.inr rfl) (pe_cal c_l_setting (hr.mono (by decide)) pass0 (pa_cons (pv 1) pa_nil)))
      (pss_cons (ps_set (i := 4) sc_law.nd rfl (by first | exact Or.inl rfl | exact Or.inr rfl) (pe_cal c_l_next (hr.mono (by decide)) pass0 (pa_cons (pv 1) (pa_cons (pe_ix (ix_tupK K rfl) (pv 3) pe_int (fun _ _ => rfl)) pa_nil))))
      (pss_cons (ps_setLc (i := 5) (own := [("_law_k", 6)]) (g := (gName 6)) rfl sc_law.nd rfl rfl (sw_true rfl rfl rfl (by decide +kernel)) (pi_range1 (by rfl) B.m_range (pa_cons (pe_ix (ix_tupK K rfl) (pv 3) pe_int (fun _ _ => rfl)) pa_nil)) (blkOk_by (own := [("_law_k", 6)]) (N := ["_law_script", "_law_d", "_law_turn", "_law_setting_here", "_law_mark", "_law_bits", "_law_k", "_law_text", "_law_bit", "_law_told_here", "_law_bad", "_law_change", "_law_at", "_law_every", "_law_sign", "_law_way"]) (sc := defScope s_law) (by decide +kernel)) (fun _ _ _ _ _ => (pg_name (i := 6) sc_law.nd rfl (by first | exact Or.inl rfl | exact Or.inr rfl))) (fun _ _ _ _ _ => pts_nil) (fun _ _ _ _ _ => (pe_cal c_l_next (hr.mono (by decide)) pass0 (pa_cons (pv 1) (pa_cons pe_int pa_nil)))))
      (pss_cons (ps_set (i := 7) sc_law.nd rfl (by first | exact Or.inl rfl | exact Or.inr rfl) (pe_op op_addT (pe_op op_addT (pe_callTy cr_strI (by rfl) B.m_str (by decide +kernel) (pa_cons (pv 4) pa_nil)) pe_str) (pe_ifExp (pt_cmpR (op_neDK K rfl hr.units) (pv 5) (pe_lst pa_nil) (nomark _)) (pe_joinK K rfl pe_str (pe_lc (own := [("_law_bit", 8)]) (g := (gName 8)) rfl sc_law.nd (pi_listK K rfl (pv 5)) (blkOk_by (own := [("_law_bit", 8)]) (N := ["_law_script", "_law_d", "_law_turn", "_law_setting_here", "_law_mark", "_law_bits", "_law_k", "_law_text", "_law_bit", "_law_told_here", "_law_bad", "_law_change", "_law_at", "_law_every", "_law_sign", "_law_way"]) (sc := defScope s_law) (by decide +kernel)) (fun _ _ _ _ _ => (pg_name (i := 8) sc_law.nd rfl (by first | exact Or.inl rfl | exact Or.inr rfl))) (fun _ _ _ _ _ => pts_nil) (fun _ _ _ _ _ => (pe_callTy cr_strI (by rfl) B.m_str (by decide +kernel) (pa_cons (pv 8) pa_nil))))) pe_str)))
      (pss_cons (ps_set (i := 9) sc_law.nd rfl (by first | exact Or.inl rfl | exact Or.inr rfl) (pe_tup (pa_cons (pv 4) (pa_cons (pe_callTy (cr_tupLK K rfl) (by rfl) B.m_tuple (by decide +kernel) (pa_cons (pv 5) pa_nil)) pa_nil))))
      (pss_cons (ps_if (PW.pt (pw_or (pt_not (pt_val (pe_cal c_l_like (hr.mono (by decide)) pass0 (pa_cons (pe_cal c_written (hr.mono (by decide)) pass0 (pa_cons (pv 3) (pa_cons (pv 9) pa_nil))) (pa_cons (pv 7) pa_nil))))) (pw_or1 (pt_not (pt_val (pe_cal c_l_like (hr.mono (by decide)) pass0 (pa_cons (pe_cal c_read (hr.mono (by decide)) (passes_call LamX.takes0 (fun _ _ _ _ h => h)) (pa_cons (pv 3) (pa_cons (pv 7) pa_nil))) (pa_cons (pv 9) pa_nil)))))))) (pss_one (ps_ret pe_bl)) pss_nil)
      (pss_cons (ps_set (i := 10) sc_law.nd rfl (by first | exact Or.inl rfl | exact Or.inr rfl) (pe_ix (ix_listK K rfl) (pe_lst (pa_cons pe_str (pa_cons pe_str (pa_cons pe_str (pa_cons pe_str (pa_cons pe_str (pa_cons pe_str (pa_cons pe_str (pa_cons pe_str (pa_cons pe_str (pa_cons pe_str (pa_cons pe_str (pa_cons (pv 7) pa_nil))))))))))))) (pe_callB (cr_min2 rfl) (by rfl) B.m_min (by decide +kernel) (pa_cons pe_int (pa_cons (pe_cal c_l_next (hr.mono (by decide)) pass0 (pa_cons (pv 1) (pa_cons pe_int pa_nil))) pa_nil))) (fun _ _ => rfl)))
      (pss_cons (ps_for PassesOwn.never rfl (pi_range1 (by rfl) B.m_range (pa_cons (pe_cal c_l_next (hr.mono (by decide)) pass0 (pa_cons (pv 1) (pa_cons pe_int pa_nil))) pa_nil)) (pg_name (i := 11) sc_law.nd rfl (by first | exact Or.inl rfl | exact Or.inr rfl))
      (pss_cons (ps_set (i := 12) sc_law.nd rfl (by first | exact Or.inl rfl | exact Or.inr rfl) (pe_cal c_l_next (hr.mono (by decide)) pass0 (pa_cons (pv 1) (pa_cons (pe_op op_add (pe_callB cr_lenT (by rfl) B.m_len (by decide +kernel) (pa_cons (pv 10) pa_nil)) pe_int) pa_nil))))
      (pss_cons (ps_set (i := 13) sc_law.nd rfl (by first | exact Or.inl rfl | exact Or.inr rfl) pe_str)
      (pss_cons (ps_set (i := 14) sc_law.nd rfl (by first | exact Or.inl rfl | exact Or.inr rfl) (pe_ix (ix_listK K rfl) (pe_lst (pa_cons (pe_ix ix_str pe_str (pe_cal c_l_next (hr.mono (by decide)) pass0 (pa_cons (pv 1) (pa_cons pe_int pa_nil))) (fun _ _ => rfl)) (pa_cons (pe_ix ix_str (pv 13) (pe_cal c_l_next (hr.mono (by decide)) pass0 (pa_cons (pv 1) (pa_cons pe_int pa_nil))) (fun _ _ => rfl)) pa_nil))) (pe_cal c_l_next (hr.mono (by decide)) pass0 (pa_cons (pv 1) (pa_cons pe_int pa_nil))) (fun _ _ => rfl)))
      (pss_cons (ps_set (i := 15) sc_law.nd rfl (by first | exact Or.inl rfl | exact Or.inr rfl) (pe_cal c_l_next (hr.mono (by decide)) pass0 (pa_cons (pv 1) (pa_cons pe_int pa_nil))))
      (pss_one (ps_set (i := 10) sc_law.nd rfl (by first | exact Or.inl rfl | exact Or.inr rfl) (pe_op op_addT (pe_op op_addT (pe_slice sl_str (pv 10) po_none (po_some (pv 12))) (pe_ix (ix_listK K rfl) (pe_lst (pa_cons pe_str (pa_cons (pv 14) (pa_cons (pv 14) pa_nil)))) (pv 15) (fun _ _ => rfl))) (pe_slice sl_str (pv 10) (po_some (pe_op op_add (pv 12) (pe_callTy cr_intB (by rfl) B.m_int (by decide +kernel) (pa_cons (pe_cmpR op_lt (pv 15) pe_int (nomark _)) pa_nil)))) po_none)))))))))
      (pss_cons (ps_if (pt_not (pt_val (pe_cal c_l_like (hr.mono (by decide)) pass0 (pa_cons (LamX.pe_lamcall (k := 6) (T := [(TP, _)]) (by rfl) hmT KT lkT hcT bT sc_l_told rfl (Or.inl rfl) (told_gives B Kn KX) TB rfl (List.mem_singleton.mpr rfl) (fun p hp _ => congrArg Prod.snd (List.mem_singleton.mp hp)) (hr.mono (by decide)) (show LamX.LamS (defScope s_law) _ from LamX.lamS_by (by decide +kernel)) rfl (fun _ _ _ _ _ => rfl) (fun A outer s H E f c hr2 => (pe_cal c_read (hr2.mono (by decide)) (passes_call (takes_of rfl rfl rfl rfl) (fun _ _ _ _ h => h)) (pa_cons (pv 3) (pa_cons (pv 10) pa_nil))))) (pa_cons (pe_cal c_l_due (hr.mono (by decide)) pass0 (pa_cons (pv 3) (pa_cons (pv 10) pa_nil))) pa_nil))))) (pss_one (ps_ret pe_bl)) pss_nil)
      (pss_one (ps_if (pt_not (pt_val (pe_cal c_l_like (hr.mono (by decide)) pass0 (pa_cons (pe_cal c_read (hr.mono (by decide)) (passes_call LamX.takes0 (fun _ _ _ _ h => h)) (pa_cons (pv 3) (pa_cons (pv 7) pa_nil))) (pa_cons (pv 9) pa_nil))))) (pss_one (ps_ret pe_bl)) pss_nil))))))))))))
      (pss_one (ps_ret pe_bl))))) hS hTP (fun H Z D _ hSc hTZ kk => ?_) k
    walk_at "gon"
    refine ⟨sc, ns, rfl, hSc, hl, fun d H1 A1 hd D1 => ?_⟩
    have Z1 : TZ _ Z H1 := hTZ.aft0 A1
    have N1 : Now K (some d) [d] H1 H1 [] [] := .startD D1 (by simp)
    clear hTZ
    walk_at "kn"
    refine c_forR (by decide) (fun i σ H' => ∃ (x2 x3 x4 x5 x6 x7 x8 x9 x10 x11 x12 x13 x14 x15 : Option V), σ = [some (.ref sc), some (.ref d), x2, x3, x4, x5, x6, x7, x8, x9, x10, x11, x12, x13, x14, x15] ∧ Now K (some d) [d] H' H' [] [] ∧ TZ [(TP, (envOfC "law" (defScope s_law) s.heap.objs.size f (.ref c)).qual ++ "<lambda>")] Z H') ⟨_, _, _, _, _, _, _, _, _, _, _, _, _, _, rfl, N1, Z1⟩ ?_ ?_
    · clear N1 Z1
      rintro i σ H7 hi ⟨_, _, _, _, _, _, _, _, _, _, _, _, _, _, rfl, N0, Zn⟩
      walk_at "kn"
      refine ⟨d, rfl, (N0.dc d rfl).1, fun st m w l a H3 A3 D3 ht hok => ?_⟩
      have hok' := hok
      unfold OkS at hok'
      have N1 := (N0.roll A3 D3).moreT ht
      walk_at "kn"
      rename_i mk H4 N4 b1 b2
      refine c_lcR N4 (by omega) (fun k acc => ∃ zs : List Int, acc = zs.map V.int ∧ zs.length = k ∧ ∀ x ∈ zs, x = 0 ∨ x = 1) ⟨[], rfl, rfl, by simp⟩ (fun _ => rfl) (fun k Dd H2 acc hk N2 r => ?_) (fun p H2 acc N2 r => ?_)
      · obtain ⟨zs, rfl, hz, h01⟩ := r
        walk_at "kn"
        rename_i v4 H3 N3 c7 c8
        refine c_put N3 (by rw [List.length_map]; omega) ⟨zs ++ [v4], by rw [List.map_append]; rfl, by rw [List.length_append, hz]; rfl, fun x hx => ?_⟩
        rcases List.mem_append.mp hx with z | z
        · exact h01 x z
        · rw [List.mem_singleton.mp z]
          omega
      · obtain ⟨bs, rfl, hz, h01⟩ := r
        have hbl : (bs.length : Int) = w := by omega
        clear N4 N1
        walk_at "kn"
        refine g_strI (by omega) ?_
        walk_at "kn"
        have nl := numL_len (n := mk.toNat) (by omega)
        refine g_addT (a := TL.numL mk.toNat) (b := [32]) (by simp; omega) rfl lit_blank ?_
        walk_at "kn"
        rename_i ep H5 N5
        refine g_neL (m := bs) (n := []) (.of (N5.cell 1 rfl)) (.of (N5.cell 0 rfl)) ?_
        refine e_bl (c_ifEP (R := fun v H6 => v = .str (tx (if bs = [] then [45] else codes bs)) ∧ Now K (some d) [d] H7 H6 [⟨true, p, .lst (bs.map V.int)⟩] [(st, StV m w l a)]) (fun c Q' q => ?_) (fun c Q' q => ?_) ?_)
        · have c := of_decide_eq_true c
          rw [if_neg c] at q
          refine k_m1 ?_
          walk_at "kn"
          refine k_m1s ?_
          walk_at "kn"
          refine c_lc N5 (bs.map V.int) (fun i acc => acc = (codes (bs.take i)).map fun c => V.str (tx [c])) rfl (fun H' Dd acc N' => .of (N'.cell 2 rfl)) (fun _ => rfl) (fun i x Dd H3 acc hx N3 r => ?_) (fun p2 H3 acc N3 r => ?_) (.of (N5.cell 1 rfl))
          · rw [List.getElem?_map] at hx
            obtain ⟨z, hz, rfl⟩ := Option.map_eq_some_iff.mp hx
            have z01 := h01 z (List.mem_of_getElem? hz)
            have la : acc.length ≤ bs.length := by
              rw [r, List.length_map]
              unfold codes
              rw [List.length_map, List.length_take]
              omega
            walk_at "kn"
            refine g_strI (by omega) ?_
            rw [TL.numL_lt (by omega)]
            refine c_put N3 (by omega) ?_
            show acc ++ [V.str (tx [48 + z.toNat])] = _
            rw [r]
            unfold codes
            rw [List.take_add_one, hz, List.map_append, List.map_append]
            rfl
          · rw [List.length_map, List.take_length] at r
            subst r
            have lc : (codes bs).length = bs.length := List.length_map ..
            refine g_join lit_empty (.of (N3.cell 0 rfl)) (by omega) ?_
            exact q _ _ ⟨rfl, N3.sel [2] rfl (by decide)⟩
        · have c := Decidable.not_not.mp (of_decide_eq_false c)
          rw [if_pos c] at q
          walk_at "kn"
          exact q _ _ ⟨by rw [lit_dash], N5.sel [1] rfl (by decide)⟩
        · rintro v H6 ⟨rfl, N6⟩
          clear N5 N2
          have tl17 : (if bs = [] then [45] else codes bs).length ≤ 17 := by
            split
            · simp
            · have lc : (codes bs).length = bs.length := List.length_map ..
              omega
          refine g_addT (a := TL.numL mk.toNat ++ [32]) (b := if bs = [] then [45] else codes bs) (by simp only [List.length_append, List.length_cons, List.length_nil]; omega) rfl rfl ?_
          have ew : TL.numL mk.toNat ++ [32] ++ (if bs = [] then [45] else codes bs) = wrT mk.toNat bs := by
            unfold wrT
            rw [List.append_assoc]
          rw [ew]
          have emk : ((mk.toNat : Nat) : Int) = mk := by omega
          have hrd : rd m w (wrT mk.toNat bs) = .ok mk.toNat bs := rd_wr (by omega) (by omega) hbl h01
          have hlt : (wrT mk.toNat bs).length ≤ 20 := wrT_len (by omega) (by omega)
          have hwr : ∀ {x : List Nat}, x = wrT mk.toNat bs → x = wrT mk.toNat bs := id
          clear tl17 ew nl
          walk_at "kn"
          rename_i b H8 N8 q H9 N9
          clear N8 N6
          refine ⟨st, q, b, m, w, l, a, mk, bs, rfl, N9.tup 2 rfl, hok, N9.tup 0 rfl, N9.tup 1 rfl, ⟨b1, b2⟩, hbl, h01, fun H10 A10 => ?_⟩
          have N10 := N9.pure A10
          clear N9
          generalize wrT mk.toNat bs = tt at *
          walk_at "kn"
          refine g_like (d := .str (tx tt)) (.str _) (.str _) (dOk_str (m := 3) _) fun H11 A11 => ?_
          have N11 := N10.pure A11
          clear N10
          walk_at "kn"
          have good : ∀ {H0 H' : Hp} {M : List Addr} {cs : List Cel} {Q' : VK} {E' : XK}, Now K (some d) M H0 H' cs [(q, [.int mk, .ref b]), (b, bs.map V.int), (st, StV m w l a)] → (∀ (q2 b2 : Addr) H'', Now K (some d) M H0 H'' cs ((q2, [.int mk, .ref b2]) :: (b2, bs.map V.int) :: [(q, [.int mk, .ref b]), (b, bs.map V.int), (st, StV m w l a)]) → Q' (.ref q2) H'') → spRead c2 c3 c6 [.ref st, .str (tx tt)] H' Q' E' := fun {H0 H' M cs Q' E'} N kq => by
            refine ⟨st, m, w, l, a, tt, rfl, N.tup 2 rfl, hok, by omega, fun p e => ?_, fun e => ?_, fun e => ?_, fun n bs' e q2 b2 H'' A hq hb => ?_⟩
            · rw [hrd] at e
              cases e
            · rw [hrd] at e
              cases e
            · rw [hrd] at e
              cases e
            · rw [hrd] at e
              cases e
              rw [emk] at hq
              exact kq q2 b2 H'' (((N.pure A).moreT hb).moreT hq)
          refine good N11 fun q2 b2 H12 N12 => ?_
          clear N11
          walk_at "kn"
          refine g_like (dp_tell (N12.tup 0 rfl) (N12.tup 1 rfl)) (dp_tell (N12.tup 2 rfl) (N12.tup 3 rfl)) (dOk_tell (by omega)) fun H13 A13 => ?_
          have N13 := (N12.pure A13).subT [(q, [.int mk, .ref b]), (b, bs.map V.int), (st, StV m w l a)] (by simp)
          clear N12
          walk_at "kn"
          rename_i ml H14 N14 v5 H15 N15 b3 b4
          clear N14 N13
          refine g_ixAny (R := TxB 20) (.of (N15.cell 0 rfl)) (by show 0 ≤ min 11 v5 ∧ min 11 v5 < 12; omega) (fun v hv => ?_) (fun v ⟨t0, e, hl0⟩ => ?_)
          · simp only [List.mem_cons, List.not_mem_nil, or_false] at hv
            rcases hv with rfl | rfl | rfl | rfl | rfl | rfl | rfl | rfl | rfl | rfl | rfl | rfl
            all_goals first | exact txb_lit _ (by decide +kernel) | exact ⟨tt, rfl, by omega⟩
          subst e
          have N16 : Now K (some d) [d] H7 H15 [] [(q, [.int mk, .ref b]), (b, bs.map V.int), (st, StV m w l a)] := N15.sub [] (by simp) (by simp)
          clear N15
          walk_at "kn"
          rename_i v6 H17 N17 b5 b6
          clear N16
          refine c_forR (by omega) (fun j σ H' => ∃ (t0 : List Nat) (x6 x8 x11 x12 x13 x14 x15 : Option V), σ = [some (.ref sc), some (.ref d), some (.int (i : Int)), some (.ref st), some (.int mk), some (.ref p), x6, some (.str (tx tt)), x8, some (.ref q), some (.str (tx t0)), x11, x12, x13, x14, x15] ∧ t0.length ≤ 20 + j ∧ Now K (some d) [d] H7 H' [] [(q, [.int mk, .ref b]), (b, bs.map V.int), (st, StV m w l a)]) ⟨t0, _, _, _, _, _, _, _, rfl, by omega, N17⟩ ?_ ?_
          · clear N17 hl0
            rintro j σ H18 hj ⟨t0, _, _, _, _, _, _, _, rfl, hl0, N⟩
            walk_at "kn"
            refine g_lenT (by omega) ?_
            walk_at "kn"
            rename_i at0 H19 N19 d1 d2 iv H19b N19b d3 d4
            clear N N19
            obtain ⟨n0, rfl⟩ : ∃ n0 : Nat, at0 = (n0 : Int) := ⟨at0.toNat, by omega⟩
            refine g_ixLit (n := 11) (by decide +kernel) (by decide) (by omega) fun ch1 => ?_
            walk_at "kn"
            refine g_ixLit (n := 92) (by decide +kernel) (by decide) (by omega) fun ch2 => ?_
            walk_at "kn"
            rename_i g1 H20 N20 g2 H21 N21 d7 d8
            clear N20 N19b
            refine g_ixAny (R := fun v => ∃ c : Nat, v = .str (tx [c])) (.of (N21.cell 0 rfl)) (by show 0 ≤ g2 ∧ g2 < 2; omega) (fun v hv => ?_) (fun v ⟨ch, e⟩ => ?_)
            · simp only [List.mem_cons, List.not_mem_nil, or_false] at hv
              rcases hv with rfl | rfl
              · exact ⟨_, rfl⟩
              · exact ⟨_, rfl⟩
            subst e
            walk_at "kn"
            rename_i way H22 N22 d9 d10
            clear N21
            refine g_slS (by omega) ?_
            rw [cutT_take]
            walk_at "kn"
            rename_i g3 H23 N23
            clear N22
            refine g_ixAny (R := TxB 1) (.of (N23.cell 0 rfl)) (by show 0 ≤ way ∧ way < 3; omega) (fun v hv => ?_) (fun v ⟨mid, e, hmid⟩ => ?_)
            · simp only [List.mem_cons, List.not_mem_nil, or_false] at hv
              rcases hv with rfl | rfl | rfl
              · exact txb_lit _ (by decide +kernel)
              · exact ⟨_, rfl, by simp⟩
              · exact ⟨_, rfl, by simp⟩
            subst e
            have lt0 : (t0.take n0).length ≤ n0 := by rw [List.length_take]; omega
            refine g_addT (a := t0.take n0) (b := mid) (by omega) rfl rfl ?_
            walk_at "kn"
            obtain ⟨n1, en1, hn1⟩ : ∃ n1 : Nat, (n0 : Int) + (if decide (way < 2) = true then 1 else 0) = (n1 : Int) ∧ n0 ≤ n1 := by
              split
              · exact ⟨n0 + 1, rfl, by omega⟩
              · exact ⟨n0, by omega, by omega⟩
            rw [en1]
            walk_at "kn"
            refine g_slS (by omega) ?_
            rw [cutT_drop]
            have lt1 : (t0.drop n1).length ≤ t0.length - n0 := by rw [List.length_drop]; omega
            refine g_addT (a := t0.take n0 ++ mid) (b := t0.drop n1) (by rw [List.length_append]; omega) rfl rfl ?_
            walk_at "kn"
            refine ⟨t0.take n0 ++ mid ++ t0.drop n1, _, _, _, _, _, _, _, rfl, ?_, N23.sub [] (by simp) (by simp)⟩
            rw [List.length_append, List.length_append]
            omega
          · clear N17 hl0
            rintro σ H18 ⟨t0, _, _, _, _, _, _, _, rfl, hl0, N⟩
            refine k_seq (k_cut (R := fun σ H' => ∃ (x6 x8 x10 x11 x12 x13 x14 x15 : Option V), σ = [some (.ref sc), some (.ref d), some (.int (i : Int)), some (.ref st), some (.int mk), some (.ref p), x6, some (.str (tx tt)), x8, some (.ref q), x10, x11, x12, x13, x14, x15] ∧ Now K (some d) [d] H' H' [] [(q, [.int mk, .ref b]), (b, bs.map V.int), (st, StV m w l a)] ∧ TZ [(TP, (envOfC "law" (defScope s_law) s.heap.objs.size f (.ref c)).qual ++ "<lambda>")] Z H') ?_ ?_)
            · clear N
              rintro σ H19 ⟨_, _, _, _, _, _, _, _, rfl, N, Zn⟩
              walk_at "kn"
              refine good N fun q2 b2 H20 N20 => ?_
              walk_at "kn"
              refine g_like (dp_tell (N20.tup 0 rfl) (N20.tup 1 rfl)) (dp_tell (N20.tup 2 rfl) (N20.tup 3 rfl)) (dOk_tell (by omega)) fun H21 A21 => ?_
              have N21 := (N20.pure A21).subT [] (by simp)
              clear N20
              walk_at "kn"
              exact ⟨_, _, _, _, _, _, _, _, _, _, _, _, _, _, rfl, N21.reb, Zn.aft N (by simp) N21.af⟩
            · intro nx' fin
              walk_at "kn"
              have Z3 := Zn.aft N0 (by simp) N.af
              refine k_lam Z3.t fun H19 eN T19 => k_toldx ?_
              have N19 := N.extN eN
              have Z4 := Z3.ext eN T19
              have N19' := N19
              clear N Z3
              walk_at "kn"
              refine ⟨st, m, w, l, a, t0, rfl, N19.tup 2 rfl, hok, by omega, fun p e dd H20 A20 hdd => ?_, fun e H20 A20 => ?_, fun e H20 A20 => ?_, fun n bs' e q2 b2 H20 A20 hq hb => ?_⟩
              · refine ⟨[.str "text", .int (p : Int)], ⟨c6, 6, rfl, ko6, .inr ⟨dd, _, .int (p : Int), rfl, hdd, rfl, .inr (.inr ⟨rfl, rfl, rfl⟩)⟩⟩, fun q3 H21 A21 hq3 => ?_⟩
                have N21 := ((N19.pure A20).pure A21).moreT hq3
                clear N19
                walk_at "kn"
                refine ⟨st, m, w, l, a, t0, rfl, N21.tup 3 rfl, by omega, fun p2 e2 q4 H22 A22 hq4 => ?_, fun e2 => ?_, fun e2 => ?_, fun n2 bs2 e2 => ?_⟩
                · rw [e] at e2
                  cases e2
                  have N22 := (N21.pure A22).moreT hq4
                  clear N21
                  walk_at "kn"
                  refine g_like (dp_num (N22.tup 1 rfl)) (dp_num (N22.tup 0 rfl)) (dOk_wnum (m := 2)) fun H23 A23 => ?_
                  have N23 := (N22.pure A23).subT [(q, [.int mk, .ref b]), (b, bs.map V.int), (st, StV m w l a)] (by simp)
                  clear N22
                  walk_at "kn"
                  exact fin _ _ ⟨_, _, _, _, _, _, _, _, rfl, N23.reb, Z4.aft N19' (by simp) N23.af⟩
                all_goals
                  rw [e] at e2
                  cases e2
              · refine ⟨[.str "mark"], ⟨c2, 2, rfl, ko2, .inl ⟨rfl, .inl rfl, rfl⟩⟩, fun q3 H21 A21 hq3 => ?_⟩
                have N21 := ((N19.pure A20).pure A21).moreT hq3
                clear N19
                walk_at "kn"
                refine ⟨st, m, w, l, a, t0, rfl, N21.tup 3 rfl, by omega, fun p2 e2 => ?_, fun e2 q4 H22 A22 hq4 => ?_, fun e2 => ?_, fun n2 bs2 e2 => ?_⟩
                · rw [e] at e2
                  cases e2
                · have N22 := (N21.pure A22).moreT hq4
                  clear N21
                  walk_at "kn"
                  refine g_like (dp_one (N22.tup 1 rfl)) (dp_one (N22.tup 0 rfl)) (dOk_one (m := 2)) fun H23 A23 => ?_
                  have N23 := (N22.pure A23).subT [(q, [.int mk, .ref b]), (b, bs.map V.int), (st, StV m w l a)] (by simp)
                  clear N22
                  walk_at "kn"
                  exact fin _ _ ⟨_, _, _, _, _, _, _, _, rfl, N23.reb, Z4.aft N19' (by simp) N23.af⟩
                · rw [e] at e2
                  cases e2
                · rw [e] at e2
                  cases e2
              · refine ⟨[.str "bits"], ⟨c3, 3, rfl, ko3, .inl ⟨rfl, .inr (.inl rfl), rfl⟩⟩, fun q3 H21 A21 hq3 => ?_⟩
                have N21 := ((N19.pure A20).pure A21).moreT hq3
                clear N19
                walk_at "kn"
                refine ⟨st, m, w, l, a, t0, rfl, N21.tup 3 rfl, by omega, fun p2 e2 => ?_, fun e2 => ?_, fun e2 q4 H22 A22 hq4 => ?_, fun n2 bs2 e2 => ?_⟩
                · rw [e] at e2
                  cases e2
                · rw [e] at e2
                  cases e2
                · have N22 := (N21.pure A22).moreT hq4
                  clear N21
                  walk_at "kn"
                  refine g_like (dp_one (N22.tup 1 rfl)) (dp_one (N22.tup 0 rfl)) (dOk_one (m := 2)) fun H23 A23 => ?_
                  have N23 := (N22.pure A23).subT [(q, [.int mk, .ref b]), (b, bs.map V.int), (st, StV m w l a)] (by simp)
                  clear N22
                  walk_at "kn"
                  exact fin _ _ ⟨_, _, _, _, _, _, _, _, rfl, N23.reb, Z4.aft N19' (by simp) N23.af⟩
                · rw [e] at e2
                  cases e2
              · have N21 := ((N19.pure A20).moreT hb).moreT hq
                clear N19
                walk_at "kn"
                refine ⟨st, m, w, l, a, t0, rfl, N21.tup 4 rfl, by omega, fun p2 e2 => ?_, fun e2 => ?_, fun e2 => ?_, fun n2 bs2 e2 hl2 q4 b4 H22 A22 hq4 hb4 => ?_⟩
                · rw [e] at e2
                  cases e2
                · rw [e] at e2
                  cases e2
                · rw [e] at e2
                  cases e2
                · rw [e] at e2
                  cases e2
                  have N22 := ((N21.pure A22).moreT hb4).moreT hq4
                  clear N21
                  walk_at "kn"
                  refine g_like (dp_tell (N22.tup 2 rfl) (N22.tup 3 rfl)) (dp_tell (N22.tup 0 rfl) (N22.tup 1 rfl)) (dOk_tell (by omega)) fun H23 A23 => ?_
                  have N23 := (N22.pure A23).subT [(q, [.int mk, .ref b]), (b, bs.map V.int), (st, StV m w l a)] (by simp)
                  clear N22
                  walk_at "kn"
                  exact fin _ _ ⟨_, _, _, _, _, _, _, _, rfl, N23.reb, Z4.aft N19' (by simp) N23.af⟩
    · clear N1 Z1
      rintro σ H7 ⟨_, _, _, _, _, _, _, _, _, _, _, _, _, _, rfl, N0, Zn⟩
      walk_at "kn"
      exact kk _ Zn.z
end
theorem facts {P : Program} {w : World} {K : PySem.W.Frag} {h : Heap} {mg : Str → Option Value} {f : Addr} (X : K.In h) (G : h.Ns mainGlobals mg) (hfa : mg ("law" : Str) = some (.ref f)) (cx : xb K = true) (c : He.SaysD fa fn K) :
    ∃ fd : FuncData, (∀ (s : Shared) (v : Value), BindsTo s fd ⟨[v], []⟩ [("_law_script", v)]) ∧ ∀ base : Heap, K.In base → base.Ns mainGlobals mg → LamX.TabB base mg (He.cT K ("law", none)).1 (He.cT K ("law", none)).2 → FnOk P w K mg base CX0 12 f fd ["_law_script"] (spLaw K (He.cT K ("law", none)).2) := by
  have F_l_dice : Def K mg "_law_dice" s_l_dice := by
    obtain ⟨fd, F⟩ := c.def_ 0 (d := d_l_dice) rfl
    exact ⟨_, fd, F, He.glo_ok X G (c.fact 0 (f := .glo "_law_dice") rfl)⟩
  have F_l_next : Def K mg "_law_next" s_l_next := by
    obtain ⟨fd, F⟩ := c.def_ 1 (d := d_l_next) rfl
    exact ⟨_, fd, F, He.glo_ok X G (c.fact 1 (f := .glo "_law_next") rfl)⟩
  have F_need_setting : Def K mg "need_setting" s_need_setting := by
    obtain ⟨fd, F⟩ := c.def_ 2 (d := d_need_setting) rfl
    exact ⟨_, fd, F, He.glo_ok X G (c.fact 2 (f := .glo "need_setting") rfl)⟩
  have F_need_mark : Def K mg "need_mark" s_need_mark := by
    obtain ⟨fd, F⟩ := c.def_ 3 (d := d_need_mark) rfl
    exact ⟨_, fd, F, He.glo_ok X G (c.fact 3 (f := .glo "need_mark") rfl)⟩
  have F_need_bits : Def K mg "need_bits" s_need_bits := by
    obtain ⟨fd, F⟩ := c.def_ 4 (d := d_need_bits) rfl
    exact ⟨_, fd, F, He.glo_ok X G (c.fact 4 (f := .glo "need_bits") rfl)⟩
  have F_l_like : Def K mg "_law_like" s_l_like := by
    obtain ⟨fd, F⟩ := c.def_ 5 (d := d_l_like) rfl
    exact ⟨_, fd, F, He.glo_ok X G (c.fact 5 (f := .glo "_law_like") rfl)⟩
  have F_written : Def K mg "written" s_written := by
    obtain ⟨fd, F⟩ := c.def_ 6 (d := d_written) rfl
    exact ⟨_, fd, F, He.glo_ok X G (c.fact 6 (f := .glo "written") rfl)⟩
  have F_is_right : Def K mg "is_right" s_is_right := by
    obtain ⟨fd, F⟩ := c.def_ 7 (d := d_is_right) rfl
    exact ⟨_, fd, F, He.glo_ok X G (c.fact 7 (f := .glo "is_right") rfl)⟩
  have F_read : Def K mg "read" s_read := by
    obtain ⟨fd, F⟩ := c.def_ 8 (d := d_read) rfl
    exact ⟨_, fd, F, He.glo_ok X G (c.fact 8 (f := .glo "read") rfl)⟩
  have F_BadText_init : DefX K mg (He.ga K "BadText") "BadText" "BadText.__init__" s_BadText_init := by
    obtain ⟨fd, F⟩ := c.def_ 9 (d := d_BadText_init) rfl
    exact ⟨⟨_, fd, F, He.meth_ok (c.fact 32 (f := .meth "BadText" "__init__") rfl)⟩, He.glo_ok X G (c.fact 31 (f := .glo "BadText") rfl)⟩
  have F_l_setting : Def K mg "_law_setting" s_l_setting := by
    obtain ⟨fd, F⟩ := c.def_ 10 (d := d_l_setting) rfl
    exact ⟨_, fd, F, He.glo_ok X G (c.fact 9 (f := .glo "_law_setting") rfl)⟩
  have F_l_due : Def K mg "_law_due" s_l_due := by
    obtain ⟨fd, F⟩ := c.def_ 11 (d := d_l_due) rfl
    exact ⟨_, fd, F, He.glo_ok X G (c.fact 10 (f := .glo "_law_due") rfl)⟩
  have F_l_told : Def K mg "_law_told" s_l_told := by
    obtain ⟨fd, F⟩ := c.def_ 12 (d := d_l_told) rfl
    exact ⟨_, fd, F, He.glo_ok X G (c.fact 11 (f := .glo "_law_told") rfl)⟩
  obtain ⟨fdL, F_law⟩ := c.def_ 13 (d := d_law) rfl
  cases hfa.symm.trans (He.glo_ok X G (c.fact 12 (f := .glo "law") rfl))
  have B : Bt mg := ⟨He.free_ok X G (c.fact 13 (f := .free "len") rfl), He.free_ok X G (c.fact 14 (f := .free "int") rfl), He.free_ok X G (c.fact 15 (f := .free "isinstance") rfl), He.free_ok X G (c.fact 16 (f := .free "range") rfl), He.free_ok X G (c.fact 17 (f := .free "sorted") rfl), He.free_ok X G (c.fact 18 (f := .free "list") rfl), He.free_ok X G (c.fact 19 (f := .free "tuple") rfl), He.free_ok X G (c.fact 20 (f := .free "max") rfl), He.free_ok X G (c.fact 21 (f := .free "min") rfl), He.free_ok X G (c.fact 22 (f := .free "set") rfl), He.free_ok X G (c.fact 23 (f := .free "str") rfl), He.free_ok X G (c.fact 24 (f := .free "enumerate") rfl), He.free_ok X G (c.fact 25 (f := .free "bool") rfl), He.free_ok X G (c.fact 26 (f := .free "dict") rfl)⟩
  unfold xb at cx
  obtain ⟨cx_LEAST, cx⟩ := He.ba cx
  obtain ⟨cx_MOST, cx⟩ := He.ba cx
  obtain ⟨ck_BadMark, cx⟩ := He.ba cx
  obtain ⟨ck_BadBits, cx⟩ := He.ba cx
  obtain ⟨co_BadMark, cx⟩ := He.ba cx
  obtain ⟨co_BadBits, cx⟩ := He.ba cx
  obtain ⟨co_BadText, cx⟩ := He.ba cx
  obtain ⟨cy_base, cx⟩ := He.ba cx
  obtain ⟨cy_kx, cx⟩ := He.ba cx
  have cy_oex := cx
  have Kn : Kin mg (He.ga K "BadSetting") (He.ga K "BadMark") (He.ga K "BadBits") (He.ga K "Full") (He.ga K "BadEvent") (He.ga K "BadText") (He.ga K "BitsError") := ⟨He.glo_ok X G (c.fact 33 (f := .glo "BadSetting") rfl), He.glo_ok X G (c.fact 34 (f := .glo "BadMark") rfl), He.glo_ok X G (c.fact 35 (f := .glo "BadBits") rfl), He.glo_ok X G (c.fact 36 (f := .glo "Full") rfl), He.glo_ok X G (c.fact 37 (f := .glo "BadEvent") rfl), He.glo_ok X G (c.fact 38 (f := .glo "BadText") rfl), He.glo_ok X G (c.fact 39 (f := .glo "BitsError") rfl), He.free_ok X G (c.fact 40 (f := .free "ValueError") rfl)⟩
  have T_BadMark : ExK K mg "BadMark" (He.ga K "BadMark") := exKB_ok Kn.g2 ck_BadMark
  have T_BadBits : ExK K mg "BadBits" (He.ga K "BadBits") := exKB_ok Kn.g3 ck_BadBits
  have ko_BadMark := kofB_ok co_BadMark
  have ko_BadBits := kofB_ok co_BadBits
  have ko_BadText := kofB_ok co_BadText
  have BI : BaseI K mg "BitsError" (He.ga K "BitsError") := baseIB_ok Kn.gb cy_base
  have KX := kinXB_ok cy_kx
  have OX := oexB_ok cy_oex
  have htab : ∀ c', fdL.code = .ref c' → (He.cT K ("law", none)).1 = c' := fun c' e => by
    obtain ⟨oc, od, dV, kV, doc, pm, an, cdv, ct, osl, hfd, lk, _, _, _⟩ := id F_law.ex
    exact He.codeOf_eq lk e
  have g_FIGURES := He.str_ok X G (c.fact 29 (f := .str "FIGURES" "0123456789") rfl)
  have g_NONE := He.str_ok X G (c.fact 30 (f := .str "NONE" "-") rfl)
  have C_LEAST : Cst K mg "LEAST" (He.ga K "LEAST") [.int 2, .int 0, .int 0, .int 1] := ⟨He.glo_ok X G (c.fact 27 (f := .glo "LEAST") rfl), fun H => He.tupB_ok cx_LEAST H⟩
  have C_MOST : Cst K mg "MOST" (He.ga K "MOST") [.int 64, .int 16, .int 8, .int 16] := ⟨He.glo_ok X G (c.fact 28 (f := .glo "MOST") rfl), fun H => He.tupB_ok cx_MOST H⟩
  have b := FunD.bindsA (ps := ["_law_script"]) F_law fun _ _ _ _ _ _ us hl => match us, hl with | [_], _ => rfl
  refine ⟨fdL, fun s v => b s [v] rfl, fun base _ _ htb => ?_⟩
  have HTB : ∀ c', fdL.code = .ref c' → LamX.TabB base mg c' (He.cT K ("law", none)).2 := fun c' e => htab c' e ▸ htb
  have c_l_dice : Cal P w K mg base CX0 1 "_law_dice" ["_law_script"] (spDice K) := ok_dice F_l_dice B
  have c_l_next : Cal P w K mg base CX0 1 "_law_next" ["_law_dice_here", "_law_many"] (spNext K) := ok_next F_l_next B
  have c_l_like : Cal P w K mg base CX0 5 "_law_like" ["_law_found", "_law_due_here"] (spLike K 4) := ok_like F_l_like B 4
  have c_needS : Cal P w K mg base CX0 1 "need_setting" ["setting"] spNeedS := ok_needS F_need_setting B C_LEAST C_MOST
  have c_needM : Cal P w K mg base CX0 1 "need_mark" ["setting", "mark"] spNeedM := ok_needM F_need_mark B
  have c_needB : Cal P w K mg base CX0 2 "need_bits" ["setting", "told"] spNeedB := ok_needB F_need_bits B c_needM
  have c_setting := ok_setting F_l_setting B c_l_next
  have c_needME := ok_needME (P := P) (w := w) (base := base) F_need_mark T_BadMark
  have c_needBE := ok_needBE F_need_bits B T_BadBits c_needME
  have XT := ok_BadText (P := P) (w := w) (base := base) F_BadText_init OX BI KX.n6
  have c_isR := ok_isRight (P := P) (w := w) (base := base) F_is_right B g_FIGURES g_NONE
  have c_written := ok_written F_written B g_NONE c_needS c_needB
  have c_read := ok_read F_read B g_NONE XT c_needS c_isR c_needBE
  have c_due := ok_due (P := P) (w := w) (base := base) F_l_due B
  exact ok_law F_law B Kn KX ko_BadMark ko_BadBits ko_BadText HTB F_l_told c_l_dice c_l_next c_setting c_l_like c_written c_read c_due
end Ak
open PySem PySem.W PySem.Calls PyProof.Rows
theorem PySem.Challenge.cw_ackbits_k10_written_and_read_holds : PySem.Challenge.rw_ackbits_k10_written_and_read.Holds := by
  w_on; o_law
  refine HandSHeadRun.head_any (r := OpenLaw.row PySem.Challenge.rw_ackbits_k10_written_and_read) (q := view (OpenLaw.row PySem.Challenge.rw_ackbits_k10_written_and_read).prog [29]) (H := Ak.hk) (ob := Ak.ob) (M := 4000) (loose := Ak.looseN) (d := HandSHeadRun.topDef (OpenLaw.row PySem.Challenge.rw_ackbits_k10_written_and_read).prog 29) (kwd := []) Ak.ob_eq
    (by kernel_rfl) (fun s => by kernel_rfl) Ak.run (by kernel_rfl) (by kernel_rfl) (by kernel_rfl) (by rfl) (by first | assumption | decide +kernel) (by decide +kernel) ⟨rfl, rfl, rfl, rfl, rfl, by decide +kernel⟩ ?hw ?hc
  case hw => w_witness2
  case hc =>
    refine LamX.walk_ofTsE (l := PySem.Challenge.rw_ackbits_k10_written_and_read) (n := 63) (k := 12) (x := "_law_script") (CX := fun _ => L2.CX0) rfl (by decide) (by kernel_rfl) ⟨rfl, by decide, by decide⟩ ?F (fun _ _ _ _ _ z => z)
    intro w mg fa h Y G hmg0
    obtain ⟨K, KX, c⟩ := Y
    have hmg : mg ("law" : PySem.Str) = some (.ref fa) := by
      have e : (HandSHeadRun.topDef (OpenLaw.row PySem.Challenge.rw_ackbits_k10_written_and_read).prog 29).name = ("law" : PySem.Str) := by kernel_rfl
      rw [← e]
      exact hmg0
    obtain ⟨fd, hb, hF⟩ := Ak.facts (P := (PySem.Challenge.rw_ackbits_k10_written_and_read).prog) (w := w) KX G hmg c.more c.t.d
    have mem : (("law", none) : He.Defn) ∈ Ak.tf := List.mem_cons_self
    have one : ∀ p ∈ [He.cT K ("law", none)], p = He.cT K ("law", none) := fun p hp => List.mem_singleton.mp hp
    exact ⟨K, KX, fd, [He.cT K ("law", none)], Ak.spLaw K (He.cT K ("law", none)).2, fun p hp => by rw [one p hp]; exact c.empty _ mem, fun p hp => by rw [one p hp]; exact c.out _ mem, fun p hp => by rw [one p hp]; exact codeHd_of_K KX (c.hd _ mem), hb,
      fun H a ns hl hbits hH hS => ⟨a, ns, rfl, hS, hl, hH _ List.mem_cons_self, fun _ => rfl⟩, fun base hK hN hT => hF base hK hN (hT _ List.mem_cons_self)⟩
