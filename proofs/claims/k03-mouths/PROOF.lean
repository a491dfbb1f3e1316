import PyProof.Rows.All
import Wide.All
import OpenK.AllK
import Wide.FinOn
import KE.KStateDown
import Lean
import HandS.Base
import HandS.Call
import HandS.Ends
import HandS.More
import HandS.Words
import HandS.WordsExc
import HandS.Defaults
import HandS.Head0
import HandS.Head1
import HandS.Head2
import HandS.HeadEnd
import HandS.HeadHook1
import HandS.HeadHook2
import HandS.HeadHook4
import HandS.ForMost
import HandS.IsInst
import KE.KAssignIn
import HandS.SortInts
import HandS.Zip
import HandS.Style
import HandS.Exc
import HandS.ExcOwn
import HandS.ExcIs
import HandS.ExcField
import HandS.TryOnly
import HandS.Lambda
import HandS.EndTab
import HandS.HeadWalk
import PySem.Challenge.RW_ackbits_k03_mouths
set_option Elab.async false
set_option linter.all false
set_option maxRecDepth 100000
set_option maxHeartbeats 8000000
namespace Ak
open PySem PySem.Spec PyProof.Rows L2
def top (i : Nat) : Stmt := PySem.Challenge.pw_ackbits_k03_mouths.main.body.getD i (.Pass ⟨0, 0, 0, 0⟩)
abbrev s_l_dice : Stmt := top 18
abbrev s_l_next : Stmt := top 19
abbrev s_need_setting : Stmt := top 12
abbrev s_need_mark : Stmt := top 13
abbrev s_need_bits : Stmt := top 14
abbrev s_l_setting : Stmt := top 21
abbrev s_l_safe : Stmt := top 22
abbrev s_l_like : Stmt := top 20
abbrev s_l_mouth : Stmt := top 23
abbrev s_l_is_full : Stmt := top 24
abbrev s_l_hear : Stmt := top 25
abbrev s_Mouth_init : Stmt := inClass (top 16) 0
abbrev s_Mouth_is_full : Stmt := inClass (top 16) 1
abbrev s_Mouth_last : Stmt := inClass (top 16) 5
abbrev s_Mouth_sure : Stmt := inClass (top 16) 4
abbrev s_Mouth_send : Stmt := inClass (top 16) 2
abbrev s_Mouth_hear : Stmt := inClass (top 16) 3
abbrev s_l_is : Stmt := top 27
abbrev s_l_told : Stmt := top 26
abbrev s_law : Stmt := top 28
abbrev veTail : List Value := [.type "ValueError", .type "Exception", .type "BaseException", .type "object"]
def exKB (K : PySem.W.Frag) (C : Addr) : Bool := PySem.W.keepIn K (.ref C) && (PySem.W.excIn K C veTail "ValueError.__new__" && (decide (PySem.W.subIn K (.ref C) (.type "BaseException") = some true) && decide (PySem.W.typeIn K (.ref C) = some (.type "type"))))
def excCB (K : PySem.W.Frag) (D : Addr) : Bool :=
  decide (PySem.W.findIn K (.ref D) "__getattribute__" = some (some (.builtin "BaseException.__getattribute__"))) && (decide (PySem.W.findIn K (.ref D) "__getattr__" = some none) && (decide (PySem.W.subIn K (.ref D) (.type "BaseException") = some true) && (PySem.W.hasDictIn K D &&
  (decide (PySem.W.findIn K (.ref D) "__class__" = some (some (.builtin "object.__class__"))) && (decide (PySem.W.specialIn K (.builtin "object.__class__") "__get__" = some (some (.builtin "getset_descriptor.__get__"))) && (decide (PySem.W.takesIn K (.builtin "object.__class__") = some true) && decide (PySem.W.mroIn K D (.type "object") = some true)))))))
def kofB (K : PySem.W.Frag) (c1 c2 c3 c4 c5 c6 cb D : Addr) (n : Nat) : Bool :=
  excCB K D && (decide (PySem.W.kitOne K (.ref D) (.ref c1) = some (decide (n = 1))) && (decide (PySem.W.kitOne K (.ref D) (.ref c2) = some (decide (n = 2))) && (decide (PySem.W.kitOne K (.ref D) (.ref c3) = some (decide (n = 3))) && (decide (PySem.W.kitOne K (.ref D) (.ref c4) = some (decide (n = 4))) &&
  (decide (PySem.W.kitOne K (.ref D) (.ref c5) = some (decide (n = 5))) && (decide (PySem.W.kitOne K (.ref D) (.ref c6) = some (decide (n = 6))) && (decide (PySem.W.kitOne K (.ref D) (.type "ValueError") = some true) && decide (PySem.W.exmOne K (.ref D) (.ref cb) = some true))))))))
/-! ### the head: facts by names, the run of the top -/
def d_l_dice : He.DefD := ⟨("_law_dice", none), "_law_dice", "_law_dice", defArgs s_l_dice, defBody s_l_dice, defScope s_l_dice, [], []⟩
def d_l_next : He.DefD := ⟨("_law_next", none), "_law_next", "_law_next", defArgs s_l_next, defBody s_l_next, defScope s_l_next, [], []⟩
def d_need_setting : He.DefD := ⟨("need_setting", none), "need_setting", "need_setting", defArgs s_need_setting, defBody s_need_setting, defScope s_need_setting, [], []⟩
def d_need_mark : He.DefD := ⟨("need_mark", none), "need_mark", "need_mark", defArgs s_need_mark, defBody s_need_mark, defScope s_need_mark, [], []⟩
def d_need_bits : He.DefD := ⟨("need_bits", none), "need_bits", "need_bits", defArgs s_need_bits, defBody s_need_bits, defScope s_need_bits, [], []⟩
def d_l_like : He.DefD := ⟨("_law_like", none), "_law_like", "_law_like", defArgs s_l_like, defBody s_l_like, defScope s_l_like, [], []⟩
def d_Mouth_init : He.DefD := ⟨("Mouth", some "__init__"), "__init__", "Mouth.__init__", defArgs s_Mouth_init, defBody s_Mouth_init, defScope s_Mouth_init, [], []⟩
def d_Mouth_is_full : He.DefD := ⟨("Mouth", some "is_full"), "is_full", "Mouth.is_full", defArgs s_Mouth_is_full, defBody s_Mouth_is_full, defScope s_Mouth_is_full, [], []⟩
def d_Mouth_send : He.DefD := ⟨("Mouth", some "send"), "send", "Mouth.send", defArgs s_Mouth_send, defBody s_Mouth_send, defScope s_Mouth_send, [], []⟩
def d_Mouth_hear : He.DefD := ⟨("Mouth", some "hear"), "hear", "Mouth.hear", defArgs s_Mouth_hear, defBody s_Mouth_hear, defScope s_Mouth_hear, [], []⟩
def d_Mouth_last : He.DefD := ⟨("Mouth", some "last"), "last", "Mouth.last", defArgs s_Mouth_last, defBody s_Mouth_last, defScope s_Mouth_last, [], []⟩
def d_Mouth_sure : He.DefD := ⟨("Mouth", some "sure"), "sure", "Mouth.sure", defArgs s_Mouth_sure, defBody s_Mouth_sure, defScope s_Mouth_sure, [], []⟩
def d_l_setting : He.DefD := ⟨("_law_setting", none), "_law_setting", "_law_setting", defArgs s_l_setting, defBody s_l_setting, defScope s_l_setting, [], []⟩
def d_l_mouth : He.DefD := ⟨("_law_mouth", none), "_law_mouth", "_law_mouth", defArgs s_l_mouth, defBody s_l_mouth, defScope s_l_mouth, [], []⟩
def d_l_is_full : He.DefD := ⟨("_law_is_full", none), "_law_is_full", "_law_is_full", defArgs s_l_is_full, defBody s_l_is_full, defScope s_l_is_full, [], []⟩
def d_l_hear : He.DefD := ⟨("_law_hear", none), "_law_hear", "_law_hear", defArgs s_l_hear, defBody s_l_hear, defScope s_l_hear, [], []⟩
def d_l_told : He.DefD := ⟨("_law_told", none), "_law_told", "_law_told", defArgs s_l_told, defBody s_l_told, defScope s_l_told, [], []⟩
def d_l_is : He.DefD := ⟨("_law_is", none), "_law_is", "_law_is", defArgs s_l_is, defBody s_l_is, defScope s_l_is, [], []⟩
def d_law : He.DefD := ⟨("law", none), "law", "law", defArgs s_law, defBody s_law, defScope s_law, [], []⟩
def fn : List He.DefD := [d_l_dice, d_l_next, d_need_setting, d_need_mark, d_need_bits, d_l_like, d_Mouth_init, d_Mouth_is_full, d_Mouth_send, d_Mouth_hear, d_Mouth_last, d_Mouth_sure, d_l_setting, d_l_mouth, d_l_is_full, d_l_hear, d_l_told, d_l_is, d_law]
def fa : List He.Fa := [.glo "_law_dice", .glo "_law_next", .glo "need_setting", .glo "need_mark", .glo "need_bits", .glo "_law_like", .glo "_law_setting", .glo "_law_mouth", .glo "_law_is_full", .glo "_law_hear", .glo "_law_told", .glo "_law_is", .glo "law", .free "len", .free "int", .free "isinstance", .free "range", .free "sorted", .free "list", .free "tuple", .free "max", .free "min", .free "set", .free "str", .free "enumerate", .free "bool", .free "dict", .glo "LEAST", .glo "MOST", .glo "Mouth", .cls "Mouth", .noat "Mouth" "marks", .noat "Mouth" "wide", .noat "Mouth" "late", .noat "Mouth" "ahead", .noat "Mouth" "setting", .noat "Mouth" "sent", .noat "Mouth" "certain", .noat "Mouth" "top", .mkr "Mouth", .meth "Mouth" "is_full", .meth "Mouth" "send", .meth "Mouth" "hear", .meth "Mouth" "last", .meth "Mouth" "sure", .glo "BadSetting", .glo "BadMark", .glo "BadBits", .glo "Full", .glo "BadEvent", .glo "BadText", .glo "BitsError", .free "ValueError"]
abbrev R : PySem.W.OpenRow := PySem.W.OpenLaw.row PySem.Challenge.rw_ackbits_k03_mouths
def xb (K : PySem.W.Frag) : Bool := He.tupB K "LEAST" [.int 2, .int 0, .int 0, .int 1] && (He.tupB K "MOST" [.int 64, .int 16, .int 8, .int 16] && (exKB K (He.ga K "BadBits") && (exKB K (He.ga K "Full") && (kofB K (He.ga K "BadSetting") (He.ga K "BadMark") (He.ga K "BadBits") (He.ga K "Full") (He.ga K "BadEvent") (He.ga K "BadText") (He.ga K "BitsError") (He.ga K "BadBits") 3 && (kofB K (He.ga K "BadSetting") (He.ga K "BadMark") (He.ga K "BadBits") (He.ga K "Full") (He.ga K "BadEvent") (He.ga K "BadText") (He.ga K "BitsError") (He.ga K "Full") 4)))))
def tf : List He.Defn := [("law", none)]
def hk : PySem.W.Hook := He.hookX 6 fa fn [] tf xb
def ob (s : PySem.W.SharedT) : He.AlX := He.obsX 6 fa fn [] tf xb (HandSHeadRun.getT s)
theorem ob_eq (s : PySem.W.SharedT) : ob s = hk.obs s.abs := He.obsX_eq (s := s.abs) fun a => HandSHeadRun.getT_eq s a
def looseN : List PySem.Str := [("BitsError" : PySem.Str), ("BadSetting" : PySem.Str), ("BadMark" : PySem.Str), ("BadBits" : PySem.Str), ("Full" : PySem.Str), ("BadEvent" : PySem.Str), ("BadText" : PySem.Str), ("LEAST" : PySem.Str), ("MOST" : PySem.Str), ("WORDS" : PySem.Str), ("need_setting" : PySem.Str), ("need_mark" : PySem.Str), ("need_bits" : PySem.Str), ("Mouth" : PySem.Str), ("_law_dice" : PySem.Str), ("_law_next" : PySem.Str), ("_law_like" : PySem.Str), ("_law_setting" : PySem.Str), ("_law_safe" : PySem.Str), ("_law_mouth" : PySem.Str), ("_law_is_full" : PySem.Str), ("_law_hear" : PySem.Str), ("_law_told" : PySem.Str), ("_law_is" : PySem.Str)]
theorem run (w : World) : HandSHeadRun.RunEq R (PySem.W.view R.prog [28]) hk ob 4000 looseN w := by
  intro os
  kernel_rfl
end Ak
/-! The common part: what a def keeps (Aft), what stands now (Now), the dice, calls by name. -/
namespace Ak
open PySem PySem.Spec PyProof.Rows L2

/-! ### what is kept -/
structure Aft (M : List Addr) (H H' : Hp) : Prop where
  k : ∀ b o, H b = some o → b ∉ M → H' b = some o
  t : ∀ b xs, H b = some (.tup xs) → H' b = some (.tup xs)
  z : ∀ b u o, H b = some (.frz u o) → H' b = some (.frz u o)
section
variable {M M' : List Addr} {H H' H1 H2 : Hp} {p : Addr} {o u : HO} {K : PySem.W.Frag} {a : Addr} {xs : List V}
theorem Aft.refl : Aft M H H := ⟨fun _ _ h _ => h, fun _ _ h => h, fun _ _ _ h => h⟩
theorem Aft.trans (a : Aft M H H1) (b : Aft M H1 H2) : Aft M H H2 :=
  ⟨fun c o h hm => b.k c o (a.k c o h hm) hm, fun c xs h => b.t c xs (a.t c xs h), fun c v o h => b.z c v o (a.z c v o h)⟩
theorem Aft.mono (a : Aft M H H') (h : ∀ x ∈ M, x ∈ M') : Aft M' H H' := ⟨fun b o e hm => a.k b o e fun z => hm (h b z), a.t, a.z⟩
/-- behind a call that changes M' -/
theorem Aft.call (a : Aft M H H1) (b : Aft M' H1 H2) (h : ∀ x ∈ M', x ∈ M ∨ H x = none) : Aft M H H2 :=
  ⟨fun c o e hm => b.k c o (a.k c o e hm) fun z => (h c z).elim hm fun n => (by rw [n] at e; cases e), fun c xs h => b.t c xs (a.t c xs h), fun c v o h => b.z c v o (a.z c v o h)⟩
theorem Aft.new (a : Aft M H H') (hp : H' p = none) : Aft M H (upd H' p o) :=
  ⟨fun b v e hm => by rw [upd_ne (ne_of_none (a.k b v e hm) hp)]; exact a.k b v e hm,
   fun b xs e => by rw [upd_ne (ne_of_none (a.t b xs e) hp)]; exact a.t b xs e,
   fun b v w e => by rw [upd_ne (ne_of_none (a.z b v w e) hp)]; exact a.z b v w e⟩
theorem Aft.put (a : Aft M H H') (hp : H' p = some u) (hn : Mut (some u)) (hw : p ∈ M ∨ H p = none) : Aft M H (upd H' p o) := by
  refine ⟨fun b v e hm => ?_, fun b xs e => ?_, fun b v w e => ?_⟩
  · have ne : b ≠ p := by
      rintro rfl
      rcases hw with z | z
      · exact hm z
      · rw [z] at e; cases e
    rw [upd_ne ne]; exact a.k b v e hm
  · have ne : b ≠ p := by
      rintro rfl
      have q := a.t b xs e
      rw [hp] at q
      cases q
      exact hn
    rw [upd_ne ne]; exact a.t b xs e
  · have ne : b ≠ p := by
      rintro rfl
      have q := a.z b v w e
      rw [hp] at q
      cases q
      exact hn
    rw [upd_ne ne]; exact a.z b v w e
theorem Aft.free (a : Aft M H H') (hm : p ∉ M) (h : H' p = none) : H p = none := by
  cases q : H p with
  | none => rfl
  | some o => rw [a.k p o q hm] at h; cases h
theorem Aft.sqt (e : Aft M H H') (h : SqT K H a xs) : SqT K H' a xs := by
  rcases h with (h | ⟨o, h⟩) | h
  · exact .inl (.inl (e.t _ _ h))
  · exact .inl (.inr ⟨o, e.z _ _ _ h⟩)
  · exact .inr h
/-- the script: locked, or the module's own -/
def Scr (K : PySem.W.Frag) (H : Hp) (a : Addr) (xs : List V) : Prop := (∃ u, H a = some (.frz u (.lst xs))) ∨
  ∃ (o : Obj) (its : Array Value) (n : Nat), K.lookup a = some o ∧ o.cls = .type "list" ∧ o.dict = none ∧ o.data = .seq its n ∧ its.size ≤ sizeLine ∧ Vals xs its.toList
theorem Scr.sq (h : Scr K H a xs) : SqL K H a xs := h.elim (fun ⟨u, h⟩ => .inl (.inr ⟨u, h⟩)) .inr
theorem Scr.keep (h : Scr K H a xs) (e : Aft M H H') : Scr K H' a xs := h.elim (fun ⟨u, h⟩ => .inl ⟨u, e.z _ _ _ h⟩) .inr
theorem Scr.only (hO : Only H) (h : SqL K H a xs) : Scr K H a xs := by
  rcases h with (h | h) | h
  · rcases hO a with z | ⟨u, ys, z⟩
    · rw [z] at h; cases h
    · rw [z] at h; cases h
  · exact .inl h
  · exact .inr h
end

/-! ### the dice: a list of the script, a place, two numbers -/
abbrev dO (a : Addr) (i m r : Int) : HO := .lst [.ref a, .int i, .int m, .int r]
structure Dice (K : PySem.W.Frag) (H : Hp) (d : Addr) : Prop where
  ex : ∃ (a : Addr) (ns : List Int) (i m r : Int), H d = some (dO a i m r) ∧ Scr K H a (ns.map V.int) ∧ ns.length ≤ 63 ∧ 0 ≤ i ∧ 0 ≤ m ∧ m < 2147483647
section
variable {K : PySem.W.Frag} {H H' : Hp} {d : Addr} {M : List Addr}
theorem Dice.lst (h : Dice K H d) : ∃ xs, H d = some (.lst xs) := by
  obtain ⟨a, ns, i, m, r, h, _⟩ := h.ex
  exact ⟨_, h⟩
theorem Dice.keep (h : Dice K H d) (e : Aft M H H') (hd : d ∉ M) : Dice K H' d := by
  obtain ⟨a, ns, i, m, r, h1, h2, h3⟩ := h.ex
  exact ⟨a, ns, i, m, r, e.k _ _ h1 hd, h2.keep e, h3⟩
end

/-! ### what stands now -/
structure Cel where
  w : Bool
  a : Addr
  o : HO
/-- l: the cells, the own ones (w) may be changed; ts: tuples; M: what may be changed of H0's; D: the dice -/
structure Now (K : PySem.W.Frag) (D : Option Addr) (M : List Addr) (H0 H : Hp) (l : List Cel) (ts : List (Addr × List V)) : Prop where
  nd : (l.map Cel.a).Nodup
  at_ : ∀ c ∈ l, H c.a = some c.o
  mu : ∀ c ∈ l, Mut (some c.o)
  ow : ∀ c ∈ l, c.w = true → c.a ∈ M ∨ H0 c.a = none
  tp : ∀ p ∈ ts, H p.1 = some (.tup p.2)
  af : Aft M H0 H
  dc : ∀ d, D = some d → Dice K H d ∧ (d ∈ M ∨ H0 d = none) ∧ d ∉ l.map Cel.a
section
variable {K : PySem.W.Frag} {D : Option Addr} {M M' : List Addr} {H0 H H' : Hp} {l l' : List Cel} {ts : List (Addr × List V)} {p a d : Addr} {o u : HO} {xs : List V} {c : Cel} {w : Bool}
theorem Now.get (N : Now K D M H0 H l ts) (i : Nat) (h : l[i]? = some c) : H c.a = some c.o := N.at_ c (List.mem_of_getElem? h)
theorem Now.cell (N : Now K D M H0 H l ts) (i : Nat) (h : l[i]? = some ⟨w, a, o⟩) : H a = some o := N.get i h
theorem Now.tup (N : Now K D M H0 H l ts) (i : Nat) (h : ts[i]? = some (a, xs)) : H a = some (.tup xs) := N.tp _ (List.mem_of_getElem? h)
theorem Now.free (N : Now K D M H0 H l ts) (hp : H p = none) : p ∉ l.map Cel.a := fun m => by
  obtain ⟨c, hc, e⟩ := List.mem_map.mp m
  have q := N.at_ c hc
  rw [e, hp] at q; cases q
/-- a new tuple -/
theorem Now.newT (N : Now K D M H0 H l ts) (hp : H p = none) : Now K D M H0 (upd H p (.tup xs)) l ((p, xs) :: ts) where
  nd := N.nd
  at_ := fun c hc => by rw [upd_ne (ne_of_none (N.at_ c hc) hp)]; exact N.at_ c hc
  mu := N.mu
  ow := N.ow
  tp := fun q hq => by
    rcases List.mem_cons.mp hq with e | hq
    · subst e; exact upd_same
    · rw [upd_ne (ne_of_none (N.tp q hq) hp)]; exact N.tp q hq
  af := N.af.new hp
  dc := fun d e => by
    obtain ⟨h1, h2, h3⟩ := N.dc d e
    exact ⟨h1.keep (M := []) (Aft.refl.new hp) (by simp), h2, h3⟩
/-- a new cell -/
theorem Now.newC (N : Now K D M H0 H l ts) (hp : H p = none) (hm : Mut (some o)) : Now K D M H0 (upd H p o) (⟨true, p, o⟩ :: l) ts where
  nd := List.nodup_cons.mpr ⟨N.free hp, N.nd⟩
  at_ := fun c hc => by
    rcases List.mem_cons.mp hc with e | hc
    · subst e; exact upd_same
    · rw [upd_ne (ne_of_none (N.at_ c hc) hp)]; exact N.at_ c hc
  mu := fun c hc => by
    rcases List.mem_cons.mp hc with e | hc
    · subst e; exact hm
    · exact N.mu c hc
  ow := fun c hc hw => by
    rcases List.mem_cons.mp hc with e | hc
    · subst e
      by_cases z : p ∈ M
      · exact .inl z
      · exact .inr (N.af.free z hp)
    · exact N.ow c hc hw
  tp := fun q hq => by rw [upd_ne (ne_of_none (N.tp q hq) hp)]; exact N.tp q hq
  af := N.af.new hp
  dc := fun d e => by
    obtain ⟨h1, h2, h3⟩ := N.dc d e
    refine ⟨h1.keep (M := []) (Aft.refl.new hp) (by simp), h2, ?_⟩
    intro m
    rcases List.mem_cons.mp m with q | q
    · obtain ⟨ys, hy⟩ := h1.lst
      rw [q] at hy
      have z : H p = some (.lst ys) := hy
      rw [hp] at z; cases z
    · exact h3 q
theorem nodup_at {l : List Cel} (nd : (l.map Cel.a).Nodup) {i j : Nat} {c c' : Cel} (h : l[i]? = some c) (h' : l[j]? = some c') (e : c.a = c'.a) : i = j := by
  have h1 : (l.map Cel.a)[i]? = some c.a := by rw [List.getElem?_map, h]; rfl
  have h2 : (l.map Cel.a)[j]? = some c.a := by rw [List.getElem?_map, h', e]; rfl
  obtain ⟨b1, e1⟩ := List.getElem?_eq_some_iff.mp h1
  obtain ⟨b2, e2⟩ := List.getElem?_eq_some_iff.mp h2
  exact (List.getElem_inj nd).mp (e1.trans e2.symm)
theorem set_map {l : List Cel} {i : Nat} {o o' : HO} (h : l[i]? = some ⟨w, a, o⟩) : (l.set i ⟨w, a, o'⟩).map Cel.a = l.map Cel.a := by
  rw [List.map_set]
  have h1 : (l.map Cel.a)[i]? = some a := by rw [List.getElem?_map, h]; rfl
  obtain ⟨b, e⟩ := List.getElem?_eq_some_iff.mp h1
  show (l.map Cel.a).set i a = _
  rw [← e]
  exact List.set_getElem_self b
/-- a cell is written: directly, or by a call that changes it alone -/
theorem Now.set (N : Now K D M H0 H l ts) (i : Nat) (h : l[i]? = some ⟨true, a, o⟩) (A : Aft [a] H H') (hu : H' a = some u) (hm : Mut (some u)) : Now K D M H0 H' (l.set i ⟨true, a, u⟩) ts := by
  have mem := List.mem_of_getElem? h
  have other : ∀ c ∈ l, c.a ≠ a → H' c.a = some c.o := fun c hc ne => A.k _ _ (N.at_ c hc) (by simpa using ne)
  have cases_ : ∀ c ∈ l.set i ⟨true, a, u⟩, c = ⟨true, a, u⟩ ∨ (c ∈ l ∧ c.a ≠ a) := fun c hc => by
    obtain ⟨j, hj⟩ := List.getElem?_of_mem hc
    by_cases e : i = j
    · subst e
      rw [List.getElem?_set_self (List.getElem?_eq_some_iff.mp h).1] at hj
      exact .inl (Option.some.inj hj).symm
    · rw [List.getElem?_set_ne e] at hj
      exact .inr ⟨List.mem_of_getElem? hj, fun q => e (nodup_at N.nd h hj q.symm)⟩
  refine ⟨by rw [set_map h]; exact N.nd, fun c hc => ?_, fun c hc => ?_, fun c hc hw => ?_, fun q hq => A.t _ _ (N.tp q hq), N.af.call A (by simpa using N.ow _ mem rfl), fun d e => ?_⟩
  · rcases cases_ c hc with e | ⟨hc, ne⟩
    · subst e; exact hu
    · exact other c hc ne
  · rcases cases_ c hc with e | ⟨hc, ne⟩
    · subst e; exact hm
    · exact N.mu c hc
  · rcases cases_ c hc with e | ⟨hc, ne⟩
    · subst e; exact N.ow ⟨true, a, o⟩ mem rfl
    · exact N.ow c hc hw
  · obtain ⟨h1, h2, h3⟩ := N.dc d e
    rw [set_map h]
    exact ⟨h1.keep A (by
      intro m
      have e : d = a := by simpa using m
      subst e
      exact h3 (List.mem_map.mpr ⟨_, mem, rfl⟩)), h2, h3⟩
theorem Now.put (N : Now K D M H0 H l ts) (i : Nat) (h : l[i]? = some ⟨true, a, o⟩) (hm : Mut (some u)) : Now K D M H0 (upd H a u) (l.set i ⟨true, a, u⟩) ts :=
  N.set i h (Aft.refl.put (N.cell i h) (N.mu _ (List.mem_of_getElem? h)) (.inl (by simp))) upd_same hm
/-- a call that changes nothing -/
theorem Now.pure (N : Now K D M H0 H l ts) (A : Aft [] H H') : Now K D M H0 H' l ts where
  nd := N.nd
  at_ := fun c hc => A.k _ _ (N.at_ c hc) (by simp)
  mu := N.mu
  ow := N.ow
  tp := fun q hq => A.t _ _ (N.tp q hq)
  af := N.af.call A (by simp)
  dc := fun d e => by
    obtain ⟨h1, h2, h3⟩ := N.dc d e
    exact ⟨h1.keep A (by simp), h2, h3⟩
/-- a call that rolls the dice -/
theorem Now.roll (N : Now K (some d) M H0 H l ts) (A : Aft [d] H H') (hd : Dice K H' d) : Now K (some d) M H0 H' l ts where
  nd := N.nd
  at_ := fun c hc => A.k _ _ (N.at_ c hc) (by
    intro m
    have e : c.a = d := by simpa using m
    exact (N.dc d rfl).2.2 (List.mem_map.mpr ⟨c, hc, e⟩))
  mu := N.mu
  ow := N.ow
  tp := fun q hq => A.t _ _ (N.tp q hq)
  af := N.af.call A (by simpa using (N.dc d rfl).2.1)
  dc := fun d' e => by
    cases e
    exact ⟨hd, (N.dc d rfl).2⟩
/-- cells are forgotten, or in another order -/
theorem Now.sub (N : Now K D M H0 H l ts) (l' : List Cel) (h : ∀ c ∈ l', c ∈ l) (nd : (l'.map Cel.a).Nodup) : Now K D M H0 H l' ts where
  nd := nd
  at_ := fun c hc => N.at_ c (h c hc)
  mu := fun c hc => N.mu c (h c hc)
  ow := fun c hc => N.ow c (h c hc)
  tp := N.tp
  af := N.af
  dc := fun d e => by
    obtain ⟨h1, h2, h3⟩ := N.dc d e
    exact ⟨h1, h2, fun m => by
      obtain ⟨c, hc, e⟩ := List.mem_map.mp m
      exact h3 (List.mem_map.mpr ⟨c, h c hc, e⟩)⟩
theorem Now.tl (N : Now K D M H0 H (c :: l) ts) : Now K D M H0 H l ts := N.sub l (fun _ h => List.mem_cons_of_mem _ h) (List.nodup_cons.mp N.nd).2
theorem Now.tl1 {c' : Cel} (N : Now K D M H0 H (c' :: c :: l) ts) : Now K D M H0 H (c' :: l) ts := N.sub _ (fun x h => by
  rcases List.mem_cons.mp h with e | h
  · exact List.mem_cons.mpr (.inl e)
  · exact List.mem_cons_of_mem _ (List.mem_cons_of_mem _ h)) (by
  have := N.nd
  simp only [List.map_cons, List.nodup_cons, List.mem_cons, not_or] at this ⊢
  exact ⟨this.1.2, this.2.2⟩)
theorem Now.subT (N : Now K D M H0 H l ts) (ts' : List (Addr × List V)) (h : ∀ p ∈ ts', p ∈ ts) : Now K D M H0 H l ts' := ⟨N.nd, N.at_, N.mu, N.ow, fun p hp => N.tp p (h p hp), N.af, N.dc⟩
theorem Now.moreT (N : Now K D M H0 H l ts) (h : H p = some (.tup xs)) : Now K D M H0 H l ((p, xs) :: ts) := ⟨N.nd, N.at_, N.mu, N.ow, fun q hq => by
  rcases List.mem_cons.mp hq with e | hq
  · subst e; exact h
  · exact N.tp q hq, N.af, N.dc⟩
/-- the start of a def -/
theorem Now.start (nd : (l.map Cel.a).Nodup) (at_ : ∀ c ∈ l, H c.a = some c.o ∧ Mut (some c.o) ∧ (c.w = true → c.a ∈ M)) (tp : ∀ p ∈ ts, H p.1 = some (.tup p.2)) (dc : ∀ d, D = some d → Dice K H d ∧ d ∈ M ∧ d ∉ l.map Cel.a) : Now K D M H H l ts :=
  ⟨nd, fun c hc => (at_ c hc).1, fun c hc => (at_ c hc).2.1, fun c hc hw => .inl ((at_ c hc).2.2 hw), tp, .refl, fun d e => ⟨(dc d e).1, .inl (dc d e).2.1, (dc d e).2.2⟩⟩
theorem Now.start0 (tp : ∀ p ∈ ts, H p.1 = some (.tup p.2)) : Now K none M H H [] ts := .start (by simp) (by simp) tp (by simp)
theorem Now.startD (hd : Dice K H d) (tp : ∀ p ∈ ts, H p.1 = some (.tup p.2)) : Now K (some d) [d] H H [] ts := .start (by simp) (by simp) tp (by simp [hd])
end
end Ak
namespace Ak
open PySem PySem.Spec PyProof.Rows L2
/-! ### readings, step by step -/
section
variable {σ : L2.St} {H : Hp} {D : Ends} {t u : TS} {te ta tb tc : TE} {tr : TA} {g : TG} {Q : VK} {tt tu : TT} {v x y : V} {i : Nat} {K : PySem.W.Frag}
variable {nx bk ct : L2.St → Hp → Prop} {rt : VK}
theorem k_seq (h : t ⟨u ⟨nx, rt, bk, ct⟩, rt, bk, ct⟩ σ H) : tSeq t u ⟨nx, rt, bk, ct⟩ σ H := h
theorem k_next (h : nx σ H) : tNext ⟨nx, rt, bk, ct⟩ σ H := h
theorem k_asg (h : te σ H fun x H1 => g x σ H1 nx) : tAsg te g ⟨nx, rt, bk, ct⟩ σ H := h
theorem k_gname {Q : L2.St → Hp → Prop} (h : Q (σ.set i (some v)) H) : gName i v σ H Q := h
theorem k_drop (h : te σ H fun _ H1 => nx σ H1) : tDrop te ⟨nx, rt, bk, ct⟩ σ H := h
theorem k_ret (h : te σ H rt) : tRet te ⟨nx, rt, bk, ct⟩ σ H := h
theorem k_retN (h : rt .non H) : tRetN ⟨nx, rt, bk, ct⟩ σ H := h
/-- the two ways of an if -/
def cIf (t u : TS) (D : Ends) (σ : L2.St) : Bool → Hp → Prop := fun b H => if b = true then t D σ H else u D σ H
theorem k_if (h : tt σ H (cIf t u D σ)) : tIfS tt t u D σ H := h
theorem c_ifT (h : t D σ H) : cIf t u D σ true H := h
theorem c_ifF (h : u D σ H) : cIf t u D σ false H := h
theorem c_if {b : Bool} (h1 : b = true → t D σ H) (h2 : b = false → u D σ H) : cIf t u D σ b H := by
  cases b with
  | true => exact h1 rfl
  | false => exact h2 rfl
theorem c_ifd {p : Prop} [Decidable p] (h1 : p → t D σ H) (h2 : ¬ p → u D σ H) : cIf t u D σ (decide p) H :=
  c_if (fun e => h1 (of_decide_eq_true e)) (fun e => h2 (of_decide_eq_false e))
theorem c_ifdT {p : Prop} [Decidable p] (hp : p) (h1 : t D σ H) : cIf t u D σ (decide p) H := c_ifd (fun _ => h1) fun n => (n hp).elim
theorem c_ifdF {p : Prop} [Decidable p] (hp : ¬ p) (h1 : u D σ H) : cIf t u D σ (decide p) H := c_ifd (fun n => (hp n).elim) fun _ => h1
/-- two names at once -/
def cPar (i j : Nat) (nx : L2.St → Hp → Prop) (σ : L2.St) : List V → Hp → Prop := fun vs H1 => ∃ v w, vs = [v, w] ∧ nx ((σ.set i (some v)).set j (some w)) H1
theorem k_par {i j : Nat} (h : tr σ H (cPar i j nx σ)) : tPar i j tr ⟨nx, rt, bk, ct⟩ σ H := h
theorem e_par {i j : Nat} {v w : V} (h : nx ((σ.set i (some v)).set j (some w)) H) : cPar i j nx σ [v, w] H := ⟨v, w, rfl, h⟩
/-- loops -/
def cFor (K : PySem.W.Frag) (g : TG) (tb : TS) (D : Ends) (σ : L2.St) : VK := fun x H1 => ∃ a, x = .ref a ∧ (∃ xs, SqL K H1 a xs) ∧
  ∃ W : Nat → Nat → L2.St → Hp → Prop, (∃ m, W 0 m σ H1) ∧ ∀ i m σ H, W i m σ H →
  ((Itl K a).stop i H ∧ D.nx σ H) ∨ ((Itl K a).go i H ∧ ∃ N : L2.St → Hp → Prop, (∀ σ' H', N σ' H' → ∃ m', m' < m ∧ W (i + 1) m' σ' H') ∧ ∀ x H', (Itl K a).yld i H x H' → g x σ H' fun σ2 H2 => tb { D with nx := N, ct := N, bk := D.nx } σ2 H2)
theorem k_for {tl : TE} (h : tl σ H (cFor K g t D σ)) : tFor (iList K tl) g t D σ H := h
theorem c_for {a : Addr} {xs : List V} (Pv : Nat → L2.St → Hp → Prop) (h0 : Pv 0 σ H) (hl : ∀ i σ H, i ≤ xs.length → Pv i σ H → SqL K H a xs)
    (hs : ∀ i x σ H, xs[i]? = some x → Pv i σ H → g x σ H fun σ2 H2 => t ⟨Pv (i + 1), rt, nx, Pv (i + 1)⟩ σ2 H2) (hd : ∀ σ H, Pv xs.length σ H → nx σ H) : cFor K g t ⟨nx, rt, bk, ct⟩ σ (.ref a) H :=
  ⟨a, rfl, ⟨xs, hl 0 σ H (Nat.zero_le _) h0⟩, for_list (D := ⟨nx, rt, bk, ct⟩) Pv h0 hl hs hd⟩
def cForT (K : PySem.W.Frag) (g : TG) (tb : TS) (D : Ends) (σ : L2.St) : VK := fun x H1 => ∃ a, x = .ref a ∧ (∃ xs, SqT K H1 a xs) ∧
  ∃ W : Nat → Nat → L2.St → Hp → Prop, (∃ m, W 0 m σ H1) ∧ ∀ i m σ H, W i m σ H →
  ((Itt K a).stop i H ∧ D.nx σ H) ∨ ((Itt K a).go i H ∧ ∃ N : L2.St → Hp → Prop, (∀ σ' H', N σ' H' → ∃ m', m' < m ∧ W (i + 1) m' σ' H') ∧ ∀ x H', (Itt K a).yld i H x H' → g x σ H' fun σ2 H2 => tb { D with nx := N, ct := N, bk := D.nx } σ2 H2)
theorem k_forT {tl : TE} (h : tl σ H (cForT K g t D σ)) : tFor (iTup K tl) g t D σ H := h
theorem c_forT {a : Addr} {xs : List V} (Pv : Nat → L2.St → Hp → Prop) (h0 : Pv 0 σ H) (hl : ∀ i σ H, i ≤ xs.length → Pv i σ H → SqT K H a xs)
    (hs : ∀ i x σ H, xs[i]? = some x → Pv i σ H → g x σ H fun σ2 H2 => t ⟨Pv (i + 1), rt, nx, Pv (i + 1)⟩ σ2 H2) (hd : ∀ σ H, Pv xs.length σ H → nx σ H) : cForT K g t ⟨nx, rt, bk, ct⟩ σ (.ref a) H :=
  ⟨a, rfl, ⟨xs, hl 0 σ H (Nat.zero_le _) h0⟩, for_tup (D := ⟨nx, rt, bk, ct⟩) Pv h0 hl hs hd⟩
def cForR (g : TG) (tb : TS) (D : Ends) (σ : L2.St) : List V → Hp → Prop := fun vs H1 => ∃ j : Int, vs = [.int j] ∧ -(2 ^ 62) ≤ j ∧ j < 2 ^ 62 ∧
  ∃ W : Nat → Nat → L2.St → Hp → Prop, (∃ m, W 0 m σ H1) ∧ ∀ i m σ H, W i m σ H →
  ((Itr 0 j.toNat).stop i H ∧ D.nx σ H) ∨ ((Itr 0 j.toNat).go i H ∧ ∃ N : L2.St → Hp → Prop, (∀ σ' H', N σ' H' → ∃ m', m' < m ∧ W (i + 1) m' σ' H') ∧ ∀ x H', (Itr 0 j.toNat).yld i H x H' → g x σ H' fun σ2 H2 => tb { D with nx := N, ct := N, bk := D.nx } σ2 H2)
theorem k_forR (h : tr σ H (cForR g t D σ)) : tFor (iRng1 tr) g t D σ H := h
theorem c_forR {n : Int} (hn : -100000 ≤ n ∧ n ≤ 100000) (Pv : Nat → L2.St → Hp → Prop) (h0 : Pv 0 σ H)
    (hs : ∀ (i : Nat) σ H, (i : Int) < n → Pv i σ H → g (.int (i : Int)) σ H fun σ2 H2 => t ⟨Pv (i + 1), rt, nx, Pv (i + 1)⟩ σ2 H2) (hd : ∀ σ H, Pv n.toNat σ H → nx σ H) : cForR g t ⟨nx, rt, bk, ct⟩ σ [.int n] H :=
  ⟨n, rfl, by omega, by omega, for_range (D := ⟨nx, rt, bk, ct⟩) (lo := 0) Pv h0 (fun i σ H hi p => by
    rw [show (0 : Int) + (i : Int) = (i : Int) from Int.zero_add _]
    exact hs i σ H (by omega) p) hd⟩
theorem k_var (h : σ[i]? = some (some v)) (k : Q v H) : tVar i σ H Q := ⟨v, h, k⟩
theorem k_c (h : Q v H) : tC v σ H Q := h
theorem k_op {r : R2} (h : ta σ H fun x H1 => tb σ H1 fun y H2 => r x y H2 Q) : tOp r ta tb σ H Q := h
theorem k_un {r : V → Hp → VK → Prop} (h : ta σ H fun x H1 => r x H1 Q) : tUn r ta σ H Q := h
def cCh (r' : R2) (tc : TE) (σ : L2.St) (y : V) (Q : VK) : VK := fun z H3 => ∃ k, z = .bl k ∧ (if k = true then tc σ H3 fun w' H4 => r' y w' H4 Q else Q (.bl false) H3)
theorem k_chain {r r' : R2} (h : ta σ H fun x H1 => tb σ H1 fun y H2 => r x y H2 (cCh r' tc σ y Q)) : tChain r r' ta tb tc σ H Q := h
theorem c_ch {r' : R2} {y : V} {b : Bool} (h1 : b = true → tc σ H fun w' H4 => r' y w' H4 Q) (h2 : b = false → Q (.bl false) H) : cCh r' tc σ y Q (.bl b) H := ⟨b, rfl, by
  cases b with
  | true => exact h1 rfl
  | false => exact h2 rfl⟩
def cT (Q : Bool → Hp → Prop) : VK := fun x H' => ∃ k, x = .bl k ∧ Q k H'
theorem k_test {Q : Bool → Hp → Prop} (h : te σ H (cT Q)) : tTest te σ H Q := h
theorem k_tB {Q : Bool → Hp → Prop} (h : te σ H (cT Q)) : tB te σ H Q := h
theorem e_bl {Q : Bool → Hp → Prop} {b : Bool} (h : Q b H) : cT Q (.bl b) H := ⟨b, rfl, h⟩
def cNt (Q : Bool → Hp → Prop) : Bool → Hp → Prop := fun c H1 => Q (!c) H1
theorem k_not {Q : Bool → Hp → Prop} (h : tt σ H (cNt Q)) : tNot tt σ H Q := h
theorem c_nt {Q : Bool → Hp → Prop} {b : Bool} (h : Q (!b) H) : cNt Q b H := h
theorem c_ntT {Q : Bool → Hp → Prop} (h : Q false H) : cNt Q true H := h
theorem c_ntF {Q : Bool → Hp → Prop} (h : Q true H) : cNt Q false H := h
theorem c_ntD {Q : Bool → Hp → Prop} {p : Prop} [Decidable p] (h : Q (decide (¬ p)) H) : cNt Q (decide p) H := by
  show Q (!decide p) H
  rw [← decide_not]
  exact h
def cAnd (u : TT) (σ : L2.St) (Q : Bool → Hp → Prop) : Bool → Hp → Prop := fun c H1 => if c = true then u σ H1 Q else Q false H1
def cOr (u : TT) (σ : L2.St) (Q : Bool → Hp → Prop) : Bool → Hp → Prop := fun c H1 => if c = true then Q true H1 else u σ H1 Q
theorem k_and {Q : Bool → Hp → Prop} (h : tt σ H (cAnd tu σ Q)) : tAnd tt tu σ H Q := h
theorem k_or {Q : Bool → Hp → Prop} (h : tt σ H (cOr tu σ Q)) : tOr tt tu σ H Q := h
theorem c_and {Q : Bool → Hp → Prop} {b : Bool} (h1 : b = true → tu σ H Q) (h2 : b = false → Q false H) : cAnd tu σ Q b H := by
  cases b with
  | true => exact h1 rfl
  | false => exact h2 rfl
theorem c_or {Q : Bool → Hp → Prop} {b : Bool} (h1 : b = true → Q true H) (h2 : b = false → tu σ H Q) : cOr tu σ Q b H := by
  cases b with
  | true => exact h1 rfl
  | false => exact h2 rfl
/-- the second test's answer is told whatever the first is -/
theorem c_and' {Q : Bool → Hp → Prop} {b c : Bool} (h1 : ∀ Q', Q' c H → tu σ H Q') (h : Q (b && c) H) : cAnd tu σ Q b H := by
  cases b with
  | true => exact h1 _ h
  | false => exact h
theorem c_or' {Q : Bool → Hp → Prop} {b c : Bool} (h1 : ∀ Q', Q' c H → tu σ H Q') (h : Q (b || c) H) : cOr tu σ Q b H := by
  cases b with
  | true => exact h
  | false => exact h1 _ h
def cAndV (tb : TE) (σ : L2.St) (Q : VK) : VK := fun x H1 => ∃ c, x = .bl c ∧ if c = true then tb σ H1 Q else Q (.bl false) H1
def cOrV (tb : TE) (σ : L2.St) (Q : VK) : VK := fun x H1 => ∃ c, x = .bl c ∧ if c = true then Q (.bl true) H1 else tb σ H1 Q
def cNotV (Q : VK) : VK := fun x H1 => ∃ c, x = .bl c ∧ Q (.bl (!c)) H1
theorem k_andV (h : ta σ H (cAndV tb σ Q)) : tAndV ta tb σ H Q := h
theorem k_orV (h : ta σ H (cOrV tb σ Q)) : tOrV ta tb σ H Q := h
theorem e_andV {b : Bool} (h1 : b = true → tb σ H Q) (h2 : b = false → Q (.bl false) H) : cAndV tb σ Q (.bl b) H := ⟨b, rfl, by
  cases b with
  | true => exact h1 rfl
  | false => exact h2 rfl⟩
theorem e_orV {b : Bool} (h1 : b = true → Q (.bl true) H) (h2 : b = false → tb σ H Q) : cOrV tb σ Q (.bl b) H := ⟨b, rfl, by
  cases b with
  | true => exact h1 rfl
  | false => exact h2 rfl⟩
theorem k_notV (h : ta σ H (cNotV Q)) : tNotV ta σ H Q := h
def cIfE (ta tb : TE) (σ : L2.St) (Q : VK) : Bool → Hp → Prop := fun c H1 => if c = true then ta σ H1 Q else tb σ H1 Q
theorem k_ifE (h : tt σ H (cIfE ta tb σ Q)) : tIf tt ta tb σ H Q := h
theorem c_ifE {b : Bool} (h1 : b = true → ta σ H Q) (h2 : b = false → tb σ H Q) : cIfE ta tb σ Q b H := by
  cases b with
  | true => exact h1 rfl
  | false => exact h2 rfl
theorem c_ifEV {b : Bool} {v : V} (h1 : b = true → ∀ Q' : VK, Q' v H → ta σ H Q') (h2 : b = false → ∀ Q' : VK, Q' v H → tb σ H Q') (q : Q v H) : cIfE ta tb σ Q b H := by
  cases b with
  | true => exact h1 rfl _ q
  | false => exact h2 rfl _ q
theorem k_cons {Q : List V → Hp → Prop} (h : ta σ H fun x H1 => tr σ H1 fun xs H2 => Q (x :: xs) H2) : tCons ta tr σ H Q := h
theorem k_nil {Q : List V → Hp → Prop} (h : Q [] H) : tNil σ H Q := h
def cTup (Q : VK) : List V → Hp → Prop := fun xs H1 => xs.length ≤ sizeLine ∧ ∀ p, H1 p = none → Q (.ref p) (upd H1 p (.tup xs))
def cLst (Q : VK) : List V → Hp → Prop := fun xs H1 => xs.length ≤ sizeLine ∧ ∀ p, H1 p = none → Q (.ref p) (upd H1 p (.lst xs))
theorem k_tup (h : tr σ H (cTup Q)) : tTup tr σ H Q := h
theorem k_lst (h : tr σ H (cLst Q)) : tLst tr σ H Q := h
theorem k_call {sp : Sp} {dvs : List V} {E : XK} (h : tr σ H fun vs H1 => sp (vs ++ dvs) H1 Q E) : tCall sp dvs E tr σ H Q := h
theorem k_cb {r : List V → Hp → VK → Prop} (h : tr σ H fun vs H1 => r vs H1 Q) : tCB r tr σ H Q := h
theorem k_I0 {f : Int → Int → V} {a b : Int} (h : Q (f a b) H) : rI0 f (.int a) (.int b) H Q := ⟨a, b, rfl, rfl, h⟩
theorem k_I {C : Int → Int → Prop} {f : Int → Int → V} {a b : Int} (hc : C a b) (h : Q (f a b) H) : rI C f (.int a) (.int b) H Q := ⟨a, b, rfl, rfl, hc, h⟩
theorem k_U {f : Int → V} {a : Int} (h : Q (f a) H) : rU f (.int a) H Q := ⟨a, rfl, h⟩
theorem k_eq (hs : scal x y = true) (h : Q (.bl (decide (x = y))) H) : rEq x y H Q := ⟨hs, h⟩
theorem k_ne (hs : scal x y = true) (h : Q (.bl (!decide (x = y))) H) : rNe x y H Q := ⟨hs, h⟩
theorem k_eqI {a b : Int} (h : Q (.bl (decide (a = b))) H) : rEq (.int a) (.int b) H Q := ⟨rfl, by
  have e : decide (V.int a = V.int b) = decide (a = b) := by by_cases q : a = b <;> simp [q]
  rw [e]; exact h⟩
theorem k_neI {a b : Int} (h : Q (.bl (decide (a ≠ b))) H) : rNe (.int a) (.int b) H Q := ⟨rfl, by
  have e : (!decide (V.int a = V.int b)) = decide (a ≠ b) := by by_cases q : a = b <;> simp [q]
  rw [e]; exact h⟩
end

/-! ### answers that are known -/
section
variable {σ : L2.St} {H : Hp} {t u : TS} {D : Ends} {ta tb : TE} {tu : TT} {Q : VK} {x : V}
theorem k_eqS (hs : scal x x = true) (h : Q (.bl true) H) : rEq x x H Q := ⟨hs, by rw [decide_eq_true rfl]; exact h⟩
theorem k_neS (hs : scal x x = true) (h : Q (.bl false) H) : rNe x x H Q := ⟨hs, by rw [decide_eq_true rfl]; exact h⟩
theorem k_eqB {a b : Bool} (h : Q (.bl (decide (a = b))) H) : rEq (.bl a) (.bl b) H Q := ⟨rfl, by
  have e : decide (V.bl a = V.bl b) = decide (a = b) := by cases a <;> cases b <;> rfl
  rw [e]; exact h⟩
theorem e_andT (h : tb σ H Q) : cAndV tb σ Q (.bl true) H := ⟨true, rfl, h⟩
theorem e_andF (h : Q (.bl false) H) : cAndV tb σ Q (.bl false) H := ⟨false, rfl, h⟩
theorem e_orT (h : Q (.bl true) H) : cOrV tb σ Q (.bl true) H := ⟨true, rfl, h⟩
theorem e_orF (h : tb σ H Q) : cOrV tb σ Q (.bl false) H := ⟨false, rfl, h⟩
theorem e_notT (h : Q (.bl false) H) : cNotV Q (.bl true) H := ⟨true, rfl, h⟩
theorem e_notF (h : Q (.bl true) H) : cNotV Q (.bl false) H := ⟨false, rfl, h⟩
theorem e_notV {b : Bool} (h : Q (.bl (!b)) H) : cNotV Q (.bl b) H := ⟨b, rfl, h⟩
variable {Qb : Bool → Hp → Prop}
theorem c_andT (h : tu σ H Qb) : cAnd tu σ Qb true H := h
theorem c_andF (h : Qb false H) : cAnd tu σ Qb false H := h
theorem c_orT (h : Qb true H) : cOr tu σ Qb true H := h
theorem c_orF (h : tu σ H Qb) : cOr tu σ Qb false H := h
theorem c_ifET (h : ta σ H Q) : cIfE ta tb σ Q true H := h
theorem c_ifEF (h : tb σ H Q) : cIfE ta tb σ Q false H := h
def rIsNo : R2 := fun x y H Q => y = .non ∧ Q (.bl (decide (x = .non))) H
def rNotNo : R2 := fun x y H Q => y = .non ∧ Q (.bl (!decide (x = .non))) H
theorem op_isNo {X : Cx} : OpR X (compareOp .Is) rIsNo := op_isN
theorem op_notNo {X : Cx} : OpR X (compareOp .IsNot) rNotNo := op_notN
theorem k_isY (h : Q (.bl true) H) : rIsNo .non .non H Q := ⟨rfl, h⟩
theorem k_isX (hx : x ≠ .non) (h : Q (.bl false) H) : rIsNo x .non H Q := ⟨rfl, by rw [decide_eq_false hx]; exact h⟩
theorem k_ntY (h : Q (.bl false) H) : rNotNo .non .non H Q := ⟨rfl, h⟩
theorem k_ntX (hx : x ≠ .non) (h : Q (.bl true) H) : rNotNo x .non H Q := ⟨rfl, by rw [decide_eq_false hx]; exact h⟩
end

/-! ### defs, methods, classes by name -/
section
variable (P : Program) (w : World) (K : PySem.W.Frag) (mg : Str → Option Value) (base : Heap) (CX : CXT)
/-- a def of the top, as it is called: the name x, k the level -/
structure Cal (k : Nat) (x : Str) (ps : List Str) (sp : Sp) : Prop where
  ex : ∃ (f : Addr) (fd : FuncData), FnOk P w K mg base CX k f fd ps sp ∧ Binds K fd ps [] ∧ PySem.W.keepIn K (.ref f) = true ∧ mg x = some (.ref f)
/-- a method of the class at C -/
structure CalM (C : Addr) (k : Nat) (m : Str) (ps : List Str) (sp : Sp) : Prop where
  ex : ∃ (f : Addr) (fd : FuncData), FnOk P w K mg base CX k f fd ps sp ∧ Binds K fd ps [] ∧ Meth K C m f
/-- the class at C, called by the name x; sp: its __init__ 's -/
structure CalC (C : Addr) (k : Nat) (x : Str) (ps : List Str) (sp : Sp) : Prop where
  ex : ∃ (f : Addr) (fd : FuncData), FnOk P w K mg base CX k f fd ps sp ∧ Binds K fd ps [] ∧ Mk K C f ∧ mg x = some (.ref C)
end
section
variable {X : Cx} {CX : CXT} {k : Nat} {C : Addr} {ps : List Str} {sp : Sp} {E : XK} {x m : Str} {p pos apos : Pos} {e o : Expr} {es : List Expr} {ta : TE} {t : TA}
theorem pe_cal (c : Cal X.prog X.w X.K X.mg X.base CX k x ps sp) (hr : Room k X.A) (hx : Passes CX X E) (ha : PA X (e :: es) t) (hg : Gl X x := by rfl) (hdb : (x == ("__debug__" : Str)) = false := by decide)
    (he : starEach (e :: es) X.env = (false, eval e X.env) :: starEach es X.env := by rfl) (hpl : (backTo pos (starEach es X.env)).any (·.1) = false := by rfl) :
    PE X (.Call (.Name x p) (e :: es) [] pos) (tCall sp [] E t) := by
  obtain ⟨f, fd, F, b, kp, hm⟩ := c.ex
  exact pe_call F hr hg hm kp b .nil hx ha hdb he hpl
theorem pe_cal0 (c : Cal X.prog X.w X.K X.mg X.base CX k x ps sp) (hr : Room k X.A) (hx : Passes CX X E) (hg : Gl X x := by rfl) (hdb : (x == ("__debug__" : Str)) = false := by decide) :
    PE X (.Call (.Name x p) [] [] pos) (tCall sp [] E tNil) := by
  obtain ⟨f, fd, F, b, kp, hm⟩ := c.ex
  exact pe_call0 F hr hg hm kp b .nil hx hdb
theorem pe_calM {pl : Sem Bool} (he : PE X o ta) (c : Cls X.K C) (cm : CalM X.prog X.w X.K X.mg X.base CX C k m ps sp) (hr : Room k X.A) (hx : Passes CX X E) (ha : PA X (e :: es) t)
    (hst : starEach (e :: es) X.env = (false, eval e X.env) :: starEach es X.env := by rfl) (hpl : (backTo pos (starEach es X.env)).any (·.1) = false := by rfl)
    (ht : eval (.Call (.Attribute o m apos) (e :: es) [] pos) X.env = (do
      let ov ← eval o X.env
      standAt apos.atName
      let (f, first) ← holding [ov] (getMethod ov m pl)
      callWith pos f first (backTo pos (starEach (e :: es) X.env)) (backToKw pos (keywordEach [] X.env))) := by rfl) :
    PE X (.Call (.Attribute o m apos) (e :: es) [] pos) (tMeth C m sp [] E ta t) := by
  obtain ⟨f, fd, F, b, M⟩ := cm.ex
  exact pe_meth he c M F hr b .nil hx ha hst hpl ht
theorem pe_calM0 {pl : Sem Bool} (he : PE X o ta) (c : Cls X.K C) (cm : CalM X.prog X.w X.K X.mg X.base CX C k m ps sp) (hr : Room k X.A) (hx : Passes CX X E)
    (ht : eval (.Call (.Attribute o m apos) [] [] pos) X.env = (do
      let ov ← eval o X.env
      standAt apos.atName
      let (f, first) ← holding [ov] (getMethod ov m pl)
      callWith pos f first (backTo pos (starEach [] X.env)) (backToKw pos (keywordEach [] X.env))) := by rfl) :
    PE X (.Call (.Attribute o m apos) [] [] pos) (tMeth C m sp [] E ta tNil) := by
  obtain ⟨f, fd, F, b, M⟩ := cm.ex
  exact pe_meth0 he c M F hr b .nil hx ht
theorem pe_calC (c : CalC X.prog X.w X.K X.mg X.base CX C k x ps sp) (hr : Room (k + 1) X.A) (hx : Passes CX X E) (ha : PA X (e :: es) t) (hg : Gl X x := by rfl) (hdb : (x == ("__debug__" : Str)) = false := by decide)
    (he : starEach (e :: es) X.env = (false, eval e X.env) :: starEach es X.env := by rfl) (hpl : (backTo pos (starEach es X.env)).any (·.1) = false := by rfl) :
    PE X (.Call (.Name x p) (e :: es) [] pos) (tMake C sp [] E t) := by
  obtain ⟨f, fd, F, b, M, hm⟩ := c.ex
  exact pe_make M F hr hg hm b .nil hx ha hdb he hpl
end

/-! ### what is now, through the steps -/
section
variable {K : PySem.W.Frag} {D : Option Addr} {M : List Addr} {H0 H : Hp} {l : List Cel} {ts : List (Addr × List V)} {p a d : Addr} {o u : HO} {xs : List V} {Q : VK} {E : XK}
theorem g_tup (N : Now K D M H0 H l ts) (hl : xs.length ≤ 100000) (h : ∀ p H', Now K D M H0 H' l ((p, xs) :: ts) → Q (.ref p) H') : cTup Q xs H := ⟨Nat.le_trans hl (by decide), fun p hp => h p _ (N.newT hp)⟩
theorem g_lst (N : Now K D M H0 H l ts) (hl : xs.length ≤ 100000) (h : ∀ p H', Now K D M H0 H' (⟨true, p, .lst xs⟩ :: l) ts → Q (.ref p) H') : cLst Q xs H := ⟨Nat.le_trans hl (by decide), fun p hp => h p _ (N.newC hp trivial)⟩
/-- the dice's promise -/
def spNext (K : PySem.W.Frag) : Sp := fun vs H Q _ => ∃ (d : Addr) (n : Int), vs = [.ref d, .int n] ∧ Dice K H d ∧ 0 < n ∧ n < 1073741824 ∧ ∀ v H', Aft [d] H H' → Dice K H' d → 0 ≤ v → v < n → Q (.int v) H'
theorem g_next {n : Int} (N : Now K (some d) M H0 H l ts) (hn : 0 < n ∧ n < 1073741824) (h : ∀ v H', Now K (some d) M H0 H' l ts → 0 ≤ v → v < n → Q (.int v) H') : spNext K [.ref d, .int n] H Q E :=
  ⟨d, n, rfl, (N.dc d rfl).1, hn.1, hn.2, fun v H' A hd h0 h1 => h v H' (N.roll A hd) h0 h1⟩
end
end Ak
namespace Ak
open PySem PySem.Spec PyProof.Rows L2
/-! ### the built-ins stand, constants by name -/
structure Bt (mg : Str → Option Value) : Prop where
  m_len : mg "len" = none
  m_int : mg "int" = none
  m_isinstance : mg "isinstance" = none
  m_range : mg "range" = none
  m_sorted : mg "sorted" = none
  m_list : mg "list" = none
  m_tuple : mg "tuple" = none
  m_max : mg "max" = none
  m_min : mg "min" = none
  m_set : mg "set" = none
  m_str : mg "str" = none
  m_enumerate : mg "enumerate" = none
  m_bool : mg "bool" = none
  m_dict : mg "dict" = none
theorem pe_gint {X : Cx} {x : Str} {i : Int} {pos : Pos} (hg : Gl X x) (h : ∃ t, X.mg x = some (.int i t)) (hd : (x == ("__debug__" : Str)) = false := by decide) : PE X (.Name x pos) (tC (.int i)) := by
  obtain ⟨t, h⟩ := h
  exact pe_glob hg h ⟨t, rfl⟩ hd
theorem pe_gstr {X : Cx} {x : Str} {z : Str} {pos : Pos} (hg : Gl X x) (h : ∃ t, X.mg x = some (.str z t)) (hd : (x == ("__debug__" : Str)) = false := by decide) : PE X (.Name x pos) (tC (.str z)) := by
  obtain ⟨t, h⟩ := h
  exact pe_glob hg h ⟨t, rfl⟩ hd
theorem pe_gref {X : Cx} {x : Str} {a : Addr} {pos : Pos} (hg : Gl X x) (h : X.mg x = some (.ref a)) (hd : (x == ("__debug__" : Str)) = false := by decide) : PE X (.Name x pos) (tC (.ref a)) := pe_glob hg h rfl hd

/-! ### readings by name -/
section
variable {X : Cx} {K : PySem.W.Frag} {H : Hp} {Q : VK} {p : Addr} {xs : List V}
def rLn (K : PySem.W.Frag) : List V → Hp → VK → Prop := fun xs H Q => ∃ p ys, xs = [.ref p] ∧ (SqL K H p ys ∨ SqT K H p ys) ∧ Q (.int ys.length) H
theorem cr_ln : CallR X (.builtin "len") (rLn X.K) := call_len_seq
theorem g_lnL (h : SqL K H p xs) (q : Q (.int xs.length) H) : rLn K [.ref p] H Q := ⟨p, xs, rfl, .inl h, q⟩
theorem g_lnT (h : SqT K H p xs) (q : Q (.int xs.length) H) : rLn K [.ref p] H Q := ⟨p, xs, rfl, .inr h, q⟩
def rIntB : List V → Hp → VK → Prop := fun xs H Q => ∃ k, xs = [.bl k] ∧ Q (.int (if k then 1 else 0)) H
theorem cr_intB : CallR X (.type "int") rIntB := fun pins s σ H xs us Q I r h => call_int1 pins s σ H xs us Q I r (.inr h)
theorem g_intB {b : Bool} (q : Q (.int (if b then 1 else 0)) H) : rIntB [.bl b] H Q := ⟨b, rfl, q⟩
theorem g_ixL {i : Int} {v : V} (h : SqL K H p xs) (ha : atI xs i = some v) (q : Q v H) : rIxL K (.ref p) (.int i) H Q := ⟨p, xs, i, v, rfl, rfl, h, ha, q⟩
theorem g_ixT {i : Int} {v : V} (h : SqT K H p xs) (ha : atI xs i = some v) (q : Q v H) : rIxT K (.ref p) (.int i) H Q := ⟨p, xs, i, v, rfl, rfl, h, ha, q⟩
theorem g_setL {Q : Hp → Prop} {i : Int} {j : Nat} {v : V} (h : H p = some (.lst xs)) (hi : ixN xs.length i = some j) (q : Q (upd H p (.lst (xs.set j v)))) : rSetL (.ref p) (.int i) v H Q := ⟨p, xs, i, j, rfl, rfl, h, hi, q⟩
section
variable {D : Option Addr} {M : List Addr} {H0 : Hp} {l : List Cel} {ts : List (Addr × List V)} {c0 c1 c2 c3 : Cel} {i : Int} {j : Nat} {v : V} {Qh : Hp → Prop}
theorem g_set0 (N : Now K D M H0 H (⟨true, p, .lst xs⟩ :: l) ts) (hi : ixN xs.length i = some j) (q : ∀ H', Now K D M H0 H' (⟨true, p, .lst (xs.set j v)⟩ :: l) ts → Qh H') : rSetL (.ref p) (.int i) v H Qh := g_setL (N.cell 0 rfl) hi (q _ (N.put 0 rfl trivial))
theorem g_set1 (N : Now K D M H0 H (c0 :: ⟨true, p, .lst xs⟩ :: l) ts) (hi : ixN xs.length i = some j) (q : ∀ H', Now K D M H0 H' (c0 :: ⟨true, p, .lst (xs.set j v)⟩ :: l) ts → Qh H') : rSetL (.ref p) (.int i) v H Qh := g_setL (N.cell 1 rfl) hi (q _ (N.put 1 rfl trivial))
def rApp (K : PySem.W.Frag) : V → List V → Hp → VK → Prop := fun x vs H Q => ∃ l xs y, x = .ref l ∧ vs = [y] ∧ H l = some (.lst xs) ∧ xs.length < sizeLine ∧ Q .non (upd H l (.lst (xs ++ [y])))
theorem g_app0 (N : Now K D M H0 H (⟨true, p, .lst xs⟩ :: l) ts) (hz : xs.length < 100000) (q : ∀ H', Now K D M H0 H' (⟨true, p, .lst (xs ++ [v])⟩ :: l) ts → Q .non H') : rAppend (.ref p) [v] H Q := ⟨p, xs, v, rfl, rfl, N.cell 0 rfl, Nat.lt_of_lt_of_le hz (by decide), q _ (N.put 0 rfl trivial)⟩
theorem g_app1 (N : Now K D M H0 H (c0 :: ⟨true, p, .lst xs⟩ :: l) ts) (hz : xs.length < 100000) (q : ∀ H', Now K D M H0 H' (c0 :: ⟨true, p, .lst (xs ++ [v])⟩ :: l) ts → Q .non H') : rAppend (.ref p) [v] H Q := ⟨p, xs, v, rfl, rfl, N.cell 1 rfl, Nat.lt_of_lt_of_le hz (by decide), q _ (N.put 1 rfl trivial)⟩
end
theorem k_gsub {σ : L2.St} {to ti : TE} {t : TSet} {v : V} {Q : L2.St → Hp → Prop} (h : to σ H fun o H1 => ti σ H1 fun i H2 => t o i v H2 fun H3 => Q σ H3) : gSub to ti t v σ H Q := h
end
/-! ### o.f = .. among several targets -/
def gAttr (K : PySem.W.Frag) (ta : TE) (f : Str) : TG := fun v σ H Q => ta σ H fun x H2 => ∃ a C dx fs, x = .ref a ∧ H2 a = some (.ins C dx fs) ∧ Cls K C ∧ NoAttr K C f ∧ fs.length < 1000 ∧ Q σ (upd H2 a (.ins C dx (putF f v fs)))
theorem pg_attr {X : Cx} {o : Expr} {f : Str} {pos : Pos} {ta : TE} (ha : PE X o ta) : PG X (.Attribute o f pos) (gAttr X.K ta f) := by
  refine ⟨fun pins s σ H v u Q I r h => ?_⟩
  refine PySem.W.kas_attr (thn (ha.run pins s σ H _ I h) fun ov s2 ⟨x, H2, I2, rx, a, C, dx, fs, ex, ea, c, n, l, q2⟩ => ?_)
  subst ex
  obtain rfl : ov = Value.ref a := rx
  exact setattr_ok I2 ea c n l r fun s3 I3 => ⟨σ, _, I3, q2⟩

/-! ### sorted of a dict with int keys, any number of them -/
def rSortedDA : List V → Hp → VK → Prop := fun xs H Q => ∃ (a : Addr) (kvs : List (Key × V)) (ks : List Int), xs = [.ref a] ∧ Rd H a (.dK kvs) ∧ kvs.map (·.1) = ks.map Sum.inl ∧
    ∀ (ys : List Int) (p : Addr), ys.Perm ks → ys.Pairwise (· ≤ ·) → H p = none → Q (.ref p) (upd H p (.lst (ys.map V.int)))
theorem call_sortedDA {X : Cx} (hcalm : X.calm = true) : CallR X (.builtin "sorted") rSortedDA := by
  intro pins s σ H xs us Q I r q
  obtain ⟨a, kvs, ks, ex, hd, hks, q⟩ := q
  subst ex
  obtain ⟨u, eu, rx⟩ := vals1 r
  subst eu
  cases rx
  obtain ⟨z, lo, vs, rel, dd⟩ := dk_rd I.hok hd
  obtain ⟨ep, hat⟩ := dd.dictAt
  have hkeys : vs.map (·.1) = ks.map Sum.inl := rel.keys.symm.trans hks
  have hl : vs.length = ks.length := by
    have e := congrArg List.length hkeys
    rw [List.length_map, List.length_map] at e
    exact e
  have hl2 : kvs.length = ks.length := by
    have e := congrArg List.length hks
    rw [List.length_map, List.length_map] at e
    exact e
  have h16 : vs.length ≤ sizeLine := by rw [hl, ← hl2]; exact z
  refine Calls.call_function_entry PyProof.Rows.kind_sorted PyProof.Rows.plain_sorted PyProof.Rows.entry_sorted (PyProof.Rows.args_sorted1 _) ?_
  unfold Builtin.«sorted»
  refine wpAny_bind (m := checkCount "sorted" 1 1 _) (wpAny_pure ?_)
  refine wpAny_bind (PySem.W.kdu_collect (A := X.A.in1) (PySem.W.kdl_dict (knd := mixKind X.prog X.w) (kvs := vs) (ep := ep) lo) (I.ok.hd hcalm) hat h16 fun h' tk acc hk hacc => ?_)
  have hal : acc.toList.length = ks.length := by rw [Array.length_toList, hacc.1, hl]
  have hS : IntsAre acc.toList ks := ints_each hal fun j v e => by
    obtain ⟨k, x, e1, e2⟩ := hacc.2 j v (by rw [← Array.getElem?_toList]; exact e)
    have e3 : (vs.map (·.1))[j]? = some k := by rw [List.getElem?_map, e1]; rfl
    rw [hkeys, List.getElem?_map] at e3
    cases e4 : ks[j]? with
    | none => rw [e4] at e3; cases e3
    | some y =>
      rw [e4] at e3
      have e5 : Sum.inl y = k := Option.some.inj e3
      subst e5
      rcases keyIs_shape (show keyIs (Sum.inl y) v = true from e2) with ⟨i, t, ek, ev⟩ | ⟨z, t, ek, ev⟩
      · cases ek
        exact ⟨y, t, rfl, ev⟩
      · cases ek
  have I1 : Inv X pins σ H { s with heap := h', toks := tk } := I.kept hk
  have hz2 : acc.toList.length ≤ sizeLine := by rw [hal, ← hl]; exact h16
  refine wpAny_bind (wpAny_newList ?_ hz2)
  have hoL : (h'.push (seqObj "list" acc.toList.toArray 0)).get? h'.objs.size = some (seqObj "list" acc.toList.toArray 0) := Heap.get?_push_size _ rfl
  show wpAny _ _ _ _ _ { s with heap := h'.push (seqObj "list" acc.toList.toArray 0), toks := tk }
  refine wpAny_bind (wpAny_holding (wpAny_call_entry PyProof.Rows.slot_list_sort ⟨_, hoL, rfl⟩ PyProof.Rows.entry_list_sort
    (SrtO.list_sort_ord (s := { s with heap := h'.push (seqObj "list" acc.toList.toArray 0), toks := tk }) SrtO.swo_int hoL hz2 (fun h2 => SrtO.ints_sortable hS h2) fun out h1 h2 => ⟨_, rfl, ?_⟩) (PyProof.Rows.args_list_sort _)))
  obtain ⟨k1, k2, k3⟩ := SrtO.ints_out hS h1 h2
  obtain ⟨e', he'⟩ := PyProof.Rows.sortedHeap_at (vs := acc.toList) (out := out.toArray) hoL
  have hlen : ((out.map SrtO.iv).map V.int).length ≤ sizeLine := by
    rw [List.length_map, k2.length_eq, ← hl]
    exact h16
  refine wpAny_pure ⟨_, rfl, .ref h'.objs.size, upd H h'.objs.size (.lst ((out.map SrtO.iv).map V.int)), I1.laid (t' := tk) (fun b u e => ?_) (Nat.le_refl _)
    (show ObjOk X.prog X.w _ _ _ (.lst ((out.map SrtO.iv).map V.int)) from ⟨hlen, out, e', vals_of_ints k1, he'⟩), rfl, q _ _ k2 k3 (I1.hok.fresh (Nat.le_refl _))⟩
  have hb : b < h'.objs.size := Heap.lt_size e
  rw [PyProof.Rows.sortedHeap_old (Nat.ne_of_lt hb) (by rw [size_push']; exact Nat.lt_succ_of_lt hb)]
  exact Heap.get?_push_of_some _ e

/-! ### a def of the text by name -/
def Bd (x qual : Str) (st : Stmt) (ps : List Str) : Prop := ∀ (kV doc pm : Value) (an : Option Addr) (cdv ct : Value) (us : List Value), us.length = ps.length → bindArgs (PySem.W.fnOf x qual (defArgs st) (defBody st) (defScope st) .none kV doc pm an cdv ct) ⟨us, []⟩ = pure (ps.zip us)
structure Def (K : PySem.W.Frag) (mg : Str → Option Value) (x : Str) (st : Stmt) : Prop where
  ex : ∃ (f : Addr) (fd : FuncData), FunD K x x (defArgs st) (defBody st) (defScope st) [] [] f fd ∧ mg x = some (.ref f)
structure DefM (K : PySem.W.Frag) (C : Addr) (m qual : Str) (st : Stmt) : Prop where
  ex : ∃ (f : Addr) (fd : FuncData), FunD K m qual (defArgs st) (defBody st) (defScope st) [] [] f fd ∧ Meth K C m f
structure DefC (K : PySem.W.Frag) (mg : Str → Option Value) (C : Addr) (x qual : Str) (st : Stmt) : Prop where
  ex : ∃ (f : Addr) (fd : FuncData), FunD K "__init__" qual (defArgs st) (defBody st) (defScope st) [] [] f fd ∧ Mk K C f ∧ mg x = some (.ref C)
section
variable {P : Program} {w : World} {K : PySem.W.Frag} {mg : Str → Option Value} {base : Heap} {CX : CXT} {x m qual : Str} {st : Stmt} {N ps : List Str} {k : Nat} {sp : Sp} {C : Addr}
theorem Def.ok (F : Def K mg x st) (S : FnScope N ps (defScope st)) (b : Bd x x st ps) (len : ∀ vs H Q E, sp vs H Q E → vs.length = ps.length)
    (hbody : ∀ (f : Addr) (cdv : Value) (A : Around) (outer : List Env) (s : Shared) (H : Hp) (vs : List V) (Q : VK) (E : XK), Room k (A.deeper (envOfC x (defScope st) s.heap.objs.size f cdv)) → sp vs H Q E →
      ∃ t, PSs (cxOf CX P w K mg base N x (defScope st) f cdv A outer s H E) (defBody st) t ∧ t { nx := fun _ H' => Q .non H', rt := Q } (start N vs) H) : Cal P w K mg base CX (k + 1) x ps sp := by
  obtain ⟨f, fd, F, hm⟩ := F.ex
  exact ⟨f, fd, F.ok S len (hbody f), F.bindsN b, F.kp, hm⟩
theorem DefM.ok (F : DefM K C m qual st) (S : FnScope N ps (defScope st)) (b : Bd m qual st ps) (len : ∀ vs H Q E, sp vs H Q E → vs.length = ps.length)
    (hbody : ∀ (f : Addr) (cdv : Value) (A : Around) (outer : List Env) (s : Shared) (H : Hp) (vs : List V) (Q : VK) (E : XK), Room k (A.deeper (envOfC qual (defScope st) s.heap.objs.size f cdv)) → sp vs H Q E →
      ∃ t, PSs (cxOf CX P w K mg base N qual (defScope st) f cdv A outer s H E) (defBody st) t ∧ t { nx := fun _ H' => Q .non H', rt := Q } (start N vs) H) : CalM P w K mg base CX C (k + 1) m ps sp := by
  obtain ⟨f, fd, F, hm⟩ := F.ex
  exact ⟨f, fd, F.ok S len (hbody f), F.bindsN b, hm⟩
theorem DefC.ok (F : DefC K mg C x qual st) (S : FnScope N ps (defScope st)) (b : Bd "__init__" qual st ps) (len : ∀ vs H Q E, sp vs H Q E → vs.length = ps.length)
    (hbody : ∀ (f : Addr) (cdv : Value) (A : Around) (outer : List Env) (s : Shared) (H : Hp) (vs : List V) (Q : VK) (E : XK), Room k (A.deeper (envOfC qual (defScope st) s.heap.objs.size f cdv)) → sp vs H Q E →
      ∃ t, PSs (cxOf CX P w K mg base N qual (defScope st) f cdv A outer s H E) (defBody st) t ∧ t { nx := fun _ H' => Q .non H', rt := Q } (start N vs) H) : CalC P w K mg base CX C (k + 1) x ps sp := by
  obtain ⟨f, fd, F, M, hm⟩ := F.ex
  exact ⟨f, fd, F.ok S len (hbody f), F.bindsN b, M, hm⟩
end
end Ak
namespace Ak
open PySem PySem.Spec PyProof.Rows L2
/-! ### data: what _law_like compares -/
section
variable {K : PySem.W.Frag} {H H' : Hp} {M : List Addr}
theorem Aft.sql (e : Aft [] H H') {a : Addr} {xs : List V} (h : SqL K H a xs) : SqL K H' a xs := by
  rcases h with (h | ⟨o, h⟩) | h
  · exact .inl (.inl (e.k _ _ h (by simp)))
  · exact .inl (.inr ⟨o, e.z _ _ _ h⟩)
  · exact .inr h
mutual
theorem dp_keep (e : Aft [] H H') : ∀ {d : PyData} {v : V}, Dp K H v d → Dp K H' v d
  | .none, _, h => by cases h; exact .non
  | .bool b, _, h => by cases h; exact .bl b
  | .int i, _, h => by cases h; exact .int i
  | .str x, _, h => by cases h; exact .str x
  | .list ds, _, h => by
    cases h with
    | lst h1 h2 => exact .lst (e.sql h1) (dpa_keep e h2)
  | .tuple ds, _, h => by
    cases h with
    | tup h1 h2 => exact .tup (e.sqt h1) (dpa_keep e h2)
theorem dpa_keep (e : Aft [] H H') : ∀ {ds : List PyData} {vs : List V}, DpAll K H vs ds → DpAll K H' vs ds
  | [], _, h => by cases h; exact .nil
  | d :: ds, _, h => by
    cases h with
    | cons h1 h2 => exact .cons (dp_keep e h1) (dpa_keep e h2)
end
theorem dpa_len : ∀ {ds : List PyData} {vs : List V}, DpAll K H vs ds → vs.length = ds.length
  | _, _, .nil => rfl
  | _, _, .cons _ t => congrArg (· + 1) (dpa_len t)
theorem dpa_at : ∀ {ds : List PyData} {vs : List V}, DpAll K H vs ds → ∀ (i : Nat) (h : i < ds.length), ∃ v, vs[i]? = some v ∧ Dp K H v ds[i]
  | _, _, .nil, i, h => absurd h (by simp)
  | _, _, .cons h1 _, 0, _ => ⟨_, rfl, h1⟩
  | _, _, .cons _ t, i + 1, h => by
    obtain ⟨v, h1, h2⟩ := dpa_at t i (by simpa using h)
    exact ⟨v, by simpa using h1, by simpa using h2⟩
theorem dpa_ints : ∀ ns : List Int, DpAll K H (ns.map V.int) (ns.map PyData.int)
  | [] => .nil
  | n :: ns => .cons (.int n) (dpa_ints ns)
/-- how deep, how long -/
def dOk : Nat → PyData → Prop
  | 0, .list _ => False
  | 0, .tuple _ => False
  | n + 1, .list ds => ds.length ≤ 100000 ∧ ∀ d ∈ ds, dOk n d
  | n + 1, .tuple ds => ds.length ≤ 100000 ∧ ∀ d ∈ ds, dOk n d
  | _, _ => True
/-- what isinstance asks -/
theorem sql_ty {a : Addr} {xs : List V} (h : SqL K H a xs) : TyX K H (.ref a) (.type "list") := by
  rcases h with (h | ⟨o, h⟩) | ⟨o, its, n, h1, h2, _⟩
  · exact .base (.lst h)
  · exact .base (.frz h)
  · exact .kList h1 h2
theorem sqt_ty {a : Addr} {xs : List V} (h : SqT K H a xs) : TyX K H (.ref a) (.type "tuple") := by
  rcases h with (h | ⟨o, h⟩) | ⟨o, its, n, h1, h2, _⟩
  · exact .base (.tup h)
  · exact .fTuple h
  · exact .kTuple h1 h2
theorem tyx_non : TyX K H .non (.type "NoneType") := .base .non
theorem tyx_bl {b : Bool} : TyX K H (.bl b) (.type "bool") := .base (.bl b)
theorem tyx_int {b : Int} : TyX K H (.int b) (.type "int") := .base (.int b)
theorem tyx_str {b : Str} : TyX K H (.str b) (.type "str") := .base (.str b)
theorem g_isi {x : V} {a b : String} {r : Bool} {Q : VK} (ht : TyX K H x (.type a)) (hk : kitB a b = some r) (q : Q (.bl r) H) : rIsi K [x, .ty b] H Q := ⟨x, .ty b, .type a, .type b, r, rfl, .ty b, ht, kit_ty hk, q⟩
theorem g_ixQ {p : Addr} {xs : List V} {i : Int} {v : V} {Q : VK} (h : SqL K H p xs ∨ SqT K H p xs) (ha : atI xs i = some v) (q : Q v H) : rIx K (.ref p) (.int i) H Q := by
  rcases h with h | h
  · exact .inl ⟨p, xs, i, v, rfl, rfl, h, ha, q⟩
  · exact .inr (.inl ⟨p, xs, i, v, rfl, rfl, h, ha, q⟩)
/-- the promise, by depth -/
def spLike (K : PySem.W.Frag) : Nat → Sp
  | 0 => fun _ _ _ _ => False
  | n + 1 => fun vs H Q _ => ∃ (x y : V) (d : PyData), vs = [x, y] ∧ Dp K H x d ∧ Dp K H y d ∧ dOk n d ∧ ∀ H', Aft [] H H' → Q (.bl true) H'
theorem kb_bb : kitB "bool" "bool" = some true := by decide +kernel
theorem kb_ib : kitB "int" "bool" = some false := by decide +kernel
theorem kb_sb : kitB "str" "bool" = some false := by decide +kernel
theorem kb_nb : kitB "NoneType" "bool" = some false := by decide +kernel
theorem kb_lb : kitB "list" "bool" = some false := by decide +kernel
theorem kb_tb : kitB "tuple" "bool" = some false := by decide +kernel
theorem kb_is : kitB "int" "str" = some false := by decide +kernel
theorem kb_ss : kitB "str" "str" = some true := by decide +kernel
theorem kb_ns : kitB "NoneType" "str" = some false := by decide +kernel
theorem kb_ls : kitB "list" "str" = some false := by decide +kernel
theorem kb_ts : kitB "tuple" "str" = some false := by decide +kernel
theorem kb_ii : kitB "int" "int" = some true := by decide +kernel
theorem kb_ni : kitB "NoneType" "int" = some false := by decide +kernel
theorem kb_li : kitB "list" "int" = some false := by decide +kernel
theorem kb_ti : kitB "tuple" "int" = some false := by decide +kernel
theorem kb_ld : kitB "list" "dict" = some false := by decide +kernel
theorem kb_td : kitB "tuple" "dict" = some false := by decide +kernel
theorem kb_lt : kitB "list" "tuple" = some false := by decide +kernel
theorem kb_tt : kitB "tuple" "tuple" = some true := by decide +kernel
theorem kb_ll : kitB "list" "list" = some true := by decide +kernel
theorem kb_tl : kitB "tuple" "list" = some false := by decide +kernel
theorem kb_il : kitB "int" "list" = some false := by decide +kernel
end
/-! ### the rules with their written part told -/
section
variable {X : Cx} {e o : Expr} {es : List Expr} {te to tl ta tv : TE} {t : TA} {f : Str} {pos apos cpos pos' : Pos} {name : Str} {T id : String} {r : V → List V → Hp → VK → Prop} {value : Expr} {tg : Expr} {l : Expr}
theorem ix_listK (K : PySem.W.Frag) (h : X.K = K) : IxR X (rIxL K) := h ▸ ix_list
theorem ix_tupK (K : PySem.W.Frag) (h : X.K = K) : IxR X (rIxT K) := h ▸ ix_tup
theorem ix_seqK (K : PySem.W.Frag) (h : X.K = K) : IxR X (rIx K) := h ▸ ix_seq
theorem op_in_seqK (K : PySem.W.Frag) (h : X.K = K) : OpR X (compareOp .In) (rIn K false) := h ▸ op_in_seq
theorem op_notIn_seqK (K : PySem.W.Frag) (h : X.K = K) : OpR X (compareOp .NotIn) (rIn K true) := h ▸ op_notIn_seq
theorem cr_lnK (K : PySem.W.Frag) (h : X.K = K) : CallR X (.builtin "len") (rLn K) := h ▸ cr_ln
theorem call_isiQ (K : PySem.W.Frag) (h : X.K = K) : CallR X (.builtin "isinstance") (rIsi K) := h ▸ call_isi
theorem sl_listK (K : PySem.W.Frag) (h : X.K = K) : SlR X (rSlL K) := h ▸ sl_list
theorem op_eqDK (K : PySem.W.Frag) (h : X.K = K) (hu : X.A.units + 64 < cLine) : OpR X (compareOp .Eq) (rEqD K) := h ▸ op_eqD hu
theorem op_neDK (K : PySem.W.Frag) (h : X.K = K) (hu : X.A.units + 64 < cLine) : OpR X (compareOp .NotEq) (rNeD K) := h ▸ op_neD hu
theorem pe_fldK (K : PySem.W.Frag) (h : X.K = K) (he : PE X e te) (hb : attributeBase e f X.env (eval e X.env) = eval e X.env) : PE X (.Attribute e f pos) (tFld K te f) := h ▸ pe_fld he hb
theorem pe_bm0K (K : PySem.W.Frag) (h : X.K = K) (pa : PlainAttrs T) (slot : Slot T name id) (hty : typeOf (.builtin id) = pure (.type "method_descriptor")) (hm : MtR X id r) (ho : PE X o to)
    (hbase : attributeBase o name X.env (eval o X.env) = eval o X.env := by rfl) (hline : (apos.endLine == cpos.line) = true := by rfl) : PE X (.Call (.Attribute o name apos) [] [] cpos) (tBM0 K T r to) := h ▸ pe_bm0 pa slot hty hm ho hbase hline
theorem pe_bmK (K : PySem.W.Frag) (h : X.K = K) (pa : PlainAttrs T) (slot : Slot T name id) (hty : typeOf (.builtin id) = pure (.type "method_descriptor")) (hm : MtR X id r) (ho : PE X o to) (ha : PA X (e :: es) t)
    (hbase : attributeBase o name X.env (eval o X.env) = eval o X.env := by rfl)
    (hfew : ((backTo cpos (starEach (e :: es) X.env)).all (fun x => !x.1) && (backToKw cpos (keywordEach [] X.env)).all (fun x => x.1.isSome)
      && decide ((e :: es).length + ([] : List Keyword).length + (if ([] : List Keyword).isEmpty then 0 else 1) < 30)) = true := by rfl)
    (hline : (apos.endLine == cpos.line) = true := by rfl) (hs : starEach (e :: es) X.env = (false, eval e X.env) :: starEach es X.env := by rfl) (hplain : (backTo cpos (starEach es X.env)).any (·.1) = false := by rfl) :
    PE X (.Call (.Attribute o name apos) (e :: es) [] cpos) (tBM K T r to t) := h ▸ pe_bm pa slot hty hm ho ha hbase hfew hline hs hplain
theorem ps_fldK (K : PySem.W.Frag) (h : X.K = K) (ha : PE X o ta) (hv : PE X value tv) (hs : swapsWith value (some (.Attribute o f pos')) pos.line X.env = pure false) : PS X (.Assign [.Attribute o f pos'] value pos) (sFld K ta tv f) := h ▸ ps_fld ha hv hs
theorem pi_listK (K : PySem.W.Frag) (h : X.K = K) (hl : PE X l tl) : PI X tg l (iList K tl) := h ▸ pi_list hl
theorem pi_tupK (K : PySem.W.Frag) (h : X.K = K) (hl : PE X l tl) : PI X tg l (iTup K tl) := h ▸ pi_tup hl
theorem cr_sortedIK (K : PySem.W.Frag) (h : X.K = K) : CallR X (.builtin "sorted") (rSortedI K) := h ▸ cr_sortedI
end
/-- a def that is never called keeps what it likes -/
theorem cal_never {P : Program} {w : World} {K : PySem.W.Frag} {mg : Str → Option Value} {base : Heap} {CX : CXT} {x : Str} {st : Stmt} {ps : List Str} (F : Def K mg x st) (b : Bd x x st ps) : Cal P w K mg base CX 1 x ps (fun _ _ _ _ => False) := by
  obtain ⟨f, fd, F, hm⟩ := F.ex
  exact ⟨f, fd, ⟨fun _ _ _ _ h => h.elim, fun _ _ _ _ _ _ _ _ _ _ _ _ _ h => h.elim⟩, F.bindsN b, F.kp, hm⟩
theorem Cal.mono {P : Program} {w : World} {K : PySem.W.Frag} {mg : Str → Option Value} {base : Heap} {CX : CXT} {x : Str} {ps : List Str} {j k : Nat} {sp : Sp} (c : Cal P w K mg base CX j x ps sp) (h : j ≤ k) : Cal P w K mg base CX k x ps sp := by
  obtain ⟨f, fd, F, r⟩ := c.ex
  exact ⟨f, fd, F.mono h, r⟩
end Ak
namespace Ak
open PySem PySem.Spec PyProof.Rows L2
section
variable {K : PySem.W.Frag} {D : Option Addr} {M M' : List Addr} {H0 H H' : Hp} {l l' r fp fp' : List Cel} {ts ts' : List (Addr × List V)} {p q a d : Addr} {o u : HO} {xs : List V} {c : Cel} {w : Bool}
/-- an object that H does not know may change as it likes -/
theorem Aft.own (a : Aft M H H') (hp : H p = none) : Aft M H (upd H' p o) :=
  ⟨fun b v e hm => by rw [upd_ne (ne_of_none e hp)]; exact a.k b v e hm, fun b xs e => by rw [upd_ne (ne_of_none e hp)]; exact a.t b xs e, fun b v w e => by rw [upd_ne (ne_of_none e hp)]; exact a.z b v w e⟩
/-- something new that is no cell -/
theorem Now.alloc (N : Now K D M H0 H l ts) (hp : H p = none) : Now K D M H0 (upd H p o) l ts := N.pure (Aft.refl.new hp)
/-- a call, l = fp ++ r: fp becomes fp' -/
structure Aftr (fp fp' : List Cel) (H H' : Hp) : Prop where
  af : Aft (fp.map Cel.a) H H'
  nd : (fp'.map Cel.a).Nodup
  at_ : ∀ c ∈ fp', H' c.a = some c.o ∧ Mut (some c.o)
  nw : ∀ c ∈ fp', c.w = true ∧ (c.a ∈ fp.map Cel.a ∨ H c.a = none)
theorem Now.done (N : Now K D (fp.map Cel.a) H H' fp' ts) (hw : ∀ c ∈ fp', c.w = true) : Aftr fp fp' H H' :=
  ⟨N.af, N.nd, fun c hc => ⟨N.at_ c hc, N.mu c hc⟩, fun c hc => ⟨hw c hc, N.ow c hc (hw c hc)⟩⟩
theorem Now.call (N : Now K D M H0 H (fp ++ r) ts) (hw : ∀ c ∈ fp, c.w = true) (A : Aftr fp fp' H H') : Now K D M H0 H' (fp' ++ r) ts := by
  have nd := N.nd
  rw [List.map_append, List.nodup_append] at nd
  obtain ⟨nd1, nd2, dis⟩ := nd
  have mr : ∀ c ∈ r, c.a ∉ fp.map Cel.a := fun c hc m => dis _ m _ (List.mem_map.mpr ⟨c, hc, rfl⟩) rfl
  have fpw : ∀ a ∈ fp.map Cel.a, a ∈ M ∨ H0 a = none := fun a m => by
    obtain ⟨c, hc, rfl⟩ := List.mem_map.mp m
    exact N.ow c (List.mem_append_left _ hc) (hw c hc)
  refine ⟨?_, fun c hc => ?_, fun c hc => ?_, fun c hc hcw => ?_, fun q hq => A.af.t _ _ (N.tp q hq), N.af.call A.af fpw, fun d e => ?_⟩
  · rw [List.map_append, List.nodup_append]
    refine ⟨A.nd, nd2, fun a m b m' => ?_⟩
    rintro rfl
    obtain ⟨c, hc, rfl⟩ := List.mem_map.mp m
    obtain ⟨c', hc', e⟩ := List.mem_map.mp m'
    rcases (A.nw c hc).2 with z | z
    · exact mr c' hc' (e ▸ z)
    · have y := N.at_ c' (List.mem_append_right _ hc')
      rw [e, z] at y; cases y
  · rcases List.mem_append.mp hc with hc | hc
    · exact (A.at_ c hc).1
    · exact A.af.k _ _ (N.at_ c (List.mem_append_right _ hc)) (mr c hc)
  · rcases List.mem_append.mp hc with hc | hc
    · exact (A.at_ c hc).2
    · exact N.mu c (List.mem_append_right _ hc)
  · rcases List.mem_append.mp hc with hc | hc
    · rcases (A.nw c hc).2 with z | z
      · exact fpw _ z
      · by_cases m : c.a ∈ M
        · exact .inl m
        · exact .inr (N.af.free m z)
    · exact N.ow c (List.mem_append_right _ hc) hcw
  · obtain ⟨h1, h2, h3⟩ := N.dc d e
    rw [List.map_append, List.mem_append, not_or] at h3
    refine ⟨h1.keep A.af h3.1, h2, ?_⟩
    rw [List.map_append, List.mem_append, not_or]
    refine ⟨fun m => ?_, h3.2⟩
    obtain ⟨c, hc, e⟩ := List.mem_map.mp m
    rcases (A.nw c hc).2 with z | z
    · exact h3.1 (e ▸ z)
    · obtain ⟨ys, hy⟩ := h1.lst
      rw [e, hy] at z; cases z
/-- a call whose footprint is the front, written l = fp ++ r -/
theorem Now.perm (N : Now K D M H0 H l ts) (h : l'.Perm l) : Now K D M H0 H l' ts := N.sub l' (fun c hc => h.mem_iff.mp hc) ((h.map Cel.a).nodup_iff.mpr N.nd)
/-- some of the cells, by their places -/
theorem Now.sel (N : Now K D M H0 H l ts) (is : List Nat) (h : is.map (fun i => l[i]?) = l'.map some) (hn : is.Nodup) : Now K D M H0 H l' ts := by
  have at_ : ∀ (j : Nat) (c : Cel), l'[j]? = some c → ∃ i, is[j]? = some i ∧ l[i]? = some c := fun j c e => by
    have e1 : (l'.map some)[j]? = some (some c) := by rw [List.getElem?_map, e]; rfl
    rw [← h, List.getElem?_map] at e1
    cases e2 : is[j]? with
    | none => rw [e2] at e1; cases e1
    | some i => rw [e2] at e1; exact ⟨i, rfl, Option.some.inj e1⟩
  refine N.sub l' (fun c hc => ?_) ?_
  · obtain ⟨j, hj⟩ := List.getElem?_of_mem hc
    obtain ⟨i, _, e⟩ := at_ j c hj
    exact List.mem_of_getElem? e
  · refine List.pairwise_iff_getElem.mpr fun i j hi hj hij e => ?_
    have hi' : i < l'.length := by simpa using hi
    have hj' : j < l'.length := by simpa using hj
    rw [List.getElem_map, List.getElem_map] at e
    obtain ⟨a, ha, ea⟩ := at_ i _ (List.getElem?_eq_getElem hi')
    obtain ⟨b, hb, eb⟩ := at_ j _ (List.getElem?_eq_getElem hj')
    have q := nodup_at N.nd ea eb e
    subst q
    exact absurd (nd_ix hn ha hb) (by omega)
/-- a new cell that a call laid -/
theorem Now.grow (N : Now K D M H0 H l ts) (N' : Now K D M H0 H' l' ts') (hl : ∀ a ∈ l'.map Cel.a, a ∈ l.map Cel.a ∨ a ≠ q) (hq : H q = none) (h : H' q = some o) (hm : Mut (some o)) : Now K D M H0 H' (⟨true, q, o⟩ :: l') ts' where
  nd := List.nodup_cons.mpr ⟨fun m => (hl q m).elim (N.free hq) (fun z => z rfl), N'.nd⟩
  at_ := fun c hc => by
    rcases List.mem_cons.mp hc with e | hc
    · subst e; exact h
    · exact N'.at_ c hc
  mu := fun c hc => by
    rcases List.mem_cons.mp hc with e | hc
    · subst e; exact hm
    · exact N'.mu c hc
  ow := fun c hc hw => by
    rcases List.mem_cons.mp hc with e | hc
    · subst e
      by_cases z : q ∈ M
      · exact .inl z
      · exact .inr (N.af.free z hq)
    · exact N'.ow c hc hw
  tp := N'.tp
  af := N'.af
  dc := fun d e => by
    obtain ⟨h1, h2, h3⟩ := N'.dc d e
    refine ⟨h1, h2, ?_⟩
    intro m
    rcases List.mem_cons.mp m with z | z
    · obtain ⟨g1, _, _⟩ := N.dc d e
      obtain ⟨ys, hy⟩ := g1.lst
      rw [z, hq] at hy; cases hy
    · exact h3 z
/-- the start of a method -/
theorem Now.begin (hc : (fp.map Cel.a).Nodup ∧ ∀ c ∈ fp, H c.a = some c.o ∧ Mut (some c.o)) (tp : ∀ p ∈ ts, H p.1 = some (.tup p.2)) : Now K none (fp.map Cel.a) H H fp ts :=
  .start hc.1 (fun c h => ⟨(hc.2 c h).1, (hc.2 c h).2, fun _ => List.mem_map.mpr ⟨c, h, rfl⟩⟩) tp (by simp)
theorem Now.front (N : Now K D M H0 H (fp ++ r) ts) : (fp.map Cel.a).Nodup ∧ ∀ c ∈ fp, H c.a = some c.o ∧ Mut (some c.o) := by
  have nd := N.nd
  rw [List.map_append, List.nodup_append] at nd
  exact ⟨nd.1, fun c h => ⟨N.at_ c (List.mem_append_left _ h), N.mu c (List.mem_append_left _ h)⟩⟩
end
/-! ### fields, methods, made instances -/
section
variable {r' : R2} {tc : TE} {σ : L2.St} {y : V} {Q : VK} {H : Hp} {p : Prop} [Decidable p]
theorem c_chD (hp : p) (h : tc σ H fun w' H4 => r' y w' H4 Q) : cCh r' tc σ y Q (.bl (decide p)) H := c_ch (fun _ => h) fun e => absurd hp (of_decide_eq_false e)
theorem c_chN (hp : ¬ p) (h : Q (.bl false) H) : cCh r' tc σ y Q (.bl (decide p)) H := c_ch (fun e => absurd (of_decide_eq_true e) hp) fun _ => h
end
section
variable {K : PySem.W.Frag} {D : Option Addr} {M M' : List Addr} {H0 H H' : Hp} {l : List Cel} {ts : List (Addr × List V)} {p a C dx : Addr} {o u : HO} {c0 c1 c2 c3 : Cel} {σ : L2.St} {ta tv te : TE} {t : TA} {f m : Str} {fs fs' : List (Str × V)} {v y : V} {Q : VK} {sp : Sp} {dvs : List V} {E : XK} {nx bk ct : L2.St → Hp → Prop} {rt : VK} {w : Bool}
def cFld (K : PySem.W.Frag) (f : Str) (Q : VK) : VK := fun x H1 => ∃ a C dx fs v, x = .ref a ∧ H1 a = some (.ins C dx fs) ∧ Cls K C ∧ NoAttr K C f ∧ fs.lookup f = some v ∧ Q v H1
theorem k_fld (h : ta σ H (cFld K f Q)) : tFld K ta f σ H Q := h
theorem g_fld (h : H a = some (.ins C dx fs)) (cl : Cls K C) (na : NoAttr K C f) (hl : fs.lookup f = some v) (q : Q v H) : cFld K f Q (.ref a) H := ⟨a, C, dx, fs, v, rfl, h, cl, na, hl, q⟩
def cSF (K : PySem.W.Frag) (f : Str) (y : V) (nx : L2.St → Hp → Prop) (σ : L2.St) : VK := fun x H2 => ∃ a C dx fs, x = .ref a ∧ H2 a = some (.ins C dx fs) ∧ Cls K C ∧ NoAttr K C f ∧ fs.length < 1000 ∧ nx σ (upd H2 a (.ins C dx (putF f y fs)))
theorem k_sfld (h : tv σ H fun y H1 => ta σ H1 (cSF K f y nx σ)) : sFld K ta tv f ⟨nx, rt, bk, ct⟩ σ H := h
theorem g_sf0 (N : Now K D M H0 H (⟨true, p, .ins C dx fs⟩ :: l) ts) (cl : Cls K C) (na : NoAttr K C f) (hl : fs.length < 1000) (he : putF f y fs = fs') (q : ∀ H', Now K D M H0 H' (⟨true, p, .ins C dx fs'⟩ :: l) ts → nx σ H') : cSF K f y nx σ (.ref p) H :=
  ⟨p, C, dx, fs, rfl, N.cell 0 rfl, cl, na, hl, by rw [he]; exact q _ (N.put 0 rfl trivial)⟩
theorem g_sf1 (N : Now K D M H0 H (c0 :: ⟨true, p, .ins C dx fs⟩ :: l) ts) (cl : Cls K C) (na : NoAttr K C f) (hl : fs.length < 1000) (he : putF f y fs = fs') (q : ∀ H', Now K D M H0 H' (c0 :: ⟨true, p, .ins C dx fs'⟩ :: l) ts → nx σ H') : cSF K f y nx σ (.ref p) H :=
  ⟨p, C, dx, fs, rfl, N.cell 1 rfl, cl, na, hl, by rw [he]; exact q _ (N.put 1 rfl trivial)⟩
theorem g_sf2 (N : Now K D M H0 H (c0 :: c1 :: ⟨true, p, .ins C dx fs⟩ :: l) ts) (cl : Cls K C) (na : NoAttr K C f) (hl : fs.length < 1000) (he : putF f y fs = fs') (q : ∀ H', Now K D M H0 H' (c0 :: c1 :: ⟨true, p, .ins C dx fs'⟩ :: l) ts → nx σ H') : cSF K f y nx σ (.ref p) H :=
  ⟨p, C, dx, fs, rfl, N.cell 2 rfl, cl, na, hl, by rw [he]; exact q _ (N.put 2 rfl trivial)⟩
def cMeth (C : Addr) (m : Str) (sp : Sp) (dvs : List V) (E : XK) (t : TA) (σ : L2.St) (Q : VK) : VK := fun x H1 => ∃ a dx fs, x = .ref a ∧ H1 a = some (.ins C dx fs) ∧ fs.lookup m = none ∧ t σ H1 fun vs H2 => sp (x :: (vs ++ dvs)) H2 Q E
theorem k_meth (h : ta σ H (cMeth C m sp dvs E t σ Q)) : tMeth C m sp dvs E ta t σ H Q := h
theorem g_meth (h : H a = some (.ins C dx fs)) (hl : fs.lookup m = none) (q : t σ H fun vs H2 => sp (.ref a :: (vs ++ dvs)) H2 Q E) : cMeth C m sp dvs E t σ Q (.ref a) H := ⟨a, dx, fs, rfl, h, hl, q⟩
def cMake (C : Addr) (sp : Sp) (dvs : List V) (E : XK) (Q : VK) : List V → Hp → Prop := fun vs H1 => ∀ x dx, H1 x = none → H1 dx = none → dx ≠ x → sp (.ref x :: (vs ++ dvs)) (upd (upd H1 dx (.own x)) x (.ins C dx [])) (fun v H2 => v = .non ∧ Q (.ref x) H2) E
theorem k_make (h : t σ H (cMake C sp dvs E Q)) : tMake C sp dvs E t σ H Q := h
theorem g_make {vs : List V} (N : Now K D M H0 H l ts) (q : ∀ x dx H', H x = none → Now K D M H0 H' (⟨true, x, .ins C dx []⟩ :: l) ts → sp (.ref x :: (vs ++ dvs)) H' (fun v H2 => v = .non ∧ Q (.ref x) H2) E) : cMake C sp dvs E Q vs H := fun x dx hx hd ne =>
  q x dx _ hx ((N.alloc (o := .own x) hd).newC (by rw [upd_ne ne.symm]; exact hx) trivial)
end
/-! ### dicts -/
section
variable {K : PySem.W.Frag} {D : Option Addr} {M M' : List Addr} {H0 H H' : Hp} {l : List Cel} {ts : List (Addr × List V)} {p a : Addr} {kvs kvs' : List (Key × V)} {c0 c1 c2 : Cel} {σ : L2.St} {td ty tv te : TE} {v y : V} {Q : VK} {nx bk ct : L2.St → Hp → Prop} {rt : VK} {n : Int} {z : Str} {ro : Option V}
def cDGet (x : V) (Q : VK) : VK := fun y H2 => ∃ a v, x = .ref a ∧ DGet H2 a y (some v) ∧ Q v H2
theorem k_dget (h : td σ H fun x H1 => ty σ H1 (cDGet x Q)) : tDGet td ty σ H Q := h
theorem g_dgetI (h : H a = some (.dK kvs)) (hv : valV kvs (Sum.inl n) = some v) (q : Q v H) : cDGet (.ref a) Q (.int n) H := ⟨a, v, rfl, by rw [← hv]; exact DGet.k (k := Sum.inl n) h, q⟩
def lkS (z : Str) : List (Key × V) → Option V
  | [] => none
  | (Sum.inr y, v) :: r => if y = z then some v else lkS z r
  | (Sum.inl _, _) :: r => lkS z r
theorem valV_lk (z : Str) : ∀ kvs : List (Key × V), valV kvs (Sum.inr z) = lkS z kvs
  | [] => rfl
  | (Sum.inr y, v) :: r => by
    show _ = if y = z then some v else lkS z r
    by_cases e : y = z
    · subst e
      rw [if_pos rfl, valV_pos rfl]
    · rw [if_neg e, valV_neg (by simpa using e), valV_lk z r]
  | (Sum.inl i, v) :: r => by
    show _ = lkS z r
    rw [valV_neg (by simp), valV_lk z r]
theorem g_dgetS (h : H a = some (.dK kvs)) (hv : lkS z kvs = some v) (q : Q v H) : cDGet (.ref a) Q (.str z) H := ⟨a, v, rfl, by rw [← hv, ← valV_lk]; exact DGet.k (k := Sum.inr z) h, q⟩
def cDIn (y : V) (Q : VK) : VK := fun x H2 => ∃ a o, x = .ref a ∧ DGet H2 a y o ∧ Q (.bl o.isSome) H2
def cDNin (y : V) (Q : VK) : VK := fun x H2 => ∃ a o, x = .ref a ∧ DGet H2 a y o ∧ Q (.bl (!o.isSome)) H2
theorem k_din (h : ty σ H fun y H1 => td σ H1 (cDIn y Q)) : tDIn ty td σ H Q := h
theorem k_dnin (h : ty σ H fun y H1 => td σ H1 (cDNin y Q)) : tDNotIn ty td σ H Q := h
theorem g_dinI (h : H a = some (.dK kvs)) (q : Q (.bl (valV kvs (Sum.inl n)).isSome) H) : cDIn (.int n) Q (.ref a) H := ⟨a, _, rfl, DGet.k (k := Sum.inl n) h, q⟩
theorem g_dninI (h : H a = some (.dK kvs)) (q : Q (.bl (!(valV kvs (Sum.inl n)).isSome)) H) : cDNin (.int n) Q (.ref a) H := ⟨a, _, rfl, DGet.k (k := Sum.inl n) h, q⟩
def cDPut (v x : V) (nx : L2.St → Hp → Prop) (σ : L2.St) : VK := fun y H3 => ∃ a H4, x = .ref a ∧ DPut H3 a y v H4 ∧ nx σ H4
theorem k_dput (h : tv σ H fun v H1 => td σ H1 fun x H2 => ty σ H2 (cDPut v x nx σ)) : sDPut td ty tv ⟨nx, rt, bk, ct⟩ σ H := h
theorem g_dputI0 (N : Now K D M H0 H (⟨true, p, .dK kvs⟩ :: l) ts) (hl : kvs.length < 100000) (q : ∀ H', Now K D M H0 H' (⟨true, p, .dK (putK kvs (Sum.inl n) v)⟩ :: l) ts → nx σ H') : cDPut v (.ref p) nx σ (.int n) H :=
  ⟨p, _, rfl, DPut.k (k := Sum.inl n) (N.cell 0 rfl) (Nat.lt_of_lt_of_le hl (by decide)), q _ (N.put 0 rfl trivial)⟩
theorem g_dputI1 (N : Now K D M H0 H (c0 :: ⟨true, p, .dK kvs⟩ :: l) ts) (hl : kvs.length < 100000) (q : ∀ H', Now K D M H0 H' (c0 :: ⟨true, p, .dK (putK kvs (Sum.inl n) v)⟩ :: l) ts → nx σ H') : cDPut v (.ref p) nx σ (.int n) H :=
  ⟨p, _, rfl, DPut.k (k := Sum.inl n) (N.cell 1 rfl) (Nat.lt_of_lt_of_le hl (by decide)), q _ (N.put 1 rfl trivial)⟩
theorem g_dputI2 (N : Now K D M H0 H (c0 :: c1 :: ⟨true, p, .dK kvs⟩ :: l) ts) (hl : kvs.length < 100000) (q : ∀ H', Now K D M H0 H' (c0 :: c1 :: ⟨true, p, .dK (putK kvs (Sum.inl n) v)⟩ :: l) ts → nx σ H') : cDPut v (.ref p) nx σ (.int n) H :=
  ⟨p, _, rfl, DPut.k (k := Sum.inl n) (N.cell 2 rfl) (Nat.lt_of_lt_of_le hl (by decide)), q _ (N.put 2 rfl trivial)⟩
theorem g_dputS0 (N : Now K D M H0 H (⟨true, p, .dK kvs⟩ :: l) ts) (hl : kvs.length < 100000) (he : putK kvs (Sum.inr z) v = kvs') (q : ∀ H', Now K D M H0 H' (⟨true, p, .dK kvs'⟩ :: l) ts → nx σ H') : cDPut v (.ref p) nx σ (.str z) H :=
  ⟨p, _, rfl, DPut.k (k := Sum.inr z) (N.cell 0 rfl) (Nat.lt_of_lt_of_le hl (by decide)), by rw [he]; exact q _ (N.put 0 rfl trivial)⟩
theorem g_dputS1 (N : Now K D M H0 H (c0 :: ⟨true, p, .dK kvs⟩ :: l) ts) (hl : kvs.length < 100000) (he : putK kvs (Sum.inr z) v = kvs') (q : ∀ H', Now K D M H0 H' (c0 :: ⟨true, p, .dK kvs'⟩ :: l) ts → nx σ H') : cDPut v (.ref p) nx σ (.str z) H :=
  ⟨p, _, rfl, DPut.k (k := Sum.inr z) (N.cell 1 rfl) (Nat.lt_of_lt_of_le hl (by decide)), by rw [he]; exact q _ (N.put 1 rfl trivial)⟩
theorem g_dputS2 (N : Now K D M H0 H (c0 :: c1 :: ⟨true, p, .dK kvs⟩ :: l) ts) (hl : kvs.length < 100000) (he : putK kvs (Sum.inr z) v = kvs') (q : ∀ H', Now K D M H0 H' (c0 :: c1 :: ⟨true, p, .dK kvs'⟩ :: l) ts → nx σ H') : cDPut v (.ref p) nx σ (.str z) H :=
  ⟨p, _, rfl, DPut.k (k := Sum.inr z) (N.cell 2 rfl) (Nat.lt_of_lt_of_le hl (by decide)), by rw [he]; exact q _ (N.put 2 rfl trivial)⟩
theorem k_dnew {Q : VK} (N : Now K D M H0 H l ts) (q : ∀ p H', Now K D M H0 H' (⟨true, p, .dK []⟩ :: l) ts → Q (.ref p) H') : tDNewK σ H Q := fun p hp => q p _ (N.newC hp trivial)
/-- pop of a key that is there -/
def cDPop (σ : L2.St) (ty : TE) (Q : VK) : VK := fun x H1 => ∃ a, x = .ref a ∧ IsD H1 a ∧ ty σ H1 fun y H2 => ∃ kvs k v, H2 a = some (.dK kvs) ∧ y = kV k ∧ valV kvs k = some v ∧ Q v (upd H2 a (.dK (dropK kvs k)))
theorem k_dpop (h : td σ H (cDPop σ ty Q)) : tDPop1 td ty σ H Q := h
end
end Ak
namespace Ak
open PySem PySem.Spec PyProof.Rows L2
/-! ### comprehensions -/
section
variable {K : PySem.W.Frag} {D : Option Addr} {M : List Addr} {H0 H : Hp} {l : List Cel} {ts : List (Addr × List V)} {a p : Addr} {xs acc : List V} {σ : L2.St} {g : TG} {tt : TT} {te tl : TE} {tr : TA} {vs : List Nat} {Q : VK} {j : Nat} {y : V}
def cPut (Dd : Addr) (P : Hp → Prop) : VK := fun y H4 => ∃ acc, H4 Dd = some (.lst acc) ∧ acc.length < sizeLine ∧ P (upd H4 Dd (.lst (acc ++ [y])))
def cElt (te : TE) (σ : L2.St) (Dd : Addr) (P : Hp → Prop) : Bool → Hp → Prop := fun b H3 => if b = true then te σ H3 (cPut Dd P) else P H3
def LcW (J : It) (g : TG) (tt : TT) (te : TE) (vs : List Nat) (σ : L2.St) (Q : VK) (H1 : Hp) : Prop := ∀ D, H1 D = none → ∃ W : Nat → Nat → Hp → Prop, (∃ m, W 0 m (upd H1 D (.lst []))) ∧ ∀ i m H, W i m H →
  (J.stop i H ∧ Q (.ref D) H) ∨ (J.go i H ∧ ∃ Nx : Hp → Prop, (∀ H', Nx H' → ∃ m', m' < m ∧ W (i + 1) m' H') ∧ ∀ x H', J.yld i H x H' → g x (wipe σ vs) H' fun σ2 H2 => wipe σ2 vs = wipe σ vs ∧ tt σ2 H2 fun b H3 =>
    if b = true then te σ2 H3 fun y H4 => ∃ acc, H4 D = some (.lst acc) ∧ acc.length < sizeLine ∧ Nx (upd H4 D (.lst (acc ++ [y]))) else Nx H3)
def cLc (K : PySem.W.Frag) (g : TG) (tt : TT) (te : TE) (vs : List Nat) (σ : L2.St) (Q : VK) : VK := fun x H1 => ∃ a, x = .ref a ∧ (∃ xs, SqL K H1 a xs) ∧ LcW (Itl K a) g tt te vs σ Q H1
def cLcT (K : PySem.W.Frag) (g : TG) (tt : TT) (te : TE) (vs : List Nat) (σ : L2.St) (Q : VK) : VK := fun x H1 => ∃ a, x = .ref a ∧ (∃ xs, SqT K H1 a xs) ∧ LcW (Itt K a) g tt te vs σ Q H1
def cLcR (g : TG) (tt : TT) (te : TE) (vs : List Nat) (σ : L2.St) (Q : VK) : List V → Hp → Prop := fun us H1 => ∃ j : Int, us = [.int j] ∧ -(2 ^ 62) ≤ j ∧ j < 2 ^ 62 ∧ LcW (Itr 0 j.toNat) g tt te vs σ Q H1
def cLcR2 (g : TG) (tt : TT) (te : TE) (vs : List Nat) (σ : L2.St) (Q : VK) : List V → Hp → Prop := fun us H1 => ∃ i j : Int, us = [.int i, .int j] ∧ (-(2 ^ 62) ≤ i ∧ i < 2 ^ 62 ∧ -(2 ^ 62) ≤ j ∧ j < 2 ^ 62) ∧ LcW (Itr i (j - i).toNat) g tt te vs σ Q H1
theorem k_lc (h : tl σ H (cLc K g tt te vs σ Q)) : tLc (iList K tl) g tt te vs σ H Q := h
theorem k_lcT (h : tl σ H (cLcT K g tt te vs σ Q)) : tLc (iTup K tl) g tt te vs σ H Q := h
theorem k_lcR (h : tr σ H (cLcR g tt te vs σ Q)) : tLc (iRng1 tr) g tt te vs σ H Q := h
theorem k_lcR2 (h : tr σ H (cLcR2 g tt te vs σ Q)) : tLc (iRng2 tr) g tt te vs σ H Q := h
/-- what is made so far: R -/
def LcP (K : PySem.W.Frag) (D : Option Addr) (M : List Addr) (H0 : Hp) (l : List Cel) (ts : List (Addr × List V)) (R : Nat → List V → Prop) (Dd : Addr) (i : Nat) : Hp → Prop := fun H => ∃ acc, Now K D M H0 H (⟨true, Dd, .lst acc⟩ :: l) ts ∧ R i acc
theorem c_put {R : Nat → List V → Prop} {Dd : Addr} {i : Nat} (N : Now K D M H0 H (⟨true, Dd, .lst acc⟩ :: l) ts) (hz : acc.length < 100000) (h : R i (acc ++ [y])) : cPut Dd (LcP K D M H0 l ts R Dd i) y H :=
  ⟨acc, N.cell 0 rfl, Nat.lt_of_lt_of_le hz (by decide), _, N.put 0 rfl trivial, h⟩
theorem c_elT {Dd : Addr} {P : Hp → Prop} (h : te σ H (cPut Dd P)) : cElt te σ Dd P true H := h
theorem c_elF {R : Nat → List V → Prop} {Dd : Addr} {i : Nat} (N : Now K D M H0 H (⟨true, Dd, .lst acc⟩ :: l) ts) (h : R i acc) : cElt te σ Dd (LcP K D M H0 l ts R Dd i) false H := ⟨acc, N, h⟩
theorem c_el {Dd : Addr} {P : Hp → Prop} {b : Bool} (h1 : b = true → te σ H (cPut Dd P)) (h2 : b = false → P H) : cElt te σ Dd P b H := by
  cases b with
  | true => exact h1 rfl
  | false => exact h2 rfl
theorem k_yes {Q : Bool → Hp → Prop} (h : Q true H) : tYes σ H Q := h
theorem c_lc (N : Now K D M H0 H l ts) (xs : List V) (R : Nat → List V → Prop) (h0 : R 0 []) (hl : ∀ (H' : Hp) (Dd : Addr) (acc : List V), Now K D M H0 H' (⟨true, Dd, .lst acc⟩ :: l) ts → SqL K H' a xs)
    (hw : ∀ x, wipe ((wipe σ vs).set j (some x)) vs = wipe σ vs)
    (hs : ∀ i x (Dd : Addr) (H' : Hp) (acc : List V), xs[i]? = some x → Now K D M H0 H' (⟨true, Dd, .lst acc⟩ :: l) ts → R i acc → tt ((wipe σ vs).set j (some x)) H' (cElt te ((wipe σ vs).set j (some x)) Dd (LcP K D M H0 l ts R Dd (i + 1))))
    (hd : ∀ (p : Addr) (H' : Hp) (acc : List V), Now K D M H0 H' (⟨true, p, .lst acc⟩ :: l) ts → R xs.length acc → Q (.ref p) H') (hx : SqL K H a xs) : cLc K (gName j) tt te vs σ Q (.ref a) H := by
  refine ⟨a, rfl, ⟨xs, hx⟩, fun Dd hD => ?_⟩
  refine lc_list (K := K) (a := a) (xs := xs) (LcP K D M H0 l ts R Dd) ⟨[], N.newC hD trivial, h0⟩ (fun i H' _ ⟨acc, N', _⟩ => hl _ _ _ N') (fun i x H' hi ⟨acc, N', r⟩ => ?_) fun H' ⟨acc, N', r⟩ => hd _ _ _ N' r
  exact ⟨hw x, hs i x Dd H' acc hi N' r⟩
theorem c_lcT (N : Now K D M H0 H l ts) (xs : List V) (R : Nat → List V → Prop) (h0 : R 0 []) (hl : ∀ (H' : Hp) (l' : List Cel), Now K D M H0 H' l' ts → SqT K H' a xs)
    (hw : ∀ x, wipe ((wipe σ vs).set j (some x)) vs = wipe σ vs)
    (hs : ∀ i x (Dd : Addr) (H' : Hp) (acc : List V), xs[i]? = some x → Now K D M H0 H' (⟨true, Dd, .lst acc⟩ :: l) ts → R i acc → tt ((wipe σ vs).set j (some x)) H' (cElt te ((wipe σ vs).set j (some x)) Dd (LcP K D M H0 l ts R Dd (i + 1))))
    (hd : ∀ (p : Addr) (H' : Hp) (acc : List V), Now K D M H0 H' (⟨true, p, .lst acc⟩ :: l) ts → R xs.length acc → Q (.ref p) H') : cLcT K (gName j) tt te vs σ Q (.ref a) H := by
  refine ⟨a, rfl, ⟨xs, hl _ _ N⟩, fun Dd hD => ?_⟩
  refine lc_tup (K := K) (a := a) (xs := xs) (LcP K D M H0 l ts R Dd) ⟨[], N.newC hD trivial, h0⟩ (fun i H' _ ⟨acc, N', _⟩ => hl _ _ N') (fun i x H' hi ⟨acc, N', r⟩ => ?_) fun H' ⟨acc, N', r⟩ => hd _ _ _ N' r
  exact ⟨hw x, hs i x Dd H' acc hi N' r⟩
theorem c_lcR {n : Int} (N : Now K D M H0 H l ts) (hn : -100000 ≤ n ∧ n ≤ 100000) (R : Nat → List V → Prop) (h0 : R 0 [])
    (hw : ∀ x, wipe ((wipe σ vs).set j (some x)) vs = wipe σ vs)
    (hs : ∀ (i : Nat) (Dd : Addr) (H' : Hp) (acc : List V), (i : Int) < n → Now K D M H0 H' (⟨true, Dd, .lst acc⟩ :: l) ts → R i acc → tt ((wipe σ vs).set j (some (.int (i : Int)))) H' (cElt te ((wipe σ vs).set j (some (.int (i : Int)))) Dd (LcP K D M H0 l ts R Dd (i + 1))))
    (hd : ∀ (p : Addr) (H' : Hp) (acc : List V), Now K D M H0 H' (⟨true, p, .lst acc⟩ :: l) ts → R n.toNat acc → Q (.ref p) H') : cLcR (gName j) tt te vs σ Q [.int n] H := by
  refine ⟨n, rfl, by omega, by omega, fun Dd hD => ?_⟩
  refine lc_range (lo := 0) (n := n.toNat) (LcP K D M H0 l ts R Dd) ⟨[], N.newC hD trivial, h0⟩ (fun i H' hi ⟨acc, N', r⟩ => ?_) fun H' ⟨acc, N', r⟩ => hd _ _ _ N' r
  rw [show (0 : Int) + (i : Int) = (i : Int) from Int.zero_add _]
  exact ⟨hw _, hs i Dd H' acc (by omega) N' r⟩
theorem c_lcR2 {lo n : Int} (N : Now K D M H0 H l ts) (hn : -100000 ≤ n ∧ n ≤ 100000 ∧ -100000 ≤ lo ∧ lo ≤ 100000) (R : Nat → List V → Prop) (h0 : R 0 [])
    (hw : ∀ x, wipe ((wipe σ vs).set j (some x)) vs = wipe σ vs)
    (hs : ∀ (i : Nat) (Dd : Addr) (H' : Hp) (acc : List V), lo + (i : Int) < n → Now K D M H0 H' (⟨true, Dd, .lst acc⟩ :: l) ts → R i acc → tt ((wipe σ vs).set j (some (.int (lo + (i : Int))))) H' (cElt te ((wipe σ vs).set j (some (.int (lo + (i : Int))))) Dd (LcP K D M H0 l ts R Dd (i + 1))))
    (hd : ∀ (p : Addr) (H' : Hp) (acc : List V), Now K D M H0 H' (⟨true, p, .lst acc⟩ :: l) ts → R (n - lo).toNat acc → Q (.ref p) H') : cLcR2 (gName j) tt te vs σ Q [.int lo, .int n] H := by
  refine ⟨lo, n, rfl, by omega, fun Dd hD => ?_⟩
  refine lc_range (lo := lo) (n := (n - lo).toNat) (LcP K D M H0 l ts R Dd) ⟨[], N.newC hD trivial, h0⟩ (fun i H' hi ⟨acc, N', r⟩ => ?_) fun H' ⟨acc, N', r⟩ => hd _ _ _ N' r
  exact ⟨hw _, hs i Dd H' acc (by omega) N' r⟩
end
/-! ### methods of lists -/
section
variable {K : PySem.W.Frag} {D : Option Addr} {M : List Addr} {H0 H : Hp} {l : List Cel} {ts : List (Addr × List V)} {a p : Addr} {xs : List V} {σ : L2.St} {to : TE} {t : TA} {Q : VK} {r : V → List V → Hp → VK → Prop} {T : String} {c0 c1 c2 : Cel} {v : V} {kvs : List (Key × V)} {n : Int} {nx : L2.St → Hp → Prop}
def cBM (K : PySem.W.Frag) (T : String) (r : V → List V → Hp → VK → Prop) (t : TA) (σ : L2.St) (Q : VK) : VK := fun x H1 => tyV K T x H1 ∧ t σ H1 fun xs H2 => r x xs H2 Q
theorem k_bm (h : to σ H (cBM K T r t σ Q)) : tBM K T r to t σ H Q := h
theorem g_bmL (h : SqL K H p xs) (q : t σ H fun xs H2 => r (.ref p) xs H2 Q) : cBM K "list" r t σ Q (.ref p) H := ⟨.inl ⟨rfl, _, h⟩, q⟩
def cBM0 (K : PySem.W.Frag) (T : String) (r : V → List V → Hp → VK → Prop) (Q : VK) : VK := fun x H1 => tyV K T x H1 ∧ r x [] H1 Q
theorem k_bm0 (h : to σ H (cBM0 K T r Q)) : tBM0 K T r to σ H Q := h
theorem g_bmL0 (h : SqL K H p xs) (q : r (.ref p) [] H Q) : cBM0 K "list" r Q (.ref p) H := ⟨.inl ⟨rfl, _, h⟩, q⟩
theorem g_app2 (N : Now K D M H0 H (c0 :: c1 :: ⟨true, p, .lst xs⟩ :: l) ts) (hz : xs.length < 100000) (q : ∀ H', Now K D M H0 H' (c0 :: c1 :: ⟨true, p, .lst (xs ++ [v])⟩ :: l) ts → Q .non H') : rAppend (.ref p) [v] H Q := ⟨p, xs, v, rfl, rfl, N.cell 2 rfl, Nat.lt_of_lt_of_le hz (by decide), q _ (N.put 2 rfl trivial)⟩
theorem g_app3 (N : Now K D M H0 H (c0 :: c1 :: c2 :: ⟨true, p, .lst xs⟩ :: l) ts) (hz : xs.length < 100000) (q : ∀ H', Now K D M H0 H' (c0 :: c1 :: c2 :: ⟨true, p, .lst (xs ++ [v])⟩ :: l) ts → Q .non H') : rAppend (.ref p) [v] H Q := ⟨p, xs, v, rfl, rfl, N.cell 3 rfl, Nat.lt_of_lt_of_le hz (by decide), q _ (N.put 3 rfl trivial)⟩
/-- cells as a callee wants them -/
def CelOk (H : Hp) (fp : List Cel) : Prop := (fp.map Cel.a).Nodup ∧ ∀ c ∈ fp, H c.a = some c.o ∧ Mut (some c.o)
theorem Now.ok (N : Now K D M H0 H l ts) : CelOk H l := ⟨N.nd, fun c hc => ⟨N.at_ c hc, N.mu c hc⟩⟩
end
/-! ### slices, tuple(..), list(..) -/
section
variable {K : PySem.W.Frag} {D : Option Addr} {M : List Addr} {H0 H : Hp} {l : List Cel} {ts : List (Addr × List V)} {a p : Addr} {xs : List V} {σ : L2.St} {te : TE} {tl th : TO} {Q : VK} {r : V → Option Int → Option Int → Hp → VK → Prop}
theorem k_sl (h : te σ H fun x H1 => tl σ H1 fun l H2 => th σ H2 fun u H3 => r x l u H3 Q) : tSl r te tl th σ H Q := h
theorem k_nopart {Q : Option Int → Hp → Prop} (h : Q none H) : tNoPart σ H Q := h
def cPart (Q : Option Int → Hp → Prop) : VK := fun x H1 => ∃ i, x = .int i ∧ Q (some i) H1
theorem k_part {Q : Option Int → Hp → Prop} (h : te σ H (cPart Q)) : tPart te σ H Q := h
theorem c_part {Q : Option Int → Hp → Prop} {i : Int} (h : Q (some i) H) : cPart Q (.int i) H := ⟨i, rfl, h⟩
theorem g_slL {lo hi : Option Int} (N : Now K D M H0 H l ts) (hx : SqL K H a xs) (q : ∀ p H', Now K D M H0 H' (⟨true, p, .lst (cutV xs lo hi)⟩ :: l) ts → Q (.ref p) H') : rSlL K (.ref a) lo hi H Q := ⟨a, xs, rfl, hx, fun p hp => q p _ (N.newC hp trivial)⟩
theorem cut_take {xs : List V} (n : Nat) : cutV xs none (some (n : Int)) = xs.take n := by
  unfold cutV
  rw [HT.sIx_none, HT.sIx_nat, List.drop_zero, Nat.sub_zero]
  by_cases h : n ≤ xs.length
  · rw [Nat.min_eq_left h]
  · rw [Nat.min_eq_right (by omega), List.take_of_length_le (by omega), List.take_of_length_le (by omega)]
theorem cut_drop {xs : List V} (n : Nat) : cutV xs (some (n : Int)) none = xs.drop n := by
  unfold cutV
  rw [HT.sIx_nat, HT.sIx_none]
  by_cases h : n ≤ xs.length
  · rw [Nat.min_eq_left h]
    exact List.take_of_length_le (by rw [List.length_drop]; omega)
  · rw [Nat.min_eq_right (by omega), List.drop_of_length_le (by omega : xs.length ≤ n)]
    simp
def rTupL (K : PySem.W.Frag) : List V → Hp → VK → Prop := fun xs H Q => ∃ p ys, xs = [.ref p] ∧ SqL K H p ys ∧ ∀ l, H l = none → Q (.ref l) (upd H l (.tup ys))
theorem cr_tupL {X : Cx} : CallR X (.type "tuple") (rTupL X.K) := fun pins s σ H xs us Q I r h => call_tuple_of pins s σ H xs us Q I r (let ⟨p, ys, e, h1, h2⟩ := h; ⟨p, ys, e, .inl ⟨h1, h2⟩⟩)
theorem cr_tupLK {X : Cx} (K : PySem.W.Frag) (h : X.K = K) : CallR X (.type "tuple") (rTupL K) := h ▸ cr_tupL
theorem g_tupL (N : Now K D M H0 H l ts) (hx : SqL K H a xs) (q : ∀ p H', Now K D M H0 H' l ((p, xs) :: ts) → Q (.ref p) H') : rTupL K [.ref a] H Q := ⟨a, xs, rfl, hx, fun p hp => q p _ (N.newT hp)⟩
def rLstS (K : PySem.W.Frag) : List V → Hp → VK → Prop := fun xs H Q => ∃ p ys, xs = [.ref p] ∧ (SqL K H p ys ∨ SqT K H p ys) ∧ ∀ l, H l = none → Q (.ref l) (upd H l (.lst ys))
theorem cr_lstS {X : Cx} : CallR X (.type "list") (rLstS X.K) := call_list_of
theorem cr_lstSK {X : Cx} (K : PySem.W.Frag) (h : X.K = K) : CallR X (.type "list") (rLstS K) := h ▸ cr_lstS
theorem g_lstL (N : Now K D M H0 H l ts) (hx : SqL K H a xs) (q : ∀ p H', Now K D M H0 H' (⟨true, p, .lst xs⟩ :: l) ts → Q (.ref p) H') : rLstS K [.ref a] H Q := ⟨a, xs, rfl, .inl hx, fun p hp => q p _ (N.newC hp trivial)⟩
theorem g_lstT (N : Now K D M H0 H l ts) (hx : SqT K H a xs) (q : ∀ p H', Now K D M H0 H' (⟨true, p, .lst xs⟩ :: l) ts → Q (.ref p) H') : rLstS K [.ref a] H Q := ⟨a, xs, rfl, .inr hx, fun p hp => q p _ (N.newC hp trivial)⟩
/-- sorted of a dict, of a list of ints: a new cell -/
theorem g_sortD {kvs : List (Key × V)} {ks : List Int} (N : Now K D M H0 H l ts) (hd : H a = some (.dK kvs)) (hk : kvs.map (·.1) = ks.map Sum.inl) (q : ∀ p H' (ys : List Int), ys.Perm ks → ys.Pairwise (· ≤ ·) → Now K D M H0 H' (⟨true, p, .lst (ys.map V.int)⟩ :: l) ts → Q (.ref p) H') : rSortedDA [.ref a] H Q :=
  ⟨a, kvs, ks, rfl, .of hd, hk, fun ys p h1 h2 hp => q p _ ys h1 h2 (N.newC hp trivial)⟩
theorem g_sortL {ks : List Int} (N : Now K D M H0 H l ts) (hx : SqL K H a (ks.map V.int)) (q : ∀ p H' (ys : List Int), ys.Perm ks → ys.Pairwise (· ≤ ·) → Now K D M H0 H' (⟨true, p, .lst (ys.map V.int)⟩ :: l) ts → Q (.ref p) H') : rSortedI K [.ref a] H Q :=
  ⟨a, ks, rfl, hx, fun ys p h1 h2 hp => q p _ ys h1 h2 (N.newC hp trivial)⟩
/-- xs + ys: a new cell -/
theorem g_cat {b : Addr} {ys : List V} (N : Now K D M H0 H l ts) (hx : H a = some (.lst xs)) (hy : H b = some (.lst ys)) (hz : xs.length + ys.length ≤ 100000) (q : ∀ p H', Now K D M H0 H' (⟨true, p, .lst (xs ++ ys)⟩ :: l) ts → Q (.ref p) H') : rCat (.ref a) (.ref b) H Q :=
  ⟨a, b, xs, ys, rfl, rfl, hx, hy, Nat.le_trans hz (by decide), fun p hp => q p _ (N.newC hp trivial)⟩
/-- x in xs, ints -/
theorem inV_ints {n : Int} : ∀ {ns : List Int}, inV (.int n) (ns.map V.int) = decide (n ∈ ns)
  | [] => by simp [inV]
  | m :: ns => by
    have ih := inV_ints (n := n) (ns := ns)
    unfold inV at ih ⊢
    rw [List.map_cons, List.any_cons, ih]
    by_cases e : n = m
    · subst e; simp [eqV]
    · have e' : ¬ m = n := fun z => e z.symm
      simp [eqV, e, e']
theorem flat_ints {ns : List Int} : (ns.map V.int).all flatV = true := by
  rw [List.all_eq_true]
  intro x hx
  obtain ⟨n, _, rfl⟩ := List.mem_map.mp hx
  rfl
theorem g_inI {n : Int} {ns : List Int} (h : SqL K H a (ns.map V.int) ∨ SqT K H a (ns.map V.int)) (q : Q (.bl (decide (n ∈ ns))) H) : rIn K false (.int n) (.ref a) H Q :=
  ⟨a, _, rfl, h, rfl, flat_ints, by rw [inV_ints]; exact q⟩
theorem g_ninI {n : Int} {ns : List Int} (h : SqL K H a (ns.map V.int) ∨ SqT K H a (ns.map V.int)) (q : Q (.bl (decide (n ∉ ns))) H) : rIn K true (.int n) (.ref a) H Q :=
  ⟨a, _, rfl, h, rfl, flat_ints, by
    rw [inV_ints, if_pos rfl, ← decide_not]
    exact q⟩
/-- == and != of lists of ints -/
theorem eqv_ints : ∀ {a b : List Int}, PyData.eqvAll (a.map PyData.int) (b.map PyData.int) = decide (a = b)
  | [], [] => by simp [PyData.eqvAll]
  | [], _ :: _ => by simp [PyData.eqvAll]
  | _ :: _, [] => by simp [PyData.eqvAll]
  | x :: a, y :: b => by
    have ih := eqv_ints (a := a) (b := b)
    rw [List.map_cons, List.map_cons, PyData.eqvAll, ih]
    by_cases e : x = y
    · subst e; by_cases e2 : a = b <;> simp [PyData.eqv, e2]
    · simp [PyData.eqv, e]
theorem lay_ints : ∀ ns : List Int, PyData.canLayAll0 (ns.map PyData.int) = true ∧ PyData.depthAll (ns.map PyData.int) ≤ 1
  | [] => by simp [PyData.canLayAll0, PyData.depthAll]
  | n :: ns => by
    obtain ⟨h1, h2⟩ := lay_ints ns
    simp only [List.map_cons, PyData.canLayAll0, PyData.depthAll, PyData.canLay0, PyData.depth, h1, Bool.and_self, true_and]
    omega
theorem shaped_ints (ns : List Int) : SeqAt.shaped (.list (ns.map PyData.int)) = true := by
  obtain ⟨h1, h2⟩ := lay_ints ns
  unfold SeqAt.shaped
  simp only [PyData.canLay0, PyData.depth, h1, Bool.true_and]
  exact decide_eq_true (by omega)
theorem shaped_intsT (ns : List Int) : SeqAt.shaped (.tuple (ns.map PyData.int)) = true := by
  obtain ⟨h1, h2⟩ := lay_ints ns
  unfold SeqAt.shaped
  simp only [PyData.canLay0, PyData.depth, h1, Bool.true_and]
  exact decide_eq_true (by omega)
variable {b : Addr}
theorem g_eqL {m n : List Int} (h1 : SqL K H a (m.map V.int)) (h2 : SqL K H b (n.map V.int)) (q : Q (.bl (decide (m = n))) H) : rEqD K (.ref a) (.ref b) H Q :=
  ⟨_, _, .lst h1 (dpa_ints m), .lst h2 (dpa_ints n), shaped_ints m, shaped_ints n, by rw [PyData.eqv, eqv_ints]; exact q⟩
theorem g_neL {m n : List Int} (h1 : SqL K H a (m.map V.int)) (h2 : SqL K H b (n.map V.int)) (q : Q (.bl (decide (m ≠ n))) H) : rNeD K (.ref a) (.ref b) H Q :=
  ⟨_, _, .lst h1 (dpa_ints m), .lst h2 (dpa_ints n), shaped_ints m, shaped_ints n, by rw [PyData.eqv, eqv_ints, ← decide_not]; exact q⟩
theorem g_eqT {m n : List Int} (h1 : SqT K H a (m.map V.int)) (h2 : SqT K H b (n.map V.int)) (q : Q (.bl (decide (m = n))) H) : rEqD K (.ref a) (.ref b) H Q :=
  ⟨_, _, .tup h1 (dpa_ints m), .tup h2 (dpa_ints n), shaped_intsT m, shaped_intsT n, by rw [PyData.eqv, eqv_ints]; exact q⟩
theorem g_neT {m n : List Int} (h1 : SqT K H a (m.map V.int)) (h2 : SqT K H b (n.map V.int)) (q : Q (.bl (decide (m ≠ n))) H) : rNeD K (.ref a) (.ref b) H Q :=
  ⟨_, _, .tup h1 (dpa_ints m), .tup h2 (dpa_ints n), shaped_intsT m, shaped_intsT n, by rw [PyData.eqv, eqv_ints, ← decide_not]; exact q⟩
end
end Ak
namespace Ak
open PySem PySem.Spec PyProof.Rows L2
/-! ### a locked dict is walked -/
section
variable {K : PySem.W.Frag} {D : Option Addr} {M : List Addr} {H0 H : Hp} {l : List Cel} {ts : List (Addr × List V)} {a p d : Addr} {u o' : HO} {ob : Obj} {σ : L2.St} {te td ty : TE} {t : TS} {g : TG} {Q : VK} {c0 c1 c2 : Cel} {v : V} {kvs : List (Key × V)} {n : Int} {nx bk ct : L2.St → Hp → Prop} {rt : VK}
theorem Now.lock (N : Now K D M H0 H (⟨true, d, u⟩ :: l) ts) (hM : d ∉ M) : Now K D M H0 (upd H d o') l ts := by
  have h0 : H0 d = none := (N.ow ⟨true, d, u⟩ List.mem_cons_self rfl).resolve_left hM
  have hd : H d = some u := N.cell 0 rfl
  have hmu : Mut (some u) := N.mu ⟨true, d, u⟩ List.mem_cons_self
  have nd := List.nodup_cons.mp N.nd
  have A : Aft [d] H (upd H d o') := Aft.refl.put hd hmu (.inl (by simp))
  exact {
    nd := nd.2
    at_ := fun c hc => A.k _ _ (N.at_ c (List.mem_cons_of_mem _ hc)) (by
      intro m
      have e : c.a = d := by simpa using m
      exact nd.1 (List.mem_map.mpr ⟨c, hc, e⟩))
    mu := fun c hc => N.mu c (List.mem_cons_of_mem _ hc)
    ow := fun c hc => N.ow c (List.mem_cons_of_mem _ hc)
    tp := fun q hq => A.t _ _ (N.tp q hq)
    af := N.af.own h0
    dc := fun e he => by
      obtain ⟨h1, h2, h3⟩ := N.dc e he
      refine ⟨h1.keep A ?_, h2, fun m => h3 (List.mem_cons_of_mem _ m)⟩
      intro m
      have q : e = d := by simpa using m
      subst q
      exact h3 List.mem_cons_self }
/-- the lock is taken off again -/
theorem Now.unlock (N : Now K none M H0 H l ts) (h0 : H0 d = none) (hd : H d = some (.frz ob o')) : Now K none M H0 (upd H d u) l ts where
  nd := N.nd
  at_ := fun c hc => by
    have q := N.at_ c hc
    have m := N.mu c hc
    rw [upd_ne]
    · exact q
    · intro e
      rw [e, hd] at q
      rw [← Option.some.inj q] at m
      exact m
  mu := N.mu
  ow := N.ow
  tp := fun q hq => by
    have z := N.tp q hq
    rw [upd_ne]
    · exact z
    · intro e
      rw [e, hd] at z; cases z
  af := N.af.own h0
  dc := fun e he => by cases he
def cForK (g : TG) (tb : TS) (D : Ends) (σ : L2.St) : VK := fun x H1 => ∃ d o, x = .ref d ∧ ((∃ kvs, H1 d = some (.frz o (.dK kvs)) ∧ ∃ W : Nat → Nat → L2.St → Hp → Prop, (∃ m, W 0 m σ H1) ∧ ∀ i m σ H, W i m σ H →
    ((Itk d o kvs).stop i H ∧ D.nx σ H) ∨ ((Itk d o kvs).go i H ∧ ∃ N : L2.St → Hp → Prop, (∀ σ' H', N σ' H' → ∃ m', m' < m ∧ W (i + 1) m' σ' H') ∧ ∀ x H', (Itk d o kvs).yld i H x H' → g x σ H' fun σ2 H2 => tb { D with nx := N, ct := N, bk := D.nx } σ2 H2)) ∨
  ∃ kvs, H1 d = some (.frz o (.dT kvs)) ∧ ∃ W : Nat → Nat → L2.St → Hp → Prop, (∃ m, W 0 m σ H1) ∧ ∀ i m σ H, W i m σ H →
    ((Itkt d o kvs).stop i H ∧ D.nx σ H) ∨ ((Itkt d o kvs).go i H ∧ ∃ N : L2.St → Hp → Prop, (∀ σ' H', N σ' H' → ∃ m', m' < m ∧ W (i + 1) m' σ' H') ∧ ∀ x H', (Itkt d o kvs).yld i H x H' → g x σ H' fun σ2 H2 => tb { D with nx := N, ct := N, bk := D.nx } σ2 H2))
theorem k_forK (h : td σ H (cForK g t ⟨nx, rt, bk, ct⟩ σ)) : tFor (iKeys td) g t ⟨nx, rt, bk, ct⟩ σ H := h
theorem c_forK (Pv : Nat → L2.St → Hp → Prop) (h0 : Pv 0 σ H) (hl : ∀ i σ H, Pv i σ H → H d = some (.frz ob (.dK kvs)))
    (hs : ∀ i k v σ H, kvs[i]? = some (k, v) → Pv i σ H → g (kV k) σ H fun σ2 H2 => t ⟨Pv (i + 1), rt, nx, Pv (i + 1)⟩ σ2 H2) (hd : ∀ σ H, Pv kvs.length σ H → nx σ H) : cForK g t ⟨nx, rt, bk, ct⟩ σ (.ref d) H := by
  refine ⟨d, ob, rfl, .inl ⟨kvs, hl _ _ _ h0, fun i m σ H => m = kvs.length - i ∧ i ≤ kvs.length ∧ Pv i σ H, ⟨kvs.length, by simp, Nat.zero_le _, h0⟩, ?_⟩⟩
  rintro i m σ H ⟨rfl, hi, q⟩
  by_cases lt : i < kvs.length
  · refine .inr ⟨⟨hl _ _ _ q, lt⟩, Pv (i + 1), fun σ' H' q' => ⟨kvs.length - (i + 1), by omega, rfl, lt, q'⟩, ?_⟩
    rintro x H' ⟨rfl, k, v, hk, rfl⟩
    exact hs i k v σ _ hk q
  · have e : i = kvs.length := by omega
    subst e
    exact .inl ⟨⟨hl _ _ _ q, Nat.le_refl _⟩, hd σ H q⟩
def cLock (t : TS) (D : Ends) (σ : L2.St) (H : Hp) : Prop := ∃ d u, H d = some u ∧ Mut (some u) ∧ ∀ od, t ⟨fun σ' H' => H' d = some (.frz od u) ∧ D.nx σ' (upd H' d u), fun v H' => H' d = some (.frz od u) ∧ D.rt v (upd H' d u), fun σ' H' => H' d = some (.frz od u) ∧ D.bk σ' (upd H' d u), fun σ' H' => H' d = some (.frz od u) ∧ D.ct σ' (upd H' d u)⟩ σ (upd H d (.frz od u))
theorem k_lock (hd : H d = some u) (hm : Mut (some u)) (q : ∀ od, t ⟨fun σ' H' => H' d = some (.frz od u) ∧ nx σ' (upd H' d u), fun v H' => H' d = some (.frz od u) ∧ rt v (upd H' d u), fun σ' H' => H' d = some (.frz od u) ∧ bk σ' (upd H' d u), fun σ' H' => H' d = some (.frz od u) ∧ ct σ' (upd H' d u)⟩ σ (upd H d (.frz od u))) :
    tLock t ⟨nx, rt, bk, ct⟩ σ H := ⟨d, u, hd, hm, q⟩
theorem g_dpop1 (N : Now K D M H0 H (c0 :: ⟨true, p, .dK kvs⟩ :: l) ts) (q : ty σ H fun y H2 => ∃ kvs k v, H2 p = some (.dK kvs) ∧ y = kV k ∧ valV kvs k = some v ∧ Q v (upd H2 p (.dK (dropK kvs k)))) : cDPop σ ty Q (.ref p) H := ⟨p, rfl, .inl ⟨kvs, .of (N.cell 1 rfl)⟩, q⟩
end
end Ak
namespace Ak
open PySem PySem.Spec PyProof.Rows L2
/-! ### dict displays, names by pattern, a cut -/
section
variable {K : PySem.W.Frag} {D : Option Addr} {M : List Addr} {H0 H H' : Hp} {l : List Cel} {ts : List (Addr × List V)} {a p : Addr} {σ : L2.St} {te ta tb : TE} {t : TS} {g : TG} {Q : VK} {c0 c1 c2 : Cel} {v w x : V} {kvs kvs' : List (Key × V)} {n i j : Nat} {nx bk ct : L2.St → Hp → Prop} {rt : VK} {trs : List (TE × TE)} {ps : List (V × V)}
def cDisp (p : Addr) (Q : VK) : List (V × V) → Hp → Prop := fun ps H2 => H2 p = some (.dK []) ∧ ∃ kvs : List (Key × V), ps = kvs.map (fun kv => (kV kv.1, kv.2)) ∧ kvs.length ≤ 15 ∧ Q (.ref p) (upd H2 p (.dK (mergeK [] kvs)))
theorem k_disp (N : Now K D M H0 H l ts) (q : ∀ p H', Now K D M H0 H' (⟨true, p, .dK []⟩ :: l) ts → tPairs trs σ H' (cDisp p Q)) : tDisp trs σ H Q := fun p hp => q p _ (N.newC hp trivial)
theorem k_pairs0 {Q : List (V × V) → Hp → Prop} (h : Q [] H) : tPairs [] σ H Q := h
theorem k_pairs {Q : List (V × V) → Hp → Prop} (h : ta σ H fun x H1 => tb σ H1 fun y H2 => tPairs trs σ H2 fun ps H3 => Q ((x, y) :: ps) H3) : tPairs ((ta, tb) :: trs) σ H Q := h
theorem g_disp0 (N : Now K D M H0 H (⟨true, p, .dK []⟩ :: l) ts) (hk : ps = kvs.map (fun kv => (kV kv.1, kv.2))) (hl : kvs.length ≤ 15) (hm : mergeK [] kvs = kvs') (q : ∀ H', Now K D M H0 H' (⟨true, p, .dK kvs'⟩ :: l) ts → Q (.ref p) H') : cDisp p Q ps H :=
  ⟨N.cell 0 rfl, kvs, hk, hl, by rw [hm]; exact q _ (N.put 0 rfl trivial)⟩
theorem g_un {QQ : L2.St → Hp → Prop} (h : SqT K H a [v, w]) (hn : n = 2) (hq : QQ ((σ.set i (some v)).set j (some w)) H) : gTup K n (gCons (gName i) (gCons (gName j) gNil)) (.ref a) σ H QQ :=
  ⟨a, [v, w], rfl, h, hn.symm, v, [w], rfl, w, [], rfl, rfl, hq⟩
/-- what comes after is told once -/
theorem k_cut {R : L2.St → Hp → Prop} (q : ∀ σ H, R σ H → nx σ H) (h : ∀ nx' : L2.St → Hp → Prop, (∀ σ H, R σ H → nx' σ H) → t ⟨nx', rt, bk, ct⟩ σ H) : t ⟨nx, rt, bk, ct⟩ σ H := h nx q
theorem k_cut3 {R : L2.St → Hp → Prop} {t1 t2 t3 : TS} (q : ∀ σ H, R σ H → t3 ⟨nx, rt, bk, ct⟩ σ H) (h : ∀ nx' : L2.St → Hp → Prop, (∀ σ H, R σ H → nx' σ H) → tSeq t1 t2 ⟨nx', rt, bk, ct⟩ σ H) : tSeq t1 (tSeq t2 t3) ⟨nx, rt, bk, ct⟩ σ H := h _ q
theorem g_like {E : XK} {y : V} {d : PyData} {m : Nat} (h1 : Dp K H x d) (h2 : Dp K H y d) (h3 : dOk m d) (q : ∀ H', Aft [] H H' → Q (.bl true) H') : spLike K (m + 1) [x, y] H Q E := ⟨x, y, d, rfl, h1, h2, h3, q⟩
theorem dOk_ints {m : Nat} {ns : List Int} (h : ns.length ≤ 100000) : dOk (m + 1) (.list (ns.map PyData.int)) ∧ dOk (m + 1) (.tuple (ns.map PyData.int)) := by
  have q : ∀ d ∈ ns.map PyData.int, dOk m d := fun d hd => by
    obtain ⟨n, _, rfl⟩ := List.mem_map.mp hd
    cases m <;> trivial
  constructor
  · exact ⟨by rw [List.length_map]; exact h, q⟩
  · exact ⟨by rw [List.length_map]; exact h, q⟩
theorem Now.fresh {o : HO} (N : Now K D M H0 H l ts) (A : Aft [] H H') (hp : H p = none) (h : H' p = some o) (hm : Mut (some o)) : Now K D M H0 H' (⟨true, p, o⟩ :: l) ts :=
  Now.grow N (N.pure A) (fun _ h => .inl h) hp h hm
theorem sorted_eq {a b c : List Int} (h1 : a.Perm c) (h2 : a.Pairwise (· ≤ ·)) (h3 : b.Perm c) (h4 : b.Pairwise (· ≤ ·)) : a = b :=
  (h1.trans h3.symm).eq_of_pairwise (fun x y _ _ e1 e2 => by omega) h2 h4
end
end Ak
namespace Ak
open PySem PySem.Spec PyProof.Rows L2
/-! ### max, min, tuple of a tuple, patterns, constants of the written part -/
section
variable {X : Cx} {K : PySem.W.Frag} {D : Option Addr} {M : List Addr} {H0 H H' : Hp} {l : List Cel} {ts : List (Addr × List V)} {a p : Addr} {σ : L2.St} {te ta tb : TE} {t : TGs} {g : TG} {Q : VK} {v w x : V} {xs vs : List V} {n : Nat} {QQ : L2.St → Hp → Prop} {f : Str} {u : TGs}
def rMax2 : List V → Hp → VK → Prop := fun xs H Q => ∃ i j, xs = [.int i, .int j] ∧ Q (.int (max i j)) H
def rMin2 : List V → Hp → VK → Prop := fun xs H Q => ∃ i j, xs = [.int i, .int j] ∧ Q (.int (min i j)) H
theorem cr_max2 (hc : X.calm = true) : CallR X (.builtin "max") rMax2 := fun pins s σ H xs us Q I r ⟨i, j, e, q⟩ => call_max2 hc pins s σ H xs us Q I r ⟨i, j, e, by
  have z : (if j > i then j else i) = max i j := by omega
  rw [z]; exact q⟩
theorem cr_min2 (hc : X.calm = true) : CallR X (.builtin "min") rMin2 := fun pins s σ H xs us Q I r ⟨i, j, e, q⟩ => call_min2 hc pins s σ H xs us Q I r ⟨i, j, e, by
  have z : (if j < i then j else i) = min i j := by omega
  rw [z]; exact q⟩
theorem g_max2 {i j : Int} (q : Q (.int (max i j)) H) : rMax2 [.int i, .int j] H Q := ⟨i, j, rfl, q⟩
theorem g_min2 {i j : Int} (q : Q (.int (min i j)) H) : rMin2 [.int i, .int j] H Q := ⟨i, j, rfl, q⟩
def rTupT (K : PySem.W.Frag) : List V → Hp → VK → Prop := fun xs H Q => ∃ a ys, xs = [.ref a] ∧ SqT K H a ys ∧ Q (.ref a) H
theorem cr_tupT : CallR X (.type "tuple") (rTupT X.K) := call_tupleT
theorem cr_tupTK (K : PySem.W.Frag) (h : X.K = K) : CallR X (.type "tuple") (rTupT K) := h ▸ cr_tupT
theorem g_tupT (h : SqT K H a xs) (q : Q (.ref a) H) : rTupT K [.ref a] H Q := ⟨a, xs, rfl, h, q⟩
theorem cr_minLK (K : PySem.W.Frag) (h : X.K = K) (hc : X.calm = true) : CallR X (.builtin "min") (rMin K) := h ▸ cr_min hc
theorem cr_maxLK (K : PySem.W.Frag) (h : X.K = K) (hc : X.calm = true) : CallR X (.builtin "max") (rMax K) := h ▸ cr_max hc
theorem g_minL {ns : List Int} (h : SqL K H a (ns.map V.int)) (h0 : 0 < ns.length) (q : ∀ m, m ∈ ns → (∀ y, y ∈ ns → m ≤ y) → Q (.int m) H) : rMin K [.ref a] H Q := ⟨a, ns, rfl, h, h0, q⟩
theorem g_maxL {ns : List Int} (h : SqL K H a (ns.map V.int)) (h0 : 0 < ns.length) (q : ∀ m, m ∈ ns → (∀ y, y ∈ ns → y ≤ m) → Q (.int m) H) : rMax K [.ref a] H Q := ⟨a, ns, rfl, h, h0, q⟩
theorem k_gtup (h : SqT K H a xs) (hn : xs.length = n) (q : t xs σ H QQ) : gTup K n t (.ref a) σ H QQ := ⟨a, xs, rfl, h, hn, q⟩
theorem k_gcons (q : g v σ H fun σ' H' => u vs σ' H' QQ) : gCons g u (v :: vs) σ H QQ := ⟨v, vs, rfl, q⟩
theorem k_gnil (q : QQ σ H) : gNil [] σ H QQ := ⟨rfl, q⟩
theorem k_gattr (h : ta σ H (cSF K f v QQ σ)) : gAttr K ta f v σ H QQ := h
/-- a constant tuple of the top -/
structure Cst (K : PySem.W.Frag) (mg : Str → Option Value) (x : Str) (a : Addr) (xs : List V) : Prop where
  g : mg x = some (.ref a)
  at_ : ∀ H, SqT K H a xs
def Cel.ro (c : Cel) : Cel := { c with w := false }
/-- a method that only reads -/
theorem Now.read {fp : List Cel} (h : CelOk H fp) (tp : ∀ p ∈ ts, H p.1 = some (.tup p.2)) : Now K none M H H (fp.map Cel.ro) ts :=
  .start (by rw [List.map_map]; exact h.1) (fun c hc => by
    obtain ⟨b, hb, rfl⟩ := List.mem_map.mp hc
    exact ⟨(h.2 b hb).1, (h.2 b hb).2, fun z => by cases z⟩) tp (by simp)
theorem filt_snoc {α : Type} {p : α → Bool} {l : List α} {i : Nat} {z : α} (h : l[i]? = some z) : (l.take (i + 1)).filter p = if p z = true then (l.take i).filter p ++ [z] else (l.take i).filter p := by
  rw [List.take_add_one, h, List.filter_append]
  by_cases c : p z = true
  · simp [c]
  · simp [c]
theorem filt_len {α : Type} {p : α → Bool} {l : List α} {i : Nat} : ((l.take i).filter p).length ≤ l.length :=
  Nat.le_trans (List.length_filter_le _ _) (by rw [List.length_take]; omega)
def cPar3 (i j l : Nat) (nx : L2.St → Hp → Prop) (σ : L2.St) : List V → Hp → Prop := fun vs H1 => ∃ u v w, vs = [u, v, w] ∧ nx (((σ.set i (some u)).set j (some v)).set l (some w)) H1
theorem k_par3 {i j l : Nat} {tr : TA} {nx bk ct : L2.St → Hp → Prop} {rt : VK} (h : tr σ H (cPar3 i j l nx σ)) : tPar3 i j l tr ⟨nx, rt, bk, ct⟩ σ H := h
theorem e_par3 {i j l : Nat} {nx : L2.St → Hp → Prop} {u v w : V} (h : nx (((σ.set i (some u)).set j (some v)).set l (some w)) H) : cPar3 i j l nx σ [u, v, w] H := ⟨u, v, w, rfl, h⟩
theorem k_lenSet {K : PySem.W.Frag} (h : te σ H fun x H1 => ∃ (l : Addr) (ns : List Int), x = .ref l ∧ SqL K H1 l (ns.map V.int) ∧ ns.Nodup ∧ ns.length ≤ 4000 ∧ Q (.int (ns.length : Nat)) H1) : RZ.tLenSetI K te σ H Q := h
theorem k_eqStr {a b : Str} (h : a ≠ b) (q : Q (.bl false) H) : rEq (.str a) (.str b) H Q := k_eq rfl (by rw [decide_eq_false (fun e => h (V.str.inj e))]; exact q)
def scRetCmp : Stmt → Scope
  | .Return (some (.Compare (.ListComp _ _ sc _) _ _ _)) _ => sc
  | _ => ⟨.function, [], false, false, []⟩
theorem atI_neg1 {α : Type} {xs : List α} (h : 0 < xs.length) : atI xs (-1) = xs[xs.length - 1]? := by
  have e : ixN xs.length (-1) = some (xs.length - 1) := by
    unfold ixN
    rw [if_neg (by omega), if_pos (by omega)]
    congr 1
    omega
  unfold atI
  rw [e]
  rfl
/-! ### menus -/
theorem g_menu2 {b c i : Int} (h : SqL K H p [.int b, .int c]) (hi : 0 ≤ i ∧ i < 2) (q : ∀ v, v = b ∨ v = c → Q (.int v) H) : rIxL K (.ref p) (.int i) H Q := by
  have : i = 0 ∨ i = 1 := by omega
  rcases this with rfl | rfl
  · exact g_ixL h rfl (q _ (.inl rfl))
  · exact g_ixL h rfl (q _ (.inr rfl))
theorem g_menu3 {b c d i : Int} (h : SqL K H p [.int b, .int c, .int d]) (hi : 0 ≤ i ∧ i < 3) (q : ∀ v, v = b ∨ v = c ∨ v = d → Q (.int v) H) : rIxL K (.ref p) (.int i) H Q := by
  have : i = 0 ∨ i = 1 ∨ i = 2 := by omega
  rcases this with rfl | rfl | rfl
  · exact g_ixL h rfl (q _ (.inl rfl))
  · exact g_ixL h rfl (q _ (.inr (.inl rfl)))
  · exact g_ixL h rfl (q _ (.inr (.inr rfl)))
theorem g_menu4 {b c d e i : Int} (h : SqL K H p [.int b, .int c, .int d, .int e]) (hi : 0 ≤ i ∧ i < 4) (q : ∀ v, v = b ∨ v = c ∨ v = d ∨ v = e → Q (.int v) H) : rIxL K (.ref p) (.int i) H Q := by
  have : i = 0 ∨ i = 1 ∨ i = 2 ∨ i = 3 := by omega
  rcases this with rfl | rfl | rfl | rfl
  · exact g_ixL h rfl (q _ (.inl rfl))
  · exact g_ixL h rfl (q _ (.inr (.inl rfl)))
  · exact g_ixL h rfl (q _ (.inr (.inr (.inl rfl))))
  · exact g_ixL h rfl (q _ (.inr (.inr (.inr rfl))))
theorem g_menu5 {b c d e f i : Int} (h : SqL K H p [.int b, .int c, .int d, .int e, .int f]) (hi : 0 ≤ i ∧ i < 5) (q : ∀ v, v = b ∨ v = c ∨ v = d ∨ v = e ∨ v = f → Q (.int v) H) : rIxL K (.ref p) (.int i) H Q := by
  have : i = 0 ∨ i = 1 ∨ i = 2 ∨ i = 3 ∨ i = 4 := by omega
  rcases this with rfl | rfl | rfl | rfl | rfl
  · exact g_ixL h rfl (q _ (.inl rfl))
  · exact g_ixL h rfl (q _ (.inr (.inl rfl)))
  · exact g_ixL h rfl (q _ (.inr (.inr (.inl rfl))))
  · exact g_ixL h rfl (q _ (.inr (.inr (.inr (.inl rfl)))))
  · exact g_ixL h rfl (q _ (.inr (.inr (.inr (.inr rfl)))))
/-! ### sorted -/
def srt (l : List Int) : List Int := l.mergeSort fun a b => decide (a ≤ b)
theorem srt_perm (l : List Int) : (srt l).Perm l := List.mergeSort_perm l _
theorem srt_sorted (l : List Int) : (srt l).Pairwise (· ≤ ·) := by
  have h : (srt l).Pairwise fun a b => decide (a ≤ b) = true := List.pairwise_mergeSort (fun a b c h1 h2 => by
    have := of_decide_eq_true h1
    have := of_decide_eq_true h2
    exact decide_eq_true (by omega)) (fun a b => by
    by_cases c : a ≤ b
    · simp [c]
    · simp [show b ≤ a by omega]) l
  exact h.imp fun {a b} h => of_decide_eq_true h
theorem srt_eq {ys l : List Int} (hp : ys.Perm l) (hs : ys.Pairwise (· ≤ ·)) : ys = srt l := sorted_eq hp hs (srt_perm l) (srt_sorted l)
theorem srt_len (l : List Int) : (srt l).length = l.length := (srt_perm l).length_eq
theorem srt_mem {l : List Int} {x : Int} : x ∈ srt l ↔ x ∈ l := (srt_perm l).mem_iff
theorem g_srt {ks : List Int} (N : Now K D M H0 H l ts) (hx : SqL K H a (ks.map V.int)) (q : ∀ p H', Now K D M H0 H' (⟨true, p, .lst ((srt ks).map V.int)⟩ :: l) ts → Q (.ref p) H') : rSortedI K [.ref a] H Q :=
  g_sortL N hx fun p H' ys h1 h2 N' => q p H' (by rw [← srt_eq h1 h2]; exact N')
end
end Ak
namespace Ak
open PySem PySem.Spec PyProof.Rows L2
/-! ### while, by counted turns -/
section
variable {σ : L2.St} {H : Hp} {c : TT} {tb : TS} {Pv : Nat → L2.St → Hp → Prop} {n i : Nat} {nx bk ct : L2.St → Hp → Prop} {rt : VK}
def WW (Pv : Nat → L2.St → Hp → Prop) (n : Nat) : Nat → L2.St → Hp → Prop := fun m σ H => ∃ i, i ≤ n ∧ m = n - i ∧ Pv i σ H
def cWh (Pv : Nat → L2.St → Hp → Prop) (n i : Nat) (tb : TS) (D : Ends) (σ : L2.St) : Bool → Hp → Prop := fun b H1 => if b = true then ∃ N : L2.St → Hp → Prop, (∀ σ' H', N σ' H' → ∃ m', m' < n - i ∧ WW Pv n m' σ' H') ∧ tb { D with nx := N, ct := N, bk := D.nx } σ H1 else D.nx σ H1
theorem k_while (Pv : Nat → L2.St → Hp → Prop) (n : Nat) (h0 : Pv 0 σ H) (hs : ∀ i σ H, i ≤ n → Pv i σ H → c σ H (cWh Pv n i tb ⟨nx, rt, bk, ct⟩ σ)) : tWhile c tb ⟨nx, rt, bk, ct⟩ σ H :=
  ⟨WW Pv n, ⟨n, 0, Nat.zero_le _, rfl, h0⟩, fun m σ H ⟨i, hi, e, p⟩ => by
    subst e
    exact hs i σ H hi p⟩
theorem c_whT (hi : i < n) (q : tb ⟨Pv (i + 1), rt, nx, Pv (i + 1)⟩ σ H) : cWh Pv n i tb ⟨nx, rt, bk, ct⟩ σ true H := ⟨Pv (i + 1), fun σ' H' p => ⟨n - (i + 1), by omega, i + 1, hi, rfl, p⟩, q⟩
theorem c_whF (q : nx σ H) : cWh Pv n i tb ⟨nx, rt, bk, ct⟩ σ false H := q
end
/-! ### for over range(a, b) -/
section
variable {σ : L2.St} {H : Hp} {g : TG} {t : TS} {tr : TA} {nx bk ct : L2.St → Hp → Prop} {rt : VK}
def cForR2 (g : TG) (tb : TS) (D : Ends) (σ : L2.St) : List V → Hp → Prop := fun vs H1 => ∃ i j : Int, vs = [.int i, .int j] ∧ (-(2 ^ 62) ≤ i ∧ i < 2 ^ 62 ∧ -(2 ^ 62) ≤ j ∧ j < 2 ^ 62) ∧
  ∃ W : Nat → Nat → L2.St → Hp → Prop, (∃ m, W 0 m σ H1) ∧ ∀ k m σ H, W k m σ H →
  ((Itr i (j - i).toNat).stop k H ∧ D.nx σ H) ∨ ((Itr i (j - i).toNat).go k H ∧ ∃ N : L2.St → Hp → Prop, (∀ σ' H', N σ' H' → ∃ m', m' < m ∧ W (k + 1) m' σ' H') ∧ ∀ x H', (Itr i (j - i).toNat).yld k H x H' → g x σ H' fun σ2 H2 => tb { D with nx := N, ct := N, bk := D.nx } σ2 H2)
theorem k_forR2 (h : tr σ H (cForR2 g t ⟨nx, rt, bk, ct⟩ σ)) : tFor (iRng2 tr) g t ⟨nx, rt, bk, ct⟩ σ H := h
theorem c_forR2 {lo hi : Int} (hn : (-100000 ≤ lo ∧ lo ≤ 100000) ∧ -100000 ≤ hi ∧ hi ≤ 100000) (Pv : Nat → L2.St → Hp → Prop) (h0 : Pv 0 σ H)
    (hs : ∀ (i : Nat) σ H, lo + (i : Int) < hi → Pv i σ H → g (.int (lo + (i : Int))) σ H fun σ2 H2 => t ⟨Pv (i + 1), rt, nx, Pv (i + 1)⟩ σ2 H2) (hd : ∀ σ H, Pv (hi - lo).toNat σ H → nx σ H) : cForR2 g t ⟨nx, rt, bk, ct⟩ σ [.int lo, .int hi] H :=
  ⟨lo, hi, rfl, ⟨by omega, by omega, by omega, by omega⟩, for_range (D := ⟨nx, rt, bk, ct⟩) Pv h0 (fun i σ H h p => hs i σ H (by omega) p) hd⟩
end
/-- nothing was written yet -/
theorem Now.back {K : PySem.W.Frag} {D : Option Addr} {H0 H : Hp} {fp l : List Cel} {ts : List (Addr × List V)} (N : Now K D (fp.map Cel.a) H0 H l ts) (h : ∀ c ∈ fp, c ∈ l ∧ H0 c.a = some c.o) : Aft [] H0 H :=
  ⟨fun b o e _ => by
    by_cases m : b ∈ fp.map Cel.a
    · obtain ⟨c, hc, rfl⟩ := List.mem_map.mp m
      obtain ⟨h1, h2⟩ := h c hc
      rw [h2] at e
      rw [← e]
      exact N.at_ c h1
    · exact N.af.k b o e m, N.af.t, N.af.z⟩
theorem CelOk.keep {H H' : Hp} {fp : List Cel} (h : CelOk H fp) (A : Aft [] H H') : CelOk H' fp := ⟨h.1, fun c hc => ⟨A.k _ _ (h.2 c hc).1 (by simp), (h.2 c hc).2⟩⟩
theorem CelOk.sel {H : Hp} {l l' : List Cel} (h : CelOk H l) (is : List Nat) (e : is.map (fun i => l[i]?) = l'.map some) (hn : is.Nodup) : CelOk H l' := ((Now.begin (K := []) (ts := []) h (by simp)).sel is e hn).ok
/-- the least number from a place on with a rest -/
theorem least_ne {m lo k : Int} {i : Nat} (hm : 0 < m) (hk : 0 ≤ k ∧ k < m) (hi : (i : Int) < (k - lo) % m) : (lo + i) % m ≠ k := fun e => by
  have h1 : (k - lo - (i : Int)) % m = 0 := by
    have : k - lo - (i : Int) = k - (lo + i) := by omega
    rw [this, ← e, Int.sub_emod, Int.emod_emod, Int.sub_self, Int.zero_emod]
  have h2 := Int.emod_lt_of_pos (k - lo) hm
  have h3 : ((k - lo) % m - (i : Int)) % m = 0 := by rw [Int.sub_emod, Int.emod_emod, ← Int.sub_emod]; exact h1
  rw [Int.emod_eq_of_lt (by omega) (by omega)] at h3
  omega
theorem least_eq {m lo k : Int} (hm : 0 < m) (hk : 0 ≤ k ∧ k < m) : (lo + (k - lo) % m) % m = k := by
  rw [Int.add_emod, Int.emod_emod, ← Int.add_emod]
  rw [show lo + (k - lo) = k by omega]
  exact Int.emod_eq_of_lt hk.1 hk.2
theorem most_ne {m hi k : Int} {i : Nat} (hm : 0 < m) (hk : 0 ≤ k ∧ k < m) (h : (i : Int) < (hi - k) % m) : (hi - i) % m ≠ k := fun e => by
  have h1 : (hi - k - (i : Int)) % m = 0 := by
    have : hi - k - (i : Int) = (hi - i) - k := by omega
    rw [this, ← e, Int.sub_emod, Int.emod_emod, Int.sub_self, Int.zero_emod]
  have h2 := Int.emod_lt_of_pos (hi - k) hm
  have h3 : ((hi - k) % m - (i : Int)) % m = 0 := by rw [Int.sub_emod, Int.emod_emod, ← Int.sub_emod]; exact h1
  rw [Int.emod_eq_of_lt (by omega) (by omega)] at h3
  omega
theorem most_eq {m hi k : Int} (hm : 0 < m) (hk : 0 ≤ k ∧ k < m) : (hi - (hi - k) % m) % m = k := by
  rw [Int.sub_emod, Int.emod_emod, ← Int.sub_emod]
  rw [show hi - (hi - k) = k by omega]
  exact Int.emod_eq_of_lt hk.1 hk.2
end Ak
namespace Ak
open PySem PySem.Spec PyProof.Rows L2
/-! ### tuples of numbers and words -/
abbrev Sc := Int ⊕ Str
def scV : Sc → V
  | .inl n => .int n
  | .inr s => .str s
def scD : Sc → PyData
  | .inl n => .int n
  | .inr s => .str s
theorem eqv_sc : ∀ {a b : List Sc}, PyData.eqvAll (a.map scD) (b.map scD) = decide (a = b)
  | [], [] => by simp [PyData.eqvAll]
  | [], _ :: _ => by simp [PyData.eqvAll]
  | _ :: _, [] => by simp [PyData.eqvAll]
  | x :: a, y :: b => by
    have ih := eqv_sc (a := a) (b := b)
    rw [List.map_cons, List.map_cons, PyData.eqvAll, ih]
    cases x with
    | inl x =>
      cases y with
      | inl y =>
        by_cases e : x = y
        · subst e; by_cases e2 : a = b <;> simp [scD, PyData.eqv, e2]
        · simp [scD, PyData.eqv, e]
      | inr y => simp [scD, PyData.eqv]
    | inr x =>
      cases y with
      | inl y => simp [scD, PyData.eqv]
      | inr y =>
        by_cases e : x = y
        · subst e; by_cases e2 : a = b <;> simp [scD, PyData.eqv, e2]
        · simp [scD, PyData.eqv, e]
def scOk : Sc → Bool
  | .inl _ => true
  | .inr s => PySem.PyData.strOk s
theorem lay_sc : ∀ ns : List Sc, ns.all scOk = true → PyData.canLayAll0 (ns.map scD) = true ∧ PyData.depthAll (ns.map scD) ≤ 1
  | [], _ => by simp [PyData.canLayAll0, PyData.depthAll]
  | .inl n :: ns, h => by
    obtain ⟨h1, h2⟩ := lay_sc ns (by simpa [scOk] using h)
    simp only [List.map_cons, scD, PyData.canLayAll0, PyData.depthAll, PyData.canLay0, PyData.depth, h1, Bool.and_self, true_and]
    omega
  | .inr n :: ns, h => by
    have h : PySem.PyData.strOk n = true ∧ ns.all scOk = true := by simpa [scOk] using h
    obtain ⟨h1, h2⟩ := lay_sc ns h.2
    simp only [List.map_cons, scD, PyData.canLayAll0, PyData.depthAll, PyData.canLay0, PyData.depth, h1, h.1, Bool.and_self, true_and]
    omega
theorem shaped_sc {ns : List Sc} (h : ns.all scOk = true) : SeqAt.shaped (.tuple (ns.map scD)) = true := by
  obtain ⟨h1, h2⟩ := lay_sc ns h
  unfold SeqAt.shaped
  simp only [PyData.canLay0, PyData.depth, h1, Bool.true_and]
  exact decide_eq_true (by omega)
section
variable {K : PySem.W.Frag} {H : Hp} {a b : Addr} {Q : VK}
theorem dpa_sc : ∀ ns : List Sc, DpAll K H (ns.map scV) (ns.map scD)
  | [] => .nil
  | .inl n :: ns => .cons (.int n) (dpa_sc ns)
  | .inr n :: ns => .cons (.str n) (dpa_sc ns)
theorem g_eqSc {m n : List Sc} (o1 : m.all scOk = true) (o2 : n.all scOk = true) (h1 : SqT K H a (m.map scV)) (h2 : SqT K H b (n.map scV)) (q : Q (.bl (decide (m = n))) H) : rEqD K (.ref a) (.ref b) H Q :=
  ⟨_, _, .tup h1 (dpa_sc m), .tup h2 (dpa_sc n), shaped_sc o1, shaped_sc o2, by rw [PyData.eqv, eqv_sc]; exact q⟩
theorem g_neSc {m n : List Sc} (o1 : m.all scOk = true) (o2 : n.all scOk = true) (h1 : SqT K H a (m.map scV)) (h2 : SqT K H b (n.map scV)) (q : Q (.bl (decide (m ≠ n))) H) : rNeD K (.ref a) (.ref b) H Q :=
  ⟨_, _, .tup h1 (dpa_sc m), .tup h2 (dpa_sc n), shaped_sc o1, shaped_sc o2, by rw [PyData.eqv, eqv_sc, ← decide_not]; exact q⟩
end
/-! ### enumerate of a list -/
section
variable {K : PySem.W.Frag} {σ : L2.St} {H : Hp} {g : TG} {t : TS} {tr : TA} {nx bk ct : L2.St → Hp → Prop} {rt : VK} {a : Addr} {xs : List V}
def cForE (K : PySem.W.Frag) (g : TG) (tb : TS) (D : Ends) (σ : L2.St) : List V → Hp → Prop := fun vs H1 => ∃ a xs, vs = [.ref a] ∧ SqL K H1 a xs ∧
  ∃ W : Nat → Nat → L2.St → Hp → Prop, (∃ m, W 0 m σ H1) ∧ ∀ i m σ H, W i m σ H →
  ((Ite K a).stop i H ∧ D.nx σ H) ∨ ((Ite K a).go i H ∧ ∃ N : L2.St → Hp → Prop, (∀ σ' H', N σ' H' → ∃ m', m' < m ∧ W (i + 1) m' σ' H') ∧ ∀ x H', (Ite K a).yld i H x H' → g x σ H' fun σ2 H2 => tb { D with nx := N, ct := N, bk := D.nx } σ2 H2)
theorem k_forE (h : tr σ H (cForE K g t ⟨nx, rt, bk, ct⟩ σ)) : tFor (iEnum K tr) g t ⟨nx, rt, bk, ct⟩ σ H := h
theorem c_forE (Pv : Nat → L2.St → Hp → Prop) (h0 : Pv 0 σ H) (hl : ∀ i σ H, i ≤ xs.length → Pv i σ H → SqL K H a xs)
    (hs : ∀ i x σ H T, xs[i]? = some x → Pv i σ H → H T = none → g (.ref T) σ (upd H T (.tup [.int (i : Nat), x])) fun σ2 H2 => t ⟨Pv (i + 1), rt, nx, Pv (i + 1)⟩ σ2 H2) (hd : ∀ σ H, Pv xs.length σ H → nx σ H) : cForE K g t ⟨nx, rt, bk, ct⟩ σ [.ref a] H := by
  refine ⟨a, xs, rfl, hl 0 σ H (Nat.zero_le _) h0, fun i m σ H => m = xs.length - i ∧ i ≤ xs.length ∧ Pv i σ H, ⟨xs.length, by simp, Nat.zero_le _, h0⟩, ?_⟩
  rintro i m σ H ⟨rfl, hi, q⟩
  have sq := hl i σ H hi q
  by_cases lt : i < xs.length
  · refine .inr ⟨⟨xs, xs[i], sq, by simp [lt]⟩, Pv (i + 1), fun σ' H' q' => ⟨xs.length - (i + 1), by omega, rfl, lt, q'⟩, ?_⟩
    rintro x H' ⟨T, y, rfl, hT, rfl, hy⟩
    exact hs i y σ H T (hy xs sq) q hT
  · have e : i = xs.length := by omega
    subst e
    exact .inl ⟨⟨xs, sq, Nat.le_refl _⟩, hd σ H q⟩
end
/-! ### events -/
inductive Ev where
  | send
  | come (n : Int)
  | tell
  | hear (n : Int)
  deriving DecidableEq
def Ev.sc : Ev → List Sc
  | .send => [.inr "send"]
  | .come n => [.inr "come", .inl n]
  | .tell => [.inr "tell"]
  | .hear n => [.inr "hear", .inl n]
theorem Ev.scOk (e : Ev) : e.sc.all Ak.scOk = true := by
  cases e
  · show (PySem.PyData.strOk (PySem.Str.ofString "send") && true) = true
    decide +kernel
  · show (PySem.PyData.strOk (PySem.Str.ofString "come") && true) = true
    decide +kernel
  · show (PySem.PyData.strOk (PySem.Str.ofString "tell") && true) = true
    decide +kernel
  · show (PySem.PyData.strOk (PySem.Str.ofString "hear") && true) = true
    decide +kernel
theorem Ev.sc_inj {e f : Ev} (h : e.sc = f.sc) : e = f := by
  have d1 : ("send" : Str) ≠ "tell" := by decide
  have d2 : ("come" : Str) ≠ "hear" := by decide
  cases e <;> cases f <;> simp_all [Ev.sc]
abbrev Ev.v (e : Ev) : List V := e.sc.map scV
section
variable {K : PySem.W.Frag} {H : Hp} {a b : Addr} {Q : VK}
def Ev.isSend : Ev → Bool
  | .send => true
  | _ => false
def Ev.isTell : Ev → Bool
  | .tell => true
  | _ => false
theorem ev_send (e : Ev) : decide (e.sc = [.inr "send"]) = e.isSend := by
  have d1 : ("come" : Str) ≠ "send" := by decide
  have d2 : ("tell" : Str) ≠ "send" := by decide
  have d3 : ("hear" : Str) ≠ "send" := by decide
  cases e <;> simp_all [Ev.sc, Ev.isSend]
theorem ev_tell (e : Ev) : decide (e.sc = [.inr "tell"]) = e.isTell := by
  have d1 : ("come" : Str) ≠ "tell" := by decide
  have d2 : ("send" : Str) ≠ "tell" := by decide
  have d3 : ("hear" : Str) ≠ "tell" := by decide
  cases e <;> simp_all [Ev.sc, Ev.isTell]
theorem g_evSend {e : Ev} {r : Bool} (hr : e.isSend = r) (h1 : SqT K H a e.v) (h2 : SqT K H b [.str "send"]) (q : Q (.bl r) H) : rEqD K (.ref a) (.ref b) H Q :=
  g_eqSc (m := e.sc) (n := [.inr "send"]) e.scOk (Ev.scOk .send) h1 h2 (by rw [ev_send, hr]; exact q)
theorem g_evTell {e : Ev} {r : Bool} (hr : e.isTell = r) (h1 : SqT K H a e.v) (h2 : SqT K H b [.str "tell"]) (q : Q (.bl r) H) : rEqD K (.ref a) (.ref b) H Q :=
  g_eqSc (m := e.sc) (n := [.inr "tell"]) e.scOk (Ev.scOk .tell) h1 h2 (by rw [ev_tell, hr]; exact q)
/-- a word in a tuple of words -/
theorem g_inW {neg r : Bool} {s : Str} {ws : List V} (h : SqL K H a ws ∨ SqT K H a ws) (hf : ws.all flatV = true) (hr : (if neg then !inV (.str s) ws else inV (.str s) ws) = r) (q : Q (.bl r) H) : rIn K neg (.str s) (.ref a) H Q := ⟨a, ws, rfl, h, rfl, hf, by rw [hr]; exact q⟩
end
/-! ### tuples that stand: many at once -/
section
variable {K : PySem.W.Frag} {D : Option Addr} {M : List Addr} {H0 H H' : Hp} {l : List Cel} {ts : List (Addr × List V)} {a p : Addr} {Q : VK} {xs : List V}
theorem Now.addTs (N : Now K D M H0 H l ts) {L : List (Addr × List V)} (h : ∀ p ∈ L, H p.1 = some (.tup p.2)) : Now K D M H0 H l (ts ++ L) := ⟨N.nd, N.at_, N.mu, N.ow, fun p hp => (List.mem_append.mp hp).elim (N.tp p) (h p), N.af, N.dc⟩
/-- what tuples tell of a list of values -/
def Held (R : Hp → Prop) (H : Hp) : Prop := ∃ L : List (Addr × List V), (∀ p ∈ L, H p.1 = some (.tup p.2)) ∧ ∀ H', (∀ p ∈ L, H' p.1 = some (.tup p.2)) → R H'
theorem held_paired {α : Type} {R : Hp → V → α → Prop} (hR : ∀ H v x, R H v x → Held (fun H' => R H' v x) H) : ∀ {H : Hp} {vs : List V} {xs : List α}, Paired (R H) vs xs → Held (fun H' => Paired (R H') vs xs) H
  | _, _, _, .nil => ⟨[], by simp, fun _ _ => .nil⟩
  | H, _, _, .cons h1 h2 => by
    obtain ⟨L1, a1, b1⟩ := hR _ _ _ h1
    obtain ⟨L2, a2, b2⟩ := held_paired hR h2
    exact ⟨L1 ++ L2, fun p hp => (List.mem_append.mp hp).elim (a1 p) (a2 p), fun H' h => .cons (b1 H' fun p hp => h p (List.mem_append_left _ hp)) (b2 H' fun p hp => h p (List.mem_append_right _ hp))⟩
theorem g_rep {k : Int} {n : Nat} (N : Now K D M H0 H l ts) (hx : H a = some (.lst xs)) (hk : k = (n : Int)) (hn : n ≤ 1000) (hz : xs.length ≤ 100) (q : ∀ p H', Now K D M H0 H' (⟨true, p, .lst (List.replicate n xs).flatten⟩ :: l) ts → Q (.ref p) H') : rRep (.ref a) (.int k) H Q := by
  subst hk
  refine ⟨a, (n : Int), xs, rfl, rfl, hx, by omega, by omega, ?_, fun p hp => ?_⟩
  · have : xs.length * n ≤ 100 * 1000 := Nat.mul_le_mul hz hn
    exact Nat.le_trans this (by decide)
  · have := q p _ (N.newC hp (o := .lst (List.replicate n xs).flatten) trivial)
    exact this
theorem g_rep0 (N : Now K D M H0 H l ts) (hx : H a = some (.lst xs)) (hz : xs.length ≤ 100) (q : ∀ p H', Now K D M H0 H' (⟨true, p, .lst []⟩ :: l) ts → Q (.ref p) H') : rRep (.ref a) (.int 0) H Q :=
  g_rep (n := 0) N hx rfl (by omega) hz fun p H' N' => q p H' N'
theorem g_rep1 (N : Now K D M H0 H l ts) (hx : H a = some (.lst xs)) (hz : xs.length ≤ 100) (q : ∀ p H', Now K D M H0 H' (⟨true, p, .lst xs⟩ :: l) ts → Q (.ref p) H') : rRep (.ref a) (.int 1) H Q :=
  g_rep (n := 1) N hx rfl (by omega) hz fun p H' N' => q p H' (by
    have e : (List.replicate 1 xs).flatten = xs := by simp
    rw [e] at N'
    exact N')
/-- how many cells: another order of three parts -/
theorem Now.turn {l1 l2 l3 : List Cel} (N : Now K D M H0 H (l1 ++ (l2 ++ l3)) ts) : Now K D M H0 H (l2 ++ (l1 ++ l3)) ts := N.perm (List.perm_append_comm_assoc l2 l1 l3)
end
end Ak
namespace Ak
open PySem PySem.Spec PyProof.Rows L2
/-! ### exceptions: own classes without own __init__ -/
structure ExK (K : PySem.W.Frag) (mg : Str → Option Value) (x : Str) (C : Addr) : Prop where
  g : mg x = some (.ref C)
  kp : PySem.W.keepIn K (.ref C) = true
  ei : PySem.W.excIn K C veTail "ValueError.__new__" = true
  sb : PySem.W.subIn K (.ref C) (.type "BaseException") = some true
  ty : PySem.W.typeIn K (.ref C) = some (.type "type")
theorem exKB_ok {K : PySem.W.Frag} {mg : Str → Option Value} {x : Str} {C : Addr} (g : mg x = some (.ref C)) (h : exKB K C = true) : ExK K mg x C := by
  unfold exKB at h
  simp only [Bool.and_eq_true, decide_eq_true_eq] at h
  exact ⟨g, h.1, h.2.1, h.2.2.1, h.2.2.2⟩
theorem ps_raiseK {X : Cx} {W : WX} {x m : Str} {C : Addr} {j : Nat} {p p2 pos pos2 : Pos} (hc : X.calm = true) (tk : Takes X W) (T : ExK X.K X.mg x C) (hg : Gl X x) (hdb : (x == ("__debug__" : Str)) = false := by decide) :
    PS X (.Raise (some (.Call (.Name x p) [.Constant (.str m) j p2] [] pos)) none pos2) (fun _ σ H => W (.ref C) none σ H) :=
  ps_raise hc tk (pmk_own PySem.F.excBase_ValueError T.ei T.g T.kp (raises_own T.sb T.ty) hg hdb)
theorem pe_nev {X : Cx} {e : Expr} : PE X e (fun _ _ _ => False) := ⟨fun _ _ _ _ _ _ h => h.elim⟩
/-- a def that makes lambdas: its code object is told -/
theorem okC {P : Program} {w : World} {K : PySem.W.Frag} {mg : Str → Option Value} {base : Heap} {x qual : Str} {params : Arguments} {body : List Stmt} {scope : Scope} {dvs : List V} {kws : List (Str × V)} {f : Addr} {fd : FuncData}
    {CX : CXT} {N ps : List Str} {k : Nat} {sp : Sp} (F : FunD K x qual params body scope dvs kws f fd) (S : FnScope N ps scope) (len : ∀ vs H Q E, sp vs H Q E → vs.length = ps.length)
    (hbody : ∀ (c : Addr) (A : Around) (outer : List Env) (s : Shared) (H : Hp) (vs : List V) (Q : VK) (E : XK), fd.code = .ref c → Room k (A.deeper (envOfC qual scope s.heap.objs.size f (.ref c))) → sp vs H Q E →
      ∃ t, PSs (cxOf CX P w K mg base N qual scope f (.ref c) A outer s H E) body t ∧ t { nx := fun _ H' => Q .non H', rt := Q } (start N vs) H) : FnOk P w K mg base CX (k + 1) f fd ps sp := by
  obtain ⟨oc, od, dV, kV, doc, pm, an, cdv, ct, osl, rfl, lk, hcd, _, _⟩ := F.ex
  obtain ⟨c, rfl⟩ := He.codeIn_ref hcd
  exact fn_of lk hcd S len fun A outer s H vs Q E hr hsp => hbody c A outer s H vs Q E rfl hr hsp
/-! ### list.count, flat items -/
theorem mt_countF_eq {ys : List V} {its : List Value} {y : V} {uy : Value} (rv : Vals ys its) (ry : RelV y uy) (fys : ys.all flatV = true) : its.countP (eqU y) = ys.countP fun z => eqV z y := by
  induction rv with
  | nil => rfl
  | cons r rv ih =>
    rename_i v u vs us
    have h := List.all_eq_true.mp fys
    have h1 : flatV v = true := h v List.mem_cons_self
    have h2 : vs.all flatV = true := List.all_eq_true.mpr fun z hz => h z (List.mem_cons_of_mem _ hz)
    rw [List.countP_cons, List.countP_cons, ih h2, eqU_of r h1]
def rCntF (K : PySem.W.Frag) : V → List V → Hp → VK → Prop := fun x xs H Q => ∃ (p : Addr) (ys : List V) (y : V), x = .ref p ∧ xs = [y] ∧ SqL K H p ys ∧ flatV y = true ∧ ys.all flatV = true ∧ Q (.int ((ys.countP fun z => eqV z y : Nat) : Int)) H
theorem mt_countF {X : Cx} : MtR X "list.count" (rCntF X.K) := by
  intro pins s σ H x xs v us Q I rx rxs h
  obtain ⟨p, ys, y, rfl, rfl, hs, fy, fys, q⟩ := h
  cases rx
  cases rxs with
  | cons ry rt =>
    rename_i uy ut
    cases rt
    obtain ⟨its, rv, ⟨⟨cls, dd, data, sl⟩, n, ho, hc, hdn, hd⟩, hlen⟩ := I.list hs
    simp only at hc hd
    subst hc hd
    refine call_meets PySem.F.slot_list_count ⟨_, ho, rfl⟩ PySem.F.entry_list_count (PySem.F.args_list_count_2 _ _)
      (SeqAt.list_countAt p its.toArray n dd sl uy (eqU y)) ⟨ho, fun u' hu' => mem_eqAt ry fy rv fys u' (by simpa using hu'), ?_⟩
    have ec : its.toArray.toList.countP (eqU y) = ys.countP fun z => eqV z y := mt_countF_eq rv ry fys
    refine ⟨.int ((ys.countP fun z => eqV z y : Nat) : Int), H, I.tok _, ⟨s.toks, ?_⟩, q⟩
    show Value.int ((its.toArray.toList.countP (eqU y) : Nat) : Int) s.toks = Value.int ((ys.countP fun z => eqV z y : Nat) : Int) s.toks
    rw [ec]
/-! ### a caught exception -/
theorem takes_len {X : Cx} {W : WX} (tk : Takes X W) : Takes X (fun cls d σ H => σ.length = X.N.length → W cls d σ H) := fun u s' ⟨a, B, sI, pins, σ, H, cls, d, e, I, nb, up, sky, na, os, ag, h⟩ =>
  tk u s' ⟨a, B, sI, pins, σ, H, cls, d, e, I, nb, up, sky, na, os, ag, h I.len⟩
/-- isinstance(e, c), e the exception of the suite -/
def rIsEg (K : PySem.W.Frag) (cls : Value) (d : Option Addr) (a : Addr) : List V → Hp → VK → Prop := fun xs H Q => ∃ (D : Addr) (c : V) (cv : Value) (b : Bool), cls = .ref D ∧ d = none ∧ ExcC K D ∧ xs = [.ref a, c] ∧ (∀ u, RelV c u → u = cv) ∧ PySem.W.kitOne K (.ref D) cv = some b ∧ Q (.bl b) H
theorem call_isEg {X : Cx} {a : Addr} {cls : Value} {d : Option Addr} {oe : Obj} {pn : List (Addr × Obj)} (hz : Zc cls d oe) (hf : ∃ vs, oe.data = .fields vs) : CallR (X.suite a ((a, oe) :: pn)) (.builtin "isinstance") (rIsEg X.K cls d a) := by
  intro pins s σ H xs us Q I r h
  obtain ⟨D, c, cv, b, rfl, rfl, C, e1, e2, e3, q⟩ := h
  exact call_isE C hz hf pins s σ H xs us Q I r ⟨c, cv, b, e1, e2, e3, q⟩
/-- the kinds of refusals by name -/
structure Kin (mg : Str → Option Value) (c1 c2 c3 c4 c5 c6 cb : Addr) : Prop where
  g1 : mg "BadSetting" = some (.ref c1)
  g2 : mg "BadMark" = some (.ref c2)
  g3 : mg "BadBits" = some (.ref c3)
  g4 : mg "Full" = some (.ref c4)
  g5 : mg "BadEvent" = some (.ref c5)
  g6 : mg "BadText" = some (.ref c6)
  gb : mg "BitsError" = some (.ref cb)
  ve : mg "ValueError" = none
/-- D is the kind n among them -/
structure Kof (K : PySem.W.Frag) (c1 c2 c3 c4 c5 c6 cb D : Addr) (n : Nat) : Prop where
  c : ExcC K D
  k1 : PySem.W.kitOne K (.ref D) (.ref c1) = some (decide (n = 1))
  k2 : PySem.W.kitOne K (.ref D) (.ref c2) = some (decide (n = 2))
  k3 : PySem.W.kitOne K (.ref D) (.ref c3) = some (decide (n = 3))
  k4 : PySem.W.kitOne K (.ref D) (.ref c4) = some (decide (n = 4))
  k5 : PySem.W.kitOne K (.ref D) (.ref c5) = some (decide (n = 5))
  k6 : PySem.W.kitOne K (.ref D) (.ref c6) = some (decide (n = 6))
  kv : PySem.W.kitOne K (.ref D) (.type "ValueError") = some true
  m : PySem.W.exmOne K (.ref D) (.ref cb) = some true
theorem excCB_ok {K : PySem.W.Frag} {D : Addr} (h : excCB K D = true) : ExcC K D := by
  unfold excCB at h
  simp only [Bool.and_eq_true, decide_eq_true_eq] at h
  obtain ⟨h1, h2, h3, h4, h5, h6, h7, h8⟩ := h
  exact ⟨h1, h2, h3, h4, h5, h6, h7, h8⟩
theorem kofB_ok {K : PySem.W.Frag} {c1 c2 c3 c4 c5 c6 cb D : Addr} {n : Nat} (h : kofB K c1 c2 c3 c4 c5 c6 cb D n = true) : Kof K c1 c2 c3 c4 c5 c6 cb D n := by
  unfold kofB at h
  simp only [Bool.and_eq_true, decide_eq_true_eq] at h
  obtain ⟨h0, h1, h2, h3, h4, h5, h6, h7, h8⟩ := h
  exact ⟨excCB_ok h0, h1, h2, h3, h4, h5, h6, h7, h8⟩
def kWord : Nat → Str
  | 1 => "setting"
  | 2 => "mark"
  | 3 => "bits"
  | 4 => "full"
  | 5 => "event"
  | _ => "text"
/-- what _law_told makes of a lambda's reading, where no field is asked -/
def TTold (K : PySem.W.Frag) (c1 c2 c3 c4 c5 c6 cb : Addr) : (XK → Hp → VK → Prop) → Hp → VK → Prop := fun tl H Q =>
  tl (fun cls d H' => ∃ (D : Addr) (n : Nat), cls = .ref D ∧ d = none ∧ Kof K c1 c2 c3 c4 c5 c6 cb D n ∧ (n = 2 ∨ n = 3 ∨ n = 4) ∧ ∀ p H'', Aft [] H' H'' → H'' p = some (.tup [.str (kWord n)]) → Q (.ref p) H'') H Q
theorem g_cntF {K : PySem.W.Frag} {H : Hp} {p : Addr} {ys : List V} {y : V} {n : Nat} {Q : VK} (h : SqL K H p ys) (f1 : flatV y = true) (f2 : ys.all flatV = true) (hn : (ys.countP fun z => eqV z y) = n) (q : Q (.int (n : Int)) H) : rCntF K (.ref p) [y] H Q := ⟨p, ys, y, rfl, rfl, h, f1, f2, by rw [hn]; exact q⟩
theorem g_idx {K : PySem.W.Frag} {H : Hp} {p : Addr} {ys : List V} {y z : V} (j : Nat) {Q : VK} (h : SqL K H p ys) (f1 : flatV y = true) (f2 : ys.all flatV = true) (hz : ys[j]? = some z) (hj : eqV z y = true) (hno : ∀ (m : Nat) (z' : V), m < j → ys[m]? = some z' → eqV z' y = false) (q : Q (.int (j : Int)) H) : rIndex K (.ref p) [y] H Q :=
  ⟨p, ys, y, j, z, rfl, rfl, h, f1, f2, hz, hj, hno, q⟩
theorem mt_indexK {X : Cx} (K : PySem.W.Frag) (h : X.K = K) : MtR X "list.index" (rIndex K) := h ▸ mt_index
theorem mt_countFK {X : Cx} (K : PySem.W.Frag) (h : X.K = K) : MtR X "list.count" (rCntF K) := h ▸ mt_countF
theorem call_isEgK {X : Cx} (K : PySem.W.Frag) (h : X.K = K) {a : Addr} {cls : Value} {d : Option Addr} {oe : Obj} {pn : List (Addr × Obj)} (hz : Zc cls d oe) (hf : ∃ vs, oe.data = .fields vs) : CallR (X.suite a ((a, oe) :: pn)) (.builtin "isinstance") (rIsEg K cls d a) := h ▸ call_isEg hz hf
/-! ### lambdas: tables of code objects beside the cells -/
def plainO : HO → Bool
  | .lst _ => true
  | .dK _ => true
  | .ins _ _ _ => true
  | _ => false
theorem tabs_aft {T : List (Addr × Str)} {M : List Addr} {H H' : Hp} (t : LamX.Tabs T H) (A : Aft M H H') (hM : ∀ b ∈ M, ∃ o, H b = some o ∧ plainO o = true) : LamX.Tabs T H' := fun p hp => by
  obtain ⟨ps, h1, h2, h3⟩ := t p hp
  have nP : p.1 ∉ M := fun m => by
    obtain ⟨o, e1, e2⟩ := hM _ m
    rw [h1] at e1
    rw [← Option.some.inj e1] at e2
    cases e2
  refine ⟨ps, A.k _ _ h1 nP, h2, fun pos cv hc => ?_⟩
  obtain ⟨c, e, hco⟩ := h3 pos cv hc
  refine ⟨c, e, A.k _ _ hco fun m => ?_⟩
  obtain ⟨o, e1, e2⟩ := hM _ m
  rw [hco] at e1
  rw [← Option.some.inj e1] at e2
  cases e2
section
variable {K : PySem.W.Frag} {M : List Addr} {H0 H H1 H2 : Hp} {l : List Cel} {ts : List (Addr × List V)} {d : Addr} {T : List (Addr × Str)}
theorem Now.tabs (N : Now K (some d) M H0 H l ts) (t : LamX.Tabs T H) (hl : ∀ c ∈ l, plainO c.o = true) (A : Aft (d :: l.map Cel.a) H H2) : LamX.Tabs T H2 := tabs_aft t A fun b hb => by
  rcases List.mem_cons.mp hb with e | e
  · subst e
    obtain ⟨_, _, _, _, _, h, _⟩ := (N.dc b rfl).1.ex
    exact ⟨_, h, rfl⟩
  · obtain ⟨c, hc, rfl⟩ := List.mem_map.mp e
    exact ⟨_, N.at_ c hc, hl c hc⟩
theorem Now.reb (N : Now K (some d) M H0 H l ts) : Now K (some d) (d :: l.map Cel.a) H H l ts :=
  .start N.nd (fun c hc => ⟨N.at_ c hc, N.mu c hc, fun _ => List.mem_cons_of_mem _ (List.mem_map.mpr ⟨c, hc, rfl⟩)⟩) N.tp fun e he => by
    cases he
    obtain ⟨h1, h2, h3⟩ := N.dc d rfl
    exact ⟨h1, List.mem_cons_self, h3⟩
theorem Now.extN (N : Now K (some d) M H0 H l ts) (e : LamX.ExtN H H1) : Now K (some d) (d :: l.map Cel.a) H1 H1 l ts :=
  .start N.nd (fun c hc => ⟨e _ _ (N.at_ c hc) (fun ps z => by
      have m := N.mu c hc
      rw [z] at m
      exact m), N.mu c hc, fun _ => List.mem_cons_of_mem _ (List.mem_map.mpr ⟨c, hc, rfl⟩)⟩) (fun p hp => e _ _ (N.tp p hp) (fun ps z => by cases z)) fun e' he => by
    cases he
    obtain ⟨⟨a, ns, i, m, r, h1, h2, h3⟩, _, h5⟩ := N.dc d rfl
    refine ⟨⟨a, ns, i, m, r, e _ _ h1 (fun ps z => by cases z), ?_, h3⟩, List.mem_cons_self, h5⟩
    rcases h2 with ⟨u, h⟩ | h
    · exact .inl ⟨u, e _ _ h (fun ps z => by cases z)⟩
    · exact .inr h
theorem k_lam {TT : (XK → Hp → VK → Prop) → Hp → VK → Prop} {t : XK → TE} {σ : L2.St} {Q : VK} (hT : LamX.Tabs T H) (h : ∀ H1, LamX.ExtN H H1 → LamX.Tabs T H1 → TT (fun E H' Q' => t E σ H' Q') H1 Q) : LamX.tLam T TT t σ H Q := ⟨hT, h⟩
end
/-! ### a block under a lock, or as it is -/
theorem pss_lockA {X : Cx} {sts : List Stmt} {t : TS} (h : PSs X sts t) : PSs X sts (fun D σ H => t D σ H ∨ tLock t D σ H) := ⟨fun pins s σ H D I z => by
  rcases z with z | ⟨e, o, he, mo, z⟩
  · exact h.run pins s σ H D I z
  · obtain ⟨oo, J⟩ := I.lock he mo
    have back : ∀ {σ' : L2.St} {H' : Hp} {s' : Shared}, Inv X pins σ' H' s' → H' e = some (.frz oo o) → Inv X pins σ' (upd H' e o) s' := fun J' q => J'.unlock q (I.nofrz he mo)
    refine wpAny_mono (h.run pins s σ _ _ J (z oo)) (fun f s1 q => ?_) (fun _ _ q => q)
    cases f with
    | ret v =>
      obtain ⟨x, σ1, H1, J1, rx, q1, q2⟩ := q
      exact ⟨x, σ1, upd H1 e o, back J1 q1, rx, q2⟩
    | next =>
      obtain ⟨σ1, H1, J1, q1, q2⟩ := q
      exact ⟨σ1, upd H1 e o, back J1 q1, q2⟩
    | brk =>
      obtain ⟨σ1, H1, J1, q1, q2⟩ := q
      exact ⟨σ1, upd H1 e o, back J1 q1, q2⟩
    | cont =>
      obtain ⟨σ1, H1, J1, q1, q2⟩ := q
      exact ⟨σ1, upd H1 e o, back J1 q1, q2⟩⟩
/-- tables and locks -/
structure TZ (T : List (Addr × Str)) (Z : List (Addr × Obj × HO)) (H : Hp) : Prop where
  t : LamX.Tabs T H
  z : ∀ p ∈ Z, H p.1 = some (.frz p.2.1 p.2.2)
section
variable {K : PySem.W.Frag} {M : List Addr} {H0 H H1 H2 : Hp} {l : List Cel} {ts : List (Addr × List V)} {d : Addr} {T : List (Addr × Str)} {Z : List (Addr × Obj × HO)}
theorem TZ.aft (h : TZ T Z H) (N : Now K (some d) M H0 H l ts) (hl : ∀ c ∈ l, plainO c.o = true) (A : Aft (d :: l.map Cel.a) H H2) : TZ T Z H2 := ⟨N.tabs h.t hl A, fun p hp => A.z _ _ _ (h.z p hp)⟩
theorem TZ.aft0 (h : TZ T Z H) (A : Aft [] H H2) : TZ T Z H2 := ⟨tabs_aft h.t A (by simp), fun p hp => A.z _ _ _ (h.z p hp)⟩
theorem TZ.ext (h : TZ T Z H) (e : LamX.ExtN H H1) (t : LamX.Tabs T H1) : TZ T Z H1 := ⟨t, fun p hp => e _ _ (h.z p hp) (fun ps q => by cases q)⟩
/-- the law's core, for a script that is locked, written or not -/
theorem law_core {X : Cx} {sts : List Stmt} {t : TS} {Q : VK} {N : List Str} {a P : Addr} {q : Str} {xs : List V} (hp : PSs X sts t) (hS : SqL X.K H a xs) (hP : H P = some (.tbl #[]))
    (core : ∀ (H : Hp) (Z : List (Addr × Obj × HO)) (D : Ends), (∃ ns : List V, ns = xs) → ((∃ u, H a = some (.frz u (.lst xs))) ∨ (∃ (o : Obj) (its : Array Value) (n : Nat), X.K.lookup a = some o ∧ o.cls = .type "list" ∧ o.dict = none ∧ o.data = .seq its n ∧ its.size ≤ sizeLine ∧ Vals xs its.toList)) → TZ [(P, q)] Z H → (∀ H', (∀ p ∈ Z, H' p.1 = some (.frz p.2.1 p.2.2)) → D.rt (.bl true) H') → t D (L2.start N [.ref a]) H)
    (k : ∀ H', Q (.bl true) H') : ∃ t', PSs X sts t' ∧ t' { nx := fun _ H' => Q .non H', rt := Q } (L2.start N [.ref a]) H := by
  have tb : ∀ H' : Hp, H' P = some (.tbl #[]) → LamX.Tabs [(P, q)] H' := fun H' e p hp => by
    cases List.mem_singleton.mp hp
    exact .nil e
  refine ⟨_, pss_lockA hp, ?_⟩
  rcases hS with (h | h) | h
  · refine .inr ⟨a, .lst xs, h, trivial, fun od => ?_⟩
    have ne : P ≠ a := fun e => by rw [e, h] at hP; cases hP
    refine core _ [(a, od, .lst xs)] _ ⟨_, rfl⟩ (.inl ⟨od, upd_same⟩) ⟨tb _ (by rw [upd_ne ne]; exact hP), fun p hp => ?_⟩ (fun H' hz => ⟨hz (a, od, .lst xs) (by simp), k _⟩)
    cases List.mem_singleton.mp hp
    exact upd_same
  · exact .inl (core H [] _ ⟨_, rfl⟩ (.inl h) ⟨tb _ hP, by simp⟩ (fun H' _ => k H'))
  · exact .inl (core H [] _ ⟨_, rfl⟩ (.inr h) ⟨tb _ hP, by simp⟩ (fun H' _ => k H'))
end
end Ak
namespace Ak
open PySem PySem.Spec PyProof.Rows L2
local macro_rules | `(tactic| walk_at "ty") => `(tactic| first
  | assumption | exact tyx_non | exact tyx_bl | exact tyx_int | exact tyx_str
  | (refine sql_ty (xs := ?x0) ?_; walk_at "sq") | (refine sqt_ty (xs := ?x0) ?_; walk_at "sq"))
local macro_rules | `(tactic| walk_at "kb") => `(tactic| with_reducible first
  | exact kb_bb | exact kb_ib | exact kb_sb | exact kb_nb | exact kb_lb | exact kb_tb | exact kb_is | exact kb_ss | exact kb_ns | exact kb_ls | exact kb_ts
  | exact kb_ii | exact kb_ni | exact kb_li | exact kb_ti | exact kb_ld | exact kb_td | exact kb_lt | exact kb_tt | exact kb_ll | exact kb_tl | exact kb_il)
local macro_rules | `(tactic| walk_at "arith") => `(tactic| first
  | (show (0 : Int) < _; first | decide | omega)
  | (show CDiv _ _; exact ⟨by first | decide | omega, by first | decide | omega⟩)
  | (show CMul _ _; exact Or.inr ⟨by decide, by decide⟩)
  | (show CMul _ _; exact Or.inl ⟨by omega, by omega⟩)
  | (show CMul _ _; exact Or.inr ⟨by omega, by omega⟩)
  | (show CPow _ _; exact ⟨by decide, by decide, by decide⟩))
local macro_rules | `(tactic| walk_at "c") => `(tactic| first
  | assumption
  | ((refine Now.cell (K := ?K0) (D := ?D0) (M := ?M0) (H0 := ?H00) (w := ?w0) (l := ?l0) (ts := ?t0) ?n0 0 ?h0); (case n0 => assumption); (case h0 => rfl))
  | ((refine Now.cell (K := ?K0) (D := ?D0) (M := ?M0) (H0 := ?H00) (w := ?w0) (l := ?l0) (ts := ?t0) ?n0 1 ?h0); (case n0 => assumption); (case h0 => rfl))
  | ((refine Now.cell (K := ?K0) (D := ?D0) (M := ?M0) (H0 := ?H00) (w := ?w0) (l := ?l0) (ts := ?t0) ?n0 2 ?h0); (case n0 => assumption); (case h0 => rfl))
  | ((refine Now.cell (K := ?K0) (D := ?D0) (M := ?M0) (H0 := ?H00) (w := ?w0) (l := ?l0) (ts := ?t0) ?n0 3 ?h0); (case n0 => assumption); (case h0 => rfl))
  | ((refine Now.cell (K := ?K0) (D := ?D0) (M := ?M0) (H0 := ?H00) (w := ?w0) (l := ?l0) (ts := ?t0) ?n0 4 ?h0); (case n0 => assumption); (case h0 => rfl))
  | ((refine Now.cell (K := ?K0) (D := ?D0) (M := ?M0) (H0 := ?H00) (w := ?w0) (l := ?l0) (ts := ?t0) ?n0 5 ?h0); (case n0 => assumption); (case h0 => rfl))
  | ((refine Now.cell (K := ?K0) (D := ?D0) (M := ?M0) (H0 := ?H00) (w := ?w0) (l := ?l0) (ts := ?t0) ?n0 6 ?h0); (case n0 => assumption); (case h0 => rfl))
  | ((refine Now.cell (K := ?K0) (D := ?D0) (M := ?M0) (H0 := ?H00) (w := ?w0) (l := ?l0) (ts := ?t0) ?n0 7 ?h0); (case n0 => assumption); (case h0 => rfl))
  | ((refine Now.cell (K := ?K0) (D := ?D0) (M := ?M0) (H0 := ?H00) (w := ?w0) (l := ?l0) (ts := ?t0) ?n0 8 ?h0); (case n0 => assumption); (case h0 => rfl))
  | ((refine Now.cell (K := ?K0) (D := ?D0) (M := ?M0) (H0 := ?H00) (w := ?w0) (l := ?l0) (ts := ?t0) ?n0 9 ?h0); (case n0 => assumption); (case h0 => rfl))
  | ((refine Now.cell (K := ?K0) (D := ?D0) (M := ?M0) (H0 := ?H00) (w := ?w0) (l := ?l0) (ts := ?t0) ?n0 10 ?h0); (case n0 => assumption); (case h0 => rfl))
  | ((refine Now.cell (K := ?K0) (D := ?D0) (M := ?M0) (H0 := ?H00) (w := ?w0) (l := ?l0) (ts := ?t0) ?n0 11 ?h0); (case n0 => assumption); (case h0 => rfl))
  | ((refine Now.cell (K := ?K0) (D := ?D0) (M := ?M0) (H0 := ?H00) (w := ?w0) (l := ?l0) (ts := ?t0) ?n0 12 ?h0); (case n0 => assumption); (case h0 => rfl))
  | ((refine Now.tup (K := ?K0) (D := ?D0) (M := ?M0) (H0 := ?H00) (l := ?l0) (ts := ?t0) ?n0 0 ?h0); (case n0 => assumption); (case h0 => rfl))
  | ((refine Now.tup (K := ?K0) (D := ?D0) (M := ?M0) (H0 := ?H00) (l := ?l0) (ts := ?t0) ?n0 1 ?h0); (case n0 => assumption); (case h0 => rfl))
  | ((refine Now.tup (K := ?K0) (D := ?D0) (M := ?M0) (H0 := ?H00) (l := ?l0) (ts := ?t0) ?n0 2 ?h0); (case n0 => assumption); (case h0 => rfl))
  | ((refine Now.tup (K := ?K0) (D := ?D0) (M := ?M0) (H0 := ?H00) (l := ?l0) (ts := ?t0) ?n0 3 ?h0); (case n0 => assumption); (case h0 => rfl))
  | ((refine Now.tup (K := ?K0) (D := ?D0) (M := ?M0) (H0 := ?H00) (l := ?l0) (ts := ?t0) ?n0 4 ?h0); (case n0 => assumption); (case h0 => rfl))
  | ((refine Now.tup (K := ?K0) (D := ?D0) (M := ?M0) (H0 := ?H00) (l := ?l0) (ts := ?t0) ?n0 5 ?h0); (case n0 => assumption); (case h0 => rfl))
  | ((refine Now.tup (K := ?K0) (D := ?D0) (M := ?M0) (H0 := ?H00) (l := ?l0) (ts := ?t0) ?n0 6 ?h0); (case n0 => assumption); (case h0 => rfl)))
local macro_rules | `(tactic| walk_at "sq") => `(tactic| first
  | assumption
  | (refine Scr.sq ?_; assumption)
  | ((refine Scr.sq (Scr.keep (M := ?m0) (H := ?h00) ?hs (Now.af (K := ?K0) (D := ?D0) (l := ?l0) (ts := ?t0) ?hn)); (case hn => assumption); (case hs => assumption)))
  | (refine SqL.of ?_; walk_at "c")
  | (refine SqT.of ?_; walk_at "c")
  | ((refine Cst.at_ (K := ?K0) (mg := ?m0) (x := ?x0) ?hc _); (case hc => assumption)))
local macro_rules | `(tactic| walk_at "k1") => `(tactic| first
  | (with_reducible refine k_seq ?_)
  | (with_reducible refine k_asg ?_)
  | (with_reducible refine k_gname ?_)
  | ((with_reducible refine k_var (v := ?kv) ?kh ?kk); (case kh => exact rfl))
  | (with_reducible refine k_c ?_)
  | (with_reducible refine k_cons ?_)
  | (with_reducible refine k_nil ?_)
  | (with_reducible refine k_op ?_)
  | (with_reducible refine k_I0 ?_)
  | ((with_reducible refine k_I ?kh ?kk); (case kh => walk_at "arith"))
  | (with_reducible refine g_intB ?_)
  | ((with_reducible refine g_lnL (xs := ?kx) ?kh ?kk); (case kh => walk_at "sq"))
  | ((with_reducible refine g_lnT (xs := ?kx) ?kh ?kk); (case kh => walk_at "sq"))
  | ((with_reducible refine g_ixL (xs := ?kx) (v := ?kv) ?kh ?ki ?kk); (case kh => walk_at "sq"); (case ki => rfl))
  | ((with_reducible refine g_ixT (xs := ?kx) (v := ?kv) ?kh ?ki ?kk); (case kh => walk_at "sq"); (case ki => rfl))
  | (with_reducible refine k_gsub ?_)
  | ((with_reducible refine g_set0 (l := ?kl) (xs := ?kx) (ts := ?kt) (D := ?kd) (H0 := ?k0) (M := ?km) (K := ?kK) (j := ?kj) ?kn ?ki (fun H' N' => ?kk)); (case kn => with_reducible assumption); (case ki => rfl))
  | ((with_reducible refine g_set1 (c0 := ?kc) (l := ?kl) (xs := ?kx) (ts := ?kt) (D := ?kd) (H0 := ?k0) (M := ?km) (K := ?kK) (j := ?kj) ?kn ?ki (fun H' N' => ?kk)); (case kn => with_reducible assumption); (case ki => rfl))
  | ((with_reducible refine g_tup (l := ?kl) (ts := ?kt) (D := ?kd) (H0 := ?k0) (M := ?km) (K := ?kK) ?kn ?ki (fun p H' N' => ?kk)); (case kn => with_reducible assumption); (case ki => exact Nat.le_of_ble_eq_true rfl))
  | ((with_reducible refine g_lst (l := ?kl) (ts := ?kt) (D := ?kd) (H0 := ?k0) (M := ?km) (K := ?kK) ?kn ?ki (fun p H' N' => ?kk)); (case kn => with_reducible assumption); (case ki => exact Nat.le_of_ble_eq_true rfl))
  | (with_reducible refine c_ifT ?_)
  | (with_reducible refine c_ifF ?_)
  | (with_reducible refine c_andT ?_)
  | (with_reducible refine c_andF ?_)
  | (with_reducible refine c_orT ?_)
  | (with_reducible refine c_orF ?_)
  | (with_reducible refine c_ifET ?_)
  | (with_reducible refine c_ifEF ?_)
  | (with_reducible refine e_andT ?_)
  | (with_reducible refine e_andF ?_)
  | (with_reducible refine e_orT ?_)
  | (with_reducible refine e_orF ?_)
  | (with_reducible refine e_notT ?_)
  | (with_reducible refine e_notF ?_)
  | (with_reducible refine c_ntT ?_)
  | (with_reducible refine c_ntF ?_)
  | (with_reducible refine c_ntD ?_)
  | (with_reducible refine k_isY ?_)
  | ((with_reducible refine k_isX ?kh ?kk); (case kh => intro z; cases z))
  | (with_reducible refine k_ntY ?_)
  | ((with_reducible refine k_ntX ?kh ?kk); (case kh => intro z; cases z))
  | ((with_reducible refine g_isi (a := ?ka) (r := ?kr) ?kt ?kb ?kk); (case kt => walk_at "ty"); (case kb => walk_at "kb"))
  | (with_reducible refine k_fld ?_)
  | ((with_reducible refine g_fld (C := ?kC) (dx := ?kdx) (fs := ?kfs) (v := ?kv) ?kh ?kcl ?kna ?kl ?kk); (case kh => walk_at "c"); (case kcl => assumption); (case kna => assumption); (case kl => rfl))
  | (with_reducible refine k_sfld ?_)
  | ((with_reducible refine g_sf0 (K := ?kK) (D := ?kd) (M := ?km) (H0 := ?k0) (l := ?kl) (ts := ?kt) (C := ?kC) (dx := ?kdx) (fs := ?kfs) (fs' := ?kfs') ?kn ?kcl ?kna ?kll ?ke (fun H' N' => ?kk)); (case kn => with_reducible assumption); (case kcl => assumption); (case kna => assumption); (case kll => exact Nat.le_of_ble_eq_true rfl); (case ke => rfl))
  | ((with_reducible refine g_sf1 (K := ?kK) (D := ?kd) (M := ?km) (H0 := ?k0) (c0 := ?kc0) (l := ?kl) (ts := ?kt) (C := ?kC) (dx := ?kdx) (fs := ?kfs) (fs' := ?kfs') ?kn ?kcl ?kna ?kll ?ke (fun H' N' => ?kk)); (case kn => with_reducible assumption); (case kcl => assumption); (case kna => assumption); (case kll => exact Nat.le_of_ble_eq_true rfl); (case ke => rfl))
  | ((with_reducible refine g_sf2 (K := ?kK) (D := ?kd) (M := ?km) (H0 := ?k0) (c0 := ?kc0) (c1 := ?kc1) (l := ?kl) (ts := ?kt) (C := ?kC) (dx := ?kdx) (fs := ?kfs) (fs' := ?kfs') ?kn ?kcl ?kna ?kll ?ke (fun H' N' => ?kk)); (case kn => with_reducible assumption); (case kcl => assumption); (case kna => assumption); (case kll => exact Nat.le_of_ble_eq_true rfl); (case ke => rfl))
  | (with_reducible refine k_meth ?_)
  | ((with_reducible refine g_meth (dx := ?kdx) (fs := ?kfs) ?kh ?kl ?kk); (case kh => walk_at "c"); (case kl => rfl))
  | (with_reducible refine k_make ?_)
  | (with_reducible refine k_dget ?_)
  | (with_reducible refine k_din ?_)
  | (with_reducible refine k_dnin ?_)
  | (with_reducible refine k_dput ?_)
  | (with_reducible refine k_dpop ?_)
  | ((with_reducible refine g_dgetS (kvs := ?kkv) (v := ?kv) ?kh ?kl ?kk); (case kh => walk_at "c"); (case kl => rfl))
  | ((with_reducible refine k_dnew (K := ?kK) (D := ?kd) (M := ?km) (H0 := ?k0) (l := ?kl) (ts := ?kt) ?kn (fun p H' N' => ?kk)); (case kn => with_reducible assumption))
  | ((with_reducible refine c_chD ?kh ?kk); (case kh => omega))
  | ((with_reducible refine c_chN ?kh ?kk); (case kh => omega))
  | ((with_reducible refine c_ifdT ?kh ?kk); (case kh => omega))
  | ((with_reducible refine c_ifdF ?kh ?kk); (case kh => omega))
  | (with_reducible refine k_lc ?_)
  | (with_reducible refine k_lcT ?_)
  | (with_reducible refine k_lcR ?_)
  | (with_reducible refine k_lcR2 ?_)
  | (with_reducible refine k_yes ?_)
  | (with_reducible refine c_elT ?_)
  | (with_reducible refine k_sl ?_)
  | (with_reducible refine k_nopart ?_)
  | (with_reducible refine k_part ?_)
  | (with_reducible refine c_part ?_)
  | ((with_reducible refine g_slL (K := ?kK) (D := ?kd) (M := ?km) (H0 := ?k0) (l := ?kl) (ts := ?kt) (xs := ?kxs) ?kn ?kx (fun p H' N' => ?kk)); (case kn => with_reducible assumption); (case kx => walk_at "sq"))
  | ((with_reducible refine g_tupL (K := ?kK) (D := ?kd) (M := ?km) (H0 := ?k0) (l := ?kl) (ts := ?kt) (xs := ?kxs) ?kn ?kx (fun p H' N' => ?kk)); (case kn => with_reducible assumption); (case kx => walk_at "sq"))
  | ((with_reducible refine g_lstL (K := ?kK) (D := ?kd) (M := ?km) (H0 := ?k0) (l := ?kl) (ts := ?kt) (xs := ?kxs) ?kn ?kx (fun p H' N' => ?kk)); (case kn => with_reducible assumption); (case kx => walk_at "sq"))
  | ((with_reducible refine g_lstT (K := ?kK) (D := ?kd) (M := ?km) (H0 := ?k0) (l := ?kl) (ts := ?kt) (xs := ?kxs) ?kn ?kx (fun p H' N' => ?kk)); (case kn => with_reducible assumption); (case kx => walk_at "sq"))
  | ((with_reducible refine g_cat (K := ?kK) (D := ?kd) (M := ?km) (H0 := ?k0) (l := ?kl) (ts := ?kt) (xs := ?kxs) (ys := ?kys) ?kn ?kx ?ky ?kz (fun p H' N' => ?kk)); (case kn => with_reducible assumption); (case kx => walk_at "c"); (case ky => walk_at "c"); (case kz => first | (simp only [List.length_map, List.length_cons, List.length_nil]; omega) | omega))
  | (with_reducible refine k_bm ?_)
  | (with_reducible refine k_bm0 ?_)
  | ((with_reducible refine g_bmL (xs := ?kxs) ?kx ?kk); (case kx => walk_at "sq"))
  | ((with_reducible refine g_bmL0 (xs := ?kxs) ?kx ?kk); (case kx => walk_at "sq"))
  | (with_reducible refine k_forK ?_)
  | ((with_reducible refine g_inI (ns := ?kns) ?kx ?kk); (case kx => first | (refine Or.inl ?_; walk_at "sq") | (refine Or.inr ?_; walk_at "sq")))
  | ((with_reducible refine g_ninI (ns := ?kns) ?kx ?kk); (case kx => first | (refine Or.inl ?_; walk_at "sq") | (refine Or.inr ?_; walk_at "sq")))
  | (with_reducible refine k_if ?_)
  | (with_reducible refine k_test ?_)
  | (with_reducible refine e_bl ?_)
  | ((with_reducible refine k_eqS ?kh ?kk); (case kh => rfl))
  | ((with_reducible refine k_neS ?kh ?kk); (case kh => rfl))
  | (with_reducible refine k_eqI ?_)
  | (with_reducible refine k_neI ?_)
  | (with_reducible refine k_call ?_)
  | (with_reducible refine k_cb ?_)
  | (with_reducible refine k_tup ?_)
  | (with_reducible refine k_lst ?_)
  | (with_reducible refine k_drop ?_)
  | (with_reducible refine k_ret ?_)
  | (with_reducible refine k_for ?_)
  | (with_reducible refine k_forT ?_)
  | (with_reducible refine k_forR ?_)
  | (with_reducible refine k_forR2 ?_)
  | (with_reducible refine k_forE ?_)
  | (with_reducible refine k_tB ?_)
  | (with_reducible refine k_not ?_)
  | (with_reducible refine k_and ?_)
  | (with_reducible refine k_or ?_)
  | (with_reducible refine k_andV ?_)
  | (with_reducible refine k_orV ?_)
  | (with_reducible refine k_notV ?_)
  | (with_reducible refine k_ifE ?_)
  | (with_reducible refine k_par ?_)
  | (with_reducible refine k_par3 ?_)
  | (with_reducible refine e_par3 ?_)
  | (with_reducible refine k_lenSet ?_)
  | (with_reducible refine e_par ?_)
  | (with_reducible refine k_next ?_)
  | (with_reducible refine k_un ?_)
  | (with_reducible refine k_U ?_)
  | (with_reducible refine k_chain ?_)
  | (with_reducible refine k_pairs ?_)
  | ((with_reducible refine k_gtup (xs := ?kx) ?kh ?kn ?kk); (case kh => walk_at "sq"); (case kn => rfl))
  | (with_reducible refine k_gcons ?_)
  | (with_reducible refine k_gnil ?_)
  | (with_reducible refine k_gattr ?_)
  | (with_reducible refine g_max2 ?_)
  | (with_reducible refine g_min2 ?_)
  | ((with_reducible refine g_tupT (xs := ?kx) ?kh ?kk); (case kh => walk_at "sq"))
  | (with_reducible refine k_pairs0 ?_)
  | ((with_reducible refine k_disp (K := ?kK) (D := ?kd) (M := ?km) (H0 := ?k0) (l := ?kl) (ts := ?kt) ?kn (fun p H' N' => ?kk)); (case kn => with_reducible assumption)))
local macro_rules | `(tactic| walk_at "k") => `(tactic| repeat (walk_at "k1"))
local macro_rules | `(tactic| walk_at "go") => `(tactic| (dsimp only [cxOf, Cx.nox, Cx.wish, L2.start, List.map_cons, List.map_nil, List.length_cons, List.length_nil, Nat.reduceAdd, Nat.reduceSub, List.replicate, List.cons_append, List.nil_append]; walk_at "k"))
local macro_rules | `(tactic| walk_at "kn1") => `(tactic| first
  | walk_at "k1"
  | ((with_reducible refine g_menu2 (b := ?mb) (c := ?mc) ?kh ?ki (fun v hv => ?kk)); (case kh => walk_at "sq"); (case ki => omega))
  | ((with_reducible refine g_menu3 (b := ?mb) (c := ?mc) (d := ?md) ?kh ?ki (fun v hv => ?kk)); (case kh => walk_at "sq"); (case ki => omega))
  | ((with_reducible refine g_menu4 (b := ?mb) (c := ?mc) (d := ?md) (e := ?me) ?kh ?ki (fun v hv => ?kk)); (case kh => walk_at "sq"); (case ki => omega))
  | ((with_reducible refine g_menu5 (b := ?mb) (c := ?mc) (d := ?md) (e := ?me) (f := ?mf) ?kh ?ki (fun v hv => ?kk)); (case kh => walk_at "sq"); (case ki => omega))
  | ((show spNext _ _ _ _ _); (refine g_next (K := ?kK) (M := ?km) (H0 := ?k0) (l := ?kl) (ts := ?kt) (n := ?kz) ?kn ?kb (fun v H' N' b1 b2 => ?kk)); (case kn => with_reducible assumption); (case kb => first | decide | omega)))
local macro_rules | `(tactic| walk_at "kn") => `(tactic| repeat (walk_at "kn1"))
local macro_rules | `(tactic| walk_at "gon") => `(tactic| (dsimp only [cxOf, Cx.nox, Cx.wish, L2.start, List.map_cons, List.map_nil, List.length_cons, List.length_nil, Nat.reduceAdd, Nat.reduceSub, List.replicate, List.cons_append, List.nil_append]; walk_at "kn"))
/-! ### the dice -/
section
variable {P : Program} {w : World} {K : PySem.W.Frag} {mg : Str → Option Value} {base : Heap}
theorem sc_l_dice : FnScope ["_law_script", "_law_mixed", "_law_cell"] ["_law_script"] (defScope s_l_dice) := ⟨rfl, rfl, rfl, by decide +kernel, rfl, by decide +kernel, by decide +kernel⟩
theorem bd_l_dice : Bd "_law_dice" "_law_dice" s_l_dice ["_law_script"] := fun _ _ _ _ _ _ us hl => match us, hl with | [_], _ => rfl
def spDice (K : PySem.W.Frag) : Sp := fun vs H Q _ => ∃ (a : Addr) (ns : List Int), vs = [.ref a] ∧ Scr K H a (ns.map V.int) ∧ ns.length ≤ 63 ∧ ∀ d H', Aft [] H H' → H d = none → Dice K H' d → Q (.ref d) H'
theorem ok_dice (F : Def K mg "_law_dice" s_l_dice) (B : Bt mg) : Cal P w K mg base CX0 1 "_law_dice" ["_law_script"] (spDice K) := by
  refine F.ok sc_l_dice bd_l_dice (fun vs H Q E h => ?_) (fun f cdv A outer s H vs Q E hr h => ?_)
  · obtain ⟨a, ns, rfl, _⟩ := h
    rfl
  · obtain ⟨a, ns, rfl, hS, hl, k⟩ := h
    refine ⟨_, PSs.nox (pss_cons (ps_set (i := 1) sc_l_dice.nd rfl (by first | exact Or.inl rfl | exact Or.inr rfl) pe_int)
      (pss_cons (ps_for PassesOwn.never rfl (pi_listK K rfl (pv 0)) (pg_name (i := 2) sc_l_dice.nd rfl (by first | exact Or.inl rfl | exact Or.inr rfl))
      (pss_one (ps_set (i := 1) sc_l_dice.nd rfl (by first | exact Or.inl rfl | exact Or.inr rfl) (pe_op op_mod (pe_op op_add (pe_op op_add (pe_op op_mul (pv 1) pe_int) (pe_op op_mul (pe_op op_mod (pv 2) pe_int) pe_int)) pe_int) pe_int))))
      (pss_one (ps_ret (pe_lst (pa_cons (pv 0) (pa_cons pe_int (pa_cons (pe_op op_mul (pv 1) (pe_callTy cr_intB (by rfl) B.m_int (by decide +kernel) (pa_cons (pe_cmpR op_gt (pe_callB (cr_lnK K rfl) (by rfl) B.m_len (by decide +kernel) (pa_cons (pv 0) pa_nil)) pe_int (nomark _)) pa_nil))) (pa_cons pe_int pa_nil))))))))), ?_⟩
    walk_at "go"
    refine c_for (xs := ns.map V.int) (fun i σ H' => ∃ m v, σ = [some (.ref a), some (.int m), v] ∧ H' = H ∧ 0 ≤ m ∧ m < 2147483647) ⟨0, _, rfl, rfl, by decide, by decide⟩ (fun i σ H' _ ⟨_, _, _, e, _⟩ => e ▸ hS.sq) ?_ ?_
    · rintro i x σ H' hx ⟨m, v, rfl, rfl, h0, h1⟩
      rw [List.getElem?_map] at hx
      obtain ⟨z, hz, rfl⟩ := Option.map_eq_some_iff.mp hx
      walk_at "k"
      exact ⟨_, _, rfl, rfl, Int.emod_nonneg _ (by decide), Int.emod_lt_of_pos _ (by decide)⟩
    · rintro σ H' ⟨m, v, rfl, rfl, h0, h1⟩
      walk_at "k"
      refine ⟨by show 4 ≤ sizeLine; decide, fun p hp => ?_⟩
      refine k p _ (Aft.refl.new hp) hp ⟨a, ns, 0, _, 0, upd_same, hS.keep (M := []) (Aft.refl.new hp), hl, Int.le_refl 0, ?_, ?_⟩
      all_goals (split <;> omega)
end
section
variable {P : Program} {w : World} {K : PySem.W.Frag} {mg : Str → Option Value} {base : Heap}
theorem sc_l_next : FnScope ["_law_dice_here", "_law_many", "_law_found", "_law_cell"] ["_law_dice_here", "_law_many"] (defScope s_l_next) := ⟨rfl, rfl, rfl, by decide +kernel, rfl, by decide +kernel, by decide +kernel⟩
theorem bd_l_next : Bd "_law_next" "_law_next" s_l_next ["_law_dice_here", "_law_many"] := fun _ _ _ _ _ _ us hl => match us, hl with | [_, _], _ => rfl
theorem ok_next (F : Def K mg "_law_next" s_l_next) (B : Bt mg) : Cal P w K mg base CX0 1 "_law_next" ["_law_dice_here", "_law_many"] (spNext K) := by
  refine F.ok sc_l_next bd_l_next (fun vs H Q E h => ?_) (fun f cdv A outer s H vs Q E hr h => ?_)
  · obtain ⟨a, ns, rfl, _⟩ := h
    rfl
  · obtain ⟨d, n, rfl, hD, h0, h1, k⟩ := h
    obtain ⟨a, ns, i, m, r, hd, hS, hl, hi, hm0, hm1⟩ := hD.ex
    refine ⟨_, PSs.nox (pss_cons (ps_if (pt_cmpR op_gt (pe_ix (ix_listK K rfl) (pv 0) pe_int (fun _ _ => rfl)) pe_int (nomark _)) (pss_cons (ps_set (i := 2) sc_l_next.nd rfl (by first | exact Or.inl rfl | exact Or.inr rfl) (pe_op op_mod (pe_ix (ix_listK K rfl) (pv 0) pe_int (fun _ _ => rfl)) (pv 1)))
      (pss_cons (ps_asg (pe_op op_fdiv (pe_ix (ix_listK K rfl) (pv 0) pe_int (fun _ _ => rfl)) (pv 1)) (pg_sub (pv 0) pe_int set_list))
      (pss_one (ps_ret (pv 2))))) pss_nil)
      (pss_cons (ps_asg (pe_op op_add (pe_ix (ix_listK K rfl) (pv 0) pe_int (fun _ _ => rfl)) pe_int) (pg_sub (pv 0) pe_int set_list))
      (pss_cons (ps_if (pt_cmpR op_le (pe_ix (ix_listK K rfl) (pv 0) pe_int (fun _ _ => rfl)) (pe_callB (cr_lnK K rfl) (by rfl) B.m_len (by decide +kernel) (pa_cons (pe_ix (ix_listK K rfl) (pv 0) pe_int (fun _ _ => rfl)) pa_nil)) (nomark _)) (pss_cons (ps_set (i := 3) sc_l_next.nd rfl (by first | exact Or.inl rfl | exact Or.inr rfl) (pe_ix (ix_listK K rfl) (pe_ix (ix_listK K rfl) (pv 0) pe_int (fun _ _ => rfl)) (pe_op op_sub (pe_ix (ix_listK K rfl) (pv 0) pe_int (fun _ _ => rfl)) pe_int) (fun _ _ => rfl)))
      (pss_cons (ps_asg (pe_ifExp (pt_cmpR op_ge (pv 3) (pe_op op_pow pe_int pe_int) (nomark _)) (pe_op op_fdiv (pv 3) (pv 1)) pe_int) (pg_sub (pv 0) pe_int set_list))
      (pss_one (ps_ret (pe_op op_mod (pv 3) (pv 1)))))) pss_nil)
      (pss_cons (ps_asg (pe_op op_mod (pe_op op_mul (pe_ix (ix_listK K rfl) (pv 0) pe_int (fun _ _ => rfl)) pe_int) pe_int) (pg_sub (pv 0) pe_int set_list))
      (pss_one (ps_ret (pe_op op_mod (pe_op op_fdiv (pe_ix (ix_listK K rfl) (pv 0) pe_int (fun _ _ => rfl)) pe_int) (pv 1)))))))), ?_⟩
    have N : Now K none [d] H H [⟨true, d, dO a i m r⟩] [] := .start (by simp) (by simp [hd, Mut]) (by simp) (by simp)
    have fin : ∀ (i' m' r' : Int) (H' : Hp) (v : Int), Now K none [d] H H' [⟨true, d, dO a i' m' r'⟩] [] → 0 ≤ i' → 0 ≤ m' → m' < 2147483647 → 0 ≤ v → v < n → Q (.int v) H' := fun i' m' r' H' v N' e1 e2 e3 e4 e5 =>
      k v H' N'.af ⟨a, ns, i', m', r', N'.cell 0 rfl, hS.keep N'.af, hl, e1, e2, e3⟩ e4 e5
    have b1 : ∀ z : Int, 0 ≤ z % n := fun z => Int.emod_nonneg z (by omega)
    have b2 : ∀ z : Int, z % n < n := fun z => Int.emod_lt_of_pos z h0
    walk_at "go"
    refine c_ifd (fun c1 => ?_) (fun c1 => ?_)
    · walk_at "k"
      exact fin i m (r / n) _ _ (by assumption) hi hm0 hm1 (b1 _) (b2 _)
    · walk_at "k"
      refine c_ifd (fun c2 => ?_) (fun c2 => ?_)
      · rw [List.length_map] at c2
        have e : (i + 1 - 1 : Int) = ((i.toNat : Nat) : Int) := by omega
        have lt : i.toNat < ns.length := by omega
        have at_ : atI (ns.map V.int) (i + 1 - 1) = some (V.int ns[i.toNat]) := at_of e (by rw [List.getElem?_map, List.getElem?_eq_getElem lt]; rfl)
        walk_at "k"
        refine g_ixL (xs := ns.map V.int) (v := V.int ns[i.toNat]) (by walk_at "sq") at_ ?_
        walk_at "k"
        refine c_ifE (fun c3 => ?_) (fun c3 => ?_)
        · walk_at "k"
          exact fin (i + 1) m (ns[i.toNat] / n) _ _ (by assumption) (by omega) hm0 hm1 (b1 _) (b2 _)
        · walk_at "k"
          exact fin (i + 1) m 0 _ _ (by assumption) (by omega) hm0 hm1 (b1 _) (b2 _)
      · walk_at "k"
        exact fin (i + 1) (m * 48271 % 2147483647) r _ _ (by assumption) (by omega) (Int.emod_nonneg _ (by decide)) (Int.emod_lt_of_pos _ (by decide)) (b1 _) (b2 _)
end
/-! ### settings, marks, bits as they should be -/
abbrev StV (m w l a : Int) : List V := [.int m, .int w, .int l, .int a]
def OkS (m w l a : Int) : Prop := (2 ≤ m ∧ m ≤ 64) ∧ (0 ≤ w ∧ w ≤ 16) ∧ (0 ≤ l ∧ l ≤ 8) ∧ (1 ≤ a ∧ a ≤ 16)
section
variable {P : Program} {w : World} {K : PySem.W.Frag} {mg : Str → Option Value} {base : Heap} {aL aM : Addr}
theorem sc_need_setting : FnScope ["setting", "at"] ["setting"] (defScope s_need_setting) := ⟨rfl, rfl, rfl, by decide +kernel, rfl, by decide +kernel, by decide +kernel⟩
theorem bd_need_setting : Bd "need_setting" "need_setting" s_need_setting ["setting"] := fun _ _ _ _ _ _ us hl => match us, hl with | [_], _ => rfl
def spNeedS : Sp := fun vs H Q _ => ∃ (t : Addr) (m w l a : Int), vs = [.ref t] ∧ H t = some (.tup (StV m w l a)) ∧ OkS m w l a ∧ Q .non H
theorem ok_needS (F : Def K mg "need_setting" s_need_setting) (B : Bt mg) (CL : Cst K mg "LEAST" aL (StV 2 0 0 1)) (CM : Cst K mg "MOST" aM (StV 64 16 8 16)) : Cal P w K mg base CX0 1 "need_setting" ["setting"] spNeedS := by
  refine F.ok sc_need_setting bd_need_setting (fun vs H Q E h => ?_) (fun f cdv A outer s H vs Q E hr h => ?_)
  · obtain ⟨t, m, w, l, a, rfl, _⟩ := h
    rfl
  · obtain ⟨t, m, w, l, a, rfl, ht, ⟨⟨h1, h2⟩, ⟨h3, h4⟩, ⟨h5, h6⟩, h7, h8⟩, k⟩ := h
    have g_LEAST := CL.g
    have g_MOST := CM.g
    refine ⟨_, PSs.nox (pss_one (ps_for PassesOwn.never rfl (pi_range1 (by rfl) B.m_range (pa_cons pe_int pa_nil)) (pg_name (i := 1) sc_need_setting.nd rfl (by first | exact Or.inl rfl | exact Or.inr rfl))
      (pss_one (ps_if (pt_not (pt_chain op_le op_le (pe_ix (ix_tupK K rfl) (pe_gref (by rfl) g_LEAST) (pv 1) (fun _ _ => rfl)) (pe_ix (ix_tupK K rfl) (pv 0) (pv 1) (fun _ _ => rfl)) (pe_ix (ix_tupK K rfl) (pe_gref (by rfl) g_MOST) (pv 1) (fun _ _ => rfl)))) (pss_one ps_never) pss_nil)))), ?_⟩
    walk_at "go"
    refine c_forR (by decide) (fun i σ H' => ∃ x, σ = [some (.ref t), x] ∧ H' = H) ⟨_, rfl, rfl⟩ ?_ ?_
    · rintro i σ H' hi ⟨x, rfl, rfl⟩
      have hq : SqT K H' t (StV m w l a) := .of ht
      have : i = 0 ∨ i = 1 ∨ i = 2 ∨ i = 3 := by omega
      rcases this with rfl | rfl | rfl | rfl
      · walk_at "k"
        exact ⟨_, rfl, rfl⟩
      · walk_at "k"
        exact ⟨_, rfl, rfl⟩
      · walk_at "k"
        exact ⟨_, rfl, rfl⟩
      · walk_at "k"
        exact ⟨_, rfl, rfl⟩
    · rintro σ H' ⟨x, rfl, rfl⟩
      walk_at "k"
      exact k
theorem sc_need_mark : FnScope ["setting", "mark"] ["setting", "mark"] (defScope s_need_mark) := ⟨rfl, rfl, rfl, by decide +kernel, rfl, by decide +kernel, by decide +kernel⟩
theorem bd_need_mark : Bd "need_mark" "need_mark" s_need_mark ["setting", "mark"] := fun _ _ _ _ _ _ us hl => match us, hl with | [_, _], _ => rfl
def spNeedM : Sp := fun vs H Q _ => ∃ (t : Addr) (m w l a n : Int), vs = [.ref t, .int n] ∧ H t = some (.tup (StV m w l a)) ∧ (0 ≤ n ∧ n < m) ∧ Q .non H
theorem ok_needM (F : Def K mg "need_mark" s_need_mark) (B : Bt mg) : Cal P w K mg base CX0 1 "need_mark" ["setting", "mark"] spNeedM := by
  refine F.ok sc_need_mark bd_need_mark (fun vs H Q E h => ?_) (fun f cdv A outer s H vs Q E hr h => ?_)
  · obtain ⟨t, m, w, l, a, n, rfl, _⟩ := h
    rfl
  · obtain ⟨t, m, w, l, a, n, rfl, ht, ⟨h1, h2⟩, k⟩ := h
    refine ⟨_, PSs.nox (pss_one (ps_if (pt_not (pt_chain op_le op_lt pe_int (pv 1) (pe_ix (ix_tupK K rfl) (pv 0) pe_int (fun _ _ => rfl)))) (pss_one ps_never) pss_nil)), ?_⟩
    have hq : SqT K H t (StV m w l a) := .of ht
    walk_at "go"
    exact k
end
section
variable {P : Program} {w : World} {K : PySem.W.Frag} {mg : Str → Option Value} {base : Heap}
theorem sc_need_bits : FnScope ["setting", "told", "mark", "bits", "bit"] ["setting", "told"] (defScope s_need_bits) := ⟨rfl, rfl, rfl, by decide +kernel, rfl, by decide +kernel, by decide +kernel⟩
theorem bd_need_bits : Bd "need_bits" "need_bits" s_need_bits ["setting", "told"] := fun _ _ _ _ _ _ us hl => match us, hl with | [_, _], _ => rfl
def spNeedB : Sp := fun vs H Q _ => ∃ (t q b : Addr) (m w l a n : Int) (bs : List Int), vs = [.ref t, .ref q] ∧ H t = some (.tup (StV m w l a)) ∧ H q = some (.tup [.int n, .ref b]) ∧ H b = some (.tup (bs.map V.int)) ∧ (0 ≤ n ∧ n < m) ∧ (bs.length : Int) = w ∧ w ≤ 16 ∧ (∀ x ∈ bs, x = 0 ∨ x = 1) ∧ ∀ H', Aft [] H H' → Q .non H'
theorem ok_needB (F : Def K mg "need_bits" s_need_bits) (B : Bt mg) (c_need_mark : Cal P w K mg base CX0 1 "need_mark" ["setting", "mark"] spNeedM) : Cal P w K mg base CX0 2 "need_bits" ["setting", "told"] spNeedB := by
  refine F.ok sc_need_bits bd_need_bits (fun vs H Q E h => ?_) (fun f cdv A outer s H vs Q E hr h => ?_)
  · obtain ⟨t, q, b, m, w, l, a, n, bs, rfl, _⟩ := h
    rfl
  · obtain ⟨t, q, b, m, w, l, a, n, bs, rfl, ht, hq, hb, hn, hl, hw, h01, k⟩ := h
    refine ⟨_, PSs.nox (pss_cons (ps_asg (pv 1) (pg_tup rfl (pgs_cons (pg_name (i := 2) sc_need_bits.nd rfl (by first | exact Or.inl rfl | exact Or.inr rfl)) (pgs_cons (pg_name (i := 3) sc_need_bits.nd rfl (by first | exact Or.inl rfl | exact Or.inr rfl)) pgs_nil))))
      (pss_cons (ps_expr (pe_cal c_need_mark (hr.mono (by decide)) pass0 (pa_cons (pv 0) (pa_cons (pv 2) pa_nil))))
      (pss_one (ps_if (PW.pt (pw_or (pt_cmpR op_ne (pe_callB (cr_lnK K rfl) (by rfl) B.m_len (by decide +kernel) (pa_cons (pv 3) pa_nil)) (pe_ix (ix_tupK K rfl) (pv 0) pe_int (fun _ _ => rfl)) (nomark _)) (pw_or1 (pt_cmpR (op_neDK K rfl hr.units) (pe_lc (own := [("bit", 4)]) (g := (gName 4)) rfl sc_need_bits.nd (pi_tupK K rfl (pv 3)) (blkOk_by (own := [("bit", 4)]) (N := ["setting", "told", "mark", "bits", "bit"]) (sc := defScope s_need_bits) (by decide +kernel)) (fun _ _ _ _ _ => (pg_name (i := 4) sc_need_bits.nd rfl (by first | exact Or.inl rfl | exact Or.inr rfl))) (fun _ _ _ _ _ => (pts_one (pt_cmpR (op_notIn_seqK K rfl) (pv 4) (pe_tup (pa_cons pe_int (pa_cons pe_int pa_nil))) (by rfl)))) (fun _ _ _ _ _ => (pv 4))) (pe_lst pa_nil) (nomark _))))) (pss_one ps_never) pss_nil)))), ?_⟩
    have N : Now K none [] H H [] [(t, StV m w l a), (q, [.int n, .ref b]), (b, bs.map V.int)] := .start0 (by simp [ht, hq, hb])
    walk_at "go"
    refine ⟨t, m, w, l, a, n, rfl, ht, hn, ?_⟩
    walk_at "k"
    refine c_or (fun c => absurd (of_decide_eq_true c) (by rw [List.length_map]; omega)) (fun c => ?_)
    walk_at "k"
    refine c_lcT N (bs.map V.int) (fun i acc => acc = []) rfl (fun H' l' N' => .of (N'.tup 2 rfl)) (fun _ => rfl) (fun i x Dd H2 acc hx N2 r => ?_) (fun p H2 acc N2 r => ?_)
    · subst r
      rw [List.getElem?_map] at hx
      obtain ⟨z, hz, rfl⟩ := Option.map_eq_some_iff.mp hx
      have z01 := h01 z (List.mem_of_getElem? hz)
      walk_at "k"
      rename_i tp H3 N3
      refine g_ninI (ns := [0, 1]) (.inr (.of (N3.tup 0 rfl))) ?_
      walk_at "k"
      refine c_el (fun c => absurd (of_decide_eq_true c) (by rcases z01 with e | e <;> simp [e])) (fun c => ?_)
      exact ⟨[], N3.subT _ (by simp), rfl⟩
    · subst r
      walk_at "k"
      rename_i ep H3 N3
      refine g_neL (m := []) (n := []) (.of (N3.cell 1 rfl)) (.of (N3.cell 0 rfl)) ?_
      walk_at "k"
      refine c_ifdF (fun q => q rfl) ?_
      walk_at "k"
      exact k _ N3.af
end
/-! ### a setting by the dice -/
section
variable {P : Program} {w : World} {K : PySem.W.Frag} {mg : Str → Option Value} {base : Heap}
theorem sc_l_setting : FnScope ["_law_d", "_law_late", "_law_ahead", "_law_wide", "_law_marks"] ["_law_d"] (defScope s_l_setting) := ⟨rfl, rfl, rfl, by decide +kernel, rfl, by decide +kernel, by decide +kernel⟩
theorem bd_l_setting : Bd "_law_setting" "_law_setting" s_l_setting ["_law_d"] := fun _ _ _ _ _ _ us hl => match us, hl with | [_], _ => rfl
def spSetting (K : PySem.W.Frag) : Sp := fun vs H Q _ => ∃ d, vs = [.ref d] ∧ Dice K H d ∧ ∀ (t : Addr) (m w l a : Int) H', Aft [d] H H' → Dice K H' d → H' t = some (.tup (StV m w l a)) → OkS m w l a → Q (.ref t) H'
theorem ok_setting (F : Def K mg "_law_setting" s_l_setting) (B : Bt mg) (c_l_next : Cal P w K mg base CX0 1 "_law_next" ["_law_dice_here", "_law_many"] (spNext K)) : Cal P w K mg base CX0 2 "_law_setting" ["_law_d"] (spSetting K) := by
  refine F.ok sc_l_setting bd_l_setting (fun vs H Q E h => ?_) (fun f cdv A outer s H vs Q E hr h => ?_)
  · obtain ⟨d, rfl, _⟩ := h
    rfl
  · obtain ⟨d, rfl, hD, k⟩ := h
    refine ⟨_, PSs.nox (pss_cons (ps_set (i := 1) sc_l_setting.nd rfl (by first | exact Or.inl rfl | exact Or.inr rfl) (pe_ix (ix_listK K rfl) (pe_lst (pa_cons (pe_cal c_l_next (hr.mono (by decide)) pass0 (pa_cons (pv 0) (pa_cons pe_int pa_nil))) (pa_cons (pe_cal c_l_next (hr.mono (by decide)) pass0 (pa_cons (pv 0) (pa_cons pe_int pa_nil))) pa_nil))) (pe_cal c_l_next (hr.mono (by decide)) pass0 (pa_cons (pv 0) (pa_cons pe_int pa_nil))) (fun _ _ => rfl)))
      (pss_cons (ps_set (i := 2) sc_l_setting.nd rfl (by first | exact Or.inl rfl | exact Or.inr rfl) (pe_op op_add pe_int (pe_ix (ix_listK K rfl) (pe_lst (pa_cons (pe_cal c_l_next (hr.mono (by decide)) pass0 (pa_cons (pv 0) (pa_cons pe_int pa_nil))) (pa_cons (pe_cal c_l_next (hr.mono (by decide)) pass0 (pa_cons (pv 0) (pa_cons pe_int pa_nil))) pa_nil))) (pe_cal c_l_next (hr.mono (by decide)) pass0 (pa_cons (pv 0) (pa_cons pe_int pa_nil))) (fun _ _ => rfl))))
      (pss_cons (ps_set (i := 3) sc_l_setting.nd rfl (by first | exact Or.inl rfl | exact Or.inr rfl) (pe_ix (ix_listK K rfl) (pe_lst (pa_cons (pe_cal c_l_next (hr.mono (by decide)) pass0 (pa_cons (pv 0) (pa_cons pe_int pa_nil))) (pa_cons (pe_cal c_l_next (hr.mono (by decide)) pass0 (pa_cons (pv 0) (pa_cons pe_int pa_nil))) pa_nil))) (pe_cal c_l_next (hr.mono (by decide)) pass0 (pa_cons (pv 0) (pa_cons pe_int pa_nil))) (fun _ _ => rfl)))
      (pss_cons (ps_set (i := 4) sc_l_setting.nd rfl (by first | exact Or.inl rfl | exact Or.inr rfl) (pe_op op_add (pe_op op_add (pv 1) (pv 2)) (pe_ix (ix_listK K rfl) (pe_lst (pa_cons pe_int (pa_cons pe_int (pa_cons pe_int (pa_cons pe_int (pa_cons (pe_op op_sub (pe_cal c_l_next (hr.mono (by decide)) pass0 (pa_cons (pv 0) (pa_cons pe_int pa_nil))) pe_int) pa_nil)))))) (pe_cal c_l_next (hr.mono (by decide)) pass0 (pa_cons (pv 0) (pa_cons pe_int pa_nil))) (fun _ _ => rfl))))
      (pss_cons (ps_set (i := 4) sc_l_setting.nd rfl (by first | exact Or.inl rfl | exact Or.inr rfl) (pe_ix (ix_listK K rfl) (pe_lst (pa_cons (pv 4) (pa_cons (pe_op op_add pe_int (pe_cal c_l_next (hr.mono (by decide)) pass0 (pa_cons (pv 0) (pa_cons pe_int pa_nil)))) (pa_cons pe_int pa_nil)))) (pe_callB (cr_max2 rfl) (by rfl) B.m_max (by decide +kernel) (pa_cons pe_int (pa_cons (pe_op op_sub (pe_cal c_l_next (hr.mono (by decide)) pass0 (pa_cons (pv 0) (pa_cons pe_int pa_nil))) pe_int) pa_nil))) (fun _ _ => rfl)))
      (pss_one (ps_ret (pe_tup (pa_cons (pe_callB (cr_min2 rfl) (by rfl) B.m_min (by decide +kernel) (pa_cons pe_int (pa_cons (pe_callB (cr_max2 rfl) (by rfl) B.m_max (by decide +kernel) (pa_cons pe_int (pa_cons (pv 4) pa_nil))) pa_nil))) (pa_cons (pv 3) (pa_cons (pv 1) (pa_cons (pv 2) pa_nil)))))))))))), ?_⟩
    have N : Now K (some d) [d] H H [] [] := .startD hD (by simp)
    walk_at "gon"
    rename_i N9
    refine k _ _ _ _ _ _ N9.af (N9.dc d rfl).1 (N9.tup 0 rfl) ?_
    unfold OkS
    omega
theorem sc_l_safe : FnScope ["_law_d", "_law_marks", "_law_wide", "_law_late", "_law_ahead"] ["_law_d"] (defScope s_l_safe) := ⟨rfl, rfl, rfl, by decide +kernel, rfl, by decide +kernel, by decide +kernel⟩
theorem bd_l_safe : Bd "_law_safe" "_law_safe" s_l_safe ["_law_d"] := fun _ _ _ _ _ _ us hl => match us, hl with | [_], _ => rfl
def spSafe (K : PySem.W.Frag) : Sp := fun vs H Q _ => ∃ d, vs = [.ref d] ∧ Dice K H d ∧ ∀ (t : Addr) (m w l a : Int) H', Aft [d] H H' → Dice K H' d → H' t = some (.tup (StV m w l a)) → OkS m w l a → l + a + 1 ≤ m → Q (.ref t) H'
theorem ok_safe (F : Def K mg "_law_safe" s_l_safe) (B : Bt mg) (c_l_setting : Cal P w K mg base CX0 2 "_law_setting" ["_law_d"] (spSetting K)) : Cal P w K mg base CX0 3 "_law_safe" ["_law_d"] (spSafe K) := by
  refine F.ok sc_l_safe bd_l_safe (fun vs H Q E h => ?_) (fun f cdv A outer s H vs Q E hr h => ?_)
  · obtain ⟨d, rfl, _⟩ := h
    rfl
  · obtain ⟨d, rfl, hD, k⟩ := h
    refine ⟨_, PSs.nox (pss_cons (ps_asg (pe_cal c_l_setting (hr.mono (by decide)) pass0 (pa_cons (pv 0) pa_nil)) (pg_tup rfl (pgs_cons (pg_name (i := 1) sc_l_safe.nd rfl (by first | exact Or.inl rfl | exact Or.inr rfl)) (pgs_cons (pg_name (i := 2) sc_l_safe.nd rfl (by first | exact Or.inl rfl | exact Or.inr rfl)) (pgs_cons (pg_name (i := 3) sc_l_safe.nd rfl (by first | exact Or.inl rfl | exact Or.inr rfl)) (pgs_cons (pg_name (i := 4) sc_l_safe.nd rfl (by first | exact Or.inl rfl | exact Or.inr rfl)) pgs_nil))))))
      (pss_one (ps_ret (pe_tup (pa_cons (pe_callB (cr_min2 rfl) (by rfl) B.m_min (by decide +kernel) (pa_cons pe_int (pa_cons (pe_callB (cr_max2 rfl) (by rfl) B.m_max (by decide +kernel) (pa_cons (pv 1) (pa_cons (pe_op op_add (pe_op op_add (pv 3) (pv 4)) pe_int) pa_nil))) pa_nil))) (pa_cons (pv 2) (pa_cons (pv 3) (pa_cons (pv 4) pa_nil)))))))), ?_⟩
    have N : Now K (some d) [d] H H [] [] := .startD hD (by simp)
    walk_at "gon"
    refine ⟨d, rfl, hD, fun t m w l a H1 A1 D1 ht hs => ?_⟩
    have N1 := (N.roll A1 D1).moreT ht
    clear N
    walk_at "kn"
    rename_i N9
    unfold OkS at hs
    refine k _ _ _ _ _ _ N9.af (N9.dc d rfl).1 (N9.tup 0 rfl) ?_ ?_
    · unfold OkS
      omega
    · omega
end
/-! ### what is told is what is due -/
section
variable {P : Program} {w : World} {K : PySem.W.Frag} {mg : Str → Option Value} {base : Heap}
theorem sc_l_like : FnScope ["_law_found", "_law_due", "_law_key", "_law_k"] ["_law_found", "_law_due"] (defScope s_l_like) := ⟨rfl, rfl, rfl, by decide +kernel, rfl, by decide +kernel, by decide +kernel⟩
theorem bd_l_like : Bd "_law_like" "_law_like" s_l_like ["_law_found", "_law_due"] := fun _ _ _ _ _ _ us hl => match us, hl with | [_, _], _ => rfl
theorem ok_like (F : Def K mg "_law_like" s_l_like) (B : Bt mg) : ∀ n : Nat, Cal P w K mg base CX0 (n + 1) "_law_like" ["_law_found", "_law_due"] (spLike K n)
  | 0 => cal_never F bd_l_like
  | n + 1 => by
    have c_l_like := ok_like F B n
    refine F.ok sc_l_like bd_l_like (fun vs H Q E h => ?_) (fun f cdv A outer s H vs Q E hr h => ?_)
    · obtain ⟨x, y, d, rfl, _⟩ := h
      rfl
    · obtain ⟨x, y, d, rfl, hx, hy, hn, k⟩ := h
      refine ⟨_, PSs.nox (pss_cons (ps_if (pt_val (pe_callB (call_isiQ K rfl) (by rfl) B.m_isinstance (by decide +kernel) (pa_cons (pv 1) (pa_cons (pe_bltn (v := .ty "bool") (by rfl) B.m_bool (by decide +kernel) rfl) pa_nil)))) (pss_one (ps_ret (pe_and (pe_callB (call_isiQ K rfl) (by rfl) B.m_isinstance (by decide +kernel) (pa_cons (pv 0) (pa_cons (pe_bltn (v := .ty "bool") (by rfl) B.m_bool (by decide +kernel) rfl) pa_nil))) (pe_one (pe_cmpR op_eq (pv 0) (pv 1) (nomark _)))))) pss_nil)
      (pss_cons (ps_if (pt_val (pe_callB (call_isiQ K rfl) (by rfl) B.m_isinstance (by decide +kernel) (pa_cons (pv 1) (pa_cons (pe_bltn (v := .ty "str") (by rfl) B.m_str (by decide +kernel) rfl) pa_nil)))) (pss_one (ps_ret (pe_and (pe_callB (call_isiQ K rfl) (by rfl) B.m_isinstance (by decide +kernel) (pa_cons (pv 0) (pa_cons (pe_bltn (v := .ty "str") (by rfl) B.m_str (by decide +kernel) rfl) pa_nil))) (pe_one (pe_cmpR op_eq (pv 0) (pv 1) (nomark _)))))) pss_nil)
      (pss_cons (ps_if (pt_val (pe_callB (call_isiQ K rfl) (by rfl) B.m_isinstance (by decide +kernel) (pa_cons (pv 1) (pa_cons (pe_bltn (v := .ty "int") (by rfl) B.m_int (by decide +kernel) rfl) pa_nil)))) (pss_one (ps_ret (pe_and (pe_callB (call_isiQ K rfl) (by rfl) B.m_isinstance (by decide +kernel) (pa_cons (pv 0) (pa_cons (pe_bltn (v := .ty "int") (by rfl) B.m_int (by decide +kernel) rfl) pa_nil))) (pe_and (pe_not (pe_callB (call_isiQ K rfl) (by rfl) B.m_isinstance (by decide +kernel) (pa_cons (pv 0) (pa_cons (pe_bltn (v := .ty "bool") (by rfl) B.m_bool (by decide +kernel) rfl) pa_nil)))) (pe_one (pe_cmpR op_eq (pv 0) (pv 1) (nomark _))))))) pss_nil)
      (pss_cons (ps_if (pt_cmpR op_isNo (pv 1) pe_non (nomark _)) (pss_one (ps_ret (pe_cmpR op_isNo (pv 0) pe_non (nomark _)))) pss_nil)
      (pss_cons (ps_if (pt_val (pe_callB (call_isiQ K rfl) (by rfl) B.m_isinstance (by decide +kernel) (pa_cons (pv 1) (pa_cons (pe_bltn (v := .ty "dict") (by rfl) B.m_dict (by decide +kernel) rfl) pa_nil)))) (pss_cons ps_never
      (pss_one ps_never)) pss_nil)
      (pss_cons (ps_if (PW.pt (pw_or (pt_cmpR op_ne (pe_callB (call_isiQ K rfl) (by rfl) B.m_isinstance (by decide +kernel) (pa_cons (pv 1) (pa_cons (pe_bltn (v := .ty "tuple") (by rfl) B.m_tuple (by decide +kernel) rfl) pa_nil))) (pe_callB (call_isiQ K rfl) (by rfl) B.m_isinstance (by decide +kernel) (pa_cons (pv 0) (pa_cons (pe_bltn (v := .ty "tuple") (by rfl) B.m_tuple (by decide +kernel) rfl) pa_nil))) (nomark _)) (pw_or1 (pt_cmpR op_ne (pe_callB (call_isiQ K rfl) (by rfl) B.m_isinstance (by decide +kernel) (pa_cons (pv 1) (pa_cons (pe_bltn (v := .ty "list") (by rfl) B.m_list (by decide +kernel) rfl) pa_nil))) (pe_callB (call_isiQ K rfl) (by rfl) B.m_isinstance (by decide +kernel) (pa_cons (pv 0) (pa_cons (pe_bltn (v := .ty "list") (by rfl) B.m_list (by decide +kernel) rfl) pa_nil))) (nomark _))))) (pss_one (ps_ret pe_bl)) pss_nil)
      (pss_cons (ps_if (pt_cmpR op_ne (pe_callB (cr_lnK K rfl) (by rfl) B.m_len (by decide +kernel) (pa_cons (pv 0) pa_nil)) (pe_callB (cr_lnK K rfl) (by rfl) B.m_len (by decide +kernel) (pa_cons (pv 1) pa_nil)) (nomark _)) (pss_one (ps_ret pe_bl)) pss_nil)
      (pss_cons (ps_for PassesOwn.never rfl (pi_range1 (by rfl) B.m_range (pa_cons (pe_callB (cr_lnK K rfl) (by rfl) B.m_len (by decide +kernel) (pa_cons (pv 1) pa_nil)) pa_nil)) (pg_name (i := 3) sc_l_like.nd rfl (by first | exact Or.inl rfl | exact Or.inr rfl))
      (pss_one (ps_if (pt_not (pt_val (pe_cal c_l_like hr pass0 (pa_cons (pe_ix (ix_seqK K rfl) (pv 0) (pv 3) (fun _ _ => rfl)) (pa_cons (pe_ix (ix_seqK K rfl) (pv 1) (pv 3) (fun _ _ => rfl)) pa_nil))))) (pss_one (ps_ret pe_bl)) pss_nil)))
      (pss_one (ps_ret pe_bl)))))))))), ?_⟩
      have kn := k H .refl
      have loop : ∀ (p q : Addr) (xs ys : List V) (ds : List PyData), (SqL K H p xs ∨ SqT K H p xs) → (SqL K H q ys ∨ SqT K H q ys) → DpAll K H xs ds → DpAll K H ys ds → (∃ m, n = m + 1 ∧ ds.length ≤ 100000 ∧ ∀ d ∈ ds, dOk m d) →
          cForR (gName 3) (tIfS (tNot (tB (tCall (spLike K n) [] E0 (tCons (tOp (rIx K) (tVar 0) (tVar 3)) (tCons (tOp (rIx K) (tVar 1) (tVar 3)) tNil))))) (tRet (tC (V.bl false))) tNext)
            { nx := tRet (tC (V.bl true)) { nx := fun x H' => Q V.non H', rt := Q }, rt := Q } [some (V.ref p), some (V.ref q), none, none] [V.int (ys.length : Int)] H := by
        intro p q xs ys ds hp hq hxs hys ⟨m, e, hz, hd⟩
        subst e
        have l1 := dpa_len hxs
        have l2 := dpa_len hys
        refine c_forR (by omega) (fun i σ H' => ∃ z, σ = [some (V.ref p), some (V.ref q), none, z] ∧ Aft [] H H') ⟨_, rfl, .refl⟩ ?_ ?_
        · rintro i σ H' hi ⟨z, rfl, A⟩
          have hi' : i < ds.length := by omega
          obtain ⟨v, e1, d1⟩ := dpa_at hxs i hi'
          obtain ⟨u, e2, d2⟩ := dpa_at hys i hi'
          walk_at "k"
          refine g_ixQ (hp.imp A.sql A.sqt) (atI_nat e1) ?_
          walk_at "k"
          refine g_ixQ (hq.imp A.sql A.sqt) (atI_nat e2) ?_
          walk_at "k"
          refine ⟨v, u, ds[i], rfl, dp_keep A d1, dp_keep A d2, hd _ (List.getElem_mem hi'), fun H2 A2 => ?_⟩
          walk_at "k"
          exact ⟨_, rfl, A.trans A2⟩
        · rintro σ H' ⟨z, rfl, A⟩
          walk_at "k"
          exact k H' A
      cases d with
      | none =>
        cases hx
        cases hy
        walk_at "go"
        exact kn
      | bool b =>
        cases hx
        cases hy
        walk_at "go"
        exact kn
      | int b =>
        cases hx
        cases hy
        walk_at "go"
        exact kn
      | str b =>
        cases hx
        cases hy
        walk_at "go"
        exact kn
      | list ds =>
        cases hx with
        | @lst p xs _ h1 h2 =>
        cases hy with
        | @lst q ys _ h3 h4 =>
        have l1 := dpa_len h2
        have l2 := dpa_len h4
        have t1 := sql_ty h1
        have t2 := sql_ty h3
        walk_at "go"
        refine loop p q xs ys ds (.inl h1) (.inl h3) h2 h4 ?_
        cases n with
        | zero => exact hn.elim
        | succ m => exact ⟨m, rfl, hn⟩
      | tuple ds =>
        cases hx with
        | @tup p xs _ h1 h2 =>
        cases hy with
        | @tup q ys _ h3 h4 =>
        have l1 := dpa_len h2
        have l2 := dpa_len h4
        have t1 := sqt_ty h1
        have t2 := sqt_ty h3
        walk_at "go"
        refine loop p q xs ys ds (.inr h1) (.inr h3) h2 h4 ?_
        cases n with
        | zero => exact hn.elim
        | succ m => exact ⟨m, rfl, hn⟩
      | dict kvs => cases hx
end
/-! ### the law's own mouth -/
structure OM where
  sent : Int
  sure : List Int
abbrev kvM (n : Int) (sl : Addr) : List (Key × V) := [(Sum.inr "sent", .int n), (Sum.inr "sure", .ref sl)]
abbrev omC (o sl : Addr) (s : OM) : List Cel := [⟨true, o, .dK (kvM s.sent sl)⟩, ⟨true, sl, .lst (s.sure.map V.int)⟩]
def OM.full (s : OM) (a : Int) : Bool := (-1 :: s.sure).all fun x => decide (s.sent > x + a)
def OM.number (s : OM) (m k : Int) : Int := s.sent - 1 - (s.sent - 1 - k) % m
def OM.far (s : OM) (m k : Int) (bs : List Int) (n : Nat) : List Int := ((List.range n).filter fun i => decide (bs.getD i 0 = 1)).map fun (i : Nat) => s.number m k - (1 + (i : Int))
def OM.some (s : OM) (m w k : Int) (bs : List Int) : List Int := s.number m k :: s.far m k bs w.toNat
def OM.found (s : OM) (m w k : Int) (bs : List Int) : List Int := srt ((s.some m w k bs).filter fun x => decide (x ∉ s.sure))
def OM.hear (s : OM) (m w k : Int) (bs : List Int) : OM := ⟨s.sent, srt (s.sure ++ s.found m w k bs)⟩
theorem ofar_len (s : OM) (m k : Int) (bs : List Int) (n : Nat) : (s.far m k bs n).length ≤ n := by
  unfold OM.far
  rw [List.length_map]
  exact Nat.le_trans (List.length_filter_le _ _) (by rw [List.length_range]; exact Nat.le_refl _)
section
variable {P : Program} {w : World} {K : PySem.W.Frag} {mg : Str → Option Value} {base : Heap}
theorem sc_l_mouth : FnScope [] [] (defScope s_l_mouth) := ⟨rfl, rfl, rfl, by decide +kernel, rfl, by decide +kernel, by decide +kernel⟩
theorem bd_l_mouth : Bd "_law_mouth" "_law_mouth" s_l_mouth [] := fun _ _ _ _ _ _ us hl => match us, hl with | [], _ => rfl
def spOMouth : Sp := fun vs H Q _ => vs = [] ∧ ∀ o sl H', Aftr [] (omC o sl ⟨0, []⟩) H H' → Q (.ref o) H'
theorem ok_OMouth (F : Def K mg "_law_mouth" s_l_mouth) : Cal P w K mg base CX0 1 "_law_mouth" [] spOMouth := by
  refine F.ok sc_l_mouth bd_l_mouth (fun vs H Q E h => ?_) (fun f cdv A outer s H vs Q E hr h => ?_)
  · obtain ⟨rfl, _⟩ := h
    rfl
  · obtain ⟨rfl, k⟩ := h
    refine ⟨_, PSs.nox (pss_one (ps_ret (pe_disp (pps_cons pe_str pe_int (pps_cons pe_str (pe_lst pa_nil) pps_nil)) (by rfl) (by rfl) (fun z => by cases z) (by decide)))), ?_⟩
    have N : Now K none [] H H [] [] := .start0 (by simp)
    walk_at "gon"
    rename_i o H1 N1 cl H2 N2
    refine g_disp0 (N2.sel [1, 0] (l' := ⟨true, o, .dK []⟩ :: ⟨true, cl, .lst []⟩ :: []) rfl (by decide)) (kvs := kvM 0 cl) rfl (Nat.le_of_ble_eq_true rfl) rfl fun H3 N3 => ?_
    walk_at "kn"
    exact k o cl _ (Now.done (fp := []) N3 (by simp))
theorem sc_l_is_full : FnScope ["_law_setting_here", "_law_mouth_here"] ["_law_setting_here", "_law_mouth_here"] (defScope s_l_is_full) := ⟨rfl, rfl, rfl, by decide +kernel, rfl, by decide +kernel, by decide +kernel⟩
theorem bd_l_is_full : Bd "_law_is_full" "_law_is_full" s_l_is_full ["_law_setting_here", "_law_mouth_here"] := fun _ _ _ _ _ _ us hl => match us, hl with | [_, _], _ => rfl
def spOFull : Sp := fun vs H Q _ => ∃ (st o sl : Addr) (m w l a : Int) (s : OM), vs = [.ref st, .ref o] ∧ H st = some (.tup (StV m w l a)) ∧ CelOk H (omC o sl s) ∧ s.sure.length ≤ 50000 ∧ ∀ H', Aft [] H H' → Q (.bl (s.full a)) H'
theorem ok_OFull (F : Def K mg "_law_is_full" s_l_is_full) (B : Bt mg) : Cal P w K mg base CX0 1 "_law_is_full" ["_law_setting_here", "_law_mouth_here"] spOFull := by
  refine F.ok sc_l_is_full bd_l_is_full (fun vs H Q E h => ?_) (fun f cdv A outer s H vs Q E hr h => ?_)
  · obtain ⟨st, o, sl, m, w, l, a, s, rfl, _⟩ := h
    rfl
  · obtain ⟨st, o, sl, m, w, l, a, s, rfl, ht, hc, hlen, k⟩ := h
    refine ⟨_, PSs.nox (pss_one (ps_ret (pe_cmpR op_gt (pe_dget (hu_of hr) (pv 1) pe_str (fun _ _ => rfl)) (pe_op op_add (pe_callB (cr_maxLK K rfl rfl) (by rfl) B.m_max (by decide +kernel) (pa_cons (pe_op op_cat (pe_lst (pa_cons (pe_un un_neg pe_int) pa_nil)) (pe_dget (hu_of hr) (pv 1) pe_str (fun _ _ => rfl))) pa_nil)) (pe_ix (ix_tupK K rfl) (pv 0) pe_int (fun _ _ => rfl))) (nomark _)))), ?_⟩
    have N : Now K none [] H H ((omC o sl s).map Cel.ro) [(st, StV m w l a)] := .read hc (by simp [ht])
    walk_at "gon"
    rename_i p1 H1 N1 p2 H2 N2
    refine g_maxL (ns := -1 :: s.sure) (.of (by rw [N2.cell 0 rfl]; rfl)) (by simp) fun mx h1 h2 => ?_
    walk_at "kn"
    have e : decide (s.sent > mx + a) = s.full a := by
      unfold OM.full
      rw [Bool.eq_iff_iff, List.all_eq_true, decide_eq_true_eq]
      constructor
      · intro z x hx
        have := h2 x hx
        exact decide_eq_true (by omega)
      · intro z
        exact of_decide_eq_true (z mx h1)
    have e2 : decide (mx + a < s.sent) = s.full a := e
    rw [e2]
    exact k _ N2.af
theorem sc_l_hear : FnScope ["_law_setting_here", "_law_mouth_here", "_law_told_here", "_law_number", "_law_some", "_law_far", "_law_found", "_law_one"] ["_law_setting_here", "_law_mouth_here", "_law_told_here"] (defScope s_l_hear) := ⟨rfl, rfl, rfl, by decide +kernel, rfl, by decide +kernel, by decide +kernel⟩
theorem bd_l_hear : Bd "_law_hear" "_law_hear" s_l_hear ["_law_setting_here", "_law_mouth_here", "_law_told_here"] := fun _ _ _ _ _ _ us hl => match us, hl with | [_, _, _], _ => rfl
def spOHear : Sp := fun vs H Q _ => ∃ (st o sl q b : Addr) (m w l a : Int) (s : OM) (n : Int) (bs : List Int), vs = [.ref st, .ref o, .ref q] ∧ H st = some (.tup (StV m w l a)) ∧ CelOk H (omC o sl s) ∧ H q = some (.tup [.int n, .ref b]) ∧ H b = some (.tup (bs.map V.int)) ∧ OkS m w l a ∧ s.sure.length ≤ 50000 ∧
  (0 ≤ n ∧ n < m) ∧ (bs.length : Int) = w ∧ ((∃ x ∈ s.some m w n bs, x < 0) → ∀ H', Aft [] H H' → Q .non H') ∧
  ((∀ x ∈ s.some m w n bs, 0 ≤ x) → ∀ (l sl' : Addr) H', H l = none → l ≠ sl' → Aftr (omC o sl s) (omC o sl' (s.hear m w n bs)) H H' → H' l = some (.lst ((s.found m w n bs).map V.int)) → Q (.ref l) H')
theorem ok_OHear (F : Def K mg "_law_hear" s_l_hear) (B : Bt mg) : Cal P w K mg base CX0 1 "_law_hear" ["_law_setting_here", "_law_mouth_here", "_law_told_here"] spOHear := by
  refine F.ok sc_l_hear bd_l_hear (fun vs H Q E h => ?_) (fun f cdv A outer s H vs Q E hr h => ?_)
  · obtain ⟨st, o, sl, q, b, m, w, l, a, s, n, bs, rfl, _⟩ := h
    rfl
  · obtain ⟨st, o, sl, q, b, m, w, l, a, s, n, bs, rfl, ht, hc, hq, hb, hok, hlen, hn, hbl, kn, kl⟩ := h
    unfold OkS at hok
    refine ⟨_, PSs.nox (pss_cons (ps_set (i := 3) sc_l_hear.nd rfl (by first | exact Or.inl rfl | exact Or.inr rfl) (pe_op op_sub (pe_dget (hu_of hr) (pv 1) pe_str (fun _ _ => rfl)) pe_int))
      (pss_cons (ps_while PassesOwn.never (pt_cmpR op_ne (pe_op op_mod (pv 3) (pe_ix (ix_tupK K rfl) (pv 0) pe_int (fun _ _ => rfl))) (pe_ix (ix_tupK K rfl) (pv 2) pe_int (fun _ _ => rfl)) (nomark _)) (pss_one (ps_set (i := 3) sc_l_hear.nd rfl (by first | exact Or.inl rfl | exact Or.inr rfl) (pe_op op_sub (pv 3) pe_int))))
      (pss_cons (ps_set (i := 4) sc_l_hear.nd rfl (by first | exact Or.inl rfl | exact Or.inr rfl) (pe_op op_cat (pe_lst (pa_cons (pv 3) pa_nil)) (pe_lc (own := [("_law_far", 5)]) (g := (gName 5)) rfl sc_l_hear.nd (pi_range2 (by rfl) B.m_range (pa_cons pe_int (pa_cons (pe_op op_add (pe_ix (ix_tupK K rfl) (pv 0) pe_int (fun _ _ => rfl)) pe_int) pa_nil))) (blkOk_by (own := [("_law_far", 5)]) (N := ["_law_setting_here", "_law_mouth_here", "_law_told_here", "_law_number", "_law_some", "_law_far", "_law_found", "_law_one"]) (sc := defScope s_l_hear) (by decide +kernel)) (fun _ _ _ _ _ => (pg_name (i := 5) sc_l_hear.nd rfl (by first | exact Or.inl rfl | exact Or.inr rfl))) (fun _ _ _ _ _ => (pts_one (pt_cmpR op_eq (pe_ix (ix_tupK K rfl) (pe_ix (ix_tupK K rfl) (pv 2) pe_int (fun _ _ => rfl)) (pe_op op_sub (pv 5) pe_int) (fun _ _ => rfl)) pe_int (nomark _)))) (fun _ _ _ _ _ => (pe_op op_sub (pv 3) (pv 5))))))
      (pss_cons (ps_if (pt_cmpR op_lt (pe_callB (cr_minLK K rfl rfl) (by rfl) B.m_min (by decide +kernel) (pa_cons (pv 4) pa_nil)) pe_int (nomark _)) (pss_one (ps_ret pe_non)) pss_nil)
      (pss_cons (ps_set (i := 6) sc_l_hear.nd rfl (by first | exact Or.inl rfl | exact Or.inr rfl) (pe_callB (cr_sortedIK K rfl) (by rfl) B.m_sorted (by decide +kernel) (pa_cons (pe_lc (own := [("_law_one", 7)]) (g := (gName 7)) rfl sc_l_hear.nd (pi_listK K rfl (pv 4)) (blkOk_by (own := [("_law_one", 7)]) (N := ["_law_setting_here", "_law_mouth_here", "_law_told_here", "_law_number", "_law_some", "_law_far", "_law_found", "_law_one"]) (sc := defScope s_l_hear) (by decide +kernel)) (fun _ _ _ _ _ => (pg_name (i := 7) sc_l_hear.nd rfl (by first | exact Or.inl rfl | exact Or.inr rfl))) (fun _ _ _ _ _ => (pts_one (pt_cmpR (op_notIn_seqK K rfl) (pv 7) (pe_dget (hu_of hr) (pv 1) pe_str (fun _ _ => rfl)) (by rfl)))) (fun _ _ _ _ _ => (pv 7))) pa_nil)))
      (pss_cons (ps_dput (hu_of hr) (pv 1) pe_str (pe_callB (cr_sortedIK K rfl) (by rfl) B.m_sorted (by decide +kernel) (pa_cons (pe_op op_cat (pe_dget (hu_of hr) (pv 1) pe_str (fun _ _ => rfl)) (pv 6)) pa_nil)) rfl)
      (pss_one (ps_ret (pv 6))))))))), ?_⟩
    have N : Now K none _ H H (omC o sl s) [(st, StV m w l a), (q, [.int n, .ref b]), (b, bs.map V.int)] := .begin hc (by simp [ht, hq, hb])
    walk_at "gon"
    have h0 := Int.emod_nonneg (s.sent - 1 - n) (show m ≠ 0 by omega)
    refine k_while (fun i σ H' => σ = [some (.ref st), some (.ref o), some (.ref q), some (.int (s.sent - 1 - (i : Int))), none, none, none, none] ∧ H' = H) ((s.sent - 1 - n) % m).toNat ⟨?_, rfl⟩ ?_
    · show [_, _, _, some (V.int (s.sent - 1)), _, _, _, _] = _
      simp
    · rintro i σ H' hi ⟨rfl, rfl⟩
      walk_at "kn"
      by_cases c : (i : Int) < (s.sent - 1 - n) % m
      · rw [decide_eq_true (most_ne (by omega) hn c)]
        refine c_whT (by omega) ?_
        walk_at "kn"
        refine ⟨?_, rfl⟩
        show [_, _, _, some (V.int (s.sent - 1 - (i : Int) - 1)), _, _, _, _] = _
        rw [show s.sent - 1 - (i : Int) - 1 = s.sent - 1 - ((i + 1 : Nat) : Int) by omega]
      · have e : (i : Int) = (s.sent - 1 - n) % m := by omega
        have e2 : (s.sent - 1 - (i : Int)) % m = n := by rw [e]; exact most_eq (by omega) hn
        rw [decide_eq_false (fun z => z e2)]
        refine c_whF ?_
        have en : s.sent - 1 - (i : Int) = s.number m n := by rw [e]; rfl
        rw [en]
        clear en e2 e c hi
        walk_at "kn"
        rename_i p1 H1 N1
        refine c_lcR2 N1 (by omega) (fun i acc => acc = (s.far m n bs i).map V.int) rfl (fun _ => rfl) (fun i Dd H2 acc hi N2 r => ?_) (fun pf H2 acc N2 r => ?_)
        · have li : i < bs.length := by omega
          have la : acc.length ≤ i := by
            rw [r, List.length_map]
            exact ofar_len _ _ _ _ _
          have eg : bs.getD i 0 = bs[i] := by rw [List.getD_eq_getElem?_getD, List.getElem?_eq_getElem li]; rfl
          have nxt : s.far m n bs (i + 1) = if bs[i] = 1 then s.far m n bs i ++ [s.number m n - (1 + (i : Int))] else s.far m n bs i := by
            unfold OM.far
            rw [List.range_succ, List.filter_append, List.map_append]
            by_cases c : bs[i] = 1
            · rw [if_pos c, List.filter_cons_of_pos (by rw [eg]; simpa using c)]
              rfl
            · rw [if_neg c, List.filter_cons_of_neg (by rw [eg]; simpa using c)]
              simp
          walk_at "kn"
          refine g_ixT (xs := bs.map V.int) (v := .int bs[i]) (.of (N2.tup 2 rfl)) (at_of (show 1 + (i : Int) - 1 = (i : Int) by omega) (by rw [List.getElem?_map, List.getElem?_eq_getElem li]; rfl)) ?_
          walk_at "kn"
          refine c_el (fun c => ?_) (fun c => ?_)
          · walk_at "kn"
            refine c_put N2 (by omega) ?_
            show acc ++ [V.int (s.number m n - (1 + (i : Int)))] = _
            rw [nxt, if_pos (of_decide_eq_true c), List.map_append, r]
            rfl
          · refine ⟨acc, N2, ?_⟩
            show acc = _
            rw [nxt, if_neg (of_decide_eq_false c), r]
        · have ew : (w + 1 - 1).toNat = w.toNat := by omega
          rw [ew] at r
          subst r
          have l1 := ofar_len s m n bs w.toNat
          walk_at "kn"
          rename_i p2 H3 N3
          have l17 : (s.some m w n bs).length ≤ 17 := by
            unfold OM.some
            rw [List.length_cons]
            omega
          have N3 : Now K none ((omC o sl s).map Cel.a) _ H3 (⟨true, p2, .lst ((s.some m w n bs).map V.int)⟩ :: _) _ := N3
          refine g_minL (ns := s.some m w n bs) (.of (N3.cell 0 rfl)) (by unfold OM.some; simp) fun mn hmn hmin => ?_
          walk_at "kn"
          refine c_ifd (fun c => ?_) (fun c => ?_)
          · walk_at "kn"
            exact kn ⟨mn, hmn, c⟩ _ (Now.back (fp := omC o sl s) N3 fun x hx => ⟨List.mem_cons_of_mem _ (List.mem_cons_of_mem _ (List.mem_cons_of_mem _ hx)), (hc.2 x hx).1⟩)
          · have h0 : ∀ x ∈ s.some m w n bs, 0 ≤ x := fun x hx => by
              have := hmin x hx
              omega
            walk_at "kn"
            refine c_lc N3 ((s.some m w n bs).map V.int) (fun i acc => acc = (((s.some m w n bs).take i).filter fun x => decide (x ∉ s.sure)).map V.int) rfl (fun H' Dd acc N' => .of (N'.cell 1 rfl)) (fun _ => rfl) (fun i x Dd H5 acc hx N5 r => ?_) (fun pf2 H5 acc N5 r => ?_) (.of (N3.cell 0 rfl))
            · rw [List.getElem?_map] at hx
              obtain ⟨z, hz, rfl⟩ := Option.map_eq_some_iff.mp hx
              have la : acc.length ≤ 17 := by
                rw [r, List.length_map]
                exact Nat.le_trans filt_len l17
              walk_at "kn"
              refine c_el (fun c => ?_) (fun c => ?_)
              · walk_at "kn"
                refine c_put N5 (by omega) ?_
                show acc ++ [V.int z] = _
                rw [r, filt_snoc hz, if_pos c, List.map_append]
                rfl
              · refine ⟨acc, N5, ?_⟩
                show acc = _
                rw [r, filt_snoc hz, if_neg (fun q => by rw [c] at q; cases q)]
            · rw [List.length_map, List.take_length] at r
              subst r
              walk_at "kn"
              refine g_srt N5 (.of (N5.cell 0 rfl)) fun fl H6 N6 => ?_
              have N6 : Now K none ((omC o sl s).map Cel.a) _ H6 (⟨true, fl, .lst ((s.found m w n bs).map V.int)⟩ :: _) _ := N6
              have lf : (s.found m w n bs).length ≤ 17 := by
                unfold OM.found
                rw [srt_len]
                exact Nat.le_trans (List.length_filter_le _ _) l17
              walk_at "kn"
              rename_i p3 H7 N7
              have ec : s.sure.map V.int ++ (s.found m w n bs).map V.int = (s.sure ++ s.found m w n bs).map V.int := by rw [List.map_append]
              rw [ec] at N7
              refine g_srt N7 (.of (N7.cell 0 rfl)) fun nc H8 N8 => ?_
              have N9 := N8.sel [7, 0, 2, 8] (l' := ⟨true, o, .dK (kvM s.sent sl)⟩ :: ⟨true, nc, .lst ((srt (s.sure ++ s.found m w n bs)).map V.int)⟩ :: ⟨true, fl, .lst ((s.found m w n bs).map V.int)⟩ :: ⟨true, sl, .lst (s.sure.map V.int)⟩ :: []) rfl (by decide)
              have hfl := (N6.ow ⟨true, fl, _⟩ List.mem_cons_self rfl)
              clear N8
              walk_at "kn"
              refine g_dputS0 N9 (Nat.le_of_ble_eq_true rfl) (kvs' := kvM s.sent nc) rfl fun H10 N10 => ?_
              walk_at "kn"
              have nd : [o, nc, fl, sl].Nodup := N10.nd
              have lM : fl ∉ (omC o sl s).map Cel.a := by
                intro m
                have m : fl = o ∨ fl = sl := by simpa using m
                simp only [List.nodup_cons, List.mem_cons, not_or] at nd
                rcases m with z | z
                · exact nd.1.2.1 z.symm
                · exact nd.2.2.1.1 z
              refine kl h0 fl nc _ (hfl.resolve_left lM) ?_ (Now.done (N10.sel [0, 1] rfl (by decide)) (by simp)) (N10.cell 2 rfl)
              intro z
              simp only [List.nodup_cons, List.mem_cons, not_or] at nd
              exact nd.2.1.1 z.symm
end
/-! ### a Mouth -/
structure MS where
  (m w l a sent top : Int)
  certain : List Int
abbrev fsM (s : MS) (st cl : Addr) : List (Str × V) := [("marks", .int s.m), ("wide", .int s.w), ("late", .int s.l), ("ahead", .int s.a), ("setting", .ref st), ("sent", .int s.sent), ("certain", .ref cl), ("top", .int s.top)]
abbrev mouthC (C p dx cl st : Addr) (s : MS) : List Cel := [⟨true, p, .ins C dx (fsM s st cl)⟩, ⟨true, cl, .lst (s.certain.map V.int)⟩]
structure MTx (K : PySem.W.Frag) (C : Addr) : Prop where
  cl : Cls K C
  n1 : NoAttr K C "marks"
  n2 : NoAttr K C "wide"
  n3 : NoAttr K C "late"
  n4 : NoAttr K C "ahead"
  n5 : NoAttr K C "setting"
  n6 : NoAttr K C "sent"
  n7 : NoAttr K C "certain"
  n8 : NoAttr K C "top"
def MS.full (s : MS) : Bool := decide (s.sent - s.top > s.a)
def MS.send (s : MS) : MS := { s with sent := s.sent + 1 }
def MS.number (s : MS) (k : Int) : Int := s.sent - 1 - (s.sent - 1 - k) % s.m
def MS.far (s : MS) (k : Int) (bs : List Int) (n : Nat) : List Int := ((List.range n).filter fun i => decide (bs.getD i 0 = 1)).map fun (i : Nat) => s.number k - 1 - (i : Int)
def MS.some (s : MS) (k : Int) (bs : List Int) : List Int := s.far k bs s.w.toNat ++ [s.number k]
def MS.found (s : MS) (k : Int) (bs : List Int) : List Int := srt ((s.some k bs).filter fun x => decide (x ∉ s.certain))
def MS.hear (s : MS) (k : Int) (bs : List Int) : MS := { s with certain := srt (s.certain ++ s.found k bs), top := max s.top (s.number k) }
structure MOk (s : MS) : Prop where
  ok : OkS s.m s.w s.l s.a
  len : s.certain.length ≤ 50000
theorem far_len (s : MS) (k : Int) (bs : List Int) (n : Nat) : (s.far k bs n).length ≤ n := by
  unfold MS.far
  rw [List.length_map]
  exact Nat.le_trans (List.length_filter_le _ _) (by rw [List.length_range]; exact Nat.le_refl _)
theorem some_len {s : MS} (h : MOk s) (k : Int) (bs : List Int) : (s.some k bs).length ≤ 17 := by
  have := far_len s k bs s.w.toNat
  have := h.ok.2.1
  unfold MS.some
  rw [List.length_append]
  simp
  omega
theorem foundM_len {s : MS} (h : MOk s) (k : Int) (bs : List Int) : (s.found k bs).length ≤ 17 := by
  have := some_len h k bs
  unfold MS.found
  rw [srt_len]
  exact Nat.le_trans (List.length_filter_le _ _) this
section
variable {P : Program} {w : World} {K : PySem.W.Frag} {mg : Str → Option Value} {base : Heap} {C : Addr}
theorem sc_Mouth_init : FnScope ["self", "setting"] ["self", "setting"] (defScope s_Mouth_init) := ⟨rfl, rfl, rfl, by decide +kernel, rfl, by decide +kernel, by decide +kernel⟩
theorem bd_Mouth_init : Bd "__init__" "Mouth.__init__" s_Mouth_init ["self", "setting"] := fun _ _ _ _ _ _ us hl => match us, hl with | [_, _], _ => rfl
def spMInit (C : Addr) : Sp := fun vs H Q _ => ∃ (p dx t : Addr) (m w l a : Int), vs = [.ref p, .ref t] ∧ H p = some (.ins C dx []) ∧ H t = some (.tup (StV m w l a)) ∧ OkS m w l a ∧
  ∀ (cl : Addr) (H' : Hp), Aftr [⟨true, p, .ins C dx []⟩] (mouthC C p dx cl t ⟨m, w, l, a, 0, -1, []⟩) H H' → Q .non H'
theorem ok_MInit (F : DefC K mg C "Mouth" "Mouth.__init__" s_Mouth_init) (T : MTx K C) (B : Bt mg) (c_need_setting : Cal P w K mg base CX0 1 "need_setting" ["setting"] spNeedS) : CalC P w K mg base CX0 C 2 "Mouth" ["self", "setting"] (spMInit C) := by
  refine F.ok sc_Mouth_init bd_Mouth_init (fun vs H Q E h => ?_) (fun f cdv A outer s H vs Q E hr h => ?_)
  · obtain ⟨p, dx, t, m, w, l, a, rfl, _⟩ := h
    rfl
  · obtain ⟨p, dx, t, m, w, l, a, rfl, hp, ht, hs, k⟩ := h
    obtain ⟨cl, n1, n2, n3, n4, n5, n6, n7, n8⟩ := T
    refine ⟨_, PSs.nox (pss_cons (ps_expr (pe_cal c_need_setting (hr.mono (by decide)) pass0 (pa_cons (pv 1) pa_nil)))
      (pss_cons (ps_asg (pv 1) (pg_tup rfl (pgs_cons (pg_attr (pv 0)) (pgs_cons (pg_attr (pv 0)) (pgs_cons (pg_attr (pv 0)) (pgs_cons (pg_attr (pv 0)) pgs_nil))))))
      (pss_cons (ps_fldK K rfl (pv 0) (pe_callTy (cr_tupTK K rfl) (by rfl) B.m_tuple (by decide +kernel) (pa_cons (pv 1) pa_nil)) rfl)
      (pss_cons (ps_fldK K rfl (pv 0) pe_int rfl)
      (pss_cons (ps_fldK K rfl (pv 0) (pe_lst pa_nil) rfl)
      (pss_one (ps_fldK K rfl (pv 0) (pe_un un_neg pe_int) rfl))))))), ?_⟩
    have N : Now K none [p] H H [⟨true, p, .ins C dx []⟩] [(t, StV m w l a)] := .start (by simp) (by simp [hp, Mut]) (by simp [ht]) (by simp)
    walk_at "go"
    refine ⟨t, m, w, l, a, rfl, ht, hs, ?_⟩
    walk_at "k"
    rename_i N9
    exact k _ _ (Now.done (N9.sel [1, 0] rfl (by decide)) (by simp))
theorem sc_Mouth_is_full : FnScope ["self"] ["self"] (defScope s_Mouth_is_full) := ⟨rfl, rfl, rfl, by decide +kernel, rfl, by decide +kernel, by decide +kernel⟩
theorem bd_Mouth_is_full : Bd "is_full" "Mouth.is_full" s_Mouth_is_full ["self"] := fun _ _ _ _ _ _ us hl => match us, hl with | [_], _ => rfl
def spMFull (K : PySem.W.Frag) (C : Addr) : Sp := fun vs H Q _ => ∃ (p dx cl st : Addr) (s : MS), vs = [.ref p] ∧ CelOk H (mouthC C p dx cl st s) ∧ Q (.bl s.full) H
theorem ok_MFull (F : DefM K C "is_full" "Mouth.is_full" s_Mouth_is_full) (T : MTx K C) : CalM P w K mg base CX0 C 1 "is_full" ["self"] (spMFull K C) := by
  refine F.ok sc_Mouth_is_full bd_Mouth_is_full (fun vs H Q E h => ?_) (fun f cdv A outer s H vs Q E hr h => ?_)
  · obtain ⟨p, dx, cl, st, e, rfl, _⟩ := h
    rfl
  · obtain ⟨p, dx, cl, st, e, rfl, hc, k⟩ := h
    obtain ⟨cl_Mouth, n1, n2, n3, n4, n5, n6, n7, n8⟩ := T
    refine ⟨_, PSs.nox (pss_one (ps_ret (pe_cmpR op_gt (pe_op op_sub (pe_fldK K rfl (pv 0) rfl) (pe_fldK K rfl (pv 0) rfl)) (pe_fldK K rfl (pv 0) rfl) (nomark _)))), ?_⟩
    have N : Now K none [] H H ((mouthC C p dx cl st e).map Cel.ro) [] := .read hc (by simp)
    walk_at "go"
    exact k
theorem sc_Mouth_last : FnScope ["self"] ["self"] (defScope s_Mouth_last) := ⟨rfl, rfl, rfl, by decide +kernel, rfl, by decide +kernel, by decide +kernel⟩
theorem bd_Mouth_last : Bd "last" "Mouth.last" s_Mouth_last ["self"] := fun _ _ _ _ _ _ us hl => match us, hl with | [_], _ => rfl
def spMLast (K : PySem.W.Frag) (C : Addr) : Sp := fun vs H Q _ => ∃ (p dx cl st : Addr) (s : MS), vs = [.ref p] ∧ CelOk H (mouthC C p dx cl st s) ∧ Q (.int (s.sent - 1)) H
theorem ok_MLast (F : DefM K C "last" "Mouth.last" s_Mouth_last) (T : MTx K C) : CalM P w K mg base CX0 C 1 "last" ["self"] (spMLast K C) := by
  refine F.ok sc_Mouth_last bd_Mouth_last (fun vs H Q E h => ?_) (fun f cdv A outer s H vs Q E hr h => ?_)
  · obtain ⟨p, dx, cl, st, e, rfl, _⟩ := h
    rfl
  · obtain ⟨p, dx, cl, st, e, rfl, hc, k⟩ := h
    obtain ⟨cl_Mouth, n1, n2, n3, n4, n5, n6, n7, n8⟩ := T
    refine ⟨_, PSs.nox (pss_one (ps_ret (pe_op op_sub (pe_fldK K rfl (pv 0) rfl) pe_int))), ?_⟩
    have N : Now K none [] H H ((mouthC C p dx cl st e).map Cel.ro) [] := .read hc (by simp)
    walk_at "go"
    exact k
theorem sc_Mouth_sure : FnScope ["self"] ["self"] (defScope s_Mouth_sure) := ⟨rfl, rfl, rfl, by decide +kernel, rfl, by decide +kernel, by decide +kernel⟩
theorem bd_Mouth_sure : Bd "sure" "Mouth.sure" s_Mouth_sure ["self"] := fun _ _ _ _ _ _ us hl => match us, hl with | [_], _ => rfl
def spMSure (K : PySem.W.Frag) (C : Addr) : Sp := fun vs H Q _ => ∃ (p dx cl st : Addr) (s : MS), vs = [.ref p] ∧ CelOk H (mouthC C p dx cl st s) ∧ ∀ l H', H l = none → Aft [] H H' → H' l = some (.lst (s.certain.map V.int)) → Q (.ref l) H'
theorem ok_MSure (F : DefM K C "sure" "Mouth.sure" s_Mouth_sure) (T : MTx K C) (B : Bt mg) : CalM P w K mg base CX0 C 1 "sure" ["self"] (spMSure K C) := by
  refine F.ok sc_Mouth_sure bd_Mouth_sure (fun vs H Q E h => ?_) (fun f cdv A outer s H vs Q E hr h => ?_)
  · obtain ⟨p, dx, cl, st, e, rfl, _⟩ := h
    rfl
  · obtain ⟨p, dx, cl, st, e, rfl, hc, k⟩ := h
    obtain ⟨cl_Mouth, n1, n2, n3, n4, n5, n6, n7, n8⟩ := T
    refine ⟨_, PSs.nox (pss_one (ps_ret (pe_callTy (cr_lstSK K rfl) (by rfl) B.m_list (by decide +kernel) (pa_cons (pe_fldK K rfl (pv 0) rfl) pa_nil)))), ?_⟩
    have N : Now K none [] H H ((mouthC C p dx cl st e).map Cel.ro) [] := .read hc (by simp)
    walk_at "go"
    rename_i l H2 N2
    exact k _ _ ((N2.ow ⟨true, l, _⟩ List.mem_cons_self rfl).resolve_left (by simp)) N2.af (N2.cell 0 rfl)
theorem sc_Mouth_send : FnScope ["self", "number"] ["self"] (defScope s_Mouth_send) := ⟨rfl, rfl, rfl, by decide +kernel, rfl, by decide +kernel, by decide +kernel⟩
theorem bd_Mouth_send : Bd "send" "Mouth.send" s_Mouth_send ["self"] := fun _ _ _ _ _ _ us hl => match us, hl with | [_], _ => rfl
def spMSend (K : PySem.W.Frag) (C : Addr) : Sp := fun vs H Q _ => ∃ (p dx cl st : Addr) (s : MS), vs = [.ref p] ∧ CelOk H (mouthC C p dx cl st s) ∧ OkS s.m s.w s.l s.a ∧ s.full = false ∧
  ∀ t H', Aftr (mouthC C p dx cl st s) (mouthC C p dx cl st s.send) H H' → H' t = some (.tup [.int s.sent, .int (s.sent % s.m)]) → Q (.ref t) H'
theorem ok_MSend (F : DefM K C "send" "Mouth.send" s_Mouth_send) (T : MTx K C) (c_Mouth_is_full : CalM P w K mg base CX0 C 1 "is_full" ["self"] (spMFull K C)) : CalM P w K mg base CX0 C 2 "send" ["self"] (spMSend K C) := by
  refine F.ok sc_Mouth_send bd_Mouth_send (fun vs H Q E h => ?_) (fun f cdv A outer s H vs Q E hr h => ?_)
  · obtain ⟨p, dx, cl, st, e, rfl, _⟩ := h
    rfl
  · obtain ⟨p, dx, cl, st, e, rfl, hc, hs, hf, k⟩ := h
    obtain ⟨cl_Mouth, n1, n2, n3, n4, n5, n6, n7, n8⟩ := T
    have hm := hs.1
    refine ⟨_, PSs.nox (pss_cons (ps_if (pt_val (pe_calM0 (pv 0) cl_Mouth c_Mouth_is_full (hr.mono (by decide)) pass0)) (pss_one ps_never) pss_nil)
      (pss_cons (ps_set (i := 1) sc_Mouth_send.nd rfl (by first | exact Or.inl rfl | exact Or.inr rfl) (pe_fldK K rfl (pv 0) rfl))
      (pss_cons (ps_fldK K rfl (pv 0) (pe_op op_add (pe_fldK K rfl (pv 0) rfl) pe_int) rfl)
      (pss_one (ps_ret (pe_tup (pa_cons (pv 1) (pa_cons (pe_op op_mod (pv 1) (pe_fldK K rfl (pv 0) rfl)) pa_nil)))))))), ?_⟩
    have N : Now K none _ H H (mouthC C p dx cl st e) [] := .begin hc (by simp)
    walk_at "go"
    refine ⟨p, dx, cl, st, e, rfl, hc, ?_⟩
    rw [hf]
    walk_at "k"
    rename_i H2 N2 t H3 N3
    exact k t _ (Now.done N3 (by simp)) (N3.tup 0 rfl)
theorem sc_Mouth_hear : FnScope ["self", "told", "mark", "bits", "last", "number", "some", "k", "found", "one"] ["self", "told"] (defScope s_Mouth_hear) := ⟨rfl, rfl, rfl, by decide +kernel, rfl, by decide +kernel, by decide +kernel⟩
theorem bd_Mouth_hear : Bd "hear" "Mouth.hear" s_Mouth_hear ["self", "told"] := fun _ _ _ _ _ _ us hl => match us, hl with | [_, _], _ => rfl
def spMHear (K : PySem.W.Frag) (C : Addr) : Sp := fun vs H Q _ => ∃ (p dx cl st q b : Addr) (s : MS) (n : Int) (bs : List Int), vs = [.ref p, .ref q] ∧ CelOk H (mouthC C p dx cl st s) ∧ H st = some (.tup (StV s.m s.w s.l s.a)) ∧ H q = some (.tup [.int n, .ref b]) ∧ H b = some (.tup (bs.map V.int)) ∧ MOk s ∧
  (0 ≤ n ∧ n < s.m) ∧ (bs.length : Int) = s.w ∧ (∀ x ∈ bs, x = 0 ∨ x = 1) ∧ (∀ x ∈ s.some n bs, 0 ≤ x) ∧
  ∀ (l cl' : Addr) H', H l = none → l ≠ cl' → Aftr (mouthC C p dx cl st s) (mouthC C p dx cl' st (s.hear n bs)) H H' → H' l = some (.lst ((s.found n bs).map V.int)) → Q (.ref l) H'
theorem ok_MHear (F : DefM K C "hear" "Mouth.hear" s_Mouth_hear) (T : MTx K C) (B : Bt mg) (c_need_bits : Cal P w K mg base CX0 2 "need_bits" ["setting", "told"] spNeedB) : CalM P w K mg base CX0 C 3 "hear" ["self", "told"] (spMHear K C) := by
  refine F.ok sc_Mouth_hear bd_Mouth_hear (fun vs H Q E h => ?_) (fun f cdv A outer s H vs Q E hr h => ?_)
  · obtain ⟨p, dx, cl, st, q, b, e, n, bs, rfl, _⟩ := h
    rfl
  · obtain ⟨p, dx, cl, st, q, b, e, n, bs, rfl, hc, hst, hq, hb, hok, hn, hl, h01, h0, k⟩ := h
    obtain ⟨cl_Mouth, n1, n2, n3, n4, n5, n6, n7, n8⟩ := T
    have hm := hok.ok.1
    have hw := hok.ok.2.1
    have hlen := hok.len
    refine ⟨_, PSs.nox (pss_cons (ps_expr (pe_cal c_need_bits (hr.mono (by decide)) pass0 (pa_cons (pe_fldK K rfl (pv 0) rfl) (pa_cons (pv 1) pa_nil))))
      (pss_cons (ps_asg (pv 1) (pg_tup rfl (pgs_cons (pg_name (i := 2) sc_Mouth_hear.nd rfl (by first | exact Or.inl rfl | exact Or.inr rfl)) (pgs_cons (pg_name (i := 3) sc_Mouth_hear.nd rfl (by first | exact Or.inl rfl | exact Or.inr rfl)) pgs_nil))))
      (pss_cons (ps_set (i := 4) sc_Mouth_hear.nd rfl (by first | exact Or.inl rfl | exact Or.inr rfl) (pe_op op_sub (pe_fldK K rfl (pv 0) rfl) pe_int))
      (pss_cons (ps_set (i := 5) sc_Mouth_hear.nd rfl (by first | exact Or.inl rfl | exact Or.inr rfl) (pe_op op_sub (pv 4) (pe_op op_mod (pe_op op_sub (pv 4) (pv 2)) (pe_fldK K rfl (pv 0) rfl))))
      (pss_cons (ps_set (i := 6) sc_Mouth_hear.nd rfl (by first | exact Or.inl rfl | exact Or.inr rfl) (pe_op op_cat (pe_lc (own := [("k", 7)]) (g := (gName 7)) rfl sc_Mouth_hear.nd (pi_range1 (by rfl) B.m_range (pa_cons (pe_fldK K rfl (pv 0) rfl) pa_nil)) (blkOk_by (own := [("k", 7)]) (N := ["self", "told", "mark", "bits", "last", "number", "some", "k", "found", "one"]) (sc := defScope s_Mouth_hear) (by decide +kernel)) (fun _ _ _ _ _ => (pg_name (i := 7) sc_Mouth_hear.nd rfl (by first | exact Or.inl rfl | exact Or.inr rfl))) (fun _ _ _ _ _ => (pts_one (pt_cmpR op_eq (pe_ix (ix_tupK K rfl) (pv 3) (pv 7) (fun _ _ => rfl)) pe_int (nomark _)))) (fun _ _ _ _ _ => (pe_op op_sub (pe_op op_sub (pv 5) pe_int) (pv 7)))) (pe_lst (pa_cons (pv 5) pa_nil))))
      (pss_cons (ps_if (pt_cmpR op_lt (pe_callB (cr_minLK K rfl rfl) (by rfl) B.m_min (by decide +kernel) (pa_cons (pv 6) pa_nil)) pe_int (nomark _)) (pss_one ps_never) pss_nil)
      (pss_cons (ps_set (i := 8) sc_Mouth_hear.nd rfl (by first | exact Or.inl rfl | exact Or.inr rfl) (pe_callB (cr_sortedIK K rfl) (by rfl) B.m_sorted (by decide +kernel) (pa_cons (pe_lc (own := [("one", 9)]) (g := (gName 9)) rfl sc_Mouth_hear.nd (pi_listK K rfl (pv 6)) (blkOk_by (own := [("one", 9)]) (N := ["self", "told", "mark", "bits", "last", "number", "some", "k", "found", "one"]) (sc := defScope s_Mouth_hear) (by decide +kernel)) (fun _ _ _ _ _ => (pg_name (i := 9) sc_Mouth_hear.nd rfl (by first | exact Or.inl rfl | exact Or.inr rfl))) (fun _ _ _ _ _ => (pts_one (pt_cmpR (op_notIn_seqK K rfl) (pv 9) (pe_fldK K rfl (pv 0) rfl) (by rfl)))) (fun _ _ _ _ _ => (pv 9))) pa_nil)))
      (pss_cons (ps_fldK K rfl (pv 0) (pe_callB (cr_sortedIK K rfl) (by rfl) B.m_sorted (by decide +kernel) (pa_cons (pe_op op_cat (pe_fldK K rfl (pv 0) rfl) (pv 8)) pa_nil)) rfl)
      (pss_cons (ps_fldK K rfl (pv 0) (pe_callB (cr_max2 rfl) (by rfl) B.m_max (by decide +kernel) (pa_cons (pe_fldK K rfl (pv 0) rfl) (pa_cons (pv 5) pa_nil))) rfl)
      (pss_one (ps_ret (pv 8)))))))))))), ?_⟩
    have N : Now K none _ H H (mouthC C p dx cl st e) [(st, StV e.m e.w e.l e.a), (q, [.int n, .ref b]), (b, bs.map V.int)] := .begin hc (by simp [hst, hq, hb])
    walk_at "go"
    refine ⟨st, q, b, e.m, e.w, e.l, e.a, n, bs, rfl, hst, hq, hb, hn, hl, hw.2, h01, fun H1 A1 => ?_⟩
    have N1 := N.pure A1
    clear N
    walk_at "k"
    refine c_lcR N1 (by omega) (fun i acc => acc = (e.far n bs i).map V.int) rfl (fun _ => rfl) (fun i Dd H2 acc hi N2 r => ?_) (fun pf H2 acc N2 r => ?_)
    · have li : i < bs.length := by omega
      have la : acc.length ≤ i := by
        rw [r, List.length_map]
        exact far_len _ _ _ _
      have eg : bs.getD i 0 = bs[i] := by rw [List.getD_eq_getElem?_getD, List.getElem?_eq_getElem li]; rfl
      have nxt : e.far n bs (i + 1) = if bs[i] = 1 then e.far n bs i ++ [e.number n - 1 - (i : Int)] else e.far n bs i := by
        unfold MS.far
        rw [List.range_succ, List.filter_append, List.map_append]
        by_cases c : bs[i] = 1
        · rw [if_pos c, List.filter_cons_of_pos (by rw [eg]; simpa using c)]
          rfl
        · rw [if_neg c, List.filter_cons_of_neg (by rw [eg]; simpa using c)]
          simp
      walk_at "k"
      refine g_ixT (xs := bs.map V.int) (v := .int bs[i]) (.of (N2.tup 2 rfl)) (atI_nat (by rw [List.getElem?_map, List.getElem?_eq_getElem li]; rfl)) ?_
      walk_at "k"
      refine c_el (fun c => ?_) (fun c => ?_)
      · walk_at "k"
        refine c_put N2 (by omega) ?_
        show acc ++ [V.int (e.number n - 1 - (i : Int))] = _
        rw [nxt, if_pos (of_decide_eq_true c), List.map_append, r]
        rfl
      · refine ⟨acc, N2, ?_⟩
        show acc = _
        rw [nxt, if_neg (of_decide_eq_false c), r]
    · subst r
      have l1 := far_len e n bs e.w.toNat
      walk_at "k"
      rename_i p1 H3 N3 p2 H4 N4
      have ey : (e.far n bs e.w.toNat).map V.int ++ [V.int (e.sent - 1 - (e.sent - 1 - n) % e.m)] = (e.some n bs).map V.int := by
        unfold MS.some
        rw [List.map_append]
        rfl
      rw [ey] at N4
      have l17 := some_len hok n bs
      refine g_minL (ns := e.some n bs) (.of (N4.cell 0 rfl)) (by unfold MS.some; rw [List.length_append]; simp) fun mn hmn _ => ?_
      have := h0 mn hmn
      walk_at "k"
      refine c_lc N4 ((e.some n bs).map V.int) (fun i acc => acc = (((e.some n bs).take i).filter fun x => decide (x ∉ e.certain)).map V.int) rfl (fun H' Dd acc N' => .of (N'.cell 1 rfl)) (fun _ => rfl) (fun i x Dd H5 acc hx N5 r => ?_) (fun pf2 H5 acc N5 r => ?_) (.of (N4.cell 0 rfl))
      · rw [List.getElem?_map] at hx
        obtain ⟨z, hz, rfl⟩ := Option.map_eq_some_iff.mp hx
        have la : acc.length ≤ 17 := by
          rw [r, List.length_map]
          exact Nat.le_trans filt_len l17
        walk_at "k"
        refine c_el (fun c => ?_) (fun c => ?_)
        · walk_at "k"
          refine c_put N5 (by omega) ?_
          show acc ++ [V.int z] = _
          rw [r, filt_snoc hz, if_pos c, List.map_append]
          rfl
        · refine ⟨acc, N5, ?_⟩
          show acc = _
          rw [r, filt_snoc hz, if_neg (fun q => by rw [c] at q; cases q)]
      · rw [List.length_map, List.take_length] at r
        subst r
        walk_at "k"
        refine g_srt N5 (.of (N5.cell 0 rfl)) fun fl H6 N6 => ?_
        have N6 : Now K none _ H H6 (⟨true, fl, .lst ((e.found n bs).map V.int)⟩ :: _) _ := N6
        have lf := foundM_len hok n bs
        walk_at "k"
        rename_i p3 H7 N7
        have ec : e.certain.map V.int ++ (e.found n bs).map V.int = (e.certain ++ e.found n bs).map V.int := by rw [List.map_append]
        rw [ec] at N7
        refine g_srt N7 (.of (N7.cell 0 rfl)) fun nc H8 N8 => ?_
        have N9 := N8.sel [7, 0, 2, 8] (l' := ⟨true, p, .ins C dx (fsM e st cl)⟩ :: ⟨true, nc, .lst ((srt (e.certain ++ e.found n bs)).map V.int)⟩ :: ⟨true, fl, .lst ((e.found n bs).map V.int)⟩ :: ⟨true, cl, .lst (e.certain.map V.int)⟩ :: []) rfl (by decide)
        have hfl := (N6.ow ⟨true, fl, _⟩ List.mem_cons_self rfl)
        clear N8
        walk_at "k"
        rename_i H10 N10 H11 N11
        have nd := N11.nd
        have lM : fl ∉ (mouthC C p dx cl st e).map Cel.a := by
          intro m
          have m : fl = p ∨ fl = cl := by simpa using m
          have nd : [p, nc, fl, cl].Nodup := nd
          simp only [List.nodup_cons, List.mem_cons, not_or] at nd
          rcases m with z | z
          · exact nd.1.2.1 z.symm
          · exact nd.2.2.1.1 z
        refine k fl nc _ (hfl.resolve_left lM) ?_ (Now.done (N11.sel [0, 1] rfl (by decide)) (by simp)) (N11.cell 2 rfl)
        intro z
        have nd : [p, nc, fl, cl].Nodup := nd
        simp only [List.nodup_cons, List.mem_cons, not_or] at nd
        exact nd.2.1.1 z.symm
end
/-! ### a mouth among cells -/
section
variable {K : PySem.W.Frag} {D : Option Addr} {M : List Addr} {H0 H : Hp} {r : List Cel} {ts : List (Addr × List V)} {Q : VK} {E : XK} {CM CE ep edx eml mp mdx mcl st : Addr} {e : ES} {s : MS}
theorem g_mFull (N : Now K D M H0 H (mouthC CM mp mdx mcl st s ++ r) ts) (k : Q (.bl s.full) H) : spMFull K CM [.ref mp] H Q E := ⟨mp, mdx, mcl, st, s, rfl, N.front, k⟩
theorem g_mLast (N : Now K D M H0 H (mouthC CM mp mdx mcl st s ++ r) ts) (k : Q (.int (s.sent - 1)) H) : spMLast K CM [.ref mp] H Q E := ⟨mp, mdx, mcl, st, s, rfl, N.front, k⟩
theorem g_mSend (N : Now K D M H0 H (mouthC CM mp mdx mcl st s ++ r) ts) (ok : OkS s.m s.w s.l s.a) (hf : s.full = false)
    (k : ∀ t H', Now K D M H0 H' (mouthC CM mp mdx mcl st s.send ++ r) ((t, [.int s.sent, .int (s.sent % s.m)]) :: ts) → Q (.ref t) H') : spMSend K CM [.ref mp] H Q E :=
  ⟨mp, mdx, mcl, st, s, rfl, N.front, ok, hf, fun t H' B h => k t H' ((Now.call N (by simp) B).moreT h)⟩
theorem g_mHear {q b : Addr} {n : Int} {bs : List Int} (N : Now K D M H0 H (mouthC CM mp mdx mcl st s ++ r) ts) (ht : H st = some (.tup (StV s.m s.w s.l s.a))) (hq : H q = some (.tup [.int n, .ref b])) (hb : H b = some (.tup (bs.map V.int))) (ok : MOk s) (hn : 0 ≤ n ∧ n < s.m) (hl : (bs.length : Int) = s.w)
    (h01 : ∀ x ∈ bs, x = 0 ∨ x = 1) (h0 : ∀ x ∈ s.some n bs, 0 ≤ x) (k : ∀ l mcl' H', Now K D M H0 H' (⟨true, l, .lst ((s.found n bs).map V.int)⟩ :: (mouthC CM mp mdx mcl' st (s.hear n bs) ++ r)) ts → Q (.ref l) H') : spMHear K CM [.ref mp, .ref q] H Q E := by
  refine ⟨mp, mdx, mcl, st, q, b, s, n, bs, rfl, N.front, ht, hq, hb, ok, hn, hl, h01, h0, fun l mcl' H' hN hne B hv => k l mcl' H' ?_⟩
  refine Now.grow N (Now.call N (by simp) B) (q := l) (fun z hz => ?_) hN hv trivial
  by_cases c : z = mcl'
  · exact .inr (fun e => hne (e.symm.trans c))
  · left
    rw [List.map_append] at hz ⊢
    rcases List.mem_append.mp hz with y | y
    · have y : z = mp ∨ z = mcl' := by simpa using y
      rcases y with y | y
      · exact List.mem_append_left _ (by rw [y]; simp)
      · exact absurd y c
    · exact List.mem_append_right _ y
theorem g_mSure (N : Now K D M H0 H (mouthC CM mp mdx mcl st s ++ r) ts) (k : ∀ l H', Now K D M H0 H' (⟨true, l, .lst (s.certain.map V.int)⟩ :: (mouthC CM mp mdx mcl st s ++ r)) ts → Q (.ref l) H') : spMSure K CM [.ref mp] H Q E :=
  ⟨mp, mdx, mcl, st, s, rfl, N.front, fun l H' hN B hv => k l H' (N.fresh B hN hv trivial)⟩
theorem g_mInit {m w l a : Int} (N : Now K D M H0 H r ts) (ht : H st = some (.tup (StV m w l a))) (hs : OkS m w l a) (k : ∀ mp mdx mcl H', Now K D M H0 H' (mouthC CM mp mdx mcl st ⟨m, w, l, a, 0, -1, []⟩ ++ r) ts → Q (.ref mp) H') : cMake CM (spMInit CM) [] E Q [.ref st] H := by
  refine g_make (N.moreT ht) fun mp mdx H5 _ N5 => ?_
  refine ⟨mp, mdx, st, m, w, l, a, rfl, N5.cell 0 rfl, N5.tup 0 rfl, hs, fun mcl H6 A6 => ⟨rfl, ?_⟩⟩
  exact k mp mdx mcl H6 ((Now.call (fp := [⟨true, mp, .ins CM mdx []⟩]) N5 (by simp) A6).subT _ (fun p hp => List.mem_cons_of_mem _ hp))
end
/-! ### a Mouth that may refuse -/
section
variable {P : Program} {w : World} {K : PySem.W.Frag} {mg : Str → Option Value} {base : Heap} {C CB CF : Addr}
def spMSendE (K : PySem.W.Frag) (C CF : Addr) : Sp := fun vs H Q E => ∃ (p dx cl st : Addr) (s : MS), vs = [.ref p] ∧ CelOk H (mouthC C p dx cl st s) ∧ OkS s.m s.w s.l s.a ∧
  (s.full = false → ∀ t H', Aftr (mouthC C p dx cl st s) (mouthC C p dx cl st s.send) H H' → H' t = some (.tup [.int s.sent, .int (s.sent % s.m)]) → Q (.ref t) H') ∧ (s.full = true → E (.ref CF) none H)
theorem ok_MSendE (F : DefM K C "send" "Mouth.send" s_Mouth_send) (T : MTx K C) (T4 : ExK K mg "Full" CF) (c_Mouth_is_full : CalM P w K mg base CX0 C 1 "is_full" ["self"] (spMFull K C)) : CalM P w K mg base (L2.CX P w) C 2 "send" ["self"] (spMSendE K C CF) := by
  refine F.ok sc_Mouth_send bd_Mouth_send (fun vs H Q E h => ?_) (fun f cdv A outer s H vs Q E hr h => ?_)
  · obtain ⟨p, dx, cl, st, e, rfl, _⟩ := h
    rfl
  · obtain ⟨p, dx, cl, st, e, rfl, hc, hs, k, k2⟩ := h
    obtain ⟨cl_Mouth, n1, n2, n3, n4, n5, n6, n7, n8⟩ := T
    have hm := hs.1
    refine ⟨_, (pss_cons (ps_if (pt_val (pe_calM0 (pv 0) cl_Mouth c_Mouth_is_full (hr.mono (by decide)) pass0)) (pss_one (ps_raiseK rfl (takes_of rfl rfl rfl rfl) T4 (by rfl))) pss_nil)
      (pss_cons (ps_set (i := 1) sc_Mouth_send.nd rfl (by first | exact Or.inl rfl | exact Or.inr rfl) (pe_fldK K rfl (pv 0) rfl))
      (pss_cons (ps_fldK K rfl (pv 0) (pe_op op_add (pe_fldK K rfl (pv 0) rfl) pe_int) rfl)
      (pss_one (ps_ret (pe_tup (pa_cons (pv 1) (pa_cons (pe_op op_mod (pv 1) (pe_fldK K rfl (pv 0) rfl)) pa_nil)))))))), ?_⟩
    have N : Now K none _ H H (mouthC C p dx cl st e) [] := .begin hc (by simp)
    walk_at "go"
    refine ⟨p, dx, cl, st, e, rfl, hc, ?_⟩
    cases hf : e.full with
    | true =>
      walk_at "k"
      exact k2 hf
    | false =>
      have k := k hf
      walk_at "k"
      rename_i H2 N2 t H3 N3
      exact k t _ (Now.done N3 (by simp)) (N3.tup 0 rfl)
def spMHearE (K : PySem.W.Frag) (C CB : Addr) : Sp := fun vs H Q E => ∃ (p dx cl st q b : Addr) (s : MS) (n : Int) (bs : List Int), vs = [.ref p, .ref q] ∧ CelOk H (mouthC C p dx cl st s) ∧ H st = some (.tup (StV s.m s.w s.l s.a)) ∧ H q = some (.tup [.int n, .ref b]) ∧ H b = some (.tup (bs.map V.int)) ∧ MOk s ∧
  (0 ≤ n ∧ n < s.m) ∧ (bs.length : Int) = s.w ∧ (∀ x ∈ bs, x = 0 ∨ x = 1) ∧ ((∀ x ∈ s.some n bs, 0 ≤ x) → ∀ (l cl' : Addr) H', H l = none → l ≠ cl' → Aftr (mouthC C p dx cl st s) (mouthC C p dx cl' st (s.hear n bs)) H H' → H' l = some (.lst ((s.found n bs).map V.int)) → Q (.ref l) H') ∧
  ((∃ x ∈ s.some n bs, x < 0) → ∀ H', Aftr (mouthC C p dx cl st s) (mouthC C p dx cl st s) H H' → E (.ref CB) none H')
theorem ok_MHearE (F : DefM K C "hear" "Mouth.hear" s_Mouth_hear) (T : MTx K C) (B : Bt mg) (T3 : ExK K mg "BadBits" CB) (c_need_bits : Cal P w K mg base CX0 2 "need_bits" ["setting", "told"] spNeedB) : CalM P w K mg base (L2.CX P w) C 3 "hear" ["self", "told"] (spMHearE K C CB) := by
  refine F.ok sc_Mouth_hear bd_Mouth_hear (fun vs H Q E h => ?_) (fun f cdv A outer s H vs Q E hr h => ?_)
  · obtain ⟨p, dx, cl, st, q, b, e, n, bs, rfl, _⟩ := h
    rfl
  · obtain ⟨p, dx, cl, st, q, b, e, n, bs, rfl, hc, hst, hq, hb, hok, hn, hl, h01, k, k2⟩ := h
    obtain ⟨cl_Mouth, n1, n2, n3, n4, n5, n6, n7, n8⟩ := T
    have hm := hok.ok.1
    have hw := hok.ok.2.1
    have hlen := hok.len
    refine ⟨_, (pss_cons (ps_expr (pe_cal c_need_bits (hr.mono (by decide)) pass0 (pa_cons (pe_fldK K rfl (pv 0) rfl) (pa_cons (pv 1) pa_nil))))
      (pss_cons (ps_asg (pv 1) (pg_tup rfl (pgs_cons (pg_name (i := 2) sc_Mouth_hear.nd rfl (by first | exact Or.inl rfl | exact Or.inr rfl)) (pgs_cons (pg_name (i := 3) sc_Mouth_hear.nd rfl (by first | exact Or.inl rfl | exact Or.inr rfl)) pgs_nil))))
      (pss_cons (ps_set (i := 4) sc_Mouth_hear.nd rfl (by first | exact Or.inl rfl | exact Or.inr rfl) (pe_op op_sub (pe_fldK K rfl (pv 0) rfl) pe_int))
      (pss_cons (ps_set (i := 5) sc_Mouth_hear.nd rfl (by first | exact Or.inl rfl | exact Or.inr rfl) (pe_op op_sub (pv 4) (pe_op op_mod (pe_op op_sub (pv 4) (pv 2)) (pe_fldK K rfl (pv 0) rfl))))
      (pss_cons (ps_set (i := 6) sc_Mouth_hear.nd rfl (by first | exact Or.inl rfl | exact Or.inr rfl) (pe_op op_cat (pe_lc (own := [("k", 7)]) (g := (gName 7)) rfl sc_Mouth_hear.nd (pi_range1 (by rfl) B.m_range (pa_cons (pe_fldK K rfl (pv 0) rfl) pa_nil)) (blkOk_by (own := [("k", 7)]) (N := ["self", "told", "mark", "bits", "last", "number", "some", "k", "found", "one"]) (sc := defScope s_Mouth_hear) (by decide +kernel)) (fun _ _ _ _ _ => (pg_name (i := 7) sc_Mouth_hear.nd rfl (by first | exact Or.inl rfl | exact Or.inr rfl))) (fun _ _ _ _ _ => (pts_one (pt_cmpR op_eq (pe_ix (ix_tupK K rfl) (pv 3) (pv 7) (fun _ _ => rfl)) pe_int (nomark _)))) (fun _ _ _ _ _ => (pe_op op_sub (pe_op op_sub (pv 5) pe_int) (pv 7)))) (pe_lst (pa_cons (pv 5) pa_nil))))
      (pss_cons (ps_if (pt_cmpR op_lt (pe_callB (cr_minLK K rfl rfl) (by rfl) B.m_min (by decide +kernel) (pa_cons (pv 6) pa_nil)) pe_int (nomark _)) (pss_one (ps_raiseK rfl (takes_of rfl rfl rfl rfl) T3 (by rfl))) pss_nil)
      (pss_cons (ps_set (i := 8) sc_Mouth_hear.nd rfl (by first | exact Or.inl rfl | exact Or.inr rfl) (pe_callB (cr_sortedIK K rfl) (by rfl) B.m_sorted (by decide +kernel) (pa_cons (pe_lc (own := [("one", 9)]) (g := (gName 9)) rfl sc_Mouth_hear.nd (pi_listK K rfl (pv 6)) (blkOk_by (own := [("one", 9)]) (N := ["self", "told", "mark", "bits", "last", "number", "some", "k", "found", "one"]) (sc := defScope s_Mouth_hear) (by decide +kernel)) (fun _ _ _ _ _ => (pg_name (i := 9) sc_Mouth_hear.nd rfl (by first | exact Or.inl rfl | exact Or.inr rfl))) (fun _ _ _ _ _ => (pts_one (pt_cmpR (op_notIn_seqK K rfl) (pv 9) (pe_fldK K rfl (pv 0) rfl) (by rfl)))) (fun _ _ _ _ _ => (pv 9))) pa_nil)))
      (pss_cons (ps_fldK K rfl (pv 0) (pe_callB (cr_sortedIK K rfl) (by rfl) B.m_sorted (by decide +kernel) (pa_cons (pe_op op_cat (pe_fldK K rfl (pv 0) rfl) (pv 8)) pa_nil)) rfl)
      (pss_cons (ps_fldK K rfl (pv 0) (pe_callB (cr_max2 rfl) (by rfl) B.m_max (by decide +kernel) (pa_cons (pe_fldK K rfl (pv 0) rfl) (pa_cons (pv 5) pa_nil))) rfl)
      (pss_one (ps_ret (pv 8)))))))))))), ?_⟩
    have N : Now K none _ H H (mouthC C p dx cl st e) [(st, StV e.m e.w e.l e.a), (q, [.int n, .ref b]), (b, bs.map V.int)] := .begin hc (by simp [hst, hq, hb])
    walk_at "go"
    refine ⟨st, q, b, e.m, e.w, e.l, e.a, n, bs, rfl, hst, hq, hb, hn, hl, hw.2, h01, fun H1 A1 => ?_⟩
    have N1 := N.pure A1
    clear N
    walk_at "k"
    refine c_lcR N1 (by omega) (fun i acc => acc = (e.far n bs i).map V.int) rfl (fun _ => rfl) (fun i Dd H2 acc hi N2 r => ?_) (fun pf H2 acc N2 r => ?_)
    · have li : i < bs.length := by omega
      have la : acc.length ≤ i := by
        rw [r, List.length_map]
        exact far_len _ _ _ _
      have eg : bs.getD i 0 = bs[i] := by rw [List.getD_eq_getElem?_getD, List.getElem?_eq_getElem li]; rfl
      have nxt : e.far n bs (i + 1) = if bs[i] = 1 then e.far n bs i ++ [e.number n - 1 - (i : Int)] else e.far n bs i := by
        unfold MS.far
        rw [List.range_succ, List.filter_append, List.map_append]
        by_cases c : bs[i] = 1
        · rw [if_pos c, List.filter_cons_of_pos (by rw [eg]; simpa using c)]
          rfl
        · rw [if_neg c, List.filter_cons_of_neg (by rw [eg]; simpa using c)]
          simp
      walk_at "k"
      refine g_ixT (xs := bs.map V.int) (v := .int bs[i]) (.of (N2.tup 2 rfl)) (atI_nat (by rw [List.getElem?_map, List.getElem?_eq_getElem li]; rfl)) ?_
      walk_at "k"
      refine c_el (fun c => ?_) (fun c => ?_)
      · walk_at "k"
        refine c_put N2 (by omega) ?_
        show acc ++ [V.int (e.number n - 1 - (i : Int))] = _
        rw [nxt, if_pos (of_decide_eq_true c), List.map_append, r]
        rfl
      · refine ⟨acc, N2, ?_⟩
        show acc = _
        rw [nxt, if_neg (of_decide_eq_false c), r]
    · subst r
      have l1 := far_len e n bs e.w.toNat
      walk_at "k"
      rename_i p1 H3 N3 p2 H4 N4
      have ey : (e.far n bs e.w.toNat).map V.int ++ [V.int (e.sent - 1 - (e.sent - 1 - n) % e.m)] = (e.some n bs).map V.int := by
        unfold MS.some
        rw [List.map_append]
        rfl
      rw [ey] at N4
      have l17 := some_len hok n bs
      refine g_minL (ns := e.some n bs) (.of (N4.cell 0 rfl)) (by unfold MS.some; rw [List.length_append]; simp) fun mn hmn hle => ?_
      walk_at "kn"
      refine c_ifd (fun c => ?_) (fun c => ?_)
      · exact k2 ⟨mn, hmn, by omega⟩ _ (Now.done (N4.sel [3, 4] (l' := mouthC C p dx cl st e) rfl (by decide)) (by simp))
      have k := k (fun x hx => by have := hle x hx; omega)
      walk_at "kn"
      refine c_lc N4 ((e.some n bs).map V.int) (fun i acc => acc = (((e.some n bs).take i).filter fun x => decide (x ∉ e.certain)).map V.int) rfl (fun H' Dd acc N' => .of (N'.cell 1 rfl)) (fun _ => rfl) (fun i x Dd H5 acc hx N5 r => ?_) (fun pf2 H5 acc N5 r => ?_) (.of (N4.cell 0 rfl))
      · rw [List.getElem?_map] at hx
        obtain ⟨z, hz, rfl⟩ := Option.map_eq_some_iff.mp hx
        have la : acc.length ≤ 17 := by
          rw [r, List.length_map]
          exact Nat.le_trans filt_len l17
        walk_at "k"
        refine c_el (fun c => ?_) (fun c => ?_)
        · walk_at "k"
          refine c_put N5 (by omega) ?_
          show acc ++ [V.int z] = _
          rw [r, filt_snoc hz, if_pos c, List.map_append]
          rfl
        · refine ⟨acc, N5, ?_⟩
          show acc = _
          rw [r, filt_snoc hz, if_neg (fun q => by rw [c] at q; cases q)]
      · rw [List.length_map, List.take_length] at r
        subst r
        walk_at "k"
        refine g_srt N5 (.of (N5.cell 0 rfl)) fun fl H6 N6 => ?_
        have N6 : Now K none _ H H6 (⟨true, fl, .lst ((e.found n bs).map V.int)⟩ :: _) _ := N6
        have lf := foundM_len hok n bs
        walk_at "k"
        rename_i p3 H7 N7
        have ec : e.certain.map V.int ++ (e.found n bs).map V.int = (e.certain ++ e.found n bs).map V.int := by rw [List.map_append]
        rw [ec] at N7
        refine g_srt N7 (.of (N7.cell 0 rfl)) fun nc H8 N8 => ?_
        have N9 := N8.sel [7, 0, 2, 8] (l' := ⟨true, p, .ins C dx (fsM e st cl)⟩ :: ⟨true, nc, .lst ((srt (e.certain ++ e.found n bs)).map V.int)⟩ :: ⟨true, fl, .lst ((e.found n bs).map V.int)⟩ :: ⟨true, cl, .lst (e.certain.map V.int)⟩ :: []) rfl (by decide)
        have hfl := (N6.ow ⟨true, fl, _⟩ List.mem_cons_self rfl)
        clear N8
        walk_at "k"
        rename_i H10 N10 H11 N11
        have nd := N11.nd
        have lM : fl ∉ (mouthC C p dx cl st e).map Cel.a := by
          intro m
          have m : fl = p ∨ fl = cl := by simpa using m
          have nd : [p, nc, fl, cl].Nodup := nd
          simp only [List.nodup_cons, List.mem_cons, not_or] at nd
          rcases m with z | z
          · exact nd.1.2.1 z.symm
          · exact nd.2.2.1.1 z
        refine k fl nc _ (hfl.resolve_left lM) ?_ (Now.done (N11.sel [0, 1] rfl (by decide)) (by simp)) (N11.cell 2 rfl)
        intro z
        have nd : [p, nc, fl, cl].Nodup := nd
        simp only [List.nodup_cons, List.mem_cons, not_or] at nd
        exact nd.2.1.1 z.symm
end
section
variable {K : PySem.W.Frag} {D : Option Addr} {M : List Addr} {H0 H : Hp} {r : List Cel} {ts : List (Addr × List V)} {Q : VK} {E : XK} {CM CB CF mp mdx mcl st : Addr} {s : MS}
theorem g_mSendE (N : Now K D M H0 H (mouthC CM mp mdx mcl st s ++ r) ts) (ok : OkS s.m s.w s.l s.a)
    (k : s.full = false → ∀ t H', Now K D M H0 H' (mouthC CM mp mdx mcl st s.send ++ r) ((t, [.int s.sent, .int (s.sent % s.m)]) :: ts) → Q (.ref t) H') (k2 : s.full = true → E (.ref CF) none H) : spMSendE K CM CF [.ref mp] H Q E :=
  ⟨mp, mdx, mcl, st, s, rfl, N.front, ok, fun hf t H' B h => k hf t H' ((Now.call N (by simp) B).moreT h), k2⟩
theorem g_mHearE {q b : Addr} {n : Int} {bs : List Int} (N : Now K D M H0 H (mouthC CM mp mdx mcl st s ++ r) ts) (ht : H st = some (.tup (StV s.m s.w s.l s.a))) (hq : H q = some (.tup [.int n, .ref b])) (hb : H b = some (.tup (bs.map V.int))) (ok : MOk s) (hn : 0 ≤ n ∧ n < s.m) (hl : (bs.length : Int) = s.w)
    (h01 : ∀ x ∈ bs, x = 0 ∨ x = 1) (k : (∀ x ∈ s.some n bs, 0 ≤ x) → ∀ l mcl' H', Now K D M H0 H' (⟨true, l, .lst ((s.found n bs).map V.int)⟩ :: (mouthC CM mp mdx mcl' st (s.hear n bs) ++ r)) ts → Q (.ref l) H')
    (k2 : (∃ x ∈ s.some n bs, x < 0) → ∀ H', Now K D M H0 H' (mouthC CM mp mdx mcl st s ++ r) ts → E (.ref CB) none H') : spMHearE K CM CB [.ref mp, .ref q] H Q E := by
  refine ⟨mp, mdx, mcl, st, q, b, s, n, bs, rfl, N.front, ht, hq, hb, ok, hn, hl, h01, fun h0 l mcl' H' hN hne B hv => k h0 l mcl' H' ?_, fun h0 H' B => k2 h0 H' (Now.call N (by simp) B)⟩
  refine Now.grow N (Now.call N (by simp) B) (q := l) (fun z hz => ?_) hN hv trivial
  by_cases c : z = mcl'
  · exact .inr (fun e => hne (e.symm.trans c))
  · left
    rw [List.map_append] at hz ⊢
    rcases List.mem_append.mp hz with y | y
    · have y : z = mp ∨ z = mcl' := by simpa using y
      rcases y with y | y
      · exact List.mem_append_left _ (by rw [y]; simp)
      · exact absurd y c
    · exact List.mem_append_right _ y
end
/-! ### the own mouth and the Mouth agree -/
structure MRel (o : OM) (s : MS) : Prop where
  sent : o.sent = s.sent
  sure : o.sure = s.certain
  top : s.top ∈ -1 :: s.certain ∧ ∀ x ∈ -1 :: s.certain, x ≤ s.top
section
variable {m w l a : Int} {o : OM} {s : MS}
theorem MRel.start : MRel ⟨0, []⟩ ⟨m, w, l, a, 0, -1, []⟩ := ⟨rfl, rfl, by simp, by simp⟩
theorem MRel.full (R : MRel o s) (sa : s.a = a) : o.full a = s.full := by
  unfold OM.full MS.full
  rw [R.sent, R.sure, sa, Bool.eq_iff_iff, List.all_eq_true, decide_eq_true_eq]
  constructor
  · intro z
    have := of_decide_eq_true (z _ R.top.1)
    omega
  · intro z x hx
    have := R.top.2 x hx
    exact decide_eq_true (by omega)
theorem MRel.number (R : MRel o s) (sm : s.m = m) (k : Int) : o.number m k = s.number k := by
  unfold OM.number MS.number
  rw [R.sent, sm]
theorem MRel.far (R : MRel o s) (sm : s.m = m) (k : Int) (bs : List Int) (n : Nat) : o.far m k bs n = s.far k bs n := by
  unfold OM.far MS.far
  rw [R.number sm]
  refine List.map_congr_left fun i _ => ?_
  omega
theorem MRel.some (R : MRel o s) (sm : s.m = m) (sw : s.w = w) (k : Int) (bs : List Int) : (o.some m w k bs).Perm (s.some k bs) := by
  unfold OM.some MS.some
  rw [R.far sm, R.number sm, sw]
  exact (List.perm_append_singleton _ _).symm
theorem MRel.low (R : MRel o s) (sm : s.m = m) (sw : s.w = w) (k : Int) (bs : List Int) : ((o.some m w k bs).any fun x => decide (x < 0)) = (s.some k bs).any fun x => decide (x < 0) := by
  rw [Bool.eq_iff_iff, List.any_eq_true, List.any_eq_true]
  have p := R.some sm sw k bs
  exact ⟨fun ⟨x, h1, h2⟩ => ⟨x, p.mem_iff.mp h1, h2⟩, fun ⟨x, h1, h2⟩ => ⟨x, p.mem_iff.mpr h1, h2⟩⟩
theorem MRel.found (R : MRel o s) (sm : s.m = m) (sw : s.w = w) (k : Int) (bs : List Int) : o.found m w k bs = s.found k bs := by
  unfold OM.found MS.found
  rw [R.sure]
  refine srt_eq ?_ (srt_sorted _)
  exact (srt_perm _).trans ((R.some sm sw k bs).filter _)
theorem MRel.send (R : MRel o s) : MRel ⟨o.sent + 1, o.sure⟩ s.send := ⟨by show o.sent + 1 = s.sent + 1; rw [R.sent], R.sure, R.top⟩
theorem MRel.hear (R : MRel o s) (sm : s.m = m) (sw : s.w = w) (k : Int) (bs : List Int) : MRel (o.hear m w k bs) (s.hear k bs) := by
  refine ⟨R.sent, ?_, ?_, ?_⟩
  · show srt (o.sure ++ o.found m w k bs) = srt (s.certain ++ s.found k bs)
    rw [R.sure, R.found sm sw]
  · show max s.top (s.number k) ∈ -1 :: srt (s.certain ++ s.found k bs)
    by_cases c : s.number k ≤ s.top
    · rw [Int.max_eq_left c]
      rcases List.mem_cons.mp R.top.1 with z | z
      · rw [z]
        exact List.mem_cons_self
      · exact List.mem_cons_of_mem _ (srt_mem.mpr (List.mem_append_left _ z))
    · rw [Int.max_eq_right (by omega)]
      refine List.mem_cons_of_mem _ (srt_mem.mpr ?_)
      by_cases d : s.number k ∈ s.certain
      · exact List.mem_append_left _ d
      · refine List.mem_append_right _ ?_
        unfold MS.found
        refine srt_mem.mpr (List.mem_filter.mpr ⟨?_, decide_eq_true d⟩)
        unfold MS.some
        exact List.mem_append_right _ (List.mem_singleton.mpr rfl)
  · intro x hx
    show x ≤ max s.top (s.number k)
    rcases List.mem_cons.mp hx with z | z
    · have := R.top.2 (-1) List.mem_cons_self
      omega
    · rcases List.mem_append.mp (srt_mem.mp z) with y | y
      · have := R.top.2 x (List.mem_cons_of_mem _ y)
        omega
      · unfold MS.found at y
        have y := (List.mem_filter.mp (srt_mem.mp y)).1
        unfold MS.some at y
        rcases List.mem_append.mp y with q | q
        · unfold MS.far at q
          obtain ⟨i, _, rfl⟩ := List.mem_map.mp q
          omega
        · have := List.mem_singleton.mp q
          omega
end
/-! ### whether a mouth tells all as it is to be -/
section
variable {P : Program} {w : World} {K : PySem.W.Frag} {mg : Str → Option Value} {base : Heap} {CM : Addr}
theorem dp_is {H : Hp} {t f : Addr} {ns : List Int} {z : Int} {b : Bool} (h1 : H t = some (.lst [.ref f, .int z, .bl b])) (h2 : SqL K H f (ns.map V.int)) : Dp K H (.ref t) (.list [.list (ns.map PyData.int), .int z, .bool b]) :=
  .lst (.of h1) (.cons (.lst h2 (dpa_ints ns)) (.cons (.int z) (.cons (.bl b) .nil)))
theorem dOk_is {ns : List Int} {z : Int} {b : Bool} (h : ns.length ≤ 100000) : dOk 3 (.list [.list (ns.map PyData.int), .int z, .bool b]) := by
  refine ⟨by simp, fun d hd => ?_⟩
  rcases List.mem_cons.mp hd with e | hd
  · subst e
    exact (dOk_ints (m := 1) h).1
  · rcases List.mem_cons.mp hd with e | hd
    · subst e
      trivial
    · cases List.mem_singleton.mp hd
      trivial
theorem sc_l_is : FnScope ["_law_mouth_here", "_law_setting_here", "_law_own", "_law_again", "_law_found", "_law_due"] ["_law_mouth_here", "_law_setting_here", "_law_own"] (defScope s_l_is) := ⟨rfl, rfl, rfl, by decide +kernel, rfl, by decide +kernel, by decide +kernel⟩
theorem bd_l_is : Bd "_law_is" "_law_is" s_l_is ["_law_mouth_here", "_law_setting_here", "_law_own"] := fun _ _ _ _ _ _ us hl => match us, hl with | [_, _, _], _ => rfl
def spIs (K : PySem.W.Frag) (CM : Addr) : Sp := fun vs H Q _ => ∃ (mp mdx mcl st o sl : Addr) (s : MS) (om : OM), vs = [.ref mp, .ref st, .ref o] ∧ CelOk H (mouthC CM mp mdx mcl st s ++ omC o sl om) ∧ H st = some (.tup (StV s.m s.w s.l s.a)) ∧ MRel om s ∧ s.certain.length ≤ 50000 ∧ ∀ H', Aftr (mouthC CM mp mdx mcl st s ++ omC o sl om) (mouthC CM mp mdx mcl st s ++ omC o sl om) H H' → Q (.bl true) H'
theorem ok_is (F : Def K mg "_law_is" s_l_is) (B : Bt mg) (cl_Mouth : Cls K CM) (c_Mouth_sure : CalM P w K mg base CX0 CM 1 "sure" ["self"] (spMSure K CM)) (c_Mouth_last : CalM P w K mg base CX0 CM 1 "last" ["self"] (spMLast K CM)) (c_Mouth_is_full : CalM P w K mg base CX0 CM 1 "is_full" ["self"] (spMFull K CM))
    (c_l_is_full : Cal P w K mg base CX0 1 "_law_is_full" ["_law_setting_here", "_law_mouth_here"] spOFull) (c_l_like : Cal P w K mg base CX0 5 "_law_like" ["_law_found", "_law_due"] (spLike K 4)) : Cal P w K mg base CX0 6 "_law_is" ["_law_mouth_here", "_law_setting_here", "_law_own"] (spIs K CM) := by
  refine F.ok sc_l_is bd_l_is (fun vs H Q E h => ?_) (fun f cdv A outer s H vs Q E hr h => ?_)
  · obtain ⟨mp, mdx, mcl, st, o, sl, s, om, rfl, _⟩ := h
    rfl
  · obtain ⟨mp, mdx, mcl, st, o, sl, e, om, rfl, hc, hst, R, hlen, k⟩ := h
    refine ⟨_, PSs.nox (pss_cons (ps_for PassesOwn.never rfl (pi_range1 (by rfl) B.m_range (pa_cons pe_int pa_nil)) (pg_name (i := 3) sc_l_is.nd rfl (by first | exact Or.inl rfl | exact Or.inr rfl))
      (pss_cons (ps_set (i := 4) sc_l_is.nd rfl (by first | exact Or.inl rfl | exact Or.inr rfl) (pe_calM0 (pv 0) cl_Mouth c_Mouth_sure (hr.mono (by decide)) pass0))
      (pss_cons (ps_set (i := 5) sc_l_is.nd rfl (by first | exact Or.inl rfl | exact Or.inr rfl) (pe_lst (pa_cons (pe_dget (hu_of hr) (pv 2) pe_str (fun _ _ => rfl)) (pa_cons (pe_op op_sub (pe_dget (hu_of hr) (pv 2) pe_str (fun _ _ => rfl)) pe_int) (pa_cons (pe_cal c_l_is_full (hr.mono (by decide)) pass0 (pa_cons (pv 1) (pa_cons (pv 2) pa_nil))) pa_nil)))))
      (pss_cons (ps_if (pt_not (pt_val (pe_cal c_l_like (hr.mono (by decide)) pass0 (pa_cons (pe_lst (pa_cons (pv 4) (pa_cons (pe_calM0 (pv 0) cl_Mouth c_Mouth_last (hr.mono (by decide)) pass0) (pa_cons (pe_calM0 (pv 0) cl_Mouth c_Mouth_is_full (hr.mono (by decide)) pass0) pa_nil)))) (pa_cons (pv 5) pa_nil))))) (pss_one (ps_ret pe_bl)) pss_nil)
      (pss_one (ps_expr (pe_bmK K rfl PySem.F.plainAttrs_list PySem.F.slot_list_append PySem.F.type_list_append mt_append (pv 4) (pa_cons (pe_un un_neg pe_int) pa_nil))))))))
      (pss_one (ps_ret pe_bl))), ?_⟩
    have N : Now K none _ H H (mouthC CM mp mdx mcl st e ++ omC o sl om) [(st, StV e.m e.w e.l e.a)] := .begin hc (by simp [hst])
    walk_at "gon"
    refine c_forR (by decide) (fun i σ H' => ∃ (x3 x4 x5 : Option V), σ = [some (.ref mp), some (.ref st), some (.ref o), x3, x4, x5] ∧ Now K none ((mouthC CM mp mdx mcl st e ++ omC o sl om).map Cel.a) H H' (mouthC CM mp mdx mcl st e ++ omC o sl om) [(st, StV e.m e.w e.l e.a)]) ⟨_, _, _, rfl, N⟩ ?_ ?_
    · clear N
      rintro i σ H1 hi ⟨_, _, _, rfl, N⟩
      walk_at "kn"
      refine g_mSure N fun l H2 N2 => ?_
      clear N
      walk_at "kn"
      refine ⟨st, o, sl, e.m, e.w, e.l, e.a, om, rfl, N2.tup 0 rfl, (N2.sel [3, 4] (l' := omC o sl om) rfl (by decide)).ok, by rw [R.sure]; exact hlen, fun H3 A3 => ?_⟩
      have N3 := N2.pure A3
      clear N2
      walk_at "kn"
      rename_i q H4 N4
      refine ⟨mp, mdx, mcl, st, e, rfl, (N4.sel [2, 3] (l' := mouthC CM mp mdx mcl st e) rfl (by decide)).ok, ?_⟩
      walk_at "kn"
      refine ⟨mp, mdx, mcl, st, e, rfl, (N4.sel [2, 3] (l' := mouthC CM mp mdx mcl st e) rfl (by decide)).ok, ?_⟩
      rw [R.sent, R.full rfl] at N4
      walk_at "kn"
      rename_i y H5 N5
      refine g_like (dp_is (N5.cell 0 rfl) (.of (N5.cell 2 rfl))) (dp_is (N5.cell 1 rfl) (.of (by rw [N5.cell 6 rfl, R.sure]))) (dOk_is (by omega)) fun H6 A6 => ?_
      have N6 := N5.pure A6
      clear N5 N4
      walk_at "kn"
      refine g_app0 (N6.sel [2, 3, 4, 5, 6] (l' := ⟨true, l, .lst (e.certain.map V.int)⟩ :: (mouthC CM mp mdx mcl st e ++ omC o sl om)) rfl (by decide)) (by rw [List.length_map]; omega) fun H7 N7 => ?_
      walk_at "kn"
      exact ⟨_, _, _, rfl, N7.sel [1, 2, 3, 4] (l' := mouthC CM mp mdx mcl st e ++ omC o sl om) rfl (by decide)⟩
    · rintro σ H1 ⟨_, _, _, rfl, N⟩
      walk_at "kn"
      exact k _ (Now.done N (by simp))
end
/-! ### what is told, or the word of a refusal -/
def sufOf : List Stmt → List Stmt
  | [.Try _ [.ExceptHandler _ _ b _] _ _ _] => b
  | _ => []
theorem g_isE {K : PySem.W.Frag} {c1 c2 c3 c4 c5 c6 cb D a : Addr} {n : Nat} {H : Hp} {c : V} {cv : Value} {b : Bool} {Q : VK} (ko : Kof K c1 c2 c3 c4 c5 c6 cb D n) (hc : ∀ u, RelV c u → u = cv) (hk : PySem.W.kitOne K (.ref D) cv = some b) (q : Q (.bl b) H) : rIsEg K (.ref D) none a [.ref a, c] H Q :=
  ⟨D, c, cv, b, rfl, rfl, ko.c, rfl, hc, hk, q⟩
section
variable {c1 c2 c3 c4 c5 c6 cb : Addr}
theorem sc_l_told : FnScope ["_law_work", "e", "_law_kinds", "_law_words", "_law_word"] ["_law_work"] (defScope s_l_told) := ⟨rfl, rfl, rfl, by decide +kernel, rfl, by decide +kernel, by decide +kernel⟩
theorem bd_l_told : Bd "_law_told" "_law_told" s_l_told ["_law_work"] := fun _ _ _ _ _ _ us hl => match us, hl with | [_], _ => rfl
abbrev N_told : List Str := ["_law_work", "e", "_law_kinds", "_law_words", "_law_word"]
theorem told_suite {prog : Program} {w : World} {K : PySem.W.Frag} {mg : Str → Option Value} {base : Heap} {A : Around} {stack : List Env} {s : Shared} {H : Hp} {g : Addr} {cdg : Value} (B : Bt mg) (Kn : Kin mg c1 c2 c3 c4 c5 c6 cb) :
    ∃ ts : Addr → Value → Option Addr → TS, (∀ (a : Addr) (oe : Obj) (cls : Value) (d : Option Addr) (pn : List (Addr × Obj)), Zc cls d oe → (∃ vs, oe.data = .fields vs) →
      PSs (Cx.suite (cxOf C8.CX0 prog w K mg base N_told "_law_told" (defScope s_l_told) g cdg A stack s H C8.E0).nox a ((a, oe) :: pn)) (sufOf (defBody s_l_told)) (ts a cls d)) ∧
      ∀ (D : Addr) (n : Nat) (a : Addr) (σ : L2.St) (H' : Hp) (E : Ends), Kof K c1 c2 c3 c4 c5 c6 cb D n → (n = 2 ∨ n = 3 ∨ n = 4) → σ.length = 5 → (∀ p H'', Aft [] H' H'' → H'' p = some (.tup [.str (kWord n)]) → E.rt (.ref p) H'') → ts a (.ref D) none E (σ.set 1 (some (.ref a))) H' := by
  refine ⟨_, fun a oe cls d pn hz hf => (pss_cons (ps_set (i := 2) sc_l_told.nd rfl (by first | exact Or.inl rfl | exact Or.inr rfl) (pe_lst (pa_cons (pe_callB (call_isEgK K rfl hz hf) (by rfl) B.m_isinstance (by decide +kernel) (pa_cons (pv 1) (pa_cons (pe_gref (by rfl) Kn.g1) pa_nil))) (pa_cons (pe_callB (call_isEgK K rfl hz hf) (by rfl) B.m_isinstance (by decide +kernel) (pa_cons (pv 1) (pa_cons (pe_gref (by rfl) Kn.g2) pa_nil))) (pa_cons (pe_callB (call_isEgK K rfl hz hf) (by rfl) B.m_isinstance (by decide +kernel) (pa_cons (pv 1) (pa_cons (pe_gref (by rfl) Kn.g3) pa_nil))) (pa_cons (pe_callB (call_isEgK K rfl hz hf) (by rfl) B.m_isinstance (by decide +kernel) (pa_cons (pv 1) (pa_cons (pe_gref (by rfl) Kn.g4) pa_nil))) pa_nil))))))
      (pss_cons (ps_set (i := 2) sc_l_told.nd rfl (by first | exact Or.inl rfl | exact Or.inr rfl) (pe_op op_cat (pv 2) (pe_lst (pa_cons (pe_callB (call_isEgK K rfl hz hf) (by rfl) B.m_isinstance (by decide +kernel) (pa_cons (pv 1) (pa_cons (pe_gref (by rfl) Kn.g5) pa_nil))) (pa_cons (pe_callB (call_isEgK K rfl hz hf) (by rfl) B.m_isinstance (by decide +kernel) (pa_cons (pv 1) (pa_cons (pe_gref (by rfl) Kn.g6) pa_nil))) pa_nil)))))
      (pss_cons (ps_set (i := 3) sc_l_told.nd rfl (by first | exact Or.inl rfl | exact Or.inr rfl) (pe_lst (pa_cons pe_str (pa_cons pe_str (pa_cons pe_str (pa_cons pe_str (pa_cons pe_str (pa_cons pe_str pa_nil))))))))
      (pss_cons (ps_if (PW.pt (pw_or (pt_cmpR op_ne (pe_bmK K rfl PySem.F.plainAttrs_list PySem.F.slot_list_count PySem.F.type_list_count (mt_countFK K rfl) (pv 2) (pa_cons pe_bl pa_nil)) pe_int (nomark _)) (pw_or1 (pt_not (pt_val (pe_callB (call_isEgK K rfl hz hf) (by rfl) B.m_isinstance (by decide +kernel) (pa_cons (pv 1) (pa_cons (pe_bltn (v := .ty "ValueError") (by rfl) Kn.ve (by decide +kernel) rfl) pa_nil)))))))) (pss_one (ps_ret (pe_tup (pa_cons pe_str pa_nil)))) pss_nil)
      (pss_cons (ps_set (i := 4) sc_l_told.nd rfl (by first | exact Or.inl rfl | exact Or.inr rfl) (pe_ix (ix_listK K rfl) (pv 3) (pe_bmK K rfl PySem.F.plainAttrs_list PySem.F.slot_list_index PySem.F.type_list_index (mt_indexK K rfl) (pv 2) (pa_cons pe_bl pa_nil)) (fun _ _ => rfl)))
      (pss_cons (ps_if (pt_cmpR op_eq (pv 4) pe_str (nomark _)) (pss_one ps_never) pss_nil)
      (pss_cons (ps_if (pt_cmpR op_eq (pv 4) pe_str (nomark _)) (pss_one ps_never) pss_nil)
      (pss_one (ps_ret (pe_ifExp (pt_cmpR op_eq (pv 4) pe_str (nomark _)) (pe_tup (pa_cons (pv 4) (pa_cons pe_nev pa_nil))) (pe_tup (pa_cons (pv 4) pa_nil)))))))))))), ?hr⟩
  intro D n a σ H' E ko hn hlen k
  match σ, hlen with
  | [s0, s1, s2, s3, s4], _ =>
    have N : Now K none [] H' H' [] [] := .start0 (by simp)
    rcases hn with rfl | rfl | rfl
    · walk_at "kn"
      refine g_isE ko (b := false) (fun u h => h) ko.k1 ?_
      walk_at "kn"
      refine g_isE ko (b := true) (fun u h => h) ko.k2 ?_
      walk_at "kn"
      refine g_isE ko (b := false) (fun u h => h) ko.k3 ?_
      walk_at "kn"
      refine g_isE ko (b := false) (fun u h => h) ko.k4 ?_
      walk_at "kn"
      refine g_isE ko (b := false) (fun u h => h) ko.k5 ?_
      walk_at "kn"
      refine g_isE ko (b := false) (fun u h => h) ko.k6 ?_
      walk_at "kn"
      rename_i p1 H1 N1 p2 H2 N2 p3 H3 N3 p4 H4 N4
      refine g_cntF (n := 1) (ys := [.bl false, .bl true, .bl false, .bl false, .bl false, .bl false]) (.of (N4.cell 1 rfl)) rfl rfl rfl ?_
      walk_at "kn"
      refine c_or (fun c => absurd (of_decide_eq_true c) (by simp)) (fun _ => ?_)
      walk_at "kn"
      refine g_isE ko (b := true) (fun u h => h) ko.kv ?_
      walk_at "kn"
      refine g_idx (ys := [.bl false, .bl true, .bl false, .bl false, .bl false, .bl false]) (z := .bl true) 1 (.of (N4.cell 1 rfl)) rfl rfl rfl rfl ?_ ?_
      · intro m z' hm hz
        have : m = 0 := by omega
        subst this <;> (cases hz; rfl)
      · walk_at "kn"
        refine k_eqStr (by decide) ?_
        walk_at "kn"
        refine k_eqStr (by decide) ?_
        walk_at "kn"
        refine k_eqStr (by decide) ?_
        walk_at "kn"
        rename_i p5 H5 N5
        exact k p5 H5 N5.af (N5.tup 0 rfl)
    · walk_at "kn"
      refine g_isE ko (b := false) (fun u h => h) ko.k1 ?_
      walk_at "kn"
      refine g_isE ko (b := false) (fun u h => h) ko.k2 ?_
      walk_at "kn"
      refine g_isE ko (b := true) (fun u h => h) ko.k3 ?_
      walk_at "kn"
      refine g_isE ko (b := false) (fun u h => h) ko.k4 ?_
      walk_at "kn"
      refine g_isE ko (b := false) (fun u h => h) ko.k5 ?_
      walk_at "kn"
      refine g_isE ko (b := false) (fun u h => h) ko.k6 ?_
      walk_at "kn"
      rename_i p1 H1 N1 p2 H2 N2 p3 H3 N3 p4 H4 N4
      refine g_cntF (n := 1) (ys := [.bl false, .bl false, .bl true, .bl false, .bl false, .bl false]) (.of (N4.cell 1 rfl)) rfl rfl rfl ?_
      walk_at "kn"
      refine c_or (fun c => absurd (of_decide_eq_true c) (by simp)) (fun _ => ?_)
      walk_at "kn"
      refine g_isE ko (b := true) (fun u h => h) ko.kv ?_
      walk_at "kn"
      refine g_idx (ys := [.bl false, .bl false, .bl true, .bl false, .bl false, .bl false]) (z := .bl true) 2 (.of (N4.cell 1 rfl)) rfl rfl rfl rfl ?_ ?_
      · intro m z' hm hz
        have : m = 0 ∨ m = 1 := by omega
        rcases this with rfl | rfl <;> (cases hz; rfl)
      · walk_at "kn"
        refine k_eqStr (by decide) ?_
        walk_at "kn"
        refine k_eqStr (by decide) ?_
        walk_at "kn"
        refine k_eqStr (by decide) ?_
        walk_at "kn"
        rename_i p5 H5 N5
        exact k p5 H5 N5.af (N5.tup 0 rfl)
    · walk_at "kn"
      refine g_isE ko (b := false) (fun u h => h) ko.k1 ?_
      walk_at "kn"
      refine g_isE ko (b := false) (fun u h => h) ko.k2 ?_
      walk_at "kn"
      refine g_isE ko (b := false) (fun u h => h) ko.k3 ?_
      walk_at "kn"
      refine g_isE ko (b := true) (fun u h => h) ko.k4 ?_
      walk_at "kn"
      refine g_isE ko (b := false) (fun u h => h) ko.k5 ?_
      walk_at "kn"
      refine g_isE ko (b := false) (fun u h => h) ko.k6 ?_
      walk_at "kn"
      rename_i p1 H1 N1 p2 H2 N2 p3 H3 N3 p4 H4 N4
      refine g_cntF (n := 1) (ys := [.bl false, .bl false, .bl false, .bl true, .bl false, .bl false]) (.of (N4.cell 1 rfl)) rfl rfl rfl ?_
      walk_at "kn"
      refine c_or (fun c => absurd (of_decide_eq_true c) (by simp)) (fun _ => ?_)
      walk_at "kn"
      refine g_isE ko (b := true) (fun u h => h) ko.kv ?_
      walk_at "kn"
      refine g_idx (ys := [.bl false, .bl false, .bl false, .bl true, .bl false, .bl false]) (z := .bl true) 3 (.of (N4.cell 1 rfl)) rfl rfl rfl rfl ?_ ?_
      · intro m z' hm hz
        have : m = 0 ∨ m = 1 ∨ m = 2 := by omega
        rcases this with rfl | rfl | rfl <;> (cases hz; rfl)
      · walk_at "kn"
        refine k_eqStr (by decide) ?_
        walk_at "kn"
        refine k_eqStr (by decide) ?_
        walk_at "kn"
        refine k_eqStr (by decide) ?_
        walk_at "kn"
        rename_i p5 H5 N5
        exact k p5 H5 N5.af (N5.tup 0 rfl)
end
section
variable {c1 c2 c3 c4 c5 c6 cb : Addr}
theorem told_gives {X : Cx} (B : Bt X.mg) (Kn : Kin X.mg c1 c2 c3 c4 c5 c6 cb) {g : Addr} {cdg : Value} {q : Str} : LamX.GivesTo X N_told "_law_told" (defScope s_l_told) g cdg (defBody s_l_told) "_law_work" q (TTold X.K c1 c2 c3 c4 c5 c6 cb) := by
  obtain ⟨prog, w, K, mg, base, A, N, s_0, H_0, env, outer, stack, ex, fn, calm, pn0, xe0⟩ := X
  replace Kn : Kin mg c1 c2 c3 c4 c5 c6 cb := Kn
  replace B : Bt mg := B
  intro f c' s H Q tl act hc h
  obtain ⟨ts, hs1, hs2⟩ := told_suite (prog := prog) (w := w) (K := K) (base := base) (A := A) (stack := stack) (s := s) (H := H) (g := g) (cdg := cdg) B Kn
  refine ⟨_, pss_one (ps_try_as (X := (cxOf C8.CX0 prog w K mg base N_told "_law_told" (defScope s_l_told) g cdg A stack s H C8.E0).nox) (x := "BitsError") (n := "e") (c := .ref cb) (i := 1) (ts := ts)
      (tb := fun W D σ H => ∃ Ech : XK, (∀ cls d σ' H', Ech cls d H' → σ'.length = 5 → W cls d σ' H') ∧ σ[0]? = some (some (.ref f)) ∧ H c' = some (LamX.CodeO c' q) ∧ tl Ech H D.rt) (Wout := fun _ _ _ _ => False)
      rfl rfl sc_l_told.nd rfl rfl ⟨rfl, by decide, .inl Kn.gb⟩ LamX.takes0 (fun W pn xe tk _ => ?_) hs1), ?_⟩
  · refine ⟨fun pins s' σ H' D I h' => ?_⟩
    obtain ⟨Ech, hW, h1, h2, h3⟩ := h'
    exact (pss_one (ps_ret (act _ pn xe Ech _ _ (takes_len tk) hW))).run pins s' σ H' D I ⟨h1, h2, h3⟩
  · refine ⟨_, fun cls d σ' H' h hl => ?_, rfl, hc, h⟩
    obtain ⟨D, n, rfl, rfl, ko, hn, k⟩ := h
    exact ⟨true, ko.m, fun _ a _ => hs2 D n a σ' H' _ ko hn hl k, fun z => by cases z⟩
end
/-! ### two mouths and their books -/
structure Side where
  (tp st mp mdx mcl o sl : Addr)
  (m w l a : Int)
  s : MS
  b : OM
abbrev sdC (CM : Addr) (S : Side) : List Cel := mouthC CM S.mp S.mdx S.mcl S.st S.s ++ omC S.o S.sl S.b
abbrev sdT (S : Side) : List (Addr × List V) := [(S.tp, [.ref S.mp, .ref S.st, .ref S.o]), (S.st, StV S.m S.w S.l S.a)]
def sdCs (CM : Addr) : List Side → List Cel
  | [] => []
  | S :: r => sdC CM S ++ sdCs CM r
def sdTs : List Side → List (Addr × List V)
  | [] => []
  | S :: r => sdT S ++ sdTs r
theorem len01 {Ss : List Side} {i : Nat} (h : Ss.length = i) (hi : i < 2) : Ss = [] ∨ ∃ S1, Ss = [S1] := by
  cases Ss with
  | nil => exact .inl rfl
  | cons S r =>
    cases r with
    | nil => exact .inr ⟨S, rfl⟩
    | cons S' r =>
      simp only [List.length_cons] at h
      omega
theorem len2 {Ss : List Side} (h : Ss.length = 2) : ∃ S1 S2, Ss = [S1, S2] := by
  cases Ss with
  | nil => cases h
  | cons S r =>
    cases r with
    | nil => cases h
    | cons S' r =>
      cases r with
      | nil => exact ⟨S, S', rfl⟩
      | cons S'' r =>
        simp only [List.length_cons] at h
        omega
theorem at2 {a b x : V} {j : Nat} (h : [a, b][j]? = some x) : (j = 0 ∧ x = a) ∨ (j = 1 ∧ x = b) := by
  match j, h with
  | 0, h => exact .inl ⟨rfl, (Option.some.inj h).symm⟩
  | 1, h => exact .inr ⟨rfl, (Option.some.inj h).symm⟩
structure SideOk (n : Nat) (S : Side) : Prop where
  ok : OkS S.m S.w S.l S.a
  ee : S.s.m = S.m ∧ S.s.w = S.w ∧ S.s.l = S.l ∧ S.s.a = S.a
  r : MRel S.b S.s
  len : S.s.certain.length ≤ 17 * n
theorem SideOk.up {n n' : Nat} {S : Side} (h : SideOk n S) (hn : n ≤ n') : SideOk n' S := ⟨h.ok, h.ee, h.r, Nat.le_trans h.len (by omega)⟩
theorem SideOk.mok {n : Nat} {S : Side} (h : SideOk n S) (hn : n ≤ 1000) : MOk S.s := by
  obtain ⟨e1, e2, e3, e4⟩ := h.ee
  exact ⟨by rw [e1, e2, e3, e4]; exact h.ok, by have := h.len; omega⟩
theorem SideOk.send {n : Nat} {S : Side} (h : SideOk n S) : SideOk (n + 1) { S with s := S.s.send, b := ⟨S.b.sent + 1, S.b.sure⟩ } := ⟨h.ok, h.ee, h.r.send, by show S.s.certain.length ≤ _; have := h.len; omega⟩
theorem SideOk.hear {n : Nat} {S : Side} (h : SideOk n S) (hn : n ≤ 1000) (k : Int) (bs : List Int) (mcl sl : Addr) : SideOk (n + 1) { S with mcl := mcl, sl := sl, s := S.s.hear k bs, b := S.b.hear S.m S.w k bs } := by
  refine ⟨h.ok, h.ee, h.r.hear h.ee.1 h.ee.2.1 k bs, ?_⟩
  show (srt (S.s.certain ++ S.s.found k bs)).length ≤ _
  rw [srt_len, List.length_append]
  have := h.len
  have := foundM_len (h.mok hn) k bs
  omega
theorem k_cut5 {σ : L2.St} {H : Hp} {nx bk ct : L2.St → Hp → Prop} {rt : VK} {R : L2.St → Hp → Prop} {t1 t2 t3 t4 t5 : TS} (q : ∀ σ H, R σ H → t5 ⟨nx, rt, bk, ct⟩ σ H) (h : ∀ nx' : L2.St → Hp → Prop, (∀ σ H, R σ H → nx' σ H) → tSeq t1 (tSeq t2 (tSeq t3 t4)) ⟨nx', rt, bk, ct⟩ σ H) : tSeq t1 (tSeq t2 (tSeq t3 (tSeq t4 t5))) ⟨nx, rt, bk, ct⟩ σ H := h _ q
theorem dp_one {K : PySem.W.Frag} {H : Hp} {t : Addr} {z : Str} (h1 : H t = some (.tup [.str z])) : Dp K H (.ref t) (.tuple [.str z]) := .tup (.of h1) (.cons (.str z) .nil)
theorem dOk_one {z : Str} : dOk 3 (.tuple [.str z]) := by
  refine ⟨by simp, fun d hd => ?_⟩
  cases List.mem_singleton.mp hd
  trivial
theorem k_told {K : PySem.W.Frag} {c1 c2 c3 c4 c5 c6 cb : Addr} {t : XK → TE} {σ : L2.St} {H : Hp} {Q : VK}
    (h : t (fun cls d H' => ∃ (D : Addr) (n : Nat), cls = .ref D ∧ d = none ∧ Kof K c1 c2 c3 c4 c5 c6 cb D n ∧ (n = 2 ∨ n = 3 ∨ n = 4) ∧ ∀ p H'', Aft [] H' H'' → H'' p = some (.tup [.str (kWord n)]) → Q (.ref p) H'') σ H Q) : TTold K c1 c2 c3 c4 c5 c6 cb (fun E H' Q' => t E σ H' Q') H Q := h
theorem dp_pair {K : PySem.W.Frag} {H : Hp} {t : Addr} {n k : Int} (h1 : H t = some (.tup [.int n, .int k])) : Dp K H (.ref t) (.tuple [.int n, .int k]) := .tup (.of h1) (.cons (.int n) (.cons (.int k) .nil))
theorem dOk_pair {n k : Int} : dOk 3 (.tuple [.int n, .int k]) := by
  refine ⟨by simp, fun d hd => ?_⟩
  rcases List.mem_cons.mp hd with e | hd
  · subst e
    trivial
  · cases List.mem_singleton.mp hd
    trivial
theorem g_clear {K : PySem.W.Frag} {D : Option Addr} {M : List Addr} {H0 H : Hp} {l : List Cel} {ts : List (Addr × List V)} {p : Addr} {xs : List V} {Q : VK} (N : Now K D M H0 H (⟨true, p, .lst xs⟩ :: l) ts) (q : ∀ H', Now K D M H0 H' (⟨true, p, .lst []⟩ :: l) ts → Q .non H') : rClear (.ref p) [] H Q :=
  ⟨p, xs, rfl, rfl, N.cell 0 rfl, q _ (N.put 0 rfl trivial)⟩
section
variable {K : PySem.W.Frag} {D : Option Addr} {M : List Addr} {H0 H : Hp} {r : List Cel} {ts : List (Addr × List V)} {Q : VK} {E : XK} {o sl st : Addr} {s : OM}
theorem g_oHear {q b : Addr} {m w l a n : Int} {bs : List Int} (N : Now K D M H0 H (omC o sl s ++ r) ts) (ht : H st = some (.tup (StV m w l a))) (hq : H q = some (.tup [.int n, .ref b])) (hb : H b = some (.tup (bs.map V.int))) (ok : OkS m w l a) (hlen : s.sure.length ≤ 50000) (hn : 0 ≤ n ∧ n < m) (hl : (bs.length : Int) = w)
    (k1 : (∃ x ∈ s.some m w n bs, x < 0) → ∀ H', Now K D M H0 H' (omC o sl s ++ r) ts → Q .non H')
    (k2 : (∀ x ∈ s.some m w n bs, 0 ≤ x) → ∀ l sl' H', Now K D M H0 H' (⟨true, l, .lst ((s.found m w n bs).map V.int)⟩ :: (omC o sl' (s.hear m w n bs) ++ r)) ts → Q (.ref l) H') : spOHear [.ref st, .ref o, .ref q] H Q E := by
  refine ⟨st, o, sl, q, b, m, w, l, a, s, n, bs, rfl, ht, N.front, hq, hb, ok, hlen, hn, hl, fun h H' A => k1 h H' (N.pure A), fun h lf sl' H' hN hne B hv => k2 h lf sl' H' ?_⟩
  refine Now.grow N (Now.call N (by simp) B) (q := lf) (fun z hz => ?_) hN hv trivial
  by_cases c : z = sl'
  · exact .inr (fun e => hne (e.symm.trans c))
  · left
    rw [List.map_append] at hz ⊢
    rcases List.mem_append.mp hz with y | y
    · have y : z = o ∨ z = sl' := by simpa using y
      rcases y with y | y
      · exact List.mem_append_left _ (by rw [y]; simp)
      · exact absurd y c
    · exact List.mem_append_right _ y
end
section
variable {P : Program} {w : World} {K : PySem.W.Frag} {mg : Str → Option Value} {base : Heap} {CM CB CF TP c1 c2 c3 c4 c5 c6 cb : Addr}
theorem sc_law : FnScope ["_law_script", "_law_d", "_law_sides", "_law_k", "_law_setting_here", "_law_turn", "_law_mouth_here", "_law_own", "_law_due", "_law_found", "_law_often", "_law_bits", "_law_far", "_law_telling", "_law_one", "_law_some", "_law_other"] ["_law_script"] (defScope s_law) := ⟨rfl, rfl, rfl, by decide +kernel, rfl, by decide +kernel, by decide +kernel⟩
theorem bd_law : Bd "law" "law" s_law ["_law_script"] := fun _ _ _ _ _ _ us hl => match us, hl with | [_], _ => rfl
def spLaw (K : PySem.W.Frag) (TP : Addr) : Sp := fun vs H Q _ => ∃ (a : Addr) (ns : List Int), vs = [.ref a] ∧ SqL K H a (ns.map V.int) ∧ ns.length ≤ 63 ∧ H TP = some (.tbl #[]) ∧ ∀ H', Q (.bl true) H'
theorem ok_law {f : Addr} {fd : FuncData} (F : FunD K "law" "law" (defArgs s_law) (defBody s_law) (defScope s_law) [] [] f fd) (B : Bt mg) (Kn : Kin mg c1 c2 c3 c4 c5 c6 cb) (ko : Kof K c1 c2 c3 c4 c5 c6 cb CB 3) (koF : Kof K c1 c2 c3 c4 c5 c6 cb CF 4) (HTB : ∀ c, fd.code = .ref c → LamX.TabB base mg c TP) (FT : Def K mg "_law_told" s_l_told) (cl_Mouth : Cls K CM)
    (c_Mouth : CalC P w K mg base CX0 CM 2 "Mouth" ["self", "setting"] (spMInit CM)) (c_Mouth_sendE : CalM P w K mg base (L2.CX P w) CM 2 "send" ["self"] (spMSendE K CM CF)) (c_Mouth_hearE : CalM P w K mg base (L2.CX P w) CM 3 "hear" ["self", "told"] (spMHearE K CM CB))
    (c_l_dice : Cal P w K mg base CX0 1 "_law_dice" ["_law_script"] (spDice K)) (c_l_next : Cal P w K mg base CX0 1 "_law_next" ["_law_dice_here", "_law_many"] (spNext K)) (c_l_setting : Cal P w K mg base CX0 2 "_law_setting" ["_law_d"] (spSetting K)) (c_l_like : Cal P w K mg base CX0 5 "_law_like" ["_law_found", "_law_due"] (spLike K 4))
    (c__law_mouth : Cal P w K mg base CX0 1 "_law_mouth" [] spOMouth) (c_l_is_full : Cal P w K mg base CX0 1 "_law_is_full" ["_law_setting_here", "_law_mouth_here"] spOFull) (c_l_hear : Cal P w K mg base CX0 1 "_law_hear" ["_law_setting_here", "_law_mouth_here", "_law_told_here"] spOHear) (c_l_is : Cal P w K mg base CX0 6 "_law_is" ["_law_mouth_here", "_law_setting_here", "_law_own"] (spIs K CM)) : FnOk P w K mg base CX0 12 f fd ["_law_script"] (spLaw K TP) := by
  refine okC F sc_law (fun vs H Q E h => ?_) (fun c A outer s H vs Q E hcode hr h => ?_)
  · obtain ⟨a, ns, rfl, _⟩ := h
    rfl
  · obtain ⟨sc, ns, rfl, hS, hl, hTP, k⟩ := h
    have TB := HTB c hcode
    obtain ⟨gT, fdT, FT, hmT⟩ := FT.ex
    obtain ⟨ocT, odT, dVT, kVT, docT, pmT, anT, cdvT, ctT, oslT, rfl, lkT, hcT, _, _⟩ := id FT.ex
    have KT := FT.kp
    have bT := FT.bindsN bd_l_told
    refine law_core (q := (envOfC "law" (defScope s_law) s.heap.objs.size f (.ref c)).qual ++ "<lambda>") (PSs.nox (pss_cons (ps_set (i := 1) sc_law.nd rfl (by first | exact Or.inl rfl | exact Or.inr rfl) (pe_cal c_l_dice (hr.mono (by decide)) pass0 (pa_cons (pv 0) pa_nil)))
      (pss_cons (ps_set (i := 2) sc_law.nd rfl (by first | exact Or.inl rfl | exact Or.inr rfl) (pe_lst pa_nil))
      (pss_cons (ps_for PassesOwn.never rfl (pi_range1 (by rfl) B.m_range (pa_cons pe_int pa_nil)) (pg_name (i := 3) sc_law.nd rfl (by first | exact Or.inl rfl | exact Or.inr rfl))
      (pss_cons (ps_set (i := 4) sc_law.nd rfl (by first | exact Or.inl rfl | exact Or.inr rfl) (pe_cal c_l_setting (hr.mono (by decide)) pass0 (pa_cons (pv 1) pa_nil)))
      (pss_one (ps_expr (pe_bmK K rfl PySem.F.plainAttrs_list PySem.F.slot_list_append PySem.F.type_list_append mt_append (pv 2) (pa_cons (pe_tup (pa_cons (pe_calC c_Mouth (hr.mono (by decide)) pass0 (pa_cons (pv 4) pa_nil)) (pa_cons (pv 4) (pa_cons (pe_cal0 c__law_mouth (hr.mono (by decide)) pass0) pa_nil)))) pa_nil))))))
      (pss_cons (ps_for PassesOwn.never rfl (pi_range1 (by rfl) B.m_range (pa_cons (pe_cal c_l_next (hr.mono (by decide)) pass0 (pa_cons (pv 1) (pa_cons (pe_ix (ix_listK K rfl) (pe_lst (pa_cons pe_int (pa_cons pe_int (pa_cons pe_int (pa_cons pe_int pa_nil))))) (pe_cal c_l_next (hr.mono (by decide)) pass0 (pa_cons (pv 1) (pa_cons pe_int pa_nil))) (fun _ _ => rfl)) pa_nil))) pa_nil)) (pg_name (i := 5) sc_law.nd rfl (by first | exact Or.inl rfl | exact Or.inr rfl))
      (pss_cons (ps_asg (pe_ix (ix_listK K rfl) (pv 2) (pe_cal c_l_next (hr.mono (by decide)) pass0 (pa_cons (pv 1) (pa_cons pe_int pa_nil))) (fun _ _ => rfl)) (pg_tup rfl (pgs_cons (pg_name (i := 6) sc_law.nd rfl (by first | exact Or.inl rfl | exact Or.inr rfl)) (pgs_cons (pg_name (i := 4) sc_law.nd rfl (by first | exact Or.inl rfl | exact Or.inr rfl)) (pgs_cons (pg_name (i := 7) sc_law.nd rfl (by first | exact Or.inl rfl | exact Or.inr rfl)) pgs_nil)))))
      (pss_cons (ps_if (pt_cmpR op_gt (pe_cal c_l_next (hr.mono (by decide)) pass0 (pa_cons (pv 1) (pa_cons pe_int pa_nil))) pe_int (nomark _)) (pss_cons (ps_set (i := 8) sc_law.nd rfl (by first | exact Or.inl rfl | exact Or.inr rfl) (pe_tup (pa_cons (pe_dget (hu_of hr) (pv 7) pe_str (fun _ _ => rfl)) (pa_cons (pe_op op_mod (pe_dget (hu_of hr) (pv 7) pe_str (fun _ _ => rfl)) (pe_ix (ix_tupK K rfl) (pv 4) pe_int (fun _ _ => rfl))) pa_nil))))
      (pss_cons (ps_if (pt_val (pe_cal c_l_is_full (hr.mono (by decide)) pass0 (pa_cons (pv 4) (pa_cons (pv 7) pa_nil)))) (pss_one (ps_set (i := 8) sc_law.nd rfl (by first | exact Or.inl rfl | exact Or.inr rfl) (pe_tup (pa_cons pe_str pa_nil)))) (pss_one (ps_dput (hu_of hr) (pv 7) pe_str (pe_op op_add (pe_dget (hu_of hr) (pv 7) pe_str (fun _ _ => rfl)) pe_int) rfl)))
      (pss_one (ps_set (i := 9) sc_law.nd rfl (by first | exact Or.inl rfl | exact Or.inr rfl) (LamX.pe_lamcall (k := 6) (T := [(TP, _)]) (by rfl) hmT KT lkT hcT bT sc_l_told rfl (Or.inl rfl) (told_gives B Kn) TB rfl (List.mem_singleton.mpr rfl) (fun p hp _ => congrArg Prod.snd (List.mem_singleton.mp hp)) (hr.mono (by decide)) (show LamX.LamS (defScope s_law) _ from LamX.lamS_by (by decide +kernel)) rfl (fun _ _ _ _ _ => rfl) (fun A outer s H E f c hr2 => (pe_calM0 (pv 6) cl_Mouth c_Mouth_sendE (hr2.mono (by decide)) (passes_call (takes_of rfl rfl rfl rfl) (fun _ _ _ _ h => h))))))))) (pss_cons (ps_set (i := 10) sc_law.nd rfl (by first | exact Or.inl rfl | exact Or.inr rfl) (pe_op op_add pe_int (pe_cal c_l_next (hr.mono (by decide)) pass0 (pa_cons (pv 1) (pa_cons pe_int pa_nil)))))
      (pss_cons (ps_set (i := 11) sc_law.nd rfl (by first | exact Or.inl rfl | exact Or.inr rfl) (pe_callTy (cr_tupLK K rfl) (by rfl) B.m_tuple (by decide +kernel) (pa_cons (pe_lc (own := [("_law_k", 3)]) (g := (gName 3)) rfl sc_law.nd (pi_range1 (by rfl) B.m_range (pa_cons (pe_ix (ix_tupK K rfl) (pv 4) pe_int (fun _ _ => rfl)) pa_nil)) (blkOk_by (own := [("_law_k", 3)]) (N := ["_law_script", "_law_d", "_law_sides", "_law_k", "_law_setting_here", "_law_turn", "_law_mouth_here", "_law_own", "_law_due", "_law_found", "_law_often", "_law_bits", "_law_far", "_law_telling", "_law_one", "_law_some", "_law_other"]) (sc := defScope s_law) (by decide +kernel)) (fun _ _ _ _ _ => (pg_name (i := 3) sc_law.nd rfl (by first | exact Or.inl rfl | exact Or.inr rfl))) (fun _ _ _ _ _ => pts_nil) (fun _ _ _ _ _ => (pe_callTy cr_intB (by rfl) B.m_int (by decide +kernel) (pa_cons (pe_cmpR op_eq (pe_cal c_l_next (hr.mono (by decide)) pass0 (pa_cons (pv 1) (pa_cons (pv 10) pa_nil))) pe_int (nomark _)) pa_nil)))) pa_nil)))
      (pss_cons (ps_set (i := 12) sc_law.nd rfl (by first | exact Or.inl rfl | exact Or.inr rfl) (pe_ix (ix_listK K rfl) (pe_lst (pa_cons pe_int (pa_cons pe_int (pa_cons (pe_cal c_l_next (hr.mono (by decide)) pass0 (pa_cons (pv 1) (pa_cons pe_int pa_nil))) (pa_cons (pe_cal c_l_next (hr.mono (by decide)) pass0 (pa_cons (pv 1) (pa_cons pe_int pa_nil))) pa_nil))))) (pe_cal c_l_next (hr.mono (by decide)) pass0 (pa_cons (pv 1) (pa_cons pe_int pa_nil))) (fun _ _ => rfl)))
      (pss_cons (ps_set (i := 13) sc_law.nd rfl (by first | exact Or.inl rfl | exact Or.inr rfl) (pe_tup (pa_cons (pe_op op_mod (pe_op op_sub (pe_op op_sub (pe_dget (hu_of hr) (pv 7) pe_str (fun _ _ => rfl)) pe_int) (pv 12)) (pe_ix (ix_tupK K rfl) (pv 4) pe_int (fun _ _ => rfl))) (pa_cons (pv 11) pa_nil))))
      (pss_cons (ps_set (i := 8) sc_law.nd rfl (by first | exact Or.inl rfl | exact Or.inr rfl) (pe_cal c_l_hear (hr.mono (by decide)) pass0 (pa_cons (pv 4) (pa_cons (pv 7) (pa_cons (pv 13) pa_nil)))))
      (pss_cons (ps_set (i := 8) sc_law.nd rfl (by first | exact Or.inl rfl | exact Or.inr rfl) (pe_ifExp (pt_cmpR op_isNo (pv 8) pe_non (nomark _)) (pe_tup (pa_cons pe_str pa_nil)) (pv 8)))
      (pss_one (ps_set (i := 9) sc_law.nd rfl (by first | exact Or.inl rfl | exact Or.inr rfl) (LamX.pe_lamcall (k := 6) (T := [(TP, _)]) (by rfl) hmT KT lkT hcT bT sc_l_told rfl (Or.inl rfl) (told_gives B Kn) TB rfl (List.mem_singleton.mpr rfl) (fun p hp _ => congrArg Prod.snd (List.mem_singleton.mp hp)) (hr.mono (by decide)) (show LamX.LamS (defScope s_law) _ from LamX.lamS_by (by decide +kernel)) rfl (fun _ _ _ _ _ => rfl) (fun A outer s H E f c hr2 => (pe_calM (pv 6) cl_Mouth c_Mouth_hearE (hr2.mono (by decide)) (passes_call (takes_of rfl rfl rfl rfl) (fun _ _ _ _ h => h)) (pa_cons (pv 13) pa_nil)))))))))))))
      (pss_cons (ps_if (pt_not (pt_val (pe_cal c_l_like (hr.mono (by decide)) pass0 (pa_cons (pv 9) (pa_cons (pv 8) pa_nil))))) (pss_one (ps_ret pe_bl)) pss_nil)
      (pss_cons (ps_if (pt_val (pe_callB (call_isiQ K rfl) (by rfl) B.m_isinstance (by decide +kernel) (pa_cons (pv 9) (pa_cons (pe_bltn (v := .ty "list") (by rfl) B.m_list (by decide +kernel) rfl) pa_nil)))) (pss_one (ps_expr (pe_bm0K K rfl PySem.F.plainAttrs_list PySem.F.slot_list_clear PySem.F.type_list_clear mt_clear (pv 9)))) pss_nil)
      (pss_one (ps_for PassesOwn.never rfl (pi_listK K rfl (pv 2)) (pg_tup rfl (pgs_cons (pg_name (i := 14) sc_law.nd rfl (by first | exact Or.inl rfl | exact Or.inr rfl)) (pgs_cons (pg_name (i := 15) sc_law.nd rfl (by first | exact Or.inl rfl | exact Or.inr rfl)) (pgs_cons (pg_name (i := 16) sc_law.nd rfl (by first | exact Or.inl rfl | exact Or.inr rfl)) pgs_nil))))
      (pss_one (ps_if (pt_not (pt_val (pe_cal c_l_is (hr.mono (by decide)) pass0 (pa_cons (pv 14) (pa_cons (pv 15) (pa_cons (pv 16) pa_nil)))))) (pss_one (ps_ret pe_bl)) pss_nil)))))))))
      (pss_one (ps_ret pe_bl))))))) hS hTP (fun H Z D _ hSc hTZ kk => ?_) k
    walk_at "gon"
    refine ⟨sc, ns, rfl, hSc, hl, fun d H1 A1 hd D1 => ?_⟩
    have Z1 : TZ _ Z H1 := hTZ.aft0 A1
    have N1 : Now K (some d) [d] H1 H1 [] [] := .startD D1 (by simp)
    clear hTZ
    walk_at "kn"
    rename_i L H2 N2
    have Z2 := Z1.aft N1 (by simp) N2.af
    have N3 := N2.reb
    clear N2 N1 Z1
    refine c_forR (by decide) (fun i σ H' => ∃ (Ss : List Side) (x3 x4 x5 x6 x7 x8 x9 x10 x11 x12 x13 x14 x15 x16 : Option V), σ = [some (.ref sc), some (.ref d), some (.ref L), x3, x4, x5, x6, x7, x8, x9, x10, x11, x12, x13, x14, x15, x16] ∧ Ss.length = i ∧ Now K (some d) (d :: (⟨true, L, .lst (Ss.map fun S => V.ref S.tp)⟩ :: sdCs CM Ss).map Cel.a) H' H' (⟨true, L, .lst (Ss.map fun S => V.ref S.tp)⟩ :: sdCs CM Ss) (sdTs Ss) ∧ TZ _ Z H' ∧ ∀ S ∈ Ss, SideOk 0 S)
      ⟨[], _, _, _, _, _, _, _, _, _, _, _, _, _, _, rfl, rfl, N3, Z2, by simp⟩ ?_ ?_
    · clear N3 Z2
      rintro i σ H3 hi ⟨Ss, _, _, _, _, _, _, _, _, _, _, _, _, _, _, rfl, hlen, N, Zn, hok⟩
      rcases len01 hlen (by omega) with rfl | ⟨S1, rfl⟩
      · subst hlen
        walk_at "kn"
        refine ⟨d, rfl, (N.dc d rfl).1, fun st m w l a H4 A4 D4 ht hs => ?_⟩
        have N4 := (N.roll A4 D4).moreT ht
        walk_at "kn"
        refine g_mInit N4 (N4.tup 0 rfl) hs fun mp mdx mcl H5 N5 => ?_
        clear N4
        walk_at "kn"
        refine ⟨rfl, fun o sl H6 A6 => ?_⟩
        have N6 := Now.call (fp := []) N5 (by simp) A6
        clear N5
        walk_at "kn"
        rename_i tp H7 N7
        refine g_app0 (N7.sel [4, 2, 3, 0, 1] (l' := ⟨true, L, .lst (([] : List Side).map fun S => V.ref S.tp)⟩ :: sdCs CM (([] : List Side) ++ [⟨tp, st, mp, mdx, mcl, o, sl, m, w, l, a, ⟨m, w, l, a, 0, -1, []⟩, ⟨0, []⟩⟩])) rfl (by decide)) (by simp) fun H8 N8 => ?_
        have Z8 := Zn.aft N (by simp [sdCs, plainO]) N8.af
        clear N7 N6 N
        walk_at "kn"
        have N9 : Now K (some d) _ _ H8 (⟨true, L, .lst ((([] : List Side) ++ [(⟨tp, st, mp, mdx, mcl, o, sl, m, w, l, a, ⟨m, w, l, a, 0, -1, []⟩, ⟨0, []⟩⟩ : Side)]).map fun (S : Side) => V.ref S.tp)⟩ :: sdCs CM (([] : List Side) ++ [(⟨tp, st, mp, mdx, mcl, o, sl, m, w, l, a, ⟨m, w, l, a, 0, -1, []⟩, ⟨0, []⟩⟩ : Side)])) (sdTs (([] : List Side) ++ [(⟨tp, st, mp, mdx, mcl, o, sl, m, w, l, a, ⟨m, w, l, a, 0, -1, []⟩, ⟨0, []⟩⟩ : Side)])) := N8.subT (sdTs (([] : List Side) ++ [(⟨tp, st, mp, mdx, mcl, o, sl, m, w, l, a, ⟨m, w, l, a, 0, -1, []⟩, ⟨0, []⟩⟩ : Side)])) (by simp +contextual [sdTs])
        refine ⟨([] : List Side) ++ [⟨tp, st, mp, mdx, mcl, o, sl, m, w, l, a, ⟨m, w, l, a, 0, -1, []⟩, ⟨0, []⟩⟩], _, _, _, _, _, _, _, _, _, _, _, _, _, _, rfl, rfl, N9.reb, Z8, fun S hS => ?_⟩
        have new : SideOk 0 ⟨tp, st, mp, mdx, mcl, o, sl, m, w, l, a, ⟨m, w, l, a, 0, -1, []⟩, ⟨0, []⟩⟩ := ⟨hs, ⟨rfl, rfl, rfl, rfl⟩, .start, Nat.le_refl 0⟩
        rcases List.mem_append.mp hS with z | z
        · exact hok S z
        · rw [List.mem_singleton.mp z]
          exact new
      · subst hlen
        walk_at "kn"
        refine ⟨d, rfl, (N.dc d rfl).1, fun st m w l a H4 A4 D4 ht hs => ?_⟩
        have N4 := (N.roll A4 D4).moreT ht
        walk_at "kn"
        refine g_mInit N4 (N4.tup 0 rfl) hs fun mp mdx mcl H5 N5 => ?_
        clear N4
        walk_at "kn"
        refine ⟨rfl, fun o sl H6 A6 => ?_⟩
        have N6 := Now.call (fp := []) N5 (by simp) A6
        clear N5
        walk_at "kn"
        rename_i tp H7 N7
        refine g_app0 (N7.sel [4, 5, 6, 7, 8, 2, 3, 0, 1] (l' := ⟨true, L, .lst ([S1].map fun S => V.ref S.tp)⟩ :: sdCs CM ([S1] ++ [⟨tp, st, mp, mdx, mcl, o, sl, m, w, l, a, ⟨m, w, l, a, 0, -1, []⟩, ⟨0, []⟩⟩])) rfl (by decide)) (by simp) fun H8 N8 => ?_
        have Z8 := Zn.aft N (by simp [sdCs, plainO]) N8.af
        clear N7 N6 N
        walk_at "kn"
        have N9 : Now K (some d) _ _ H8 (⟨true, L, .lst (([S1] ++ [(⟨tp, st, mp, mdx, mcl, o, sl, m, w, l, a, ⟨m, w, l, a, 0, -1, []⟩, ⟨0, []⟩⟩ : Side)]).map fun (S : Side) => V.ref S.tp)⟩ :: sdCs CM ([S1] ++ [(⟨tp, st, mp, mdx, mcl, o, sl, m, w, l, a, ⟨m, w, l, a, 0, -1, []⟩, ⟨0, []⟩⟩ : Side)])) (sdTs ([S1] ++ [(⟨tp, st, mp, mdx, mcl, o, sl, m, w, l, a, ⟨m, w, l, a, 0, -1, []⟩, ⟨0, []⟩⟩ : Side)])) := N8.subT (sdTs ([S1] ++ [(⟨tp, st, mp, mdx, mcl, o, sl, m, w, l, a, ⟨m, w, l, a, 0, -1, []⟩, ⟨0, []⟩⟩ : Side)])) (by simp +contextual [sdTs])
        refine ⟨[S1] ++ [⟨tp, st, mp, mdx, mcl, o, sl, m, w, l, a, ⟨m, w, l, a, 0, -1, []⟩, ⟨0, []⟩⟩], _, _, _, _, _, _, _, _, _, _, _, _, _, _, rfl, rfl, N9.reb, Z8, fun S hS => ?_⟩
        have new : SideOk 0 ⟨tp, st, mp, mdx, mcl, o, sl, m, w, l, a, ⟨m, w, l, a, 0, -1, []⟩, ⟨0, []⟩⟩ := ⟨hs, ⟨rfl, rfl, rfl, rfl⟩, .start, Nat.le_refl 0⟩
        rcases List.mem_append.mp hS with z | z
        · exact hok S z
        · rw [List.mem_singleton.mp z]
          exact new
    · clear N3 Z2
      rintro σ H3 ⟨Ss, _, _, _, _, _, _, _, _, _, _, _, _, _, _, rfl, hlen, N, Zn, hok⟩
      obtain ⟨S1, S2, rfl⟩ := len2 hlen
      have o1 := hok S1 (by simp)
      have o2 := hok S2 (by simp)
      have N4 : Now K (some d) (d :: (⟨true, L, .lst [.ref S1.tp, .ref S2.tp]⟩ :: (sdC CM S1 ++ sdC CM S2)).map Cel.a) H3 H3 (⟨true, L, .lst [.ref S1.tp, .ref S2.tp]⟩ :: (sdC CM S1 ++ sdC CM S2)) (sdT S1 ++ sdT S2) := N
      clear N
      have hm1 := o1.ok.1
      have hm2 := o2.ok.1
      clear hok hlen
      walk_at "kn"
      rename_i p1 Ha Na v1 Hb Nb b1 b2 v0 hv v2 Hc Nc b3 b4
      have ZC := Zn.aft N4 (by simp [plainO]) Nc.af
      have hv901 : v0 ≤ 901 := by
        omega
      have N5 : Now K (some d) (d :: (⟨true, L, .lst [.ref S1.tp, .ref S2.tp]⟩ :: (sdC CM S1 ++ sdC CM S2)).map Cel.a) Hc Hc (⟨true, L, .lst [.ref S1.tp, .ref S2.tp]⟩ :: (sdC CM S1 ++ sdC CM S2)) (sdT S1 ++ sdT S2) := (Nc.sel [1, 2, 3, 4, 5, 6, 7, 8, 9] rfl (by decide)).reb
      clear Nc N4 Zn
      refine c_forR (by omega) (fun i σ H' => ∃ (S1 S2 : Side) (x3 x4 x5 x6 x7 x8 x9 x10 x11 x12 x13 x14 x15 x16 : Option V), σ = [some (.ref sc), some (.ref d), some (.ref L), x3, x4, x5, x6, x7, x8, x9, x10, x11, x12, x13, x14, x15, x16] ∧ (Now K (some d) (d :: (⟨true, L, .lst [.ref S1.tp, .ref S2.tp]⟩ :: (sdC CM S1 ++ sdC CM S2)).map Cel.a) H' H' (⟨true, L, .lst [.ref S1.tp, .ref S2.tp]⟩ :: (sdC CM S1 ++ sdC CM S2)) (sdT S1 ++ sdT S2)) ∧ TZ _ Z H' ∧ SideOk i S1 ∧ SideOk i S2) ⟨S1, S2, _, _, _, _, _, _, _, _, _, _, _, _, _, _, rfl, N5, ZC, o1, o2⟩ ?_ ?_
      · clear N5 ZC hm1 hm2 o1 o2 Nb Na S1 S2
        rintro i σ H5 hi ⟨S1, S2, _, _, _, _, _, _, _, _, _, _, _, _, _, _, rfl, N, Zn, o1, o2⟩
        have hi1 : i ≤ 1000 := by omega
        refine k_gname (k_cut5 (R := fun σ H' => ∃ (S1 S2 : Side) (x3 x4 x5 x6 x7 x8 x9 x10 x11 x12 x13 x14 x15 x16 : Option V), σ = [some (.ref sc), some (.ref d), some (.ref L), x3, x4, x5, x6, x7, x8, x9, x10, x11, x12, x13, x14, x15, x16] ∧ (Now K (some d) (d :: (⟨true, L, .lst [.ref S1.tp, .ref S2.tp]⟩ :: (sdC CM S1 ++ sdC CM S2)).map Cel.a) H' H' (⟨true, L, .lst [.ref S1.tp, .ref S2.tp]⟩ :: (sdC CM S1 ++ sdC CM S2)) (sdT S1 ++ sdT S2)) ∧ TZ [(TP, (envOfC "law" (defScope s_law) s.heap.objs.size f (.ref c)).qual ++ "<lambda>")] Z H' ∧ SideOk (i + 1) S1 ∧ SideOk (i + 1) S2) ?_ ?_)
        · clear o1 o2 Zn N S1 S2
          rintro σ H6 ⟨S1, S2, _, _, _, _, _, _, _, _, _, _, _, _, _, _, rfl, N, Zn, o1, o2⟩
          walk_at "kn"
          refine c_for (xs := [.ref S1.tp, .ref S2.tp]) (fun j σ H' => ∃ (x3 x4 x5 x6 x7 x8 x9 x10 x11 x12 x13 x14 x15 x16 : Option V), σ = [some (.ref sc), some (.ref d), some (.ref L), x3, x4, x5, x6, x7, x8, x9, x10, x11, x12, x13, x14, x15, x16] ∧ (Now K (some d) (d :: (⟨true, L, .lst [.ref S1.tp, .ref S2.tp]⟩ :: (sdC CM S1 ++ sdC CM S2)).map Cel.a) H' H' (⟨true, L, .lst [.ref S1.tp, .ref S2.tp]⟩ :: (sdC CM S1 ++ sdC CM S2)) (sdT S1 ++ sdT S2)) ∧ TZ [(TP, (envOfC "law" (defScope s_law) s.heap.objs.size f (.ref c)).qual ++ "<lambda>")] Z H') ⟨_, _, _, _, _, _, _, _, _, _, _, _, _, _, rfl, N, Zn⟩ (fun j σ H' _ ⟨_, _, _, _, _, _, _, _, _, _, _, _, _, _, _, N', _⟩ => .of (N'.cell 0 rfl)) ?_ ?_
          · clear N Zn
            rintro j x σ H7 hx ⟨_, _, _, _, _, _, _, _, _, _, _, _, _, _, rfl, N, Zn⟩
            rcases at2 hx with ⟨rfl, rfl⟩ | ⟨rfl, rfl⟩
            · have N1 : Now K (some d) _ _ H7 (sdC CM S1 ++ (⟨true, L, .lst [.ref S1.tp, .ref S2.tp]⟩ :: sdC CM S2)) (sdT S1 ++ sdT S2) := N.sel [1, 2, 3, 4, 0, 5, 6, 7, 8] rfl (by decide)
              obtain ⟨e1, e2, e3, e4⟩ := o1.ee
              have stE : StV S1.s.m S1.s.w S1.s.l S1.s.a = StV S1.m S1.w S1.l S1.a := by rw [e1, e2, e3, e4]
              have hl := o1.len
              walk_at "kn"
              refine ⟨S1.mp, S1.mdx, S1.mcl, S1.st, S1.o, S1.sl, S1.s, S1.b, rfl, N1.front, by rw [stE]; exact N1.tup 1 rfl, o1.r, by omega, fun H8 A8 => ?_⟩
              have N2 := Now.call N1 (by simp) A8
              clear N1
              walk_at "kn"
              have N3 : Now K (some d) _ _ H8 (⟨true, L, .lst [.ref S1.tp, .ref S2.tp]⟩ :: (sdC CM S1 ++ sdC CM S2)) (sdT S1 ++ sdT S2) := N2.sel [4, 0, 1, 2, 3, 5, 6, 7, 8] rfl (by decide)
              exact ⟨_, _, _, _, _, _, _, _, _, _, _, _, _, _, rfl, N3.reb, Zn.aft N (by simp [plainO]) N3.af⟩
            · have N1 : Now K (some d) _ _ H7 (sdC CM S2 ++ (⟨true, L, .lst [.ref S1.tp, .ref S2.tp]⟩ :: sdC CM S1)) (sdT S1 ++ sdT S2) := N.sel [5, 6, 7, 8, 0, 1, 2, 3, 4] rfl (by decide)
              obtain ⟨e1, e2, e3, e4⟩ := o2.ee
              have stE : StV S2.s.m S2.s.w S2.s.l S2.s.a = StV S2.m S2.w S2.l S2.a := by rw [e1, e2, e3, e4]
              have hl := o2.len
              walk_at "kn"
              refine ⟨S2.mp, S2.mdx, S2.mcl, S2.st, S2.o, S2.sl, S2.s, S2.b, rfl, N1.front, by rw [stE]; exact N1.tup 3 rfl, o2.r, by omega, fun H8 A8 => ?_⟩
              have N2 := Now.call N1 (by simp) A8
              clear N1
              walk_at "kn"
              have N3 : Now K (some d) _ _ H8 (⟨true, L, .lst [.ref S1.tp, .ref S2.tp]⟩ :: (sdC CM S1 ++ sdC CM S2)) (sdT S1 ++ sdT S2) := N2.sel [4, 5, 6, 7, 8, 0, 1, 2, 3] rfl (by decide)
              exact ⟨_, _, _, _, _, _, _, _, _, _, _, _, _, _, rfl, N3.reb, Zn.aft N (by simp [plainO]) N3.af⟩
          · clear N Zn
            rintro σ H7 ⟨_, _, _, _, _, _, _, _, _, _, _, _, _, _, rfl, N, Zn⟩
            exact ⟨S1, S2, _, _, _, _, _, _, _, _, _, _, _, _, _, _, rfl, N, Zn, o1, o2⟩
        · intro nx' fin
          have hm1 := o1.ok.1
          have hm2 := o2.ok.1
          have hl1 := o1.len
          have hl2 := o2.len
          walk_at "kn"
          rename_i v1 H6 N6 b1 b2
          have hv1 : v1 = 0 ∨ v1 = 1 := by omega
          rcases hv1 with rfl | rfl
          · refine g_ixL (xs := [.ref S1.tp, .ref S2.tp]) (v := .ref S1.tp) (.of (N6.cell 0 rfl)) rfl ?_
            walk_at "kn"
            rename_i vq H7 N7 b3 b4
            have N8 : Now K (some d) _ _ H7 (mouthC CM S1.mp S1.mdx S1.mcl S1.st S1.s ++ (omC S1.o S1.sl S1.b ++ (⟨true, L, .lst [.ref S1.tp, .ref S2.tp]⟩ :: sdC CM S2))) (sdT S1 ++ sdT S2) := N7.sel [1, 2, 3, 4, 0, 5, 6, 7, 8] rfl (by decide)
            clear N7 N6
            obtain ⟨e1, e2, e3, e4⟩ := o1.ee
            have stE : StV S1.s.m S1.s.w S1.s.l S1.s.a = StV S1.m S1.w S1.l S1.a := by rw [e1, e2, e3, e4]
            have hmok := o1.mok hi1
            have hw := o1.ok.2.1
            refine c_ifd (fun _ => ?_) (fun _ => ?_)
            · walk_at "kn"
              rename_i t1 H8 N9
              refine ⟨S1.st, S1.o, S1.sl, S1.m, S1.w, S1.l, S1.a, S1.b, rfl, N9.af.t _ _ (N.tup 1 rfl), (N9.sel [2, 3] (l' := omC S1.o S1.sl S1.b) rfl (by decide)).ok, by rw [o1.r.sure]; omega, fun H9 A9 => ?_⟩
              have N10 := N9.pure A9
              clear N9 N8
              rw [o1.r.full e4]
              cases hf : S1.s.full with
              | true =>
                walk_at "kn"
                rename_i t2 H10 N11
                clear N10
                have Z3 := Zn.aft N (by simp [plainO]) N11.af
                refine k_lam Z3.t fun H11 eN T11 => k_told ?_
                have N12 := N11.extN eN
                have Z4 := Z3.ext eN T11
                clear N11 Z3
                walk_at "kn"
                refine g_mSendE N12 hmok.ok (fun c2 => absurd (hf.symm.trans c2) (by decide)) (fun _ => ⟨CF, 4, rfl, rfl, koF, .inr (.inr rfl), fun p2 H13 A13 hp2 => ?_⟩)
                have N13 := (N12.pure A13).moreT hp2
                walk_at "kn"
                refine g_like (dp_one (z := "full") (N13.tup 0 rfl)) (dp_one (z := "full") (N13.tup 1 rfl)) dOk_one fun H14 A14 => ?_
                have N14 := N13.pure A14
                clear N13
                walk_at "kn"
                refine g_isi (a := "tuple") (r := false) (sqt_ty (.of (N14.tup 0 rfl))) kb_tl ?_
                walk_at "kn"
                have NF : Now K (some d) _ _ H14 (⟨true, L, .lst [.ref S1.tp, .ref S2.tp]⟩ :: (sdC CM (S1 : Side) ++ sdC CM S2)) (sdT (S1 : Side) ++ sdT S2) := (N14.sel [4, 0, 1, 2, 3, 5, 6, 7, 8] rfl (by decide)).subT _ (by simp +contextual)
                exact fin _ _ ⟨(S1 : Side), S2, _, _, _, _, _, _, _, _, _, _, _, _, _, _, rfl, NF.reb, Z4.aft N12 (by simp [plainO]) NF.af, o1.up (Nat.le_succ _), o2.up (Nat.le_succ _)⟩
              | false =>
                walk_at "kn"
                refine g_dputS0 (N10.sel [2, 0, 1, 3, 4, 5, 6, 7, 8] (l' := ⟨true, S1.o, .dK (kvM S1.b.sent S1.sl)⟩ :: (mouthC CM S1.mp S1.mdx S1.mcl S1.st S1.s ++ (⟨true, S1.sl, .lst (S1.b.sure.map V.int)⟩ :: (⟨true, L, .lst [.ref S1.tp, .ref S2.tp]⟩ :: sdC CM S2)))) rfl (by decide)) (Nat.le_of_ble_eq_true rfl) (kvs' := kvM (S1.b.sent + 1) S1.sl) rfl fun H11 N11 => ?_
                walk_at "kn"
                have Z3 := Zn.aft N (by simp [plainO]) N11.af
                refine k_lam Z3.t fun H12 eN T12 => k_told ?_
                have N12 : Now K (some d) _ _ H11 (mouthC CM S1.mp S1.mdx S1.mcl S1.st S1.s ++ (omC S1.o S1.sl ⟨S1.b.sent + 1, S1.b.sure⟩ ++ (⟨true, L, .lst [.ref S1.tp, .ref S2.tp]⟩ :: sdC CM S2))) _ := N11.sel [1, 2, 0, 3, 4, 5, 6, 7, 8] rfl (by decide)
                have N13 := N12.extN eN
                have Z4 := Z3.ext eN T12
                clear N12 N11 N10 Z3
                walk_at "kn"
                refine g_mSendE N13 hmok.ok (fun _ t2 H13 N14 => ?_) (fun c2 => absurd (hf.symm.trans c2) (by decide))
                walk_at "kn"
                have h2 := N14.tup 1 rfl
                rw [o1.r.sent, ← e1] at h2
                refine g_like (dp_pair (N14.tup 0 rfl)) (dp_pair h2) dOk_pair fun H15 A15 => ?_
                have N15 := N14.pure A15
                clear N14
                walk_at "kn"
                refine g_isi (a := "tuple") (r := false) (sqt_ty (.of (N15.tup 0 rfl))) kb_tl ?_
                walk_at "kn"
                have NF : Now K (some d) _ _ H15 (⟨true, L, .lst [.ref S1.tp, .ref S2.tp]⟩ :: (sdC CM ({ S1 with s := S1.s.send, b := ⟨S1.b.sent + 1, S1.b.sure⟩ } : Side) ++ sdC CM S2)) (sdT ({ S1 with s := S1.s.send, b := ⟨S1.b.sent + 1, S1.b.sure⟩ } : Side) ++ sdT S2) := (N15.sel [4, 0, 1, 2, 3, 5, 6, 7, 8] rfl (by decide)).subT _ (by simp +contextual)
                exact fin _ _ ⟨({ S1 with s := S1.s.send, b := ⟨S1.b.sent + 1, S1.b.sure⟩ } : Side), S2, _, _, _, _, _, _, _, _, _, _, _, _, _, _, rfl, NF.reb, Z4.aft N13 (by simp [plainO]) NF.af, o1.send, o2.up (Nat.le_succ _)⟩
            · walk_at "kn"
              rename_i v2 H8 N9 b5 b6
              refine c_lcR N9 (by omega) (fun k acc => ∃ zs : List Int, acc = zs.map V.int ∧ zs.length = k ∧ ∀ x ∈ zs, x = 0 ∨ x = 1) ⟨[], rfl, rfl, by simp⟩ (fun _ => rfl) (fun k Dd H2 acc hk N2 r => ?_) (fun p H2 acc N2 r => ?_)
              · obtain ⟨zs, rfl, hz, h01⟩ := r
                walk_at "kn"
                rename_i v4 H3 N3 c7 c8
                refine c_put N3 (by rw [List.length_map]; omega) ⟨zs ++ [if decide (v4 = 0) = true then 1 else 0], by rw [List.map_append]; rfl, by rw [List.length_append, hz]; rfl, fun x hx => ?_⟩
                rcases List.mem_append.mp hx with z | z
                · exact h01 x z
                · rw [List.mem_singleton.mp z]
                  split <;> simp
              · obtain ⟨zs, rfl, hz, h01⟩ := r
                walk_at "kn"
                rename_i b Hb Nb va Hc Nc q1 q2 vb Hd Nd q3 q4 lp Hx Nx vc Hf Nf q5 q6 vd hvd q Hq Nq
                have hmk : 0 ≤ (S1.b.sent - 1 - vd) % S1.m ∧ (S1.b.sent - 1 - vd) % S1.m < S1.m := ⟨Int.emod_nonneg _ (by omega), Int.emod_lt_of_pos _ (by omega)⟩
                generalize (S1.b.sent - 1 - vd) % S1.m = mk at *
                have pm := o1.r.some e1 e2 mk zs
                refine g_oHear (Nq.sel [4, 5, 2, 3, 6, 7, 8, 9, 10] (l' := omC S1.o S1.sl S1.b ++ (mouthC CM S1.mp S1.mdx S1.mcl S1.st S1.s ++ (⟨true, L, .lst [.ref S1.tp, .ref S2.tp]⟩ :: sdC CM S2))) rfl (by decide)) (Nq.af.t _ _ (N.tup 1 rfl)) (Nq.tup 0 rfl) (Nq.tup 1 rfl) o1.ok (by rw [o1.r.sure]; omega) hmk (by omega) (fun hneg H9 N10 => ?_) (fun hpos l sl' H9 N10 => ?_)
                · clear Nq Nf Nx Nd Nc Nb N2 N9 N8
                  walk_at "kn"
                  rename_i t2 H10 N11
                  have Z3 := Zn.aft N (by simp [plainO]) N11.af
                  refine k_lam Z3.t fun H11 eN T11 => k_told ?_
                  have N12 := (N11.sel [2, 3, 0, 1, 4, 5, 6, 7, 8] (l' := mouthC CM S1.mp S1.mdx S1.mcl S1.st S1.s ++ (omC S1.o S1.sl S1.b ++ (⟨true, L, .lst [.ref S1.tp, .ref S2.tp]⟩ :: sdC CM S2))) rfl (by decide)).extN eN
                  have Z4 := Z3.ext eN T11
                  clear N11 N10 Z3
                  walk_at "kn"
                  refine g_mHearE N12 (by rw [stE]; exact N12.tup 4 rfl) (N12.tup 1 rfl) (N12.tup 2 rfl) hmok (by rw [e1]; exact hmk) (by rw [e2]; omega) h01 (fun hp => ?_) (fun _ H13 N13 => ⟨CB, 3, rfl, rfl, ko, .inr (.inl rfl), fun p2 H14 A14 hp2 => ?_⟩)
                  · obtain ⟨x, hx, hx0⟩ := hneg
                    have := hp x (pm.mem_iff.mp hx)
                    omega
                  have N14 := (N13.pure A14).moreT hp2
                  walk_at "kn"
                  refine g_like (dp_one (z := "bits") (N14.tup 0 rfl)) (dp_one (z := "bits") (N14.tup 1 rfl)) dOk_one fun H15 A15 => ?_
                  have N15 := N14.pure A15
                  clear N14 N13
                  walk_at "kn"
                  refine g_isi (a := "tuple") (r := false) (sqt_ty (.of (N15.tup 0 rfl))) kb_tl ?_
                  walk_at "kn"
                  have NF : Now K (some d) _ _ H15 (⟨true, L, .lst [.ref S1.tp, .ref S2.tp]⟩ :: (sdC CM (S1 : Side) ++ sdC CM S2)) (sdT (S1 : Side) ++ sdT S2) := (N15.sel [4, 0, 1, 2, 3, 5, 6, 7, 8] rfl (by decide)).subT _ (by simp +contextual)
                  exact fin _ _ ⟨(S1 : Side), S2, _, _, _, _, _, _, _, _, _, _, _, _, _, _, rfl, NF.reb, Z4.aft N12 (by simp [plainO]) NF.af, o1.up (Nat.le_succ _), o2.up (Nat.le_succ _)⟩
                · clear Nq Nf Nx Nd Nc Nb N2 N9 N8
                  walk_at "kn"
                  have Z3 := Zn.aft N (by simp [plainO]) N10.af
                  refine k_lam Z3.t fun H11 eN T11 => k_told ?_
                  have N12 := (N10.sel [3, 4, 0, 1, 2, 5, 6, 7, 8, 9] (l' := mouthC CM S1.mp S1.mdx S1.mcl S1.st S1.s ++ (⟨true, l, .lst ((S1.b.found S1.m S1.w mk zs).map V.int)⟩ :: (omC S1.o sl' (S1.b.hear S1.m S1.w mk zs) ++ (⟨true, L, .lst [.ref S1.tp, .ref S2.tp]⟩ :: sdC CM S2)))) rfl (by decide)).extN eN
                  have Z4 := Z3.ext eN T11
                  clear N10 Z3
                  walk_at "kn"
                  refine g_mHearE N12 (by rw [stE]; exact N12.tup 3 rfl) (N12.tup 0 rfl) (N12.tup 1 rfl) hmok (by rw [e1]; exact hmk) (by rw [e2]; omega) h01 (fun _ l2 mcl' H13 N13 => ?_) (fun hneg => ?_)
                  · walk_at "kn"
                    have h2 := N13.cell 3 rfl
                    rw [o1.r.found e1 e2 mk zs] at h2
                    refine g_like (m := 3) (.lst (.of (N13.cell 0 rfl)) (dpa_ints _)) (.lst (.of h2) (dpa_ints _)) (dOk_ints (m := 2) (by have := foundM_len hmok mk zs; omega)).1 fun H14 A14 => ?_
                    have N14 := N13.pure A14
                    clear N13
                    walk_at "kn"
                    refine g_isi (a := "list") (r := true) (sql_ty (.of (N14.cell 0 rfl))) kb_ll ?_
                    walk_at "kn"
                    refine g_clear N14 fun H15 N15 => ?_
                    walk_at "kn"
                    have NF : Now K (some d) _ _ H15 (⟨true, L, .lst [.ref S1.tp, .ref S2.tp]⟩ :: (sdC CM ({ S1 with mcl := mcl', sl := sl', s := S1.s.hear mk zs, b := S1.b.hear S1.m S1.w mk zs } : Side) ++ sdC CM S2)) (sdT ({ S1 with mcl := mcl', sl := sl', s := S1.s.hear mk zs, b := S1.b.hear S1.m S1.w mk zs } : Side) ++ sdT S2) := (N15.sel [6, 1, 2, 4, 5, 7, 8, 9, 10] rfl (by decide)).subT _ (by simp +contextual)
                    exact fin _ _ ⟨({ S1 with mcl := mcl', sl := sl', s := S1.s.hear mk zs, b := S1.b.hear S1.m S1.w mk zs } : Side), S2, _, _, _, _, _, _, _, _, _, _, _, _, _, _, rfl, NF.reb, Z4.aft N12 (by simp [plainO]) NF.af, o1.hear hi1 mk zs mcl' sl', o2.up (Nat.le_succ _)⟩
                  · obtain ⟨x, hx, hx0⟩ := hneg
                    have := hpos x (pm.mem_iff.mpr hx)
                    omega
          · refine g_ixL (xs := [.ref S1.tp, .ref S2.tp]) (v := .ref S2.tp) (.of (N6.cell 0 rfl)) rfl ?_
            walk_at "kn"
            rename_i vq H7 N7 b3 b4
            have N8 : Now K (some d) _ _ H7 (mouthC CM S2.mp S2.mdx S2.mcl S2.st S2.s ++ (omC S2.o S2.sl S2.b ++ (⟨true, L, .lst [.ref S1.tp, .ref S2.tp]⟩ :: sdC CM S1))) (sdT S1 ++ sdT S2) := N7.sel [5, 6, 7, 8, 0, 1, 2, 3, 4] rfl (by decide)
            clear N7 N6
            obtain ⟨e1, e2, e3, e4⟩ := o2.ee
            have stE : StV S2.s.m S2.s.w S2.s.l S2.s.a = StV S2.m S2.w S2.l S2.a := by rw [e1, e2, e3, e4]
            have hmok := o2.mok hi1
            have hw := o2.ok.2.1
            refine c_ifd (fun _ => ?_) (fun _ => ?_)
            · walk_at "kn"
              rename_i t1 H8 N9
              refine ⟨S2.st, S2.o, S2.sl, S2.m, S2.w, S2.l, S2.a, S2.b, rfl, N9.af.t _ _ (N.tup 3 rfl), (N9.sel [2, 3] (l' := omC S2.o S2.sl S2.b) rfl (by decide)).ok, by rw [o2.r.sure]; omega, fun H9 A9 => ?_⟩
              have N10 := N9.pure A9
              clear N9 N8
              rw [o2.r.full e4]
              cases hf : S2.s.full with
              | true =>
                walk_at "kn"
                rename_i t2 H10 N11
                clear N10
                have Z3 := Zn.aft N (by simp [plainO]) N11.af
                refine k_lam Z3.t fun H11 eN T11 => k_told ?_
                have N12 := N11.extN eN
                have Z4 := Z3.ext eN T11
                clear N11 Z3
                walk_at "kn"
                refine g_mSendE N12 hmok.ok (fun c2 => absurd (hf.symm.trans c2) (by decide)) (fun _ => ⟨CF, 4, rfl, rfl, koF, .inr (.inr rfl), fun p2 H13 A13 hp2 => ?_⟩)
                have N13 := (N12.pure A13).moreT hp2
                walk_at "kn"
                refine g_like (dp_one (z := "full") (N13.tup 0 rfl)) (dp_one (z := "full") (N13.tup 1 rfl)) dOk_one fun H14 A14 => ?_
                have N14 := N13.pure A14
                clear N13
                walk_at "kn"
                refine g_isi (a := "tuple") (r := false) (sqt_ty (.of (N14.tup 0 rfl))) kb_tl ?_
                walk_at "kn"
                have NF : Now K (some d) _ _ H14 (⟨true, L, .lst [.ref S1.tp, .ref S2.tp]⟩ :: (sdC CM S1 ++ sdC CM (S2 : Side))) (sdT S1 ++ sdT (S2 : Side)) := (N14.sel [4, 5, 6, 7, 8, 0, 1, 2, 3] rfl (by decide)).subT _ (by simp +contextual)
                exact fin _ _ ⟨S1, (S2 : Side), _, _, _, _, _, _, _, _, _, _, _, _, _, _, rfl, NF.reb, Z4.aft N12 (by simp [plainO]) NF.af, o1.up (Nat.le_succ _), o2.up (Nat.le_succ _)⟩
              | false =>
                walk_at "kn"
                refine g_dputS0 (N10.sel [2, 0, 1, 3, 4, 5, 6, 7, 8] (l' := ⟨true, S2.o, .dK (kvM S2.b.sent S2.sl)⟩ :: (mouthC CM S2.mp S2.mdx S2.mcl S2.st S2.s ++ (⟨true, S2.sl, .lst (S2.b.sure.map V.int)⟩ :: (⟨true, L, .lst [.ref S1.tp, .ref S2.tp]⟩ :: sdC CM S1)))) rfl (by decide)) (Nat.le_of_ble_eq_true rfl) (kvs' := kvM (S2.b.sent + 1) S2.sl) rfl fun H11 N11 => ?_
                walk_at "kn"
                have Z3 := Zn.aft N (by simp [plainO]) N11.af
                refine k_lam Z3.t fun H12 eN T12 => k_told ?_
                have N12 : Now K (some d) _ _ H11 (mouthC CM S2.mp S2.mdx S2.mcl S2.st S2.s ++ (omC S2.o S2.sl ⟨S2.b.sent + 1, S2.b.sure⟩ ++ (⟨true, L, .lst [.ref S1.tp, .ref S2.tp]⟩ :: sdC CM S1))) _ := N11.sel [1, 2, 0, 3, 4, 5, 6, 7, 8] rfl (by decide)
                have N13 := N12.extN eN
                have Z4 := Z3.ext eN T12
                clear N12 N11 N10 Z3
                walk_at "kn"
                refine g_mSendE N13 hmok.ok (fun _ t2 H13 N14 => ?_) (fun c2 => absurd (hf.symm.trans c2) (by decide))
                walk_at "kn"
                have h2 := N14.tup 1 rfl
                rw [o2.r.sent, ← e1] at h2
                refine g_like (dp_pair (N14.tup 0 rfl)) (dp_pair h2) dOk_pair fun H15 A15 => ?_
                have N15 := N14.pure A15
                clear N14
                walk_at "kn"
                refine g_isi (a := "tuple") (r := false) (sqt_ty (.of (N15.tup 0 rfl))) kb_tl ?_
                walk_at "kn"
                have NF : Now K (some d) _ _ H15 (⟨true, L, .lst [.ref S1.tp, .ref S2.tp]⟩ :: (sdC CM S1 ++ sdC CM ({ S2 with s := S2.s.send, b := ⟨S2.b.sent + 1, S2.b.sure⟩ } : Side))) (sdT S1 ++ sdT ({ S2 with s := S2.s.send, b := ⟨S2.b.sent + 1, S2.b.sure⟩ } : Side)) := (N15.sel [4, 5, 6, 7, 8, 0, 1, 2, 3] rfl (by decide)).subT _ (by simp +contextual)
                exact fin _ _ ⟨S1, ({ S2 with s := S2.s.send, b := ⟨S2.b.sent + 1, S2.b.sure⟩ } : Side), _, _, _, _, _, _, _, _, _, _, _, _, _, _, rfl, NF.reb, Z4.aft N13 (by simp [plainO]) NF.af, o1.up (Nat.le_succ _), o2.send⟩
            · walk_at "kn"
              rename_i v2 H8 N9 b5 b6
              refine c_lcR N9 (by omega) (fun k acc => ∃ zs : List Int, acc = zs.map V.int ∧ zs.length = k ∧ ∀ x ∈ zs, x = 0 ∨ x = 1) ⟨[], rfl, rfl, by simp⟩ (fun _ => rfl) (fun k Dd H2 acc hk N2 r => ?_) (fun p H2 acc N2 r => ?_)
              · obtain ⟨zs, rfl, hz, h01⟩ := r
                walk_at "kn"
                rename_i v4 H3 N3 c7 c8
                refine c_put N3 (by rw [List.length_map]; omega) ⟨zs ++ [if decide (v4 = 0) = true then 1 else 0], by rw [List.map_append]; rfl, by rw [List.length_append, hz]; rfl, fun x hx => ?_⟩
                rcases List.mem_append.mp hx with z | z
                · exact h01 x z
                · rw [List.mem_singleton.mp z]
                  split <;> simp
              · obtain ⟨zs, rfl, hz, h01⟩ := r
                walk_at "kn"
                rename_i b Hb Nb va Hc Nc q1 q2 vb Hd Nd q3 q4 lp Hx Nx vc Hf Nf q5 q6 vd hvd q Hq Nq
                have hmk : 0 ≤ (S2.b.sent - 1 - vd) % S2.m ∧ (S2.b.sent - 1 - vd) % S2.m < S2.m := ⟨Int.emod_nonneg _ (by omega), Int.emod_lt_of_pos _ (by omega)⟩
                generalize (S2.b.sent - 1 - vd) % S2.m = mk at *
                have pm := o2.r.some e1 e2 mk zs
                refine g_oHear (Nq.sel [4, 5, 2, 3, 6, 7, 8, 9, 10] (l' := omC S2.o S2.sl S2.b ++ (mouthC CM S2.mp S2.mdx S2.mcl S2.st S2.s ++ (⟨true, L, .lst [.ref S1.tp, .ref S2.tp]⟩ :: sdC CM S1))) rfl (by decide)) (Nq.af.t _ _ (N.tup 3 rfl)) (Nq.tup 0 rfl) (Nq.tup 1 rfl) o2.ok (by rw [o2.r.sure]; omega) hmk (by omega) (fun hneg H9 N10 => ?_) (fun hpos l sl' H9 N10 => ?_)
                · clear Nq Nf Nx Nd Nc Nb N2 N9 N8
                  walk_at "kn"
                  rename_i t2 H10 N11
                  have Z3 := Zn.aft N (by simp [plainO]) N11.af
                  refine k_lam Z3.t fun H11 eN T11 => k_told ?_
                  have N12 := (N11.sel [2, 3, 0, 1, 4, 5, 6, 7, 8] (l' := mouthC CM S2.mp S2.mdx S2.mcl S2.st S2.s ++ (omC S2.o S2.sl S2.b ++ (⟨true, L, .lst [.ref S1.tp, .ref S2.tp]⟩ :: sdC CM S1))) rfl (by decide)).extN eN
                  have Z4 := Z3.ext eN T11
                  clear N11 N10 Z3
                  walk_at "kn"
                  refine g_mHearE N12 (by rw [stE]; exact N12.tup 6 rfl) (N12.tup 1 rfl) (N12.tup 2 rfl) hmok (by rw [e1]; exact hmk) (by rw [e2]; omega) h01 (fun hp => ?_) (fun _ H13 N13 => ⟨CB, 3, rfl, rfl, ko, .inr (.inl rfl), fun p2 H14 A14 hp2 => ?_⟩)
                  · obtain ⟨x, hx, hx0⟩ := hneg
                    have := hp x (pm.mem_iff.mp hx)
                    omega
                  have N14 := (N13.pure A14).moreT hp2
                  walk_at "kn"
                  refine g_like (dp_one (z := "bits") (N14.tup 0 rfl)) (dp_one (z := "bits") (N14.tup 1 rfl)) dOk_one fun H15 A15 => ?_
                  have N15 := N14.pure A15
                  clear N14 N13
                  walk_at "kn"
                  refine g_isi (a := "tuple") (r := false) (sqt_ty (.of (N15.tup 0 rfl))) kb_tl ?_
                  walk_at "kn"
                  have NF : Now K (some d) _ _ H15 (⟨true, L, .lst [.ref S1.tp, .ref S2.tp]⟩ :: (sdC CM S1 ++ sdC CM (S2 : Side))) (sdT S1 ++ sdT (S2 : Side)) := (N15.sel [4, 5, 6, 7, 8, 0, 1, 2, 3] rfl (by decide)).subT _ (by simp +contextual)
                  exact fin _ _ ⟨S1, (S2 : Side), _, _, _, _, _, _, _, _, _, _, _, _, _, _, rfl, NF.reb, Z4.aft N12 (by simp [plainO]) NF.af, o1.up (Nat.le_succ _), o2.up (Nat.le_succ _)⟩
                · clear Nq Nf Nx Nd Nc Nb N2 N9 N8
                  walk_at "kn"
                  have Z3 := Zn.aft N (by simp [plainO]) N10.af
                  refine k_lam Z3.t fun H11 eN T11 => k_told ?_
                  have N12 := (N10.sel [3, 4, 0, 1, 2, 5, 6, 7, 8, 9] (l' := mouthC CM S2.mp S2.mdx S2.mcl S2.st S2.s ++ (⟨true, l, .lst ((S2.b.found S2.m S2.w mk zs).map V.int)⟩ :: (omC S2.o sl' (S2.b.hear S2.m S2.w mk zs) ++ (⟨true, L, .lst [.ref S1.tp, .ref S2.tp]⟩ :: sdC CM S1)))) rfl (by decide)).extN eN
                  have Z4 := Z3.ext eN T11
                  clear N10 Z3
                  walk_at "kn"
                  refine g_mHearE N12 (by rw [stE]; exact N12.tup 5 rfl) (N12.tup 0 rfl) (N12.tup 1 rfl) hmok (by rw [e1]; exact hmk) (by rw [e2]; omega) h01 (fun _ l2 mcl' H13 N13 => ?_) (fun hneg => ?_)
                  · walk_at "kn"
                    have h2 := N13.cell 3 rfl
                    rw [o2.r.found e1 e2 mk zs] at h2
                    refine g_like (m := 3) (.lst (.of (N13.cell 0 rfl)) (dpa_ints _)) (.lst (.of h2) (dpa_ints _)) (dOk_ints (m := 2) (by have := foundM_len hmok mk zs; omega)).1 fun H14 A14 => ?_
                    have N14 := N13.pure A14
                    clear N13
                    walk_at "kn"
                    refine g_isi (a := "list") (r := true) (sql_ty (.of (N14.cell 0 rfl))) kb_ll ?_
                    walk_at "kn"
                    refine g_clear N14 fun H15 N15 => ?_
                    walk_at "kn"
                    have NF : Now K (some d) _ _ H15 (⟨true, L, .lst [.ref S1.tp, .ref S2.tp]⟩ :: (sdC CM S1 ++ sdC CM ({ S2 with mcl := mcl', sl := sl', s := S2.s.hear mk zs, b := S2.b.hear S2.m S2.w mk zs } : Side))) (sdT S1 ++ sdT ({ S2 with mcl := mcl', sl := sl', s := S2.s.hear mk zs, b := S2.b.hear S2.m S2.w mk zs } : Side)) := (N15.sel [6, 7, 8, 9, 10, 1, 2, 4, 5] rfl (by decide)).subT _ (by simp +contextual)
                    exact fin _ _ ⟨S1, ({ S2 with mcl := mcl', sl := sl', s := S2.s.hear mk zs, b := S2.b.hear S2.m S2.w mk zs } : Side), _, _, _, _, _, _, _, _, _, _, _, _, _, _, rfl, NF.reb, Z4.aft N12 (by simp [plainO]) NF.af, o1.up (Nat.le_succ _), o2.hear hi1 mk zs mcl' sl'⟩
                  · obtain ⟨x, hx, hx0⟩ := hneg
                    have := hpos x (pm.mem_iff.mpr hx)
                    omega
      · clear N5 ZC hm1 hm2 o1 o2 Nb Na S1 S2
        rintro σ H5 ⟨S1, S2, _, _, _, _, _, _, _, _, _, _, _, _, _, _, rfl, N, Zn, o1, o2⟩
        walk_at "kn"
        exact kk _ Zn.z
end
theorem facts {P : Program} {w : World} {K : PySem.W.Frag} {h : Heap} {mg : Str → Option Value} {f : Addr} (X : K.In h) (G : h.Ns mainGlobals mg) (hfa : mg ("law" : Str) = some (.ref f)) (cx : xb K = true) (c : He.SaysD fa fn K) :
    ∃ fd : FuncData, (∀ (s : Shared) (v : Value), BindsTo s fd ⟨[v], []⟩ [("_law_script", v)]) ∧ ∀ base : Heap, K.In base → base.Ns mainGlobals mg → LamX.TabB base mg (He.cT K ("law", none)).1 (He.cT K ("law", none)).2 → FnOk P w K mg base CX0 12 f fd ["_law_script"] (spLaw K (He.cT K ("law", none)).2) := by
  have F_l_dice : Def K mg "_law_dice" s_l_dice := by
    obtain ⟨fd, F⟩ := c.def_ 0 (d := d_l_dice) rfl
    exact ⟨_, fd, F, He.glo_ok X G (c.fact 0 (f := .glo "_law_dice") rfl)⟩
  have F_l_next : Def K mg "_law_next" s_l_next := by
    obtain ⟨fd, F⟩ := c.def_ 1 (d := d_l_next) rfl
    exact ⟨_, fd, F, He.glo_ok X G (c.fact 1 (f := .glo "_law_next") rfl)⟩
  have F_need_setting : Def K mg "need_setting" s_need_setting := by
    obtain ⟨fd, F⟩ := c.def_ 2 (d := d_need_setting) rfl
    exact ⟨_, fd, F, He.glo_ok X G (c.fact 2 (f := .glo "need_setting") rfl)⟩
  have F_need_mark : Def K mg "need_mark" s_need_mark := by
    obtain ⟨fd, F⟩ := c.def_ 3 (d := d_need_mark) rfl
    exact ⟨_, fd, F, He.glo_ok X G (c.fact 3 (f := .glo "need_mark") rfl)⟩
  have F_need_bits : Def K mg "need_bits" s_need_bits := by
    obtain ⟨fd, F⟩ := c.def_ 4 (d := d_need_bits) rfl
    exact ⟨_, fd, F, He.glo_ok X G (c.fact 4 (f := .glo "need_bits") rfl)⟩
  have F_l_like : Def K mg "_law_like" s_l_like := by
    obtain ⟨fd, F⟩ := c.def_ 5 (d := d_l_like) rfl
    exact ⟨_, fd, F, He.glo_ok X G (c.fact 5 (f := .glo "_law_like") rfl)⟩
  have F_Mouth_init : DefC K mg (He.ga K "Mouth") "Mouth" "Mouth.__init__" s_Mouth_init := by
    obtain ⟨fd, F⟩ := c.def_ 6 (d := d_Mouth_init) rfl
    exact ⟨_, fd, F, He.mkr_ok (c.fact 39 (f := .mkr "Mouth") rfl), He.glo_ok X G (c.fact 29 (f := .glo "Mouth") rfl)⟩
  have F_Mouth_is_full : DefM K (He.ga K "Mouth") "is_full" "Mouth.is_full" s_Mouth_is_full := by
    obtain ⟨fd, F⟩ := c.def_ 7 (d := d_Mouth_is_full) rfl
    exact ⟨_, fd, F, He.meth_ok (c.fact 40 (f := .meth "Mouth" "is_full") rfl)⟩
  have F_Mouth_send : DefM K (He.ga K "Mouth") "send" "Mouth.send" s_Mouth_send := by
    obtain ⟨fd, F⟩ := c.def_ 8 (d := d_Mouth_send) rfl
    exact ⟨_, fd, F, He.meth_ok (c.fact 41 (f := .meth "Mouth" "send") rfl)⟩
  have F_Mouth_hear : DefM K (He.ga K "Mouth") "hear" "Mouth.hear" s_Mouth_hear := by
    obtain ⟨fd, F⟩ := c.def_ 9 (d := d_Mouth_hear) rfl
    exact ⟨_, fd, F, He.meth_ok (c.fact 42 (f := .meth "Mouth" "hear") rfl)⟩
  have F_Mouth_last : DefM K (He.ga K "Mouth") "last" "Mouth.last" s_Mouth_last := by
    obtain ⟨fd, F⟩ := c.def_ 10 (d := d_Mouth_last) rfl
    exact ⟨_, fd, F, He.meth_ok (c.fact 43 (f := .meth "Mouth" "last") rfl)⟩
  have F_Mouth_sure : DefM K (He.ga K "Mouth") "sure" "Mouth.sure" s_Mouth_sure := by
    obtain ⟨fd, F⟩ := c.def_ 11 (d := d_Mouth_sure) rfl
    exact ⟨_, fd, F, He.meth_ok (c.fact 44 (f := .meth "Mouth" "sure") rfl)⟩
  have F_l_setting : Def K mg "_law_setting" s_l_setting := by
    obtain ⟨fd, F⟩ := c.def_ 12 (d := d_l_setting) rfl
    exact ⟨_, fd, F, He.glo_ok X G (c.fact 6 (f := .glo "_law_setting") rfl)⟩
  have F_l_mouth : Def K mg "_law_mouth" s_l_mouth := by
    obtain ⟨fd, F⟩ := c.def_ 13 (d := d_l_mouth) rfl
    exact ⟨_, fd, F, He.glo_ok X G (c.fact 7 (f := .glo "_law_mouth") rfl)⟩
  have F_l_is_full : Def K mg "_law_is_full" s_l_is_full := by
    obtain ⟨fd, F⟩ := c.def_ 14 (d := d_l_is_full) rfl
    exact ⟨_, fd, F, He.glo_ok X G (c.fact 8 (f := .glo "_law_is_full") rfl)⟩
  have F_l_hear : Def K mg "_law_hear" s_l_hear := by
    obtain ⟨fd, F⟩ := c.def_ 15 (d := d_l_hear) rfl
    exact ⟨_, fd, F, He.glo_ok X G (c.fact 9 (f := .glo "_law_hear") rfl)⟩
  have F_l_told : Def K mg "_law_told" s_l_told := by
    obtain ⟨fd, F⟩ := c.def_ 16 (d := d_l_told) rfl
    exact ⟨_, fd, F, He.glo_ok X G (c.fact 10 (f := .glo "_law_told") rfl)⟩
  have F_l_is : Def K mg "_law_is" s_l_is := by
    obtain ⟨fd, F⟩ := c.def_ 17 (d := d_l_is) rfl
    exact ⟨_, fd, F, He.glo_ok X G (c.fact 11 (f := .glo "_law_is") rfl)⟩
  obtain ⟨fdL, F_law⟩ := c.def_ 18 (d := d_law) rfl
  cases hfa.symm.trans (He.glo_ok X G (c.fact 12 (f := .glo "law") rfl))
  have B : Bt mg := ⟨He.free_ok X G (c.fact 13 (f := .free "len") rfl), He.free_ok X G (c.fact 14 (f := .free "int") rfl), He.free_ok X G (c.fact 15 (f := .free "isinstance") rfl), He.free_ok X G (c.fact 16 (f := .free "range") rfl), He.free_ok X G (c.fact 17 (f := .free "sorted") rfl), He.free_ok X G (c.fact 18 (f := .free "list") rfl), He.free_ok X G (c.fact 19 (f := .free "tuple") rfl), He.free_ok X G (c.fact 20 (f := .free "max") rfl), He.free_ok X G (c.fact 21 (f := .free "min") rfl), He.free_ok X G (c.fact 22 (f := .free "set") rfl), He.free_ok X G (c.fact 23 (f := .free "str") rfl), He.free_ok X G (c.fact 24 (f := .free "enumerate") rfl), He.free_ok X G (c.fact 25 (f := .free "bool") rfl), He.free_ok X G (c.fact 26 (f := .free "dict") rfl)⟩
  unfold xb at cx
  obtain ⟨cx_LEAST, cx⟩ := He.ba cx
  obtain ⟨cx_MOST, cx⟩ := He.ba cx
  obtain ⟨ck_BadBits, cx⟩ := He.ba cx
  obtain ⟨ck_Full, cx⟩ := He.ba cx
  obtain ⟨co_BadBits, cx⟩ := He.ba cx
  have co_Full := cx
  have Kn : Kin mg (He.ga K "BadSetting") (He.ga K "BadMark") (He.ga K "BadBits") (He.ga K "Full") (He.ga K "BadEvent") (He.ga K "BadText") (He.ga K "BitsError") := ⟨He.glo_ok X G (c.fact 45 (f := .glo "BadSetting") rfl), He.glo_ok X G (c.fact 46 (f := .glo "BadMark") rfl), He.glo_ok X G (c.fact 47 (f := .glo "BadBits") rfl), He.glo_ok X G (c.fact 48 (f := .glo "Full") rfl), He.glo_ok X G (c.fact 49 (f := .glo "BadEvent") rfl), He.glo_ok X G (c.fact 50 (f := .glo "BadText") rfl), He.glo_ok X G (c.fact 51 (f := .glo "BitsError") rfl), He.free_ok X G (c.fact 52 (f := .free "ValueError") rfl)⟩
  have T_BadBits : ExK K mg "BadBits" (He.ga K "BadBits") := exKB_ok Kn.g3 ck_BadBits
  have T_Full : ExK K mg "Full" (He.ga K "Full") := exKB_ok Kn.g4 ck_Full
  have ko_BadBits := kofB_ok co_BadBits
  have ko_Full := kofB_ok co_Full
  have htab : ∀ c', fdL.code = .ref c' → (He.cT K ("law", none)).1 = c' := fun c' e => by
    obtain ⟨oc, od, dV, kV, doc, pm, an, cdv, ct, osl, hfd, lk, _, _, _⟩ := id F_law.ex
    exact He.codeOf_eq lk e
  have C_LEAST : Cst K mg "LEAST" (He.ga K "LEAST") [.int 2, .int 0, .int 0, .int 1] := ⟨He.glo_ok X G (c.fact 27 (f := .glo "LEAST") rfl), fun H => He.tupB_ok cx_LEAST H⟩
  have C_MOST : Cst K mg "MOST" (He.ga K "MOST") [.int 64, .int 16, .int 8, .int 16] := ⟨He.glo_ok X G (c.fact 28 (f := .glo "MOST") rfl), fun H => He.tupB_ok cx_MOST H⟩
  have cl_Mouth : Cls K (He.ga K "Mouth") := He.cls_ok (c.fact 30 (f := .cls "Mouth") rfl)
  have na_Mouth_marks : NoAttr K (He.ga K "Mouth") "marks" := He.noat_ok (c.fact 31 (f := .noat "Mouth" "marks") rfl)
  have na_Mouth_wide : NoAttr K (He.ga K "Mouth") "wide" := He.noat_ok (c.fact 32 (f := .noat "Mouth" "wide") rfl)
  have na_Mouth_late : NoAttr K (He.ga K "Mouth") "late" := He.noat_ok (c.fact 33 (f := .noat "Mouth" "late") rfl)
  have na_Mouth_ahead : NoAttr K (He.ga K "Mouth") "ahead" := He.noat_ok (c.fact 34 (f := .noat "Mouth" "ahead") rfl)
  have na_Mouth_setting : NoAttr K (He.ga K "Mouth") "setting" := He.noat_ok (c.fact 35 (f := .noat "Mouth" "setting") rfl)
  have na_Mouth_sent : NoAttr K (He.ga K "Mouth") "sent" := He.noat_ok (c.fact 36 (f := .noat "Mouth" "sent") rfl)
  have na_Mouth_certain : NoAttr K (He.ga K "Mouth") "certain" := He.noat_ok (c.fact 37 (f := .noat "Mouth" "certain") rfl)
  have na_Mouth_top : NoAttr K (He.ga K "Mouth") "top" := He.noat_ok (c.fact 38 (f := .noat "Mouth" "top") rfl)
  have b := FunD.bindsA (ps := ["_law_script"]) F_law fun _ _ _ _ _ _ us hl => match us, hl with | [_], _ => rfl
  refine ⟨fdL, fun s v => b s [v] rfl, fun base _ _ htb => ?_⟩
  have HTB : ∀ c', fdL.code = .ref c' → LamX.TabB base mg c' (He.cT K ("law", none)).2 := fun c' e => htab c' e ▸ htb
  have c_l_dice : Cal P w K mg base CX0 1 "_law_dice" ["_law_script"] (spDice K) := ok_dice F_l_dice B
  have c_l_next : Cal P w K mg base CX0 1 "_law_next" ["_law_dice_here", "_law_many"] (spNext K) := ok_next F_l_next B
  have c_l_like : Cal P w K mg base CX0 5 "_law_like" ["_law_found", "_law_due"] (spLike K 4) := ok_like F_l_like B 4
  have c_needS : Cal P w K mg base CX0 1 "need_setting" ["setting"] spNeedS := ok_needS F_need_setting B C_LEAST C_MOST
  have c_needM : Cal P w K mg base CX0 1 "need_mark" ["setting", "mark"] spNeedM := ok_needM F_need_mark B
  have c_needB : Cal P w K mg base CX0 2 "need_bits" ["setting", "told"] spNeedB := ok_needB F_need_bits B c_needM
  have TM : MTx K (He.ga K "Mouth") := ⟨cl_Mouth, na_Mouth_marks, na_Mouth_wide, na_Mouth_late, na_Mouth_ahead, na_Mouth_setting, na_Mouth_sent, na_Mouth_certain, na_Mouth_top⟩
  have c_minit : CalC P w K mg base CX0 (He.ga K "Mouth") 2 "Mouth" ["self", "setting"] (spMInit (He.ga K "Mouth")) := ok_MInit F_Mouth_init TM B c_needS
  have c_mfull : CalM P w K mg base CX0 (He.ga K "Mouth") 1 "is_full" ["self"] (spMFull K (He.ga K "Mouth")) := ok_MFull F_Mouth_is_full TM
  have c_mlast : CalM P w K mg base CX0 (He.ga K "Mouth") 1 "last" ["self"] (spMLast K (He.ga K "Mouth")) := ok_MLast F_Mouth_last TM
  have c_msure := ok_MSure (P := P) (w := w) (base := base) F_Mouth_sure TM B
  have c_sendE := ok_MSendE (P := P) (w := w) (base := base) F_Mouth_send TM T_Full c_mfull
  have c_hearE := ok_MHearE (P := P) (w := w) (base := base) F_Mouth_hear TM B T_BadBits c_needB
  have c_omouth := ok_OMouth (P := P) (w := w) (base := base) F_l_mouth
  have c_ofull := ok_OFull (P := P) (w := w) (base := base) F_l_is_full B
  have c_ohear := ok_OHear (P := P) (w := w) (base := base) F_l_hear B
  have c_setting := ok_setting F_l_setting B c_l_next
  have c_lis := ok_is F_l_is B cl_Mouth c_msure c_mlast c_mfull c_ofull c_l_like
  exact ok_law F_law B Kn ko_BadBits ko_Full HTB F_l_told cl_Mouth c_minit c_sendE c_hearE c_l_dice c_l_next c_setting c_l_like c_omouth c_ofull c_ohear c_lis
end Ak
open PySem PySem.W PySem.Calls PyProof.Rows
theorem PySem.Challenge.cw_ackbits_k03_mouths_holds : PySem.Challenge.rw_ackbits_k03_mouths.Holds := by
  w_on; o_law
  refine HandSHeadRun.head_any (r := OpenLaw.row PySem.Challenge.rw_ackbits_k03_mouths) (q := view (OpenLaw.row PySem.Challenge.rw_ackbits_k03_mouths).prog [28]) (H := Ak.hk) (ob := Ak.ob) (M := 4000) (loose := Ak.looseN) (d := HandSHeadRun.topDef (OpenLaw.row PySem.Challenge.rw_ackbits_k03_mouths).prog 28) (kwd := []) Ak.ob_eq
    (by kernel_rfl) (fun s => by kernel_rfl) Ak.run (by kernel_rfl) (by kernel_rfl) (by kernel_rfl) (by rfl) (by first | assumption | decide +kernel) (by decide +kernel) ⟨rfl, rfl, rfl, rfl, rfl, by decide +kernel⟩ ?hw ?hc
  case hw => w_witness2
  case hc =>
    refine LamX.walk_ofTsE (l := PySem.Challenge.rw_ackbits_k03_mouths) (n := 63) (k := 12) (x := "_law_script") (CX := fun _ => L2.CX0) rfl (by decide) (by kernel_rfl) ⟨rfl, by decide, by decide⟩ ?F (fun _ _ _ _ _ z => z)
    intro w mg fa h Y G hmg0
    obtain ⟨K, KX, c⟩ := Y
    have hmg : mg ("law" : PySem.Str) = some (.ref fa) := by
      have e : (HandSHeadRun.topDef (OpenLaw.row PySem.Challenge.rw_ackbits_k03_mouths).prog 28).name = ("law" : PySem.Str) := by kernel_rfl
      rw [← e]
      exact hmg0
    obtain ⟨fd, hb, hF⟩ := Ak.facts (P := (PySem.Challenge.rw_ackbits_k03_mouths).prog) (w := w) KX G hmg c.more c.t.d
    have mem : (("law", none) : He.Defn) ∈ Ak.tf := List.mem_cons_self
    have one : ∀ p ∈ [He.cT K ("law", none)], p = He.cT K ("law", none) := fun p hp => List.mem_singleton.mp hp
    exact ⟨K, KX, fd, [He.cT K ("law", none)], Ak.spLaw K (He.cT K ("law", none)).2, fun p hp => by rw [one p hp]; exact c.empty _ mem, fun p hp => by rw [one p hp]; exact c.out _ mem, fun p hp => by rw [one p hp]; exact codeHd_of_K KX (c.hd _ mem), hb,
      fun H a ns hl hbits hH hS => ⟨a, ns, rfl, hS, hl, hH _ List.mem_cons_self, fun _ => rfl⟩, fun base hK hN hT => hF base hK hN (hT _ List.mem_cons_self)⟩
