import PyProof.Rows.All
import Wide.All
import OpenK.AllK
import Wide.FinOn
import KE.KStateDown
import Lean
import HandS.Base
import HandS.Call
import HandS.Ends
import HandS.More
import HandS.Words
import HandS.WordsExc
import HandS.Defaults
import HandS.Head0
import HandS.Head1
import HandS.Head2
import HandS.HeadEnd
import HandS.HeadHook1
import HandS.HeadHook2
import HandS.ForMost
import HandS.IsInst
import KE.KAssignIn
import HandS.SortInts
import PySem.Challenge.RW_ackbits_k08_loads
set_option Elab.async false
set_option linter.all false
set_option maxRecDepth 100000
set_option maxHeartbeats 8000000
/-! The common part: what a def keeps (Aft), what stands now (Now), the dice, calls by name. -/
namespace Ak
open PySem PySem.Spec PyProof.Rows L2

/-! ### what is kept -/
structure Aft (M : List Addr) (H H' : Hp) : Prop where
  k : ∀ b o, H b = some o → b ∉ M → H' b = some o
  t : ∀ b xs, H b = some (.tup xs) → H' b = some (.tup xs)
  z : ∀ b u o, H b = some (.frz u o) → H' b = some (.frz u o)
section
variable {M M' : List Addr} {H H' H1 H2 : Hp} {p : Addr} {o u : HO} {K : PySem.W.Frag} {a : Addr} {xs : List V}
theorem Aft.refl : Aft M H H := ⟨fun _ _ h _ => h, fun _ _ h => h, fun _ _ _ h => h⟩
theorem Aft.trans (a : Aft M H H1) (b : Aft M H1 H2) : Aft M H H2 :=
  ⟨fun c o h hm => b.k c o (a.k c o h hm) hm, fun c xs h => b.t c xs (a.t c xs h), fun c v o h => b.z c v o (a.z c v o h)⟩
theorem Aft.mono (a : Aft M H H') (h : ∀ x ∈ M, x ∈ M') : Aft M' H H' := ⟨fun b o e hm => a.k b o e fun z => hm (h b z), a.t, a.z⟩
/-- behind a call that changes M' -/
theorem Aft.call (a : Aft M H H1) (b : Aft M' H1 H2) (h : ∀ x ∈ M', x ∈ M ∨ H x = none) : Aft M H H2 :=
  ⟨fun c o e hm => b.k c o (a.k c o e hm) fun z => (h c z).elim hm fun n => (by rw [n] at e; cases e), fun c xs h => b.t c xs (a.t c xs h), fun c v o h => b.z c v o (a.z c v o h)⟩
theorem Aft.new (a : Aft M H H') (hp : H' p = none) : Aft M H (upd H' p o) :=
  ⟨fun b v e hm => by rw [upd_ne (ne_of_none (a.k b v e hm) hp)]; exact a.k b v e hm,
   fun b xs e => by rw [upd_ne (ne_of_none (a.t b xs e) hp)]; exact a.t b xs e,
   fun b v w e => by rw [upd_ne (ne_of_none (a.z b v w e) hp)]; exact a.z b v w e⟩
theorem Aft.put (a : Aft M H H') (hp : H' p = some u) (hn : Mut (some u)) (hw : p ∈ M ∨ H p = none) : Aft M H (upd H' p o) := by
  refine ⟨fun b v e hm => ?_, fun b xs e => ?_, fun b v w e => ?_⟩
  · have ne : b ≠ p := by
      rintro rfl
      rcases hw with z | z
      · exact hm z
      · rw [z] at e; cases e
    rw [upd_ne ne]; exact a.k b v e hm
  · have ne : b ≠ p := by
      rintro rfl
      have q := a.t b xs e
      rw [hp] at q
      cases q
      exact hn
    rw [upd_ne ne]; exact a.t b xs e
  · have ne : b ≠ p := by
      rintro rfl
      have q := a.z b v w e
      rw [hp] at q
      cases q
      exact hn
    rw [upd_ne ne]; exact a.z b v w e
theorem Aft.free (a : Aft M H H') (hm : p ∉ M) (h : H' p = none) : H p = none := by
  cases q : H p with
  | none => rfl
  | some o => rw [a.k p o q hm] at h; cases h
theorem Aft.sqt (e : Aft M H H') (h : SqT K H a xs) : SqT K H' a xs := by
  rcases h with (h | ⟨o, h⟩) | h
  · exact .inl (.inl (e.t _ _ h))
  · exact .inl (.inr ⟨o, e.z _ _ _ h⟩)
  · exact .inr h
/-- the script: locked, or the module's own -/
def Scr (K : PySem.W.Frag) (H : Hp) (a : Addr) (xs : List V) : Prop := (∃ u, H a = some (.frz u (.lst xs))) ∨
  ∃ (o : Obj) (its : Array Value) (n : Nat), K.lookup a = some o ∧ o.cls = .type "list" ∧ o.dict = none ∧ o.data = .seq its n ∧ its.size ≤ sizeLine ∧ Vals xs its.toList
theorem Scr.sq (h : Scr K H a xs) : SqL K H a xs := h.elim (fun ⟨u, h⟩ => .inl (.inr ⟨u, h⟩)) .inr
theorem Scr.keep (h : Scr K H a xs) (e : Aft M H H') : Scr K H' a xs := h.elim (fun ⟨u, h⟩ => .inl ⟨u, e.z _ _ _ h⟩) .inr
theorem Scr.only (hO : Only H) (h : SqL K H a xs) : Scr K H a xs := by
  rcases h with (h | h) | h
  · rcases hO a with z | ⟨u, ys, z⟩
    · rw [z] at h; cases h
    · rw [z] at h; cases h
  · exact .inl h
  · exact .inr h
end

/-! ### the dice: a list of the script, a place, two numbers -/
abbrev dO (a : Addr) (i m r : Int) : HO := .lst [.ref a, .int i, .int m, .int r]
structure Dice (K : PySem.W.Frag) (H : Hp) (d : Addr) : Prop where
  ex : ∃ (a : Addr) (ns : List Int) (i m r : Int), H d = some (dO a i m r) ∧ Scr K H a (ns.map V.int) ∧ ns.length ≤ 63 ∧ 0 ≤ i ∧ 0 ≤ m ∧ m < 2147483647
section
variable {K : PySem.W.Frag} {H H' : Hp} {d : Addr} {M : List Addr}
theorem Dice.lst (h : Dice K H d) : ∃ xs, H d = some (.lst xs) := by
  obtain ⟨a, ns, i, m, r, h, _⟩ := h.ex
  exact ⟨_, h⟩
theorem Dice.keep (h : Dice K H d) (e : Aft M H H') (hd : d ∉ M) : Dice K H' d := by
  obtain ⟨a, ns, i, m, r, h1, h2, h3⟩ := h.ex
  exact ⟨a, ns, i, m, r, e.k _ _ h1 hd, h2.keep e, h3⟩
end

/-! ### what stands now -/
structure Cel where
  w : Bool
  a : Addr
  o : HO
/-- l: the cells, the own ones (w) may be changed; ts: tuples; M: what may be changed of H0's; D: the dice -/
structure Now (K : PySem.W.Frag) (D : Option Addr) (M : List Addr) (H0 H : Hp) (l : List Cel) (ts : List (Addr × List V)) : Prop where
  nd : (l.map Cel.a).Nodup
  at_ : ∀ c ∈ l, H c.a = some c.o
  mu : ∀ c ∈ l, Mut (some c.o)
  ow : ∀ c ∈ l, c.w = true → c.a ∈ M ∨ H0 c.a = none
  tp : ∀ p ∈ ts, H p.1 = some (.tup p.2)
  af : Aft M H0 H
  dc : ∀ d, D = some d → Dice K H d ∧ (d ∈ M ∨ H0 d = none) ∧ d ∉ l.map Cel.a
section
variable {K : PySem.W.Frag} {D : Option Addr} {M M' : List Addr} {H0 H H' : Hp} {l l' : List Cel} {ts : List (Addr × List V)} {p a d : Addr} {o u : HO} {xs : List V} {c : Cel} {w : Bool}
theorem Now.get (N : Now K D M H0 H l ts) (i : Nat) (h : l[i]? = some c) : H c.a = some c.o := N.at_ c (List.mem_of_getElem? h)
theorem Now.cell (N : Now K D M H0 H l ts) (i : Nat) (h : l[i]? = some ⟨w, a, o⟩) : H a = some o := N.get i h
theorem Now.tup (N : Now K D M H0 H l ts) (i : Nat) (h : ts[i]? = some (a, xs)) : H a = some (.tup xs) := N.tp _ (List.mem_of_getElem? h)
theorem Now.free (N : Now K D M H0 H l ts) (hp : H p = none) : p ∉ l.map Cel.a := fun m => by
  obtain ⟨c, hc, e⟩ := List.mem_map.mp m
  have q := N.at_ c hc
  rw [e, hp] at q; cases q
/-- a new tuple -/
theorem Now.newT (N : Now K D M H0 H l ts) (hp : H p = none) : Now K D M H0 (upd H p (.tup xs)) l ((p, xs) :: ts) where
  nd := N.nd
  at_ := fun c hc => by rw [upd_ne (ne_of_none (N.at_ c hc) hp)]; exact N.at_ c hc
  mu := N.mu
  ow := N.ow
  tp := fun q hq => by
    rcases List.mem_cons.mp hq with e | hq
    · subst e; exact upd_same
    · rw [upd_ne (ne_of_none (N.tp q hq) hp)]; exact N.tp q hq
  af := N.af.new hp
  dc := fun d e => by
    obtain ⟨h1, h2, h3⟩ := N.dc d e
    exact ⟨h1.keep (M := []) (Aft.refl.new hp) (by simp), h2, h3⟩
/-- a new cell -/
theorem Now.newC (N : Now K D M H0 H l ts) (hp : H p = none) (hm : Mut (some o)) : Now K D M H0 (upd H p o) (⟨true, p, o⟩ :: l) ts where
  nd := List.nodup_cons.mpr ⟨N.free hp, N.nd⟩
  at_ := fun c hc => by
    rcases List.mem_cons.mp hc with e | hc
    · subst e; exact upd_same
    · rw [upd_ne (ne_of_none (N.at_ c hc) hp)]; exact N.at_ c hc
  mu := fun c hc => by
    rcases List.mem_cons.mp hc with e | hc
    · subst e; exact hm
    · exact N.mu c hc
  ow := fun c hc hw => by
    rcases List.mem_cons.mp hc with e | hc
    · subst e
      by_cases z : p ∈ M
      · exact .inl z
      · exact .inr (N.af.free z hp)
    · exact N.ow c hc hw
  tp := fun q hq => by rw [upd_ne (ne_of_none (N.tp q hq) hp)]; exact N.tp q hq
  af := N.af.new hp
  dc := fun d e => by
    obtain ⟨h1, h2, h3⟩ := N.dc d e
    refine ⟨h1.keep (M := []) (Aft.refl.new hp) (by simp), h2, ?_⟩
    intro m
    rcases List.mem_cons.mp m with q | q
    · obtain ⟨ys, hy⟩ := h1.lst
      rw [q] at hy
      have z : H p = some (.lst ys) := hy
      rw [hp] at z; cases z
    · exact h3 q
theorem nodup_at {l : List Cel} (nd : (l.map Cel.a).Nodup) {i j : Nat} {c c' : Cel} (h : l[i]? = some c) (h' : l[j]? = some c') (e : c.a = c'.a) : i = j := by
  have h1 : (l.map Cel.a)[i]? = some c.a := by rw [List.getElem?_map, h]; rfl
  have h2 : (l.map Cel.a)[j]? = some c.a := by rw [List.getElem?_map, h', e]; rfl
  obtain ⟨b1, e1⟩ := List.getElem?_eq_some_iff.mp h1
  obtain ⟨b2, e2⟩ := List.getElem?_eq_some_iff.mp h2
  exact (List.getElem_inj nd).mp (e1.trans e2.symm)
theorem set_map {l : List Cel} {i : Nat} {o o' : HO} (h : l[i]? = some ⟨w, a, o⟩) : (l.set i ⟨w, a, o'⟩).map Cel.a = l.map Cel.a := by
  rw [List.map_set]
  have h1 : (l.map Cel.a)[i]? = some a := by rw [List.getElem?_map, h]; rfl
  obtain ⟨b, e⟩ := List.getElem?_eq_some_iff.mp h1
  show (l.map Cel.a).set i a = _
  rw [← e]
  exact List.set_getElem_self b
/-- a cell is written: directly, or by a call that changes it alone -/
theorem Now.set (N : Now K D M H0 H l ts) (i : Nat) (h : l[i]? = some ⟨true, a, o⟩) (A : Aft [a] H H') (hu : H' a = some u) (hm : Mut (some u)) : Now K D M H0 H' (l.set i ⟨true, a, u⟩) ts := by
  have mem := List.mem_of_getElem? h
  have other : ∀ c ∈ l, c.a ≠ a → H' c.a = some c.o := fun c hc ne => A.k _ _ (N.at_ c hc) (by simpa using ne)
  have cases_ : ∀ c ∈ l.set i ⟨true, a, u⟩, c = ⟨true, a, u⟩ ∨ (c ∈ l ∧ c.a ≠ a) := fun c hc => by
    obtain ⟨j, hj⟩ := List.getElem?_of_mem hc
    by_cases e : i = j
    · subst e
      rw [List.getElem?_set_self (List.getElem?_eq_some_iff.mp h).1] at hj
      exact .inl (Option.some.inj hj).symm
    · rw [List.getElem?_set_ne e] at hj
      exact .inr ⟨List.mem_of_getElem? hj, fun q => e (nodup_at N.nd h hj q.symm)⟩
  refine ⟨by rw [set_map h]; exact N.nd, fun c hc => ?_, fun c hc => ?_, fun c hc hw => ?_, fun q hq => A.t _ _ (N.tp q hq), N.af.call A (by simpa using N.ow _ mem rfl), fun d e => ?_⟩
  · rcases cases_ c hc with e | ⟨hc, ne⟩
    · subst e; exact hu
    · exact other c hc ne
  · rcases cases_ c hc with e | ⟨hc, ne⟩
    · subst e; exact hm
    · exact N.mu c hc
  · rcases cases_ c hc with e | ⟨hc, ne⟩
    · subst e; exact N.ow ⟨true, a, o⟩ mem rfl
    · exact N.ow c hc hw
  · obtain ⟨h1, h2, h3⟩ := N.dc d e
    rw [set_map h]
    exact ⟨h1.keep A (by
      intro m
      have e : d = a := by simpa using m
      subst e
      exact h3 (List.mem_map.mpr ⟨_, mem, rfl⟩)), h2, h3⟩
theorem Now.put (N : Now K D M H0 H l ts) (i : Nat) (h : l[i]? = some ⟨true, a, o⟩) (hm : Mut (some u)) : Now K D M H0 (upd H a u) (l.set i ⟨true, a, u⟩) ts :=
  N.set i h (Aft.refl.put (N.cell i h) (N.mu _ (List.mem_of_getElem? h)) (.inl (by simp))) upd_same hm
/-- a call that changes nothing -/
theorem Now.pure (N : Now K D M H0 H l ts) (A : Aft [] H H') : Now K D M H0 H' l ts where
  nd := N.nd
  at_ := fun c hc => A.k _ _ (N.at_ c hc) (by simp)
  mu := N.mu
  ow := N.ow
  tp := fun q hq => A.t _ _ (N.tp q hq)
  af := N.af.call A (by simp)
  dc := fun d e => by
    obtain ⟨h1, h2, h3⟩ := N.dc d e
    exact ⟨h1.keep A (by simp), h2, h3⟩
/-- a call that rolls the dice -/
theorem Now.roll (N : Now K (some d) M H0 H l ts) (A : Aft [d] H H') (hd : Dice K H' d) : Now K (some d) M H0 H' l ts where
  nd := N.nd
  at_ := fun c hc => A.k _ _ (N.at_ c hc) (by
    intro m
    have e : c.a = d := by simpa using m
    exact (N.dc d rfl).2.2 (List.mem_map.mpr ⟨c, hc, e⟩))
  mu := N.mu
  ow := N.ow
  tp := fun q hq => A.t _ _ (N.tp q hq)
  af := N.af.call A (by simpa using (N.dc d rfl).2.1)
  dc := fun d' e => by
    cases e
    exact ⟨hd, (N.dc d rfl).2⟩
/-- cells are forgotten, or in another order -/
theorem Now.sub (N : Now K D M H0 H l ts) (l' : List Cel) (h : ∀ c ∈ l', c ∈ l) (nd : (l'.map Cel.a).Nodup) : Now K D M H0 H l' ts where
  nd := nd
  at_ := fun c hc => N.at_ c (h c hc)
  mu := fun c hc => N.mu c (h c hc)
  ow := fun c hc => N.ow c (h c hc)
  tp := N.tp
  af := N.af
  dc := fun d e => by
    obtain ⟨h1, h2, h3⟩ := N.dc d e
    exact ⟨h1, h2, fun m => by
      obtain ⟨c, hc, e⟩ := List.mem_map.mp m
      exact h3 (List.mem_map.mpr ⟨c, h c hc, e⟩)⟩
theorem Now.tl (N : Now K D M H0 H (c :: l) ts) : Now K D M H0 H l ts := N.sub l (fun _ h => List.mem_cons_of_mem _ h) (List.nodup_cons.mp N.nd).2
theorem Now.tl1 {c' : Cel} (N : Now K D M H0 H (c' :: c :: l) ts) : Now K D M H0 H (c' :: l) ts := N.sub _ (fun x h => by
  rcases List.mem_cons.mp h with e | h
  · exact List.mem_cons.mpr (.inl e)
  · exact List.mem_cons_of_mem _ (List.mem_cons_of_mem _ h)) (by
  have := N.nd
  simp only [List.map_cons, List.nodup_cons, List.mem_cons, not_or] at this ⊢
  exact ⟨this.1.2, this.2.2⟩)
theorem Now.subT (N : Now K D M H0 H l ts) (ts' : List (Addr × List V)) (h : ∀ p ∈ ts', p ∈ ts) : Now K D M H0 H l ts' := ⟨N.nd, N.at_, N.mu, N.ow, fun p hp => N.tp p (h p hp), N.af, N.dc⟩
theorem Now.moreT (N : Now K D M H0 H l ts) (h : H p = some (.tup xs)) : Now K D M H0 H l ((p, xs) :: ts) := ⟨N.nd, N.at_, N.mu, N.ow, fun q hq => by
  rcases List.mem_cons.mp hq with e | hq
  · subst e; exact h
  · exact N.tp q hq, N.af, N.dc⟩
/-- the start of a def -/
theorem Now.start (nd : (l.map Cel.a).Nodup) (at_ : ∀ c ∈ l, H c.a = some c.o ∧ Mut (some c.o) ∧ (c.w = true → c.a ∈ M)) (tp : ∀ p ∈ ts, H p.1 = some (.tup p.2)) (dc : ∀ d, D = some d → Dice K H d ∧ d ∈ M ∧ d ∉ l.map Cel.a) : Now K D M H H l ts :=
  ⟨nd, fun c hc => (at_ c hc).1, fun c hc => (at_ c hc).2.1, fun c hc hw => .inl ((at_ c hc).2.2 hw), tp, .refl, fun d e => ⟨(dc d e).1, .inl (dc d e).2.1, (dc d e).2.2⟩⟩
theorem Now.start0 (tp : ∀ p ∈ ts, H p.1 = some (.tup p.2)) : Now K none M H H [] ts := .start (by simp) (by simp) tp (by simp)
theorem Now.startD (hd : Dice K H d) (tp : ∀ p ∈ ts, H p.1 = some (.tup p.2)) : Now K (some d) [d] H H [] ts := .start (by simp) (by simp) tp (by simp [hd])
end
end Ak
namespace Ak
open PySem PySem.Spec PyProof.Rows L2
/-! ### readings, step by step -/
section
variable {σ : L2.St} {H : Hp} {D : Ends} {t u : TS} {te ta tb tc : TE} {tr : TA} {g : TG} {Q : VK} {tt tu : TT} {v x y : V} {i : Nat} {K : PySem.W.Frag}
variable {nx bk ct : L2.St → Hp → Prop} {rt : VK}
theorem k_seq (h : t ⟨u ⟨nx, rt, bk, ct⟩, rt, bk, ct⟩ σ H) : tSeq t u ⟨nx, rt, bk, ct⟩ σ H := h
theorem k_next (h : nx σ H) : tNext ⟨nx, rt, bk, ct⟩ σ H := h
theorem k_asg (h : te σ H fun x H1 => g x σ H1 nx) : tAsg te g ⟨nx, rt, bk, ct⟩ σ H := h
theorem k_gname {Q : L2.St → Hp → Prop} (h : Q (σ.set i (some v)) H) : gName i v σ H Q := h
theorem k_drop (h : te σ H fun _ H1 => nx σ H1) : tDrop te ⟨nx, rt, bk, ct⟩ σ H := h
theorem k_ret (h : te σ H rt) : tRet te ⟨nx, rt, bk, ct⟩ σ H := h
theorem k_retN (h : rt .non H) : tRetN ⟨nx, rt, bk, ct⟩ σ H := h
/-- the two ways of an if -/
def cIf (t u : TS) (D : Ends) (σ : L2.St) : Bool → Hp → Prop := fun b H => if b = true then t D σ H else u D σ H
theorem k_if (h : tt σ H (cIf t u D σ)) : tIfS tt t u D σ H := h
theorem c_ifT (h : t D σ H) : cIf t u D σ true H := h
theorem c_ifF (h : u D σ H) : cIf t u D σ false H := h
theorem c_if {b : Bool} (h1 : b = true → t D σ H) (h2 : b = false → u D σ H) : cIf t u D σ b H := by
  cases b with
  | true => exact h1 rfl
  | false => exact h2 rfl
theorem c_ifd {p : Prop} [Decidable p] (h1 : p → t D σ H) (h2 : ¬ p → u D σ H) : cIf t u D σ (decide p) H :=
  c_if (fun e => h1 (of_decide_eq_true e)) (fun e => h2 (of_decide_eq_false e))
theorem c_ifdT {p : Prop} [Decidable p] (hp : p) (h1 : t D σ H) : cIf t u D σ (decide p) H := c_ifd (fun _ => h1) fun n => (n hp).elim
theorem c_ifdF {p : Prop} [Decidable p] (hp : ¬ p) (h1 : u D σ H) : cIf t u D σ (decide p) H := c_ifd (fun n => (hp n).elim) fun _ => h1
/-- two names at once -/
def cPar (i j : Nat) (nx : L2.St → Hp → Prop) (σ : L2.St) : List V → Hp → Prop := fun vs H1 => ∃ v w, vs = [v, w] ∧ nx ((σ.set i (some v)).set j (some w)) H1
theorem k_par {i j : Nat} (h : tr σ H (cPar i j nx σ)) : tPar i j tr ⟨nx, rt, bk, ct⟩ σ H := h
theorem e_par {i j : Nat} {v w : V} (h : nx ((σ.set i (some v)).set j (some w)) H) : cPar i j nx σ [v, w] H := ⟨v, w, rfl, h⟩
/-- loops -/
def cFor (K : PySem.W.Frag) (g : TG) (tb : TS) (D : Ends) (σ : L2.St) : VK := fun x H1 => ∃ a, x = .ref a ∧ (∃ xs, SqL K H1 a xs) ∧
  ∃ W : Nat → Nat → L2.St → Hp → Prop, (∃ m, W 0 m σ H1) ∧ ∀ i m σ H, W i m σ H →
  ((Itl K a).stop i H ∧ D.nx σ H) ∨ ((Itl K a).go i H ∧ ∃ N : L2.St → Hp → Prop, (∀ σ' H', N σ' H' → ∃ m', m' < m ∧ W (i + 1) m' σ' H') ∧ ∀ x H', (Itl K a).yld i H x H' → g x σ H' fun σ2 H2 => tb { D with nx := N, ct := N, bk := D.nx } σ2 H2)
theorem k_for {tl : TE} (h : tl σ H (cFor K g t D σ)) : tFor (iList K tl) g t D σ H := h
theorem c_for {a : Addr} {xs : List V} (Pv : Nat → L2.St → Hp → Prop) (h0 : Pv 0 σ H) (hl : ∀ i σ H, i ≤ xs.length → Pv i σ H → SqL K H a xs)
    (hs : ∀ i x σ H, xs[i]? = some x → Pv i σ H → g x σ H fun σ2 H2 => t ⟨Pv (i + 1), rt, nx, Pv (i + 1)⟩ σ2 H2) (hd : ∀ σ H, Pv xs.length σ H → nx σ H) : cFor K g t ⟨nx, rt, bk, ct⟩ σ (.ref a) H :=
  ⟨a, rfl, ⟨xs, hl 0 σ H (Nat.zero_le _) h0⟩, for_list (D := ⟨nx, rt, bk, ct⟩) Pv h0 hl hs hd⟩
def cForT (K : PySem.W.Frag) (g : TG) (tb : TS) (D : Ends) (σ : L2.St) : VK := fun x H1 => ∃ a, x = .ref a ∧ (∃ xs, SqT K H1 a xs) ∧
  ∃ W : Nat → Nat → L2.St → Hp → Prop, (∃ m, W 0 m σ H1) ∧ ∀ i m σ H, W i m σ H →
  ((Itt K a).stop i H ∧ D.nx σ H) ∨ ((Itt K a).go i H ∧ ∃ N : L2.St → Hp → Prop, (∀ σ' H', N σ' H' → ∃ m', m' < m ∧ W (i + 1) m' σ' H') ∧ ∀ x H', (Itt K a).yld i H x H' → g x σ H' fun σ2 H2 => tb { D with nx := N, ct := N, bk := D.nx } σ2 H2)
theorem k_forT {tl : TE} (h : tl σ H (cForT K g t D σ)) : tFor (iTup K tl) g t D σ H := h
theorem c_forT {a : Addr} {xs : List V} (Pv : Nat → L2.St → Hp → Prop) (h0 : Pv 0 σ H) (hl : ∀ i σ H, i ≤ xs.length → Pv i σ H → SqT K H a xs)
    (hs : ∀ i x σ H, xs[i]? = some x → Pv i σ H → g x σ H fun σ2 H2 => t ⟨Pv (i + 1), rt, nx, Pv (i + 1)⟩ σ2 H2) (hd : ∀ σ H, Pv xs.length σ H → nx σ H) : cForT K g t ⟨nx, rt, bk, ct⟩ σ (.ref a) H :=
  ⟨a, rfl, ⟨xs, hl 0 σ H (Nat.zero_le _) h0⟩, for_tup (D := ⟨nx, rt, bk, ct⟩) Pv h0 hl hs hd⟩
def cForR (g : TG) (tb : TS) (D : Ends) (σ : L2.St) : List V → Hp → Prop := fun vs H1 => ∃ j : Int, vs = [.int j] ∧ -(2 ^ 62) ≤ j ∧ j < 2 ^ 62 ∧
  ∃ W : Nat → Nat → L2.St → Hp → Prop, (∃ m, W 0 m σ H1) ∧ ∀ i m σ H, W i m σ H →
  ((Itr 0 j.toNat).stop i H ∧ D.nx σ H) ∨ ((Itr 0 j.toNat).go i H ∧ ∃ N : L2.St → Hp → Prop, (∀ σ' H', N σ' H' → ∃ m', m' < m ∧ W (i + 1) m' σ' H') ∧ ∀ x H', (Itr 0 j.toNat).yld i H x H' → g x σ H' fun σ2 H2 => tb { D with nx := N, ct := N, bk := D.nx } σ2 H2)
theorem k_forR (h : tr σ H (cForR g t D σ)) : tFor (iRng1 tr) g t D σ H := h
theorem c_forR {n : Int} (hn : -100000 ≤ n ∧ n ≤ 100000) (Pv : Nat → L2.St → Hp → Prop) (h0 : Pv 0 σ H)
    (hs : ∀ (i : Nat) σ H, (i : Int) < n → Pv i σ H → g (.int (i : Int)) σ H fun σ2 H2 => t ⟨Pv (i + 1), rt, nx, Pv (i + 1)⟩ σ2 H2) (hd : ∀ σ H, Pv n.toNat σ H → nx σ H) : cForR g t ⟨nx, rt, bk, ct⟩ σ [.int n] H :=
  ⟨n, rfl, by omega, by omega, for_range (D := ⟨nx, rt, bk, ct⟩) (lo := 0) Pv h0 (fun i σ H hi p => by
    rw [show (0 : Int) + (i : Int) = (i : Int) from Int.zero_add _]
    exact hs i σ H (by omega) p) hd⟩
theorem k_var (h : σ[i]? = some (some v)) (k : Q v H) : tVar i σ H Q := ⟨v, h, k⟩
theorem k_c (h : Q v H) : tC v σ H Q := h
theorem k_op {r : R2} (h : ta σ H fun x H1 => tb σ H1 fun y H2 => r x y H2 Q) : tOp r ta tb σ H Q := h
theorem k_un {r : V → Hp → VK → Prop} (h : ta σ H fun x H1 => r x H1 Q) : tUn r ta σ H Q := h
def cCh (r' : R2) (tc : TE) (σ : L2.St) (y : V) (Q : VK) : VK := fun z H3 => ∃ k, z = .bl k ∧ (if k = true then tc σ H3 fun w' H4 => r' y w' H4 Q else Q (.bl false) H3)
theorem k_chain {r r' : R2} (h : ta σ H fun x H1 => tb σ H1 fun y H2 => r x y H2 (cCh r' tc σ y Q)) : tChain r r' ta tb tc σ H Q := h
theorem c_ch {r' : R2} {y : V} {b : Bool} (h1 : b = true → tc σ H fun w' H4 => r' y w' H4 Q) (h2 : b = false → Q (.bl false) H) : cCh r' tc σ y Q (.bl b) H := ⟨b, rfl, by
  cases b with
  | true => exact h1 rfl
  | false => exact h2 rfl⟩
def cT (Q : Bool → Hp → Prop) : VK := fun x H' => ∃ k, x = .bl k ∧ Q k H'
theorem k_test {Q : Bool → Hp → Prop} (h : te σ H (cT Q)) : tTest te σ H Q := h
theorem k_tB {Q : Bool → Hp → Prop} (h : te σ H (cT Q)) : tB te σ H Q := h
theorem e_bl {Q : Bool → Hp → Prop} {b : Bool} (h : Q b H) : cT Q (.bl b) H := ⟨b, rfl, h⟩
def cNt (Q : Bool → Hp → Prop) : Bool → Hp → Prop := fun c H1 => Q (!c) H1
theorem k_not {Q : Bool → Hp → Prop} (h : tt σ H (cNt Q)) : tNot tt σ H Q := h
theorem c_nt {Q : Bool → Hp → Prop} {b : Bool} (h : Q (!b) H) : cNt Q b H := h
theorem c_ntT {Q : Bool → Hp → Prop} (h : Q false H) : cNt Q true H := h
theorem c_ntF {Q : Bool → Hp → Prop} (h : Q true H) : cNt Q false H := h
theorem c_ntD {Q : Bool → Hp → Prop} {p : Prop} [Decidable p] (h : Q (decide (¬ p)) H) : cNt Q (decide p) H := by
  show Q (!decide p) H
  rw [← decide_not]
  exact h
def cAnd (u : TT) (σ : L2.St) (Q : Bool → Hp → Prop) : Bool → Hp → Prop := fun c H1 => if c = true then u σ H1 Q else Q false H1
def cOr (u : TT) (σ : L2.St) (Q : Bool → Hp → Prop) : Bool → Hp → Prop := fun c H1 => if c = true then Q true H1 else u σ H1 Q
theorem k_and {Q : Bool → Hp → Prop} (h : tt σ H (cAnd tu σ Q)) : tAnd tt tu σ H Q := h
theorem k_or {Q : Bool → Hp → Prop} (h : tt σ H (cOr tu σ Q)) : tOr tt tu σ H Q := h
theorem c_and {Q : Bool → Hp → Prop} {b : Bool} (h1 : b = true → tu σ H Q) (h2 : b = false → Q false H) : cAnd tu σ Q b H := by
  cases b with
  | true => exact h1 rfl
  | false => exact h2 rfl
theorem c_or {Q : Bool → Hp → Prop} {b : Bool} (h1 : b = true → Q true H) (h2 : b = false → tu σ H Q) : cOr tu σ Q b H := by
  cases b with
  | true => exact h1 rfl
  | false => exact h2 rfl
/-- the second test's answer is told whatever the first is -/
theorem c_and' {Q : Bool → Hp → Prop} {b c : Bool} (h1 : ∀ Q', Q' c H → tu σ H Q') (h : Q (b && c) H) : cAnd tu σ Q b H := by
  cases b with
  | true => exact h1 _ h
  | false => exact h
theorem c_or' {Q : Bool → Hp → Prop} {b c : Bool} (h1 : ∀ Q', Q' c H → tu σ H Q') (h : Q (b || c) H) : cOr tu σ Q b H := by
  cases b with
  | true => exact h
  | false => exact h1 _ h
def cAndV (tb : TE) (σ : L2.St) (Q : VK) : VK := fun x H1 => ∃ c, x = .bl c ∧ if c = true then tb σ H1 Q else Q (.bl false) H1
def cOrV (tb : TE) (σ : L2.St) (Q : VK) : VK := fun x H1 => ∃ c, x = .bl c ∧ if c = true then Q (.bl true) H1 else tb σ H1 Q
def cNotV (Q : VK) : VK := fun x H1 => ∃ c, x = .bl c ∧ Q (.bl (!c)) H1
theorem k_andV (h : ta σ H (cAndV tb σ Q)) : tAndV ta tb σ H Q := h
theorem k_orV (h : ta σ H (cOrV tb σ Q)) : tOrV ta tb σ H Q := h
theorem e_andV {b : Bool} (h1 : b = true → tb σ H Q) (h2 : b = false → Q (.bl false) H) : cAndV tb σ Q (.bl b) H := ⟨b, rfl, by
  cases b with
  | true => exact h1 rfl
  | false => exact h2 rfl⟩
theorem e_orV {b : Bool} (h1 : b = true → Q (.bl true) H) (h2 : b = false → tb σ H Q) : cOrV tb σ Q (.bl b) H := ⟨b, rfl, by
  cases b with
  | true => exact h1 rfl
  | false => exact h2 rfl⟩
theorem k_notV (h : ta σ H (cNotV Q)) : tNotV ta σ H Q := h
def cIfE (ta tb : TE) (σ : L2.St) (Q : VK) : Bool → Hp → Prop := fun c H1 => if c = true then ta σ H1 Q else tb σ H1 Q
theorem k_ifE (h : tt σ H (cIfE ta tb σ Q)) : tIf tt ta tb σ H Q := h
theorem c_ifE {b : Bool} (h1 : b = true → ta σ H Q) (h2 : b = false → tb σ H Q) : cIfE ta tb σ Q b H := by
  cases b with
  | true => exact h1 rfl
  | false => exact h2 rfl
theorem c_ifEV {b : Bool} {v : V} (h1 : b = true → ∀ Q' : VK, Q' v H → ta σ H Q') (h2 : b = false → ∀ Q' : VK, Q' v H → tb σ H Q') (q : Q v H) : cIfE ta tb σ Q b H := by
  cases b with
  | true => exact h1 rfl _ q
  | false => exact h2 rfl _ q
theorem k_cons {Q : List V → Hp → Prop} (h : ta σ H fun x H1 => tr σ H1 fun xs H2 => Q (x :: xs) H2) : tCons ta tr σ H Q := h
theorem k_nil {Q : List V → Hp → Prop} (h : Q [] H) : tNil σ H Q := h
def cTup (Q : VK) : List V → Hp → Prop := fun xs H1 => xs.length ≤ sizeLine ∧ ∀ p, H1 p = none → Q (.ref p) (upd H1 p (.tup xs))
def cLst (Q : VK) : List V → Hp → Prop := fun xs H1 => xs.length ≤ sizeLine ∧ ∀ p, H1 p = none → Q (.ref p) (upd H1 p (.lst xs))
theorem k_tup (h : tr σ H (cTup Q)) : tTup tr σ H Q := h
theorem k_lst (h : tr σ H (cLst Q)) : tLst tr σ H Q := h
theorem k_call {sp : Sp} {dvs : List V} {E : XK} (h : tr σ H fun vs H1 => sp (vs ++ dvs) H1 Q E) : tCall sp dvs E tr σ H Q := h
theorem k_cb {r : List V → Hp → VK → Prop} (h : tr σ H fun vs H1 => r vs H1 Q) : tCB r tr σ H Q := h
theorem k_I0 {f : Int → Int → V} {a b : Int} (h : Q (f a b) H) : rI0 f (.int a) (.int b) H Q := ⟨a, b, rfl, rfl, h⟩
theorem k_I {C : Int → Int → Prop} {f : Int → Int → V} {a b : Int} (hc : C a b) (h : Q (f a b) H) : rI C f (.int a) (.int b) H Q := ⟨a, b, rfl, rfl, hc, h⟩
theorem k_U {f : Int → V} {a : Int} (h : Q (f a) H) : rU f (.int a) H Q := ⟨a, rfl, h⟩
theorem k_eq (hs : scal x y = true) (h : Q (.bl (decide (x = y))) H) : rEq x y H Q := ⟨hs, h⟩
theorem k_ne (hs : scal x y = true) (h : Q (.bl (!decide (x = y))) H) : rNe x y H Q := ⟨hs, h⟩
theorem k_eqI {a b : Int} (h : Q (.bl (decide (a = b))) H) : rEq (.int a) (.int b) H Q := ⟨rfl, by
  have e : decide (V.int a = V.int b) = decide (a = b) := by by_cases q : a = b <;> simp [q]
  rw [e]; exact h⟩
theorem k_neI {a b : Int} (h : Q (.bl (decide (a ≠ b))) H) : rNe (.int a) (.int b) H Q := ⟨rfl, by
  have e : (!decide (V.int a = V.int b)) = decide (a ≠ b) := by by_cases q : a = b <;> simp [q]
  rw [e]; exact h⟩
end

/-! ### answers that are known -/
section
variable {σ : L2.St} {H : Hp} {t u : TS} {D : Ends} {ta tb : TE} {tu : TT} {Q : VK} {x : V}
theorem k_eqS (hs : scal x x = true) (h : Q (.bl true) H) : rEq x x H Q := ⟨hs, by rw [decide_eq_true rfl]; exact h⟩
theorem k_neS (hs : scal x x = true) (h : Q (.bl false) H) : rNe x x H Q := ⟨hs, by rw [decide_eq_true rfl]; exact h⟩
theorem k_eqB {a b : Bool} (h : Q (.bl (decide (a = b))) H) : rEq (.bl a) (.bl b) H Q := ⟨rfl, by
  have e : decide (V.bl a = V.bl b) = decide (a = b) := by cases a <;> cases b <;> rfl
  rw [e]; exact h⟩
theorem e_andT (h : tb σ H Q) : cAndV tb σ Q (.bl true) H := ⟨true, rfl, h⟩
theorem e_andF (h : Q (.bl false) H) : cAndV tb σ Q (.bl false) H := ⟨false, rfl, h⟩
theorem e_orT (h : Q (.bl true) H) : cOrV tb σ Q (.bl true) H := ⟨true, rfl, h⟩
theorem e_orF (h : tb σ H Q) : cOrV tb σ Q (.bl false) H := ⟨false, rfl, h⟩
theorem e_notT (h : Q (.bl false) H) : cNotV Q (.bl true) H := ⟨true, rfl, h⟩
theorem e_notF (h : Q (.bl true) H) : cNotV Q (.bl false) H := ⟨false, rfl, h⟩
theorem e_notV {b : Bool} (h : Q (.bl (!b)) H) : cNotV Q (.bl b) H := ⟨b, rfl, h⟩
variable {Qb : Bool → Hp → Prop}
theorem c_andT (h : tu σ H Qb) : cAnd tu σ Qb true H := h
theorem c_andF (h : Qb false H) : cAnd tu σ Qb false H := h
theorem c_orT (h : Qb true H) : cOr tu σ Qb true H := h
theorem c_orF (h : tu σ H Qb) : cOr tu σ Qb false H := h
theorem c_ifET (h : ta σ H Q) : cIfE ta tb σ Q true H := h
theorem c_ifEF (h : tb σ H Q) : cIfE ta tb σ Q false H := h
def rIsNo : R2 := fun x y H Q => y = .non ∧ Q (.bl (decide (x = .non))) H
def rNotNo : R2 := fun x y H Q => y = .non ∧ Q (.bl (!decide (x = .non))) H
theorem op_isNo {X : Cx} : OpR X (compareOp .Is) rIsNo := op_isN
theorem op_notNo {X : Cx} : OpR X (compareOp .IsNot) rNotNo := op_notN
theorem k_isY (h : Q (.bl true) H) : rIsNo .non .non H Q := ⟨rfl, h⟩
theorem k_isX (hx : x ≠ .non) (h : Q (.bl false) H) : rIsNo x .non H Q := ⟨rfl, by rw [decide_eq_false hx]; exact h⟩
theorem k_ntY (h : Q (.bl false) H) : rNotNo .non .non H Q := ⟨rfl, h⟩
theorem k_ntX (hx : x ≠ .non) (h : Q (.bl true) H) : rNotNo x .non H Q := ⟨rfl, by rw [decide_eq_false hx]; exact h⟩
end

/-! ### defs, methods, classes by name -/
section
variable (P : Program) (w : World) (K : PySem.W.Frag) (mg : Str → Option Value) (base : Heap) (CX : CXT)
/-- a def of the top, as it is called: the name x, k the level -/
structure Cal (k : Nat) (x : Str) (ps : List Str) (sp : Sp) : Prop where
  ex : ∃ (f : Addr) (fd : FuncData), FnOk P w K mg base CX k f fd ps sp ∧ Binds K fd ps [] ∧ PySem.W.keepIn K (.ref f) = true ∧ mg x = some (.ref f)
/-- a method of the class at C -/
structure CalM (C : Addr) (k : Nat) (m : Str) (ps : List Str) (sp : Sp) : Prop where
  ex : ∃ (f : Addr) (fd : FuncData), FnOk P w K mg base CX k f fd ps sp ∧ Binds K fd ps [] ∧ Meth K C m f
/-- the class at C, called by the name x; sp: its __init__ 's -/
structure CalC (C : Addr) (k : Nat) (x : Str) (ps : List Str) (sp : Sp) : Prop where
  ex : ∃ (f : Addr) (fd : FuncData), FnOk P w K mg base CX k f fd ps sp ∧ Binds K fd ps [] ∧ Mk K C f ∧ mg x = some (.ref C)
end
section
variable {X : Cx} {CX : CXT} {k : Nat} {C : Addr} {ps : List Str} {sp : Sp} {E : XK} {x m : Str} {p pos apos : Pos} {e o : Expr} {es : List Expr} {ta : TE} {t : TA}
theorem pe_cal (c : Cal X.prog X.w X.K X.mg X.base CX k x ps sp) (hr : Room k X.A) (hx : Passes CX X E) (ha : PA X (e :: es) t) (hg : Gl X x := by rfl) (hdb : (x == ("__debug__" : Str)) = false := by decide)
    (he : starEach (e :: es) X.env = (false, eval e X.env) :: starEach es X.env := by rfl) (hpl : (backTo pos (starEach es X.env)).any (·.1) = false := by rfl) :
    PE X (.Call (.Name x p) (e :: es) [] pos) (tCall sp [] E t) := by
  obtain ⟨f, fd, F, b, kp, hm⟩ := c.ex
  exact pe_call F hr hg hm kp b .nil hx ha hdb he hpl
theorem pe_cal0 (c : Cal X.prog X.w X.K X.mg X.base CX k x ps sp) (hr : Room k X.A) (hx : Passes CX X E) (hg : Gl X x := by rfl) (hdb : (x == ("__debug__" : Str)) = false := by decide) :
    PE X (.Call (.Name x p) [] [] pos) (tCall sp [] E tNil) := by
  obtain ⟨f, fd, F, b, kp, hm⟩ := c.ex
  exact pe_call0 F hr hg hm kp b .nil hx hdb
theorem pe_calM {pl : Sem Bool} (he : PE X o ta) (c : Cls X.K C) (cm : CalM X.prog X.w X.K X.mg X.base CX C k m ps sp) (hr : Room k X.A) (hx : Passes CX X E) (ha : PA X (e :: es) t)
    (hst : starEach (e :: es) X.env = (false, eval e X.env) :: starEach es X.env := by rfl) (hpl : (backTo pos (starEach es X.env)).any (·.1) = false := by rfl)
    (ht : eval (.Call (.Attribute o m apos) (e :: es) [] pos) X.env = (do
      let ov ← eval o X.env
      standAt apos.atName
      let (f, first) ← holding [ov] (getMethod ov m pl)
      callWith pos f first (backTo pos (starEach (e :: es) X.env)) (backToKw pos (keywordEach [] X.env))) := by rfl) :
    PE X (.Call (.Attribute o m apos) (e :: es) [] pos) (tMeth C m sp [] E ta t) := by
  obtain ⟨f, fd, F, b, M⟩ := cm.ex
  exact pe_meth he c M F hr b .nil hx ha hst hpl ht
theorem pe_calM0 {pl : Sem Bool} (he : PE X o ta) (c : Cls X.K C) (cm : CalM X.prog X.w X.K X.mg X.base CX C k m ps sp) (hr : Room k X.A) (hx : Passes CX X E)
    (ht : eval (.Call (.Attribute o m apos) [] [] pos) X.env = (do
      let ov ← eval o X.env
      standAt apos.atName
      let (f, first) ← holding [ov] (getMethod ov m pl)
      callWith pos f first (backTo pos (starEach [] X.env)) (backToKw pos (keywordEach [] X.env))) := by rfl) :
    PE X (.Call (.Attribute o m apos) [] [] pos) (tMeth C m sp [] E ta tNil) := by
  obtain ⟨f, fd, F, b, M⟩ := cm.ex
  exact pe_meth0 he c M F hr b .nil hx ht
theorem pe_calC (c : CalC X.prog X.w X.K X.mg X.base CX C k x ps sp) (hr : Room (k + 1) X.A) (hx : Passes CX X E) (ha : PA X (e :: es) t) (hg : Gl X x := by rfl) (hdb : (x == ("__debug__" : Str)) = false := by decide)
    (he : starEach (e :: es) X.env = (false, eval e X.env) :: starEach es X.env := by rfl) (hpl : (backTo pos (starEach es X.env)).any (·.1) = false := by rfl) :
    PE X (.Call (.Name x p) (e :: es) [] pos) (tMake C sp [] E t) := by
  obtain ⟨f, fd, F, b, M, hm⟩ := c.ex
  exact pe_make M F hr hg hm b .nil hx ha hdb he hpl
end

/-! ### what is now, through the steps -/
section
variable {K : PySem.W.Frag} {D : Option Addr} {M : List Addr} {H0 H : Hp} {l : List Cel} {ts : List (Addr × List V)} {p a d : Addr} {o u : HO} {xs : List V} {Q : VK} {E : XK}
theorem g_tup (N : Now K D M H0 H l ts) (hl : xs.length ≤ 100000) (h : ∀ p H', Now K D M H0 H' l ((p, xs) :: ts) → Q (.ref p) H') : cTup Q xs H := ⟨Nat.le_trans hl (by decide), fun p hp => h p _ (N.newT hp)⟩
theorem g_lst (N : Now K D M H0 H l ts) (hl : xs.length ≤ 100000) (h : ∀ p H', Now K D M H0 H' (⟨true, p, .lst xs⟩ :: l) ts → Q (.ref p) H') : cLst Q xs H := ⟨Nat.le_trans hl (by decide), fun p hp => h p _ (N.newC hp trivial)⟩
/-- the dice's promise -/
def spNext (K : PySem.W.Frag) : Sp := fun vs H Q _ => ∃ (d : Addr) (n : Int), vs = [.ref d, .int n] ∧ Dice K H d ∧ 0 < n ∧ n < 1073741824 ∧ ∀ v H', Aft [d] H H' → Dice K H' d → 0 ≤ v → v < n → Q (.int v) H'
theorem g_next {n : Int} (N : Now K (some d) M H0 H l ts) (hn : 0 < n ∧ n < 1073741824) (h : ∀ v H', Now K (some d) M H0 H' l ts → 0 ≤ v → v < n → Q (.int v) H') : spNext K [.ref d, .int n] H Q E :=
  ⟨d, n, rfl, (N.dc d rfl).1, hn.1, hn.2, fun v H' A hd h0 h1 => h v H' (N.roll A hd) h0 h1⟩
end
end Ak
namespace Ak
open PySem PySem.Spec PyProof.Rows L2
/-! ### the built-ins stand, constants by name -/
structure Bt (mg : Str → Option Value) : Prop where
  m_len : mg "len" = none
  m_int : mg "int" = none
  m_isinstance : mg "isinstance" = none
  m_range : mg "range" = none
  m_sorted : mg "sorted" = none
  m_list : mg "list" = none
  m_tuple : mg "tuple" = none
  m_max : mg "max" = none
  m_min : mg "min" = none
  m_set : mg "set" = none
  m_str : mg "str" = none
  m_enumerate : mg "enumerate" = none
  m_bool : mg "bool" = none
  m_dict : mg "dict" = none
theorem pe_gint {X : Cx} {x : Str} {i : Int} {pos : Pos} (hg : Gl X x) (h : ∃ t, X.mg x = some (.int i t)) (hd : (x == ("__debug__" : Str)) = false := by decide) : PE X (.Name x pos) (tC (.int i)) := by
  obtain ⟨t, h⟩ := h
  exact pe_glob hg h ⟨t, rfl⟩ hd
theorem pe_gstr {X : Cx} {x : Str} {z : Str} {pos : Pos} (hg : Gl X x) (h : ∃ t, X.mg x = some (.str z t)) (hd : (x == ("__debug__" : Str)) = false := by decide) : PE X (.Name x pos) (tC (.str z)) := by
  obtain ⟨t, h⟩ := h
  exact pe_glob hg h ⟨t, rfl⟩ hd
theorem pe_gref {X : Cx} {x : Str} {a : Addr} {pos : Pos} (hg : Gl X x) (h : X.mg x = some (.ref a)) (hd : (x == ("__debug__" : Str)) = false := by decide) : PE X (.Name x pos) (tC (.ref a)) := pe_glob hg h rfl hd

/-! ### readings by name -/
section
variable {X : Cx} {K : PySem.W.Frag} {H : Hp} {Q : VK} {p : Addr} {xs : List V}
def rLn (K : PySem.W.Frag) : List V → Hp → VK → Prop := fun xs H Q => ∃ p ys, xs = [.ref p] ∧ (SqL K H p ys ∨ SqT K H p ys) ∧ Q (.int ys.length) H
theorem cr_ln : CallR X (.builtin "len") (rLn X.K) := call_len_seq
theorem g_lnL (h : SqL K H p xs) (q : Q (.int xs.length) H) : rLn K [.ref p] H Q := ⟨p, xs, rfl, .inl h, q⟩
theorem g_lnT (h : SqT K H p xs) (q : Q (.int xs.length) H) : rLn K [.ref p] H Q := ⟨p, xs, rfl, .inr h, q⟩
def rIntB : List V → Hp → VK → Prop := fun xs H Q => ∃ k, xs = [.bl k] ∧ Q (.int (if k then 1 else 0)) H
theorem cr_intB : CallR X (.type "int") rIntB := fun pins s σ H xs us Q I r h => call_int1 pins s σ H xs us Q I r (.inr h)
theorem g_intB {b : Bool} (q : Q (.int (if b then 1 else 0)) H) : rIntB [.bl b] H Q := ⟨b, rfl, q⟩
theorem g_ixL {i : Int} {v : V} (h : SqL K H p xs) (ha : atI xs i = some v) (q : Q v H) : rIxL K (.ref p) (.int i) H Q := ⟨p, xs, i, v, rfl, rfl, h, ha, q⟩
theorem g_ixT {i : Int} {v : V} (h : SqT K H p xs) (ha : atI xs i = some v) (q : Q v H) : rIxT K (.ref p) (.int i) H Q := ⟨p, xs, i, v, rfl, rfl, h, ha, q⟩
theorem g_setL {Q : Hp → Prop} {i : Int} {j : Nat} {v : V} (h : H p = some (.lst xs)) (hi : ixN xs.length i = some j) (q : Q (upd H p (.lst (xs.set j v)))) : rSetL (.ref p) (.int i) v H Q := ⟨p, xs, i, j, rfl, rfl, h, hi, q⟩
section
variable {D : Option Addr} {M : List Addr} {H0 : Hp} {l : List Cel} {ts : List (Addr × List V)} {c0 c1 c2 c3 : Cel} {i : Int} {j : Nat} {v : V} {Qh : Hp → Prop}
theorem g_set0 (N : Now K D M H0 H (⟨true, p, .lst xs⟩ :: l) ts) (hi : ixN xs.length i = some j) (q : ∀ H', Now K D M H0 H' (⟨true, p, .lst (xs.set j v)⟩ :: l) ts → Qh H') : rSetL (.ref p) (.int i) v H Qh := g_setL (N.cell 0 rfl) hi (q _ (N.put 0 rfl trivial))
theorem g_set1 (N : Now K D M H0 H (c0 :: ⟨true, p, .lst xs⟩ :: l) ts) (hi : ixN xs.length i = some j) (q : ∀ H', Now K D M H0 H' (c0 :: ⟨true, p, .lst (xs.set j v)⟩ :: l) ts → Qh H') : rSetL (.ref p) (.int i) v H Qh := g_setL (N.cell 1 rfl) hi (q _ (N.put 1 rfl trivial))
def rApp (K : PySem.W.Frag) : V → List V → Hp → VK → Prop := fun x vs H Q => ∃ l xs y, x = .ref l ∧ vs = [y] ∧ H l = some (.lst xs) ∧ xs.length < sizeLine ∧ Q .non (upd H l (.lst (xs ++ [y])))
theorem g_app0 (N : Now K D M H0 H (⟨true, p, .lst xs⟩ :: l) ts) (hz : xs.length < 100000) (q : ∀ H', Now K D M H0 H' (⟨true, p, .lst (xs ++ [v])⟩ :: l) ts → Q .non H') : rAppend (.ref p) [v] H Q := ⟨p, xs, v, rfl, rfl, N.cell 0 rfl, Nat.lt_of_lt_of_le hz (by decide), q _ (N.put 0 rfl trivial)⟩
theorem g_app1 (N : Now K D M H0 H (c0 :: ⟨true, p, .lst xs⟩ :: l) ts) (hz : xs.length < 100000) (q : ∀ H', Now K D M H0 H' (c0 :: ⟨true, p, .lst (xs ++ [v])⟩ :: l) ts → Q .non H') : rAppend (.ref p) [v] H Q := ⟨p, xs, v, rfl, rfl, N.cell 1 rfl, Nat.lt_of_lt_of_le hz (by decide), q _ (N.put 1 rfl trivial)⟩
end
theorem k_gsub {σ : L2.St} {to ti : TE} {t : TSet} {v : V} {Q : L2.St → Hp → Prop} (h : to σ H fun o H1 => ti σ H1 fun i H2 => t o i v H2 fun H3 => Q σ H3) : gSub to ti t v σ H Q := h
end
/-! ### o.f = .. among several targets -/
def gAttr (K : PySem.W.Frag) (ta : TE) (f : Str) : TG := fun v σ H Q => ta σ H fun x H2 => ∃ a C dx fs, x = .ref a ∧ H2 a = some (.ins C dx fs) ∧ Cls K C ∧ NoAttr K C f ∧ fs.length < 1000 ∧ Q σ (upd H2 a (.ins C dx (putF f v fs)))
theorem pg_attr {X : Cx} {o : Expr} {f : Str} {pos : Pos} {ta : TE} (ha : PE X o ta) : PG X (.Attribute o f pos) (gAttr X.K ta f) := by
  refine ⟨fun pins s σ H v u Q I r h => ?_⟩
  refine PySem.W.kas_attr (thn (ha.run pins s σ H _ I h) fun ov s2 ⟨x, H2, I2, rx, a, C, dx, fs, ex, ea, c, n, l, q2⟩ => ?_)
  subst ex
  obtain rfl : ov = Value.ref a := rx
  exact setattr_ok I2 ea c n l r fun s3 I3 => ⟨σ, _, I3, q2⟩

/-! ### sorted of a dict with int keys, any number of them -/
def rSortedDA : List V → Hp → VK → Prop := fun xs H Q => ∃ (a : Addr) (kvs : List (Key × V)) (ks : List Int), xs = [.ref a] ∧ Rd H a (.dK kvs) ∧ kvs.map (·.1) = ks.map Sum.inl ∧
    ∀ (ys : List Int) (p : Addr), ys.Perm ks → ys.Pairwise (· ≤ ·) → H p = none → Q (.ref p) (upd H p (.lst (ys.map V.int)))
theorem call_sortedDA {X : Cx} (hcalm : X.calm = true) : CallR X (.builtin "sorted") rSortedDA := by
  intro pins s σ H xs us Q I r q
  obtain ⟨a, kvs, ks, ex, hd, hks, q⟩ := q
  subst ex
  obtain ⟨u, eu, rx⟩ := vals1 r
  subst eu
  cases rx
  obtain ⟨z, lo, vs, rel, dd⟩ := dk_rd I.hok hd
  obtain ⟨ep, hat⟩ := dd.dictAt
  have hkeys : vs.map (·.1) = ks.map Sum.inl := rel.keys.symm.trans hks
  have hl : vs.length = ks.length := by
    have e := congrArg List.length hkeys
    rw [List.length_map, List.length_map] at e
    exact e
  have hl2 : kvs.length = ks.length := by
    have e := congrArg List.length hks
    rw [List.length_map, List.length_map] at e
    exact e
  have h16 : vs.length ≤ sizeLine := by rw [hl, ← hl2]; exact z
  refine Calls.call_function_entry PyProof.Rows.kind_sorted PyProof.Rows.plain_sorted PyProof.Rows.entry_sorted (PyProof.Rows.args_sorted1 _) ?_
  unfold Builtin.«sorted»
  refine wpAny_bind (m := checkCount "sorted" 1 1 _) (wpAny_pure ?_)
  refine wpAny_bind (PySem.W.kdu_collect (A := X.A.in1) (PySem.W.kdl_dict (knd := mixKind X.prog X.w) (kvs := vs) (ep := ep) lo) (I.ok.hd hcalm) hat h16 fun h' tk acc hk hacc => ?_)
  have hal : acc.toList.length = ks.length := by rw [Array.length_toList, hacc.1, hl]
  have hS : IntsAre acc.toList ks := ints_each hal fun j v e => by
    obtain ⟨k, x, e1, e2⟩ := hacc.2 j v (by rw [← Array.getElem?_toList]; exact e)
    have e3 : (vs.map (·.1))[j]? = some k := by rw [List.getElem?_map, e1]; rfl
    rw [hkeys, List.getElem?_map] at e3
    cases e4 : ks[j]? with
    | none => rw [e4] at e3; cases e3
    | some y =>
      rw [e4] at e3
      have e5 : Sum.inl y = k := Option.some.inj e3
      subst e5
      rcases keyIs_shape (show keyIs (Sum.inl y) v = true from e2) with ⟨i, t, ek, ev⟩ | ⟨z, t, ek, ev⟩
      · cases ek
        exact ⟨y, t, rfl, ev⟩
      · cases ek
  have I1 : Inv X pins σ H { s with heap := h', toks := tk } := I.kept hk
  have hz2 : acc.toList.length ≤ sizeLine := by rw [hal, ← hl]; exact h16
  refine wpAny_bind (wpAny_newList ?_ hz2)
  have hoL : (h'.push (seqObj "list" acc.toList.toArray 0)).get? h'.objs.size = some (seqObj "list" acc.toList.toArray 0) := Heap.get?_push_size _ rfl
  show wpAny _ _ _ _ _ { s with heap := h'.push (seqObj "list" acc.toList.toArray 0), toks := tk }
  refine wpAny_bind (wpAny_holding (wpAny_call_entry PyProof.Rows.slot_list_sort ⟨_, hoL, rfl⟩ PyProof.Rows.entry_list_sort
    (SrtO.list_sort_ord (s := { s with heap := h'.push (seqObj "list" acc.toList.toArray 0), toks := tk }) SrtO.swo_int hoL hz2 (fun h2 => SrtO.ints_sortable hS h2) fun out h1 h2 => ⟨_, rfl, ?_⟩) (PyProof.Rows.args_list_sort _)))
  obtain ⟨k1, k2, k3⟩ := SrtO.ints_out hS h1 h2
  obtain ⟨e', he'⟩ := PyProof.Rows.sortedHeap_at (vs := acc.toList) (out := out.toArray) hoL
  have hlen : ((out.map SrtO.iv).map V.int).length ≤ sizeLine := by
    rw [List.length_map, k2.length_eq, ← hl]
    exact h16
  refine wpAny_pure ⟨_, rfl, .ref h'.objs.size, upd H h'.objs.size (.lst ((out.map SrtO.iv).map V.int)), I1.laid (t' := tk) (fun b u e => ?_) (Nat.le_refl _)
    (show ObjOk X.prog X.w _ _ _ (.lst ((out.map SrtO.iv).map V.int)) from ⟨hlen, out, e', vals_of_ints k1, he'⟩), rfl, q _ _ k2 k3 (I1.hok.fresh (Nat.le_refl _))⟩
  have hb : b < h'.objs.size := Heap.lt_size e
  rw [PyProof.Rows.sortedHeap_old (Nat.ne_of_lt hb) (by rw [size_push']; exact Nat.lt_succ_of_lt hb)]
  exact Heap.get?_push_of_some _ e

/-! ### a def of the text by name -/
def Bd (x qual : Str) (st : Stmt) (ps : List Str) : Prop := ∀ (kV doc pm : Value) (an : Option Addr) (cdv ct : Value) (us : List Value), us.length = ps.length → bindArgs (PySem.W.fnOf x qual (defArgs st) (defBody st) (defScope st) .none kV doc pm an cdv ct) ⟨us, []⟩ = pure (ps.zip us)
structure Def (K : PySem.W.Frag) (mg : Str → Option Value) (x : Str) (st : Stmt) : Prop where
  ex : ∃ (f : Addr) (fd : FuncData), FunD K x x (defArgs st) (defBody st) (defScope st) [] [] f fd ∧ mg x = some (.ref f)
structure DefM (K : PySem.W.Frag) (C : Addr) (m qual : Str) (st : Stmt) : Prop where
  ex : ∃ (f : Addr) (fd : FuncData), FunD K m qual (defArgs st) (defBody st) (defScope st) [] [] f fd ∧ Meth K C m f
structure DefC (K : PySem.W.Frag) (mg : Str → Option Value) (C : Addr) (x qual : Str) (st : Stmt) : Prop where
  ex : ∃ (f : Addr) (fd : FuncData), FunD K "__init__" qual (defArgs st) (defBody st) (defScope st) [] [] f fd ∧ Mk K C f ∧ mg x = some (.ref C)
section
variable {P : Program} {w : World} {K : PySem.W.Frag} {mg : Str → Option Value} {base : Heap} {CX : CXT} {x m qual : Str} {st : Stmt} {N ps : List Str} {k : Nat} {sp : Sp} {C : Addr}
theorem Def.ok (F : Def K mg x st) (S : FnScope N ps (defScope st)) (b : Bd x x st ps) (len : ∀ vs H Q E, sp vs H Q E → vs.length = ps.length)
    (hbody : ∀ (f : Addr) (cdv : Value) (A : Around) (outer : List Env) (s : Shared) (H : Hp) (vs : List V) (Q : VK) (E : XK), Room k (A.deeper (envOfC x (defScope st) s.heap.objs.size f cdv)) → sp vs H Q E →
      ∃ t, PSs (cxOf CX P w K mg base N x (defScope st) f cdv A outer s H E) (defBody st) t ∧ t { nx := fun _ H' => Q .non H', rt := Q } (start N vs) H) : Cal P w K mg base CX (k + 1) x ps sp := by
  obtain ⟨f, fd, F, hm⟩ := F.ex
  exact ⟨f, fd, F.ok S len (hbody f), F.bindsN b, F.kp, hm⟩
theorem DefM.ok (F : DefM K C m qual st) (S : FnScope N ps (defScope st)) (b : Bd m qual st ps) (len : ∀ vs H Q E, sp vs H Q E → vs.length = ps.length)
    (hbody : ∀ (f : Addr) (cdv : Value) (A : Around) (outer : List Env) (s : Shared) (H : Hp) (vs : List V) (Q : VK) (E : XK), Room k (A.deeper (envOfC qual (defScope st) s.heap.objs.size f cdv)) → sp vs H Q E →
      ∃ t, PSs (cxOf CX P w K mg base N qual (defScope st) f cdv A outer s H E) (defBody st) t ∧ t { nx := fun _ H' => Q .non H', rt := Q } (start N vs) H) : CalM P w K mg base CX C (k + 1) m ps sp := by
  obtain ⟨f, fd, F, hm⟩ := F.ex
  exact ⟨f, fd, F.ok S len (hbody f), F.bindsN b, hm⟩
theorem DefC.ok (F : DefC K mg C x qual st) (S : FnScope N ps (defScope st)) (b : Bd "__init__" qual st ps) (len : ∀ vs H Q E, sp vs H Q E → vs.length = ps.length)
    (hbody : ∀ (f : Addr) (cdv : Value) (A : Around) (outer : List Env) (s : Shared) (H : Hp) (vs : List V) (Q : VK) (E : XK), Room k (A.deeper (envOfC qual (defScope st) s.heap.objs.size f cdv)) → sp vs H Q E →
      ∃ t, PSs (cxOf CX P w K mg base N qual (defScope st) f cdv A outer s H E) (defBody st) t ∧ t { nx := fun _ H' => Q .non H', rt := Q } (start N vs) H) : CalC P w K mg base CX C (k + 1) x ps sp := by
  obtain ⟨f, fd, F, M, hm⟩ := F.ex
  exact ⟨f, fd, F.ok S len (hbody f), F.bindsN b, M, hm⟩
end
end Ak
namespace Ak
open PySem PySem.Spec PyProof.Rows L2
/-! ### data: what _law_like compares -/
section
variable {K : PySem.W.Frag} {H H' : Hp} {M : List Addr}
theorem Aft.sql (e : Aft [] H H') {a : Addr} {xs : List V} (h : SqL K H a xs) : SqL K H' a xs := by
  rcases h with (h | ⟨o, h⟩) | h
  · exact .inl (.inl (e.k _ _ h (by simp)))
  · exact .inl (.inr ⟨o, e.z _ _ _ h⟩)
  · exact .inr h
mutual
theorem dp_keep (e : Aft [] H H') : ∀ {d : PyData} {v : V}, Dp K H v d → Dp K H' v d
  | .none, _, h => by cases h; exact .non
  | .bool b, _, h => by cases h; exact .bl b
  | .int i, _, h => by cases h; exact .int i
  | .str x, _, h => by cases h; exact .str x
  | .list ds, _, h => by
    cases h with
    | lst h1 h2 => exact .lst (e.sql h1) (dpa_keep e h2)
  | .tuple ds, _, h => by
    cases h with
    | tup h1 h2 => exact .tup (e.sqt h1) (dpa_keep e h2)
theorem dpa_keep (e : Aft [] H H') : ∀ {ds : List PyData} {vs : List V}, DpAll K H vs ds → DpAll K H' vs ds
  | [], _, h => by cases h; exact .nil
  | d :: ds, _, h => by
    cases h with
    | cons h1 h2 => exact .cons (dp_keep e h1) (dpa_keep e h2)
end
theorem dpa_len : ∀ {ds : List PyData} {vs : List V}, DpAll K H vs ds → vs.length = ds.length
  | _, _, .nil => rfl
  | _, _, .cons _ t => congrArg (· + 1) (dpa_len t)
theorem dpa_at : ∀ {ds : List PyData} {vs : List V}, DpAll K H vs ds → ∀ (i : Nat) (h : i < ds.length), ∃ v, vs[i]? = some v ∧ Dp K H v ds[i]
  | _, _, .nil, i, h => absurd h (by simp)
  | _, _, .cons h1 _, 0, _ => ⟨_, rfl, h1⟩
  | _, _, .cons _ t, i + 1, h => by
    obtain ⟨v, h1, h2⟩ := dpa_at t i (by simpa using h)
    exact ⟨v, by simpa using h1, by simpa using h2⟩
theorem dpa_ints : ∀ ns : List Int, DpAll K H (ns.map V.int) (ns.map PyData.int)
  | [] => .nil
  | n :: ns => .cons (.int n) (dpa_ints ns)
/-- how deep, how long -/
def dOk : Nat → PyData → Prop
  | 0, .list _ => False
  | 0, .tuple _ => False
  | n + 1, .list ds => ds.length ≤ 100000 ∧ ∀ d ∈ ds, dOk n d
  | n + 1, .tuple ds => ds.length ≤ 100000 ∧ ∀ d ∈ ds, dOk n d
  | _, _ => True
/-- what isinstance asks -/
theorem sql_ty {a : Addr} {xs : List V} (h : SqL K H a xs) : TyX K H (.ref a) (.type "list") := by
  rcases h with (h | ⟨o, h⟩) | ⟨o, its, n, h1, h2, _⟩
  · exact .base (.lst h)
  · exact .base (.frz h)
  · exact .kList h1 h2
theorem sqt_ty {a : Addr} {xs : List V} (h : SqT K H a xs) : TyX K H (.ref a) (.type "tuple") := by
  rcases h with (h | ⟨o, h⟩) | ⟨o, its, n, h1, h2, _⟩
  · exact .base (.tup h)
  · exact .fTuple h
  · exact .kTuple h1 h2
theorem tyx_non : TyX K H .non (.type "NoneType") := .base .non
theorem tyx_bl {b : Bool} : TyX K H (.bl b) (.type "bool") := .base (.bl b)
theorem tyx_int {b : Int} : TyX K H (.int b) (.type "int") := .base (.int b)
theorem tyx_str {b : Str} : TyX K H (.str b) (.type "str") := .base (.str b)
theorem g_isi {x : V} {a b : String} {r : Bool} {Q : VK} (ht : TyX K H x (.type a)) (hk : kitB a b = some r) (q : Q (.bl r) H) : rIsi K [x, .ty b] H Q := ⟨x, .ty b, .type a, .type b, r, rfl, .ty b, ht, kit_ty hk, q⟩
theorem g_ixQ {p : Addr} {xs : List V} {i : Int} {v : V} {Q : VK} (h : SqL K H p xs ∨ SqT K H p xs) (ha : atI xs i = some v) (q : Q v H) : rIx K (.ref p) (.int i) H Q := by
  rcases h with h | h
  · exact .inl ⟨p, xs, i, v, rfl, rfl, h, ha, q⟩
  · exact .inr (.inl ⟨p, xs, i, v, rfl, rfl, h, ha, q⟩)
/-- the promise, by depth -/
def spLike (K : PySem.W.Frag) : Nat → Sp
  | 0 => fun _ _ _ _ => False
  | n + 1 => fun vs H Q _ => ∃ (x y : V) (d : PyData), vs = [x, y] ∧ Dp K H x d ∧ Dp K H y d ∧ dOk n d ∧ ∀ H', Aft [] H H' → Q (.bl true) H'
theorem kb_bb : kitB "bool" "bool" = some true := by decide +kernel
theorem kb_ib : kitB "int" "bool" = some false := by decide +kernel
theorem kb_sb : kitB "str" "bool" = some false := by decide +kernel
theorem kb_nb : kitB "NoneType" "bool" = some false := by decide +kernel
theorem kb_lb : kitB "list" "bool" = some false := by decide +kernel
theorem kb_tb : kitB "tuple" "bool" = some false := by decide +kernel
theorem kb_is : kitB "int" "str" = some false := by decide +kernel
theorem kb_ss : kitB "str" "str" = some true := by decide +kernel
theorem kb_ns : kitB "NoneType" "str" = some false := by decide +kernel
theorem kb_ls : kitB "list" "str" = some false := by decide +kernel
theorem kb_ts : kitB "tuple" "str" = some false := by decide +kernel
theorem kb_ii : kitB "int" "int" = some true := by decide +kernel
theorem kb_ni : kitB "NoneType" "int" = some false := by decide +kernel
theorem kb_li : kitB "list" "int" = some false := by decide +kernel
theorem kb_ti : kitB "tuple" "int" = some false := by decide +kernel
theorem kb_ld : kitB "list" "dict" = some false := by decide +kernel
theorem kb_td : kitB "tuple" "dict" = some false := by decide +kernel
theorem kb_lt : kitB "list" "tuple" = some false := by decide +kernel
theorem kb_tt : kitB "tuple" "tuple" = some true := by decide +kernel
theorem kb_ll : kitB "list" "list" = some true := by decide +kernel
theorem kb_tl : kitB "tuple" "list" = some false := by decide +kernel
theorem kb_il : kitB "int" "list" = some false := by decide +kernel
end
/-! ### the rules with their written part told -/
section
variable {X : Cx} {e o : Expr} {es : List Expr} {te to tl ta tv : TE} {t : TA} {f : Str} {pos apos cpos pos' : Pos} {name : Str} {T id : String} {r : V → List V → Hp → VK → Prop} {value : Expr} {tg : Expr} {l : Expr}
theorem ix_listK (K : PySem.W.Frag) (h : X.K = K) : IxR X (rIxL K) := h ▸ ix_list
theorem ix_tupK (K : PySem.W.Frag) (h : X.K = K) : IxR X (rIxT K) := h ▸ ix_tup
theorem ix_seqK (K : PySem.W.Frag) (h : X.K = K) : IxR X (rIx K) := h ▸ ix_seq
theorem op_in_seqK (K : PySem.W.Frag) (h : X.K = K) : OpR X (compareOp .In) (rIn K false) := h ▸ op_in_seq
theorem op_notIn_seqK (K : PySem.W.Frag) (h : X.K = K) : OpR X (compareOp .NotIn) (rIn K true) := h ▸ op_notIn_seq
theorem cr_lnK (K : PySem.W.Frag) (h : X.K = K) : CallR X (.builtin "len") (rLn K) := h ▸ cr_ln
theorem call_isiQ (K : PySem.W.Frag) (h : X.K = K) : CallR X (.builtin "isinstance") (rIsi K) := h ▸ call_isi
theorem sl_listK (K : PySem.W.Frag) (h : X.K = K) : SlR X (rSlL K) := h ▸ sl_list
theorem op_eqDK (K : PySem.W.Frag) (h : X.K = K) (hu : X.A.units + 64 < cLine) : OpR X (compareOp .Eq) (rEqD K) := h ▸ op_eqD hu
theorem op_neDK (K : PySem.W.Frag) (h : X.K = K) (hu : X.A.units + 64 < cLine) : OpR X (compareOp .NotEq) (rNeD K) := h ▸ op_neD hu
theorem pe_fldK (K : PySem.W.Frag) (h : X.K = K) (he : PE X e te) (hb : attributeBase e f X.env (eval e X.env) = eval e X.env) : PE X (.Attribute e f pos) (tFld K te f) := h ▸ pe_fld he hb
theorem pe_bm0K (K : PySem.W.Frag) (h : X.K = K) (pa : PlainAttrs T) (slot : Slot T name id) (hty : typeOf (.builtin id) = pure (.type "method_descriptor")) (hm : MtR X id r) (ho : PE X o to)
    (hbase : attributeBase o name X.env (eval o X.env) = eval o X.env := by rfl) (hline : (apos.endLine == cpos.line) = true := by rfl) : PE X (.Call (.Attribute o name apos) [] [] cpos) (tBM0 K T r to) := h ▸ pe_bm0 pa slot hty hm ho hbase hline
theorem pe_bmK (K : PySem.W.Frag) (h : X.K = K) (pa : PlainAttrs T) (slot : Slot T name id) (hty : typeOf (.builtin id) = pure (.type "method_descriptor")) (hm : MtR X id r) (ho : PE X o to) (ha : PA X (e :: es) t)
    (hbase : attributeBase o name X.env (eval o X.env) = eval o X.env := by rfl)
    (hfew : ((backTo cpos (starEach (e :: es) X.env)).all (fun x => !x.1) && (backToKw cpos (keywordEach [] X.env)).all (fun x => x.1.isSome)
      && decide ((e :: es).length + ([] : List Keyword).length + (if ([] : List Keyword).isEmpty then 0 else 1) < 30)) = true := by rfl)
    (hline : (apos.endLine == cpos.line) = true := by rfl) (hs : starEach (e :: es) X.env = (false, eval e X.env) :: starEach es X.env := by rfl) (hplain : (backTo cpos (starEach es X.env)).any (·.1) = false := by rfl) :
    PE X (.Call (.Attribute o name apos) (e :: es) [] cpos) (tBM K T r to t) := h ▸ pe_bm pa slot hty hm ho ha hbase hfew hline hs hplain
theorem ps_fldK (K : PySem.W.Frag) (h : X.K = K) (ha : PE X o ta) (hv : PE X value tv) (hs : swapsWith value (some (.Attribute o f pos')) pos.line X.env = pure false) : PS X (.Assign [.Attribute o f pos'] value pos) (sFld K ta tv f) := h ▸ ps_fld ha hv hs
theorem pi_listK (K : PySem.W.Frag) (h : X.K = K) (hl : PE X l tl) : PI X tg l (iList K tl) := h ▸ pi_list hl
theorem pi_tupK (K : PySem.W.Frag) (h : X.K = K) (hl : PE X l tl) : PI X tg l (iTup K tl) := h ▸ pi_tup hl
theorem cr_sortedIK (K : PySem.W.Frag) (h : X.K = K) : CallR X (.builtin "sorted") (rSortedI K) := h ▸ cr_sortedI
end
/-- a def that is never called keeps what it likes -/
theorem cal_never {P : Program} {w : World} {K : PySem.W.Frag} {mg : Str → Option Value} {base : Heap} {CX : CXT} {x : Str} {st : Stmt} {ps : List Str} (F : Def K mg x st) (b : Bd x x st ps) : Cal P w K mg base CX 1 x ps (fun _ _ _ _ => False) := by
  obtain ⟨f, fd, F, hm⟩ := F.ex
  exact ⟨f, fd, ⟨fun _ _ _ _ h => h.elim, fun _ _ _ _ _ _ _ _ _ _ _ _ _ h => h.elim⟩, F.bindsN b, F.kp, hm⟩
theorem Cal.mono {P : Program} {w : World} {K : PySem.W.Frag} {mg : Str → Option Value} {base : Heap} {CX : CXT} {x : Str} {ps : List Str} {j k : Nat} {sp : Sp} (c : Cal P w K mg base CX j x ps sp) (h : j ≤ k) : Cal P w K mg base CX k x ps sp := by
  obtain ⟨f, fd, F, r⟩ := c.ex
  exact ⟨f, fd, F.mono h, r⟩
end Ak
namespace Ak
open PySem PySem.Spec PyProof.Rows L2
section
variable {K : PySem.W.Frag} {D : Option Addr} {M M' : List Addr} {H0 H H' : Hp} {l l' r fp fp' : List Cel} {ts ts' : List (Addr × List V)} {p q a d : Addr} {o u : HO} {xs : List V} {c : Cel} {w : Bool}
/-- an object that H does not know may change as it likes -/
theorem Aft.own (a : Aft M H H') (hp : H p = none) : Aft M H (upd H' p o) :=
  ⟨fun b v e hm => by rw [upd_ne (ne_of_none e hp)]; exact a.k b v e hm, fun b xs e => by rw [upd_ne (ne_of_none e hp)]; exact a.t b xs e, fun b v w e => by rw [upd_ne (ne_of_none e hp)]; exact a.z b v w e⟩
/-- something new that is no cell -/
theorem Now.alloc (N : Now K D M H0 H l ts) (hp : H p = none) : Now K D M H0 (upd H p o) l ts := N.pure (Aft.refl.new hp)
/-- a call, l = fp ++ r: fp becomes fp' -/
structure Aftr (fp fp' : List Cel) (H H' : Hp) : Prop where
  af : Aft (fp.map Cel.a) H H'
  nd : (fp'.map Cel.a).Nodup
  at_ : ∀ c ∈ fp', H' c.a = some c.o ∧ Mut (some c.o)
  nw : ∀ c ∈ fp', c.w = true ∧ (c.a ∈ fp.map Cel.a ∨ H c.a = none)
theorem Now.done (N : Now K D (fp.map Cel.a) H H' fp' ts) (hw : ∀ c ∈ fp', c.w = true) : Aftr fp fp' H H' :=
  ⟨N.af, N.nd, fun c hc => ⟨N.at_ c hc, N.mu c hc⟩, fun c hc => ⟨hw c hc, N.ow c hc (hw c hc)⟩⟩
theorem Now.call (N : Now K D M H0 H (fp ++ r) ts) (hw : ∀ c ∈ fp, c.w = true) (A : Aftr fp fp' H H') : Now K D M H0 H' (fp' ++ r) ts := by
  have nd := N.nd
  rw [List.map_append, List.nodup_append] at nd
  obtain ⟨nd1, nd2, dis⟩ := nd
  have mr : ∀ c ∈ r, c.a ∉ fp.map Cel.a := fun c hc m => dis _ m _ (List.mem_map.mpr ⟨c, hc, rfl⟩) rfl
  have fpw : ∀ a ∈ fp.map Cel.a, a ∈ M ∨ H0 a = none := fun a m => by
    obtain ⟨c, hc, rfl⟩ := List.mem_map.mp m
    exact N.ow c (List.mem_append_left _ hc) (hw c hc)
  refine ⟨?_, fun c hc => ?_, fun c hc => ?_, fun c hc hcw => ?_, fun q hq => A.af.t _ _ (N.tp q hq), N.af.call A.af fpw, fun d e => ?_⟩
  · rw [List.map_append, List.nodup_append]
    refine ⟨A.nd, nd2, fun a m b m' => ?_⟩
    rintro rfl
    obtain ⟨c, hc, rfl⟩ := List.mem_map.mp m
    obtain ⟨c', hc', e⟩ := List.mem_map.mp m'
    rcases (A.nw c hc).2 with z | z
    · exact mr c' hc' (e ▸ z)
    · have y := N.at_ c' (List.mem_append_right _ hc')
      rw [e, z] at y; cases y
  · rcases List.mem_append.mp hc with hc | hc
    · exact (A.at_ c hc).1
    · exact A.af.k _ _ (N.at_ c (List.mem_append_right _ hc)) (mr c hc)
  · rcases List.mem_append.mp hc with hc | hc
    · exact (A.at_ c hc).2
    · exact N.mu c (List.mem_append_right _ hc)
  · rcases List.mem_append.mp hc with hc | hc
    · rcases (A.nw c hc).2 with z | z
      · exact fpw _ z
      · by_cases m : c.a ∈ M
        · exact .inl m
        · exact .inr (N.af.free m z)
    · exact N.ow c (List.mem_append_right _ hc) hcw
  · obtain ⟨h1, h2, h3⟩ := N.dc d e
    rw [List.map_append, List.mem_append, not_or] at h3
    refine ⟨h1.keep A.af h3.1, h2, ?_⟩
    rw [List.map_append, List.mem_append, not_or]
    refine ⟨fun m => ?_, h3.2⟩
    obtain ⟨c, hc, e⟩ := List.mem_map.mp m
    rcases (A.nw c hc).2 with z | z
    · exact h3.1 (e ▸ z)
    · obtain ⟨ys, hy⟩ := h1.lst
      rw [e, hy] at z; cases z
/-- a call whose footprint is the front, written l = fp ++ r -/
theorem Now.perm (N : Now K D M H0 H l ts) (h : l'.Perm l) : Now K D M H0 H l' ts := N.sub l' (fun c hc => h.mem_iff.mp hc) ((h.map Cel.a).nodup_iff.mpr N.nd)
/-- some of the cells, by their places -/
theorem Now.sel (N : Now K D M H0 H l ts) (is : List Nat) (h : is.map (fun i => l[i]?) = l'.map some) (hn : is.Nodup) : Now K D M H0 H l' ts := by
  have at_ : ∀ (j : Nat) (c : Cel), l'[j]? = some c → ∃ i, is[j]? = some i ∧ l[i]? = some c := fun j c e => by
    have e1 : (l'.map some)[j]? = some (some c) := by rw [List.getElem?_map, e]; rfl
    rw [← h, List.getElem?_map] at e1
    cases e2 : is[j]? with
    | none => rw [e2] at e1; cases e1
    | some i => rw [e2] at e1; exact ⟨i, rfl, Option.some.inj e1⟩
  refine N.sub l' (fun c hc => ?_) ?_
  · obtain ⟨j, hj⟩ := List.getElem?_of_mem hc
    obtain ⟨i, _, e⟩ := at_ j c hj
    exact List.mem_of_getElem? e
  · refine List.pairwise_iff_getElem.mpr fun i j hi hj hij e => ?_
    have hi' : i < l'.length := by simpa using hi
    have hj' : j < l'.length := by simpa using hj
    rw [List.getElem_map, List.getElem_map] at e
    obtain ⟨a, ha, ea⟩ := at_ i _ (List.getElem?_eq_getElem hi')
    obtain ⟨b, hb, eb⟩ := at_ j _ (List.getElem?_eq_getElem hj')
    have q := nodup_at N.nd ea eb e
    subst q
    exact absurd (nd_ix hn ha hb) (by omega)
/-- a new cell that a call laid -/
theorem Now.grow (N : Now K D M H0 H l ts) (N' : Now K D M H0 H' l' ts') (hl : ∀ a ∈ l'.map Cel.a, a ∈ l.map Cel.a ∨ a ≠ q) (hq : H q = none) (h : H' q = some o) (hm : Mut (some o)) : Now K D M H0 H' (⟨true, q, o⟩ :: l') ts' where
  nd := List.nodup_cons.mpr ⟨fun m => (hl q m).elim (N.free hq) (fun z => z rfl), N'.nd⟩
  at_ := fun c hc => by
    rcases List.mem_cons.mp hc with e | hc
    · subst e; exact h
    · exact N'.at_ c hc
  mu := fun c hc => by
    rcases List.mem_cons.mp hc with e | hc
    · subst e; exact hm
    · exact N'.mu c hc
  ow := fun c hc hw => by
    rcases List.mem_cons.mp hc with e | hc
    · subst e
      by_cases z : q ∈ M
      · exact .inl z
      · exact .inr (N.af.free z hq)
    · exact N'.ow c hc hw
  tp := N'.tp
  af := N'.af
  dc := fun d e => by
    obtain ⟨h1, h2, h3⟩ := N'.dc d e
    refine ⟨h1, h2, ?_⟩
    intro m
    rcases List.mem_cons.mp m with z | z
    · obtain ⟨g1, _, _⟩ := N.dc d e
      obtain ⟨ys, hy⟩ := g1.lst
      rw [z, hq] at hy; cases hy
    · exact h3 z
/-- the start of a method -/
theorem Now.begin (hc : (fp.map Cel.a).Nodup ∧ ∀ c ∈ fp, H c.a = some c.o ∧ Mut (some c.o)) (tp : ∀ p ∈ ts, H p.1 = some (.tup p.2)) : Now K none (fp.map Cel.a) H H fp ts :=
  .start hc.1 (fun c h => ⟨(hc.2 c h).1, (hc.2 c h).2, fun _ => List.mem_map.mpr ⟨c, h, rfl⟩⟩) tp (by simp)
theorem Now.front (N : Now K D M H0 H (fp ++ r) ts) : (fp.map Cel.a).Nodup ∧ ∀ c ∈ fp, H c.a = some c.o ∧ Mut (some c.o) := by
  have nd := N.nd
  rw [List.map_append, List.nodup_append] at nd
  exact ⟨nd.1, fun c h => ⟨N.at_ c (List.mem_append_left _ h), N.mu c (List.mem_append_left _ h)⟩⟩
end
/-! ### fields, methods, made instances -/
section
variable {r' : R2} {tc : TE} {σ : L2.St} {y : V} {Q : VK} {H : Hp} {p : Prop} [Decidable p]
theorem c_chD (hp : p) (h : tc σ H fun w' H4 => r' y w' H4 Q) : cCh r' tc σ y Q (.bl (decide p)) H := c_ch (fun _ => h) fun e => absurd hp (of_decide_eq_false e)
theorem c_chN (hp : ¬ p) (h : Q (.bl false) H) : cCh r' tc σ y Q (.bl (decide p)) H := c_ch (fun e => absurd (of_decide_eq_true e) hp) fun _ => h
end
section
variable {K : PySem.W.Frag} {D : Option Addr} {M M' : List Addr} {H0 H H' : Hp} {l : List Cel} {ts : List (Addr × List V)} {p a C dx : Addr} {o u : HO} {c0 c1 c2 c3 : Cel} {σ : L2.St} {ta tv te : TE} {t : TA} {f m : Str} {fs fs' : List (Str × V)} {v y : V} {Q : VK} {sp : Sp} {dvs : List V} {E : XK} {nx bk ct : L2.St → Hp → Prop} {rt : VK} {w : Bool}
def cFld (K : PySem.W.Frag) (f : Str) (Q : VK) : VK := fun x H1 => ∃ a C dx fs v, x = .ref a ∧ H1 a = some (.ins C dx fs) ∧ Cls K C ∧ NoAttr K C f ∧ fs.lookup f = some v ∧ Q v H1
theorem k_fld (h : ta σ H (cFld K f Q)) : tFld K ta f σ H Q := h
theorem g_fld (h : H a = some (.ins C dx fs)) (cl : Cls K C) (na : NoAttr K C f) (hl : fs.lookup f = some v) (q : Q v H) : cFld K f Q (.ref a) H := ⟨a, C, dx, fs, v, rfl, h, cl, na, hl, q⟩
def cSF (K : PySem.W.Frag) (f : Str) (y : V) (nx : L2.St → Hp → Prop) (σ : L2.St) : VK := fun x H2 => ∃ a C dx fs, x = .ref a ∧ H2 a = some (.ins C dx fs) ∧ Cls K C ∧ NoAttr K C f ∧ fs.length < 1000 ∧ nx σ (upd H2 a (.ins C dx (putF f y fs)))
theorem k_sfld (h : tv σ H fun y H1 => ta σ H1 (cSF K f y nx σ)) : sFld K ta tv f ⟨nx, rt, bk, ct⟩ σ H := h
theorem g_sf0 (N : Now K D M H0 H (⟨true, p, .ins C dx fs⟩ :: l) ts) (cl : Cls K C) (na : NoAttr K C f) (hl : fs.length < 1000) (he : putF f y fs = fs') (q : ∀ H', Now K D M H0 H' (⟨true, p, .ins C dx fs'⟩ :: l) ts → nx σ H') : cSF K f y nx σ (.ref p) H :=
  ⟨p, C, dx, fs, rfl, N.cell 0 rfl, cl, na, hl, by rw [he]; exact q _ (N.put 0 rfl trivial)⟩
theorem g_sf1 (N : Now K D M H0 H (c0 :: ⟨true, p, .ins C dx fs⟩ :: l) ts) (cl : Cls K C) (na : NoAttr K C f) (hl : fs.length < 1000) (he : putF f y fs = fs') (q : ∀ H', Now K D M H0 H' (c0 :: ⟨true, p, .ins C dx fs'⟩ :: l) ts → nx σ H') : cSF K f y nx σ (.ref p) H :=
  ⟨p, C, dx, fs, rfl, N.cell 1 rfl, cl, na, hl, by rw [he]; exact q _ (N.put 1 rfl trivial)⟩
theorem g_sf2 (N : Now K D M H0 H (c0 :: c1 :: ⟨true, p, .ins C dx fs⟩ :: l) ts) (cl : Cls K C) (na : NoAttr K C f) (hl : fs.length < 1000) (he : putF f y fs = fs') (q : ∀ H', Now K D M H0 H' (c0 :: c1 :: ⟨true, p, .ins C dx fs'⟩ :: l) ts → nx σ H') : cSF K f y nx σ (.ref p) H :=
  ⟨p, C, dx, fs, rfl, N.cell 2 rfl, cl, na, hl, by rw [he]; exact q _ (N.put 2 rfl trivial)⟩
def cMeth (C : Addr) (m : Str) (sp : Sp) (dvs : List V) (E : XK) (t : TA) (σ : L2.St) (Q : VK) : VK := fun x H1 => ∃ a dx fs, x = .ref a ∧ H1 a = some (.ins C dx fs) ∧ fs.lookup m = none ∧ t σ H1 fun vs H2 => sp (x :: (vs ++ dvs)) H2 Q E
theorem k_meth (h : ta σ H (cMeth C m sp dvs E t σ Q)) : tMeth C m sp dvs E ta t σ H Q := h
theorem g_meth (h : H a = some (.ins C dx fs)) (hl : fs.lookup m = none) (q : t σ H fun vs H2 => sp (.ref a :: (vs ++ dvs)) H2 Q E) : cMeth C m sp dvs E t σ Q (.ref a) H := ⟨a, dx, fs, rfl, h, hl, q⟩
def cMake (C : Addr) (sp : Sp) (dvs : List V) (E : XK) (Q : VK) : List V → Hp → Prop := fun vs H1 => ∀ x dx, H1 x = none → H1 dx = none → dx ≠ x → sp (.ref x :: (vs ++ dvs)) (upd (upd H1 dx (.own x)) x (.ins C dx [])) (fun v H2 => v = .non ∧ Q (.ref x) H2) E
theorem k_make (h : t σ H (cMake C sp dvs E Q)) : tMake C sp dvs E t σ H Q := h
theorem g_make {vs : List V} (N : Now K D M H0 H l ts) (q : ∀ x dx H', H x = none → Now K D M H0 H' (⟨true, x, .ins C dx []⟩ :: l) ts → sp (.ref x :: (vs ++ dvs)) H' (fun v H2 => v = .non ∧ Q (.ref x) H2) E) : cMake C sp dvs E Q vs H := fun x dx hx hd ne =>
  q x dx _ hx ((N.alloc (o := .own x) hd).newC (by rw [upd_ne ne.symm]; exact hx) trivial)
end
/-! ### dicts -/
section
variable {K : PySem.W.Frag} {D : Option Addr} {M M' : List Addr} {H0 H H' : Hp} {l : List Cel} {ts : List (Addr × List V)} {p a : Addr} {kvs kvs' : List (Key × V)} {c0 c1 c2 : Cel} {σ : L2.St} {td ty tv te : TE} {v y : V} {Q : VK} {nx bk ct : L2.St → Hp → Prop} {rt : VK} {n : Int} {z : Str} {ro : Option V}
def cDGet (x : V) (Q : VK) : VK := fun y H2 => ∃ a v, x = .ref a ∧ DGet H2 a y (some v) ∧ Q v H2
theorem k_dget (h : td σ H fun x H1 => ty σ H1 (cDGet x Q)) : tDGet td ty σ H Q := h
theorem g_dgetI (h : H a = some (.dK kvs)) (hv : valV kvs (Sum.inl n) = some v) (q : Q v H) : cDGet (.ref a) Q (.int n) H := ⟨a, v, rfl, by rw [← hv]; exact DGet.k (k := Sum.inl n) h, q⟩
def lkS (z : Str) : List (Key × V) → Option V
  | [] => none
  | (Sum.inr y, v) :: r => if y = z then some v else lkS z r
  | (Sum.inl _, _) :: r => lkS z r
theorem valV_lk (z : Str) : ∀ kvs : List (Key × V), valV kvs (Sum.inr z) = lkS z kvs
  | [] => rfl
  | (Sum.inr y, v) :: r => by
    show _ = if y = z then some v else lkS z r
    by_cases e : y = z
    · subst e
      rw [if_pos rfl, valV_pos rfl]
    · rw [if_neg e, valV_neg (by simpa using e), valV_lk z r]
  | (Sum.inl i, v) :: r => by
    show _ = lkS z r
    rw [valV_neg (by simp), valV_lk z r]
theorem g_dgetS (h : H a = some (.dK kvs)) (hv : lkS z kvs = some v) (q : Q v H) : cDGet (.ref a) Q (.str z) H := ⟨a, v, rfl, by rw [← hv, ← valV_lk]; exact DGet.k (k := Sum.inr z) h, q⟩
def cDIn (y : V) (Q : VK) : VK := fun x H2 => ∃ a o, x = .ref a ∧ DGet H2 a y o ∧ Q (.bl o.isSome) H2
def cDNin (y : V) (Q : VK) : VK := fun x H2 => ∃ a o, x = .ref a ∧ DGet H2 a y o ∧ Q (.bl (!o.isSome)) H2
theorem k_din (h : ty σ H fun y H1 => td σ H1 (cDIn y Q)) : tDIn ty td σ H Q := h
theorem k_dnin (h : ty σ H fun y H1 => td σ H1 (cDNin y Q)) : tDNotIn ty td σ H Q := h
theorem g_dinI (h : H a = some (.dK kvs)) (q : Q (.bl (valV kvs (Sum.inl n)).isSome) H) : cDIn (.int n) Q (.ref a) H := ⟨a, _, rfl, DGet.k (k := Sum.inl n) h, q⟩
theorem g_dninI (h : H a = some (.dK kvs)) (q : Q (.bl (!(valV kvs (Sum.inl n)).isSome)) H) : cDNin (.int n) Q (.ref a) H := ⟨a, _, rfl, DGet.k (k := Sum.inl n) h, q⟩
def cDPut (v x : V) (nx : L2.St → Hp → Prop) (σ : L2.St) : VK := fun y H3 => ∃ a H4, x = .ref a ∧ DPut H3 a y v H4 ∧ nx σ H4
theorem k_dput (h : tv σ H fun v H1 => td σ H1 fun x H2 => ty σ H2 (cDPut v x nx σ)) : sDPut td ty tv ⟨nx, rt, bk, ct⟩ σ H := h
theorem g_dputI0 (N : Now K D M H0 H (⟨true, p, .dK kvs⟩ :: l) ts) (hl : kvs.length < 100000) (q : ∀ H', Now K D M H0 H' (⟨true, p, .dK (putK kvs (Sum.inl n) v)⟩ :: l) ts → nx σ H') : cDPut v (.ref p) nx σ (.int n) H :=
  ⟨p, _, rfl, DPut.k (k := Sum.inl n) (N.cell 0 rfl) (Nat.lt_of_lt_of_le hl (by decide)), q _ (N.put 0 rfl trivial)⟩
theorem g_dputI1 (N : Now K D M H0 H (c0 :: ⟨true, p, .dK kvs⟩ :: l) ts) (hl : kvs.length < 100000) (q : ∀ H', Now K D M H0 H' (c0 :: ⟨true, p, .dK (putK kvs (Sum.inl n) v)⟩ :: l) ts → nx σ H') : cDPut v (.ref p) nx σ (.int n) H :=
  ⟨p, _, rfl, DPut.k (k := Sum.inl n) (N.cell 1 rfl) (Nat.lt_of_lt_of_le hl (by decide)), q _ (N.put 1 rfl trivial)⟩
theorem g_dputI2 (N : Now K D M H0 H (c0 :: c1 :: ⟨true, p, .dK kvs⟩ :: l) ts) (hl : kvs.length < 100000) (q : ∀ H', Now K D M H0 H' (c0 :: c1 :: ⟨true, p, .dK (putK kvs (Sum.inl n) v)⟩ :: l) ts → nx σ H') : cDPut v (.ref p) nx σ (.int n) H :=
  ⟨p, _, rfl, DPut.k (k := Sum.inl n) (N.cell 2 rfl) (Nat.lt_of_lt_of_le hl (by decide)), q _ (N.put 2 rfl trivial)⟩
theorem g_dputS0 (N : Now K D M H0 H (⟨true, p, .dK kvs⟩ :: l) ts) (hl : kvs.length < 100000) (he : putK kvs (Sum.inr z) v = kvs') (q : ∀ H', Now K D M H0 H' (⟨true, p, .dK kvs'⟩ :: l) ts → nx σ H') : cDPut v (.ref p) nx σ (.str z) H :=
  ⟨p, _, rfl, DPut.k (k := Sum.inr z) (N.cell 0 rfl) (Nat.lt_of_lt_of_le hl (by decide)), by rw [he]; exact q _ (N.put 0 rfl trivial)⟩
theorem g_dputS1 (N : Now K D M H0 H (c0 :: ⟨true, p, .dK kvs⟩ :: l) ts) (hl : kvs.length < 100000) (he : putK kvs (Sum.inr z) v = kvs') (q : ∀ H', Now K D M H0 H' (c0 :: ⟨true, p, .dK kvs'⟩ :: l) ts → nx σ H') : cDPut v (.ref p) nx σ (.str z) H :=
  ⟨p, _, rfl, DPut.k (k := Sum.inr z) (N.cell 1 rfl) (Nat.lt_of_lt_of_le hl (by decide)), by rw [he]; exact q _ (N.put 1 rfl trivial)⟩
theorem g_dputS2 (N : Now K D M H0 H (c0 :: c1 :: ⟨true, p, .dK kvs⟩ :: l) ts) (hl : kvs.length < 100000) (he : putK kvs (Sum.inr z) v = kvs') (q : ∀ H', Now K D M H0 H' (c0 :: c1 :: ⟨true, p, .dK kvs'⟩ :: l) ts → nx σ H') : cDPut v (.ref p) nx σ (.str z) H :=
  ⟨p, _, rfl, DPut.k (k := Sum.inr z) (N.cell 2 rfl) (Nat.lt_of_lt_of_le hl (by decide)), by rw [he]; exact q _ (N.put 2 rfl trivial)⟩
theorem k_dnew {Q : VK} (N : Now K D M H0 H l ts) (q : ∀ p H', Now K D M H0 H' (⟨true, p, .dK []⟩ :: l) ts → Q (.ref p) H') : tDNewK σ H Q := fun p hp => q p _ (N.newC hp trivial)
/-- pop of a key that is there -/
def cDPop (σ : L2.St) (ty : TE) (Q : VK) : VK := fun x H1 => ∃ a, x = .ref a ∧ IsD H1 a ∧ ty σ H1 fun y H2 => ∃ kvs k v, H2 a = some (.dK kvs) ∧ y = kV k ∧ valV kvs k = some v ∧ Q v (upd H2 a (.dK (dropK kvs k)))
theorem k_dpop (h : td σ H (cDPop σ ty Q)) : tDPop1 td ty σ H Q := h
end
end Ak
namespace Ak
open PySem PySem.Spec PyProof.Rows L2
/-! ### comprehensions -/
section
variable {K : PySem.W.Frag} {D : Option Addr} {M : List Addr} {H0 H : Hp} {l : List Cel} {ts : List (Addr × List V)} {a p : Addr} {xs acc : List V} {σ : L2.St} {g : TG} {tt : TT} {te tl : TE} {tr : TA} {vs : List Nat} {Q : VK} {j : Nat} {y : V}
def cPut (Dd : Addr) (P : Hp → Prop) : VK := fun y H4 => ∃ acc, H4 Dd = some (.lst acc) ∧ acc.length < sizeLine ∧ P (upd H4 Dd (.lst (acc ++ [y])))
def cElt (te : TE) (σ : L2.St) (Dd : Addr) (P : Hp → Prop) : Bool → Hp → Prop := fun b H3 => if b = true then te σ H3 (cPut Dd P) else P H3
def LcW (J : It) (g : TG) (tt : TT) (te : TE) (vs : List Nat) (σ : L2.St) (Q : VK) (H1 : Hp) : Prop := ∀ D, H1 D = none → ∃ W : Nat → Nat → Hp → Prop, (∃ m, W 0 m (upd H1 D (.lst []))) ∧ ∀ i m H, W i m H →
  (J.stop i H ∧ Q (.ref D) H) ∨ (J.go i H ∧ ∃ Nx : Hp → Prop, (∀ H', Nx H' → ∃ m', m' < m ∧ W (i + 1) m' H') ∧ ∀ x H', J.yld i H x H' → g x (wipe σ vs) H' fun σ2 H2 => wipe σ2 vs = wipe σ vs ∧ tt σ2 H2 fun b H3 =>
    if b = true then te σ2 H3 fun y H4 => ∃ acc, H4 D = some (.lst acc) ∧ acc.length < sizeLine ∧ Nx (upd H4 D (.lst (acc ++ [y]))) else Nx H3)
def cLc (K : PySem.W.Frag) (g : TG) (tt : TT) (te : TE) (vs : List Nat) (σ : L2.St) (Q : VK) : VK := fun x H1 => ∃ a, x = .ref a ∧ (∃ xs, SqL K H1 a xs) ∧ LcW (Itl K a) g tt te vs σ Q H1
def cLcT (K : PySem.W.Frag) (g : TG) (tt : TT) (te : TE) (vs : List Nat) (σ : L2.St) (Q : VK) : VK := fun x H1 => ∃ a, x = .ref a ∧ (∃ xs, SqT K H1 a xs) ∧ LcW (Itt K a) g tt te vs σ Q H1
def cLcR (g : TG) (tt : TT) (te : TE) (vs : List Nat) (σ : L2.St) (Q : VK) : List V → Hp → Prop := fun us H1 => ∃ j : Int, us = [.int j] ∧ -(2 ^ 62) ≤ j ∧ j < 2 ^ 62 ∧ LcW (Itr 0 j.toNat) g tt te vs σ Q H1
def cLcR2 (g : TG) (tt : TT) (te : TE) (vs : List Nat) (σ : L2.St) (Q : VK) : List V → Hp → Prop := fun us H1 => ∃ i j : Int, us = [.int i, .int j] ∧ (-(2 ^ 62) ≤ i ∧ i < 2 ^ 62 ∧ -(2 ^ 62) ≤ j ∧ j < 2 ^ 62) ∧ LcW (Itr i (j - i).toNat) g tt te vs σ Q H1
theorem k_lc (h : tl σ H (cLc K g tt te vs σ Q)) : tLc (iList K tl) g tt te vs σ H Q := h
theorem k_lcT (h : tl σ H (cLcT K g tt te vs σ Q)) : tLc (iTup K tl) g tt te vs σ H Q := h
theorem k_lcR (h : tr σ H (cLcR g tt te vs σ Q)) : tLc (iRng1 tr) g tt te vs σ H Q := h
theorem k_lcR2 (h : tr σ H (cLcR2 g tt te vs σ Q)) : tLc (iRng2 tr) g tt te vs σ H Q := h
/-- what is made so far: R -/
def LcP (K : PySem.W.Frag) (D : Option Addr) (M : List Addr) (H0 : Hp) (l : List Cel) (ts : List (Addr × List V)) (R : Nat → List V → Prop) (Dd : Addr) (i : Nat) : Hp → Prop := fun H => ∃ acc, Now K D M H0 H (⟨true, Dd, .lst acc⟩ :: l) ts ∧ R i acc
theorem c_put {R : Nat → List V → Prop} {Dd : Addr} {i : Nat} (N : Now K D M H0 H (⟨true, Dd, .lst acc⟩ :: l) ts) (hz : acc.length < 100000) (h : R i (acc ++ [y])) : cPut Dd (LcP K D M H0 l ts R Dd i) y H :=
  ⟨acc, N.cell 0 rfl, Nat.lt_of_lt_of_le hz (by decide), _, N.put 0 rfl trivial, h⟩
theorem c_elT {Dd : Addr} {P : Hp → Prop} (h : te σ H (cPut Dd P)) : cElt te σ Dd P true H := h
theorem c_elF {R : Nat → List V → Prop} {Dd : Addr} {i : Nat} (N : Now K D M H0 H (⟨true, Dd, .lst acc⟩ :: l) ts) (h : R i acc) : cElt te σ Dd (LcP K D M H0 l ts R Dd i) false H := ⟨acc, N, h⟩
theorem c_el {Dd : Addr} {P : Hp → Prop} {b : Bool} (h1 : b = true → te σ H (cPut Dd P)) (h2 : b = false → P H) : cElt te σ Dd P b H := by
  cases b with
  | true => exact h1 rfl
  | false => exact h2 rfl
theorem k_yes {Q : Bool → Hp → Prop} (h : Q true H) : tYes σ H Q := h
theorem c_lc (N : Now K D M H0 H l ts) (xs : List V) (R : Nat → List V → Prop) (h0 : R 0 []) (hl : ∀ (H' : Hp) (Dd : Addr) (acc : List V), Now K D M H0 H' (⟨true, Dd, .lst acc⟩ :: l) ts → SqL K H' a xs)
    (hw : ∀ x, wipe ((wipe σ vs).set j (some x)) vs = wipe σ vs)
    (hs : ∀ i x (Dd : Addr) (H' : Hp) (acc : List V), xs[i]? = some x → Now K D M H0 H' (⟨true, Dd, .lst acc⟩ :: l) ts → R i acc → tt ((wipe σ vs).set j (some x)) H' (cElt te ((wipe σ vs).set j (some x)) Dd (LcP K D M H0 l ts R Dd (i + 1))))
    (hd : ∀ (p : Addr) (H' : Hp) (acc : List V), Now K D M H0 H' (⟨true, p, .lst acc⟩ :: l) ts → R xs.length acc → Q (.ref p) H') (hx : SqL K H a xs) : cLc K (gName j) tt te vs σ Q (.ref a) H := by
  refine ⟨a, rfl, ⟨xs, hx⟩, fun Dd hD => ?_⟩
  refine lc_list (K := K) (a := a) (xs := xs) (LcP K D M H0 l ts R Dd) ⟨[], N.newC hD trivial, h0⟩ (fun i H' _ ⟨acc, N', _⟩ => hl _ _ _ N') (fun i x H' hi ⟨acc, N', r⟩ => ?_) fun H' ⟨acc, N', r⟩ => hd _ _ _ N' r
  exact ⟨hw x, hs i x Dd H' acc hi N' r⟩
theorem c_lcT (N : Now K D M H0 H l ts) (xs : List V) (R : Nat → List V → Prop) (h0 : R 0 []) (hl : ∀ (H' : Hp) (l' : List Cel), Now K D M H0 H' l' ts → SqT K H' a xs)
    (hw : ∀ x, wipe ((wipe σ vs).set j (some x)) vs = wipe σ vs)
    (hs : ∀ i x (Dd : Addr) (H' : Hp) (acc : List V), xs[i]? = some x → Now K D M H0 H' (⟨true, Dd, .lst acc⟩ :: l) ts → R i acc → tt ((wipe σ vs).set j (some x)) H' (cElt te ((wipe σ vs).set j (some x)) Dd (LcP K D M H0 l ts R Dd (i + 1))))
    (hd : ∀ (p : Addr) (H' : Hp) (acc : List V), Now K D M H0 H' (⟨true, p, .lst acc⟩ :: l) ts → R xs.length acc → Q (.ref p) H') : cLcT K (gName j) tt te vs σ Q (.ref a) H := by
  refine ⟨a, rfl, ⟨xs, hl _ _ N⟩, fun Dd hD => ?_⟩
  refine lc_tup (K := K) (a := a) (xs := xs) (LcP K D M H0 l ts R Dd) ⟨[], N.newC hD trivial, h0⟩ (fun i H' _ ⟨acc, N', _⟩ => hl _ _ N') (fun i x H' hi ⟨acc, N', r⟩ => ?_) fun H' ⟨acc, N', r⟩ => hd _ _ _ N' r
  exact ⟨hw x, hs i x Dd H' acc hi N' r⟩
theorem c_lcR {n : Int} (N : Now K D M H0 H l ts) (hn : -100000 ≤ n ∧ n ≤ 100000) (R : Nat → List V → Prop) (h0 : R 0 [])
    (hw : ∀ x, wipe ((wipe σ vs).set j (some x)) vs = wipe σ vs)
    (hs : ∀ (i : Nat) (Dd : Addr) (H' : Hp) (acc : List V), (i : Int) < n → Now K D M H0 H' (⟨true, Dd, .lst acc⟩ :: l) ts → R i acc → tt ((wipe σ vs).set j (some (.int (i : Int)))) H' (cElt te ((wipe σ vs).set j (some (.int (i : Int)))) Dd (LcP K D M H0 l ts R Dd (i + 1))))
    (hd : ∀ (p : Addr) (H' : Hp) (acc : List V), Now K D M H0 H' (⟨true, p, .lst acc⟩ :: l) ts → R n.toNat acc → Q (.ref p) H') : cLcR (gName j) tt te vs σ Q [.int n] H := by
  refine ⟨n, rfl, by omega, by omega, fun Dd hD => ?_⟩
  refine lc_range (lo := 0) (n := n.toNat) (LcP K D M H0 l ts R Dd) ⟨[], N.newC hD trivial, h0⟩ (fun i H' hi ⟨acc, N', r⟩ => ?_) fun H' ⟨acc, N', r⟩ => hd _ _ _ N' r
  rw [show (0 : Int) + (i : Int) = (i : Int) from Int.zero_add _]
  exact ⟨hw _, hs i Dd H' acc (by omega) N' r⟩
theorem c_lcR2 {lo n : Int} (N : Now K D M H0 H l ts) (hn : -100000 ≤ n ∧ n ≤ 100000 ∧ -100000 ≤ lo ∧ lo ≤ 100000) (R : Nat → List V → Prop) (h0 : R 0 [])
    (hw : ∀ x, wipe ((wipe σ vs).set j (some x)) vs = wipe σ vs)
    (hs : ∀ (i : Nat) (Dd : Addr) (H' : Hp) (acc : List V), lo + (i : Int) < n → Now K D M H0 H' (⟨true, Dd, .lst acc⟩ :: l) ts → R i acc → tt ((wipe σ vs).set j (some (.int (lo + (i : Int))))) H' (cElt te ((wipe σ vs).set j (some (.int (lo + (i : Int))))) Dd (LcP K D M H0 l ts R Dd (i + 1))))
    (hd : ∀ (p : Addr) (H' : Hp) (acc : List V), Now K D M H0 H' (⟨true, p, .lst acc⟩ :: l) ts → R (n - lo).toNat acc → Q (.ref p) H') : cLcR2 (gName j) tt te vs σ Q [.int lo, .int n] H := by
  refine ⟨lo, n, rfl, by omega, fun Dd hD => ?_⟩
  refine lc_range (lo := lo) (n := (n - lo).toNat) (LcP K D M H0 l ts R Dd) ⟨[], N.newC hD trivial, h0⟩ (fun i H' hi ⟨acc, N', r⟩ => ?_) fun H' ⟨acc, N', r⟩ => hd _ _ _ N' r
  exact ⟨hw _, hs i Dd H' acc (by omega) N' r⟩
end
/-! ### methods of lists -/
section
variable {K : PySem.W.Frag} {D : Option Addr} {M : List Addr} {H0 H : Hp} {l : List Cel} {ts : List (Addr × List V)} {a p : Addr} {xs : List V} {σ : L2.St} {to : TE} {t : TA} {Q : VK} {r : V → List V → Hp → VK → Prop} {T : String} {c0 c1 c2 : Cel} {v : V} {kvs : List (Key × V)} {n : Int} {nx : L2.St → Hp → Prop}
def cBM (K : PySem.W.Frag) (T : String) (r : V → List V → Hp → VK → Prop) (t : TA) (σ : L2.St) (Q : VK) : VK := fun x H1 => tyV K T x H1 ∧ t σ H1 fun xs H2 => r x xs H2 Q
theorem k_bm (h : to σ H (cBM K T r t σ Q)) : tBM K T r to t σ H Q := h
theorem g_bmL (h : SqL K H p xs) (q : t σ H fun xs H2 => r (.ref p) xs H2 Q) : cBM K "list" r t σ Q (.ref p) H := ⟨.inl ⟨rfl, _, h⟩, q⟩
def cBM0 (K : PySem.W.Frag) (T : String) (r : V → List V → Hp → VK → Prop) (Q : VK) : VK := fun x H1 => tyV K T x H1 ∧ r x [] H1 Q
theorem k_bm0 (h : to σ H (cBM0 K T r Q)) : tBM0 K T r to σ H Q := h
theorem g_bmL0 (h : SqL K H p xs) (q : r (.ref p) [] H Q) : cBM0 K "list" r Q (.ref p) H := ⟨.inl ⟨rfl, _, h⟩, q⟩
theorem g_app2 (N : Now K D M H0 H (c0 :: c1 :: ⟨true, p, .lst xs⟩ :: l) ts) (hz : xs.length < 100000) (q : ∀ H', Now K D M H0 H' (c0 :: c1 :: ⟨true, p, .lst (xs ++ [v])⟩ :: l) ts → Q .non H') : rAppend (.ref p) [v] H Q := ⟨p, xs, v, rfl, rfl, N.cell 2 rfl, Nat.lt_of_lt_of_le hz (by decide), q _ (N.put 2 rfl trivial)⟩
theorem g_app3 (N : Now K D M H0 H (c0 :: c1 :: c2 :: ⟨true, p, .lst xs⟩ :: l) ts) (hz : xs.length < 100000) (q : ∀ H', Now K D M H0 H' (c0 :: c1 :: c2 :: ⟨true, p, .lst (xs ++ [v])⟩ :: l) ts → Q .non H') : rAppend (.ref p) [v] H Q := ⟨p, xs, v, rfl, rfl, N.cell 3 rfl, Nat.lt_of_lt_of_le hz (by decide), q _ (N.put 3 rfl trivial)⟩
/-- cells as a callee wants them -/
def CelOk (H : Hp) (fp : List Cel) : Prop := (fp.map Cel.a).Nodup ∧ ∀ c ∈ fp, H c.a = some c.o ∧ Mut (some c.o)
theorem Now.ok (N : Now K D M H0 H l ts) : CelOk H l := ⟨N.nd, fun c hc => ⟨N.at_ c hc, N.mu c hc⟩⟩
end
/-! ### slices, tuple(..), list(..) -/
section
variable {K : PySem.W.Frag} {D : Option Addr} {M : List Addr} {H0 H : Hp} {l : List Cel} {ts : List (Addr × List V)} {a p : Addr} {xs : List V} {σ : L2.St} {te : TE} {tl th : TO} {Q : VK} {r : V → Option Int → Option Int → Hp → VK → Prop}
theorem k_sl (h : te σ H fun x H1 => tl σ H1 fun l H2 => th σ H2 fun u H3 => r x l u H3 Q) : tSl r te tl th σ H Q := h
theorem k_nopart {Q : Option Int → Hp → Prop} (h : Q none H) : tNoPart σ H Q := h
def cPart (Q : Option Int → Hp → Prop) : VK := fun x H1 => ∃ i, x = .int i ∧ Q (some i) H1
theorem k_part {Q : Option Int → Hp → Prop} (h : te σ H (cPart Q)) : tPart te σ H Q := h
theorem c_part {Q : Option Int → Hp → Prop} {i : Int} (h : Q (some i) H) : cPart Q (.int i) H := ⟨i, rfl, h⟩
theorem g_slL {lo hi : Option Int} (N : Now K D M H0 H l ts) (hx : SqL K H a xs) (q : ∀ p H', Now K D M H0 H' (⟨true, p, .lst (cutV xs lo hi)⟩ :: l) ts → Q (.ref p) H') : rSlL K (.ref a) lo hi H Q := ⟨a, xs, rfl, hx, fun p hp => q p _ (N.newC hp trivial)⟩
theorem cut_take {xs : List V} (n : Nat) : cutV xs none (some (n : Int)) = xs.take n := by
  unfold cutV
  rw [HT.sIx_none, HT.sIx_nat, List.drop_zero, Nat.sub_zero]
  by_cases h : n ≤ xs.length
  · rw [Nat.min_eq_left h]
  · rw [Nat.min_eq_right (by omega), List.take_of_length_le (by omega), List.take_of_length_le (by omega)]
theorem cut_drop {xs : List V} (n : Nat) : cutV xs (some (n : Int)) none = xs.drop n := by
  unfold cutV
  rw [HT.sIx_nat, HT.sIx_none]
  by_cases h : n ≤ xs.length
  · rw [Nat.min_eq_left h]
    exact List.take_of_length_le (by rw [List.length_drop]; omega)
  · rw [Nat.min_eq_right (by omega), List.drop_of_length_le (by omega : xs.length ≤ n)]
    simp
def rTupL (K : PySem.W.Frag) : List V → Hp → VK → Prop := fun xs H Q => ∃ p ys, xs = [.ref p] ∧ SqL K H p ys ∧ ∀ l, H l = none → Q (.ref l) (upd H l (.tup ys))
theorem cr_tupL {X : Cx} : CallR X (.type "tuple") (rTupL X.K) := fun pins s σ H xs us Q I r h => call_tuple_of pins s σ H xs us Q I r (let ⟨p, ys, e, h1, h2⟩ := h; ⟨p, ys, e, .inl ⟨h1, h2⟩⟩)
theorem cr_tupLK {X : Cx} (K : PySem.W.Frag) (h : X.K = K) : CallR X (.type "tuple") (rTupL K) := h ▸ cr_tupL
theorem g_tupL (N : Now K D M H0 H l ts) (hx : SqL K H a xs) (q : ∀ p H', Now K D M H0 H' l ((p, xs) :: ts) → Q (.ref p) H') : rTupL K [.ref a] H Q := ⟨a, xs, rfl, hx, fun p hp => q p _ (N.newT hp)⟩
def rLstS (K : PySem.W.Frag) : List V → Hp → VK → Prop := fun xs H Q => ∃ p ys, xs = [.ref p] ∧ (SqL K H p ys ∨ SqT K H p ys) ∧ ∀ l, H l = none → Q (.ref l) (upd H l (.lst ys))
theorem cr_lstS {X : Cx} : CallR X (.type "list") (rLstS X.K) := call_list_of
theorem cr_lstSK {X : Cx} (K : PySem.W.Frag) (h : X.K = K) : CallR X (.type "list") (rLstS K) := h ▸ cr_lstS
theorem g_lstL (N : Now K D M H0 H l ts) (hx : SqL K H a xs) (q : ∀ p H', Now K D M H0 H' (⟨true, p, .lst xs⟩ :: l) ts → Q (.ref p) H') : rLstS K [.ref a] H Q := ⟨a, xs, rfl, .inl hx, fun p hp => q p _ (N.newC hp trivial)⟩
theorem g_lstT (N : Now K D M H0 H l ts) (hx : SqT K H a xs) (q : ∀ p H', Now K D M H0 H' (⟨true, p, .lst xs⟩ :: l) ts → Q (.ref p) H') : rLstS K [.ref a] H Q := ⟨a, xs, rfl, .inr hx, fun p hp => q p _ (N.newC hp trivial)⟩
/-- sorted of a dict, of a list of ints: a new cell -/
theorem g_sortD {kvs : List (Key × V)} {ks : List Int} (N : Now K D M H0 H l ts) (hd : H a = some (.dK kvs)) (hk : kvs.map (·.1) = ks.map Sum.inl) (q : ∀ p H' (ys : List Int), ys.Perm ks → ys.Pairwise (· ≤ ·) → Now K D M H0 H' (⟨true, p, .lst (ys.map V.int)⟩ :: l) ts → Q (.ref p) H') : rSortedDA [.ref a] H Q :=
  ⟨a, kvs, ks, rfl, .of hd, hk, fun ys p h1 h2 hp => q p _ ys h1 h2 (N.newC hp trivial)⟩
theorem g_sortL {ks : List Int} (N : Now K D M H0 H l ts) (hx : SqL K H a (ks.map V.int)) (q : ∀ p H' (ys : List Int), ys.Perm ks → ys.Pairwise (· ≤ ·) → Now K D M H0 H' (⟨true, p, .lst (ys.map V.int)⟩ :: l) ts → Q (.ref p) H') : rSortedI K [.ref a] H Q :=
  ⟨a, ks, rfl, hx, fun ys p h1 h2 hp => q p _ ys h1 h2 (N.newC hp trivial)⟩
/-- xs + ys: a new cell -/
theorem g_cat {b : Addr} {ys : List V} (N : Now K D M H0 H l ts) (hx : H a = some (.lst xs)) (hy : H b = some (.lst ys)) (hz : xs.length + ys.length ≤ 100000) (q : ∀ p H', Now K D M H0 H' (⟨true, p, .lst (xs ++ ys)⟩ :: l) ts → Q (.ref p) H') : rCat (.ref a) (.ref b) H Q :=
  ⟨a, b, xs, ys, rfl, rfl, hx, hy, Nat.le_trans hz (by decide), fun p hp => q p _ (N.newC hp trivial)⟩
/-- x in xs, ints -/
theorem inV_ints {n : Int} : ∀ {ns : List Int}, inV (.int n) (ns.map V.int) = decide (n ∈ ns)
  | [] => by simp [inV]
  | m :: ns => by
    have ih := inV_ints (n := n) (ns := ns)
    unfold inV at ih ⊢
    rw [List.map_cons, List.any_cons, ih]
    by_cases e : n = m
    · subst e; simp [eqV]
    · have e' : ¬ m = n := fun z => e z.symm
      simp [eqV, e, e']
theorem flat_ints {ns : List Int} : (ns.map V.int).all flatV = true := by
  rw [List.all_eq_true]
  intro x hx
  obtain ⟨n, _, rfl⟩ := List.mem_map.mp hx
  rfl
theorem g_inI {n : Int} {ns : List Int} (h : SqL K H a (ns.map V.int) ∨ SqT K H a (ns.map V.int)) (q : Q (.bl (decide (n ∈ ns))) H) : rIn K false (.int n) (.ref a) H Q :=
  ⟨a, _, rfl, h, rfl, flat_ints, by rw [inV_ints]; exact q⟩
theorem g_ninI {n : Int} {ns : List Int} (h : SqL K H a (ns.map V.int) ∨ SqT K H a (ns.map V.int)) (q : Q (.bl (decide (n ∉ ns))) H) : rIn K true (.int n) (.ref a) H Q :=
  ⟨a, _, rfl, h, rfl, flat_ints, by
    rw [inV_ints, if_pos rfl, ← decide_not]
    exact q⟩
/-- == and != of lists of ints -/
theorem eqv_ints : ∀ {a b : List Int}, PyData.eqvAll (a.map PyData.int) (b.map PyData.int) = decide (a = b)
  | [], [] => by simp [PyData.eqvAll]
  | [], _ :: _ => by simp [PyData.eqvAll]
  | _ :: _, [] => by simp [PyData.eqvAll]
  | x :: a, y :: b => by
    have ih := eqv_ints (a := a) (b := b)
    rw [List.map_cons, List.map_cons, PyData.eqvAll, ih]
    by_cases e : x = y
    · subst e; by_cases e2 : a = b <;> simp [PyData.eqv, e2]
    · simp [PyData.eqv, e]
theorem lay_ints : ∀ ns : List Int, PyData.canLayAll0 (ns.map PyData.int) = true ∧ PyData.depthAll (ns.map PyData.int) ≤ 1
  | [] => by simp [PyData.canLayAll0, PyData.depthAll]
  | n :: ns => by
    obtain ⟨h1, h2⟩ := lay_ints ns
    simp only [List.map_cons, PyData.canLayAll0, PyData.depthAll, PyData.canLay0, PyData.depth, h1, Bool.and_self, true_and]
    omega
theorem shaped_ints (ns : List Int) : SeqAt.shaped (.list (ns.map PyData.int)) = true := by
  obtain ⟨h1, h2⟩ := lay_ints ns
  unfold SeqAt.shaped
  simp only [PyData.canLay0, PyData.depth, h1, Bool.true_and]
  exact decide_eq_true (by omega)
theorem shaped_intsT (ns : List Int) : SeqAt.shaped (.tuple (ns.map PyData.int)) = true := by
  obtain ⟨h1, h2⟩ := lay_ints ns
  unfold SeqAt.shaped
  simp only [PyData.canLay0, PyData.depth, h1, Bool.true_and]
  exact decide_eq_true (by omega)
variable {b : Addr}
theorem g_eqL {m n : List Int} (h1 : SqL K H a (m.map V.int)) (h2 : SqL K H b (n.map V.int)) (q : Q (.bl (decide (m = n))) H) : rEqD K (.ref a) (.ref b) H Q :=
  ⟨_, _, .lst h1 (dpa_ints m), .lst h2 (dpa_ints n), shaped_ints m, shaped_ints n, by rw [PyData.eqv, eqv_ints]; exact q⟩
theorem g_neL {m n : List Int} (h1 : SqL K H a (m.map V.int)) (h2 : SqL K H b (n.map V.int)) (q : Q (.bl (decide (m ≠ n))) H) : rNeD K (.ref a) (.ref b) H Q :=
  ⟨_, _, .lst h1 (dpa_ints m), .lst h2 (dpa_ints n), shaped_ints m, shaped_ints n, by rw [PyData.eqv, eqv_ints, ← decide_not]; exact q⟩
theorem g_eqT {m n : List Int} (h1 : SqT K H a (m.map V.int)) (h2 : SqT K H b (n.map V.int)) (q : Q (.bl (decide (m = n))) H) : rEqD K (.ref a) (.ref b) H Q :=
  ⟨_, _, .tup h1 (dpa_ints m), .tup h2 (dpa_ints n), shaped_intsT m, shaped_intsT n, by rw [PyData.eqv, eqv_ints]; exact q⟩
theorem g_neT {m n : List Int} (h1 : SqT K H a (m.map V.int)) (h2 : SqT K H b (n.map V.int)) (q : Q (.bl (decide (m ≠ n))) H) : rNeD K (.ref a) (.ref b) H Q :=
  ⟨_, _, .tup h1 (dpa_ints m), .tup h2 (dpa_ints n), shaped_intsT m, shaped_intsT n, by rw [PyData.eqv, eqv_ints, ← decide_not]; exact q⟩
end
end Ak
namespace Ak
open PySem PySem.Spec PyProof.Rows L2
/-! ### a locked dict is walked -/
section
variable {K : PySem.W.Frag} {D : Option Addr} {M : List Addr} {H0 H : Hp} {l : List Cel} {ts : List (Addr × List V)} {a p d : Addr} {u o' : HO} {ob : Obj} {σ : L2.St} {te td ty : TE} {t : TS} {g : TG} {Q : VK} {c0 c1 c2 : Cel} {v : V} {kvs : List (Key × V)} {n : Int} {nx bk ct : L2.St → Hp → Prop} {rt : VK}
theorem Now.lock (N : Now K D M H0 H (⟨true, d, u⟩ :: l) ts) (hM : d ∉ M) : Now K D M H0 (upd H d o') l ts := by
  have h0 : H0 d = none := (N.ow ⟨true, d, u⟩ List.mem_cons_self rfl).resolve_left hM
  have hd : H d = some u := N.cell 0 rfl
  have hmu : Mut (some u) := N.mu ⟨true, d, u⟩ List.mem_cons_self
  have nd := List.nodup_cons.mp N.nd
  have A : Aft [d] H (upd H d o') := Aft.refl.put hd hmu (.inl (by simp))
  exact {
    nd := nd.2
    at_ := fun c hc => A.k _ _ (N.at_ c (List.mem_cons_of_mem _ hc)) (by
      intro m
      have e : c.a = d := by simpa using m
      exact nd.1 (List.mem_map.mpr ⟨c, hc, e⟩))
    mu := fun c hc => N.mu c (List.mem_cons_of_mem _ hc)
    ow := fun c hc => N.ow c (List.mem_cons_of_mem _ hc)
    tp := fun q hq => A.t _ _ (N.tp q hq)
    af := N.af.own h0
    dc := fun e he => by
      obtain ⟨h1, h2, h3⟩ := N.dc e he
      refine ⟨h1.keep A ?_, h2, fun m => h3 (List.mem_cons_of_mem _ m)⟩
      intro m
      have q : e = d := by simpa using m
      subst q
      exact h3 List.mem_cons_self }
/-- the lock is taken off again -/
theorem Now.unlock (N : Now K none M H0 H l ts) (h0 : H0 d = none) (hd : H d = some (.frz ob o')) : Now K none M H0 (upd H d u) l ts where
  nd := N.nd
  at_ := fun c hc => by
    have q := N.at_ c hc
    have m := N.mu c hc
    rw [upd_ne]
    · exact q
    · intro e
      rw [e, hd] at q
      rw [← Option.some.inj q] at m
      exact m
  mu := N.mu
  ow := N.ow
  tp := fun q hq => by
    have z := N.tp q hq
    rw [upd_ne]
    · exact z
    · intro e
      rw [e, hd] at z; cases z
  af := N.af.own h0
  dc := fun e he => by cases he
def cForK (g : TG) (tb : TS) (D : Ends) (σ : L2.St) : VK := fun x H1 => ∃ d o, x = .ref d ∧ ((∃ kvs, H1 d = some (.frz o (.dK kvs)) ∧ ∃ W : Nat → Nat → L2.St → Hp → Prop, (∃ m, W 0 m σ H1) ∧ ∀ i m σ H, W i m σ H →
    ((Itk d o kvs).stop i H ∧ D.nx σ H) ∨ ((Itk d o kvs).go i H ∧ ∃ N : L2.St → Hp → Prop, (∀ σ' H', N σ' H' → ∃ m', m' < m ∧ W (i + 1) m' σ' H') ∧ ∀ x H', (Itk d o kvs).yld i H x H' → g x σ H' fun σ2 H2 => tb { D with nx := N, ct := N, bk := D.nx } σ2 H2)) ∨
  ∃ kvs, H1 d = some (.frz o (.dT kvs)) ∧ ∃ W : Nat → Nat → L2.St → Hp → Prop, (∃ m, W 0 m σ H1) ∧ ∀ i m σ H, W i m σ H →
    ((Itkt d o kvs).stop i H ∧ D.nx σ H) ∨ ((Itkt d o kvs).go i H ∧ ∃ N : L2.St → Hp → Prop, (∀ σ' H', N σ' H' → ∃ m', m' < m ∧ W (i + 1) m' σ' H') ∧ ∀ x H', (Itkt d o kvs).yld i H x H' → g x σ H' fun σ2 H2 => tb { D with nx := N, ct := N, bk := D.nx } σ2 H2))
theorem k_forK (h : td σ H (cForK g t ⟨nx, rt, bk, ct⟩ σ)) : tFor (iKeys td) g t ⟨nx, rt, bk, ct⟩ σ H := h
theorem c_forK (Pv : Nat → L2.St → Hp → Prop) (h0 : Pv 0 σ H) (hl : ∀ i σ H, Pv i σ H → H d = some (.frz ob (.dK kvs)))
    (hs : ∀ i k v σ H, kvs[i]? = some (k, v) → Pv i σ H → g (kV k) σ H fun σ2 H2 => t ⟨Pv (i + 1), rt, nx, Pv (i + 1)⟩ σ2 H2) (hd : ∀ σ H, Pv kvs.length σ H → nx σ H) : cForK g t ⟨nx, rt, bk, ct⟩ σ (.ref d) H := by
  refine ⟨d, ob, rfl, .inl ⟨kvs, hl _ _ _ h0, fun i m σ H => m = kvs.length - i ∧ i ≤ kvs.length ∧ Pv i σ H, ⟨kvs.length, by simp, Nat.zero_le _, h0⟩, ?_⟩⟩
  rintro i m σ H ⟨rfl, hi, q⟩
  by_cases lt : i < kvs.length
  · refine .inr ⟨⟨hl _ _ _ q, lt⟩, Pv (i + 1), fun σ' H' q' => ⟨kvs.length - (i + 1), by omega, rfl, lt, q'⟩, ?_⟩
    rintro x H' ⟨rfl, k, v, hk, rfl⟩
    exact hs i k v σ _ hk q
  · have e : i = kvs.length := by omega
    subst e
    exact .inl ⟨⟨hl _ _ _ q, Nat.le_refl _⟩, hd σ H q⟩
def cLock (t : TS) (D : Ends) (σ : L2.St) (H : Hp) : Prop := ∃ d u, H d = some u ∧ Mut (some u) ∧ ∀ od, t ⟨fun σ' H' => H' d = some (.frz od u) ∧ D.nx σ' (upd H' d u), fun v H' => H' d = some (.frz od u) ∧ D.rt v (upd H' d u), fun σ' H' => H' d = some (.frz od u) ∧ D.bk σ' (upd H' d u), fun σ' H' => H' d = some (.frz od u) ∧ D.ct σ' (upd H' d u)⟩ σ (upd H d (.frz od u))
theorem k_lock (hd : H d = some u) (hm : Mut (some u)) (q : ∀ od, t ⟨fun σ' H' => H' d = some (.frz od u) ∧ nx σ' (upd H' d u), fun v H' => H' d = some (.frz od u) ∧ rt v (upd H' d u), fun σ' H' => H' d = some (.frz od u) ∧ bk σ' (upd H' d u), fun σ' H' => H' d = some (.frz od u) ∧ ct σ' (upd H' d u)⟩ σ (upd H d (.frz od u))) :
    tLock t ⟨nx, rt, bk, ct⟩ σ H := ⟨d, u, hd, hm, q⟩
theorem g_dpop1 (N : Now K D M H0 H (c0 :: ⟨true, p, .dK kvs⟩ :: l) ts) (q : ty σ H fun y H2 => ∃ kvs k v, H2 p = some (.dK kvs) ∧ y = kV k ∧ valV kvs k = some v ∧ Q v (upd H2 p (.dK (dropK kvs k)))) : cDPop σ ty Q (.ref p) H := ⟨p, rfl, .inl ⟨kvs, .of (N.cell 1 rfl)⟩, q⟩
end
end Ak
namespace Ak
open PySem PySem.Spec PyProof.Rows L2
/-! ### dict displays, names by pattern, a cut -/
section
variable {K : PySem.W.Frag} {D : Option Addr} {M : List Addr} {H0 H H' : Hp} {l : List Cel} {ts : List (Addr × List V)} {a p : Addr} {σ : L2.St} {te ta tb : TE} {t : TS} {g : TG} {Q : VK} {c0 c1 c2 : Cel} {v w x : V} {kvs kvs' : List (Key × V)} {n i j : Nat} {nx bk ct : L2.St → Hp → Prop} {rt : VK} {trs : List (TE × TE)} {ps : List (V × V)}
def cDisp (p : Addr) (Q : VK) : List (V × V) → Hp → Prop := fun ps H2 => H2 p = some (.dK []) ∧ ∃ kvs : List (Key × V), ps = kvs.map (fun kv => (kV kv.1, kv.2)) ∧ kvs.length ≤ 15 ∧ Q (.ref p) (upd H2 p (.dK (mergeK [] kvs)))
theorem k_disp (N : Now K D M H0 H l ts) (q : ∀ p H', Now K D M H0 H' (⟨true, p, .dK []⟩ :: l) ts → tPairs trs σ H' (cDisp p Q)) : tDisp trs σ H Q := fun p hp => q p _ (N.newC hp trivial)
theorem k_pairs0 {Q : List (V × V) → Hp → Prop} (h : Q [] H) : tPairs [] σ H Q := h
theorem k_pairs {Q : List (V × V) → Hp → Prop} (h : ta σ H fun x H1 => tb σ H1 fun y H2 => tPairs trs σ H2 fun ps H3 => Q ((x, y) :: ps) H3) : tPairs ((ta, tb) :: trs) σ H Q := h
theorem g_disp0 (N : Now K D M H0 H (⟨true, p, .dK []⟩ :: l) ts) (hk : ps = kvs.map (fun kv => (kV kv.1, kv.2))) (hl : kvs.length ≤ 15) (hm : mergeK [] kvs = kvs') (q : ∀ H', Now K D M H0 H' (⟨true, p, .dK kvs'⟩ :: l) ts → Q (.ref p) H') : cDisp p Q ps H :=
  ⟨N.cell 0 rfl, kvs, hk, hl, by rw [hm]; exact q _ (N.put 0 rfl trivial)⟩
theorem g_un {QQ : L2.St → Hp → Prop} (h : SqT K H a [v, w]) (hn : n = 2) (hq : QQ ((σ.set i (some v)).set j (some w)) H) : gTup K n (gCons (gName i) (gCons (gName j) gNil)) (.ref a) σ H QQ :=
  ⟨a, [v, w], rfl, h, hn.symm, v, [w], rfl, w, [], rfl, rfl, hq⟩
/-- what comes after is told once -/
theorem k_cut {R : L2.St → Hp → Prop} (q : ∀ σ H, R σ H → nx σ H) (h : ∀ nx' : L2.St → Hp → Prop, (∀ σ H, R σ H → nx' σ H) → t ⟨nx', rt, bk, ct⟩ σ H) : t ⟨nx, rt, bk, ct⟩ σ H := h nx q
theorem k_cut3 {R : L2.St → Hp → Prop} {t1 t2 t3 : TS} (q : ∀ σ H, R σ H → t3 ⟨nx, rt, bk, ct⟩ σ H) (h : ∀ nx' : L2.St → Hp → Prop, (∀ σ H, R σ H → nx' σ H) → tSeq t1 t2 ⟨nx', rt, bk, ct⟩ σ H) : tSeq t1 (tSeq t2 t3) ⟨nx, rt, bk, ct⟩ σ H := h _ q
theorem g_like {E : XK} {y : V} {d : PyData} {m : Nat} (h1 : Dp K H x d) (h2 : Dp K H y d) (h3 : dOk m d) (q : ∀ H', Aft [] H H' → Q (.bl true) H') : spLike K (m + 1) [x, y] H Q E := ⟨x, y, d, rfl, h1, h2, h3, q⟩
theorem dOk_ints {m : Nat} {ns : List Int} (h : ns.length ≤ 100000) : dOk (m + 1) (.list (ns.map PyData.int)) ∧ dOk (m + 1) (.tuple (ns.map PyData.int)) := by
  have q : ∀ d ∈ ns.map PyData.int, dOk m d := fun d hd => by
    obtain ⟨n, _, rfl⟩ := List.mem_map.mp hd
    cases m <;> trivial
  constructor
  · exact ⟨by rw [List.length_map]; exact h, q⟩
  · exact ⟨by rw [List.length_map]; exact h, q⟩
theorem Now.fresh {o : HO} (N : Now K D M H0 H l ts) (A : Aft [] H H') (hp : H p = none) (h : H' p = some o) (hm : Mut (some o)) : Now K D M H0 H' (⟨true, p, o⟩ :: l) ts :=
  Now.grow N (N.pure A) (fun _ h => .inl h) hp h hm
theorem sorted_eq {a b c : List Int} (h1 : a.Perm c) (h2 : a.Pairwise (· ≤ ·)) (h3 : b.Perm c) (h4 : b.Pairwise (· ≤ ·)) : a = b :=
  (h1.trans h3.symm).eq_of_pairwise (fun x y _ _ e1 e2 => by omega) h2 h4
end
end Ak
namespace Ak
open PySem PySem.Spec PyProof.Rows L2
local macro_rules | `(tactic| walk_at "ty") => `(tactic| first
  | assumption | exact tyx_non | exact tyx_bl | exact tyx_int | exact tyx_str
  | (refine sql_ty (xs := ?x0) ?_; walk_at "sq") | (refine sqt_ty (xs := ?x0) ?_; walk_at "sq"))
local macro_rules | `(tactic| walk_at "kb") => `(tactic| with_reducible first
  | exact kb_bb | exact kb_ib | exact kb_sb | exact kb_nb | exact kb_lb | exact kb_tb | exact kb_is | exact kb_ss | exact kb_ns | exact kb_ls | exact kb_ts
  | exact kb_ii | exact kb_ni | exact kb_li | exact kb_ti | exact kb_ld | exact kb_td | exact kb_lt | exact kb_tt | exact kb_ll | exact kb_tl | exact kb_il)
local macro_rules | `(tactic| walk_at "arith") => `(tactic| first
  | (show (0 : Int) < _; first | decide | omega)
  | (show CDiv _ _; exact ⟨by first | decide | omega, by first | decide | omega⟩)
  | (show CMul _ _; exact Or.inr ⟨by decide, by decide⟩)
  | (show CMul _ _; exact Or.inl ⟨by omega, by omega⟩)
  | (show CMul _ _; exact Or.inr ⟨by omega, by omega⟩)
  | (show CPow _ _; exact ⟨by decide, by decide, by decide⟩))
local macro_rules | `(tactic| walk_at "c") => `(tactic| first
  | assumption
  | ((refine Now.cell (K := ?K0) (D := ?D0) (M := ?M0) (H0 := ?H00) (w := ?w0) (l := ?l0) (ts := ?t0) ?n0 0 ?h0); (case n0 => assumption); (case h0 => rfl))
  | ((refine Now.cell (K := ?K0) (D := ?D0) (M := ?M0) (H0 := ?H00) (w := ?w0) (l := ?l0) (ts := ?t0) ?n0 1 ?h0); (case n0 => assumption); (case h0 => rfl))
  | ((refine Now.cell (K := ?K0) (D := ?D0) (M := ?M0) (H0 := ?H00) (w := ?w0) (l := ?l0) (ts := ?t0) ?n0 2 ?h0); (case n0 => assumption); (case h0 => rfl))
  | ((refine Now.cell (K := ?K0) (D := ?D0) (M := ?M0) (H0 := ?H00) (w := ?w0) (l := ?l0) (ts := ?t0) ?n0 3 ?h0); (case n0 => assumption); (case h0 => rfl))
  | ((refine Now.cell (K := ?K0) (D := ?D0) (M := ?M0) (H0 := ?H00) (w := ?w0) (l := ?l0) (ts := ?t0) ?n0 4 ?h0); (case n0 => assumption); (case h0 => rfl))
  | ((refine Now.cell (K := ?K0) (D := ?D0) (M := ?M0) (H0 := ?H00) (w := ?w0) (l := ?l0) (ts := ?t0) ?n0 5 ?h0); (case n0 => assumption); (case h0 => rfl))
  | ((refine Now.cell (K := ?K0) (D := ?D0) (M := ?M0) (H0 := ?H00) (w := ?w0) (l := ?l0) (ts := ?t0) ?n0 6 ?h0); (case n0 => assumption); (case h0 => rfl))
  | ((refine Now.cell (K := ?K0) (D := ?D0) (M := ?M0) (H0 := ?H00) (w := ?w0) (l := ?l0) (ts := ?t0) ?n0 7 ?h0); (case n0 => assumption); (case h0 => rfl))
  | ((refine Now.cell (K := ?K0) (D := ?D0) (M := ?M0) (H0 := ?H00) (w := ?w0) (l := ?l0) (ts := ?t0) ?n0 8 ?h0); (case n0 => assumption); (case h0 => rfl))
  | ((refine Now.tup (K := ?K0) (D := ?D0) (M := ?M0) (H0 := ?H00) (l := ?l0) (ts := ?t0) ?n0 0 ?h0); (case n0 => assumption); (case h0 => rfl))
  | ((refine Now.tup (K := ?K0) (D := ?D0) (M := ?M0) (H0 := ?H00) (l := ?l0) (ts := ?t0) ?n0 1 ?h0); (case n0 => assumption); (case h0 => rfl))
  | ((refine Now.tup (K := ?K0) (D := ?D0) (M := ?M0) (H0 := ?H00) (l := ?l0) (ts := ?t0) ?n0 2 ?h0); (case n0 => assumption); (case h0 => rfl))
  | ((refine Now.tup (K := ?K0) (D := ?D0) (M := ?M0) (H0 := ?H00) (l := ?l0) (ts := ?t0) ?n0 3 ?h0); (case n0 => assumption); (case h0 => rfl)))
local macro_rules | `(tactic| walk_at "sq") => `(tactic| first
  | assumption
  | (refine Scr.sq ?_; assumption)
  | ((refine Scr.sq (Scr.keep (M := ?m0) (H := ?h00) ?hs (Now.af (K := ?K0) (D := ?D0) (l := ?l0) (ts := ?t0) ?hn)); (case hn => assumption); (case hs => assumption)))
  | (refine SqL.of ?_; walk_at "c")
  | (refine SqT.of ?_; walk_at "c"))
local macro_rules | `(tactic| walk_at "k1") => `(tactic| first
  | (with_reducible refine k_seq ?_)
  | (with_reducible refine k_asg ?_)
  | (with_reducible refine k_gname ?_)
  | ((with_reducible refine k_var (v := ?kv) ?kh ?kk); (case kh => exact rfl))
  | (with_reducible refine k_c ?_)
  | (with_reducible refine k_cons ?_)
  | (with_reducible refine k_nil ?_)
  | (with_reducible refine k_op ?_)
  | (with_reducible refine k_I0 ?_)
  | ((with_reducible refine k_I ?kh ?kk); (case kh => walk_at "arith"))
  | (with_reducible refine g_intB ?_)
  | ((with_reducible refine g_lnL (xs := ?kx) ?kh ?kk); (case kh => walk_at "sq"))
  | ((with_reducible refine g_lnT (xs := ?kx) ?kh ?kk); (case kh => walk_at "sq"))
  | ((with_reducible refine g_ixL (xs := ?kx) (v := ?kv) ?kh ?ki ?kk); (case kh => walk_at "sq"); (case ki => rfl))
  | ((with_reducible refine g_ixT (xs := ?kx) (v := ?kv) ?kh ?ki ?kk); (case kh => walk_at "sq"); (case ki => rfl))
  | (with_reducible refine k_gsub ?_)
  | ((with_reducible refine g_set0 (l := ?kl) (xs := ?kx) (ts := ?kt) (D := ?kd) (H0 := ?k0) (M := ?km) (K := ?kK) (j := ?kj) ?kn ?ki (fun H' N' => ?kk)); (case kn => with_reducible assumption); (case ki => rfl))
  | ((with_reducible refine g_set1 (c0 := ?kc) (l := ?kl) (xs := ?kx) (ts := ?kt) (D := ?kd) (H0 := ?k0) (M := ?km) (K := ?kK) (j := ?kj) ?kn ?ki (fun H' N' => ?kk)); (case kn => with_reducible assumption); (case ki => rfl))
  | ((with_reducible refine g_tup (l := ?kl) (ts := ?kt) (D := ?kd) (H0 := ?k0) (M := ?km) (K := ?kK) ?kn ?ki (fun p H' N' => ?kk)); (case kn => with_reducible assumption); (case ki => exact Nat.le_of_ble_eq_true rfl))
  | ((with_reducible refine g_lst (l := ?kl) (ts := ?kt) (D := ?kd) (H0 := ?k0) (M := ?km) (K := ?kK) ?kn ?ki (fun p H' N' => ?kk)); (case kn => with_reducible assumption); (case ki => exact Nat.le_of_ble_eq_true rfl))
  | (with_reducible refine c_ifT ?_)
  | (with_reducible refine c_ifF ?_)
  | (with_reducible refine c_andT ?_)
  | (with_reducible refine c_andF ?_)
  | (with_reducible refine c_orT ?_)
  | (with_reducible refine c_orF ?_)
  | (with_reducible refine c_ifET ?_)
  | (with_reducible refine c_ifEF ?_)
  | (with_reducible refine e_andT ?_)
  | (with_reducible refine e_andF ?_)
  | (with_reducible refine e_orT ?_)
  | (with_reducible refine e_orF ?_)
  | (with_reducible refine e_notT ?_)
  | (with_reducible refine e_notF ?_)
  | (with_reducible refine c_ntT ?_)
  | (with_reducible refine c_ntF ?_)
  | (with_reducible refine c_ntD ?_)
  | (with_reducible refine k_isY ?_)
  | ((with_reducible refine k_isX ?kh ?kk); (case kh => intro z; cases z))
  | (with_reducible refine k_ntY ?_)
  | ((with_reducible refine k_ntX ?kh ?kk); (case kh => intro z; cases z))
  | ((with_reducible refine g_isi (a := ?ka) (r := ?kr) ?kt ?kb ?kk); (case kt => walk_at "ty"); (case kb => walk_at "kb"))
  | (with_reducible refine k_fld ?_)
  | ((with_reducible refine g_fld (C := ?kC) (dx := ?kdx) (fs := ?kfs) (v := ?kv) ?kh ?kcl ?kna ?kl ?kk); (case kh => walk_at "c"); (case kcl => assumption); (case kna => assumption); (case kl => rfl))
  | (with_reducible refine k_sfld ?_)
  | ((with_reducible refine g_sf0 (K := ?kK) (D := ?kd) (M := ?km) (H0 := ?k0) (l := ?kl) (ts := ?kt) (C := ?kC) (dx := ?kdx) (fs := ?kfs) (fs' := ?kfs') ?kn ?kcl ?kna ?kll ?ke (fun H' N' => ?kk)); (case kn => with_reducible assumption); (case kcl => assumption); (case kna => assumption); (case kll => exact Nat.le_of_ble_eq_true rfl); (case ke => rfl))
  | ((with_reducible refine g_sf1 (K := ?kK) (D := ?kd) (M := ?km) (H0 := ?k0) (c0 := ?kc0) (l := ?kl) (ts := ?kt) (C := ?kC) (dx := ?kdx) (fs := ?kfs) (fs' := ?kfs') ?kn ?kcl ?kna ?kll ?ke (fun H' N' => ?kk)); (case kn => with_reducible assumption); (case kcl => assumption); (case kna => assumption); (case kll => exact Nat.le_of_ble_eq_true rfl); (case ke => rfl))
  | ((with_reducible refine g_sf2 (K := ?kK) (D := ?kd) (M := ?km) (H0 := ?k0) (c0 := ?kc0) (c1 := ?kc1) (l := ?kl) (ts := ?kt) (C := ?kC) (dx := ?kdx) (fs := ?kfs) (fs' := ?kfs') ?kn ?kcl ?kna ?kll ?ke (fun H' N' => ?kk)); (case kn => with_reducible assumption); (case kcl => assumption); (case kna => assumption); (case kll => exact Nat.le_of_ble_eq_true rfl); (case ke => rfl))
  | (with_reducible refine k_meth ?_)
  | ((with_reducible refine g_meth (dx := ?kdx) (fs := ?kfs) ?kh ?kl ?kk); (case kh => walk_at "c"); (case kl => rfl))
  | (with_reducible refine k_make ?_)
  | (with_reducible refine k_dget ?_)
  | (with_reducible refine k_din ?_)
  | (with_reducible refine k_dnin ?_)
  | (with_reducible refine k_dput ?_)
  | (with_reducible refine k_dpop ?_)
  | ((with_reducible refine g_dgetS (kvs := ?kkv) (v := ?kv) ?kh ?kl ?kk); (case kh => walk_at "c"); (case kl => rfl))
  | ((with_reducible refine k_dnew (K := ?kK) (D := ?kd) (M := ?km) (H0 := ?k0) (l := ?kl) (ts := ?kt) ?kn (fun p H' N' => ?kk)); (case kn => with_reducible assumption))
  | ((with_reducible refine c_chD ?kh ?kk); (case kh => omega))
  | ((with_reducible refine c_chN ?kh ?kk); (case kh => omega))
  | ((with_reducible refine c_ifdT ?kh ?kk); (case kh => omega))
  | ((with_reducible refine c_ifdF ?kh ?kk); (case kh => omega))
  | (with_reducible refine k_lc ?_)
  | (with_reducible refine k_lcT ?_)
  | (with_reducible refine k_lcR ?_)
  | (with_reducible refine k_lcR2 ?_)
  | (with_reducible refine k_yes ?_)
  | (with_reducible refine c_elT ?_)
  | (with_reducible refine k_sl ?_)
  | (with_reducible refine k_nopart ?_)
  | (with_reducible refine k_part ?_)
  | (with_reducible refine c_part ?_)
  | ((with_reducible refine g_slL (K := ?kK) (D := ?kd) (M := ?km) (H0 := ?k0) (l := ?kl) (ts := ?kt) (xs := ?kxs) ?kn ?kx (fun p H' N' => ?kk)); (case kn => with_reducible assumption); (case kx => walk_at "sq"))
  | ((with_reducible refine g_tupL (K := ?kK) (D := ?kd) (M := ?km) (H0 := ?k0) (l := ?kl) (ts := ?kt) (xs := ?kxs) ?kn ?kx (fun p H' N' => ?kk)); (case kn => with_reducible assumption); (case kx => walk_at "sq"))
  | ((with_reducible refine g_lstL (K := ?kK) (D := ?kd) (M := ?km) (H0 := ?k0) (l := ?kl) (ts := ?kt) (xs := ?kxs) ?kn ?kx (fun p H' N' => ?kk)); (case kn => with_reducible assumption); (case kx => walk_at "sq"))
  | ((with_reducible refine g_lstT (K := ?kK) (D := ?kd) (M := ?km) (H0 := ?k0) (l := ?kl) (ts := ?kt) (xs := ?kxs) ?kn ?kx (fun p H' N' => ?kk)); (case kn => with_reducible assumption); (case kx => walk_at "sq"))
  | ((with_reducible refine g_cat (K := ?kK) (D := ?kd) (M := ?km) (H0 := ?k0) (l := ?kl) (ts := ?kt) (xs := ?kxs) (ys := ?kys) ?kn ?kx ?ky ?kz (fun p H' N' => ?kk)); (case kn => with_reducible assumption); (case kx => walk_at "c"); (case ky => walk_at "c"); (case kz => first | (simp only [List.length_map, List.length_cons, List.length_nil]; omega) | omega))
  | (with_reducible refine k_bm ?_)
  | (with_reducible refine k_bm0 ?_)
  | ((with_reducible refine g_bmL (xs := ?kxs) ?kx ?kk); (case kx => walk_at "sq"))
  | ((with_reducible refine g_bmL0 (xs := ?kxs) ?kx ?kk); (case kx => walk_at "sq"))
  | (with_reducible refine k_forK ?_)
  | ((with_reducible refine g_inI (ns := ?kns) ?kx ?kk); (case kx => first | (refine Or.inl ?_; walk_at "sq") | (refine Or.inr ?_; walk_at "sq")))
  | ((with_reducible refine g_ninI (ns := ?kns) ?kx ?kk); (case kx => first | (refine Or.inl ?_; walk_at "sq") | (refine Or.inr ?_; walk_at "sq")))
  | (with_reducible refine k_if ?_)
  | (with_reducible refine k_test ?_)
  | (with_reducible refine e_bl ?_)
  | ((with_reducible refine k_eqS ?kh ?kk); (case kh => rfl))
  | ((with_reducible refine k_neS ?kh ?kk); (case kh => rfl))
  | (with_reducible refine k_eqI ?_)
  | (with_reducible refine k_neI ?_)
  | (with_reducible refine k_call ?_)
  | (with_reducible refine k_cb ?_)
  | (with_reducible refine k_tup ?_)
  | (with_reducible refine k_lst ?_)
  | (with_reducible refine k_drop ?_)
  | (with_reducible refine k_ret ?_)
  | (with_reducible refine k_for ?_)
  | (with_reducible refine k_forT ?_)
  | (with_reducible refine k_forR ?_)
  | (with_reducible refine k_tB ?_)
  | (with_reducible refine k_not ?_)
  | (with_reducible refine k_and ?_)
  | (with_reducible refine k_or ?_)
  | (with_reducible refine k_andV ?_)
  | (with_reducible refine k_orV ?_)
  | (with_reducible refine k_notV ?_)
  | (with_reducible refine k_ifE ?_)
  | (with_reducible refine k_par ?_)
  | (with_reducible refine e_par ?_)
  | (with_reducible refine k_next ?_)
  | (with_reducible refine k_un ?_)
  | (with_reducible refine k_U ?_)
  | (with_reducible refine k_chain ?_)
  | (with_reducible refine k_pairs ?_)
  | (with_reducible refine k_pairs0 ?_)
  | ((with_reducible refine k_disp (K := ?kK) (D := ?kd) (M := ?km) (H0 := ?k0) (l := ?kl) (ts := ?kt) ?kn (fun p H' N' => ?kk)); (case kn => with_reducible assumption)))
local macro_rules | `(tactic| walk_at "k") => `(tactic| repeat (walk_at "k1"))
local macro_rules | `(tactic| walk_at "go") => `(tactic| (dsimp only [cxOf, Cx.nox, Cx.wish, L2.start, List.map_cons, List.map_nil, List.length_cons, List.length_nil, Nat.reduceAdd, Nat.reduceSub, List.replicate, List.cons_append, List.nil_append]; walk_at "k"))
def top (i : Nat) : Stmt := PySem.Challenge.pw_ackbits_k08_loads.main.body.getD i (.Pass ⟨0, 0, 0, 0⟩)
/-! ### the dice -/
section
variable {P : Program} {w : World} {K : PySem.W.Frag} {mg : Str → Option Value} {base : Heap}
abbrev s_l_dice : Stmt := top 8
theorem sc_l_dice : FnScope ["_law_script", "_law_mixed", "_law_cell"] ["_law_script"] (defScope s_l_dice) := ⟨rfl, rfl, rfl, by decide +kernel, rfl, by decide +kernel, by decide +kernel⟩
theorem bd_l_dice : Bd "_law_dice" "_law_dice" s_l_dice ["_law_script"] := fun _ _ _ _ _ _ us hl => match us, hl with | [_], _ => rfl
def spDice (K : PySem.W.Frag) : Sp := fun vs H Q _ => ∃ (a : Addr) (ns : List Int), vs = [.ref a] ∧ Scr K H a (ns.map V.int) ∧ ns.length ≤ 63 ∧ ∀ d H', Aft [] H H' → H d = none → Dice K H' d → Q (.ref d) H'
theorem ok_dice (F : Def K mg "_law_dice" s_l_dice) (B : Bt mg) : Cal P w K mg base CX0 1 "_law_dice" ["_law_script"] (spDice K) := by
  refine F.ok sc_l_dice bd_l_dice (fun vs H Q E h => ?_) (fun f cdv A outer s H vs Q E hr h => ?_)
  · obtain ⟨a, ns, rfl, _⟩ := h
    rfl
  · obtain ⟨a, ns, rfl, hS, hl, k⟩ := h
    refine ⟨_, PSs.nox (pss_cons (ps_set (i := 1) sc_l_dice.nd rfl (by first | exact Or.inl rfl | exact Or.inr rfl) pe_int)
      (pss_cons (ps_for PassesOwn.never rfl (pi_listK K rfl (pv 0)) (pg_name (i := 2) sc_l_dice.nd rfl (by first | exact Or.inl rfl | exact Or.inr rfl))
      (pss_one (ps_set (i := 1) sc_l_dice.nd rfl (by first | exact Or.inl rfl | exact Or.inr rfl) (pe_op op_mod (pe_op op_add (pe_op op_add (pe_op op_mul (pv 1) pe_int) (pe_op op_mul (pe_op op_mod (pv 2) pe_int) pe_int)) pe_int) pe_int))))
      (pss_one (ps_ret (pe_lst (pa_cons (pv 0) (pa_cons pe_int (pa_cons (pe_op op_mul (pv 1) (pe_callTy cr_intB (by rfl) B.m_int (by decide +kernel) (pa_cons (pe_cmpR op_gt (pe_callB (cr_lnK K rfl) (by rfl) B.m_len (by decide +kernel) (pa_cons (pv 0) pa_nil)) pe_int (nomark _)) pa_nil))) (pa_cons pe_int pa_nil))))))))), ?_⟩
    walk_at "go"
    refine c_for (xs := ns.map V.int) (fun i σ H' => ∃ m v, σ = [some (.ref a), some (.int m), v] ∧ H' = H ∧ 0 ≤ m ∧ m < 2147483647) ⟨0, _, rfl, rfl, by decide, by decide⟩ (fun i σ H' _ ⟨_, _, _, e, _⟩ => e ▸ hS.sq) ?_ ?_
    · rintro i x σ H' hx ⟨m, v, rfl, rfl, h0, h1⟩
      rw [List.getElem?_map] at hx
      obtain ⟨z, hz, rfl⟩ := Option.map_eq_some_iff.mp hx
      walk_at "k"
      exact ⟨_, _, rfl, rfl, Int.emod_nonneg _ (by decide), Int.emod_lt_of_pos _ (by decide)⟩
    · rintro σ H' ⟨m, v, rfl, rfl, h0, h1⟩
      walk_at "k"
      refine ⟨by show 4 ≤ sizeLine; decide, fun p hp => ?_⟩
      refine k p _ (Aft.refl.new hp) hp ⟨a, ns, 0, _, 0, upd_same, hS.keep (M := []) (Aft.refl.new hp), hl, Int.le_refl 0, ?_, ?_⟩
      all_goals (split <;> omega)
end
section
variable {P : Program} {w : World} {K : PySem.W.Frag} {mg : Str → Option Value} {base : Heap}
abbrev s_l_next : Stmt := top 9
theorem sc_l_next : FnScope ["_law_dice_here", "_law_many", "_law_found", "_law_cell"] ["_law_dice_here", "_law_many"] (defScope s_l_next) := ⟨rfl, rfl, rfl, by decide +kernel, rfl, by decide +kernel, by decide +kernel⟩
theorem bd_l_next : Bd "_law_next" "_law_next" s_l_next ["_law_dice_here", "_law_many"] := fun _ _ _ _ _ _ us hl => match us, hl with | [_, _], _ => rfl
theorem ok_next (F : Def K mg "_law_next" s_l_next) (B : Bt mg) : Cal P w K mg base CX0 1 "_law_next" ["_law_dice_here", "_law_many"] (spNext K) := by
  refine F.ok sc_l_next bd_l_next (fun vs H Q E h => ?_) (fun f cdv A outer s H vs Q E hr h => ?_)
  · obtain ⟨a, ns, rfl, _⟩ := h
    rfl
  · obtain ⟨d, n, rfl, hD, h0, h1, k⟩ := h
    obtain ⟨a, ns, i, m, r, hd, hS, hl, hi, hm0, hm1⟩ := hD.ex
    refine ⟨_, PSs.nox (pss_cons (ps_if (pt_cmpR op_gt (pe_ix (ix_listK K rfl) (pv 0) pe_int (fun _ _ => rfl)) pe_int (nomark _)) (pss_cons (ps_set (i := 2) sc_l_next.nd rfl (by first | exact Or.inl rfl | exact Or.inr rfl) (pe_op op_mod (pe_ix (ix_listK K rfl) (pv 0) pe_int (fun _ _ => rfl)) (pv 1)))
      (pss_cons (ps_asg (pe_op op_fdiv (pe_ix (ix_listK K rfl) (pv 0) pe_int (fun _ _ => rfl)) (pv 1)) (pg_sub (pv 0) pe_int set_list))
      (pss_one (ps_ret (pv 2))))) pss_nil)
      (pss_cons (ps_asg (pe_op op_add (pe_ix (ix_listK K rfl) (pv 0) pe_int (fun _ _ => rfl)) pe_int) (pg_sub (pv 0) pe_int set_list))
      (pss_cons (ps_if (pt_cmpR op_le (pe_ix (ix_listK K rfl) (pv 0) pe_int (fun _ _ => rfl)) (pe_callB (cr_lnK K rfl) (by rfl) B.m_len (by decide +kernel) (pa_cons (pe_ix (ix_listK K rfl) (pv 0) pe_int (fun _ _ => rfl)) pa_nil)) (nomark _)) (pss_cons (ps_set (i := 3) sc_l_next.nd rfl (by first | exact Or.inl rfl | exact Or.inr rfl) (pe_ix (ix_listK K rfl) (pe_ix (ix_listK K rfl) (pv 0) pe_int (fun _ _ => rfl)) (pe_op op_sub (pe_ix (ix_listK K rfl) (pv 0) pe_int (fun _ _ => rfl)) pe_int) (fun _ _ => rfl)))
      (pss_cons (ps_asg (pe_ifExp (pt_cmpR op_ge (pv 3) (pe_op op_pow pe_int pe_int) (nomark _)) (pe_op op_fdiv (pv 3) (pv 1)) pe_int) (pg_sub (pv 0) pe_int set_list))
      (pss_one (ps_ret (pe_op op_mod (pv 3) (pv 1)))))) pss_nil)
      (pss_cons (ps_asg (pe_op op_mod (pe_op op_mul (pe_ix (ix_listK K rfl) (pv 0) pe_int (fun _ _ => rfl)) pe_int) pe_int) (pg_sub (pv 0) pe_int set_list))
      (pss_one (ps_ret (pe_op op_mod (pe_op op_fdiv (pe_ix (ix_listK K rfl) (pv 0) pe_int (fun _ _ => rfl)) pe_int) (pv 1)))))))), ?_⟩
    have N : Now K none [d] H H [⟨true, d, dO a i m r⟩] [] := .start (by simp) (by simp [hd, Mut]) (by simp) (by simp)
    have fin : ∀ (i' m' r' : Int) (H' : Hp) (v : Int), Now K none [d] H H' [⟨true, d, dO a i' m' r'⟩] [] → 0 ≤ i' → 0 ≤ m' → m' < 2147483647 → 0 ≤ v → v < n → Q (.int v) H' := fun i' m' r' H' v N' e1 e2 e3 e4 e5 =>
      k v H' N'.af ⟨a, ns, i', m', r', N'.cell 0 rfl, hS.keep N'.af, hl, e1, e2, e3⟩ e4 e5
    have b1 : ∀ z : Int, 0 ≤ z % n := fun z => Int.emod_nonneg z (by omega)
    have b2 : ∀ z : Int, z % n < n := fun z => Int.emod_lt_of_pos z h0
    walk_at "go"
    refine c_ifd (fun c1 => ?_) (fun c1 => ?_)
    · walk_at "k"
      exact fin i m (r / n) _ _ (by assumption) hi hm0 hm1 (b1 _) (b2 _)
    · walk_at "k"
      refine c_ifd (fun c2 => ?_) (fun c2 => ?_)
      · rw [List.length_map] at c2
        have e : (i + 1 - 1 : Int) = ((i.toNat : Nat) : Int) := by omega
        have lt : i.toNat < ns.length := by omega
        have at_ : atI (ns.map V.int) (i + 1 - 1) = some (V.int ns[i.toNat]) := at_of e (by rw [List.getElem?_map, List.getElem?_eq_getElem lt]; rfl)
        walk_at "k"
        refine g_ixL (xs := ns.map V.int) (v := V.int ns[i.toNat]) (by walk_at "sq") at_ ?_
        walk_at "k"
        refine c_ifE (fun c3 => ?_) (fun c3 => ?_)
        · walk_at "k"
          exact fin (i + 1) m (ns[i.toNat] / n) _ _ (by assumption) (by omega) hm0 hm1 (b1 _) (b2 _)
        · walk_at "k"
          exact fin (i + 1) m 0 _ _ (by assumption) (by omega) hm0 hm1 (b1 _) (b2 _)
      · walk_at "k"
        exact fin (i + 1) (m * 48271 % 2147483647) r _ _ (by assumption) (by omega) (Int.emod_nonneg _ (by decide)) (Int.emod_lt_of_pos _ (by decide)) (b1 _) (b2 _)
end
/-! ### what is told is what is due -/
section
variable {P : Program} {w : World} {K : PySem.W.Frag} {mg : Str → Option Value} {base : Heap}
abbrev s_l_like : Stmt := top 10
theorem sc_l_like : FnScope ["_law_found", "_law_due", "_law_key", "_law_k"] ["_law_found", "_law_due"] (defScope s_l_like) := ⟨rfl, rfl, rfl, by decide +kernel, rfl, by decide +kernel, by decide +kernel⟩
theorem bd_l_like : Bd "_law_like" "_law_like" s_l_like ["_law_found", "_law_due"] := fun _ _ _ _ _ _ us hl => match us, hl with | [_, _], _ => rfl
theorem ok_like (F : Def K mg "_law_like" s_l_like) (B : Bt mg) : ∀ n : Nat, Cal P w K mg base CX0 (n + 1) "_law_like" ["_law_found", "_law_due"] (spLike K n)
  | 0 => cal_never F bd_l_like
  | n + 1 => by
    have c_l_like := ok_like F B n
    refine F.ok sc_l_like bd_l_like (fun vs H Q E h => ?_) (fun f cdv A outer s H vs Q E hr h => ?_)
    · obtain ⟨x, y, d, rfl, _⟩ := h
      rfl
    · obtain ⟨x, y, d, rfl, hx, hy, hn, k⟩ := h
      refine ⟨_, PSs.nox (pss_cons (ps_if (pt_val (pe_callB (call_isiQ K rfl) (by rfl) B.m_isinstance (by decide +kernel) (pa_cons (pv 1) (pa_cons (pe_bltn (v := .ty "bool") (by rfl) B.m_bool (by decide +kernel) rfl) pa_nil)))) (pss_one (ps_ret (pe_and (pe_callB (call_isiQ K rfl) (by rfl) B.m_isinstance (by decide +kernel) (pa_cons (pv 0) (pa_cons (pe_bltn (v := .ty "bool") (by rfl) B.m_bool (by decide +kernel) rfl) pa_nil))) (pe_one (pe_cmpR op_eq (pv 0) (pv 1) (nomark _)))))) pss_nil)
      (pss_cons (ps_if (pt_val (pe_callB (call_isiQ K rfl) (by rfl) B.m_isinstance (by decide +kernel) (pa_cons (pv 1) (pa_cons (pe_bltn (v := .ty "str") (by rfl) B.m_str (by decide +kernel) rfl) pa_nil)))) (pss_one (ps_ret (pe_and (pe_callB (call_isiQ K rfl) (by rfl) B.m_isinstance (by decide +kernel) (pa_cons (pv 0) (pa_cons (pe_bltn (v := .ty "str") (by rfl) B.m_str (by decide +kernel) rfl) pa_nil))) (pe_one (pe_cmpR op_eq (pv 0) (pv 1) (nomark _)))))) pss_nil)
      (pss_cons (ps_if (pt_val (pe_callB (call_isiQ K rfl) (by rfl) B.m_isinstance (by decide +kernel) (pa_cons (pv 1) (pa_cons (pe_bltn (v := .ty "int") (by rfl) B.m_int (by decide +kernel) rfl) pa_nil)))) (pss_one (ps_ret (pe_and (pe_callB (call_isiQ K rfl) (by rfl) B.m_isinstance (by decide +kernel) (pa_cons (pv 0) (pa_cons (pe_bltn (v := .ty "int") (by rfl) B.m_int (by decide +kernel) rfl) pa_nil))) (pe_and (pe_not (pe_callB (call_isiQ K rfl) (by rfl) B.m_isinstance (by decide +kernel) (pa_cons (pv 0) (pa_cons (pe_bltn (v := .ty "bool") (by rfl) B.m_bool (by decide +kernel) rfl) pa_nil)))) (pe_one (pe_cmpR op_eq (pv 0) (pv 1) (nomark _))))))) pss_nil)
      (pss_cons (ps_if (pt_cmpR op_isNo (pv 1) pe_non (nomark _)) (pss_one (ps_ret (pe_cmpR op_isNo (pv 0) pe_non (nomark _)))) pss_nil)
      (pss_cons (ps_if (pt_val (pe_callB (call_isiQ K rfl) (by rfl) B.m_isinstance (by decide +kernel) (pa_cons (pv 1) (pa_cons (pe_bltn (v := .ty "dict") (by rfl) B.m_dict (by decide +kernel) rfl) pa_nil)))) (pss_cons ps_never
      (pss_one ps_never)) pss_nil)
      (pss_cons (ps_if (PW.pt (pw_or (pt_cmpR op_ne (pe_callB (call_isiQ K rfl) (by rfl) B.m_isinstance (by decide +kernel) (pa_cons (pv 1) (pa_cons (pe_bltn (v := .ty "tuple") (by rfl) B.m_tuple (by decide +kernel) rfl) pa_nil))) (pe_callB (call_isiQ K rfl) (by rfl) B.m_isinstance (by decide +kernel) (pa_cons (pv 0) (pa_cons (pe_bltn (v := .ty "tuple") (by rfl) B.m_tuple (by decide +kernel) rfl) pa_nil))) (nomark _)) (pw_or1 (pt_cmpR op_ne (pe_callB (call_isiQ K rfl) (by rfl) B.m_isinstance (by decide +kernel) (pa_cons (pv 1) (pa_cons (pe_bltn (v := .ty "list") (by rfl) B.m_list (by decide +kernel) rfl) pa_nil))) (pe_callB (call_isiQ K rfl) (by rfl) B.m_isinstance (by decide +kernel) (pa_cons (pv 0) (pa_cons (pe_bltn (v := .ty "list") (by rfl) B.m_list (by decide +kernel) rfl) pa_nil))) (nomark _))))) (pss_one (ps_ret pe_bl)) pss_nil)
      (pss_cons (ps_if (pt_cmpR op_ne (pe_callB (cr_lnK K rfl) (by rfl) B.m_len (by decide +kernel) (pa_cons (pv 0) pa_nil)) (pe_callB (cr_lnK K rfl) (by rfl) B.m_len (by decide +kernel) (pa_cons (pv 1) pa_nil)) (nomark _)) (pss_one (ps_ret pe_bl)) pss_nil)
      (pss_cons (ps_for PassesOwn.never rfl (pi_range1 (by rfl) B.m_range (pa_cons (pe_callB (cr_lnK K rfl) (by rfl) B.m_len (by decide +kernel) (pa_cons (pv 1) pa_nil)) pa_nil)) (pg_name (i := 3) sc_l_like.nd rfl (by first | exact Or.inl rfl | exact Or.inr rfl))
      (pss_one (ps_if (pt_not (pt_val (pe_cal c_l_like hr pass0 (pa_cons (pe_ix (ix_seqK K rfl) (pv 0) (pv 3) (fun _ _ => rfl)) (pa_cons (pe_ix (ix_seqK K rfl) (pv 1) (pv 3) (fun _ _ => rfl)) pa_nil))))) (pss_one (ps_ret pe_bl)) pss_nil)))
      (pss_one (ps_ret pe_bl)))))))))), ?_⟩
      have kn := k H .refl
      have loop : ∀ (p q : Addr) (xs ys : List V) (ds : List PyData), (SqL K H p xs ∨ SqT K H p xs) → (SqL K H q ys ∨ SqT K H q ys) → DpAll K H xs ds → DpAll K H ys ds → (∃ m, n = m + 1 ∧ ds.length ≤ 100000 ∧ ∀ d ∈ ds, dOk m d) →
          cForR (gName 3) (tIfS (tNot (tB (tCall (spLike K n) [] E0 (tCons (tOp (rIx K) (tVar 0) (tVar 3)) (tCons (tOp (rIx K) (tVar 1) (tVar 3)) tNil))))) (tRet (tC (V.bl false))) tNext)
            { nx := tRet (tC (V.bl true)) { nx := fun x H' => Q V.non H', rt := Q }, rt := Q } [some (V.ref p), some (V.ref q), none, none] [V.int (ys.length : Int)] H := by
        intro p q xs ys ds hp hq hxs hys ⟨m, e, hz, hd⟩
        subst e
        have l1 := dpa_len hxs
        have l2 := dpa_len hys
        refine c_forR (by omega) (fun i σ H' => ∃ z, σ = [some (V.ref p), some (V.ref q), none, z] ∧ Aft [] H H') ⟨_, rfl, .refl⟩ ?_ ?_
        · rintro i σ H' hi ⟨z, rfl, A⟩
          have hi' : i < ds.length := by omega
          obtain ⟨v, e1, d1⟩ := dpa_at hxs i hi'
          obtain ⟨u, e2, d2⟩ := dpa_at hys i hi'
          walk_at "k"
          refine g_ixQ (hp.imp A.sql A.sqt) (atI_nat e1) ?_
          walk_at "k"
          refine g_ixQ (hq.imp A.sql A.sqt) (atI_nat e2) ?_
          walk_at "k"
          refine ⟨v, u, ds[i], rfl, dp_keep A d1, dp_keep A d2, hd _ (List.getElem_mem hi'), fun H2 A2 => ?_⟩
          walk_at "k"
          exact ⟨_, rfl, A.trans A2⟩
        · rintro σ H' ⟨z, rfl, A⟩
          walk_at "k"
          exact k H' A
      cases d with
      | none =>
        cases hx
        cases hy
        walk_at "go"
        exact kn
      | bool b =>
        cases hx
        cases hy
        walk_at "go"
        exact kn
      | int b =>
        cases hx
        cases hy
        walk_at "go"
        exact kn
      | str b =>
        cases hx
        cases hy
        walk_at "go"
        exact kn
      | list ds =>
        cases hx with
        | @lst p xs _ h1 h2 =>
        cases hy with
        | @lst q ys _ h3 h4 =>
        have l1 := dpa_len h2
        have l2 := dpa_len h4
        have t1 := sql_ty h1
        have t2 := sql_ty h3
        walk_at "go"
        refine loop p q xs ys ds (.inl h1) (.inl h3) h2 h4 ?_
        cases n with
        | zero => exact hn.elim
        | succ m => exact ⟨m, rfl, hn⟩
      | tuple ds =>
        cases hx with
        | @tup p xs _ h1 h2 =>
        cases hy with
        | @tup q ys _ h3 h4 =>
        have l1 := dpa_len h2
        have l2 := dpa_len h4
        have t1 := sqt_ty h1
        have t2 := sqt_ty h3
        walk_at "go"
        refine loop p q xs ys ds (.inr h1) (.inr h3) h2 h4 ?_
        cases n with
        | zero => exact hn.elim
        | succ m => exact ⟨m, rfl, hn⟩
      | dict kvs => cases hx
end
/-! ### a Load -/
structure LS where
  room : Int
  wait : Int
  lat : List (Int × Option Int)
  rows : List (List Int)
  many : Nat
def oV : Option Int → V
  | none => .non
  | some i => .int i
def latK (l : List (Int × Option Int)) : List (Key × V) := l.map fun p => (Sum.inl p.1, oV p.2)
abbrev fsL (room wait : Int) (dl rl : Addr) (many : Int) : List (Str × V) := [("room", .int room), ("wait", .int wait), ("latest", .ref dl), ("rows", .ref rl), ("many", .int many)]
abbrev lC (C p dx dl rl : Addr) (s : LS) (vs : List V) : List Cel := [⟨true, p, .ins C dx (fsL s.room s.wait dl rl s.many)⟩, ⟨true, dl, .dK (latK s.lat)⟩, ⟨true, rl, .lst vs⟩]
def Rows (H : Hp) : List V → List (List Int) → Prop := Paired fun v row => ∃ a, v = .ref a ∧ H a = some (.tup (row.map V.int))
structure LTx (K : PySem.W.Frag) (C : Addr) : Prop where
  cl : Cls K C
  n1 : NoAttr K C "room"
  n2 : NoAttr K C "wait"
  n3 : NoAttr K C "latest"
  n4 : NoAttr K C "rows"
  n5 : NoAttr K C "many"
section
variable {P : Program} {w : World} {K : PySem.W.Frag} {mg : Str → Option Value} {base : Heap} {C : Addr}
abbrev s_Load_init : Stmt := inClass (top 6) 0
theorem sc_Load_init : FnScope ["self", "room", "wait"] ["self", "room", "wait"] (defScope s_Load_init) := ⟨rfl, rfl, rfl, by decide +kernel, rfl, by decide +kernel, by decide +kernel⟩
theorem bd_Load_init : Bd "__init__" "Load.__init__" s_Load_init ["self", "room", "wait"] := fun _ _ _ _ _ _ us hl => match us, hl with | [_, _, _], _ => rfl
def spLInit (C : Addr) : Sp := fun vs H Q _ => ∃ (p dx : Addr) (room wait : Int), vs = [.ref p, .int room, .int wait] ∧ H p = some (.ins C dx []) ∧ (1 ≤ room ∧ room ≤ 8) ∧ (1 ≤ wait ∧ wait ≤ 20) ∧
  ∀ (dl rl : Addr) (H' : Hp), Aftr [⟨true, p, .ins C dx []⟩] (lC C p dx dl rl ⟨room, wait, [], [], 0⟩ []) H H' → Q .non H'
theorem ok_LInit (F : DefC K mg C "Load" "Load.__init__" s_Load_init) (T : LTx K C) (g_MOST_ROOM : ∃ t, mg "MOST_ROOM" = some (.int 8 t)) (g_MOST_WAIT : ∃ t, mg "MOST_WAIT" = some (.int 20 t)) :
    CalC P w K mg base CX0 C 1 "Load" ["self", "room", "wait"] (spLInit C) := by
  refine F.ok sc_Load_init bd_Load_init (fun vs H Q E h => ?_) (fun f cdv A outer s H vs Q E hr h => ?_)
  · obtain ⟨p, dx, room, wait, rfl, _⟩ := h
    rfl
  · obtain ⟨p, dx, room, wait, rfl, hp, hr1, hw1, k⟩ := h
    obtain ⟨cl, n1, n2, n3, n4, n5⟩ := T
    refine ⟨_, PSs.nox (pss_cons (ps_if (pt_not (pt_chain op_le op_le pe_int (pv 1) (pe_gint (by rfl) g_MOST_ROOM))) (pss_one ps_never) pss_nil)
      (pss_cons (ps_if (pt_not (pt_chain op_le op_le pe_int (pv 2) (pe_gint (by rfl) g_MOST_WAIT))) (pss_one ps_never) pss_nil)
      (pss_cons (ps_fldK K rfl (pv 0) (pv 1) rfl)
      (pss_cons (ps_fldK K rfl (pv 0) (pv 2) rfl)
      (pss_cons (ps_fldK K rfl (pv 0) pe_dnewK rfl)
      (pss_cons (ps_fldK K rfl (pv 0) (pe_lst pa_nil) rfl)
      (pss_one (ps_fldK K rfl (pv 0) pe_int rfl)))))))), ?_⟩
    have N : Now K none [p] H H [⟨true, p, .ins C dx []⟩] [] := .start (by simp) (by simp [hp, Mut]) (by simp) (by simp)
    walk_at "go"
    rename_i N9
    exact k _ _ _ (Now.done (N9.sel [2, 1, 0] rfl (by decide)) (by simp))
abbrev s_Load_put : Stmt := inClass (top 6) 1
theorem sc_Load_put : FnScope ["self", "number"] ["self"] (defScope s_Load_put) := ⟨rfl, rfl, rfl, by decide +kernel, rfl, by decide +kernel, by decide +kernel⟩
theorem bd_Load_put : Bd "put" "Load.put" s_Load_put ["self"] := fun _ _ _ _ _ _ us hl => match us, hl with | [_], _ => rfl
def LWf (s : LS) : Prop := (s.lat.map (·.1)).Pairwise (· < ·) ∧ (∀ p ∈ s.lat, 0 ≤ p.1 ∧ p.1 < s.many) ∧ s.many ≤ 1000 ∧ s.rows.length ≤ 1000 ∧ ∀ row ∈ s.rows, row.length ≤ 8 ∧ row.Nodup
def LS.put (s : LS) : LS := { s with lat := s.lat ++ [((s.many : Int), none)], many := s.many + 1 }
/-- a method's promise: s becomes s' (told), the answer v -/
def spPut (K : PySem.W.Frag) (C : Addr) : Sp := fun vs H Q _ => ∃ (p dx dl rl : Addr) (s : LS) (rv : List V), vs = [.ref p] ∧ CelOk H (lC C p dx dl rl s rv) ∧ LWf s ∧ s.many < 1000 ∧
  ∀ H', Aftr (lC C p dx dl rl s rv) (lC C p dx dl rl s.put rv) H H' → Q (.int s.many) H'
theorem latK_len (l : List (Int × Option Int)) : (latK l).length = l.length := List.length_map _
theorem latK_val (l : List (Int × Option Int)) (n : Int) : valV (latK l) (Sum.inl n) = (l.find? fun p => decide (p.1 = n)).map fun p => oV p.2 := by
  unfold valV latK
  rw [List.find?_map, Option.map_map]
  congr 1
  congr 1
  funext p
  show decide ((Sum.inl p.1 : Key) = Sum.inl n) = decide (p.1 = n)
  by_cases q : p.1 = n <;> simp [q]
theorem latK_keys (l : List (Int × Option Int)) : (latK l).map (·.1) = (l.map (·.1)).map Sum.inl := by
  unfold latK
  rw [List.map_map, List.map_map]
  rfl
/-- distinct rising numbers below n are at most n -/
theorem rise_len : ∀ (l : List Int) (lo : Int) (n : Nat), l.Pairwise (· < ·) → (∀ x ∈ l, lo ≤ x ∧ x < lo + n) → l.length ≤ n
  | [], _, _, _, _ => Nat.zero_le _
  | a :: r, lo, n, hp, hb => by
    obtain ⟨h1, h2⟩ := List.pairwise_cons.mp hp
    obtain ⟨b1, b2⟩ := hb a List.mem_cons_self
    have hn : 0 < n := by omega
    have := rise_len r (lo + 1) (n - 1) h2 fun x hx => by
      have c1 := h1 x hx
      have c2 := (hb x (List.mem_cons_of_mem _ hx)).2
      omega
    rw [List.length_cons]
    omega
theorem lwf_len {s : LS} (h : LWf s) : s.lat.length ≤ s.many := by
  have := rise_len (s.lat.map (·.1)) 0 s.many h.1 fun x hx => by
    obtain ⟨p, hp, rfl⟩ := List.mem_map.mp hx
    have := h.2.1 p hp
    omega
  rwa [List.length_map] at this
theorem latK_no {s : LS} (h : LWf s) {n : Int} (hn : ∀ p ∈ s.lat, p.1 ≠ n) : valV (latK s.lat) (Sum.inl n) = none := by
  rw [latK_val]
  have e : s.lat.find? (fun p => decide (p.1 = n)) = none := List.find?_eq_none.mpr fun p hp => by simpa using hn p hp
  rw [e]
  rfl
theorem put_latK {s : LS} : latK s.lat ++ [((Sum.inl (s.many : Int) : Key), V.non)] = latK s.put.lat := by
  show _ = List.map _ (s.lat ++ [((s.many : Int), none)])
  rw [List.map_append]
  rfl
theorem put_wf {s : LS} (h : LWf s) (hm : s.many < 1000) : LWf s.put := by
  obtain ⟨h1, h2, h3, h4⟩ := h
  refine ⟨?_, fun p hp => ?_, by show s.many + 1 ≤ 1000; omega, h4⟩
  · show List.Pairwise (· < ·) (List.map (fun q : Int × Option Int => q.1) (s.lat ++ [((s.many : Int), none)]))
    rw [List.map_append, List.pairwise_append]
    refine ⟨h1, by simp, fun a ha b hb => ?_⟩
    obtain ⟨p, hp, rfl⟩ := List.mem_map.mp ha
    have e : b = s.many := by simpa using hb
    have := h2 p hp
    show p.1 < b
    omega
  · rcases List.mem_append.mp hp with hp | hp
    · have := h2 p hp
      show _ ∧ p.1 < ((s.many + 1 : Nat) : Int)
      omega
    · have e : p = ((s.many : Int), none) := by simpa using hp
      subst e
      show (0 : Int) ≤ s.many ∧ (s.many : Int) < ((s.many + 1 : Nat) : Int)
      omega
theorem ok_LPut (F : DefM K C "put" "Load.put" s_Load_put) (T : LTx K C) : CalM P w K mg base CX0 C 1 "put" ["self"] (spPut K C) := by
  refine F.ok sc_Load_put bd_Load_put (fun vs H Q E h => ?_) (fun f cdv A outer s H vs Q E hr h => ?_)
  · obtain ⟨p, dx, dl, rl, s, rv, rfl, _⟩ := h
    rfl
  · obtain ⟨p, dx, dl, rl, s, rv, rfl, hc, wf, hm, k⟩ := h
    obtain ⟨cl, n1, n2, n3, n4, n5⟩ := T
    refine ⟨_, PSs.nox (pss_cons (ps_set (i := 1) sc_Load_put.nd rfl (by first | exact Or.inl rfl | exact Or.inr rfl) (pe_fldK K rfl (pv 0) rfl))
      (pss_cons (ps_fldK K rfl (pv 0) (pe_op op_add (pe_fldK K rfl (pv 0) rfl) pe_int) rfl)
      (pss_cons (ps_dput (hu_of hr) (pe_fldK K rfl (pv 0) rfl) (pv 1) pe_non rfl)
      (pss_one (ps_ret (pv 1)))))), ?_⟩
    have N : Now K none _ H H (lC C p dx dl rl s rv) [] := .begin hc (by simp)
    walk_at "go"
    have hl := lwf_len wf
    refine g_dputI1 (by assumption) (by rw [latK_len]; omega) fun H9 N9 => ?_
    rw [putK_new _ (latK_no wf fun p hp => by have := wf.2.1 p hp; omega), put_latK] at N9
    walk_at "k"
    exact k _ (Now.done N9 (by simp))
/-! ### waits, is_due -/
abbrev s_Load_waits : Stmt := inClass (top 6) 5
theorem sc_Load_waits : FnScope ["self"] ["self"] (defScope s_Load_waits) := ⟨rfl, rfl, rfl, by decide +kernel, rfl, by decide +kernel, by decide +kernel⟩
theorem bd_Load_waits : Bd "waits" "Load.waits" s_Load_waits ["self"] := fun _ _ _ _ _ _ us hl => match us, hl with | [_], _ => rfl
def spWaits (K : PySem.W.Frag) (C : Addr) : Sp := fun vs H Q _ => ∃ (p dx dl rl : Addr) (s : LS) (rv : List V), vs = [.ref p] ∧ CelOk H (lC C p dx dl rl s rv) ∧ LWf s ∧
  ∀ (l : Addr) H', H l = none → Aft [] H H' → H' l = some (.lst ((s.lat.map (·.1)).map V.int)) → Q (.ref l) H'
theorem perm_rise {a b : List Int} (hp : a.Perm b) (ha : a.Pairwise (· ≤ ·)) (hb : b.Pairwise (· < ·)) : a = b :=
  hp.eq_of_pairwise (fun x y _ _ h1 h2 => by omega) ha (hb.imp fun h => Int.le_of_lt h)
theorem ok_LWaits (F : DefM K C "waits" "Load.waits" s_Load_waits) (T : LTx K C) (B : Bt mg) : CalM P w K mg base CX0 C 1 "waits" ["self"] (spWaits K C) := by
  refine F.ok sc_Load_waits bd_Load_waits (fun vs H Q E h => ?_) (fun f cdv A outer s H vs Q E hr h => ?_)
  · obtain ⟨p, dx, dl, rl, s, rv, rfl, _⟩ := h
    rfl
  · obtain ⟨p, dx, dl, rl, s, rv, rfl, hc, wf, k⟩ := h
    obtain ⟨cl, n1, n2, n3, n4, n5⟩ := T
    refine ⟨_, PSs.nox (pss_one (ps_ret (pe_callB (call_sortedDA rfl) (by rfl) B.m_sorted (by decide +kernel) (pa_cons (pe_fldK K rfl (pv 0) rfl) pa_nil)))), ?_⟩
    have N : Now K none _ H H (lC C p dx dl rl s rv) [] := .begin hc (by simp)
    walk_at "go"
    refine ⟨dl, _, s.lat.map (·.1), rfl, .of (N.cell 1 rfl), latK_keys _, fun ys l hp hs hl => ?_⟩
    rw [perm_rise hp hs wf.1]
    exact k l _ hl (Aft.refl.new hl) upd_same
abbrev s_Load_is_due : Stmt := inClass (top 6) 2
theorem sc_Load_is_due : FnScope ["self", "piece", "last"] ["self", "piece"] (defScope s_Load_is_due) := ⟨rfl, rfl, rfl, by decide +kernel, rfl, by decide +kernel, by decide +kernel⟩
theorem bd_Load_is_due : Bd "is_due" "Load.is_due" s_Load_is_due ["self", "piece"] := fun _ _ _ _ _ _ us hl => match us, hl with | [_, _], _ => rfl
def due (s : LS) (o : Option Int) : Bool := match o with
  | none => true
  | some i => decide ((s.rows.length : Int) - i ≥ s.wait)
def spDue (K : PySem.W.Frag) (C : Addr) : Sp := fun vs H Q _ => ∃ (p dx dl rl : Addr) (s : LS) (rv : List V) (n : Int) (o : Option Int), vs = [.ref p, .int n] ∧ CelOk H (lC C p dx dl rl s rv) ∧ rv.length = s.rows.length ∧ s.lat.find? (fun q => decide (q.1 = n)) = some (n, o) ∧
  Q (.bl (due s o)) H
theorem ok_LDue (F : DefM K C "is_due" "Load.is_due" s_Load_is_due) (T : LTx K C) (B : Bt mg) : CalM P w K mg base CX0 C 1 "is_due" ["self", "piece"] (spDue K C) := by
  refine F.ok sc_Load_is_due bd_Load_is_due (fun vs H Q E h => ?_) (fun f cdv A outer s H vs Q E hr h => ?_)
  · obtain ⟨p, dx, dl, rl, s, rv, n, o, rfl, _⟩ := h
    rfl
  · obtain ⟨p, dx, dl, rl, s, rv, n, o, rfl, hc, hl, hn, k⟩ := h
    obtain ⟨cl, n1, n2, n3, n4, n5⟩ := T
    refine ⟨_, PSs.nox (pss_cons (ps_set (i := 2) sc_Load_is_due.nd rfl (by first | exact Or.inl rfl | exact Or.inr rfl) (pe_dget (hu_of hr) (pe_fldK K rfl (pv 0) rfl) (pv 1) (fun _ _ => rfl)))
      (pss_one (ps_ret (pe_or (pe_cmpR op_isNo (pv 2) pe_non (nomark _)) (pe_one (pe_cmpR op_ge (pe_op op_sub (pe_callB (cr_lnK K rfl) (by rfl) B.m_len (by decide +kernel) (pa_cons (pe_fldK K rfl (pv 0) rfl) pa_nil)) (pv 2)) (pe_fldK K rfl (pv 0) rfl) (nomark _))))))), ?_⟩
    have N : Now K none _ H H (lC C p dx dl rl s rv) [] := .begin hc (by simp)
    walk_at "go"
    refine g_dgetI (v := oV o) (N.cell 1 rfl) (by rw [latK_val, hn]; rfl) ?_
    walk_at "k"
    cases o with
    | none =>
      dsimp only [oV]
      walk_at "k"
      exact k
    | some i =>
      dsimp only [oV]
      walk_at "k"
      rw [hl]
      exact k
end
/-! ### fill -/
section
variable {P : Program} {w : World} {K : PySem.W.Frag} {mg : Str → Option Value} {base : Heap} {C : Addr}
abbrev s_Load_fill : Stmt := inClass (top 6) 3
theorem sc_Load_fill : FnScope ["self", "found", "piece"] ["self"] (defScope s_Load_fill) := ⟨rfl, rfl, rfl, by decide +kernel, rfl, by decide +kernel, by decide +kernel⟩
theorem bd_Load_fill : Bd "fill" "Load.fill" s_Load_fill ["self"] := fun _ _ _ _ _ _ us hl => match us, hl with | [_], _ => rfl
def LS.found (s : LS) : List Int := ((s.lat.filter fun p => due s p.2).map (·.1)).take s.room.toNat
def LS.fill (s : LS) : LS := { s with lat := s.lat.map fun p => if p.1 ∈ s.found then (p.1, some (s.rows.length : Int)) else p, rows := s.rows ++ [s.found] }
def spFill (K : PySem.W.Frag) (C : Addr) : Sp := fun vs H Q _ => ∃ (p dx dl rl : Addr) (s : LS) (rv : List V), vs = [.ref p] ∧ CelOk H (lC C p dx dl rl s rv) ∧ LWf s ∧ s.rows.length < 1000 ∧ (1 ≤ s.room ∧ s.room ≤ 8) ∧ Rows H rv s.rows ∧
  ∀ (t u : Addr) H', Aftr (lC C p dx dl rl s rv) (lC C p dx dl rl s.fill (rv ++ [.ref u])) H H' → H' t = some (.tup (s.found.map V.int)) → H' u = some (.tup (s.found.map V.int)) → Q (.ref t) H'
theorem find_at : ∀ {l : List (Int × Option Int)} {i : Nat} {q : Int × Option Int}, (l.map (·.1)).Pairwise (· < ·) → l[i]? = some q → l.find? (fun p => decide (p.1 = q.1)) = some q
  | [], _, _, _, h => by simp at h
  | a :: r, 0, q, _, h => by
    have e : a = q := Option.some.inj h
    subst e
    simp
  | a :: r, i + 1, q, hp, h => by
    obtain ⟨h1, h2⟩ := List.pairwise_cons.mp hp
    have hq : r[i]? = some q := by simpa using h
    have lt := h1 q.1 (List.mem_map.mpr ⟨q, List.mem_of_getElem? hq, rfl⟩)
    have ne : ¬ a.1 = q.1 := fun z => absurd (z ▸ lt : q.1 < q.1) (Int.lt_irrefl _)
    rw [List.find?_cons_of_neg (by simpa using ne)]
    exact find_at h2 hq
theorem take_snoc {α : Type} {l : List α} {i : Nat} {x : α} (h : l[i]? = some x) : l.take (i + 1) = l.take i ++ [x] := by
  rw [List.take_add_one, h]
  rfl
/-- the value at a key that is there -/
theorem putK_old {l : List (Int × Option Int)} {n : Int} {o : Option Int} (h : n ∈ l.map (·.1)) : putK (latK l) (Sum.inl n) (oV o) = latK (l.map fun q => if q.1 = n then (q.1, o) else q) := by
  have e : ((latK l).any fun kv => decide (kv.1 = (Sum.inl n : Key))) = true := by
    obtain ⟨q, hq, rfl⟩ := List.mem_map.mp h
    exact List.any_eq_true.mpr ⟨_, List.mem_map.mpr ⟨q, hq, rfl⟩, by simp⟩
  unfold putK
  rw [if_pos e]
  unfold latK
  rw [List.map_map, List.map_map]
  refine List.map_congr_left fun q _ => ?_
  by_cases c : q.1 = n
  · simp [c]
  · simp [c]
theorem found_key {s : LS} {n : Int} (h : n ∈ s.found) : n ∈ s.lat.map (·.1) := by
  have := List.mem_of_mem_take h
  obtain ⟨p, hp, rfl⟩ := List.mem_map.mp this
  exact List.mem_map.mpr ⟨p, (List.mem_filter.mp hp).1, rfl⟩
theorem found_len {s : LS} (h : s.room ≤ 8) : s.found.length ≤ 8 := by
  unfold LS.found
  rw [List.length_take]
  omega
def latI (s : LS) (i : Nat) : List (Int × Option Int) := s.lat.map fun p => if p.1 ∈ s.found.take i then (p.1, some (s.rows.length : Int)) else p
theorem latI_zero (s : LS) : latI s 0 = s.lat := by
  unfold latI
  simp
theorem latI_keys (s : LS) (i : Nat) : (latI s i).map (·.1) = s.lat.map (·.1) := by
  unfold latI
  rw [List.map_map]
  refine List.map_congr_left fun q _ => ?_
  by_cases c : q.1 ∈ s.found.take i <;> simp [c]
theorem latI_succ {s : LS} {i : Nat} {n : Int} (h : s.found[i]? = some n) : (latI s i).map (fun q => if q.1 = n then (q.1, some (s.rows.length : Int)) else q) = latI s (i + 1) := by
  unfold latI
  rw [List.map_map]
  refine List.map_congr_left fun q _ => ?_
  rw [take_snoc h]
  by_cases c : q.1 ∈ s.found.take i
  · simp [c]
  · by_cases d : q.1 = n
    · subst d
      simp [c]
    · simp [c, d]
theorem latI_all (s : LS) : latI s s.found.length = s.fill.lat := by
  unfold latI
  rw [List.take_length]
  rfl
theorem ok_LFill (F : DefM K C "fill" "Load.fill" s_Load_fill) (T : LTx K C) (B : Bt mg) (c_Load_is_due : CalM P w K mg base CX0 C 1 "is_due" ["self", "piece"] (spDue K C)) : CalM P w K mg base CX0 C 2 "fill" ["self"] (spFill K C) := by
  refine F.ok sc_Load_fill bd_Load_fill (fun vs H Q E h => ?_) (fun f cdv A outer s H vs Q E hr h => ?_)
  · obtain ⟨p, dx, dl, rl, s, rv, rfl, _⟩ := h
    rfl
  · obtain ⟨p, dx, dl, rl, s, rv, rfl, hc, wf, hrl, hroom, hR, k⟩ := h
    obtain ⟨cl_Load, n1, n2, n3, n4, n5⟩ := T
    refine ⟨_, PSs.nox (pss_cons (ps_set (i := 1) sc_Load_fill.nd rfl (by first | exact Or.inl rfl | exact Or.inr rfl) (pe_slice (sl_listK K rfl) (pe_lc (own := [("piece", 2)]) (g := (gName 2)) rfl sc_Load_fill.nd (pi_listK K rfl (pe_callB (call_sortedDA rfl) (by rfl) B.m_sorted (by decide +kernel) (pa_cons (pe_fldK K rfl (pv 0) rfl) pa_nil))) (blkOk_by (own := [("piece", 2)]) (N := ["self", "found", "piece"]) (sc := defScope s_Load_fill) (by decide +kernel)) (fun _ _ _ _ _ => (pg_name (i := 2) sc_Load_fill.nd rfl (by first | exact Or.inl rfl | exact Or.inr rfl))) (fun _ _ _ _ _ => (pts_one (pt_val (pe_calM (pv 0) cl_Load c_Load_is_due (hr.mono (by decide)) pass0 (pa_cons (pv 2) pa_nil))))) (fun _ _ _ _ _ => (pv 2))) po_none (po_some (pe_fldK K rfl (pv 0) rfl))))
      (pss_cons (ps_for PassesOwn.never rfl (pi_listK K rfl (pv 1)) (pg_name (i := 2) sc_Load_fill.nd rfl (by first | exact Or.inl rfl | exact Or.inr rfl))
      (pss_one (ps_dput (hu_of hr) (pe_fldK K rfl (pv 0) rfl) (pv 2) (pe_callB (cr_lnK K rfl) (by rfl) B.m_len (by decide +kernel) (pa_cons (pe_fldK K rfl (pv 0) rfl) pa_nil)) rfl)))
      (pss_cons (ps_expr (pe_bmK K rfl PySem.F.plainAttrs_list PySem.F.slot_list_append PySem.F.type_list_append mt_append (pe_fldK K rfl (pv 0) rfl) (pa_cons (pe_callTy (cr_tupLK K rfl) (by rfl) B.m_tuple (by decide +kernel) (pa_cons (pv 1) pa_nil)) pa_nil)))
      (pss_one (ps_ret (pe_callTy (cr_tupLK K rfl) (by rfl) B.m_tuple (by decide +kernel) (pa_cons (pv 1) pa_nil))))))), ?_⟩
    have N : Now K none _ H H (lC C p dx dl rl s rv) [] := .begin hc (by simp)
    walk_at "go"
    have hlen := lwf_len wf
    have hm := wf.2.2.1
    have rlen : rv.length = s.rows.length := Paired.length hR
    refine g_sortD N (N.cell 1 rfl) (latK_keys _) fun q H1 ys hp hs N1 => ?_
    have e := perm_rise hp hs wf.1
    subst e
    walk_at "k"
    refine c_lc N1 ((s.lat.map (·.1)).map V.int) (fun i acc => acc = (((s.lat.take i).filter fun p => due s p.2).map (·.1)).map V.int) rfl (fun H' Dd acc N' => .of (N'.cell 1 rfl)) (fun _ => rfl) (fun i x Dd H' acc hx N' r => ?_) (fun pf H' acc N2 r => ?_) (.of (N1.cell 0 rfl))
    · rw [List.getElem?_map, List.getElem?_map] at hx
      cases hq : s.lat[i]? with
      | none => rw [hq] at hx; cases hx
      | some qo =>
        rw [hq] at hx
        cases hx
        have hf := find_at wf.1 hq
        have lt : i < s.lat.length := (List.getElem?_eq_some_iff.mp hq).1
        have la : acc.length ≤ i := by
          rw [r, List.length_map, List.length_map]
          exact Nat.le_trans (List.length_filter_le _ _) (by rw [List.length_take]; omega)
        walk_at "k"
        refine ⟨p, dx, dl, rl, s, rv, qo.1, qo.2, rfl, (N'.sel [2, 3, 4] (l' := lC C p dx dl rl s rv) rfl (by decide)).ok, rlen, hf, ?_⟩
        walk_at "k"
        have nxt : s.lat.take (i + 1) = s.lat.take i ++ [qo] := take_snoc hq
        refine c_el (fun e => ?_) (fun e => ?_)
        · walk_at "k"
          refine c_put N' (by omega) ?_
          show acc ++ [V.int qo.1] = _
          rw [r, nxt, List.filter_append, List.map_append, List.map_append]
          simp [e]
        · refine ⟨acc, N', ?_⟩
          show acc = _
          rw [r, nxt, List.filter_append, List.map_append, List.map_append]
          simp [e]
    · rw [List.length_map, List.length_map, List.take_length] at r
      subst r
      walk_at "k"
      rename_i fl H3 N3
      have er : (s.room : Int) = ((s.room.toNat : Nat) : Int) := by omega
      have ef : cutV (((s.lat.filter fun p => due s p.2).map (·.1)).map V.int) none (some s.room) = s.found.map V.int := by
        rw [er, cut_take, ← List.map_take]
        rfl
      rw [ef] at N3
      have fle := found_len (s := s) hroom.2
      have N4 := N3.sel [0, 3, 4, 5] (l' := ⟨true, fl, .lst (s.found.map V.int)⟩ :: lC C p dx dl rl { s with lat := latI s 0 } rv) (by rw [latI_zero]; rfl) (by decide)
      refine c_for (xs := s.found.map V.int) (fun i σ H' => ∃ v, σ = [some (.ref p), some (.ref fl), v] ∧ Now K none ((lC C p dx dl rl s rv).map Cel.a) H H' (⟨true, fl, .lst (s.found.map V.int)⟩ :: lC C p dx dl rl { s with lat := latI s i } rv) []) ⟨_, rfl, N4⟩ ?_ ?_ ?_
      · rintro i σ H' _ ⟨v, _, N'⟩
        exact .of (N'.cell 0 rfl)
      · rintro i x σ H' hx ⟨v, rfl, N'⟩
        rw [List.getElem?_map] at hx
        obtain ⟨n, hn, rfl⟩ := Option.map_eq_some_iff.mp hx
        walk_at "k"
        refine g_dputI2 N' (by rw [latK_len]; show (List.map _ s.lat).length < _; rw [List.length_map]; omega) fun H9 N9 => ?_
        rw [show V.int (rv.length : Int) = oV (some (s.rows.length : Int)) by rw [rlen]; rfl, putK_old (by show n ∈ (latI s i).map _; rw [latI_keys]; exact found_key (List.mem_of_getElem? hn))] at N9
        have e := latI_succ hn
        refine ⟨_, rfl, ?_⟩
        rw [← e]
        exact N9
      · rintro σ H' ⟨v, rfl, N'⟩
        rw [List.length_map, latI_all] at N'
        walk_at "k"
        rename_i u H5 N5
        refine g_app3 N5 (by omega) fun H6 N6 => ?_
        walk_at "k"
        rename_i t H7 N7
        exact k t u _ (Now.done (N7.sel [1, 2, 3] rfl (by decide)) (by simp)) (N7.tup 0 rfl) (N7.tup 1 rfl)
theorem fill_rows {s : LS} {rv : List V} {u : Addr} {H H' : Hp} (h : Rows H rv s.rows) (t : ∀ b xs, H b = some (.tup xs) → H' b = some (.tup xs)) (hu : H' u = some (.tup (s.found.map V.int))) : Rows H' (rv ++ [.ref u]) s.fill.rows := by
  have h1 : Rows H' rv s.rows := Paired.mapP h fun a b ⟨c, e, q⟩ => ⟨c, e, t _ _ q⟩
  have app : ∀ {xs : List V} {ys : List (List Int)}, Rows H' xs ys → Rows H' (xs ++ [.ref u]) (ys ++ [s.found]) := by
    intro xs ys h
    unfold Rows at h ⊢
    induction h with
    | nil => exact .cons ⟨u, rfl, hu⟩ .nil
    | cons a b ih => exact .cons a ih
  exact app h1
theorem fill_wf {s : LS} (h : LWf s) (hr : s.room ≤ 8) (hl : s.rows.length < 1000) : LWf s.fill := by
  obtain ⟨h1, h2, h3, h4, h5⟩ := h
  have e : s.fill.lat.map (·.1) = s.lat.map (·.1) := by
    rw [← latI_all]
    exact latI_keys s _
  refine ⟨by rw [e]; exact h1, fun p hp => ?_, h3, by show (s.rows ++ [s.found]).length ≤ 1000; rw [List.length_append]; simp; omega, fun row hrow => ?_⟩
  · have : p.1 ∈ s.lat.map (·.1) := by rw [← e]; exact List.mem_map.mpr ⟨p, hp, rfl⟩
    obtain ⟨q, hq, eq⟩ := List.mem_map.mp this
    have := h2 q hq
    show _ ∧ p.1 < (s.many : Int)
    rw [← eq]
    exact this
  · rcases List.mem_append.mp hrow with q | q
    · exact h5 row q
    · have e : row = s.found := by simpa using q
      subst e
      refine ⟨found_len hr, ?_⟩
      have nd : (s.lat.map (·.1)).Nodup := h1.imp fun a => by omega
      exact (((List.filter_sublist (l := s.lat)).map (·.1)).nodup nd).sublist (List.take_sublist _ _)
end
/-! ### came -/
section
variable {P : Program} {w : World} {K : PySem.W.Frag} {mg : Str → Option Value} {base : Heap} {C : Addr}
abbrev s_Load_came : Stmt := inClass (top 6) 4
theorem sc_Load_came : FnScope ["self", "letters", "found", "letter", "piece"] ["self", "letters"] (defScope s_Load_came) := ⟨rfl, rfl, rfl, by decide +kernel, rfl, by decide +kernel, by decide +kernel⟩
theorem bd_Load_came : Bd "came" "Load.came" s_Load_came ["self", "letters"] := fun _ _ _ _ _ _ us hl => match us, hl with | [_, _], _ => rfl
def ins (fk : List Int) (n : Int) : List Int := if n ∈ fk then fk else fk ++ [n]
def cRow (s : LS) (fk : List Int) (row : List Int) : List Int := row.foldl (fun fk n => if n ∈ s.lat.map (·.1) then ins fk n else fk) fk
def cLet (s : LS) (fk : List Int) (z : Int) : List Int := if 0 ≤ z ∧ z < s.rows.length then cRow s fk (s.rows.getD z.toNat []) else fk
def LS.cameF (s : LS) (zs : List Int) : List Int := zs.foldl (cLet s) []
def LS.came (s : LS) (zs : List Int) : LS := { s with lat := s.lat.filter fun p => decide (p.1 ∉ s.cameF zs) }
def fkK (fk : List Int) : List (Key × V) := fk.map fun n => (Sum.inl n, V.bl true)
theorem fkK_len (l : List Int) : (fkK l).length = l.length := List.length_map _
theorem fkK_keys (l : List Int) : (fkK l).map (·.1) = l.map Sum.inl := by
  unfold fkK
  rw [List.map_map]
  rfl
theorem fkK_put (fk : List Int) (n : Int) : putK (fkK fk) (Sum.inl n) (.bl true) = fkK (ins fk n) := by
  have e : ((fkK fk).any fun kv => decide (kv.1 = (Sum.inl n : Key))) = decide (n ∈ fk) := by
    unfold fkK
    rw [List.any_map, Bool.eq_iff_iff, List.any_eq_true]
    simp
  unfold putK ins
  rw [e]
  by_cases h : n ∈ fk
  · simp only [h, decide_true, if_true]
    unfold fkK
    rw [List.map_map]
    refine List.map_congr_left fun q _ => ?_
    by_cases c : q = n <;> simp [c]
  · simp only [h, decide_false, if_false, Bool.false_eq_true]
    unfold fkK
    rw [List.map_append]
    rfl
theorem ins_nd {fk : List Int} {n : Int} (h : fk.Nodup) : (ins fk n).Nodup := by
  unfold ins
  split
  · exact h
  · rename_i c
    exact nd_snoc h c
theorem ins_mem {fk : List Int} {n m : Int} : m ∈ ins fk n ↔ m ∈ fk ∨ m = n := by
  unfold ins
  split
  · rename_i c
    exact ⟨.inl, fun h => h.elim id fun e => e ▸ c⟩
  · simp
theorem cRow_nil (s : LS) (fk : List Int) : cRow s fk [] = fk := rfl
theorem cRow_snoc (s : LS) (fk row : List Int) (n : Int) : cRow s fk (row ++ [n]) = if n ∈ s.lat.map (·.1) then ins (cRow s fk row) n else cRow s fk row := by
  unfold cRow
  rw [List.foldl_append]
  rfl
/-- what is found: distinct, all waiting -/
def FkOk (s : LS) (fk : List Int) : Prop := fk.Nodup ∧ ∀ n ∈ fk, n ∈ s.lat.map (·.1)
theorem cRow_ok {s : LS} : ∀ {row fk : List Int}, FkOk s fk → FkOk s (cRow s fk row)
  | [], _, h => h
  | n :: row, fk, h => by
    refine cRow_ok (row := row) (fk := if n ∈ s.lat.map (·.1) then ins fk n else fk) ?_
    split
    · rename_i c
      exact ⟨ins_nd h.1, fun m hm => (ins_mem.mp hm).elim (h.2 m) fun e => e ▸ c⟩
    · exact h
theorem cLet_ok {s : LS} {fk : List Int} {z : Int} (h : FkOk s fk) : FkOk s (cLet s fk z) := by
  unfold cLet
  split
  · exact cRow_ok h
  · exact h
theorem cFold_ok {s : LS} : ∀ {zs fk : List Int}, FkOk s fk → FkOk s (zs.foldl (cLet s) fk)
  | [], _, h => h
  | z :: zs, _, h => cFold_ok (zs := zs) (cLet_ok (z := z) h)
theorem cameF_ok (s : LS) (zs : List Int) : FkOk s (s.cameF zs) := cFold_ok ⟨List.nodup_nil, by simp⟩
theorem nd_len : ∀ {a b : List Int}, a.Nodup → (∀ x ∈ a, x ∈ b) → a.length ≤ b.length
  | [], _, _, _ => Nat.zero_le _
  | x :: a, b, h, hs => by
    obtain ⟨h1, h2⟩ := List.nodup_cons.mp h
    have hx := hs x List.mem_cons_self
    have := nd_len (a := a) (b := b.erase x) h2 fun y hy => by
      have ne : y ≠ x := fun e => h1 (e ▸ hy)
      exact (List.mem_erase_of_ne ne).mpr (hs y (List.mem_cons_of_mem _ hy))
    rw [List.length_erase_of_mem hx] at this
    have pos : 0 < b.length := List.length_pos_of_mem hx
    rw [List.length_cons]
    omega
theorem fk_len {s : LS} (wf : LWf s) {fk : List Int} (h : FkOk s fk) : fk.length ≤ s.many := by
  have h1 : fk.length ≤ (s.lat.map (·.1)).length := nd_len h.1 h.2
  rw [List.length_map] at h1
  exact Nat.le_trans h1 (lwf_len wf)
theorem rows_at {H : Hp} : ∀ {rv : List V} {rows : List (List Int)} {i : Nat} {row : List Int}, Rows H rv rows → rows[i]? = some row → ∃ a, rv[i]? = some (.ref a) ∧ H a = some (.tup (row.map V.int))
  | _, _, i, row, .nil, h => by simp at h
  | _, _, 0, row, .cons ⟨a, e, ha⟩ _, h => by
    have z : _ = row := Option.some.inj h
    subst z
    subst e
    exact ⟨a, rfl, ha⟩
  | _, _, i + 1, row, .cons _ t, h => by
    obtain ⟨a, h1, h2⟩ := rows_at (i := i) t (by simpa using h)
    exact ⟨a, by simpa using h1, h2⟩
theorem latK_drop (l : List (Int × Option Int)) (n : Int) : dropK (latK l) (Sum.inl n) = latK (l.filter fun q => decide (q.1 ≠ n)) := by
  unfold dropK latK
  rw [List.filter_map]
  congr 1
  refine List.filter_congr fun q _ => ?_
  by_cases c : q.1 = n <;> simp [c]
theorem filter_more {l : List (Int × Option Int)} {f : List Int} {i : Nat} {n : Int} (h : f[i]? = some n) : (l.filter fun q => decide (q.1 ∉ f.take i)).filter (fun q => decide (q.1 ≠ n)) = l.filter fun q => decide (q.1 ∉ f.take (i + 1)) := by
  rw [List.filter_filter]
  refine List.filter_congr fun q _ => ?_
  rw [take_snoc h]
  by_cases c : q.1 = n <;> by_cases d : q.1 ∈ f.take i <;> simp [c, d]
theorem nd_take {f : List Int} {i : Nat} {n : Int} (nd : f.Nodup) (h : f[i]? = some n) : n ∉ f.take i := by
  intro m
  obtain ⟨j, hj⟩ := List.getElem?_of_mem m
  have lt : j < i := by
    have := (List.getElem?_eq_some_iff.mp hj).1
    rw [List.length_take] at this
    omega
  rw [List.getElem?_take, if_pos lt] at hj
  exact absurd (nd_ix nd hj h) (by omega)
theorem filter_rise {l : List (Int × Option Int)} {q : Int × Option Int → Bool} (h : (l.map (·.1)).Pairwise (· < ·)) : ((l.filter q).map (·.1)).Pairwise (· < ·) := h.sublist ((List.filter_sublist).map _)
theorem came_wf {s : LS} (h : LWf s) (zs : List Int) : LWf (s.came zs) := by
  obtain ⟨h1, h2, h3⟩ := h
  exact ⟨filter_rise h1, fun p hp => h2 p (List.mem_filter.mp hp).1, h3⟩
def spCame (K : PySem.W.Frag) (C : Addr) : Sp := fun vs H Q _ => ∃ (p dx dl rl lt : Addr) (s : LS) (rv : List V) (zs : List Int), vs = [.ref p, .ref lt] ∧ CelOk H (lC C p dx dl rl s rv) ∧ LWf s ∧ Rows H rv s.rows ∧ H lt = some (.lst (zs.map V.int)) ∧ lt ∉ [p, dl, rl] ∧
  ∀ (l : Addr) (ys : List Int) H', H l = none → Aftr (lC C p dx dl rl s rv) (lC C p dx dl rl (s.came zs) rv) H H' → H' l = some (.lst (ys.map V.int)) → ys.Perm (s.cameF zs) → ys.Pairwise (· ≤ ·) → Q (.ref l) H'
theorem ok_LCame (F : DefM K C "came" "Load.came" s_Load_came) (T : LTx K C) (B : Bt mg) : CalM P w K mg base CX0 C 1 "came" ["self", "letters"] (spCame K C) := by
  refine F.ok sc_Load_came bd_Load_came (fun vs H Q E h => ?_) (fun f cdv A outer s H vs Q E hr h => ?_)
  · obtain ⟨p, dx, dl, rl, lt, s, rv, zs, rfl, _⟩ := h
    rfl
  · obtain ⟨p, dx, dl, rl, lt, s, rv, zs, rfl, hc, wf, hR, hlt, hne, k⟩ := h
    obtain ⟨cl_Load, n1, n2, n3, n4, n5⟩ := T
    refine ⟨_, PSs.nox (pss_cons (ps_set (i := 2) sc_Load_came.nd rfl (by first | exact Or.inl rfl | exact Or.inr rfl) pe_dnewK)
      (pss_cons (ps_for PassesOwn.never rfl (pi_listK K rfl (pv 1)) (pg_name (i := 3) sc_Load_came.nd rfl (by first | exact Or.inl rfl | exact Or.inr rfl))
      (pss_one (ps_if (pt_chain op_le op_lt pe_int (pv 3) (pe_callB (cr_lnK K rfl) (by rfl) B.m_len (by decide +kernel) (pa_cons (pe_fldK K rfl (pv 0) rfl) pa_nil))) (pss_one (ps_for PassesOwn.never rfl (pi_tupK K rfl (pe_ix (ix_listK K rfl) (pe_fldK K rfl (pv 0) rfl) (pv 3) (fun _ _ => rfl))) (pg_name (i := 4) sc_Load_came.nd rfl (by first | exact Or.inl rfl | exact Or.inr rfl))
      (pss_one (ps_if (pt_cmp (pc_din (hu_of hr) (pv 4) (pe_fldK K rfl (pv 0) rfl))) (pss_one (ps_dput (hu_of hr) (pv 2) (pv 4) pe_bl rfl)) pss_nil)))) pss_nil)))
      (pss_cons (ps_lock (ps_for PassesOwn.never rfl (pi_keys (pv 2)) (pg_name (i := 4) sc_Load_came.nd rfl (by first | exact Or.inl rfl | exact Or.inr rfl))
      (pss_one (ps_expr (pe_dpop1 (pe_fldK K rfl (pv 0) rfl) (pv 4) ⟨rfl, rfl, rfl, rfl⟩)))))
      (pss_one (ps_ret (pe_callB (call_sortedDA rfl) (by rfl) B.m_sorted (by decide +kernel) (pa_cons (pv 2) pa_nil))))))), ?_⟩
    have N : Now K none _ H H (lC C p dx dl rl s rv) [] := .begin hc (by simp)
    have rlen : rv.length = s.rows.length := Paired.length hR
    walk_at "go"
    rename_i fd H1 N1
    have hm := wf.2.2.1
    have fdM : fd ∉ (lC C p dx dl rl s rv).map Cel.a := (List.nodup_cons.mp N1.nd).1
    have hsrc : ∀ {H' : Hp} {l' : List Cel}, Now K none ((lC C p dx dl rl s rv).map Cel.a) H H' l' [] → SqL K H' lt (zs.map V.int) := fun N' => .of (N'.af.k _ _ hlt hne)
    refine c_for (xs := zs.map V.int) (fun i σ H' => ∃ a b fk, σ = [some (.ref p), some (.ref lt), some (.ref fd), a, b] ∧ fk = (zs.take i).foldl (cLet s) [] ∧ Now K none ((lC C p dx dl rl s rv).map Cel.a) H H' (⟨true, fd, .dK (fkK fk)⟩ :: lC C p dx dl rl s rv) [])
      ⟨_, _, [], rfl, rfl, N1⟩ (fun i σ H' _ ⟨_, _, _, _, _, N'⟩ => hsrc N') ?_ ?_
    · rintro i x σ H' hx ⟨a, b, fk, rfl, hfk, N'⟩
      rw [List.getElem?_map] at hx
      obtain ⟨z, hz, rfl⟩ := Option.map_eq_some_iff.mp hx
      have nxt : (zs.take (i + 1)).foldl (cLet s) [] = cLet s fk z := by rw [take_snoc hz, List.foldl_append, ← hfk]; rfl
      have ok0 : FkOk s fk := by rw [hfk]; exact cFold_ok ⟨List.nodup_nil, by simp⟩
      walk_at "k"
      refine c_ch (fun c1 => ?_) (fun c1 => ?_)
      · have c1 := of_decide_eq_true c1
        walk_at "k"
        rw [rlen]
        refine c_ifd (fun c2 => ?_) (fun c2 => ?_)
        · have lt2 : z.toNat < s.rows.length := by omega
          obtain ⟨ra, e1, e2⟩ := rows_at hR (List.getElem?_eq_getElem lt2)
          have hrow := N'.af.t _ _ e2
          walk_at "k"
          refine g_ixL (xs := rv) (.of (N'.cell 3 rfl)) (at_of (show z = (z.toNat : Int) by omega) e1) ?_
          walk_at "k"
          refine c_forT (xs := (s.rows[z.toNat]).map V.int) (fun j σ H' => ∃ b fk', σ = [some (.ref p), some (.ref lt), some (.ref fd), some (.int z), b] ∧ fk' = cRow s fk ((s.rows[z.toNat]).take j) ∧ Now K none ((lC C p dx dl rl s rv).map Cel.a) H H' (⟨true, fd, .dK (fkK fk')⟩ :: lC C p dx dl rl s rv) [])
            ⟨_, fk, rfl, rfl, N'⟩ (fun j σ H' _ ⟨_, _, _, _, N2⟩ => .of (N2.af.t _ _ e2)) ?_ ?_
          · rintro j y σ H2 hy ⟨b, fk', rfl, hfk', N2⟩
            rw [List.getElem?_map] at hy
            obtain ⟨n, hn, rfl⟩ := Option.map_eq_some_iff.mp hy
            have ok1 : FkOk s fk' := by rw [hfk']; exact cRow_ok ok0
            have l1 := fk_len wf ok1
            have e3 : (valV (latK s.lat) (Sum.inl n)).isSome = decide (n ∈ s.lat.map (·.1)) := by
              rw [latK_val, Option.isSome_map, Bool.eq_iff_iff, List.find?_isSome]
              simp
            walk_at "k"
            refine g_dinI (N2.cell 2 rfl) ?_
            rw [e3]
            walk_at "k"
            refine c_ifd (fun c3 => ?_) (fun c3 => ?_)
            · walk_at "k"
              refine g_dputI0 N2 (by rw [fkK_len]; omega) fun H3 N3 => ?_
              rw [fkK_put] at N3
              exact ⟨_, _, rfl, by rw [take_snoc hn, cRow_snoc, if_pos c3, hfk'], N3⟩
            · walk_at "k"
              exact ⟨_, _, rfl, by rw [take_snoc hn, cRow_snoc, if_neg c3, hfk'], N2⟩
          · rintro σ H2 ⟨b, fk', rfl, hfk', N2⟩
            rw [List.length_map, List.take_length] at hfk'
            refine ⟨_, _, _, rfl, ?_, N2⟩
            rw [nxt, hfk']
            unfold cLet
            rw [if_pos ⟨c1, c2⟩, List.getD_eq_getElem?_getD, List.getElem?_eq_getElem lt2]
            rfl
        · walk_at "k"
          refine ⟨_, _, _, rfl, ?_, N'⟩
          rw [nxt]
          unfold cLet
          rw [if_neg (fun q => c2 q.2)]
      · have c1 := of_decide_eq_false c1
        walk_at "k"
        refine ⟨_, _, _, rfl, ?_, N'⟩
        rw [nxt]
        unfold cLet
        rw [if_neg (fun q => c1 q.1)]
    · rintro σ H' ⟨a, b, fk, rfl, hfk, N'⟩
      rw [List.length_map, List.take_length] at hfk
      have hfk : fk = s.cameF zs := hfk
      subst hfk
      have ok0 := cameF_ok s zs
      walk_at "k"
      refine k_lock (N'.cell 0 rfl) trivial fun od => ?_
      have N2 := N'.lock (o' := .frz od (.dK (fkK (s.cameF zs)))) fdM
      walk_at "k"
      have fdl : ∀ {H2 : Hp} {l' : List Cel}, H2 fd = some (.frz od (.dK (fkK (s.cameF zs)))) → ∀ {x : Addr} {o : HO}, H2 x = some o → Mut (some o) → fd ≠ x := fun h1 _ o h2 hmu e => by
        subst e
        rw [h1] at h2
        rw [← Option.some.inj h2] at hmu
        exact hmu
      refine c_forK (kvs := fkK (s.cameF zs)) (ob := od) (fun i σ H2 => ∃ b, σ = [some (.ref p), some (.ref lt), some (.ref fd), a, b] ∧ H2 fd = some (.frz od (.dK (fkK (s.cameF zs)))) ∧
        Now K none ((lC C p dx dl rl s rv).map Cel.a) H H2 (lC C p dx dl rl { s with lat := s.lat.filter fun q => decide (q.1 ∉ (s.cameF zs).take i) } rv) []) ⟨_, rfl, upd_same, ?_⟩ (fun i σ H2 ⟨_, _, e, _⟩ => e) ?_ ?_
      · have e : (s.lat.filter fun q => decide (q.1 ∉ (s.cameF zs).take 0)) = s.lat := List.filter_eq_self.mpr fun q _ => by simp
        rw [e]
        exact N2
      · rintro i ky v σ H2 hk ⟨b, rfl, hfz, N3⟩
        unfold fkK at hk
        rw [List.getElem?_map] at hk
        obtain ⟨n, hn, e⟩ := Option.map_eq_some_iff.mp hk
        cases e
        have nin := nd_take ok0.1 hn
        obtain ⟨q, hq, eq⟩ := List.mem_map.mp (ok0.2 n (List.mem_of_getElem? hn))
        have hq2 : q ∈ s.lat.filter fun q => decide (q.1 ∉ (s.cameF zs).take i) := List.mem_filter.mpr ⟨hq, by rw [eq]; simpa using nin⟩
        obtain ⟨j, hj⟩ := List.getElem?_of_mem hq2
        have hf := find_at (filter_rise wf.1) hj
        rw [eq] at hf
        show gName 4 (.int n) _ H2 _
        walk_at "k"
        refine g_dpop1 N3 ?_
        walk_at "k"
        refine ⟨_, Sum.inl n, oV q.2, N3.cell 1 rfl, rfl, by rw [latK_val, hf]; rfl, ?_⟩
        rw [latK_drop, filter_more hn]
        refine ⟨_, rfl, ?_, N3.put 1 rfl trivial⟩
        rw [upd_ne (fdl (l' := []) hfz (N3.cell 1 rfl) trivial)]
        exact hfz
      · rintro σ H2 ⟨b, rfl, hfz, N3⟩
        rw [fkK_len, List.take_length] at N3
        refine ⟨hfz, ?_⟩
        have h0 : H fd = none := (N'.ow ⟨true, fd, _⟩ List.mem_cons_self rfl).resolve_left fdM
        have N4 := N3.unlock (u := .dK (fkK (s.cameF zs))) h0 hfz
        walk_at "k"
        refine g_sortD N4 upd_same (fkK_keys _) fun l H5 ys hp hs N5 => ?_
        have lM : l ∉ (lC C p dx dl rl s rv).map Cel.a := (List.nodup_cons.mp N5.nd).1
        exact k l ys H5 ((N5.ow ⟨true, l, _⟩ List.mem_cons_self rfl).resolve_left lM) (Now.done N5.tl (by simp)) (N5.cell 0 rfl) hp hs
end
/-! ### the law's own book of a load -/
structure OS where
  room : Int
  wait : Int
  many : Nat
  rows : List (List Int)
  sure : List Int
abbrev kvO (room wait : Int) (many : Int) (rl sl : Addr) : List (Key × V) := [(Sum.inr "room", .int room), (Sum.inr "wait", .int wait), (Sum.inr "many", .int many), (Sum.inr "rows", .ref rl), (Sum.inr "sure", .ref sl)]
abbrev oC (o rl sl : Addr) (s : OS) (rv : List V) : List Cel := [⟨true, o, .dK (kvO s.room s.wait s.many rl sl)⟩, ⟨true, rl, .lst rv⟩, ⟨true, sl, .lst (s.sure.map V.int)⟩]
section
variable {P : Program} {w : World} {K : PySem.W.Frag} {mg : Str → Option Value} {base : Heap}
def lettersOf (rows : List (List Int)) (p : Int) : Nat → List Int
  | 0 => []
  | k + 1 => if p ∈ rows.getD k [] then lettersOf rows p k ++ [(k : Int)] else lettersOf rows p k
theorem letters_len (rows : List (List Int)) (p : Int) : ∀ k, (lettersOf rows p k).length ≤ k
  | 0 => Nat.le_refl 0
  | k + 1 => by
    have ih := letters_len rows p k
    rw [lettersOf]
    split
    · rw [List.length_append]
      simp
      omega
    · omega
def farOf (rows : List (List Int)) (p : Int) : Int := match (lettersOf rows p rows.length).getLast? with
  | none => 99
  | some k => rows.length - k
def okP (s : OS) (p : Int) : Bool := decide (p ∉ s.sure ∧ farOf s.rows p ≥ s.wait)
def OS.loop (s : OS) : Nat → List Int
  | 0 => []
  | i + 1 => if okP s (i : Int) = true ∧ ((OS.loop s i).length : Int) < s.room then OS.loop s i ++ [(i : Int)] else OS.loop s i
def OS.found (s : OS) : List Int := s.loop s.many
def OS.fill (s : OS) : OS := { s with rows := s.rows ++ [s.found] }
theorem loop_len (s : OS) : ∀ i, (s.loop i).length ≤ i
  | 0 => Nat.le_refl 0
  | i + 1 => by
    have ih := loop_len s i
    rw [OS.loop]
    split
    · rw [List.length_append]
      simp
      omega
    · omega
abbrev s_l_fill : Stmt := top 11
theorem sc_l_fill : FnScope ["_law_own", "_law_found", "_law_piece", "_law_letters", "_law_k", "_law_far"] ["_law_own"] (defScope s_l_fill) := ⟨rfl, rfl, rfl, by decide +kernel, rfl, by decide +kernel, by decide +kernel⟩
theorem bd_l_fill : Bd "_law_fill" "_law_fill" s_l_fill ["_law_own"] := fun _ _ _ _ _ _ us hl => match us, hl with | [_], _ => rfl
def spOFill (K : PySem.W.Frag) : Sp := fun vs H Q _ => ∃ (o rl sl : Addr) (s : OS) (rv : List V), vs = [.ref o] ∧ CelOk H (oC o rl sl s rv) ∧ Rows H rv s.rows ∧ s.many ≤ 1000 ∧ s.rows.length < 1000 ∧
  ∀ (t u rl' : Addr) H', Aftr (oC o rl sl s rv) (oC o rl' sl s.fill (rv ++ [.ref u])) H H' → H' t = some (.tup (s.found.map V.int)) → H' u = some (.tup (s.found.map V.int)) → Q (.ref t) H'
theorem ok_OFill (F : Def K mg "_law_fill" s_l_fill) (B : Bt mg) : Cal P w K mg base CX0 1 "_law_fill" ["_law_own"] (spOFill K) := by
  refine F.ok sc_l_fill bd_l_fill (fun vs H Q E h => ?_) (fun f cdv A outer s H vs Q E hr h => ?_)
  · obtain ⟨o, rl, sl, s, rv, rfl, _⟩ := h
    rfl
  · obtain ⟨o, rl, sl, s, rv, rfl, hc, hR, hm, hrl, k⟩ := h
    refine ⟨_, PSs.nox (pss_cons (ps_set (i := 1) sc_l_fill.nd rfl (by first | exact Or.inl rfl | exact Or.inr rfl) (pe_lst pa_nil))
      (pss_cons (ps_for PassesOwn.never rfl (pi_range1 (by rfl) B.m_range (pa_cons (pe_dget (hu_of hr) (pv 0) pe_str (fun _ _ => rfl)) pa_nil)) (pg_name (i := 2) sc_l_fill.nd rfl (by first | exact Or.inl rfl | exact Or.inr rfl))
      (pss_cons (ps_setLc (i := 3) (own := [("_law_k", 4)]) (g := (gName 4)) rfl sc_l_fill.nd rfl rfl (sw_true rfl rfl rfl (by decide +kernel)) (pi_range1 (by rfl) B.m_range (pa_cons (pe_callB (cr_lnK K rfl) (by rfl) B.m_len (by decide +kernel) (pa_cons (pe_dget (hu_of hr) (pv 0) pe_str (fun _ _ => rfl)) pa_nil)) pa_nil)) (blkOk_by (own := [("_law_k", 4)]) (N := ["_law_own", "_law_found", "_law_piece", "_law_letters", "_law_k", "_law_far"]) (sc := defScope s_l_fill) (by decide +kernel)) (fun _ _ _ _ _ => (pg_name (i := 4) sc_l_fill.nd rfl (by first | exact Or.inl rfl | exact Or.inr rfl))) (fun _ _ _ _ _ => (pts_one (pt_cmpR (op_in_seqK K rfl) (pv 2) (pe_ix (ix_listK K rfl) (pe_dget (hu_of hr) (pv 0) pe_str (fun _ _ => rfl)) (pv 4) (fun _ _ => rfl)) (by rfl)))) (fun _ _ _ _ _ => (pv 4)))
      (pss_cons (ps_set (i := 5) sc_l_fill.nd rfl (by first | exact Or.inl rfl | exact Or.inr rfl) (pe_ifExp (pt_cmpR (op_neDK K rfl hr.units) (pv 3) (pe_lst pa_nil) (nomark _)) (pe_op op_sub (pe_callB (cr_lnK K rfl) (by rfl) B.m_len (by decide +kernel) (pa_cons (pe_dget (hu_of hr) (pv 0) pe_str (fun _ _ => rfl)) pa_nil)) (pe_ix (ix_listK K rfl) (pv 3) (pe_un un_neg pe_int) (fun _ _ => rfl))) pe_int))
      (pss_one (ps_if (PW.pt (pw_and (pt_cmpR (op_notIn_seqK K rfl) (pv 2) (pe_dget (hu_of hr) (pv 0) pe_str (fun _ _ => rfl)) (by rfl)) (pw_and (pt_cmpR op_ge (pv 5) (pe_dget (hu_of hr) (pv 0) pe_str (fun _ _ => rfl)) (nomark _)) (pw_and1 (pt_cmpR op_lt (pe_callB (cr_lnK K rfl) (by rfl) B.m_len (by decide +kernel) (pa_cons (pv 1) pa_nil)) (pe_dget (hu_of hr) (pv 0) pe_str (fun _ _ => rfl)) (nomark _)))))) (pss_one (ps_expr (pe_bmK K rfl PySem.F.plainAttrs_list PySem.F.slot_list_append PySem.F.type_list_append mt_append (pv 1) (pa_cons (pv 2) pa_nil)))) pss_nil)))))
      (pss_cons (ps_dput (hu_of hr) (pv 0) pe_str (pe_op op_cat (pe_dget (hu_of hr) (pv 0) pe_str (fun _ _ => rfl)) (pe_lst (pa_cons (pe_callTy (cr_tupLK K rfl) (by rfl) B.m_tuple (by decide +kernel) (pa_cons (pv 1) pa_nil)) pa_nil))) rfl)
      (pss_one (ps_ret (pe_callTy (cr_tupLK K rfl) (by rfl) B.m_tuple (by decide +kernel) (pa_cons (pv 1) pa_nil))))))), ?_⟩
    have N : Now K none _ H H (oC o rl sl s rv) [] := .begin hc (by simp)
    have rlen : rv.length = s.rows.length := Paired.length hR
    walk_at "go"
    rename_i fl H1 N1
    refine c_forR (by omega) (fun i σ H' => ∃ a b c d, σ = [some (.ref o), some (.ref fl), a, b, c, d] ∧ Now K none ((oC o rl sl s rv).map Cel.a) H H' (⟨true, fl, .lst ((s.loop i).map V.int)⟩ :: oC o rl sl s rv) []) ⟨_, _, _, _, rfl, N1⟩ ?_ ?_
    · rintro i σ H' hi ⟨a, b, c, d, rfl, N'⟩
      walk_at "k"
      refine c_lcR N' (by omega) (fun k acc => acc = (lettersOf s.rows i k).map V.int) rfl (fun _ => rfl) (fun k Dd H2 acc hk N2 r => ?_) (fun p H2 acc N2 r => ?_)
      · have lk : k < s.rows.length := by omega
        obtain ⟨ra, e1, e2⟩ := rows_at hR (List.getElem?_eq_getElem lk)
        have e3 := N2.af.t _ _ e2
        have eg : s.rows.getD k [] = s.rows[k] := by rw [List.getD_eq_getElem?_getD, List.getElem?_eq_getElem lk]; rfl
        have la : acc.length ≤ k := by
          rw [r, List.length_map]
          exact letters_len _ _ _
        have nxt : lettersOf s.rows i (k + 1) = if (i : Int) ∈ s.rows[k] then lettersOf s.rows i k ++ [(k : Int)] else lettersOf s.rows i k := by
          rw [lettersOf, eg]
        walk_at "k"
        refine g_ixL (xs := rv) (.of (N2.cell 3 rfl)) (atI_nat e1) ?_
        refine g_inI (ns := s.rows[k]) (.inr (.of e3)) ?_
        walk_at "k"
        refine c_el (fun c => ?_) (fun c => ?_)
        · have c := of_decide_eq_true c
          walk_at "k"
          refine c_put N2 (by omega) ?_
          rw [nxt, if_pos c, List.map_append, r]
          rfl
        · have c := of_decide_eq_false c
          refine ⟨acc, N2, ?_⟩
          show acc = _
          rw [nxt, if_neg c, r]
      · have en : ((rv.length : Int)).toNat = s.rows.length := by omega
        rw [en] at r
        subst r
        walk_at "k"
        rename_i ep H4 N4
        refine g_neL (m := lettersOf s.rows i s.rows.length) (n := []) (.of (N4.cell 1 rfl)) (.of (N4.cell 0 rfl)) ?_
        walk_at "k"
        refine c_ifEV (v := .int (farOf s.rows i)) (fun c Q' q => ?_) (fun c Q' q => ?_) ?_
        · have c := of_decide_eq_true c
          cases e : (lettersOf s.rows i s.rows.length).getLast? with
          | none => exact absurd (List.getLast?_eq_none_iff.mp e) c
          | some kk =>
            obtain ⟨ys, ey⟩ := List.getLast?_eq_some_iff.mp e
            walk_at "k"
            refine g_ixL (xs := ys.map V.int ++ [V.int kk]) (v := .int kk) (.of (by rw [N4.cell 1 rfl, ey, List.map_append]; rfl)) (atI_last _ _) ?_
            walk_at "k"
            have ef : farOf s.rows i = (s.rows.length : Int) - kk := by unfold farOf; rw [e]
            rw [rlen, ← ef]
            exact q
        · have c := of_decide_eq_false c
          walk_at "k"
          have ef : farOf s.rows i = 99 := by
            unfold farOf
            have : lettersOf s.rows i s.rows.length = [] := by simpa using c
            rw [this]
            rfl
          rw [ef] at q
          exact q
        · walk_at "k"
          refine c_and' (c := decide (farOf s.rows i ≥ s.wait) && decide (((s.loop i).length : Int) < s.room)) (fun Q' q => ?_) ?_
          · walk_at "k"
            refine c_and' (c := decide (((s.loop i).length : Int) < s.room)) (fun Q' q => ?_) q
            walk_at "k"
            rw [List.length_map]
            exact q
          · have ll := loop_len s i
            refine c_if (fun c => ?_) (fun c => ?_)
            · walk_at "k"
              refine g_app2 N4 (by rw [List.length_map]; omega) fun H5 N5 => ?_
              walk_at "k"
              have hc : okP s (i : Int) = true ∧ ((s.loop i).length : Int) < s.room := by
                unfold okP
                simp only [Bool.and_eq_true, decide_eq_true_eq] at c ⊢
                exact ⟨⟨c.1, c.2.1⟩, c.2.2⟩
              refine ⟨_, _, _, _, rfl, ?_⟩
              rw [OS.loop, if_pos hc, List.map_append]
              exact N5.sel [2, 3, 4, 5] rfl (by decide)
            · walk_at "k"
              have hc : ¬ (okP s (i : Int) = true ∧ ((s.loop i).length : Int) < s.room) := by
                intro z
                unfold okP at z
                simp only [Bool.and_eq_true, decide_eq_true_eq] at z
                rw [decide_eq_true z.1.1, decide_eq_true z.1.2, decide_eq_true z.2] at c
                cases c
              refine ⟨_, _, _, _, rfl, ?_⟩
              rw [OS.loop, if_neg hc]
              exact N4.sel [2, 3, 4, 5] rfl (by decide)
    · rintro σ H' ⟨a, b, c, d, rfl, N'⟩
      have ll := loop_len s s.many
      have em : ((s.many : Int)).toNat = s.many := by omega
      rw [em] at N'
      walk_at "k"
      rename_i u _ _ _ _ _ np H5 N5
      refine g_dputS0 (N5.sel [3, 4, 5, 0, 2] (l' := ⟨true, o, .dK (kvO s.room s.wait s.many rl sl)⟩ :: ⟨true, rl, .lst rv⟩ :: ⟨true, sl, .lst (s.sure.map V.int)⟩ :: ⟨true, np, .lst (rv ++ [.ref u])⟩ :: ⟨true, fl, .lst ((s.loop s.many).map V.int)⟩ :: []) rfl (by decide))
        (Nat.le_of_ble_eq_true rfl) (kvs' := kvO s.room s.wait s.many np sl) rfl fun H6 N6 => ?_
      walk_at "k"
      rename_i t H7 N7
      exact k t u np _ (Now.done (N7.sel [0, 3, 2] rfl (by decide)) (by simp)) (N7.tup 0 rfl) (N7.tup 1 rfl)
def oLet (s : OS) (fk : List Int) (z : Int) : List Int := if 0 ≤ z ∧ z < s.rows.length then fk ++ (s.rows.getD z.toNat []).filter (fun n => decide (n ∉ s.sure ++ fk)) else fk
def OS.cameF (s : OS) (zs : List Int) : List Int := zs.foldl (oLet s) []
def OS.came (s : OS) (zs : List Int) : OS := { s with sure := s.sure ++ s.cameF zs }
abbrev s_l_came : Stmt := top 12
theorem sc_l_came : FnScope ["_law_own", "_law_letters", "_law_found", "_law_letter", "_law_piece"] ["_law_own", "_law_letters"] (defScope s_l_came) := ⟨rfl, rfl, rfl, by decide +kernel, rfl, by decide +kernel, by decide +kernel⟩
theorem bd_l_came : Bd "_law_came" "_law_came" s_l_came ["_law_own", "_law_letters"] := fun _ _ _ _ _ _ us hl => match us, hl with | [_, _], _ => rfl
def spOCame (K : PySem.W.Frag) : Sp := fun vs H Q _ => ∃ (o rl sl lt : Addr) (s : OS) (rv : List V) (zs : List Int), vs = [.ref o, .ref lt] ∧ CelOk H (oC o rl sl s rv) ∧ Rows H rv s.rows ∧ H lt = some (.lst (zs.map V.int)) ∧ lt ∉ [o, rl, sl] ∧ zs.length ≤ 10 ∧ (∀ row ∈ s.rows, row.length ≤ 8) ∧ s.sure.length ≤ 1000 ∧
  ∀ (sl' l : Addr) (ys : List Int) H', H l = none → Aftr (oC o rl sl s rv) (oC o rl sl' (s.came zs) rv) H H' → H' l = some (.lst (ys.map V.int)) → ys.Perm (s.cameF zs) → ys.Pairwise (· ≤ ·) → Q (.ref l) H'
theorem oLet_len {s : OS} {fk : List Int} {z : Int} (h : ∀ row ∈ s.rows, row.length ≤ 8) : (oLet s fk z).length ≤ fk.length + 8 := by
  unfold oLet
  split
  · rename_i c
    rw [List.length_append]
    have lt : z.toNat < s.rows.length := by omega
    have e : s.rows.getD z.toNat [] = s.rows[z.toNat] := by rw [List.getD_eq_getElem?_getD, List.getElem?_eq_getElem lt]; rfl
    rw [e]
    have := h _ (List.getElem_mem lt)
    have := List.length_filter_le (fun n => decide (n ∉ s.sure ++ fk)) s.rows[z.toNat]
    omega
  · omega
theorem oFold_len {s : OS} (h : ∀ row ∈ s.rows, row.length ≤ 8) : ∀ (zs fk : List Int), (zs.foldl (oLet s) fk).length ≤ fk.length + 8 * zs.length
  | [], _ => by simp
  | z :: zs, fk => by
    have := oFold_len h zs (oLet s fk z)
    have := oLet_len (fk := fk) (z := z) h
    rw [List.foldl_cons, List.length_cons]
    omega
theorem ok_OCame (F : Def K mg "_law_came" s_l_came) (B : Bt mg) : Cal P w K mg base CX0 1 "_law_came" ["_law_own", "_law_letters"] (spOCame K) := by
  refine F.ok sc_l_came bd_l_came (fun vs H Q E h => ?_) (fun f cdv A outer s H vs Q E hr h => ?_)
  · obtain ⟨o, rl, sl, lt, s, rv, zs, rfl, _⟩ := h
    rfl
  · obtain ⟨o, rl, sl, lt, s, rv, zs, rfl, hc, hR, hlt, hne, hz, hrow, hsu, k⟩ := h
    refine ⟨_, PSs.nox (pss_cons (ps_set (i := 2) sc_l_came.nd rfl (by first | exact Or.inl rfl | exact Or.inr rfl) (pe_lst pa_nil))
      (pss_cons (ps_for PassesOwn.never rfl (pi_listK K rfl (pv 1)) (pg_name (i := 3) sc_l_came.nd rfl (by first | exact Or.inl rfl | exact Or.inr rfl))
      (pss_one (ps_if (pt_chain op_le op_lt pe_int (pv 3) (pe_callB (cr_lnK K rfl) (by rfl) B.m_len (by decide +kernel) (pa_cons (pe_dget (hu_of hr) (pv 0) pe_str (fun _ _ => rfl)) pa_nil))) (pss_one (ps_set (i := 2) sc_l_came.nd rfl (by first | exact Or.inl rfl | exact Or.inr rfl) (pe_op op_cat (pv 2) (pe_lc (own := [("_law_piece", 4)]) (g := (gName 4)) rfl sc_l_came.nd (pi_tupK K rfl (pe_ix (ix_listK K rfl) (pe_dget (hu_of hr) (pv 0) pe_str (fun _ _ => rfl)) (pv 3) (fun _ _ => rfl))) (blkOk_by (own := [("_law_piece", 4)]) (N := ["_law_own", "_law_letters", "_law_found", "_law_letter", "_law_piece"]) (sc := defScope s_l_came) (by decide +kernel)) (fun _ _ _ _ _ => (pg_name (i := 4) sc_l_came.nd rfl (by first | exact Or.inl rfl | exact Or.inr rfl))) (fun _ _ _ _ _ => (pts_one (pt_cmpR (op_notIn_seqK K rfl) (pv 4) (pe_op op_cat (pe_dget (hu_of hr) (pv 0) pe_str (fun _ _ => rfl)) (pv 2)) (by rfl)))) (fun _ _ _ _ _ => (pv 4)))))) pss_nil)))
      (pss_cons (ps_dput (hu_of hr) (pv 0) pe_str (pe_op op_cat (pe_dget (hu_of hr) (pv 0) pe_str (fun _ _ => rfl)) (pv 2)) rfl)
      (pss_one (ps_ret (pe_callB (cr_sortedIK K rfl) (by rfl) B.m_sorted (by decide +kernel) (pa_cons (pv 2) pa_nil))))))), ?_⟩
    have N : Now K none _ H H (oC o rl sl s rv) [] := .begin hc (by simp)
    have rlen : rv.length = s.rows.length := Paired.length hR
    walk_at "go"
    rename_i fl H1 N1
    refine c_for (xs := zs.map V.int) (fun i σ H' => ∃ a b fd fk, σ = [some (.ref o), some (.ref lt), some (.ref fd), a, b] ∧ fk = (zs.take i).foldl (oLet s) [] ∧ Now K none ((oC o rl sl s rv).map Cel.a) H H' (⟨true, fd, .lst (fk.map V.int)⟩ :: oC o rl sl s rv) [])
      ⟨_, _, _, [], rfl, rfl, N1⟩ (fun i σ H' _ ⟨_, _, _, _, _, _, N'⟩ => .of (N'.af.k _ _ hlt hne)) ?_ ?_
    · rintro i x σ H' hx ⟨a, b, fd, fk, rfl, hfk, N'⟩
      rw [List.getElem?_map] at hx
      obtain ⟨z, hz1, rfl⟩ := Option.map_eq_some_iff.mp hx
      have nxt : (zs.take (i + 1)).foldl (oLet s) [] = oLet s fk z := by rw [take_snoc hz1, List.foldl_append, ← hfk]; rfl
      have fkl : fk.length ≤ 80 := by
        rw [hfk]
        have := oFold_len hrow (zs.take i) []
        rw [List.length_take] at this
        simp at this
        omega
      walk_at "k"
      refine c_ch (fun c1 => ?_) (fun c1 => ?_)
      · have c1 := of_decide_eq_true c1
        walk_at "k"
        rw [rlen]
        refine c_ifd (fun c2 => ?_) (fun c2 => ?_)
        · have lt2 : z.toNat < s.rows.length := by omega
          obtain ⟨ra, e1, e2⟩ := rows_at hR (List.getElem?_eq_getElem lt2)
          have hrow' := N'.af.t _ _ e2
          have hr8 := hrow _ (List.getElem_mem lt2)
          have eg : s.rows.getD z.toNat [] = s.rows[z.toNat] := by rw [List.getD_eq_getElem?_getD, List.getElem?_eq_getElem lt2]; rfl
          walk_at "k"
          refine g_ixL (xs := rv) (.of (N'.cell 2 rfl)) (at_of (show z = (z.toNat : Int) by omega) e1) ?_
          refine c_lcT (N'.moreT hrow') ((s.rows[z.toNat]).map V.int) (fun j acc => acc = (((s.rows[z.toNat]).take j).filter fun n => decide (n ∉ s.sure ++ fk)).map V.int) rfl (fun H2 l' N2 => .of (N2.tup 0 rfl)) (fun _ => rfl) (fun j y Dd H2 acc hy N2 r => ?_) (fun q H2 acc N2 r => ?_)
          · rw [List.getElem?_map] at hy
            obtain ⟨n, hn, rfl⟩ := Option.map_eq_some_iff.mp hy
            have la : acc.length ≤ 8 := by
              rw [r, List.length_map]
              refine Nat.le_trans (List.length_filter_le _ _) ?_
              rw [List.length_take]
              omega
            have nx2 : (s.rows[z.toNat]).take (j + 1) = (s.rows[z.toNat]).take j ++ [n] := take_snoc hn
            walk_at "k"
            rename_i np H3 N3
            refine g_ninI (ns := s.sure ++ fk) (.inl (.of (by rw [N3.cell 0 rfl, List.map_append]))) ?_
            walk_at "k"
            refine c_el (fun c => ?_) (fun c => ?_)
            · walk_at "k"
              refine c_put N3.tl (by omega) ?_
              show acc ++ [V.int n] = _
              rw [nx2, List.filter_append, List.map_append, r]
              congr 1
              rw [List.filter_cons_of_pos (by simpa using c)]
              rfl
            · refine ⟨acc, N3.tl, ?_⟩
              show acc = _
              rw [nx2, List.filter_append, List.map_append, r]
              rw [List.filter_cons_of_neg (by simpa using c)]
              simp
          · rw [List.length_map, List.take_length] at r
            subst r
            have la : ((s.rows[z.toNat]).filter fun n => decide (n ∉ s.sure ++ fk)).length ≤ 8 := Nat.le_trans (List.length_filter_le _ _) hr8
            refine g_cat N2 (N2.cell 1 rfl) (N2.cell 0 rfl) (by rw [List.length_map, List.length_map]; omega) fun p3 H3 N3 => ?_
            walk_at "k"
            refine ⟨_, _, p3, oLet s fk z, rfl, nxt.symm, ?_⟩
            · have e : oLet s fk z = fk ++ (s.rows[z.toNat]).filter (fun n => decide (n ∉ s.sure ++ fk)) := by
                unfold oLet
                rw [if_pos ⟨c1, c2⟩, eg]
              rw [e, List.map_append]
              exact (N3.sel [0, 3, 4, 5] rfl (by decide)).subT [] (by simp)
        · walk_at "k"
          refine ⟨_, _, _, _, rfl, ?_, N'⟩
          rw [nxt]
          unfold oLet
          rw [if_neg (fun q => c2 q.2)]
      · have c1 := of_decide_eq_false c1
        walk_at "k"
        refine ⟨_, _, _, _, rfl, ?_, N'⟩
        rw [nxt]
        unfold oLet
        rw [if_neg (fun q => c1 q.1)]
    · rintro σ H' ⟨a, b, fd, fk, rfl, hfk, N'⟩
      rw [List.length_map, List.take_length] at hfk
      have hfk : fk = s.cameF zs := hfk
      subst hfk
      have fkl : (s.cameF zs).length ≤ 80 := by
        have := oFold_len hrow zs []
        unfold OS.cameF
        simp at this
        omega
      walk_at "k"
      rename_i np H3 N3
      refine g_dputS0 (N3.sel [2, 3, 1, 0, 4] (l' := ⟨true, o, .dK (kvO s.room s.wait s.many rl sl)⟩ :: ⟨true, rl, .lst rv⟩ :: ⟨true, fd, .lst ((s.cameF zs).map V.int)⟩ :: ⟨true, np, .lst (s.sure.map V.int ++ (s.cameF zs).map V.int)⟩ :: ⟨true, sl, .lst (s.sure.map V.int)⟩ :: []) rfl (by decide))
        (Nat.le_of_ble_eq_true rfl) (kvs' := kvO s.room s.wait s.many rl np) rfl fun H6 N6 => ?_
      walk_at "k"
      refine g_sortL N6 (.of (N6.cell 2 rfl)) fun l H7 ys hp hs N7 => ?_
      have e : s.sure.map V.int ++ (s.cameF zs).map V.int = (s.came zs).sure.map V.int := by
        rw [← List.map_append]
        rfl
      rw [e] at N7
      have N8 := N7.sel [1, 2, 4] (l' := oC o rl np (s.came zs) rv) rfl (by decide)
      have lM : l ∉ (oC o rl sl s rv).map Cel.a := by
        intro m
        refine (List.nodup_cons.mp N7.nd).1 ?_
        have m : l = o ∨ l = rl ∨ l = sl := by simpa using m
        show l ∈ [o, rl, fd, np, sl]
        rcases m with e | e | e <;> simp [e]
      exact k np l ys H7 ((N7.ow ⟨true, l, _⟩ List.mem_cons_self rfl).resolve_left lM) (Now.done N8 (by simp)) (N7.cell 0 rfl) hp hs
end
/-! ### the load and the law's book agree -/
structure LRel (s : LS) (t : OS) : Prop where
  room : s.room = t.room
  wait : s.wait = t.wait
  many : s.many = t.many
  rows : s.rows = t.rows
  wf : LWf s
  hr : 1 ≤ s.room ∧ s.room ≤ 8
  hw : 1 ≤ s.wait ∧ s.wait ≤ 20
  keys : s.lat.map (·.1) = ((List.range t.many).map fun (k : Nat) => (k : Int)).filter fun n => decide (n ∉ t.sure)
  last : ∀ q ∈ s.lat, q.2 = (lettersOf t.rows q.1 t.rows.length).getLast?
  sure : t.sure.Nodup ∧ ∀ n ∈ t.sure, 0 ≤ n ∧ n < t.many
  inr : ∀ row ∈ t.rows, ∀ n ∈ row, 0 ≤ n ∧ n < (t.many : Int)
theorem letters_pre (rows : List (List Int)) (f : List Int) (p : Int) : ∀ k, k ≤ rows.length → lettersOf (rows ++ [f]) p k = lettersOf rows p k
  | 0, _ => rfl
  | k + 1, h => by
    have ih := letters_pre rows f p k (by omega)
    have e : (rows ++ [f]).getD k [] = rows.getD k [] := by
      rw [List.getD_eq_getElem?_getD, List.getD_eq_getElem?_getD, List.getElem?_append_left (by omega)]
    rw [lettersOf, lettersOf, e, ih]
theorem letters_none {rows : List (List Int)} {p : Int} (h : ∀ row ∈ rows, p ∉ row) : ∀ k, lettersOf rows p k = []
  | 0 => rfl
  | k + 1 => by
    have ih := letters_none h k
    rw [lettersOf, ih]
    by_cases lt : k < rows.length
    · have e : rows.getD k [] = rows[k] := by rw [List.getD_eq_getElem?_getD, List.getElem?_eq_getElem lt]; rfl
      rw [e, if_neg (h _ (List.getElem_mem lt))]
    · have e : rows.getD k [] = [] := by rw [List.getD_eq_getElem?_getD, List.getElem?_eq_none (by omega)]; rfl
      rw [e, if_neg (by simp)]
theorem lrel_start {room wait : Int} (hr : 1 ≤ room ∧ room ≤ 8) (hw : 1 ≤ wait ∧ wait ≤ 20) : LRel ⟨room, wait, [], [], 0⟩ ⟨room, wait, 0, [], []⟩ where
  room := rfl
  wait := rfl
  many := rfl
  rows := rfl
  wf := ⟨List.Pairwise.nil, by simp, by simp, by simp, by simp⟩
  hr := hr
  hw := hw
  keys := rfl
  last := by simp
  sure := by simp
  inr := by simp
def OS.put (t : OS) : OS := { t with many := t.many + 1 }
theorem lrel_put {s : LS} {t : OS} (h : LRel s t) (hm : s.many < 1000) : LRel s.put t.put where
  room := h.room
  wait := h.wait
  many := congrArg (· + 1) h.many
  rows := h.rows
  wf := put_wf h.wf hm
  hr := h.hr
  hw := h.hw
  keys := by
    show (s.lat ++ [((s.many : Int), none)]).map (fun q : Int × Option Int => q.1) = ((List.range (t.many + 1)).map fun (k : Nat) => (k : Int)).filter fun n => decide (n ∉ t.sure)
    rw [List.map_append, h.keys, List.range_succ, List.map_append, List.filter_append, h.many]
    congr 1
    rw [List.map_cons, List.map_nil, List.map_cons, List.map_nil, List.filter_cons_of_pos]
    · rfl
    · have : ((t.many : Nat) : Int) ∉ t.sure := fun m => by
        have := (h.sure.2 _ m).2
        omega
      simpa using this
  last := fun q hq => by
    rcases List.mem_append.mp hq with hq | hq
    · exact h.last q hq
    · have e : q = ((s.many : Int), none) := by simpa using hq
      subst e
      show none = (lettersOf t.rows s.many t.rows.length).getLast?
      rw [letters_none fun row hrow m => by
        have := (h.inr row hrow _ m).2
        rw [h.many] at this
        omega]
      rfl
  sure := ⟨h.sure.1, fun n hn => by
    have := h.sure.2 n hn
    show 0 ≤ n ∧ n < ((t.many + 1 : Nat) : Int)
    omega⟩
  inr := fun row hrow n hn => by
    have := h.inr row hrow n hn
    show 0 ≤ n ∧ n < ((t.many + 1 : Nat) : Int)
    omega
theorem loop_take (t : OS) (h : 0 ≤ t.room) : ∀ i, t.loop i = (((List.range i).map fun (k : Nat) => (k : Int)).filter (okP t)).take t.room.toNat
  | 0 => by simp [OS.loop]
  | i + 1 => by
    have ih := loop_take t h i
    rw [OS.loop, List.range_succ, List.map_append, List.filter_append]
    by_cases c : okP t (i : Int) = true
    · rw [List.map_cons, List.map_nil, List.filter_cons_of_pos c, List.filter_nil, List.take_append, ← ih]
      by_cases d : ((t.loop i).length : Int) < t.room
      · rw [if_pos ⟨c, d⟩]
        congr 1
        have e : (((List.range i).map fun (k : Nat) => (k : Int)).filter (okP t)).length < t.room.toNat := by
          rw [ih, List.length_take] at d
          omega
        rw [List.take_of_length_le]
        simp
        omega
      · rw [if_neg (fun z => d z.2)]
        have e : t.room.toNat ≤ (((List.range i).map fun (k : Nat) => (k : Int)).filter (okP t)).length := by
          rw [ih, List.length_take] at d
          omega
        rw [Nat.sub_eq_zero_of_le e, List.take_zero, List.append_nil]
    · rw [if_neg (fun z => c z.1), ih, List.map_cons, List.map_nil, List.filter_cons_of_neg c, List.filter_nil, List.append_nil]
theorem due_far {s : LS} {t : OS} (h : LRel s t) {q : Int × Option Int} (hq : q ∈ s.lat) : due s q.2 = decide (farOf t.rows q.1 ≥ t.wait) := by
  have e := h.last q hq
  unfold farOf
  rw [← e]
  have hw := h.hw
  have w := h.wait
  have r := h.rows
  cases q.2 with
  | none =>
    show true = decide ((99 : Int) ≥ t.wait)
    rw [decide_eq_true (show (99 : Int) ≥ t.wait by omega)]
  | some k =>
    show decide ((s.rows.length : Int) - k ≥ s.wait) = decide ((t.rows.length : Int) - k ≥ t.wait)
    rw [r, w]
theorem found_eq {s : LS} {t : OS} (h : LRel s t) : s.found = t.found := by
  unfold LS.found OS.found
  rw [loop_take t (by have := h.hr; have := h.room; omega), h.room]
  congr 1
  have e1 : (s.lat.filter fun p => due s p.2) = s.lat.filter fun p => decide (farOf t.rows p.1 ≥ t.wait) := List.filter_congr fun q hq => due_far h hq
  have e2 : (s.lat.filter fun p => decide (farOf t.rows p.1 ≥ t.wait)).map (·.1) = (s.lat.map (·.1)).filter fun n => decide (farOf t.rows n ≥ t.wait) := by
    rw [List.filter_map]
    rfl
  rw [e1, e2, h.keys, List.filter_filter]
  refine List.filter_congr fun n _ => ?_
  unfold okP
  by_cases a : n ∈ t.sure <;> by_cases b : farOf t.rows n ≥ t.wait <;> simp [a, b]
theorem found_in {s : LS} {t : OS} (h : LRel s t) : ∀ n ∈ t.found, 0 ≤ n ∧ n < (t.many : Int) := fun n hn => by
  rw [← found_eq h] at hn
  obtain ⟨q, hq, rfl⟩ := List.mem_map.mp (found_key hn)
  have := h.wf.2.1 q hq
  rw [← h.many]
  exact this
theorem lrel_fill {s : LS} {t : OS} (h : LRel s t) (hl : s.rows.length < 1000) : LRel s.fill t.fill where
  room := h.room
  wait := h.wait
  many := h.many
  rows := by
    show s.rows ++ [s.found] = t.rows ++ [t.found]
    rw [h.rows, found_eq h]
  wf := fill_wf h.wf h.hr.2 hl
  hr := h.hr
  hw := h.hw
  keys := by
    rw [← latI_all, latI_keys]
    exact h.keys
  last := fun q hq => by
    obtain ⟨p, hp, e⟩ := List.mem_map.mp hq
    have l0 := h.last p hp
    have key : lettersOf (t.rows ++ [t.found]) p.1 (t.rows.length + 1) = if p.1 ∈ t.found then lettersOf t.rows p.1 t.rows.length ++ [(t.rows.length : Int)] else lettersOf t.rows p.1 t.rows.length := by
      have e : (t.rows ++ [t.found]).getD t.rows.length [] = t.found := by
        rw [List.getD_eq_getElem?_getD, List.getElem?_append_right (Nat.le_refl _), Nat.sub_self]
        rfl
      rw [lettersOf, e, letters_pre _ _ _ _ (Nat.le_refl _)]
    have len : t.fill.rows.length = t.rows.length + 1 := by
      show (t.rows ++ [t.found]).length = _
      rw [List.length_append]
      rfl
    rw [len]
    show q.2 = (lettersOf (t.rows ++ [t.found]) q.1 (t.rows.length + 1)).getLast?
    rw [found_eq h] at e
    by_cases c : p.1 ∈ t.found
    · rw [if_pos c] at e
      subst e
      show some (s.rows.length : Int) = (lettersOf (t.rows ++ [t.found]) p.1 (t.rows.length + 1)).getLast?
      rw [key, if_pos c, h.rows]
      simp
    · rw [if_neg c] at e
      subst e
      rw [key, if_neg c]
      exact l0
  sure := h.sure
  inr := fun row hrow n hn => by
    rcases List.mem_append.mp hrow with q | q
    · exact h.inr row q n hn
    · have e : row = t.found := by simpa using q
      subst e
      exact found_in h n hn
theorem key_iff {s : LS} {t : OS} (h : LRel s t) {n : Int} (hn : 0 ≤ n ∧ n < t.many) : n ∈ s.lat.map (·.1) ↔ n ∉ t.sure := by
  rw [h.keys, List.mem_filter]
  constructor
  · intro z
    simpa using z.2
  · intro z
    refine ⟨List.mem_map.mpr ⟨n.toNat, List.mem_range.mpr (by omega), by omega⟩, by simpa using z⟩
theorem cRow_eq {s : LS} {t : OS} (h : LRel s t) : ∀ (row fk : List Int), row.Nodup → (∀ n ∈ row, 0 ≤ n ∧ n < (t.many : Int)) → cRow s fk row = fk ++ row.filter fun n => decide (n ∉ t.sure ++ fk)
  | [], fk, _, _ => by simp [cRow]
  | n :: row, fk, nd, hb => by
    obtain ⟨nd1, nd2⟩ := List.nodup_cons.mp nd
    have hk := key_iff h (hb n List.mem_cons_self)
    have ih := fun fk' => cRow_eq h row fk' nd2 fun m hm => hb m (List.mem_cons_of_mem _ hm)
    have e : cRow s fk (n :: row) = cRow s (if n ∈ s.lat.map (·.1) then ins fk n else fk) row := rfl
    rw [e, ih]
    by_cases c : n ∈ t.sure
    · rw [if_neg (fun z => hk.mp z c), List.filter_cons_of_neg (by simp [c])]
    · rw [if_pos (hk.mpr c)]
      unfold ins
      by_cases d : n ∈ fk
      · rw [if_pos d, List.filter_cons_of_neg (by simp [d])]
      · rw [if_neg d, List.filter_cons_of_pos (by simp [c, d]), List.append_assoc]
        congr 1
        show n :: _ = n :: _
        congr 1
        refine List.filter_congr fun m hm => ?_
        have ne : m ≠ n := fun z => nd1 (z ▸ hm)
        simp [ne]
theorem cameF_eq {s : LS} {t : OS} (h : LRel s t) (zs : List Int) : s.cameF zs = t.cameF zs := by
  unfold LS.cameF OS.cameF
  suffices ∀ fk, zs.foldl (cLet s) fk = zs.foldl (oLet t) fk from this []
  intro fk
  induction zs generalizing fk with
  | nil => rfl
  | cons z zs ih =>
    rw [List.foldl_cons, List.foldl_cons]
    have e : cLet s fk z = oLet t fk z := by
      unfold cLet oLet
      rw [h.rows]
      by_cases c : 0 ≤ z ∧ z < (t.rows.length : Int)
      · rw [if_pos c, if_pos c]
        have lt : z.toNat < t.rows.length := by omega
        have eg : t.rows.getD z.toNat [] = t.rows[z.toNat] := by rw [List.getD_eq_getElem?_getD, List.getElem?_eq_getElem lt]; rfl
        rw [eg]
        have mem := List.getElem_mem lt
        exact cRow_eq h _ _ (h.wf.2.2.2.2 _ (by rw [h.rows]; exact mem)).2 (h.inr _ mem)
      · rw [if_neg c, if_neg c]
    rw [e]
    exact ih _
theorem lrel_came {s : LS} {t : OS} (h : LRel s t) (zs : List Int) : LRel (s.came zs) (t.came zs) where
  room := h.room
  wait := h.wait
  many := h.many
  rows := h.rows
  wf := came_wf h.wf zs
  hr := h.hr
  hw := h.hw
  keys := by
    show (s.lat.filter fun p => decide (p.1 ∉ s.cameF zs)).map (·.1) = ((List.range t.many).map fun (k : Nat) => (k : Int)).filter fun n => decide (n ∉ t.sure ++ t.cameF zs)
    have e : (s.lat.filter fun p => decide (p.1 ∉ s.cameF zs)).map (·.1) = (s.lat.map (·.1)).filter fun n => decide (n ∉ s.cameF zs) := by
      rw [List.filter_map]
      rfl
    rw [e, h.keys, List.filter_filter, cameF_eq h]
    refine List.filter_congr fun n _ => ?_
    by_cases a : n ∈ t.sure <;> by_cases b : n ∈ t.cameF zs <;> simp [a, b]
  last := fun q hq => h.last q (List.mem_filter.mp hq).1
  sure := by
    have ok := cameF_ok s zs
    rw [cameF_eq h] at ok
    have inb : ∀ n ∈ t.cameF zs, 0 ≤ n ∧ n < (t.many : Int) := fun n hn => by
      obtain ⟨q, hq, rfl⟩ := List.mem_map.mp (ok.2 n hn)
      have := h.wf.2.1 q hq
      rw [← h.many]
      exact this
    refine ⟨?_, fun n hn => ?_⟩
    · show (t.sure ++ t.cameF zs).Nodup
      rw [List.nodup_append]
      refine ⟨h.sure.1, ok.1, fun a ha b hb => ?_⟩
      rintro rfl
      exact (key_iff h (h.sure.2 a ha)).mp (ok.2 a hb) ha
    · rcases List.mem_append.mp hn with z | z
      · exact h.sure.2 n z
      · exact inb n z
  inr := h.inr
theorem sure_len {s : LS} {t : OS} (h : LRel s t) : t.sure.length ≤ t.many := by
  have := nd_len (a := t.sure) (b := (List.range t.many).map fun (k : Nat) => (k : Int)) h.sure.1 fun n hn => by
    have := h.sure.2 n hn
    exact List.mem_map.mpr ⟨n.toNat, List.mem_range.mpr (by omega), by omega⟩
  rwa [List.length_map, List.length_range] at this
/-! ### the law -/
structure Sd where
  (tp p dx dl rl o orl osl : Addr)
  s : LS
  t : OS
  (rv orv : List V)
abbrev Sd.cells (C : Addr) (e : Sd) : List Cel := lC C e.p e.dx e.dl e.rl e.s e.rv ++ oC e.o e.orl e.osl e.t e.orv
structure SdOk (H : Hp) (n : Nat) (e : Sd) : Prop where
  rel : LRel e.s e.t
  r1 : Rows H e.rv e.s.rows
  r2 : Rows H e.orv e.t.rows
  many : e.t.many ≤ n
  rows : e.t.rows.length ≤ n
theorem SdOk.keep {M : List Addr} {H H' : Hp} {n : Nat} {e : Sd} (h : SdOk H n e) (A : Aft M H H') : SdOk H' n e :=
  ⟨h.rel, Paired.mapP h.r1 fun a b ⟨c, e, q⟩ => ⟨c, e, A.t _ _ q⟩, Paired.mapP h.r2 fun a b ⟨c, e, q⟩ => ⟨c, e, A.t _ _ q⟩, h.many, h.rows⟩
theorem SdOk.up {H : Hp} {n m : Nat} {e : Sd} (h : SdOk H n e) (hm : n ≤ m) : SdOk H m e := ⟨h.rel, h.r1, h.r2, Nat.le_trans h.many hm, Nat.le_trans h.rows hm⟩
abbrev Sd.tup (e : Sd) : Addr × List V := (e.tp, [.ref e.p, .ref e.o])
def Fresh (e : Sd) : Prop := LRel e.s e.t ∧ e.rv = [] ∧ e.orv = [] ∧ e.t.rows = [] ∧ e.t.many = 0
theorem Fresh.ok {H : Hp} {e : Sd} (h : Fresh e) : SdOk H 0 e := by
  obtain ⟨h1, h2, h3, h4, h5⟩ := h
  refine ⟨h1, ?_, ?_, by omega, by rw [h4]; exact Nat.le_refl 0⟩
  · rw [h2, h1.rows, h4]; exact .nil
  · rw [h3, h4]; exact .nil
theorem Now.rebase {K : PySem.W.Frag} {d : Addr} {M : List Addr} {H0 H : Hp} {l : List Cel} {ts : List (Addr × List V)} (N : Now K (some d) M H0 H l ts) : Now K (some d) (d :: l.map Cel.a) H H l ts :=
  .start N.nd (fun c hc => ⟨N.at_ c hc, N.mu c hc, fun _ => List.mem_cons_of_mem _ (List.mem_map.mpr ⟨c, hc, rfl⟩)⟩) N.tp fun e he => by
    cases he
    obtain ⟨h1, h2, h3⟩ := N.dc d rfl
    exact ⟨h1, List.mem_cons_self, h3⟩
/-- the two sides stand -/
structure Two (K : PySem.W.Frag) (C d sl : Addr) (H : Hp) (n m : Nat) (xs : List V) (e e' : Sd) : Prop where
  N : Now K (some d) (d :: (⟨true, sl, .lst xs⟩ :: (e.cells C ++ e'.cells C)).map Cel.a) H H (⟨true, sl, .lst xs⟩ :: (e.cells C ++ e'.cells C)) [e.tup, e'.tup]
  xs : xs = [.ref e.tp, .ref e'.tp] ∨ xs = [.ref e'.tp, .ref e.tp]
  s : SdOk H n e
  s' : SdOk H m e'
section
variable {K : PySem.W.Frag} {C d sl : Addr} {H0 H H' : Hp} {n m : Nat} {xs : List V} {e e' : Sd} {x : V}
theorem Two.swap (h : Two K C d sl H n m xs e e') : Two K C d sl H m n xs e' e where
  N := ((h.N.sel [0, 7, 8, 9, 10, 11, 12, 1, 2, 3, 4, 5, 6] (l' := ⟨true, sl, .lst xs⟩ :: (e'.cells C ++ e.cells C)) rfl (by decide)).subT _ (by simp)).rebase
  xs := h.xs.symm
  s := h.s'
  s' := h.s
theorem Two.up {n' m' : Nat} (h : Two K C d sl H n m xs e e') (h1 : n ≤ n') (h2 : m ≤ m') : Two K C d sl H n' m' xs e e' := ⟨h.N, h.xs, h.s.up h1, h.s'.up h2⟩
theorem Two.mk' {M : List Addr} (N : Now K (some d) M H0 H (⟨true, sl, .lst xs⟩ :: (e.cells C ++ e'.cells C)) [e.tup, e'.tup]) (hx : xs = [.ref e.tp, .ref e'.tp] ∨ xs = [.ref e'.tp, .ref e.tp]) (h1 : SdOk H n e) (h2 : SdOk H m e') : Two K C d sl H n m xs e e' := ⟨N.rebase, hx, h1, h2⟩
theorem Two.pure (h : Two K C d sl H n m xs e e') (A : Aft [] H H') : Two K C d sl H' n m xs e e' := .mk' (h.N.pure A) h.xs (h.s.keep A) (h.s'.keep A)
theorem Two.next {E : XK} {Q : VK} {z : Int} (h : Two K C d sl H n m xs e e') (hz : 0 < z ∧ z < 1073741824) (q : ∀ v H', Two K C d sl H' n m xs e e' → 0 ≤ v → v < z → Q (.int v) H') : spNext K [.ref d, .int z] H Q E :=
  ⟨d, z, rfl, (h.N.dc d rfl).1, hz.1, hz.2, fun v H' A hd h0 h1 => q v H' (.mk' (h.N.roll A hd) h.xs (h.s.keep A) (h.s'.keep A)) h0 h1⟩
/-- what the three ways tell, and what is due -/
inductive Way (K : PySem.W.Frag) (C d sl : Addr) (n : Nat) (H : Hp) : V → V → Prop
  | int {xs : List V} {e e' : Sd} (z : Int) (T : Two K C d sl H n n xs e e') : Way K C d sl n H (.int z) (.int z)
  | tup {xs : List V} {e e' : Sd} (t u : Addr) (ns : List Int) (T : Two K C d sl H n n xs e e') (h1 : H t = some (.tup (ns.map V.int))) (h2 : H u = some (.tup (ns.map V.int))) (hl : ns.length ≤ 10000) : Way K C d sl n H (.ref t) (.ref u)
  | lst {xs : List V} {e e' : Sd} {M : List Addr} {H0 : Hp} (t u : Addr) (ns : List Int) (N : Now K (some d) M H0 H (⟨true, t, .lst (ns.map V.int)⟩ :: ⟨true, sl, .lst xs⟩ :: (e.cells C ++ e'.cells C)) [e.tup, e'.tup]) (hx : xs = [.ref e.tp, .ref e'.tp] ∨ xs = [.ref e'.tp, .ref e.tp])
      (s : SdOk H n e) (s' : SdOk H n e') (h2 : H u = some (.lst (ns.map V.int))) (hl : ns.length ≤ 10000) : Way K C d sl n H (.ref t) (.ref u)
theorem Two.len (h : Two K C d sl H n m xs e e') : xs.length = 2 := by rcases h.xs with e | e <;> rw [e] <;> rfl
theorem Two.pick {i : Nat} (h : Two K C d sl H n n xs e e') (hx : xs[i]? = some x) : ∃ f f', x = .ref f.tp ∧ Two K C d sl H n n xs f f' := by
  have mem := List.mem_of_getElem? hx
  have : x = .ref e.tp ∨ x = .ref e'.tp := by rcases h.xs with z | z <;> rw [z] at mem <;> simp at mem <;> rcases mem with y | y <;> simp [y]
  rcases this with z | z
  · exact ⟨e, e', z, h⟩
  · exact ⟨e', e, z, h.swap⟩
end
theorem two_of {α : Type} : ∀ {l : List α}, l.length = 2 → ∃ a b, l = [a, b]
  | [a, b], _ => ⟨a, b, rfl⟩
theorem perm3 {α : Type} {A B F : List α} {x : α} : (A ++ (B ++ (x :: F))).Perm (x :: (F ++ (B ++ A))) := by
  rw [← List.append_assoc]
  refine List.perm_append_comm.trans ?_
  exact List.Perm.cons _ (List.Perm.append_left _ List.perm_append_comm)
/-- the names' places: the first three are told -/
def L3 (a b c : V) (σ : L2.St) : Prop := ∃ x3 x4 x5 x6 x7 x8 x9 x10 x11 x12 x13 x14 x15 x16 x17, σ = [some a, some b, some c, x3, x4, x5, x6, x7, x8, x9, x10, x11, x12, x13, x14, x15, x16, x17]
section
variable {P : Program} {w : World} {K : PySem.W.Frag} {mg : Str → Option Value} {base : Heap} {C : Addr}
abbrev s_law : Stmt := top 13
theorem sc_law : FnScope ["_law_script", "_law_d", "_law_sides", "_law_k", "_law_room", "_law_wait", "_law_turn", "_law_load", "_law_own", "_law_way", "_law_found", "_law_due", "_law_letters", "_law_handed", "_law_one", "_law_other", "_law_waits", "_law_piece"] ["_law_script"] (defScope s_law) := ⟨rfl, rfl, rfl, by decide +kernel, rfl, by decide +kernel, by decide +kernel⟩
theorem bd_law : Bd "law" "law" s_law ["_law_script"] := fun _ _ _ _ _ _ us hl => match us, hl with | [_], _ => rfl
def spLaw (K : PySem.W.Frag) : Sp := fun vs H Q _ => ∃ (a : Addr) (ns : List Int), vs = [.ref a] ∧ Scr K H a (ns.map V.int) ∧ ns.length ≤ 63 ∧ ∀ H', Q (.bl true) H'
theorem ok_law {f : Addr} {fd : FuncData} (F : FunD K "law" "law" (defArgs s_law) (defBody s_law) (defScope s_law) [] [] f fd) (B : Bt mg) (T : LTx K C) (c_Load : CalC P w K mg base CX0 C 1 "Load" ["self", "room", "wait"] (spLInit C)) (c_Load_put : CalM P w K mg base CX0 C 1 "put" ["self"] (spPut K C))
    (c_Load_waits : CalM P w K mg base CX0 C 1 "waits" ["self"] (spWaits K C)) (c_Load_fill : CalM P w K mg base CX0 C 2 "fill" ["self"] (spFill K C)) (c_Load_came : CalM P w K mg base CX0 C 1 "came" ["self", "letters"] (spCame K C))
    (c_l_dice : Cal P w K mg base CX0 1 "_law_dice" ["_law_script"] (spDice K)) (c_l_next : Cal P w K mg base CX0 1 "_law_next" ["_law_dice_here", "_law_many"] (spNext K)) (c_l_like : Cal P w K mg base CX0 5 "_law_like" ["_law_found", "_law_due"] (spLike K 4))
    (c_l_fill : Cal P w K mg base CX0 1 "_law_fill" ["_law_own"] (spOFill K)) (c_l_came : Cal P w K mg base CX0 1 "_law_came" ["_law_own", "_law_letters"] (spOCame K)) : FnOk P w K mg base CX0 12 f fd ["_law_script"] (spLaw K) := by
  refine F.ok sc_law (fun vs H Q E h => ?_) (fun cdv A outer s H vs Q E hr h => ?_)
  · obtain ⟨a, ns, rfl, _⟩ := h
    rfl
  · obtain ⟨a, ns, rfl, hS, hl, k⟩ := h
    obtain ⟨cl_Load, n1, n2, n3, n4, n5⟩ := T
    refine ⟨_, PSs.nox (pss_cons (ps_set (i := 1) sc_law.nd rfl (by first | exact Or.inl rfl | exact Or.inr rfl) (pe_cal c_l_dice (hr.mono (by decide)) pass0 (pa_cons (pv 0) pa_nil)))
      (pss_cons (ps_set (i := 2) sc_law.nd rfl (by first | exact Or.inl rfl | exact Or.inr rfl) (pe_lst pa_nil))
      (pss_cons (ps_for PassesOwn.never rfl (pi_range1 (by rfl) B.m_range (pa_cons pe_int pa_nil)) (pg_name (i := 3) sc_law.nd rfl (by first | exact Or.inl rfl | exact Or.inr rfl))
      (pss_cons (ps_par (i := 4) (j := 5) rfl sc_law.nd rfl rfl (by decide) rfl rfl (pa_cons (pe_op op_add pe_int (pe_cal c_l_next (hr.mono (by decide)) pass0 (pa_cons (pv 1) (pa_cons pe_int pa_nil)))) (pa_cons (pe_op op_add pe_int (pe_ix (ix_listK K rfl) (pe_lst (pa_cons (pe_cal c_l_next (hr.mono (by decide)) pass0 (pa_cons (pv 1) (pa_cons pe_int pa_nil))) (pa_cons (pe_cal c_l_next (hr.mono (by decide)) pass0 (pa_cons (pv 1) (pa_cons pe_int pa_nil))) pa_nil))) (pe_cal c_l_next (hr.mono (by decide)) pass0 (pa_cons (pv 1) (pa_cons pe_int pa_nil))) (fun _ _ => rfl))) pa_nil)) (by rfl))
      (pss_one (ps_expr (pe_bmK K rfl PySem.F.plainAttrs_list PySem.F.slot_list_append PySem.F.type_list_append mt_append (pv 2) (pa_cons (pe_tup (pa_cons (pe_calC c_Load (hr.mono (by decide)) pass0 (pa_cons (pv 4) (pa_cons (pv 5) pa_nil))) (pa_cons (pe_disp (pps_cons pe_str (pv 4) (pps_cons pe_str (pv 5) (pps_cons pe_str pe_int (pps_cons pe_str (pe_lst pa_nil) (pps_cons pe_str (pe_lst pa_nil) pps_nil))))) (by rfl) (by rfl) (fun z => by cases z) (by decide)) pa_nil))) pa_nil))))))
      (pss_cons (ps_for PassesOwn.never rfl (pi_range1 (by rfl) B.m_range (pa_cons (pe_cal c_l_next (hr.mono (by decide)) pass0 (pa_cons (pv 1) (pa_cons pe_int pa_nil))) pa_nil)) (pg_name (i := 6) sc_law.nd rfl (by first | exact Or.inl rfl | exact Or.inr rfl))
      (pss_cons (ps_asg (pe_ix (ix_listK K rfl) (pv 2) (pe_cal c_l_next (hr.mono (by decide)) pass0 (pa_cons (pv 1) (pa_cons pe_int pa_nil))) (fun _ _ => rfl)) (pg_tup rfl (pgs_cons (pg_name (i := 7) sc_law.nd rfl (by first | exact Or.inl rfl | exact Or.inr rfl)) (pgs_cons (pg_name (i := 8) sc_law.nd rfl (by first | exact Or.inl rfl | exact Or.inr rfl)) pgs_nil))))
      (pss_cons (ps_set (i := 9) sc_law.nd rfl (by first | exact Or.inl rfl | exact Or.inr rfl) (pe_cal c_l_next (hr.mono (by decide)) pass0 (pa_cons (pv 1) (pa_cons pe_int pa_nil))))
      (pss_cons (ps_if (pt_cmpR op_lt (pv 9) pe_int (nomark _)) (pss_cons (ps_dput (hu_of hr) (pv 8) pe_str (pe_op op_add (pe_dget (hu_of hr) (pv 8) pe_str (fun _ _ => rfl)) pe_int) rfl)
      (pss_one (ps_par (i := 10) (j := 11) rfl sc_law.nd rfl rfl (by decide) rfl rfl (pa_cons (pe_calM0 (pv 7) cl_Load c_Load_put (hr.mono (by decide)) pass0) (pa_cons (pe_op op_sub (pe_dget (hu_of hr) (pv 8) pe_str (fun _ _ => rfl)) pe_int) pa_nil)) (by rfl)))) (pss_one (ps_if (pt_cmpR op_lt (pv 9) pe_int (nomark _)) (pss_one (ps_par (i := 10) (j := 11) rfl sc_law.nd rfl rfl (by decide) rfl rfl (pa_cons (pe_calM0 (pv 7) cl_Load c_Load_fill (hr.mono (by decide)) pass0) (pa_cons (pe_cal c_l_fill (hr.mono (by decide)) pass0 (pa_cons (pv 8) pa_nil)) pa_nil)) (by rfl))) (pss_cons (ps_setLc (i := 12) (own := [("_law_k", 3)]) (g := (gName 3)) rfl sc_law.nd rfl rfl (sw_true rfl rfl rfl (by decide +kernel)) (pi_range1 (by rfl) B.m_range (pa_cons (pe_cal c_l_next (hr.mono (by decide)) pass0 (pa_cons (pv 1) (pa_cons pe_int pa_nil))) pa_nil)) (blkOk_by (own := [("_law_k", 3)]) (N := ["_law_script", "_law_d", "_law_sides", "_law_k", "_law_room", "_law_wait", "_law_turn", "_law_load", "_law_own", "_law_way", "_law_found", "_law_due", "_law_letters", "_law_handed", "_law_one", "_law_other", "_law_waits", "_law_piece"]) (sc := defScope s_law) (by decide +kernel)) (fun _ _ _ _ _ => (pg_name (i := 3) sc_law.nd rfl (by first | exact Or.inl rfl | exact Or.inr rfl))) (fun _ _ _ _ _ => pts_nil) (fun _ _ _ _ _ => (pe_op op_sub (pe_cal c_l_next (hr.mono (by decide)) pass0 (pa_cons (pv 1) (pa_cons (pe_op op_add (pe_callB (cr_lnK K rfl) (by rfl) B.m_len (by decide +kernel) (pa_cons (pe_dget (hu_of hr) (pv 8) pe_str (fun _ _ => rfl)) pa_nil)) pe_int) pa_nil))) pe_int)))
      (pss_cons (ps_set (i := 13) sc_law.nd rfl (by first | exact Or.inl rfl | exact Or.inr rfl) (pe_callTy (cr_lstSK K rfl) (by rfl) B.m_list (by decide +kernel) (pa_cons (pv 12) pa_nil)))
      (pss_cons (ps_par (i := 10) (j := 11) rfl sc_law.nd rfl rfl (by decide) rfl rfl (pa_cons (pe_calM (pv 7) cl_Load c_Load_came (hr.mono (by decide)) pass0 (pa_cons (pv 13) pa_nil)) (pa_cons (pe_cal c_l_came (hr.mono (by decide)) pass0 (pa_cons (pv 8) (pa_cons (pv 12) pa_nil))) pa_nil)) (by rfl))
      (pss_one (ps_if (pt_cmpR (op_neDK K rfl hr.units) (pv 13) (pv 12) (nomark _)) (pss_one (ps_ret pe_bl)) pss_nil))))))))
      (pss_cons (ps_if (pt_not (pt_val (pe_cal c_l_like (hr.mono (by decide)) pass0 (pa_cons (pv 10) (pa_cons (pv 11) pa_nil))))) (pss_one (ps_ret pe_bl)) pss_nil)
      (pss_cons (ps_if (pt_val (pe_callB (call_isiQ K rfl) (by rfl) B.m_isinstance (by decide +kernel) (pa_cons (pv 10) (pa_cons (pe_bltn (v := .ty "list") (by rfl) B.m_list (by decide +kernel) rfl) pa_nil)))) (pss_one (ps_expr (pe_bmK K rfl PySem.F.plainAttrs_list PySem.F.slot_list_append PySem.F.type_list_append mt_append (pv 10) (pa_cons pe_int pa_nil)))) pss_nil)
      (pss_one (ps_for PassesOwn.never rfl (pi_listK K rfl (pv 2)) (pg_tup rfl (pgs_cons (pg_name (i := 14) sc_law.nd rfl (by first | exact Or.inl rfl | exact Or.inr rfl)) (pgs_cons (pg_name (i := 15) sc_law.nd rfl (by first | exact Or.inl rfl | exact Or.inr rfl)) pgs_nil)))
      (pss_cons (ps_set (i := 16) sc_law.nd rfl (by first | exact Or.inl rfl | exact Or.inr rfl) (pe_calM0 (pv 14) cl_Load c_Load_waits (hr.mono (by decide)) pass0))
      (pss_cons (ps_if (pt_not (pt_val (pe_cal c_l_like (hr.mono (by decide)) pass0 (pa_cons (pv 16) (pa_cons (pe_lc (own := [("_law_piece", 17)]) (g := (gName 17)) rfl sc_law.nd (pi_range1 (by rfl) B.m_range (pa_cons (pe_dget (hu_of hr) (pv 15) pe_str (fun _ _ => rfl)) pa_nil)) (blkOk_by (own := [("_law_piece", 17)]) (N := ["_law_script", "_law_d", "_law_sides", "_law_k", "_law_room", "_law_wait", "_law_turn", "_law_load", "_law_own", "_law_way", "_law_found", "_law_due", "_law_letters", "_law_handed", "_law_one", "_law_other", "_law_waits", "_law_piece"]) (sc := defScope s_law) (by decide +kernel)) (fun _ _ _ _ _ => (pg_name (i := 17) sc_law.nd rfl (by first | exact Or.inl rfl | exact Or.inr rfl))) (fun _ _ _ _ _ => (pts_one (pt_cmpR (op_notIn_seqK K rfl) (pv 17) (pe_dget (hu_of hr) (pv 15) pe_str (fun _ _ => rfl)) (by rfl)))) (fun _ _ _ _ _ => (pv 17))) pa_nil))))) (pss_one (ps_ret pe_bl)) pss_nil)
      (pss_one (ps_expr (pe_bmK K rfl PySem.F.plainAttrs_list PySem.F.slot_list_append PySem.F.type_list_append mt_append (pv 16) (pa_cons pe_int pa_nil))))))))))))))
      (pss_one (ps_ret pe_bl)))))), ?_⟩
    walk_at "go"
    refine ⟨a, ns, rfl, hS, hl, fun d H1 A1 hd D1 => ?_⟩
    have N0 : Now K (some d) [] H H1 [] [] := ⟨by simp, by simp, by simp, by simp, by simp, A1, fun e he => by cases he; exact ⟨D1, .inr hd, by simp⟩⟩
    walk_at "k"
    rename_i sl H2 N2
    refine c_forR (by decide) (fun i σ H' => L3 (.ref a) (.ref d) (.ref sl) σ ∧ ∃ es : List Sd, es.length = i ∧ Now K (some d) [] H H' (⟨true, sl, .lst (es.map fun e => .ref e.tp)⟩ :: es.flatMap (Sd.cells C)) (es.map Sd.tup) ∧ ∀ e ∈ es, Fresh e) ⟨⟨_, _, _, _, _, _, _, _, _, _, _, _, _, _, _, rfl⟩, [], rfl, N2, by simp⟩ ?_ ?_
    · rintro i σ H3 hi ⟨⟨_, _, _, _, _, _, _, _, _, _, _, _, _, _, _, rfl⟩, es, hes, N3, hok⟩
      walk_at "k"
      refine g_next N3 (by decide) fun v1 H4 N4 b1 b2 => ?_
      walk_at "k"
      refine g_next N4 (by decide) fun v2 H5 N5 b3 b4 => ?_
      walk_at "k"
      refine g_next N5 (by decide) fun v3 H6 N6 b5 b6 => ?_
      walk_at "k"
      rename_i pl H7 N7
      refine g_next N7 (by decide) fun v4 H8 N8 b7 b8 => ?_
      obtain ⟨wv, hw, hw0, hw1⟩ : ∃ wv : Int, atI [V.int v2, V.int v3] v4 = some (.int wv) ∧ 0 ≤ wv ∧ wv < 20 := by
        have : v4 = 0 ∨ v4 = 1 := by omega
        rcases this with e | e
        · subst e; exact ⟨v2, rfl, b3, by omega⟩
        · subst e; exact ⟨v3, rfl, b5, b6⟩
      refine g_ixL (xs := [V.int v2, V.int v3]) (.of (N8.cell 0 rfl)) hw ?_
      have N9 := N8.tl
      clear N8
      walk_at "k"
      refine g_make N9 fun x dx H9 hx9 N10 => ?_
      refine ⟨x, dx, 1 + v1, 1 + wv, rfl, N10.cell 0 rfl, by omega, by omega, fun dl rl H10 A10 => ⟨rfl, ?_⟩⟩
      have N11 := Now.call (fp := [⟨true, x, .ins C dx []⟩]) N10 (by simp) A10
      walk_at "k"
      rename_i o H11 N12 orl H12 N13 osl H13 N14
      have N15 : Now K (some d) [] H H13 (⟨true, o, .dK []⟩ :: ⟨true, orl, .lst []⟩ :: ⟨true, osl, .lst []⟩ :: (lC C x dx dl rl ⟨1 + v1, 1 + wv, [], [], 0⟩ [] ++ (⟨true, sl, .lst (es.map fun e => V.ref e.tp)⟩ :: es.flatMap (Sd.cells C)))) (es.map Sd.tup) :=
        N14.perm (by
          refine List.Perm.trans ?_ (List.Perm.cons _ (List.Perm.swap _ _ _))
          refine List.Perm.trans ?_ (List.Perm.swap _ _ _)
          refine List.Perm.cons _ (List.Perm.swap _ _ _))
      refine g_disp0 N15 (kvs := kvO (1 + v1) (1 + wv) 0 orl osl) rfl (Nat.le_of_ble_eq_true rfl) rfl fun H14 N16 => ?_
      walk_at "k"
      rename_i tp H15 N17
      have N18 := N17.perm (l' := ⟨true, sl, .lst (es.map fun e => V.ref e.tp)⟩ :: (es.flatMap (Sd.cells C) ++ Sd.cells C ⟨tp, x, dx, dl, rl, o, orl, osl, ⟨1 + v1, 1 + wv, [], [], 0⟩, ⟨1 + v1, 1 + wv, 0, [], []⟩, [], []⟩))
        (List.Perm.symm (perm3 (A := oC o orl osl ⟨1 + v1, 1 + wv, 0, [], []⟩ []) (B := lC C x dx dl rl ⟨1 + v1, 1 + wv, [], [], 0⟩ [])))
      refine g_app0 N18 (by rw [List.length_map]; omega) fun H16 N19 => ?_
      refine ⟨⟨_, _, _, _, _, _, _, _, _, _, _, _, _, _, _, rfl⟩, es ++ [⟨tp, x, dx, dl, rl, o, orl, osl, ⟨1 + v1, 1 + wv, [], [], 0⟩, ⟨1 + v1, 1 + wv, 0, [], []⟩, [], []⟩], by rw [List.length_append, hes]; rfl, ?_, fun e he => ?_⟩
      · rw [List.map_append, List.flatMap_append, List.flatMap_cons, List.flatMap_nil, List.append_nil]
        refine N19.subT _ fun q hq => ?_
        rw [List.map_append] at hq
        rcases List.mem_append.mp hq with z | z
        · exact List.mem_cons_of_mem _ z
        · cases List.mem_singleton.mp z
          exact List.mem_cons_self
      · rcases List.mem_append.mp he with z | z
        · exact hok e z
        · cases List.mem_singleton.mp z
          exact ⟨lrel_start (by omega) (by omega), rfl, rfl, rfl, rfl⟩
    · rintro σ H3 ⟨⟨_, _, _, _, _, _, _, _, _, _, _, _, _, _, _, rfl⟩, es, hes, N3, hok⟩
      obtain ⟨e, e', rfl⟩ : ∃ e e', es = [e, e'] := two_of hes
      have T0 : Two K C d sl H3 0 0 [.ref e.tp, .ref e'.tp] e e' := ⟨N3.rebase, .inl rfl, (hok _ (by simp)).ok, (hok _ (by simp)).ok⟩
      walk_at "k"
      refine g_next T0.N (by decide) fun nt H4 N4 b1 b2 => ?_
      have T1 : Two K C d sl H4 0 0 [.ref e.tp, .ref e'.tp] e e' := ⟨N4.rebase, .inl rfl, T0.s.keep N4.af, T0.s'.keep N4.af⟩
      clear N4 N3 T0 hok
      walk_at "k"
      refine c_forR (by omega) (fun i σ H' => L3 (.ref a) (.ref d) (.ref sl) σ ∧ ∃ xs e e', Two K C d sl H' i i xs e e') ⟨⟨_, _, _, _, _, _, _, _, _, _, _, _, _, _, _, rfl⟩, _, _, _, T1⟩ ?_ ?_
      · clear T1
        rintro i σ H3 hi ⟨⟨_, _, _, _, _, _, _, _, _, _, _, _, _, _, _, rfl⟩, xs, e0, e1, T⟩
        walk_at "k"
        refine T.next (by decide) fun v1 H4 T c1 c2 => ?_
        obtain ⟨x, hx⟩ : ∃ x, xs[v1.toNat]? = some x := ⟨_, List.getElem?_eq_getElem (by rw [T.len]; omega)⟩
        obtain ⟨e, e', ex, T⟩ := T.pick hx
        subst ex
        refine g_ixL (xs := xs) (.of (T.N.cell 0 rfl)) (at_of (show v1 = (v1.toNat : Int) by omega) hx) ?_
        refine g_un (.of (T.N.tup 0 rfl)) rfl ?_
        walk_at "k"
        refine T.next (by decide) fun v2 H5 T c3 c4 => ?_
        refine k_gname (k_seq ?_)
        refine k_cut (R := fun σ H' => ∃ x y x3 x4 x5 x6 x7 x8 x9 x12 x13 x14 x15 x16 x17, σ = [some (.ref a), some (.ref d), some (.ref sl), x3, x4, x5, x6, x7, x8, x9, some x, some y, x12, x13, x14, x15, x16, x17] ∧ Way K C d sl (i + 1) H' x y) ?_ ?_
        · rintro σ H6 ⟨x, y, _, _, _, _, _, _, _, _, _, _, _, _, _, rfl, W⟩
          refine k_cut3 (R := fun σ H' => L3 (.ref a) (.ref d) (.ref sl) σ ∧ ∃ xs e e', Two K C d sl H' (i + 1) (i + 1) xs e e') ?_ ?_
          · rintro σ H7 ⟨⟨_, _, _, _, _, _, _, _, _, _, _, _, _, _, _, rfl⟩, xs, e0, e1, T⟩
            walk_at "k"
            refine c_for (xs := xs) (fun j σ H' => L3 (.ref a) (.ref d) (.ref sl) σ ∧ ∃ e e', Two K C d sl H' (i + 1) (i + 1) xs e e') ⟨⟨_, _, _, _, _, _, _, _, _, _, _, _, _, _, _, rfl⟩, e0, e1, T⟩ (fun j σ H' _ ⟨_, _, _, T⟩ => .of (T.N.cell 0 rfl)) ?_ (fun σ H' ⟨h1, e, e', T⟩ => ⟨h1, xs, e, e', T⟩)
            rintro j x σ H8 hx ⟨⟨_, _, _, _, _, _, _, _, _, _, _, _, _, _, _, rfl⟩, e0, e1, T⟩
            obtain ⟨e, e', ex, T⟩ := T.pick hx
            subst ex
            refine g_un (.of (T.N.tup 0 rfl)) rfl ?_
            have N := T.N
            have rel := T.s.rel
            have hm := T.s.many
            walk_at "k"
            refine ⟨e.p, e.dx, e.dl, e.rl, e.s, e.rv, rfl, (N.sel [1, 2, 3] (l' := lC C e.p e.dx e.dl e.rl e.s e.rv) rfl (by decide)).ok, rel.wf, fun l H9 hl A9 hv => ?_⟩
            have N9 := N.fresh A9 hl hv trivial
            walk_at "k"
            refine c_lcR N9 (by omega) (fun k acc => acc = (((List.range k).map fun (k : Nat) => (k : Int)).filter fun n => decide (n ∉ e.t.sure)).map V.int) rfl (fun _ => rfl) (fun k Dd H2 acc hk N2 r => ?_) (fun p H2 acc N2 r => ?_)
            · walk_at "k"
              have nx2 : (((List.range (k + 1)).map fun (k : Nat) => (k : Int)).filter fun n => decide (n ∉ e.t.sure)) = (((List.range k).map fun (k : Nat) => (k : Int)).filter fun n => decide (n ∉ e.t.sure)) ++ ([(k : Int)].filter fun n => decide (n ∉ e.t.sure)) := by
                rw [List.range_succ, List.map_append, List.filter_append]
                rfl
              have la : acc.length ≤ k := by
                rw [r, List.length_map]
                refine Nat.le_trans (List.length_filter_le _ _) ?_
                rw [List.length_map, List.length_range]
                exact Nat.le_refl _
              refine c_el (fun c => ?_) (fun c => ?_)
              · walk_at "k"
                refine c_put N2 (by omega) ?_
                show acc ++ [V.int k] = _
                rw [nx2, r, List.map_append]
                congr 1
                rw [List.filter_cons_of_pos (by simpa using c)]
                rfl
              · refine ⟨acc, N2, ?_⟩
                show acc = _
                rw [nx2, r, List.map_append, List.filter_cons_of_neg (by simpa using c)]
                simp
            · walk_at "k"
              have em : ((e.t.many : Int)).toNat = e.t.many := by omega
              rw [em, ← rel.keys] at r
              subst r
              have kl : (e.s.lat.map (·.1)).length ≤ e.s.many := by
                rw [List.length_map]
                exact lwf_len rel.wf
              have ems : e.s.many = e.t.many := rel.many
              refine g_like (m := 3) (.lst (.of (N2.cell 1 rfl)) (dpa_ints (e.s.lat.map (·.1)))) (.lst (.of (N2.cell 0 rfl)) (dpa_ints _)) (dOk_ints (by omega)).1 fun H3 A3 => ?_
              have N3 := N2.pure A3
              walk_at "k"
              refine g_app1 N3 (by rw [List.length_map]; omega) fun H4 N4 => ?_
              exact ⟨⟨_, _, _, _, _, _, _, _, _, _, _, _, _, _, _, rfl⟩, e, e', .mk' (N4.sel [2, 3, 4, 5, 6, 7, 8, 9, 10, 11, 12, 13, 14] rfl (by decide)) T.xs (T.s.keep N4.af) (T.s'.keep N4.af)⟩
          · intro nx' fin
            cases W with
            | int z T =>
              walk_at "k"
              refine g_like (m := 3) (d := .int z) (.int z) (.int z) trivial fun H7 A7 => ?_
              walk_at "k"
              exact fin _ _ ⟨⟨_, _, _, _, _, _, _, _, _, _, _, _, _, _, _, rfl⟩, _, _, _, T.pure A7⟩
            | tup t u ns T h1 h2 hl =>
              walk_at "k"
              refine g_like (m := 3) (.tup (.of h1) (dpa_ints ns)) (.tup (.of h2) (dpa_ints ns)) (dOk_ints (by omega)).2 fun H7 A7 => ?_
              walk_at "k"
              refine g_isi (a := "tuple") (r := false) (sqt_ty (xs := ns.map V.int) (.of (A7.t _ _ h1))) kb_tl ?_
              walk_at "k"
              exact fin _ _ ⟨⟨_, _, _, _, _, _, _, _, _, _, _, _, _, _, _, rfl⟩, _, _, _, T.pure A7⟩
            | lst t u ns N hx h1 h2 h3 hl =>
              walk_at "k"
              refine g_like (m := 3) (.lst (.of (N.cell 0 rfl)) (dpa_ints ns)) (.lst (.of h3) (dpa_ints ns)) (dOk_ints (by omega)).1 fun H7 A7 => ?_
              have N7 := N.rebase.pure A7
              walk_at "k"
              refine g_isi (a := "list") (r := true) (sql_ty (xs := ns.map V.int) (.of (N7.cell 0 rfl))) kb_ll ?_
              walk_at "k"
              refine g_app0 N7 (by rw [List.length_map]; omega) fun H8 N8 => ?_
              exact fin _ _ ⟨⟨_, _, _, _, _, _, _, _, _, _, _, _, _, _, _, rfl⟩, _, _, _, .mk' N8.tl hx (h1.keep N8.af) (h2.keep N8.af)⟩
        · intro nx' fin
          have N := T.N
          have rel := T.s.rel
          have hm := T.s.many
          have hrw := T.s.rows
          have ers : e.s.rows.length = e.t.rows.length := by rw [rel.rows]
          have ems : e.s.many = e.t.many := rel.many
          walk_at "k"
          refine c_ifd (fun w1 => ?_) (fun w1 => ?_)
          · walk_at "k"
            refine g_dputS0 (N.sel [4, 5, 6, 1, 2, 3, 0, 7, 8, 9, 10, 11, 12] (l' := ⟨true, e.o, .dK (kvO e.t.room e.t.wait e.t.many e.orl e.osl)⟩ :: ⟨true, e.orl, .lst e.orv⟩ :: ⟨true, e.osl, .lst (e.t.sure.map V.int)⟩ :: (lC C e.p e.dx e.dl e.rl e.s e.rv ++ (⟨true, sl, .lst xs⟩ :: e'.cells C))) rfl (by decide))
              (Nat.le_of_ble_eq_true rfl) (kvs' := kvO e.t.room e.t.wait ((e.t.many : Int) + 1) e.orl e.osl) rfl fun H6 N6 => ?_
            walk_at "k"
            refine ⟨e.p, e.dx, e.dl, e.rl, e.s, e.rv, rfl, (N6.sel [3, 4, 5] (l' := lC C e.p e.dx e.dl e.rl e.s e.rv) rfl (by decide)).ok, rel.wf, by omega, fun H7 A7 => ?_⟩
            have N7 := Now.call (fp := lC C e.p e.dx e.dl e.rl e.s e.rv) (r := oC e.o e.orl e.osl e.t.put e.orv ++ (⟨true, sl, .lst xs⟩ :: e'.cells C)) (N6.sel [3, 4, 5, 0, 1, 2, 6, 7, 8, 9, 10, 11, 12] rfl (by decide)) (by simp) A7
            walk_at "k"
            refine fin _ _ ⟨_, _, _, _, _, _, _, _, _, _, _, _, _, _, _, rfl, ?_⟩
            have ez : V.int ((e.t.put.many : Int) - 1) = V.int (e.s.many : Int) := by
              congr 1
              show ((e.t.many + 1 : Nat) : Int) - 1 = _
              omega
            show Way K C d sl (i + 1) H7 (.int (e.s.many : Int)) (.int ((e.t.put.many : Int) - 1))
            rw [ez]
            refine .int (e := { e with s := e.s.put, t := e.t.put }) (e' := e') (xs := xs) _ (.mk' (N7.sel [6, 0, 1, 2, 3, 4, 5, 7, 8, 9, 10, 11, 12] rfl (by decide)) T.xs ?_ ((T.s'.keep N7.af).up (by omega)))
            have k7 := T.s.keep N7.af
            exact ⟨lrel_put rel (by omega), k7.r1, k7.r2, Nat.add_le_add_right hm 1, Nat.le_trans hrw (Nat.le_succ i)⟩
          · walk_at "k"
            refine c_ifd (fun w2 => ?_) (fun w2 => ?_)
            · walk_at "k"
              have k5 := T.s
              refine ⟨e.p, e.dx, e.dl, e.rl, e.s, e.rv, rfl, (N.sel [1, 2, 3] (l' := lC C e.p e.dx e.dl e.rl e.s e.rv) rfl (by decide)).ok, rel.wf, by omega, rel.hr, T.s.r1, fun t u H6 A6 ht hu => ?_⟩
              have N6 := ((Now.call (fp := lC C e.p e.dx e.dl e.rl e.s e.rv) (r := oC e.o e.orl e.osl e.t e.orv ++ (⟨true, sl, .lst xs⟩ :: e'.cells C)) (N.sel [1, 2, 3, 4, 5, 6, 0, 7, 8, 9, 10, 11, 12] rfl (by decide)) (by simp) A6).moreT hu).moreT ht
              walk_at "k"
              refine ⟨e.o, e.orl, e.osl, e.t, e.orv, rfl, (N6.sel [3, 4, 5] (l' := oC e.o e.orl e.osl e.t e.orv) rfl (by decide)).ok, (T.s.keep N6.af).r2, by omega, by omega, fun t2 u2 rl' H7 A7 ht2 hu2 => ?_⟩
              have N7 := (Now.call (fp := oC e.o e.orl e.osl e.t e.orv) (r := lC C e.p e.dx e.dl e.rl e.s.fill (e.rv ++ [.ref u]) ++ (⟨true, sl, .lst xs⟩ :: e'.cells C)) (N6.sel [3, 4, 5, 0, 1, 2, 6, 7, 8, 9, 10, 11, 12] rfl (by decide)) (by simp) A7)
              walk_at "k"
              refine fin _ _ ⟨_, _, _, _, _, _, _, _, _, _, _, _, _, _, _, rfl, ?_⟩
              have ef : e.s.found = e.t.found := found_eq rel
              have fl := found_len (s := e.s) rel.hr.2
              refine .tup (e := { e with s := e.s.fill, t := e.t.fill, rv := e.rv ++ [.ref u], orv := e.orv ++ [.ref u2], orl := rl' }) (e' := e') (xs := xs) t t2 e.s.found (.mk' ((N7.sel [6, 3, 4, 5, 0, 1, 2, 7, 8, 9, 10, 11, 12] rfl (by decide)).subT _ (by simp)) T.xs ?_ ((T.s'.keep N7.af).up (by omega))) (N7.tup 0 rfl) (by rw [ef]; exact ht2) (by omega)
              have k7 := T.s.keep N7.af
              refine ⟨lrel_fill rel (by omega), Paired.snoc k7.r1 ⟨u, rfl, N7.tup 1 rfl⟩, Paired.snoc k7.r2 ⟨u2, rfl, hu2⟩, Nat.le_trans hm (Nat.le_succ i), ?_⟩
              show (e.t.rows ++ [e.t.found]).length ≤ i + 1
              rw [List.length_append]
              exact Nat.add_le_add_right hrw 1
            · walk_at "k"
              refine g_next N (by decide) fun v3 H6 N6 c5 c6 => ?_
              walk_at "k"
              have rlen : e.orv.length = e.t.rows.length := Paired.length T.s.r2
              refine c_lcR N6 (by omega) (fun k acc => ∃ zs : List Int, acc = zs.map V.int ∧ zs.length = k) ⟨[], rfl, rfl⟩ (fun _ => rfl) (fun k Dd H2 acc hk N2 r => ?_) (fun p H7 acc N7 r => ?_)
              · obtain ⟨zs, rfl, hz⟩ := r
                walk_at "k"
                refine g_next N2 (by omega) fun v4 H3 N3 c7 c8 => ?_
                walk_at "k"
                refine c_put N3 (by rw [List.length_map]; omega) ⟨zs ++ [v4 - 1], by rw [List.map_append]; rfl, by rw [List.length_append, hz]; rfl⟩
              · obtain ⟨zs, rfl, hz⟩ := r
                walk_at "k"
                rename_i hd H8 N8
                have nd8 := N8.nd
                have k8 := T.s.keep N8.af
                refine ⟨e.p, e.dx, e.dl, e.rl, hd, e.s, e.rv, zs, rfl, (N8.sel [3, 4, 5] (l' := lC C e.p e.dx e.dl e.rl e.s e.rv) rfl (by decide)).ok, rel.wf, k8.r1, N8.cell 0 rfl, ?_, fun l ys H9 hl A9 hv hp hs => ?_⟩
                · intro m
                  refine (List.nodup_cons.mp nd8).1 ?_
                  have m : hd = e.p ∨ hd = e.dl ∨ hd = e.rl := by simpa using m
                  rcases m with z | z | z <;> simp [z]
                have N8' := N8.sel [3, 4, 5, 0, 1, 2, 6, 7, 8, 9, 10, 11, 12, 13, 14] (l' := lC C e.p e.dx e.dl e.rl e.s e.rv ++ (⟨true, hd, .lst (zs.map V.int)⟩ :: ⟨true, p, .lst (zs.map V.int)⟩ :: ⟨true, sl, .lst xs⟩ :: (oC e.o e.orl e.osl e.t e.orv ++ e'.cells C))) rfl (by decide)
                have N9 := Now.grow N8' (Now.call (fp := lC C e.p e.dx e.dl e.rl e.s e.rv) N8' (by simp) A9) (fun _ h => .inl h) hl hv trivial
                have k9 := T.s.keep N9.af
                have nd9 := N9.nd
                walk_at "k"
                have su := sure_len rel
                refine ⟨e.o, e.orl, e.osl, p, e.t, e.orv, zs, rfl, (N9.sel [7, 8, 9] (l' := oC e.o e.orl e.osl e.t e.orv) rfl (by decide)).ok, k9.r2, N9.cell 5 rfl, ?_, by omega, ?_, by omega, fun sl' l2 ys2 H10 hl2 A10 hv2 hp2 hs2 => ?_⟩
                · intro m
                  have nd5 := (List.nodup_cons.mp (N9.sel [5, 7, 8, 9] (l' := ⟨true, p, .lst (zs.map V.int)⟩ :: oC e.o e.orl e.osl e.t e.orv) rfl (by decide)).nd).1
                  exact nd5 m
                · intro row hrow
                  rw [← rel.rows] at hrow
                  exact (rel.wf.2.2.2.2 row hrow).1
                have N10 := Now.call (fp := oC e.o e.orl e.osl e.t e.orv) (r := ⟨true, l, .lst (ys.map V.int)⟩ :: (lC C e.p e.dx e.dl e.rl (e.s.came zs) e.rv ++ (⟨true, hd, .lst (zs.map V.int)⟩ :: ⟨true, p, .lst (zs.map V.int)⟩ :: ⟨true, sl, .lst xs⟩ :: e'.cells C)))
                  (N9.sel [7, 8, 9, 0, 1, 2, 3, 4, 5, 6, 10, 11, 12, 13, 14, 15] rfl (by decide)) (by simp) A10
                walk_at "k"
                refine g_neL (m := zs) (n := zs) (.of (N10.cell 7 rfl)) (.of (N10.cell 8 rfl)) ?_
                walk_at "k"
                refine c_ifdF (fun q => q rfl) ?_
                walk_at "k"
                refine fin _ _ ⟨_, _, _, _, _, _, _, _, _, _, _, _, _, _, _, rfl, ?_⟩
                have ey : ys = ys2 := sorted_eq hp hs (by rw [cameF_eq rel]; exact hp2) hs2
                subst ey
                have yl : ys.length ≤ e.s.many := by
                  rw [hp.length_eq]
                  exact fk_len rel.wf (cameF_ok e.s zs)
                have k10 := T.s.keep N10.af
                refine .lst (e := { e with s := e.s.came zs, t := e.t.came zs, osl := sl' }) (e' := e') (xs := xs) l l2 ys (N10.sel [3, 9, 4, 5, 6, 0, 1, 2, 10, 11, 12, 13, 14, 15] rfl (by decide)) T.xs ?_ ((T.s'.keep N10.af).up (by omega)) hv2 (by omega)
                exact ⟨lrel_came rel zs, k10.r1, k10.r2, Nat.le_trans hm (Nat.le_succ i), Nat.le_trans hrw (Nat.le_succ i)⟩
      · rintro σ H5 ⟨⟨_, _, _, _, _, _, _, _, _, _, _, _, _, _, _, rfl⟩, xs, e0, e1, T⟩
        walk_at "k"
        exact k _
end
/-! ### the head: facts by names, the run of the top -/
def d_l_dice : He.DefD := ⟨("_law_dice", none), "_law_dice", "_law_dice", defArgs s_l_dice, defBody s_l_dice, defScope s_l_dice, [], []⟩
def d_l_next : He.DefD := ⟨("_law_next", none), "_law_next", "_law_next", defArgs s_l_next, defBody s_l_next, defScope s_l_next, [], []⟩
def d_l_like : He.DefD := ⟨("_law_like", none), "_law_like", "_law_like", defArgs s_l_like, defBody s_l_like, defScope s_l_like, [], []⟩
def d_Load_init : He.DefD := ⟨("Load", some "__init__"), "__init__", "Load.__init__", defArgs s_Load_init, defBody s_Load_init, defScope s_Load_init, [], []⟩
def d_Load_put : He.DefD := ⟨("Load", some "put"), "put", "Load.put", defArgs s_Load_put, defBody s_Load_put, defScope s_Load_put, [], []⟩
def d_Load_waits : He.DefD := ⟨("Load", some "waits"), "waits", "Load.waits", defArgs s_Load_waits, defBody s_Load_waits, defScope s_Load_waits, [], []⟩
def d_Load_is_due : He.DefD := ⟨("Load", some "is_due"), "is_due", "Load.is_due", defArgs s_Load_is_due, defBody s_Load_is_due, defScope s_Load_is_due, [], []⟩
def d_Load_fill : He.DefD := ⟨("Load", some "fill"), "fill", "Load.fill", defArgs s_Load_fill, defBody s_Load_fill, defScope s_Load_fill, [], []⟩
def d_Load_came : He.DefD := ⟨("Load", some "came"), "came", "Load.came", defArgs s_Load_came, defBody s_Load_came, defScope s_Load_came, [], []⟩
def d_l_fill : He.DefD := ⟨("_law_fill", none), "_law_fill", "_law_fill", defArgs s_l_fill, defBody s_l_fill, defScope s_l_fill, [], []⟩
def d_l_came : He.DefD := ⟨("_law_came", none), "_law_came", "_law_came", defArgs s_l_came, defBody s_l_came, defScope s_l_came, [], []⟩
def d_law : He.DefD := ⟨("law", none), "law", "law", defArgs s_law, defBody s_law, defScope s_law, [], []⟩
def fn : List He.DefD := [d_l_dice, d_l_next, d_l_like, d_Load_init, d_Load_put, d_Load_waits, d_Load_is_due, d_Load_fill, d_Load_came, d_l_fill, d_l_came, d_law]
def fa : List He.Fa := [.glo "_law_dice", .glo "_law_next", .glo "_law_like", .glo "_law_fill", .glo "_law_came", .glo "law", .free "len", .free "int", .free "isinstance", .free "range", .free "sorted", .free "list", .free "tuple", .free "max", .free "min", .free "set", .free "str", .free "enumerate", .free "bool", .free "dict", .int "MOST_ROOM" 8, .int "MOST_WAIT" 20, .glo "Load", .cls "Load", .noat "Load" "room", .noat "Load" "wait", .noat "Load" "latest", .noat "Load" "rows", .noat "Load" "many", .mkr "Load", .meth "Load" "put", .meth "Load" "waits", .meth "Load" "is_due", .meth "Load" "fill", .meth "Load" "came"]
abbrev R : PySem.W.OpenRow := PySem.W.OpenLaw.row PySem.Challenge.rw_ackbits_k08_loads
abbrev hk : PySem.W.Hook := He.hookD 6 fa fn
def ob (s : PySem.W.SharedT) : He.AlD := He.obsDG 6 fa fn (HandSHeadRun.getT s)
theorem ob_eq (s : PySem.W.SharedT) : ob s = hk.obs s.abs := He.obsDG_eq (HandSHeadRun.getT_eq s)
def looseN : List PySem.Str := ["BitsError", "BadSetting", "MOST_ROOM", "MOST_WAIT", "Load", "_law_dice", "_law_next", "_law_like", "_law_fill", "_law_came"]
theorem run (w : World) : HandSHeadRun.RunEq R (PySem.W.view R.prog [13]) hk ob 2000 looseN w := by
  intro os
  kernel_rfl
theorem facts {P : Program} {w : World} {K : PySem.W.Frag} {h : Heap} {mg : Str → Option Value} {f : Addr} (X : K.In h) (G : h.Ns mainGlobals mg) (hfa : mg ("law" : Str) = some (.ref f)) (c : He.SaysD fa fn K) :
    ∃ fd : FuncData, (∀ (s : Shared) (v : Value), BindsTo s fd ⟨[v], []⟩ [("_law_script", v)]) ∧ ∀ base : Heap, K.In base → base.Ns mainGlobals mg → FnOk P w K mg base CX0 12 f fd ["_law_script"] (spLaw K) := by
  have F_l_dice : Def K mg "_law_dice" s_l_dice := by
    obtain ⟨fd, F⟩ := c.def_ 0 (d := d_l_dice) rfl
    exact ⟨_, fd, F, He.glo_ok X G (c.fact 0 (f := .glo "_law_dice") rfl)⟩
  have F_l_next : Def K mg "_law_next" s_l_next := by
    obtain ⟨fd, F⟩ := c.def_ 1 (d := d_l_next) rfl
    exact ⟨_, fd, F, He.glo_ok X G (c.fact 1 (f := .glo "_law_next") rfl)⟩
  have F_l_like : Def K mg "_law_like" s_l_like := by
    obtain ⟨fd, F⟩ := c.def_ 2 (d := d_l_like) rfl
    exact ⟨_, fd, F, He.glo_ok X G (c.fact 2 (f := .glo "_law_like") rfl)⟩
  have F_Load_init : DefC K mg (He.ga K "Load") "Load" "Load.__init__" s_Load_init := by
    obtain ⟨fd, F⟩ := c.def_ 3 (d := d_Load_init) rfl
    exact ⟨_, fd, F, He.mkr_ok (c.fact 29 (f := .mkr "Load") rfl), He.glo_ok X G (c.fact 22 (f := .glo "Load") rfl)⟩
  have F_Load_put : DefM K (He.ga K "Load") "put" "Load.put" s_Load_put := by
    obtain ⟨fd, F⟩ := c.def_ 4 (d := d_Load_put) rfl
    exact ⟨_, fd, F, He.meth_ok (c.fact 30 (f := .meth "Load" "put") rfl)⟩
  have F_Load_waits : DefM K (He.ga K "Load") "waits" "Load.waits" s_Load_waits := by
    obtain ⟨fd, F⟩ := c.def_ 5 (d := d_Load_waits) rfl
    exact ⟨_, fd, F, He.meth_ok (c.fact 31 (f := .meth "Load" "waits") rfl)⟩
  have F_Load_is_due : DefM K (He.ga K "Load") "is_due" "Load.is_due" s_Load_is_due := by
    obtain ⟨fd, F⟩ := c.def_ 6 (d := d_Load_is_due) rfl
    exact ⟨_, fd, F, He.meth_ok (c.fact 32 (f := .meth "Load" "is_due") rfl)⟩
  have F_Load_fill : DefM K (He.ga K "Load") "fill" "Load.fill" s_Load_fill := by
    obtain ⟨fd, F⟩ := c.def_ 7 (d := d_Load_fill) rfl
    exact ⟨_, fd, F, He.meth_ok (c.fact 33 (f := .meth "Load" "fill") rfl)⟩
  have F_Load_came : DefM K (He.ga K "Load") "came" "Load.came" s_Load_came := by
    obtain ⟨fd, F⟩ := c.def_ 8 (d := d_Load_came) rfl
    exact ⟨_, fd, F, He.meth_ok (c.fact 34 (f := .meth "Load" "came") rfl)⟩
  have F_l_fill : Def K mg "_law_fill" s_l_fill := by
    obtain ⟨fd, F⟩ := c.def_ 9 (d := d_l_fill) rfl
    exact ⟨_, fd, F, He.glo_ok X G (c.fact 3 (f := .glo "_law_fill") rfl)⟩
  have F_l_came : Def K mg "_law_came" s_l_came := by
    obtain ⟨fd, F⟩ := c.def_ 10 (d := d_l_came) rfl
    exact ⟨_, fd, F, He.glo_ok X G (c.fact 4 (f := .glo "_law_came") rfl)⟩
  obtain ⟨fdL, F_law⟩ := c.def_ 11 (d := d_law) rfl
  cases hfa.symm.trans (He.glo_ok X G (c.fact 5 (f := .glo "law") rfl))
  have B : Bt mg := ⟨He.free_ok X G (c.fact 6 (f := .free "len") rfl), He.free_ok X G (c.fact 7 (f := .free "int") rfl), He.free_ok X G (c.fact 8 (f := .free "isinstance") rfl), He.free_ok X G (c.fact 9 (f := .free "range") rfl), He.free_ok X G (c.fact 10 (f := .free "sorted") rfl), He.free_ok X G (c.fact 11 (f := .free "list") rfl), He.free_ok X G (c.fact 12 (f := .free "tuple") rfl), He.free_ok X G (c.fact 13 (f := .free "max") rfl), He.free_ok X G (c.fact 14 (f := .free "min") rfl), He.free_ok X G (c.fact 15 (f := .free "set") rfl), He.free_ok X G (c.fact 16 (f := .free "str") rfl), He.free_ok X G (c.fact 17 (f := .free "enumerate") rfl), He.free_ok X G (c.fact 18 (f := .free "bool") rfl), He.free_ok X G (c.fact 19 (f := .free "dict") rfl)⟩
  have g_MOST_ROOM := He.int_ok X G (c.fact 20 (f := .int "MOST_ROOM" 8) rfl)
  have g_MOST_WAIT := He.int_ok X G (c.fact 21 (f := .int "MOST_WAIT" 20) rfl)
  have cl_Load : Cls K (He.ga K "Load") := He.cls_ok (c.fact 23 (f := .cls "Load") rfl)
  have na_Load_room : NoAttr K (He.ga K "Load") "room" := He.noat_ok (c.fact 24 (f := .noat "Load" "room") rfl)
  have na_Load_wait : NoAttr K (He.ga K "Load") "wait" := He.noat_ok (c.fact 25 (f := .noat "Load" "wait") rfl)
  have na_Load_latest : NoAttr K (He.ga K "Load") "latest" := He.noat_ok (c.fact 26 (f := .noat "Load" "latest") rfl)
  have na_Load_rows : NoAttr K (He.ga K "Load") "rows" := He.noat_ok (c.fact 27 (f := .noat "Load" "rows") rfl)
  have na_Load_many : NoAttr K (He.ga K "Load") "many" := He.noat_ok (c.fact 28 (f := .noat "Load" "many") rfl)
  have b := FunD.bindsA (ps := ["_law_script"]) F_law fun _ _ _ _ _ _ us hl => match us, hl with | [_], _ => rfl
  refine ⟨fdL, fun s v => b s [v] rfl, fun base _ _ => ?_⟩
  have T : LTx K (He.ga K "Load") := ⟨cl_Load, na_Load_room, na_Load_wait, na_Load_latest, na_Load_rows, na_Load_many⟩
  have c_l_dice : Cal P w K mg base CX0 1 "_law_dice" ["_law_script"] (spDice K) := ok_dice F_l_dice B
  have c_l_next : Cal P w K mg base CX0 1 "_law_next" ["_law_dice_here", "_law_many"] (spNext K) := ok_next F_l_next B
  have c_l_like : Cal P w K mg base CX0 5 "_law_like" ["_law_found", "_law_due"] (spLike K 4) := ok_like F_l_like B 4
  have c_1 : CalC P w K mg base CX0 (He.ga K "Load") 1 "Load" ["self", "room", "wait"] (spLInit (He.ga K "Load")) := ok_LInit F_Load_init T g_MOST_ROOM g_MOST_WAIT
  have c_2 : CalM P w K mg base CX0 (He.ga K "Load") 1 "put" ["self"] (spPut K (He.ga K "Load")) := ok_LPut F_Load_put T
  have c_3 : CalM P w K mg base CX0 (He.ga K "Load") 1 "waits" ["self"] (spWaits K (He.ga K "Load")) := ok_LWaits F_Load_waits T B
  have c_4 : CalM P w K mg base CX0 (He.ga K "Load") 1 "is_due" ["self", "piece"] (spDue K (He.ga K "Load")) := ok_LDue F_Load_is_due T B
  have c_5 : CalM P w K mg base CX0 (He.ga K "Load") 2 "fill" ["self"] (spFill K (He.ga K "Load")) := ok_LFill F_Load_fill T B c_4
  have c_6 : CalM P w K mg base CX0 (He.ga K "Load") 1 "came" ["self", "letters"] (spCame K (He.ga K "Load")) := ok_LCame F_Load_came T B
  have c_7 : Cal P w K mg base CX0 1 "_law_fill" ["_law_own"] (spOFill K) := ok_OFill F_l_fill B
  have c_8 : Cal P w K mg base CX0 1 "_law_came" ["_law_own", "_law_letters"] (spOCame K) := ok_OCame F_l_came B
  exact ok_law F_law B T c_1 c_2 c_3 c_5 c_6 c_l_dice c_l_next c_l_like c_7 c_8
end Ak
open PySem PySem.W PySem.Calls PyProof.Rows
theorem PySem.Challenge.cw_ackbits_k08_loads_holds : PySem.Challenge.rw_ackbits_k08_loads.Holds := by
  w_on; o_law
  refine HandSHeadRun.head_any (r := OpenLaw.row PySem.Challenge.rw_ackbits_k08_loads) (q := view (OpenLaw.row PySem.Challenge.rw_ackbits_k08_loads).prog [13]) (H := Ak.hk) (ob := Ak.ob) (M := 2000) (loose := Ak.looseN) (d := HandSHeadRun.topDef (OpenLaw.row PySem.Challenge.rw_ackbits_k08_loads).prog 13) (kwd := []) Ak.ob_eq
    (by kernel_rfl) (fun s => by kernel_rfl) Ak.run (by kernel_rfl) (by kernel_rfl) (by kernel_rfl) (by rfl) (by first | assumption | decide +kernel) (by decide +kernel) ⟨rfl, rfl, rfl, rfl, rfl, by decide +kernel⟩ ?hw ?hc
  case hw => w_witness2
  case hc =>
    refine L2.walk_ofE (l := PySem.Challenge.rw_ackbits_k08_loads) (n := 63) (k := 12) (x := "_law_script") (CX := L2.CX0) rfl (by decide) (by kernel_rfl) ⟨rfl, by decide, by decide⟩ ?F (fun _ _ _ _ z => z)
    intro w mg fa h Y G hmg0
    obtain ⟨K, KX, c⟩ := Y
    have hmg : mg ("law" : PySem.Str) = some (.ref fa) := by
      have e : (HandSHeadRun.topDef (OpenLaw.row PySem.Challenge.rw_ackbits_k08_loads).prog 13).name = ("law" : PySem.Str) := by kernel_rfl
      rw [← e]
      exact hmg0
    obtain ⟨fd, hb, hF⟩ := Ak.facts (P := (PySem.Challenge.rw_ackbits_k08_loads).prog) (w := w) KX G hmg c
    exact ⟨K, fd, Ak.spLaw K, KX, hb, fun H a ns hl hO hS => ⟨a, ns, rfl, Ak.Scr.only hO hS, hl, fun _ => rfl⟩, hF⟩
