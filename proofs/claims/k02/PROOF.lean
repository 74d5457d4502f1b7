import PyProof.Rows.All
import Wide.All
import OpenK.AllK
import Wide.FinOn
import HandS.ForMost
import HandS.Style
import HandS.Walk
import HandS.Defaults
import HandS.Exc
import HandS.Flow
import HandS.TryOnly
import HandS.ExcOwn
import HandS.WordsExc
import HandS.TupAny
import HandS.SetFor
import HandS.HeadHook2
import HandS.HeadEnd
import HandS.Head2
import PySem.Challenge.RW_hearken_k02_which_lines_fit
set_option Elab.async false
set_option linter.all false
set_option maxRecDepth 100000
set_option maxHeartbeats 4000000
/-! Common words for all the laws of hearken. -/
namespace Hk
open PySem PySem.Spec PyProof.Rows L2
/-! ### heaps that grow -/
/-- all that was tracked, but where S is, is as it was -/
def Ext (S : Addr → Prop) (H H' : Hp) : Prop := ∀ b o, ¬ S b → H b = some o → H' b = some o
abbrev No : Addr → Prop := fun _ => False
theorem Ext.refl (S : Addr → Prop) (H : Hp) : Ext S H H := fun _ _ _ h => h
theorem Ext.trans {S : Addr → Prop} {H H1 H2 : Hp} (a : Ext S H H1) (b : Ext S H1 H2) : Ext S H H2 := fun c o n h => b c o n (a c o n h)
theorem Ext.of_same {S : Addr → Prop} {H H' : Hp} (s : Same H H') : Ext S H H' := fun b o _ h => s b o h
theorem Ext.same {H H' : Hp} (e : Ext No H H') : Same H H' := fun b o h => e b o (fun z => z) h
theorem Ext.mono {S S' : Addr → Prop} {H H' : Hp} (e : Ext S H H') (h : ∀ b, S b → S' b) : Ext S' H H' := fun b o n q => e b o (fun z => n (h b z)) q
theorem Ext.free {S : Addr → Prop} {H H' : Hp} (e : Ext S H H') {l : Addr} (n : ¬ S l) (h : H' l = none) : H l = none := by
  cases q : H l with
  | none => rfl
  | some o =>
    rw [e l o n q] at h
    cases h
theorem Ext.put {S : Addr → Prop} {H H1 : Hp} {p : Addr} {o : HO} (s : Ext S H H1) (n : H p = none ∨ S p) : Ext S H (upd H1 p o) := fun b u nb h => by
  by_cases e : b = p
  · subst e
    rcases n with n | n
    · rw [h] at n; cases n
    · exact absurd n nb
  · rw [upd_ne e]
    exact s b u nb h
theorem same_put {H H1 : Hp} {p : Addr} {o : HO} (s : Same H H1) (n : H p = none) : Same H (upd H1 p o) := fun b u h => by
  by_cases e : b = p
  · subst e
    rw [h] at n; cases n
  · rw [upd_ne e]
    exact s b u h
theorem same_new {H H1 : Hp} {p : Addr} {o : HO} (s : Same H H1) (n : H1 p = none) : Same H (upd H1 p o) := same_put s (s.free n)
theorem same_tup {K : PySem.W.Frag} {H H' : Hp} {a : Addr} {xs : List V} (e : Same H H') (h : SqT K H a xs) : SqT K H' a xs := by
  rcases h with (h | ⟨o, h⟩) | h
  · exact .inl (.inl (e _ _ h))
  · exact .inl (.inr ⟨o, e _ _ h⟩)
  · exact .inr h
theorem small {n : Nat} (h : n ≤ 100000) : n ≤ sizeLine := Nat.le_trans h (by decide)
theorem smallLt {n : Nat} (h : n ≤ 100000) : n < sizeLine := Nat.lt_of_le_of_lt h (by decide)
theorem sgn_eq {c d : Nat} : ((⟨#[c]⟩ : Str) = ⟨#[d]⟩) = (c = d) := propext ⟨fun e => by
  have e2 : (#[c] : Array Nat) = #[d] := congrArg Str.cps e
  have e3 : [c] = [d] := congrArg Array.toList e2
  exact (List.cons.inj e3).1, fun e => by rw [e]⟩
theorem beq_dec {a b : Str} : (a == b) = decide (b = a) := by
  by_cases h : b = a
  · subst h; simp
  · rw [decide_eq_false h]; exact beq_eq_false_iff_ne.mpr (Ne.symm h)
/-- a text's words -/
def wds (z : Str) : List Str := Txt.split z "."
theorem split_dot {z : Str} : Txt.split z (Str.ofString ".") = wds z := rfl
theorem dot_len : ((Str.ofString ".").length == 0) = false := by decide +kernel
theorem sp_len : ((Str.ofString " ").length == 0) = false := by decide +kernel
theorem nl_len : ((Str.ofString "\n").length == 0) = false := by decide +kernel
section
variable {CX : CXT} {P : Program} {w : World} {K : PySem.W.Frag} {mg : Str → Option Value} {base : Heap} {N : List Str} {qual : Str} {scope : Scope} {f : Addr} {cd : Value} {A : Around} {outer : List Env} {s : Shared} {H : Hp} {E : XK}
theorem cxOf_K : (cxOf CX P w K mg base N qual scope f cd A outer s H E).K = K := rfl
end
theorem ifP {c A B : Prop} [Decidable c] (h : c) (a : A) : if c then A else B := by rw [if_pos h]; exact a
theorem ifN {c A B : Prop} [Decidable c] (h : ¬ c) (b : B) : if c then A else B := by rw [if_neg h]; exact b
/-! ### a global def with its promise -/
structure Glob (P : Program) (w : World) (K : PySem.W.Frag) (mg : Str → Option Value) (base : Heap) (CX : CXT) (k : Nat) (x : Str) (ps : List Str) (dvs : List V) (sp : Sp) : Prop where
  ex : ∃ f fd ds, FnOk P w K mg base CX k f fd ps sp ∧ mg x = some (.ref f) ∧ PySem.W.keepIn K (.ref f) = true ∧ Vals dvs ds ∧ Binds K fd ps ds
theorem Glob.mono {P : Program} {w : World} {K : PySem.W.Frag} {mg : Str → Option Value} {base : Heap} {CX : CXT} {j k : Nat} {x : Str} {ps : List Str} {dvs : List V} {sp : Sp} (G : Glob P w K mg base CX j x ps dvs sp) (h : j ≤ k) : Glob P w K mg base CX k x ps dvs sp := by
  obtain ⟨f, fd, ds, F, r⟩ := G.ex
  exact ⟨f, fd, ds, F.mono h, r⟩
section
variable {X : Cx} {CX : CXT} {k : Nat} {x : Str} {ps : List Str} {dvs : List V} {sp : Sp} {E : XK} {p pos : Pos} {e : Expr} {es : List Expr} {t : TA}
theorem pe_callG (G : Glob X.prog X.w X.K X.mg X.base CX k x ps dvs sp) (hr : Room k X.A) (hg : Gl X x) (hx : Passes CX X E) (ha : PA X (e :: es) t)
    (hdb : (x == ("__debug__" : Str)) = false := by decide) (he : starEach (e :: es) X.env = (false, eval e X.env) :: starEach es X.env := by rfl) (hpl : (backTo pos (starEach es X.env)).any (·.1) = false := by rfl) :
    PE X (.Call (.Name x p) (e :: es) [] pos) (tCall sp dvs E t) := by
  refine ⟨fun pins s σ H Q I h => ?_⟩
  obtain ⟨f, fd, ds, F, hm, kp, vd, hb⟩ := G.ex
  exact (pe_call F hr hg hm kp hb vd hx ha hdb he hpl).run pins s σ H Q I h
theorem pe_callG0 (G : Glob X.prog X.w X.K X.mg X.base CX k x ps dvs sp) (hr : Room k X.A) (hg : Gl X x) (hx : Passes CX X E) (hdb : (x == ("__debug__" : Str)) = false := by decide) :
    PE X (.Call (.Name x p) [] [] pos) (tCall sp dvs E tNil) := by
  refine ⟨fun pins s σ H Q I h => ?_⟩
  obtain ⟨f, fd, ds, F, hm, kp, vd, hb⟩ := G.ex
  exact (pe_call0 F hr hg hm kp hb vd hx hdb).run pins s σ H Q I h
/-- a def that may raise, called where it does not -/
theorem passN : Passes (L2.CX X.prog X.w) X E0 := fun _ _ _ _ _ _ _ h => by
  obtain ⟨_, _, _, _, _, _, _, _, _, _, _, _, z⟩ := h
  exact z.elim
/-- a module's constant -/
theorem pe_gi {i : Int} (h : ∃ t, X.mg x = some (.int i t)) (hg : Gl X x) (hd : (x == ("__debug__" : Str)) = false := by decide) : PE X (.Name x pos) (tC (.int i)) := by
  obtain ⟨t, h⟩ := h
  exact pe_glob hg h ⟨t, rfl⟩ hd
theorem pe_gs {z : Str} (h : ∃ t, X.mg x = some (.str z t)) (hg : Gl X x) (hd : (x == ("__debug__" : Str)) = false := by decide) : PE X (.Name x pos) (tC (.str z)) := by
  obtain ⟨t, h⟩ := h
  exact pe_glob hg h ⟨t, rfl⟩ hd
end
/-! ### comprehensions: the new list by what has been gathered -/
/-- a comprehension's turns, behind its source -/
def LcG (J : It) (g : TG) (tt : TT) (te : TE) (vs : List Nat) (σ : L2.St) (H1 : Hp) (Q : VK) : Prop := ∀ D, H1 D = none → ∃ W : Nat → Nat → Hp → Prop, (∃ m, W 0 m (upd H1 D (.lst []))) ∧ ∀ i m H, W i m H →
  (J.stop i H ∧ Q (.ref D) H) ∨ (J.go i H ∧ ∃ Nx : Hp → Prop, (∀ H', Nx H' → ∃ m', m' < m ∧ W (i + 1) m' H') ∧ ∀ x H', J.yld i H x H' → g x (wipe σ vs) H' fun σ2 H2 => wipe σ2 vs = wipe σ vs ∧ tt σ2 H2 fun b H3 =>
    if b = true then te σ2 H3 fun y H4 => ∃ acc, H4 D = some (.lst acc) ∧ acc.length < sizeLine ∧ Nx (upd H4 D (.lst (acc ++ [y]))) else Nx H3)
theorem tLc_eq {wi : TI} {g : TG} {tt : TT} {te : TE} {vs : List Nat} {σ : L2.St} {H : Hp} {Q : VK} : tLc wi g tt te vs σ H Q = wi σ H fun J H1 => LcG J g tt te vs σ H1 Q := rfl
/-- a for's turns, behind its source -/
def ForG (J : It) (g : TG) (tb : TS) (D : Ends) (σ : L2.St) (H : Hp) : Prop := ∃ W : Nat → Nat → L2.St → Hp → Prop, (∃ m, W 0 m σ H) ∧ ∀ i m σ H, W i m σ H →
  (J.stop i H ∧ D.nx σ H) ∨ (J.go i H ∧ ∃ N : L2.St → Hp → Prop, (∀ σ' H', N σ' H' → ∃ m', m' < m ∧ W (i + 1) m' σ' H') ∧ ∀ x H', J.yld i H x H' → g x σ H' fun σ2 H2 => tb { D with nx := N, ct := N, bk := D.nx } σ2 H2)
theorem tFor_eq {wi : TI} {g : TG} {tb : TS} {D : Ends} {σ : L2.St} {H : Hp} : tFor wi g tb D σ H = wi σ H fun J H1 => ForG J g tb D σ H1 := rfl
theorem forG {J : It} {n : Nat} {G : Hp → Prop} {Y : Nat → Hp → V → Hp → Prop} (w : Walk J n G Y) {g : TG} {tb : TS} {D : Ends} {σ : L2.St} {H : Hp} (Pv : Nat → L2.St → Hp → Prop) (h0 : Pv 0 σ H) (hG : ∀ i σ H, i ≤ n → Pv i σ H → G H)
    (hs : ∀ i x σ H H', i < n → Pv i σ H → Y i H x H' → g x σ H' fun σ2 H2 => tb { D with nx := Pv (i + 1), ct := Pv (i + 1), bk := D.nx } σ2 H2) (hd : ∀ σ H, Pv n σ H → D.nx σ H) : ForG J g tb D σ H := for_it w Pv h0 hG hs hd
theorem lc_acc {J : It} {n : Nat} {G : Hp → Prop} {Y : Nat → Hp → V → Hp → Prop} (w : Walk J n G Y) {g : TG} {tt : TT} {te : TE} {vs : List Nat} {σ : L2.St} {H1 : Hp} {Q : VK} (S : Addr → Prop) (Iv : Hp → Prop) (Pa : Nat → List V → Prop)
    (hn : n < sizeLine) (nD : ∀ D, H1 D = none → ¬ S D) (h0 : Pa 0 []) (i0 : Iv H1) (hI : ∀ D H o, H1 D = none → Iv H → Iv (upd H D o)) (hG : ∀ H, Ext S H1 H → Iv H → G H)
    (hs : ∀ i x H H' acc (R : Option V → Hp → Prop), i < n → Ext S H1 H → Iv H → Pa i acc → Y i H x H' →
      (∀ H2, Ext S H H2 → Iv H2 → Pa (i + 1) acc → R none H2) → (∀ y H2, Ext S H H2 → Iv H2 → Pa (i + 1) (acc ++ [y]) → R (some y) H2) →
      g x (wipe σ vs) H' fun σ2 H2 => wipe σ2 vs = wipe σ vs ∧ tt σ2 H2 fun b H3 => if b = true then te σ2 H3 (fun y H4 => R (some y) H4) else R none H3)
    (hd : ∀ D acc H, H1 D = none → Pa n acc → acc.length ≤ n → Ext S H1 H → Iv H → H D = some (.lst acc) → Q (.ref D) H) : LcG J g tt te vs σ H1 Q := by
  intro D fD
  have nD := nD D fD
  have hI := fun H o => hI D H o fD
  refine lc_it w (fun i H => ∃ acc, Pa i acc ∧ acc.length ≤ i ∧ Ext S H1 H ∧ Iv H ∧ H D = some (.lst acc)) ⟨[], h0, Nat.le_refl _, (Ext.refl S H1).put (.inl fD), hI _ _ i0, upd_same⟩ (fun i H _ ⟨acc, _, _, e, iv, _⟩ => hG H e iv) (fun i x H H' hi hP hy => ?_)
    (fun H ⟨acc, p, l, e, iv, hD⟩ => hd D acc H fD p l e iv hD)
  obtain ⟨acc, p, l, e, iv, hD⟩ := hP
  refine hs i x H H' acc (fun o H4 => match o with
    | some y => ∃ acc, H4 D = some (.lst acc) ∧ acc.length < sizeLine ∧ ∃ acc', Pa (i + 1) acc' ∧ acc'.length ≤ i + 1 ∧ Ext S H1 (upd H4 D (.lst (acc ++ [y]))) ∧ Iv (upd H4 D (.lst (acc ++ [y]))) ∧ (upd H4 D (.lst (acc ++ [y]))) D = some (.lst acc')
    | none => ∃ acc', Pa (i + 1) acc' ∧ acc'.length ≤ i + 1 ∧ Ext S H1 H4 ∧ Iv H4 ∧ H4 D = some (.lst acc')) hi e iv p hy (fun H2 e2 iv2 p2 => ?_) (fun y H2 e2 iv2 p2 => ?_)
  · exact ⟨acc, p2, Nat.le_succ_of_le l, e.trans e2, iv2, e2 D _ nD hD⟩
  · exact ⟨acc, e2 D _ nD hD, Nat.lt_of_le_of_lt (Nat.le_trans l (Nat.le_of_lt hi)) hn, acc ++ [y], p2, by rw [List.length_append]; exact Nat.succ_le_succ l, (e.trans e2).put (.inl fD), hI _ _ iv2, upd_same⟩
section
variable {K : PySem.W.Frag} {a b : Addr}
theorem walk_listm {α : Type} (xs : List α) (inj : α → V) : Walk (Itl K a) xs.length (fun H => SqL K H a (xs.map inj)) (fun i H x H' => H' = H ∧ ∃ y, xs[i]? = some y ∧ x = inj y) := by
  have w := walk_list (K := K) (a := a) (xs := xs.map inj)
  rw [List.length_map] at w
  refine w.mono (fun H h => h) (fun i H x H' hi _ y => ⟨y.1, ?_⟩)
  have h := y.2
  rw [List.getElem?_map] at h
  cases q : xs[i]? with
  | none => rw [q] at h; cases h
  | some z => rw [q] at h; exact ⟨z, rfl, (Option.some.inj h).symm⟩
theorem walk_tupm {α : Type} (xs : List α) (inj : α → V) : Walk (Itt K a) xs.length (fun H => SqT K H a (xs.map inj)) (fun i H x H' => H' = H ∧ ∃ y, xs[i]? = some y ∧ x = inj y) := by
  have w := walk_tup (K := K) (a := a) (xs := xs.map inj)
  rw [List.length_map] at w
  refine w.mono (fun H h => h) (fun i H x H' hi _ y => ⟨y.1, ?_⟩)
  have h := y.2
  rw [List.getElem?_map] at h
  cases q : xs[i]? with
  | none => rw [q] at h; cases h
  | some z => rw [q] at h; exact ⟨z, rfl, (Option.some.inj h).symm⟩
/-- zip of two lists: a new pair at each turn -/
theorem walk_zipm {α β : Type} (xs : List α) (ys : List β) (f : α → V) (g : β → V) : Walk (Itz K a b) (xs.zip ys).length (fun H => SqL K H a (xs.map f) ∧ SqL K H b (ys.map g))
    (fun i H v H' => ∃ (t : Addr) (q : α × β), v = .ref t ∧ H t = none ∧ H' = upd H t (.tup [f q.1, g q.2]) ∧ (xs.zip ys)[i]? = some q) := by
  have w := walk_zip (K := K) (a := a) (b := b) (xs := xs.map f) (ys := ys.map g) (n := (xs.zip ys).length) (by rw [List.length_zip, List.length_map, List.length_map])
  refine w.mono (fun H h => h) (fun i H x H' hi _ y => ?_)
  obtain ⟨t, x1, x2, e1, e2, e3, e4, e5⟩ := y
  have h1 : (xs.zip ys)[i]? = some (xs.zip ys)[i] := List.getElem?_eq_getElem hi
  have h2 := List.getElem?_zip_eq_some.mp h1
  have e6 : x1 = f (xs.zip ys)[i].1 := by
    have e4 : (xs.map f)[i]? = some x1 := e4
    rw [List.getElem?_map, h2.1] at e4
    exact (Option.some.inj e4).symm
  have e7 : x2 = g (xs.zip ys)[i].2 := by
    have e5 : (ys.map g)[i]? = some x2 := e5
    rw [List.getElem?_map, h2.2] at e5
    exact (Option.some.inj e5).symm
  exact ⟨t, _, e1, e2, by rw [e3, e6, e7], h1⟩
theorem ixN_in {n : Nat} {i : Int} (h0 : 0 ≤ i) (h1 : i < n) : ixN n i = some i.toNat := by
  unfold ixN
  rw [if_pos h0, if_pos h1]
theorem atI_neg1 {xs : List V} (h : xs ≠ []) : atI xs (-1) = xs.getLast? := by
  have e : xs = xs.dropLast ++ [xs.getLast h] := (List.dropLast_concat_getLast h).symm
  rw [e, atI_last]
  simp
end
/-- a comprehension that changes nothing that stood: the new list is F of the items, where it is some -/
theorem lc_fil {α : Type} (xs : List α) (F : α → Option V) {J : It} {G : Hp → Prop} {Y : Nat → Hp → V → Hp → Prop} (w : Walk J xs.length G Y) {g : TG} {tt : TT} {te : TE} {vs : List Nat} {σ : L2.St} {H1 : Hp} {Q : VK}
    (hn : xs.length ≤ 100000) (hG : ∀ H, Same H1 H → G H)
    (hs : ∀ i a x H H' (R : Option V → Hp → Prop), xs[i]? = some a → Same H1 H → Y i H x H' → (∀ H2, Same H H2 → R (F a) H2) →
      g x (wipe σ vs) H' fun σ2 H2 => wipe σ2 vs = wipe σ vs ∧ tt σ2 H2 fun b H3 => if b = true then te σ2 H3 (fun y H4 => R (some y) H4) else R none H3)
    (hd : ∀ D H, H1 D = none → Same H1 H → H D = some (.lst (xs.filterMap F)) → Q (.ref D) H) : LcG J g tt te vs σ H1 Q := by
  refine lc_acc w No (fun _ => True) (fun i acc => acc = (xs.take i).filterMap F) (smallLt hn) (fun _ _ z => z) rfl trivial (fun _ _ _ _ _ => trivial) (fun H e _ => hG H e.same) (fun i x H H' acc R hi e _ p hy r0 r1 => ?_) (fun D acc H fD p _ e _ hD => ?_)
  · have hx : xs[i]? = some xs[i] := List.getElem?_eq_getElem hi
    refine hs i xs[i] x H H' R hx e.same hy (fun H2 s2 => ?_)
    cases q : F xs[i] with
    | none =>
      refine r0 H2 (.of_same s2) trivial ?_
      rw [p, List.take_add_one, hx, List.filterMap_append]
      simp [q]
    | some y =>
      refine r1 y H2 (.of_same s2) trivial ?_
      rw [p, List.take_add_one, hx, List.filterMap_append]
      simp [q]
  · subst p
    refine hd D H fD e.same ?_
    rw [hD, List.take_length]
/-- .. the new list is f of the items -/
theorem lc_map {α : Type} (xs : List α) (f : α → V) {J : It} {G : Hp → Prop} {Y : Nat → Hp → V → Hp → Prop} (w : Walk J xs.length G Y) {g : TG} {te : TE} {vs : List Nat} {σ : L2.St} {H1 : Hp} {Q : VK}
    (hn : xs.length ≤ 100000) (hG : ∀ H, Same H1 H → G H)
    (hs : ∀ i a x H H' (R : VK), xs[i]? = some a → Same H1 H → Y i H x H' → (∀ H2, Same H H2 → R (f a) H2) →
      g x (wipe σ vs) H' fun σ2 H2 => wipe σ2 vs = wipe σ vs ∧ te σ2 H2 R)
    (hd : ∀ D H, H1 D = none → Same H1 H → H D = some (.lst (xs.map f)) → Q (.ref D) H) : LcG J g tYes te vs σ H1 Q := by
  refine lc_fil xs (fun a => some (f a)) w hn hG (fun i a x H H' R hx s1 hy r => ?_) (fun D H fD s1 hD => hd D H fD s1 ?_)
  · simp only [tYes, if_true]
    exact hs i a x H H' (fun v h => R (some v) h) hx s1 hy r
  · rw [hD]
    simp
end Hk

set_option Elab.async false
set_option linter.all false
set_option maxRecDepth 100000
set_option maxHeartbeats 4000000
/-! The rules that speak of X.K, with K told (a comprehension's block has an X of its own). -/
namespace Hk
open PySem PySem.Spec PyProof.Rows L2
section
variable {X : Cx} {K : PySem.W.Frag} (hK : X.K = K)
include hK
theorem ix_listK : IxR X (rIxL K) := by subst hK; exact ix_list
theorem ix_tupK : IxR X (rIxT K) := by subst hK; exact ix_tup
theorem sl_listK : SlR X (rSlL K) := by subst hK; exact sl_list
theorem sl_tupK : SlR X (rSlA K) := by subst hK; exact sl_tupA
theorem op_in_seqK : OpR X (compareOp .In) (rIn K false) := by subst hK; exact op_in_seq
theorem op_notIn_seqK : OpR X (compareOp .NotIn) (rIn K true) := by subst hK; exact op_notIn_seq
def rLenK (K : PySem.W.Frag) : List V → Hp → VK → Prop := fun xs H Q => ∃ p ys, xs = [.ref p] ∧ (SqL K H p ys ∨ SqT K H p ys) ∧ Q (.int ys.length) H
theorem call_len_seqK : CallR X (.builtin "len") (rLenK K) := by subst hK; exact call_len_seq
theorem cr_allK (hc : X.calm = true) : CallR X (.builtin "all") (rAll K) := by subst hK; exact cr_all hc
theorem cr_anyK (hc : X.calm = true) : CallR X (.builtin "any") (rAny K) := by subst hK; exact cr_any hc
def rListOf (K : PySem.W.Frag) : List V → Hp → VK → Prop := fun xs H Q => ∃ p ys, xs = [.ref p] ∧ (SqL K H p ys ∨ SqT K H p ys) ∧ ∀ l, H l = none → Q (.ref l) (upd H l (.lst ys))
theorem call_list_ofK : CallR X (.type "list") (rListOf K) := by subst hK; exact call_list_of
theorem op_eqDK (hu : X.A.units + 64 < cLine) : OpR X (compareOp .Eq) (rEqD K) := by subst hK; exact op_eqD hu
theorem op_neDK (hu : X.A.units + 64 < cLine) : OpR X (compareOp .NotEq) (rNeD K) := by subst hK; exact op_neD hu
theorem op_catAK : OpR X (binaryOp .Add) (rCatA K) := by subst hK; exact op_catA
theorem pi_listK {tg l : Expr} {tl : TE} (hl : PE X l tl) : PI X tg l (iList K tl) := by subst hK; exact pi_list hl
theorem pi_tupK {tg l : Expr} {tl : TE} (hl : PE X l tl) : PI X tg l (iTup K tl) := by subst hK; exact pi_tup hl
theorem pi_zipK {e e2 : Expr} {ta : TA} {p pos tpos : Pos} {elts : List Expr} {kk : Nat} (hg : Gl X "zip") (hm : X.mg "zip" = none) (ha : PA X [e, e2] ta)
    (hs : starEach [e, e2] X.env = (false, eval e X.env) :: starEach [e2] X.env := by rfl) (hpl : (backTo pos (starEach [e2] X.env)).any (·.1) = false := by rfl) :
    PI X (.Tuple elts kk tpos) (.Call (.Name "zip" p) [e, e2] [] pos) (iZip K ta) := by subst hK; exact pi_zip hg hm ha hs hpl
theorem pi_enumK {e : Expr} {ta : TA} {p pos tpos : Pos} {elts : List Expr} {kk : Nat} (hg : Gl X "enumerate") (hm : X.mg "enumerate" = none) (ha : PA X [e] ta) (hs : starEach [e] X.env = [(false, eval e X.env)] := by rfl) :
    PI X (.Tuple elts kk tpos) (.Call (.Name "enumerate" p) [e] [] pos) (iEnum K ta) := by subst hK; exact pi_enum hg hm ha hs
theorem pg_tupK {es : List Expr} {k : Nat} {t : TGs} {n : Nat} {pos : Pos} (hc : X.calm = true) (h : PGs X es t) (hn : (assignEach es X.env).length = n := by rfl) (hst : (assignEach es X.env).findIdx? (·.1) = none := by rfl) :
    PG X (.Tuple es k pos) (gTup K n t) := by subst hK; exact pg_tup hc h hn hst
theorem pe_bm0K {o : Expr} {to : TE} {name : Str} {apos cpos : Pos} {T id : String} {r : V → List V → Hp → VK → Prop} (pa : PlainAttrs T) (slot : Slot T name id) (hty : typeOf (.builtin id) = pure (.type "method_descriptor")) (hm : MtR X id r) (ho : PE X o to)
    (hbase : attributeBase o name X.env (eval o X.env) = eval o X.env := by rfl) (hline : (apos.endLine == cpos.line) = true := by rfl) : PE X (.Call (.Attribute o name apos) [] [] cpos) (tBM0 K T r to) := by
  subst hK; exact pe_bm0 pa slot hty hm ho hbase hline
theorem pe_bmK {o e : Expr} {es : List Expr} {to : TE} {t : TA} {name : Str} {apos cpos : Pos} {T id : String} {r : V → List V → Hp → VK → Prop} (pa : PlainAttrs T) (slot : Slot T name id) (hty : typeOf (.builtin id) = pure (.type "method_descriptor")) (hm : MtR X id r) (ho : PE X o to) (ha : PA X (e :: es) t)
    (hbase : attributeBase o name X.env (eval o X.env) = eval o X.env := by rfl)
    (hfew : ((backTo cpos (starEach (e :: es) X.env)).all (fun x => !x.1) && (backToKw cpos (keywordEach [] X.env)).all (fun x => x.1.isSome)
      && decide ((e :: es).length + ([] : List Keyword).length + (if ([] : List Keyword).isEmpty then 0 else 1) < 30)) = true := by rfl)
    (hline : (apos.endLine == cpos.line) = true := by rfl) (hs : starEach (e :: es) X.env = (false, eval e X.env) :: starEach es X.env := by rfl) (hplain : (backTo cpos (starEach es X.env)).any (·.1) = false := by rfl) :
    PE X (.Call (.Attribute o name apos) (e :: es) [] cpos) (tBM K T r to t) := by subst hK; exact pe_bm pa slot hty hm ho ha hbase hfew hline hs hplain
def rJoin (K : PySem.W.Frag) : V → List V → Hp → VK → Prop := fun x xs H Q => ∃ a p, ∃ ys : List Str, x = .str a ∧ xs = [.ref p] ∧ (SqL K H p (ys.map V.str) ∨ SqT K H p (ys.map V.str)) ∧
      (ys.map (·.length)).sum + ys.length * a.length ≤ 16777216 ∧ Q (.str (Txt.join a ys)) H
theorem pe_joinK {o e : Expr} {to te : TE} {apos pos : Pos} (ho : PE X o to) (he : PE X e te) (hs : starEach [e] X.env = [(false, eval e X.env)] := by rfl) (hbase : attributeBase o "join" X.env (eval o X.env) = eval o X.env := by rfl) (hline : (apos.endLine == pos.line) = true := by rfl) :
    PE X (.Call (.Attribute o "join" apos) [e] [] pos) (tM1 (rJoin K) to te) := by subst hK; exact pe_join ho he hs hbase hline
theorem pt_truthK {a : Expr} {ta : TE} (ha : PE X a ta) (he : ∀ whole, isTrue a X.env whole = (do let v ← whole; standAt a.pos; holding [v] (truthy v))) :
    PT X a (fun σ H Q => ta σ H fun x H' => ∃ k, TruV K x H' k ∧ Q k H') := by subst hK; exact pt_truth ha he
theorem pe_notTK {a : Expr} {ta : TE} {pos : Pos} (ha : PE X a ta) : PE X (.UnaryOp .Not a pos) (tNotT K ta) := by subst hK; exact pe_notT ha
theorem mt_indexK : MtR X "list.index" (rIndex K) := by subst hK; exact mt_index
theorem mt_lcountK : MtR X "list.count" (rCntI K) := by subst hK; exact mt_lcount
theorem pe_fldK {e : Expr} {f : Str} {ta : TE} {pos : Pos} (he : PE X e ta) (hb : attributeBase e f X.env (eval e X.env) = eval e X.env) : PE X (.Attribute e f pos) (tFld K ta f) := by subst hK; exact pe_fld he hb
end
/-! ### words for readings -/
theorem scal_ss {a b : Str} : scal (.str a) (.str b) = true := rfl
theorem scal_ii {a b : Int} : scal (.int a) (.int b) = true := rfl
theorem scal_bb {a b : Bool} : scal (.bl a) (.bl b) = true := rfl
theorem scal_ns {b : Str} : scal .non (.str b) = true := rfl
theorem scal_sn {b : Str} : scal (.str b) .non = true := rfl
theorem scal_nn : scal .non .non = true := rfl
theorem scal_in {a : Int} : scal (.int a) .non = true := rfl
theorem scal_ni {a : Int} : scal .non (.int a) = true := rfl
theorem gCons_cons {t : TG} {u : TGs} {x : V} {xs : List V} {σ : L2.St} {H : Hp} {Q : L2.St → Hp → Prop} : gCons t u (x :: xs) σ H Q = t x σ H fun σ' H' => u xs σ' H' Q := propext ⟨fun ⟨v, r, e, h⟩ => by cases e; exact h, fun h => ⟨x, xs, rfl, h⟩⟩
theorem gNil_nil {σ : L2.St} {H : Hp} {Q : L2.St → Hp → Prop} : gNil [] σ H Q = Q σ H := propext ⟨fun h => h.2, fun h => ⟨rfl, h⟩⟩
theorem gTup_ref {K : PySem.W.Frag} {n : Nat} {t : TGs} {a : Addr} {σ : L2.St} {H : Hp} {Q : L2.St → Hp → Prop} : gTup K n t (.ref a) σ H Q = ∃ xs, SqT K H a xs ∧ xs.length = n ∧ t xs σ H Q := propext ⟨fun ⟨_, xs, e, h⟩ => by cases e; exact ⟨xs, h⟩, fun ⟨xs, h⟩ => ⟨a, xs, rfl, h⟩⟩
theorem rSetL_ref {p : Addr} {k : Int} {v : V} {H : Hp} {Q : Hp → Prop} : rSetL (.ref p) (.int k) v H Q = ∃ xs j, H p = some (.lst xs) ∧ ixN xs.length k = some j ∧ Q (upd H p (.lst (xs.set j v))) := propext ⟨fun ⟨_, xs, _, j, e, e2, h⟩ => by cases e; cases e2; exact ⟨xs, j, h⟩, fun ⟨xs, j, h⟩ => ⟨p, xs, k, j, rfl, rfl, h⟩⟩
theorem rCat_ref {l b : Addr} {H : Hp} {Q : VK} : rCat (.ref l) (.ref b) H Q = ∃ xs zs, H l = some (.lst xs) ∧ H b = some (.lst zs) ∧ xs.length + zs.length ≤ sizeLine ∧ ∀ p, H p = none → Q (.ref p) (upd H p (.lst (xs ++ zs))) := propext ⟨fun ⟨_, _, xs, zs, e, e2, h⟩ => by cases e; cases e2; exact ⟨xs, zs, h⟩, fun ⟨xs, zs, h⟩ => ⟨l, b, xs, zs, rfl, rfl, h⟩⟩
theorem rRep_ref {l : Addr} {k : Int} {H : Hp} {Q : VK} : rRep (.ref l) (.int k) H Q = ∃ xs, H l = some (.lst xs) ∧ -(2 ^ 63) ≤ k ∧ k < 2 ^ 63 ∧ xs.length * k.toNat ≤ sizeLine ∧ ∀ p, H p = none → Q (.ref p) (upd H p (.lst (List.replicate k.toNat xs).flatten)) := propext ⟨fun ⟨_, _, xs, e, e2, h⟩ => by cases e; cases e2; exact ⟨xs, h⟩, fun ⟨xs, h⟩ => ⟨l, k, xs, rfl, rfl, h⟩⟩
theorem rJoin_ref {K : PySem.W.Frag} {a : Str} {p : Addr} {H : Hp} {Q : VK} : rJoin K (.str a) [.ref p] H Q = ∃ ys : List Str, (SqL K H p (ys.map V.str) ∨ SqT K H p (ys.map V.str)) ∧ (ys.map (·.length)).sum + ys.length * a.length ≤ 16777216 ∧ Q (.str (Txt.join a ys)) H := propext ⟨fun ⟨_, _, xs, e, e2, h⟩ => by cases e; cases e2; exact ⟨xs, h⟩, fun ⟨xs, h⟩ => ⟨a, p, xs, rfl, rfl, h⟩⟩
theorem rSlL_ref {K : PySem.W.Frag} {a : Addr} {lo hi : Option Int} {H : Hp} {Q : VK} : rSlL K (.ref a) lo hi H Q = ∃ xs, SqL K H a xs ∧ ∀ p, H p = none → Q (.ref p) (upd H p (.lst (cutV xs lo hi))) := propext ⟨fun ⟨_, xs, e, h⟩ => by cases e; exact ⟨xs, h⟩, fun ⟨xs, h⟩ => ⟨a, xs, rfl, h⟩⟩
theorem rIxL_ref {K : PySem.W.Frag} {p : Addr} {i : Int} {H : Hp} {Q : VK} : rIxL K (.ref p) (.int i) H Q = ∃ xs v, SqL K H p xs ∧ atI xs i = some v ∧ Q v H := propext ⟨fun ⟨_, xs, _, v, e, e2, h⟩ => by cases e; cases e2; exact ⟨xs, v, h⟩, fun ⟨xs, v, h⟩ => ⟨p, xs, i, v, rfl, rfl, h⟩⟩
theorem rIxT_ref {K : PySem.W.Frag} {p : Addr} {i : Int} {H : Hp} {Q : VK} : rIxT K (.ref p) (.int i) H Q = ∃ xs v, SqT K H p xs ∧ atI xs i = some v ∧ Q v H := propext ⟨fun ⟨_, xs, _, v, e, e2, h⟩ => by cases e; cases e2; exact ⟨xs, v, h⟩, fun ⟨xs, v, h⟩ => ⟨p, xs, i, v, rfl, rfl, h⟩⟩
theorem rLenK_ref {K : PySem.W.Frag} {p : Addr} {H : Hp} {Q : VK} : rLenK K [.ref p] H Q = ∃ ys, (SqL K H p ys ∨ SqT K H p ys) ∧ Q (.int ys.length) H := propext ⟨fun ⟨_, ys, e, h⟩ => by cases e; exact ⟨ys, h⟩, fun ⟨ys, h⟩ => ⟨p, ys, rfl, h⟩⟩
theorem rAll_ref {K : PySem.W.Frag} {p : Addr} {H : Hp} {Q : VK} : rAll K [.ref p] H Q = ∃ bs : List Bool, SqL K H p (bs.map V.bl) ∧ Q (.bl (bs.all id)) H := propext ⟨fun ⟨_, ys, e, h⟩ => by cases e; exact ⟨ys, h⟩, fun ⟨ys, h⟩ => ⟨p, ys, rfl, h⟩⟩
theorem rIn_ref {K : PySem.W.Frag} {b : Bool} {p : Addr} {x : V} {H : Hp} {Q : VK} : rIn K b x (.ref p) H Q = ∃ xs, (SqL K H p xs ∨ SqT K H p xs) ∧ flatV x = true ∧ xs.all flatV = true ∧ Q (.bl (if b then !inV x xs else inV x xs)) H := propext ⟨fun ⟨_, ys, e, h⟩ => by cases e; exact ⟨ys, h⟩, fun ⟨ys, h⟩ => ⟨p, ys, rfl, h⟩⟩
/-! ### == of data -/
theorem dpAll_map {K : PySem.W.Frag} {H : Hp} {α : Type} {f : α → V} {g : α → PyData} : ∀ {xs : List α}, (∀ a ∈ xs, Dp K H (f a) (g a)) → DpAll K H (xs.map f) (xs.map g)
  | [], _ => .nil
  | a :: r, h => .cons (h a (List.mem_cons_self ..)) (dpAll_map fun b hb => h b (List.mem_cons_of_mem _ hb))
theorem canAll_of : ∀ {ds : List PyData}, (∀ d ∈ ds, d.canLay0 = true) → PyData.canLayAll0 ds = true
  | [], _ => by simp only [PyData.canLayAll0]
  | d :: r, h => by
    simp only [PyData.canLayAll0]
    rw [h d (List.mem_cons_self ..), canAll_of fun b hb => h b (List.mem_cons_of_mem _ hb)]; rfl
theorem depthAll_of {k : Nat} : ∀ {ds : List PyData}, (∀ d ∈ ds, d.depth ≤ k) → PyData.depthAll ds ≤ k
  | [], _ => by simp only [PyData.depthAll]; omega
  | d :: r, h => by
    simp only [PyData.depthAll]
    exact Nat.max_le.mpr ⟨h d (List.mem_cons_self ..), depthAll_of fun b hb => h b (List.mem_cons_of_mem _ hb)⟩
theorem shaped_list {ds : List PyData} (k : Nat) (hk : k ≤ 63) (h : ∀ d ∈ ds, d.canLay0 = true ∧ d.depth ≤ k) : SeqAt.shaped (.list ds) = true := by
  unfold SeqAt.shaped
  refine Bool.and_eq_true_iff.mpr ⟨?_, decide_eq_true ?_⟩
  · simp only [PyData.canLay0]
    exact canAll_of fun d hd => (h d hd).1
  · have := depthAll_of fun d hd => (h d hd).2
    simp only [PyData.depth]
    omega
theorem shaped_tuple {ds : List PyData} (k : Nat) (hk : k ≤ 63) (h : ∀ d ∈ ds, d.canLay0 = true ∧ d.depth ≤ k) : SeqAt.shaped (.tuple ds) = true := by
  unfold SeqAt.shaped
  refine Bool.and_eq_true_iff.mpr ⟨?_, decide_eq_true ?_⟩
  · simp only [PyData.canLay0]
    exact canAll_of fun d hd => (h d hd).1
  · have := depthAll_of fun d hd => (h d hd).2
    simp only [PyData.depth]
    omega
theorem shaped_ints (ns : List Int) : SeqAt.shaped (.list (ns.map PyData.int)) = true := shaped_list 0 (by decide) fun d hd => by
  obtain ⟨n, _, rfl⟩ := List.mem_map.mp hd
  exact ⟨by simp only [PyData.canLay0], by simp only [PyData.depth]; omega⟩
theorem eqv_nil (ds : List PyData) : PyData.eqv (.list ds) (.list []) = ds.isEmpty := by
  cases ds with
  | nil => simp only [PyData.eqv, PyData.eqvAll]; rfl
  | cons d r => simp only [PyData.eqv, PyData.eqvAll]; rfl
theorem cut_last {xs : List V} : cutV xs none (some (-1)) = xs.dropLast := by
  unfold cutV
  rw [HT.sIx_none]
  have e : HT.sIx xs.length xs.length (some (-1)) = xs.length - 1 := by
    unfold HT.sIx
    simp only
    rw [if_pos (show (-1 : Int) < 0 by decide)]
    omega
  rw [e, List.drop_zero, Nat.sub_zero, List.dropLast_eq_take]
/-! ### texts of signs -/
theorem joinL_nil : ∀ ps : List (List Nat), TL.joinL [] ps = ps.flatten
  | [] => rfl
  | [p] => by simp [TL.joinL]
  | p :: q :: r => by
    show p ++ ([] ++ TL.joinL [] (q :: r)) = _
    rw [joinL_nil (q :: r)]; simp
theorem tl_signs (cs : List Nat) : TL.tl (Txt.join (Str.ofString "") (cs.map fun c => (⟨#[c]⟩ : Str))) = cs := by
  rw [TL.join_eq, TL.tl_join, show TL.tl (Str.ofString "") = [] by decide +kernel, joinL_nil, List.map_map]
  induction cs with
  | nil => rfl
  | cons c r ih =>
    show [c] ++ _ = _
    rw [ih]; rfl
end Hk

set_option Elab.async false
set_option linter.all false
set_option maxRecDepth 100000
set_option maxHeartbeats 4000000
/-! Lines and patterns, in plain Lean. -/
namespace Hk
open PySem PySem.Spec PyProof.Rows L2 TL
abbrev letters : Str := "abcdefghijklmnopqrstuvwxyz"
def isWord (z : Str) : Bool := decide (1 ≤ z.length) && (decide (z.length ≤ 4) && (tl z).all fun c => decide (c ∈ tl letters))
def isLine (z : Str) : Bool := decide ((wds z).length ≤ 6) && (wds z).all isWord
/-- without the last one, if that is # -/
def cut (ws : List Str) : List Str := if ws.getLast? = some ("#" : Str) then ws.dropLast else ws
def starOr (z : Str) : Bool := decide (z = ("*" : Str)) || isWord z
def isPat (z : Str) : Bool := decide ((cut (wds z)).length ≤ 6) && (cut (wds z)).all starOr
/-- a pattern's words for lines of n -/
def ofLen (p : Str) (n : Int) : Option (List Str) :=
  let ws := wds p
  let us := if ws.getLast? = some ("#" : Str) then ws.dropLast ++ List.replicate (n - ws.dropLast.length).toNat ("*" : Str) else ws
  if (us.length : Int) = n then some us else none
def fit1 (q : Str × Str) : Bool := decide (q.1 = ("*" : Str)) || decide (q.1 = q.2)
def doesFit (p l : Str) : Bool := match ofLen p (wds l).length with
  | none => false
  | some ws => (ws.zip (wds l)).all fit1
theorem wds_ne (z : Str) : wds z ≠ [] := by
  intro h
  have e := split_spl z "." (by decide +kernel) (kind_ok (by decide +kernel))
  have h2 : (Txt.split z (".": Str)).map tl = [] := by
    show (wds z).map tl = []
    rw [h]; rfl
  rw [h2] at e
  have : ∀ (acc l : List Nat), spl (tl (".": Str)) 0 acc l ≠ [] := by
    intro acc l
    induction l generalizing acc with
    | nil => rw [spl_nil]; simp
    | cons c r ih =>
      cases q : pre (tl (".": Str)) (c :: r) with
      | true => rw [spl_hit q]; simp
      | false => rw [spl_miss q]; exact ih _
  exact this _ _ e.symm
theorem split_len_le (z y : Str) (hy : tl y ≠ []) (hk : ¬ Builtin.Str.strKind z < Builtin.Str.strKind y) : (Txt.split z y).length ≤ z.length + 1 := by
  have e := congrArg List.length (split_spl z y hy hk)
  rw [List.length_map] at e
  rw [e]
  have main : ∀ (k : Nat) (l acc : List Nat), l.length ≤ k → (spl (tl y) 0 acc l).length ≤ l.length + 1 := by
    intro k
    induction k with
    | zero =>
      intro l acc h
      have : l = [] := List.eq_nil_of_length_eq_zero (by omega)
      subst this
      rw [spl_nil]; simp
    | succ k ih =>
      intro l acc h
      cases l with
      | nil => rw [spl_nil]; simp
      | cons c r =>
        cases q : pre (tl y) (c :: r) with
        | true =>
          rw [spl_hit q, spl_pass]
          have := ih (r.drop ((tl y).length - 1)) [] (by simp at h; rw [List.length_drop]; omega)
          rw [List.length_drop] at this
          simp only [List.length_cons]
          omega
        | false =>
          rw [spl_miss q]
          have := ih r (acc ++ [c]) (by simpa using h)
          simp only [List.length_cons]
          omega
  have := main _ (tl z) [] (Nat.le_refl _)
  rw [len_tl]; exact this
theorem wds_len (z : Str) : (wds z).length ≤ z.length + 1 := split_len_le z "." (by decide +kernel) (kind_ok (by decide +kernel))
theorem wds_join {ws : List Str} (hne : ws ≠ []) (h : ∀ p ∈ ws, 46 ∉ tl p) : wds (Txt.join "." ws) = ws :=
  split_join (y := ".") (s := 46) (S := []) (by decide +kernel) (by decide +kernel) hne h
/-- every word that a text is cut into is as long as the text at most -/
theorem split_each_le (z y : Str) (hy : tl y ≠ []) (hk : ¬ Builtin.Str.strKind z < Builtin.Str.strKind y) : ∀ w ∈ Txt.split z y, w.length ≤ z.length := by
  intro w hw
  have e := split_spl z y hy hk
  have hm : tl w ∈ spl (tl y) 0 [] (tl z) := by
    rw [← e]; exact List.mem_map.mpr ⟨w, hw, rfl⟩
  have main : ∀ (k : Nat) (l acc : List Nat), l.length ≤ k → ∀ x ∈ spl (tl y) 0 acc l, x.length ≤ acc.length + l.length := by
    intro k
    induction k with
    | zero =>
      intro l acc h x hx
      have : l = [] := List.eq_nil_of_length_eq_zero (by omega)
      subst this
      rw [spl_nil] at hx
      simp at hx; subst hx; simp
    | succ k ih =>
      intro l acc h x hx
      cases l with
      | nil => rw [spl_nil] at hx; simp at hx; subst hx; simp
      | cons c r =>
        cases q : pre (tl y) (c :: r) with
        | true =>
          rw [spl_hit q, spl_pass] at hx
          rcases List.mem_cons.mp hx with rfl | hx
          · simp
          · have := ih (r.drop ((tl y).length - 1)) [] (by simp at h; rw [List.length_drop]; omega) x hx
            rw [List.length_drop] at this
            simp only [List.length_cons, List.length_nil] at this ⊢
            omega
        | false =>
          rw [spl_miss q] at hx
          have := ih r (acc ++ [c]) (by simpa using h) x hx
          simp only [List.length_cons, List.length_append, List.length_nil] at this ⊢
          omega
  have := main _ (tl z) [] (Nat.le_refl _) _ hm
  rw [len_tl w, len_tl z]
  simpa using this
theorem wds_each (z : Str) : ∀ w ∈ wds z, w.length ≤ z.length := split_each_le z "." (by decide +kernel) (kind_ok (by decide +kernel))
theorem sum_le {ws : List Str} {k : Nat} (h : ∀ w ∈ ws, w.length ≤ k) : (ws.map (·.length)).sum ≤ ws.length * k := by
  induction ws with
  | nil => simp
  | cons a r ih =>
    have h1 := h a (List.mem_cons_self ..)
    have h2 := ih fun w hw => h w (List.mem_cons_of_mem _ hw)
    simp only [List.map_cons, List.sum_cons, List.length_cons]
    rw [Nat.add_mul]; omega
theorem sum_one (cs : List Nat) : ((cs.map fun c => (⟨#[c]⟩ : Str)).map (·.length)).sum = cs.length := by
  induction cs with
  | nil => rfl
  | cons a r ih =>
    simp only [List.map_cons, List.sum_cons, List.length_cons]
    rw [ih]
    show 1 + r.length = _
    omega
theorem joinL_len (S : List Nat) : ∀ ps : List (List Nat), (joinL S ps).length ≤ (ps.map List.length).sum + ps.length * S.length
  | [] => by simp [joinL]
  | [p] => by simp [joinL]
  | p :: q :: r => by
    have := joinL_len S (q :: r)
    show (p ++ (S ++ joinL S (q :: r))).length ≤ _
    simp only [List.length_append, List.map_cons, List.sum_cons, List.length_cons] at this ⊢
    rw [Nat.add_mul _ 1, Nat.one_mul]
    omega
theorem join_len (s : Str) (ws : List Str) : (Txt.join s ws).length ≤ (ws.map (·.length)).sum + ws.length * s.length := by
  have := joinL_len (tl s) (ws.map tl)
  rw [len_tl (Txt.join s ws), join_eq, tl_join, len_tl s]
  rw [List.map_map, List.length_map] at this
  have e : (ws.map (List.length ∘ tl)) = ws.map (·.length) := List.map_congr_left fun w _ => (len_tl w).symm
  rw [e] at this
  exact this
theorem joinD_len {ws : List Str} {k : Nat} (h : ∀ w ∈ ws, w.length ≤ k) : (Txt.join "." ws).length ≤ ws.length * (k + 1) := by
  have h1 := join_len "." ws
  have h2 := sum_le h
  have e : ("." : Str).length = 1 := by decide +kernel
  rw [e] at h1
  rw [Nat.mul_add]
  omega
theorem letters_in : ∀ c ∈ tl letters, 97 ≤ c ∧ c ≤ 122 := by decide +kernel
theorem word_signs {z : Str} (h : isWord z = true) : 1 ≤ z.length ∧ z.length ≤ 4 ∧ ∀ c ∈ tl z, 97 ≤ c ∧ c ≤ 122 := by
  unfold isWord at h
  simp only [Bool.and_eq_true, decide_eq_true_eq, List.all_eq_true] at h
  exact ⟨h.1, h.2.1, fun c hc => letters_in c (h.2.2 c hc)⟩
theorem star_signs {z : Str} (h : starOr z = true) : z.length ≤ 4 ∧ (∀ c ∈ tl z, c = 42 ∨ (97 ≤ c ∧ c ≤ 122)) ∧ z ≠ ("#" : Str) := by
  unfold starOr at h
  rcases Bool.or_eq_true_iff.mp h with h | h
  · have e := of_decide_eq_true h
    subst e
    refine ⟨by decide +kernel, ?_, by decide +kernel⟩
    have : tl ("*" : Str) = [42] := by decide +kernel
    rw [this]
    intro c hc; left; simpa using hc
  · obtain ⟨h1, h2, h3⟩ := word_signs h
    refine ⟨h2, fun c hc => .inr (h3 c hc), fun e => ?_⟩
    subst e
    have := h3 35 (by decide +kernel)
    omega
theorem word_star {z : Str} (h : isWord z = true) : starOr z = true := by unfold starOr; rw [h]; simp
theorem star_nodot {z : Str} (h : starOr z = true) : 46 ∉ tl z := fun hc => by
  rcases (star_signs h).2.1 46 hc with e | e
  · cases e
  · omega
/-- a pattern of such words; with # behind -/
theorem isPat_join {us : List Str} (hne : us ≠ []) (hl : us.length ≤ 6) (h : ∀ u ∈ us, starOr u = true) : isPat (Txt.join "." us) = true := by
  have e : wds (Txt.join "." us) = us := wds_join hne fun p hp => star_nodot (h p hp)
  unfold isPat
  rw [e]
  have ec : cut us = us := by
    unfold cut
    refine if_neg fun z => ?_
    have := List.mem_of_getLast? z
    exact (star_signs (h _ this)).2.2 rfl
  rw [ec, decide_eq_true hl, List.all_eq_true.mpr h]; rfl
theorem isPat_hash {us : List Str} (hl : us.length ≤ 6) (h : ∀ u ∈ us, starOr u = true) : isPat (Txt.join "." (us ++ [("#" : Str)])) = true := by
  have e : wds (Txt.join "." (us ++ [("#" : Str)])) = us ++ [("#" : Str)] := wds_join (by simp) fun p hp => by
    rcases List.mem_append.mp hp with hp | hp
    · exact star_nodot (h p hp)
    · rw [List.mem_singleton.mp hp]; decide +kernel
  unfold isPat
  rw [e]
  have ec : cut (us ++ [("#" : Str)]) = us := by
    unfold cut
    rw [if_pos (by simp)]
    simp
  rw [ec, decide_eq_true hl, List.all_eq_true.mpr h]; rfl
theorem isLine_join {us : List Str} (hne : us ≠ []) (hl : us.length ≤ 6) (h : ∀ u ∈ us, isWord u = true) : isLine (Txt.join "." us) = true := by
  have e : wds (Txt.join "." us) = us := wds_join hne fun p hp => star_nodot (word_star (h p hp))
  unfold isLine
  rw [e, decide_eq_true hl, List.all_eq_true.mpr h]; rfl
/-- words of few letters, one to four of them each -/
def fewWord (z : Str) : Prop := 1 ≤ z.length ∧ z.length ≤ 4 ∧ ∀ c ∈ tl z, c = 97 ∨ c = 98 ∨ c = 122
theorem few_word {z : Str} (h : fewWord z) : isWord z = true := by
  unfold isWord
  rw [decide_eq_true h.1, decide_eq_true h.2.1, Bool.true_and, Bool.true_and, List.all_eq_true]
  intro c hc
  refine decide_eq_true ?_
  rcases h.2.2 c hc with e | e | e
  · rw [e]; decide +kernel
  · rw [e]; decide +kernel
  · rw [e]; decide +kernel
end Hk

set_option Elab.async false
set_option linter.all false
set_option maxRecDepth 100000
set_option maxHeartbeats 4000000
namespace Hk
open PySem PySem.Spec PyProof.Rows L2
def topS (i : Nat) : Stmt := PySem.Challenge.pw_hearken_k02_which_lines_fit.main.body.getD i (.Pass ⟨0, 0, 0, 0⟩)
abbrev s_is_word : Stmt := topS 10
abbrev N_is_word : List Str := ["part", "sign"]
abbrev p_is_word : List Str := ["part"]
theorem sc_is_word : FnScope N_is_word p_is_word (defScope s_is_word) := ⟨rfl, rfl, rfl, by decide +kernel, rfl, by decide +kernel, by decide +kernel⟩
def d_is_word : He.DefD := ⟨("is_word", none), "is_word", "is_word", defArgs s_is_word, defBody s_is_word, defScope s_is_word, [], []⟩
abbrev F_is_word (K : PySem.W.Frag) (f : Addr) (fd : FuncData) : Prop := FunD K "is_word" "is_word" (defArgs s_is_word) (defBody s_is_word) (defScope s_is_word) [] [] f fd
abbrev s_is_line : Stmt := topS 11
abbrev N_is_line : List Str := ["text", "words", "word"]
abbrev p_is_line : List Str := ["text"]
theorem sc_is_line : FnScope N_is_line p_is_line (defScope s_is_line) := ⟨rfl, rfl, rfl, by decide +kernel, rfl, by decide +kernel, by decide +kernel⟩
def d_is_line : He.DefD := ⟨("is_line", none), "is_line", "is_line", defArgs s_is_line, defBody s_is_line, defScope s_is_line, [], []⟩
abbrev F_is_line (K : PySem.W.Frag) (f : Addr) (fd : FuncData) : Prop := FunD K "is_line" "is_line" (defArgs s_is_line) (defBody s_is_line) (defScope s_is_line) [] [] f fd
abbrev s_is_pattern : Stmt := topS 12
abbrev N_is_pattern : List Str := ["text", "words", "word"]
abbrev p_is_pattern : List Str := ["text"]
theorem sc_is_pattern : FnScope N_is_pattern p_is_pattern (defScope s_is_pattern) := ⟨rfl, rfl, rfl, by decide +kernel, rfl, by decide +kernel, by decide +kernel⟩
def d_is_pattern : He.DefD := ⟨("is_pattern", none), "is_pattern", "is_pattern", defArgs s_is_pattern, defBody s_is_pattern, defScope s_is_pattern, [], []⟩
abbrev F_is_pattern (K : PySem.W.Frag) (f : Addr) (fd : FuncData) : Prop := FunD K "is_pattern" "is_pattern" (defArgs s_is_pattern) (defBody s_is_pattern) (defScope s_is_pattern) [] [] f fd
abbrev s_need_line : Stmt := topS 13
abbrev N_need_line : List Str := ["text"]
abbrev p_need_line : List Str := ["text"]
theorem sc_need_line : FnScope N_need_line p_need_line (defScope s_need_line) := ⟨rfl, rfl, rfl, by decide +kernel, rfl, by decide +kernel, by decide +kernel⟩
def d_need_line : He.DefD := ⟨("need_line", none), "need_line", "need_line", defArgs s_need_line, defBody s_need_line, defScope s_need_line, [], []⟩
abbrev F_need_line (K : PySem.W.Frag) (f : Addr) (fd : FuncData) : Prop := FunD K "need_line" "need_line" (defArgs s_need_line) (defBody s_need_line) (defScope s_need_line) [] [] f fd
abbrev s_need_pattern : Stmt := topS 14
abbrev N_need_pattern : List Str := ["text"]
abbrev p_need_pattern : List Str := ["text"]
theorem sc_need_pattern : FnScope N_need_pattern p_need_pattern (defScope s_need_pattern) := ⟨rfl, rfl, rfl, by decide +kernel, rfl, by decide +kernel, by decide +kernel⟩
def d_need_pattern : He.DefD := ⟨("need_pattern", none), "need_pattern", "need_pattern", defArgs s_need_pattern, defBody s_need_pattern, defScope s_need_pattern, [], []⟩
abbrev F_need_pattern (K : PySem.W.Frag) (f : Addr) (fd : FuncData) : Prop := FunD K "need_pattern" "need_pattern" (defArgs s_need_pattern) (defBody s_need_pattern) (defScope s_need_pattern) [] [] f fd
abbrev s_of_length : Stmt := topS 15
abbrev N_of_length : List Str := ["pattern", "many", "words"]
abbrev p_of_length : List Str := ["pattern", "many"]
theorem sc_of_length : FnScope N_of_length p_of_length (defScope s_of_length) := ⟨rfl, rfl, rfl, by decide +kernel, rfl, by decide +kernel, by decide +kernel⟩
def d_of_length : He.DefD := ⟨("of_length", none), "of_length", "of_length", defArgs s_of_length, defBody s_of_length, defScope s_of_length, [], []⟩
abbrev F_of_length (K : PySem.W.Frag) (f : Addr) (fd : FuncData) : Prop := FunD K "of_length" "of_length" (defArgs s_of_length) (defBody s_of_length) (defScope s_of_length) [] [] f fd
abbrev s_does_fit : Stmt := topS 16
abbrev N_does_fit : List Str := ["pattern", "line", "parts", "words", "word", "part"]
abbrev p_does_fit : List Str := ["pattern", "line"]
theorem sc_does_fit : FnScope N_does_fit p_does_fit (defScope s_does_fit) := ⟨rfl, rfl, rfl, by decide +kernel, rfl, by decide +kernel, by decide +kernel⟩
def d_does_fit : He.DefD := ⟨("does_fit", none), "does_fit", "does_fit", defArgs s_does_fit, defBody s_does_fit, defScope s_does_fit, [], []⟩
abbrev F_does_fit (K : PySem.W.Frag) (f : Addr) (fd : FuncData) : Prop := FunD K "does_fit" "does_fit" (defArgs s_does_fit) (defBody s_does_fit) (defScope s_does_fit) [] [] f fd
abbrev s_fits : Stmt := topS 17
abbrev N_fits : List Str := ["pattern", "line"]
abbrev p_fits : List Str := ["pattern", "line"]
theorem sc_fits : FnScope N_fits p_fits (defScope s_fits) := ⟨rfl, rfl, rfl, by decide +kernel, rfl, by decide +kernel, by decide +kernel⟩
def d_fits : He.DefD := ⟨("fits", none), "fits", "fits", defArgs s_fits, defBody s_fits, defScope s_fits, [], []⟩
abbrev F_fits (K : PySem.W.Frag) (f : Addr) (fd : FuncData) : Prop := FunD K "fits" "fits" (defArgs s_fits) (defBody s_fits) (defScope s_fits) [] [] f fd
abbrev s_law_mix : Stmt := topS 19
abbrev N_law_mix : List Str := ["_law_script", "_law_seed", "_law_mixed", "_law_cell"]
abbrev p_law_mix : List Str := ["_law_script", "_law_seed"]
theorem sc_law_mix : FnScope N_law_mix p_law_mix (defScope s_law_mix) := ⟨rfl, rfl, rfl, by decide +kernel, rfl, by decide +kernel, by decide +kernel⟩
def d_law_mix : He.DefD := ⟨("_law_mix", none), "_law_mix", "_law_mix", defArgs s_law_mix, defBody s_law_mix, defScope s_law_mix, [], []⟩
abbrev F_law_mix (K : PySem.W.Frag) (f : Addr) (fd : FuncData) : Prop := FunD K "_law_mix" "_law_mix" (defArgs s_law_mix) (defBody s_law_mix) (defScope s_law_mix) [] [] f fd
abbrev s_law_next : Stmt := topS 20
abbrev N_law_next : List Str := ["_law_h", "_law_many", "_law_cell"]
abbrev p_law_next : List Str := ["_law_h", "_law_many"]
theorem sc_law_next : FnScope N_law_next p_law_next (defScope s_law_next) := ⟨rfl, rfl, rfl, by decide +kernel, rfl, by decide +kernel, by decide +kernel⟩
def d_law_next : He.DefD := ⟨("_law_next", none), "_law_next", "_law_next", defArgs s_law_next, defBody s_law_next, defScope s_law_next, [], []⟩
abbrev F_law_next (K : PySem.W.Frag) (f : Addr) (fd : FuncData) : Prop := FunD K "_law_next" "_law_next" (defArgs s_law_next) (defBody s_law_next) (defScope s_law_next) [] [] f fd
abbrev s_law_parts : Stmt := topS 21
abbrev N_law_parts : List Str := ["_law_pattern_here", "_law_wide", "_law_words"]
abbrev p_law_parts : List Str := ["_law_pattern_here", "_law_wide"]
theorem sc_law_parts : FnScope N_law_parts p_law_parts (defScope s_law_parts) := ⟨rfl, rfl, rfl, by decide +kernel, rfl, by decide +kernel, by decide +kernel⟩
def d_law_parts : He.DefD := ⟨("_law_parts", none), "_law_parts", "_law_parts", defArgs s_law_parts, defBody s_law_parts, defScope s_law_parts, [], []⟩
abbrev F_law_parts (K : PySem.W.Frag) (f : Addr) (fd : FuncData) : Prop := FunD K "_law_parts" "_law_parts" (defArgs s_law_parts) (defBody s_law_parts) (defScope s_law_parts) [] [] f fd
abbrev s_law_fits : Stmt := topS 22
abbrev N_law_fits : List Str := ["_law_pattern_here", "_law_line_here", "_law_parts_here", "_law_words", "_law_k"]
abbrev p_law_fits : List Str := ["_law_pattern_here", "_law_line_here"]
theorem sc_law_fits : FnScope N_law_fits p_law_fits (defScope s_law_fits) := ⟨rfl, rfl, rfl, by decide +kernel, rfl, by decide +kernel, by decide +kernel⟩
def d_law_fits : He.DefD := ⟨("_law_fits", none), "_law_fits", "_law_fits", defArgs s_law_fits, defBody s_law_fits, defScope s_law_fits, [], []⟩
abbrev F_law_fits (K : PySem.W.Frag) (f : Addr) (fd : FuncData) : Prop := FunD K "_law_fits" "_law_fits" (defArgs s_law_fits) (defBody s_law_fits) (defScope s_law_fits) [] [] f fd
abbrev s_law_line : Stmt := topS 23
abbrev N_law_line : List Str := ["_law_h", "_law_wide", "_law_few", "_law_j", "_law_k"]
abbrev p_law_line : List Str := ["_law_h", "_law_wide", "_law_few"]
theorem sc_law_line : FnScope N_law_line p_law_line (defScope s_law_line) := ⟨rfl, rfl, rfl, by decide +kernel, rfl, by decide +kernel, by decide +kernel⟩
def d_law_line : He.DefD := ⟨("_law_line", none), "_law_line", "_law_line", defArgs s_law_line, defBody s_law_line, defScope s_law_line, [], []⟩
abbrev F_law_line (K : PySem.W.Frag) (f : Addr) (fd : FuncData) : Prop := FunD K "_law_line" "_law_line" (defArgs s_law_line) (defBody s_law_line) (defScope s_law_line) [] [] f fd
abbrev s_law_pattern : Stmt := topS 24
abbrev N_law_pattern : List Str := ["_law_h", "_law_wide", "_law_few", "_law_words", "_law_word", "_law_way"]
abbrev p_law_pattern : List Str := ["_law_h", "_law_wide", "_law_few"]
theorem sc_law_pattern : FnScope N_law_pattern p_law_pattern (defScope s_law_pattern) := ⟨rfl, rfl, rfl, by decide +kernel, rfl, by decide +kernel, by decide +kernel⟩
def d_law_pattern : He.DefD := ⟨("_law_pattern", none), "_law_pattern", "_law_pattern", defArgs s_law_pattern, defBody s_law_pattern, defScope s_law_pattern, [], []⟩
abbrev F_law_pattern (K : PySem.W.Frag) (f : Addr) (fd : FuncData) : Prop := FunD K "_law_pattern" "_law_pattern" (defArgs s_law_pattern) (defBody s_law_pattern) (defScope s_law_pattern) [] [] f fd
abbrev s_law : Stmt := topS 25
abbrev N_law : List Str := ["_law_script", "_law_h", "_law_turn", "_law_pattern_here", "_law_line_here"]
abbrev p_law : List Str := ["_law_script"]
theorem sc_law : FnScope N_law p_law (defScope s_law) := ⟨rfl, rfl, rfl, by decide +kernel, rfl, by decide +kernel, by decide +kernel⟩
def d_law : He.DefD := ⟨("law", none), "law", "law", defArgs s_law, defBody s_law, defScope s_law, [], []⟩
abbrev F_law (K : PySem.W.Frag) (f : Addr) (fd : FuncData) : Prop := FunD K "law" "law" (defArgs s_law) (defBody s_law) (defScope s_law) [] [] f fd
def fa : List He.Fa := [.free "len", .int "MOST_LETTERS" 4, .free "all", .str "LETTERS" "abcdefghijklmnopqrstuvwxyz", .int "MOST_WORDS" 6, .str "REST" "#", .str "ANY" "*", .glo "BadLine", .exc "BadLine", .glo "BadPattern", .exc "BadPattern", .free "zip", .free "list", .free "max", .free "range", .glo "is_word", .glo "is_line", .glo "is_pattern", .glo "need_line", .glo "need_pattern", .glo "of_length", .glo "does_fit", .glo "fits", .glo "_law_mix", .glo "_law_next", .glo "_law_parts", .glo "_law_fits", .glo "_law_line", .glo "_law_pattern", .glo "law"]
def fn : List He.DefD := [d_is_word, d_is_line, d_is_pattern, d_need_line, d_need_pattern, d_of_length, d_does_fit, d_fits, d_law_mix, d_law_next, d_law_parts, d_law_fits, d_law_line, d_law_pattern, d_law]
def Tx (K : PySem.W.Frag) (mg : Str → Option Value) : Prop := ∃ h : Heap, K.In h ∧ h.Ns mainGlobals mg ∧ He.SaysD fa fn K
section
variable {K : PySem.W.Frag} {mg : Str → Option Value}
theorem Tx.b_len (T : Tx K mg) : mg "len" = none := by obtain ⟨h, X, G, c⟩ := T; exact He.free_ok X G (c.fact 0 (f := .free "len") rfl)
theorem Tx.c_MOST_LETTERS (T : Tx K mg) : ∃ t, mg "MOST_LETTERS" = some (.int 4 t) := by obtain ⟨h, X, G, c⟩ := T; exact He.int_ok X G (c.fact 1 (f := .int "MOST_LETTERS" 4) rfl)
theorem Tx.b_all (T : Tx K mg) : mg "all" = none := by obtain ⟨h, X, G, c⟩ := T; exact He.free_ok X G (c.fact 2 (f := .free "all") rfl)
theorem Tx.c_LETTERS (T : Tx K mg) : ∃ t, mg "LETTERS" = some (.str "abcdefghijklmnopqrstuvwxyz" t) := by obtain ⟨h, X, G, c⟩ := T; exact He.str_ok X G (c.fact 3 (f := .str "LETTERS" "abcdefghijklmnopqrstuvwxyz") rfl)
theorem Tx.c_MOST_WORDS (T : Tx K mg) : ∃ t, mg "MOST_WORDS" = some (.int 6 t) := by obtain ⟨h, X, G, c⟩ := T; exact He.int_ok X G (c.fact 4 (f := .int "MOST_WORDS" 6) rfl)
theorem Tx.c_REST (T : Tx K mg) : ∃ t, mg "REST" = some (.str "#" t) := by obtain ⟨h, X, G, c⟩ := T; exact He.str_ok X G (c.fact 5 (f := .str "REST" "#") rfl)
theorem Tx.c_ANY (T : Tx K mg) : ∃ t, mg "ANY" = some (.str "*" t) := by obtain ⟨h, X, G, c⟩ := T; exact He.str_ok X G (c.fact 6 (f := .str "ANY" "*") rfl)
theorem Tx.g_BadLine (T : Tx K mg) : mg "BadLine" = some (.ref (He.ga K "BadLine")) := by obtain ⟨h, X, G, c⟩ := T; exact He.glo_ok X G (c.fact 7 (f := .glo "BadLine") rfl)
theorem Tx.x_BadLine (T : Tx K mg) : PySem.W.excIn K (He.ga K "BadLine") He.veBase "ValueError.__new__" = true ∧ PySem.W.keepIn K (.ref (He.ga K "BadLine")) = true ∧ PySem.W.subIn K (.ref (He.ga K "BadLine")) (.type "BaseException") = some true ∧ PySem.W.typeIn K (.ref (He.ga K "BadLine")) = some (.type "type") := by obtain ⟨h, X, G, c⟩ := T; exact He.exc_ok (c.fact 8 (f := .exc "BadLine") rfl)
theorem Tx.g_BadPattern (T : Tx K mg) : mg "BadPattern" = some (.ref (He.ga K "BadPattern")) := by obtain ⟨h, X, G, c⟩ := T; exact He.glo_ok X G (c.fact 9 (f := .glo "BadPattern") rfl)
theorem Tx.x_BadPattern (T : Tx K mg) : PySem.W.excIn K (He.ga K "BadPattern") He.veBase "ValueError.__new__" = true ∧ PySem.W.keepIn K (.ref (He.ga K "BadPattern")) = true ∧ PySem.W.subIn K (.ref (He.ga K "BadPattern")) (.type "BaseException") = some true ∧ PySem.W.typeIn K (.ref (He.ga K "BadPattern")) = some (.type "type") := by obtain ⟨h, X, G, c⟩ := T; exact He.exc_ok (c.fact 10 (f := .exc "BadPattern") rfl)
theorem Tx.b_zip (T : Tx K mg) : mg "zip" = none := by obtain ⟨h, X, G, c⟩ := T; exact He.free_ok X G (c.fact 11 (f := .free "zip") rfl)
theorem Tx.b_list (T : Tx K mg) : mg "list" = none := by obtain ⟨h, X, G, c⟩ := T; exact He.free_ok X G (c.fact 12 (f := .free "list") rfl)
theorem Tx.b_max (T : Tx K mg) : mg "max" = none := by obtain ⟨h, X, G, c⟩ := T; exact He.free_ok X G (c.fact 13 (f := .free "max") rfl)
theorem Tx.b_range (T : Tx K mg) : mg "range" = none := by obtain ⟨h, X, G, c⟩ := T; exact He.free_ok X G (c.fact 14 (f := .free "range") rfl)
theorem Tx.g_is_word (T : Tx K mg) : mg "is_word" = some (.ref (He.ga K "is_word")) := by obtain ⟨h, X, G, c⟩ := T; exact He.glo_ok X G (c.fact 15 (f := .glo "is_word") rfl)
theorem Tx.g_is_line (T : Tx K mg) : mg "is_line" = some (.ref (He.ga K "is_line")) := by obtain ⟨h, X, G, c⟩ := T; exact He.glo_ok X G (c.fact 16 (f := .glo "is_line") rfl)
theorem Tx.g_is_pattern (T : Tx K mg) : mg "is_pattern" = some (.ref (He.ga K "is_pattern")) := by obtain ⟨h, X, G, c⟩ := T; exact He.glo_ok X G (c.fact 17 (f := .glo "is_pattern") rfl)
theorem Tx.g_need_line (T : Tx K mg) : mg "need_line" = some (.ref (He.ga K "need_line")) := by obtain ⟨h, X, G, c⟩ := T; exact He.glo_ok X G (c.fact 18 (f := .glo "need_line") rfl)
theorem Tx.g_need_pattern (T : Tx K mg) : mg "need_pattern" = some (.ref (He.ga K "need_pattern")) := by obtain ⟨h, X, G, c⟩ := T; exact He.glo_ok X G (c.fact 19 (f := .glo "need_pattern") rfl)
theorem Tx.g_of_length (T : Tx K mg) : mg "of_length" = some (.ref (He.ga K "of_length")) := by obtain ⟨h, X, G, c⟩ := T; exact He.glo_ok X G (c.fact 20 (f := .glo "of_length") rfl)
theorem Tx.g_does_fit (T : Tx K mg) : mg "does_fit" = some (.ref (He.ga K "does_fit")) := by obtain ⟨h, X, G, c⟩ := T; exact He.glo_ok X G (c.fact 21 (f := .glo "does_fit") rfl)
theorem Tx.g_fits (T : Tx K mg) : mg "fits" = some (.ref (He.ga K "fits")) := by obtain ⟨h, X, G, c⟩ := T; exact He.glo_ok X G (c.fact 22 (f := .glo "fits") rfl)
theorem Tx.g__law_mix (T : Tx K mg) : mg "_law_mix" = some (.ref (He.ga K "_law_mix")) := by obtain ⟨h, X, G, c⟩ := T; exact He.glo_ok X G (c.fact 23 (f := .glo "_law_mix") rfl)
theorem Tx.g__law_next (T : Tx K mg) : mg "_law_next" = some (.ref (He.ga K "_law_next")) := by obtain ⟨h, X, G, c⟩ := T; exact He.glo_ok X G (c.fact 24 (f := .glo "_law_next") rfl)
theorem Tx.g__law_parts (T : Tx K mg) : mg "_law_parts" = some (.ref (He.ga K "_law_parts")) := by obtain ⟨h, X, G, c⟩ := T; exact He.glo_ok X G (c.fact 25 (f := .glo "_law_parts") rfl)
theorem Tx.g__law_fits (T : Tx K mg) : mg "_law_fits" = some (.ref (He.ga K "_law_fits")) := by obtain ⟨h, X, G, c⟩ := T; exact He.glo_ok X G (c.fact 26 (f := .glo "_law_fits") rfl)
theorem Tx.g__law_line (T : Tx K mg) : mg "_law_line" = some (.ref (He.ga K "_law_line")) := by obtain ⟨h, X, G, c⟩ := T; exact He.glo_ok X G (c.fact 27 (f := .glo "_law_line") rfl)
theorem Tx.g__law_pattern (T : Tx K mg) : mg "_law_pattern" = some (.ref (He.ga K "_law_pattern")) := by obtain ⟨h, X, G, c⟩ := T; exact He.glo_ok X G (c.fact 28 (f := .glo "_law_pattern") rfl)
theorem Tx.g_law (T : Tx K mg) : mg "law" = some (.ref (He.ga K "law")) := by obtain ⟨h, X, G, c⟩ := T; exact He.glo_ok X G (c.fact 29 (f := .glo "law") rfl)
theorem Tx.f_is_word (T : Tx K mg) : ∃ fd, F_is_word K (He.fAd K d_is_word.at_) fd := by obtain ⟨h, X, G, c⟩ := T; exact c.def_ 0 (d := d_is_word) rfl
theorem Tx.f_is_line (T : Tx K mg) : ∃ fd, F_is_line K (He.fAd K d_is_line.at_) fd := by obtain ⟨h, X, G, c⟩ := T; exact c.def_ 1 (d := d_is_line) rfl
theorem Tx.f_is_pattern (T : Tx K mg) : ∃ fd, F_is_pattern K (He.fAd K d_is_pattern.at_) fd := by obtain ⟨h, X, G, c⟩ := T; exact c.def_ 2 (d := d_is_pattern) rfl
theorem Tx.f_need_line (T : Tx K mg) : ∃ fd, F_need_line K (He.fAd K d_need_line.at_) fd := by obtain ⟨h, X, G, c⟩ := T; exact c.def_ 3 (d := d_need_line) rfl
theorem Tx.f_need_pattern (T : Tx K mg) : ∃ fd, F_need_pattern K (He.fAd K d_need_pattern.at_) fd := by obtain ⟨h, X, G, c⟩ := T; exact c.def_ 4 (d := d_need_pattern) rfl
theorem Tx.f_of_length (T : Tx K mg) : ∃ fd, F_of_length K (He.fAd K d_of_length.at_) fd := by obtain ⟨h, X, G, c⟩ := T; exact c.def_ 5 (d := d_of_length) rfl
theorem Tx.f_does_fit (T : Tx K mg) : ∃ fd, F_does_fit K (He.fAd K d_does_fit.at_) fd := by obtain ⟨h, X, G, c⟩ := T; exact c.def_ 6 (d := d_does_fit) rfl
theorem Tx.f_fits (T : Tx K mg) : ∃ fd, F_fits K (He.fAd K d_fits.at_) fd := by obtain ⟨h, X, G, c⟩ := T; exact c.def_ 7 (d := d_fits) rfl
theorem Tx.f_law_mix (T : Tx K mg) : ∃ fd, F_law_mix K (He.fAd K d_law_mix.at_) fd := by obtain ⟨h, X, G, c⟩ := T; exact c.def_ 8 (d := d_law_mix) rfl
theorem Tx.f_law_next (T : Tx K mg) : ∃ fd, F_law_next K (He.fAd K d_law_next.at_) fd := by obtain ⟨h, X, G, c⟩ := T; exact c.def_ 9 (d := d_law_next) rfl
theorem Tx.f_law_parts (T : Tx K mg) : ∃ fd, F_law_parts K (He.fAd K d_law_parts.at_) fd := by obtain ⟨h, X, G, c⟩ := T; exact c.def_ 10 (d := d_law_parts) rfl
theorem Tx.f_law_fits (T : Tx K mg) : ∃ fd, F_law_fits K (He.fAd K d_law_fits.at_) fd := by obtain ⟨h, X, G, c⟩ := T; exact c.def_ 11 (d := d_law_fits) rfl
theorem Tx.f_law_line (T : Tx K mg) : ∃ fd, F_law_line K (He.fAd K d_law_line.at_) fd := by obtain ⟨h, X, G, c⟩ := T; exact c.def_ 12 (d := d_law_line) rfl
theorem Tx.f_law_pattern (T : Tx K mg) : ∃ fd, F_law_pattern K (He.fAd K d_law_pattern.at_) fd := by obtain ⟨h, X, G, c⟩ := T; exact c.def_ 13 (d := d_law_pattern) rfl
theorem Tx.f_law (T : Tx K mg) : ∃ fd, F_law K (He.fAd K d_law.at_) fd := by obtain ⟨h, X, G, c⟩ := T; exact c.def_ 14 (d := d_law) rfl
end
end Hk

set_option Elab.async false
set_option linter.all false
set_option maxRecDepth 100000
set_option maxHeartbeats 4000000
namespace Hk
open PySem PySem.Spec PyProof.Rows L2
open TL
section
variable {P : Program} {w : World} {K : PySem.W.Frag} {mg : Str → Option Value} {base : Heap}
/-! ### is_word -/
def sp_is_word : Sp := fun vs H Q _ => ∃ z : Str, vs = [.str z] ∧ z.length ≤ 10000 ∧ ∀ H', Same H H' → Q (.bl (isWord z)) H'
theorem G_is_word (T : Tx K mg) : Glob P w K mg base (CX0) 1 "is_word" p_is_word [] sp_is_word := by
  obtain ⟨fd, F⟩ := T.f_is_word
  refine ⟨_, fd, [], F.ok sc_is_word (fun vs H Q E h => ?_) (fun cdv A outer s H vs Q E hr h => ?_), T.g_is_word, F.kp, .nil, F.bindsN fun _ _ _ _ _ _ us hl => match us, hl with | [_], _ => rfl⟩
  · obtain ⟨z, rfl, _⟩ := h; rfl
  · obtain ⟨z, rfl, hz, q⟩ := h
    refine ⟨_, PSs.nox (pss_one (ps_ret (pe_and (pe_chain op_le op_le pe_int (pe_callB call_len_str (by rfl) T.b_len (by decide +kernel) (pa_cons (pv 0) pa_nil)) (pe_gi T.c_MOST_LETTERS (by rfl))) (pe_one (pe_callB (cr_allK (K := K) rfl rfl) (by rfl) T.b_all (by decide +kernel) (pa_cons (pe_lc (own := [("sign", 1)]) (g := (gName 1)) (tt := tYes) rfl sc_is_word.nd (pi_str (pv 0)) (blkOk_by (by kernel_rfl)) (fun _ _ _ _ _ => (pg_name (i := 1) sc_is_word.nd rfl (Or.inl rfl))) (fun _ _ _ _ _ => pts_nil) (fun _ _ _ _ _ => (pe_cmpR op_in_sign (pv 1) (pe_gs T.c_LETTERS (by rfl)) (by rfl)))) pa_nil)))))), ?_⟩
    simp only [tRet, tRetN, tAndV, tOrV, tNotV, tChain, rI, rI0, rU, tC, tCB, tCons, tNil, tVar, tOp, tUn, tTest, tB, tAnd, tOr, tNot, tIf, tIfS, tSeq, tAsg, tDrop, tNext, gName, gTup_ref, gCons_cons, gNil_nil, and_assoc, tYes, wipe, rEq, rNe, scal_ss, scal_ii, scal_bb, scal_ns, scal_sn, scal_nn, scal_in, scal_ni, tLc_eq, tFor_eq, iList, iTup, iStr, iRng1, iRng2, iZip, iEnum, gSub, tSl, rSetL_ref, rCat_ref, rRep_ref, rJoin_ref, rSlL_ref, rIxL_ref, rIxT_ref, rLenK_ref, rAll_ref, rIn_ref, tLst, tTup, tPar, tPar3, tAug, tPart, tNoPart, tCall, List.getElem?_cons_zero, List.getElem?_cons_succ, List.set_cons_zero, List.set_cons_succ, List.map_cons, List.map_nil, List.append_nil, List.nil_append, List.cons_append, Option.some.injEq, exists_eq_left', exists_eq_left, exists_eq_right, exists_eq_right', exists_eq', V.int.injEq, V.str.injEq, V.bl.injEq, V.ref.injEq, List.cons.injEq, tM0, tM1, rNewStrs, sgn_eq, split_dot, dot_len, sp_len, nl_len, cxOf_K, L2.start, List.length_cons, List.length_nil, List.replicate_succ, List.replicate_zero, Nat.reduceSub, Nat.zero_add, and_true, true_and, and_self, exists_and_left, exists_const, Bool.false_eq_true, if_false, if_true, ite_true, ite_false, reduceIte, decide_eq_true_eq, reduceCtorEq, Nat.reduceAdd, Nat.reduceLT]
    refine ⟨small (by omega), ?_⟩
    have hz' : (tl z).length ≤ 10000 := by rw [← len_tl]; exact hz
    split
    · rename_i h1
      split
      · rename_i h2
        refine lc_map (tl z) (fun c => V.bl (decide (c ∈ tl letters))) walk_str (by omega) (fun _ _ => trivial) (fun i a x H1 H' R hx s1 hy r => ?_) (fun D H1 nD s1 hD => ?_)
        · obtain ⟨rfl, c, hc, rfl⟩ := hy
          have e : c = a := by
            rw [Array.getElem?_toList] at hx
            exact Option.some.inj (hc.symm.trans hx)
          subst e
          simp only [tRet, tRetN, tAndV, tOrV, tNotV, tChain, rI, rI0, rU, tC, tCB, tCons, tNil, tVar, tOp, tUn, tTest, tB, tAnd, tOr, tNot, tIf, tIfS, tSeq, tAsg, tDrop, tNext, gName, gTup_ref, gCons_cons, gNil_nil, and_assoc, tYes, wipe, rEq, rNe, scal_ss, scal_ii, scal_bb, scal_ns, scal_sn, scal_nn, scal_in, scal_ni, tLc_eq, tFor_eq, iList, iTup, iStr, iRng1, iRng2, iZip, iEnum, gSub, tSl, rSetL_ref, rCat_ref, rRep_ref, rJoin_ref, rSlL_ref, rIxL_ref, rIxT_ref, rLenK_ref, rAll_ref, rIn_ref, tLst, tTup, tPar, tPar3, tAug, tPart, tNoPart, tCall, List.getElem?_cons_zero, List.getElem?_cons_succ, List.set_cons_zero, List.set_cons_succ, List.map_cons, List.map_nil, List.append_nil, List.nil_append, List.cons_append, Option.some.injEq, exists_eq_left', exists_eq_left, exists_eq_right, exists_eq_right', exists_eq', V.int.injEq, V.str.injEq, V.bl.injEq, V.ref.injEq, List.cons.injEq, tM0, tM1, rNewStrs, sgn_eq, split_dot, dot_len, sp_len, nl_len, cxOf_K, L2.start, List.length_cons, List.length_nil, List.replicate_succ, List.replicate_zero, Nat.reduceSub, Nat.zero_add, and_true, true_and, and_self, exists_and_left, exists_const, Bool.false_eq_true, if_false, if_true, ite_true, ite_false, reduceIte, decide_eq_true_eq, reduceCtorEq, Nat.reduceAdd, Nat.reduceLT]
          exact r _ (Same.refl _)
        · refine ⟨D, (tl z).map fun c => decide (c ∈ tl letters), rfl, .of (by rw [hD, List.map_map]; rfl), ?_⟩
          have e : isWord z = List.all ((tl z).map fun c => decide (c ∈ tl letters)) id := by
            unfold isWord
            rw [decide_eq_true (by omega : 1 ≤ z.length), decide_eq_true (by omega : z.length ≤ 4), List.all_map]
            rfl
          rw [← e]
          exact q _ s1
      · have e : isWord z = false := by
          unfold isWord
          rw [decide_eq_false (by omega : ¬ z.length ≤ 4)]; simp
        rw [← e]; exact q _ (Same.refl _)
    · have e : isWord z = false := by
        unfold isWord
        rw [decide_eq_false (by omega : ¬ 1 ≤ z.length)]; simp
      rw [← e]; exact q _ (Same.refl _)
/-! ### is_line -/
def sp_is_line : Sp := fun vs H Q _ => ∃ z : Str, vs = [.str z] ∧ z.length ≤ 10000 ∧ ∀ H', Same H H' → Q (.bl (isLine z)) H'
theorem G_is_line (T : Tx K mg) : Glob P w K mg base (CX0) 2 "is_line" p_is_line [] sp_is_line := by
  obtain ⟨fd, F⟩ := T.f_is_line
  refine ⟨_, fd, [], F.ok sc_is_line (fun vs H Q E h => ?_) (fun cdv A outer s H vs Q E hr h => ?_), T.g_is_line, F.kp, .nil, F.bindsN fun _ _ _ _ _ _ us hl => match us, hl with | [_], _ => rfl⟩
  · obtain ⟨z, rfl, _⟩ := h; rfl
  · obtain ⟨z, rfl, hz, q⟩ := h
    refine ⟨_, PSs.nox (pss_cons (ps_set (i := 1) sc_is_line.nd rfl (Or.inl rfl) (pe_split (pv 0) pe_str))
      (pss_one (ps_ret (pe_and (pe_cmpR op_le (pe_callB (call_len_seqK (K := K) rfl) (by rfl) T.b_len (by decide +kernel) (pa_cons (pv 1) pa_nil)) (pe_gi T.c_MOST_WORDS (by rfl)) (nomark _)) (pe_one (pe_callB (cr_allK (K := K) rfl rfl) (by rfl) T.b_all (by decide +kernel) (pa_cons (pe_lc (own := [("word", 2)]) (g := (gName 2)) (tt := tYes) rfl sc_is_line.nd (pi_listK (K := K) rfl (pv 1)) (blkOk_by (by kernel_rfl)) (fun _ _ _ _ _ => (pg_name (i := 2) sc_is_line.nd rfl (Or.inl rfl))) (fun _ _ _ _ _ => pts_nil) (fun _ _ _ _ _ => (pe_callG (G_is_word T) (hr.mono (by decide)) (by rfl) pass0 (pa_cons (pv 2) pa_nil)))) pa_nil))))))), ?_⟩
    simp only [tRet, tRetN, tAndV, tOrV, tNotV, tChain, rI, rI0, rU, tC, tCB, tCons, tNil, tVar, tOp, tUn, tTest, tB, tAnd, tOr, tNot, tIf, tIfS, tSeq, tAsg, tDrop, tNext, gName, gTup_ref, gCons_cons, gNil_nil, and_assoc, tYes, wipe, rEq, rNe, scal_ss, scal_ii, scal_bb, scal_ns, scal_sn, scal_nn, scal_in, scal_ni, tLc_eq, tFor_eq, iList, iTup, iStr, iRng1, iRng2, iZip, iEnum, gSub, tSl, rSetL_ref, rCat_ref, rRep_ref, rJoin_ref, rSlL_ref, rIxL_ref, rIxT_ref, rLenK_ref, rAll_ref, rIn_ref, tLst, tTup, tPar, tPar3, tAug, tPart, tNoPart, tCall, List.getElem?_cons_zero, List.getElem?_cons_succ, List.set_cons_zero, List.set_cons_succ, List.map_cons, List.map_nil, List.append_nil, List.nil_append, List.cons_append, Option.some.injEq, exists_eq_left', exists_eq_left, exists_eq_right, exists_eq_right', exists_eq', V.int.injEq, V.str.injEq, V.bl.injEq, V.ref.injEq, List.cons.injEq, tM0, tM1, rNewStrs, sgn_eq, split_dot, dot_len, sp_len, nl_len, cxOf_K, L2.start, List.length_cons, List.length_nil, List.replicate_succ, List.replicate_zero, Nat.reduceSub, Nat.zero_add, and_true, true_and, and_self, exists_and_left, exists_const, Bool.false_eq_true, if_false, if_true, ite_true, ite_false, reduceIte, decide_eq_true_eq, reduceCtorEq, Nat.reduceAdd, Nat.reduceLT]
    refine ⟨small (by omega), fun p hp => ⟨(wds z).map V.str, .inl (.of upd_same), ?_⟩⟩
    have s1 : Same H (upd H p (HO.lst (List.map V.str (wds z)))) := same_put (Same.refl _) hp
    have hl := wds_len z
    rw [List.length_map]
    split
    · rename_i h1
      refine ⟨⟨_, .of upd_same⟩, lc_map (wds z) (fun w => V.bl (isWord w)) (walk_listm (wds z) V.str) (by omega) (fun H2 s2 => s2.seq (.of upd_same)) (fun i a x H1 H' R hx s2 hy r => ?_) (fun D H1 nD s2 hD => ?_)⟩
      · obtain ⟨rfl, y, hy, rfl⟩ := hy
        cases Option.some.inj (hx.symm.trans hy)
        simp only [tRet, tRetN, tAndV, tOrV, tNotV, tChain, rI, rI0, rU, tC, tCB, tCons, tNil, tVar, tOp, tUn, tTest, tB, tAnd, tOr, tNot, tIf, tIfS, tSeq, tAsg, tDrop, tNext, gName, gTup_ref, gCons_cons, gNil_nil, and_assoc, tYes, wipe, rEq, rNe, scal_ss, scal_ii, scal_bb, scal_ns, scal_sn, scal_nn, scal_in, scal_ni, tLc_eq, tFor_eq, iList, iTup, iStr, iRng1, iRng2, iZip, iEnum, gSub, tSl, rSetL_ref, rCat_ref, rRep_ref, rJoin_ref, rSlL_ref, rIxL_ref, rIxT_ref, rLenK_ref, rAll_ref, rIn_ref, tLst, tTup, tPar, tPar3, tAug, tPart, tNoPart, tCall, List.getElem?_cons_zero, List.getElem?_cons_succ, List.set_cons_zero, List.set_cons_succ, List.map_cons, List.map_nil, List.append_nil, List.nil_append, List.cons_append, Option.some.injEq, exists_eq_left', exists_eq_left, exists_eq_right, exists_eq_right', exists_eq', V.int.injEq, V.str.injEq, V.bl.injEq, V.ref.injEq, List.cons.injEq, tM0, tM1, rNewStrs, sgn_eq, split_dot, dot_len, sp_len, nl_len, cxOf_K, L2.start, List.length_cons, List.length_nil, List.replicate_succ, List.replicate_zero, Nat.reduceSub, Nat.zero_add, and_true, true_and, and_self, exists_and_left, exists_const, Bool.false_eq_true, if_false, if_true, ite_true, ite_false, reduceIte, decide_eq_true_eq, reduceCtorEq, Nat.reduceAdd, Nat.reduceLT]
        have := wds_each z a (List.mem_of_getElem? hx)
        exact ⟨a, rfl, by omega, r⟩
      · refine ⟨D, (wds z).map isWord, rfl, .of (by rw [hD, List.map_map]; rfl), ?_⟩
        have e : isLine z = List.all ((wds z).map isWord) id := by
          unfold isLine
          rw [decide_eq_true (by omega : (wds z).length ≤ 6), List.all_map]
          rfl
        rw [← e]
        exact q _ (s1.trans s2)
    · have e : isLine z = false := by
        unfold isLine
        rw [decide_eq_false (by omega : ¬ (wds z).length ≤ 6)]; simp
      rw [← e]; exact q _ s1
/-! ### is_pattern -/
theorem last_map {ws : List Str} {s : Str} : ((ws.map V.str).getLast? = some (V.str s)) ↔ ws.getLast? = some s := by
  rw [List.getLast?_map]
  cases ws.getLast? with
  | none => simp
  | some x => simp
theorem last_str {ws : List Str} (h : ws ≠ []) : ∃ x, (ws.map V.str).getLast? = some (V.str x) ∧ ws.getLast? = some x := by
  refine ⟨ws.getLast h, ?_, List.getLast?_eq_getLast h⟩
  rw [List.getLast?_map, List.getLast?_eq_getLast h]; rfl
def sp_is_pattern : Sp := fun vs H Q _ => ∃ z : Str, vs = [.str z] ∧ z.length ≤ 10000 ∧ ∀ H', Same H H' → Q (.bl (isPat z)) H'
theorem G_is_pattern (T : Tx K mg) : Glob P w K mg base (CX0) 2 "is_pattern" p_is_pattern [] sp_is_pattern := by
  obtain ⟨fd, F⟩ := T.f_is_pattern
  refine ⟨_, fd, [], F.ok sc_is_pattern (fun vs H Q E h => ?_) (fun cdv A outer s H vs Q E hr h => ?_), T.g_is_pattern, F.kp, .nil, F.bindsN fun _ _ _ _ _ _ us hl => match us, hl with | [_], _ => rfl⟩
  · obtain ⟨z, rfl, _⟩ := h; rfl
  · obtain ⟨z, rfl, hz, q⟩ := h
    refine ⟨_, PSs.nox (pss_cons (ps_set (i := 1) sc_is_pattern.nd rfl (Or.inl rfl) (pe_split (pv 0) pe_str))
      (pss_cons (ps_if (pt_cmpR op_eq (pe_ix (ix_listK (K := K) rfl) (pv 1) (pe_un un_neg pe_int) (fun _ _ => rfl)) (pe_gs T.c_REST (by rfl)) (nomark _))
      (pss_one (ps_expr (pe_bm0K (K := K) rfl PySem.F.plainAttrs_list PySem.F.slot_list_pop PySem.F.type_list_pop mt_pop (pv 1))))
      pss_nil)
      (pss_one (ps_ret (pe_and (pe_cmpR op_le (pe_callB (call_len_seqK (K := K) rfl) (by rfl) T.b_len (by decide +kernel) (pa_cons (pv 1) pa_nil)) (pe_gi T.c_MOST_WORDS (by rfl)) (nomark _)) (pe_one (pe_callB (cr_allK (K := K) rfl rfl) (by rfl) T.b_all (by decide +kernel) (pa_cons (pe_lc (own := [("word", 2)]) (g := (gName 2)) (tt := tYes) rfl sc_is_pattern.nd (pi_listK (K := K) rfl (pv 1)) (blkOk_by (by kernel_rfl)) (fun _ _ _ _ _ => (pg_name (i := 2) sc_is_pattern.nd rfl (Or.inl rfl))) (fun _ _ _ _ _ => pts_nil) (fun _ _ _ _ _ => (pe_or (pe_cmpR op_eq (pv 2) (pe_gs T.c_ANY (by rfl)) (nomark _)) (pe_one (pe_callG (G_is_word T) (hr.mono (by decide)) (by rfl) pass0 (pa_cons (pv 2) pa_nil)))))) pa_nil)))))))), ?_⟩
    simp only [tRet, tRetN, tAndV, tOrV, tNotV, tChain, rI, rI0, rU, tC, tCB, tCons, tNil, tVar, tOp, tUn, tTest, tB, tAnd, tOr, tNot, tIf, tIfS, tSeq, tAsg, tDrop, tNext, gName, gTup_ref, gCons_cons, gNil_nil, and_assoc, tYes, wipe, rEq, rNe, scal_ss, scal_ii, scal_bb, scal_ns, scal_sn, scal_nn, scal_in, scal_ni, tLc_eq, tFor_eq, iList, iTup, iStr, iRng1, iRng2, iZip, iEnum, gSub, tSl, rSetL_ref, rCat_ref, rRep_ref, rJoin_ref, rSlL_ref, rIxL_ref, rIxT_ref, rLenK_ref, rAll_ref, rIn_ref, tLst, tTup, tPar, tPar3, tAug, tPart, tNoPart, tCall, List.getElem?_cons_zero, List.getElem?_cons_succ, List.set_cons_zero, List.set_cons_succ, List.map_cons, List.map_nil, List.append_nil, List.nil_append, List.cons_append, Option.some.injEq, exists_eq_left', exists_eq_left, exists_eq_right, exists_eq_right', exists_eq', V.int.injEq, V.str.injEq, V.bl.injEq, V.ref.injEq, List.cons.injEq, tM0, tM1, rNewStrs, sgn_eq, split_dot, dot_len, sp_len, nl_len, cxOf_K, L2.start, List.length_cons, List.length_nil, List.replicate_succ, List.replicate_zero, Nat.reduceSub, Nat.zero_add, and_true, true_and, and_self, exists_and_left, exists_const, Bool.false_eq_true, if_false, if_true, ite_true, ite_false, reduceIte, decide_eq_true_eq, reduceCtorEq, Nat.reduceAdd, Nat.reduceLT]
    have hl := wds_len z
    have fin : ∀ (p : Addr) (H1 : Hp), H p = none → Same H H1 → H1 p = some (.lst ((cut (wds z)).map V.str)) → ∃ ys, (SqL K H1 p ys ∨ SqT K H1 p ys) ∧ if (ys.length : Int) ≤ 6 then
        (∃ xs, SqL K H1 p xs) ∧ LcG (Itl K p) (gName 2) tYes (tOrV (tOp rEq (tVar 2) (tC (V.str (Str.ofString "*")))) (tCall sp_is_word [] E0 (tCons (tVar 2) tNil))) [2] [some (V.str z), some (V.ref p), none] H1 fun x H1 => rAll K [x] H1 Q
      else Q (V.bl false) H1 := by
      intro p H1 hp s1 hc
      have hcl : (cut (wds z)).length ≤ (wds z).length := by
        unfold cut; split
        · rw [List.length_dropLast]; omega
        · exact Nat.le_refl _
      have hcm : ∀ w ∈ cut (wds z), w ∈ wds z := by
        unfold cut; split
        · exact fun w hw => List.dropLast_subset _ hw
        · exact fun w hw => hw
      refine ⟨_, .inl (.of hc), ?_⟩
      rw [List.length_map]
      split
      · rename_i h1
        refine ⟨⟨_, .of hc⟩, lc_map (cut (wds z)) (fun w => V.bl (starOr w)) (walk_listm (cut (wds z)) V.str) (by omega) (fun H2 s2 => s2.seq (.of hc)) (fun i a x H1 H' R hx s2 hy r => ?_) (fun D H1 nD s2 hD => ?_)⟩
        · obtain ⟨rfl, y, hy, rfl⟩ := hy
          cases Option.some.inj (hx.symm.trans hy)
          simp only [tRet, tRetN, tAndV, tOrV, tNotV, tChain, rI, rI0, rU, tC, tCB, tCons, tNil, tVar, tOp, tUn, tTest, tB, tAnd, tOr, tNot, tIf, tIfS, tSeq, tAsg, tDrop, tNext, gName, gTup_ref, gCons_cons, gNil_nil, and_assoc, tYes, wipe, rEq, rNe, scal_ss, scal_ii, scal_bb, scal_ns, scal_sn, scal_nn, scal_in, scal_ni, tLc_eq, tFor_eq, iList, iTup, iStr, iRng1, iRng2, iZip, iEnum, gSub, tSl, rSetL_ref, rCat_ref, rRep_ref, rJoin_ref, rSlL_ref, rIxL_ref, rIxT_ref, rLenK_ref, rAll_ref, rIn_ref, tLst, tTup, tPar, tPar3, tAug, tPart, tNoPart, tCall, List.getElem?_cons_zero, List.getElem?_cons_succ, List.set_cons_zero, List.set_cons_succ, List.map_cons, List.map_nil, List.append_nil, List.nil_append, List.cons_append, Option.some.injEq, exists_eq_left', exists_eq_left, exists_eq_right, exists_eq_right', exists_eq', V.int.injEq, V.str.injEq, V.bl.injEq, V.ref.injEq, List.cons.injEq, tM0, tM1, rNewStrs, sgn_eq, split_dot, dot_len, sp_len, nl_len, cxOf_K, L2.start, List.length_cons, List.length_nil, List.replicate_succ, List.replicate_zero, Nat.reduceSub, Nat.zero_add, and_true, true_and, and_self, exists_and_left, exists_const, Bool.false_eq_true, if_false, if_true, ite_true, ite_false, reduceIte, decide_eq_true_eq, reduceCtorEq, Nat.reduceAdd, Nat.reduceLT]
          have := wds_each z a (hcm a (List.mem_of_getElem? hx))
          unfold starOr at r
          split
          · rename_i e
            subst e
            simp only [decide_true, Bool.true_or] at r
            exact r _ (Same.refl _)
          · rename_i e
            rw [decide_eq_false e, Bool.false_or] at r
            exact ⟨a, rfl, by omega, r⟩
        · refine ⟨D, (cut (wds z)).map starOr, rfl, .of (by rw [hD, List.map_map]; rfl), ?_⟩
          have e : isPat z = List.all ((cut (wds z)).map starOr) id := by
            unfold isPat
            rw [decide_eq_true (by omega : (cut (wds z)).length ≤ 6), List.all_map]
            rfl
          rw [← e]
          exact q _ (s1.trans s2)
      · have e : isPat z = false := by
          unfold isPat
          rw [decide_eq_false (by omega : ¬ (cut (wds z)).length ≤ 6)]; simp
        rw [← e]; exact q _ s1
    refine ⟨small (by omega), fun p hp => ⟨_, .of upd_same, ?_⟩⟩
    have s1 : Same H (upd H p (HO.lst (List.map V.str (wds z)))) := same_put (Same.refl _) hp
    obtain ⟨x, e1, e2⟩ := last_str (wds_ne z)
    refine ⟨.str x, (atI_neg1 (by simpa using wds_ne z)).trans e1, rfl, ?_⟩
    split
    · rename_i e
      cases e
      refine ⟨_, rfl, .inl ⟨rfl, _, .of upd_same⟩, p, _, .str ("#" : Str), rfl, rfl, upd_same, ?_, ?_⟩
      · rw [← List.getLast?_eq_getElem?]; exact e1
      · refine fin p _ hp (same_put s1 hp) ?_
        rw [upd_same]
        unfold cut
        rw [if_pos e2, List.map_dropLast]
    · rename_i e
      refine fin p _ hp s1 ?_
      rw [upd_same]
      unfold cut
      rw [if_neg (fun z => e (by rw [e2] at z; exact congrArg V.str (Option.some.inj z)))]
/-! ### need_line, need_pattern -/
def sp_need_line (K : PySem.W.Frag) : Sp := fun vs H Q E => ∃ z : Str, vs = [.str z] ∧ z.length ≤ 10000 ∧ (isLine z = true → ∀ H', Same H H' → Q .non H') ∧ (isLine z = false → ∀ H', Same H H' → E (.ref (He.ga K "BadLine")) none H')
theorem G_need_line (T : Tx K mg) : Glob P w K mg base (L2.CX P w) 3 "need_line" p_need_line [] (sp_need_line K) := by
  obtain ⟨fd, F⟩ := T.f_need_line
  refine ⟨_, fd, [], F.ok sc_need_line (fun vs H Q E h => ?_) (fun cdv A outer s H vs Q E hr h => ?_), T.g_need_line, F.kp, .nil, F.bindsN fun _ _ _ _ _ _ us hl => match us, hl with | [_], _ => rfl⟩
  · obtain ⟨z, rfl, _⟩ := h; rfl
  · obtain ⟨z, rfl, hz, q1, q2⟩ := h
    refine ⟨_, (pss_one (ps_if (pt_not (pt_val (pe_callG (G_is_line T) (hr.mono (by decide)) (by rfl) pass0 (pa_cons (pv 0) pa_nil))))
      (pss_one (ps_raise rfl (takes_of rfl rfl rfl rfl) (pmk_own PySem.F.excBase_ValueError T.x_BadLine.1 T.g_BadLine T.x_BadLine.2.1 (raises_own T.x_BadLine.2.2.1 T.x_BadLine.2.2.2) rfl)))
      pss_nil)), ?_⟩
    simp only [tRet, tRetN, tAndV, tOrV, tNotV, tChain, rI, rI0, rU, tC, tCB, tCons, tNil, tVar, tOp, tUn, tTest, tB, tAnd, tOr, tNot, tIf, tIfS, tSeq, tAsg, tDrop, tNext, gName, gTup_ref, gCons_cons, gNil_nil, and_assoc, tYes, wipe, rEq, rNe, scal_ss, scal_ii, scal_bb, scal_ns, scal_sn, scal_nn, scal_in, scal_ni, tLc_eq, tFor_eq, iList, iTup, iStr, iRng1, iRng2, iZip, iEnum, gSub, tSl, rSetL_ref, rCat_ref, rRep_ref, rJoin_ref, rSlL_ref, rIxL_ref, rIxT_ref, rLenK_ref, rAll_ref, rIn_ref, tLst, tTup, tPar, tPar3, tAug, tPart, tNoPart, tCall, List.getElem?_cons_zero, List.getElem?_cons_succ, List.set_cons_zero, List.set_cons_succ, List.map_cons, List.map_nil, List.append_nil, List.nil_append, List.cons_append, Option.some.injEq, exists_eq_left', exists_eq_left, exists_eq_right, exists_eq_right', exists_eq', V.int.injEq, V.str.injEq, V.bl.injEq, V.ref.injEq, List.cons.injEq, tM0, tM1, rNewStrs, sgn_eq, split_dot, dot_len, sp_len, nl_len, cxOf_K, L2.start, List.length_cons, List.length_nil, List.replicate_succ, List.replicate_zero, Nat.reduceSub, Nat.zero_add, and_true, true_and, and_self, exists_and_left, exists_const, Bool.false_eq_true, if_false, if_true, ite_true, ite_false, reduceIte, decide_eq_true_eq, reduceCtorEq, Nat.reduceAdd, Nat.reduceLT]
    refine ⟨z, rfl, hz, fun H' s1 => ⟨_, rfl, ?_⟩⟩
    cases e : isLine z with
    | true => exact iteF (q1 e H' s1)
    | false => exact iteT (q2 e H' s1)
def sp_need_pattern (K : PySem.W.Frag) : Sp := fun vs H Q E => ∃ z : Str, vs = [.str z] ∧ z.length ≤ 10000 ∧ (isPat z = true → ∀ H', Same H H' → Q .non H') ∧ (isPat z = false → ∀ H', Same H H' → E (.ref (He.ga K "BadPattern")) none H')
theorem G_need_pattern (T : Tx K mg) : Glob P w K mg base (L2.CX P w) 3 "need_pattern" p_need_pattern [] (sp_need_pattern K) := by
  obtain ⟨fd, F⟩ := T.f_need_pattern
  refine ⟨_, fd, [], F.ok sc_need_pattern (fun vs H Q E h => ?_) (fun cdv A outer s H vs Q E hr h => ?_), T.g_need_pattern, F.kp, .nil, F.bindsN fun _ _ _ _ _ _ us hl => match us, hl with | [_], _ => rfl⟩
  · obtain ⟨z, rfl, _⟩ := h; rfl
  · obtain ⟨z, rfl, hz, q1, q2⟩ := h
    refine ⟨_, (pss_one (ps_if (pt_not (pt_val (pe_callG (G_is_pattern T) (hr.mono (by decide)) (by rfl) pass0 (pa_cons (pv 0) pa_nil))))
      (pss_one (ps_raise rfl (takes_of rfl rfl rfl rfl) (pmk_own PySem.F.excBase_ValueError T.x_BadPattern.1 T.g_BadPattern T.x_BadPattern.2.1 (raises_own T.x_BadPattern.2.2.1 T.x_BadPattern.2.2.2) rfl)))
      pss_nil)), ?_⟩
    simp only [tRet, tRetN, tAndV, tOrV, tNotV, tChain, rI, rI0, rU, tC, tCB, tCons, tNil, tVar, tOp, tUn, tTest, tB, tAnd, tOr, tNot, tIf, tIfS, tSeq, tAsg, tDrop, tNext, gName, gTup_ref, gCons_cons, gNil_nil, and_assoc, tYes, wipe, rEq, rNe, scal_ss, scal_ii, scal_bb, scal_ns, scal_sn, scal_nn, scal_in, scal_ni, tLc_eq, tFor_eq, iList, iTup, iStr, iRng1, iRng2, iZip, iEnum, gSub, tSl, rSetL_ref, rCat_ref, rRep_ref, rJoin_ref, rSlL_ref, rIxL_ref, rIxT_ref, rLenK_ref, rAll_ref, rIn_ref, tLst, tTup, tPar, tPar3, tAug, tPart, tNoPart, tCall, List.getElem?_cons_zero, List.getElem?_cons_succ, List.set_cons_zero, List.set_cons_succ, List.map_cons, List.map_nil, List.append_nil, List.nil_append, List.cons_append, Option.some.injEq, exists_eq_left', exists_eq_left, exists_eq_right, exists_eq_right', exists_eq', V.int.injEq, V.str.injEq, V.bl.injEq, V.ref.injEq, List.cons.injEq, tM0, tM1, rNewStrs, sgn_eq, split_dot, dot_len, sp_len, nl_len, cxOf_K, L2.start, List.length_cons, List.length_nil, List.replicate_succ, List.replicate_zero, Nat.reduceSub, Nat.zero_add, and_true, true_and, and_self, exists_and_left, exists_const, Bool.false_eq_true, if_false, if_true, ite_true, ite_false, reduceIte, decide_eq_true_eq, reduceCtorEq, Nat.reduceAdd, Nat.reduceLT]
    refine ⟨z, rfl, hz, fun H' s1 => ⟨_, rfl, ?_⟩⟩
    cases e : isPat z with
    | true => exact iteF (q1 e H' s1)
    | false => exact iteT (q2 e H' s1)
/-! ### of_length -/
def sp_of_length : Sp := fun vs H Q _ => ∃ (z : Str) (n : Int), vs = [.str z, .int n] ∧ z.length ≤ 10000 ∧ -10000 ≤ n ∧ n ≤ 10000 ∧
  (ofLen z n = none → ∀ H', Same H H' → Q .non H') ∧ (∀ ws, ofLen z n = some ws → ∀ H' p, Same H H' → H p = none → H' p = some (.lst (ws.map V.str)) → Q (.ref p) H')
theorem G_of_length (T : Tx K mg) : Glob P w K mg base (CX0) 1 "of_length" p_of_length [] sp_of_length := by
  obtain ⟨fd, F⟩ := T.f_of_length
  refine ⟨_, fd, [], F.ok sc_of_length (fun vs H Q E h => ?_) (fun cdv A outer s H vs Q E hr h => ?_), T.g_of_length, F.kp, .nil, F.bindsN fun _ _ _ _ _ _ us hl => match us, hl with | [_, _], _ => rfl⟩
  · obtain ⟨z, n, rfl, _⟩ := h; rfl
  · obtain ⟨z, n, rfl, hz, hn0, hn, q1, q2⟩ := h
    refine ⟨_, PSs.nox (pss_cons (ps_set (i := 2) sc_of_length.nd rfl (Or.inl rfl) (pe_split (pv 0) pe_str))
      (pss_cons (ps_if (pt_cmpR op_eq (pe_ix (ix_listK (K := K) rfl) (pv 2) (pe_un un_neg pe_int) (fun _ _ => rfl)) (pe_gs T.c_REST (by rfl)) (nomark _))
      (pss_cons (ps_expr (pe_bm0K (K := K) rfl PySem.F.plainAttrs_list PySem.F.slot_list_pop PySem.F.type_list_pop mt_pop (pv 2)))
      (pss_one (ps_aug (i := 2) sc_of_length.nd rfl (Or.inl rfl) (pe_op op_rep (pe_lst (pa_cons (pe_gs T.c_ANY (by rfl)) pa_nil)) (pe_op op_sub (pv 1) (pe_callB (call_len_seqK (K := K) rfl) (by rfl) T.b_len (by decide +kernel) (pa_cons (pv 2) pa_nil)))) iop_ext)))
      pss_nil)
      (pss_one (ps_ret (pe_ifExp (pt_cmpR op_eq (pe_callB (call_len_seqK (K := K) rfl) (by rfl) T.b_len (by decide +kernel) (pa_cons (pv 2) pa_nil)) (pv 1) (nomark _)) (pv 2) pe_non))))), ?_⟩
    simp only [tRet, tRetN, tAndV, tOrV, tNotV, tChain, rI, rI0, rU, tC, tCB, tCons, tNil, tVar, tOp, tUn, tTest, tB, tAnd, tOr, tNot, tIf, tIfS, tSeq, tAsg, tDrop, tNext, gName, gTup_ref, gCons_cons, gNil_nil, and_assoc, tYes, wipe, rEq, rNe, scal_ss, scal_ii, scal_bb, scal_ns, scal_sn, scal_nn, scal_in, scal_ni, tLc_eq, tFor_eq, iList, iTup, iStr, iRng1, iRng2, iZip, iEnum, gSub, tSl, rSetL_ref, rCat_ref, rRep_ref, rJoin_ref, rSlL_ref, rIxL_ref, rIxT_ref, rLenK_ref, rAll_ref, rIn_ref, tLst, tTup, tPar, tPar3, tAug, tPart, tNoPart, tCall, List.getElem?_cons_zero, List.getElem?_cons_succ, List.set_cons_zero, List.set_cons_succ, List.map_cons, List.map_nil, List.append_nil, List.nil_append, List.cons_append, Option.some.injEq, exists_eq_left', exists_eq_left, exists_eq_right, exists_eq_right', exists_eq', V.int.injEq, V.str.injEq, V.bl.injEq, V.ref.injEq, List.cons.injEq, tM0, tM1, rNewStrs, sgn_eq, split_dot, dot_len, sp_len, nl_len, cxOf_K, L2.start, List.length_cons, List.length_nil, List.replicate_succ, List.replicate_zero, Nat.reduceSub, Nat.zero_add, and_true, true_and, and_self, exists_and_left, exists_const, Bool.false_eq_true, if_false, if_true, ite_true, ite_false, reduceIte, decide_eq_true_eq, reduceCtorEq, Nat.reduceAdd, Nat.reduceLT]
    have hl := wds_len z
    refine ⟨small (by omega), fun p hp => ⟨_, .of upd_same, ?_⟩⟩
    have s1 : Same H (upd H p (HO.lst (List.map V.str (wds z)))) := same_put (Same.refl _) hp
    obtain ⟨x, e1, e2⟩ := last_str (wds_ne z)
    refine ⟨.str x, (atI_neg1 (by simpa using wds_ne z)).trans e1, rfl, ?_⟩
    split
    · rename_i e
      cases e
      refine ⟨_, rfl, .inl ⟨rfl, _, .of upd_same⟩, p, _, .str ("#" : Str), rfl, rfl, upd_same, ?_, ?_⟩
      · rw [← List.getLast?_eq_getElem?]; exact e1
      have ed : (List.map V.str (wds z)).dropLast = ((wds z).dropLast).map V.str := by rw [List.map_dropLast]
      rw [ed]
      have s2 : Same H (upd (upd H p (HO.lst (List.map V.str (wds z)))) p (HO.lst (List.map V.str (wds z).dropLast))) := same_put s1 hp
      generalize hH2 : upd (upd H p (HO.lst (List.map V.str (wds z)))) p (HO.lst (List.map V.str (wds z).dropLast)) = H2 at s2
      have hp2 : H2 p = some (.lst ((wds z).dropLast.map V.str)) := by rw [← hH2, upd_same]
      refine ⟨by decide, fun r hr => ?_⟩
      have npr : p ≠ r := ne_of_none hp2 hr
      refine ⟨_, .inl (.of (by rw [upd_ne npr]; exact hp2)), _, upd_same, ?_, ?_, ?_, fun t ht => ?_⟩
      · rw [List.length_map, List.length_dropLast]; omega
      · omega
      · simp only [List.length_singleton]; exact small (by omega)
      have npt : p ≠ t := by
        intro e; subst e
        rw [upd_ne npr, hp2] at ht; cases ht
      have nrt : r ≠ t := by
        intro e; subst e
        rw [upd_same] at ht; cases ht
      have hdl : (wds z).dropLast.length = (wds z).length - 1 := List.length_dropLast
      refine ⟨p, t, (wds z).dropLast.map V.str, _, rfl, rfl, by rw [upd_ne npt, upd_ne npr]; exact hp2, upd_same, ?_, ?_⟩
      · rw [List.length_map, List.length_flatten, List.map_replicate, List.sum_replicate_nat]; simp only [List.length_singleton, List.length_map]; exact small (by omega)
      have eo : (wds z).dropLast.map V.str ++ (List.replicate (n - ((wds z).dropLast.map V.str).length).toNat [V.str (Str.ofString "*")]).flatten = ((wds z).dropLast ++ List.replicate (n - (wds z).dropLast.length).toNat ("*" : Str)).map V.str := by
        rw [List.map_append, List.map_replicate, List.length_map, List.flatten_replicate_singleton]
      rw [eo]
      have s3 : Same H (upd (upd (upd H2 r (HO.lst [V.str (Str.ofString "*")])) t (HO.lst (List.replicate (n - ((wds z).dropLast.map V.str).length).toNat [V.str (Str.ofString "*")]).flatten)) p (HO.lst (((wds z).dropLast ++ List.replicate (n - (wds z).dropLast.length).toNat ("*" : Str)).map V.str))) :=
        same_put (same_new (same_new s2 hr) ht) hp
      simp only [tRet, tRetN, tAndV, tOrV, tNotV, tChain, rI, rI0, rU, tC, tCB, tCons, tNil, tVar, tOp, tUn, tTest, tB, tAnd, tOr, tNot, tIf, tIfS, tSeq, tAsg, tDrop, tNext, gName, gTup_ref, gCons_cons, gNil_nil, and_assoc, tYes, wipe, rEq, rNe, scal_ss, scal_ii, scal_bb, scal_ns, scal_sn, scal_nn, scal_in, scal_ni, tLc_eq, tFor_eq, iList, iTup, iStr, iRng1, iRng2, iZip, iEnum, gSub, tSl, rSetL_ref, rCat_ref, rRep_ref, rJoin_ref, rSlL_ref, rIxL_ref, rIxT_ref, rLenK_ref, rAll_ref, rIn_ref, tLst, tTup, tPar, tPar3, tAug, tPart, tNoPart, tCall, List.getElem?_cons_zero, List.getElem?_cons_succ, List.set_cons_zero, List.set_cons_succ, List.map_cons, List.map_nil, List.append_nil, List.nil_append, List.cons_append, Option.some.injEq, exists_eq_left', exists_eq_left, exists_eq_right, exists_eq_right', exists_eq', V.int.injEq, V.str.injEq, V.bl.injEq, V.ref.injEq, List.cons.injEq, tM0, tM1, rNewStrs, sgn_eq, split_dot, dot_len, sp_len, nl_len, cxOf_K, L2.start, List.length_cons, List.length_nil, List.replicate_succ, List.replicate_zero, Nat.reduceSub, Nat.zero_add, and_true, true_and, and_self, exists_and_left, exists_const, Bool.false_eq_true, if_false, if_true, ite_true, ite_false, reduceIte, decide_eq_true_eq, reduceCtorEq, Nat.reduceAdd, Nat.reduceLT]
      refine ⟨_, .inl (.of upd_same), ?_⟩
      rw [List.length_map]
      have eq : ofLen z n = if ((((wds z).dropLast ++ List.replicate (n - (wds z).dropLast.length).toNat ("*" : Str)).length : Int) = n) then some ((wds z).dropLast ++ List.replicate (n - (wds z).dropLast.length).toNat ("*" : Str)) else none := by
        unfold ofLen
        simp only [if_pos e2]
      split
      · rename_i h1
        rw [if_pos h1] at eq
        exact q2 _ eq _ p s3 hp upd_same
      · rename_i h1
        rw [if_neg h1] at eq
        exact q1 eq _ s3
    · rename_i e
      refine ⟨_, .inl (.of upd_same), ?_⟩
      rw [List.length_map]
      have e3 : ¬ (wds z).getLast? = some ("#" : Str) := fun z => e (by rw [e2] at z; exact congrArg V.str (Option.some.inj z))
      have eq : ofLen z n = if ((wds z).length : Int) = n then some (wds z) else none := by
        unfold ofLen
        simp only [if_neg e3]
      split
      · rename_i h1
        rw [if_pos h1] at eq
        exact q2 _ eq _ p s1 hp upd_same
      · rename_i h1
        rw [if_neg h1] at eq
        exact q1 eq _ s1
/-! ### does_fit -/
theorem ofLen_len {p : Str} {n : Int} {ws : List Str} (h : ofLen p n = some ws) : (ws.length : Int) = n := by
  unfold ofLen at h
  simp only at h
  split at h
  · split at h
    · rename_i e
      cases h; exact e
    · cases h
  · split at h
    · rename_i e
      cases h; exact e
    · cases h
def sp_does_fit : Sp := fun vs H Q _ => ∃ (z l : Str), vs = [.str z, .str l] ∧ z.length ≤ 10000 ∧ l.length ≤ 5000 ∧ ∀ H', Same H H' → Q (.bl (doesFit z l)) H'
theorem G_does_fit (T : Tx K mg) : Glob P w K mg base (CX0) 2 "does_fit" p_does_fit [] sp_does_fit := by
  obtain ⟨fd, F⟩ := T.f_does_fit
  refine ⟨_, fd, [], F.ok sc_does_fit (fun vs H Q E h => ?_) (fun cdv A outer s H vs Q E hr h => ?_), T.g_does_fit, F.kp, .nil, F.bindsN fun _ _ _ _ _ _ us hl => match us, hl with | [_, _], _ => rfl⟩
  · obtain ⟨z, l, rfl, _⟩ := h; rfl
  · obtain ⟨z, l, rfl, hz, hl, q⟩ := h
    refine ⟨_, PSs.nox (pss_cons (ps_set (i := 2) sc_does_fit.nd rfl (Or.inl rfl) (pe_split (pv 1) pe_str))
      (pss_cons (ps_set (i := 3) sc_does_fit.nd rfl (Or.inl rfl) (pe_callG (G_of_length T) (hr.mono (by decide)) (by rfl) pass0 (pa_cons (pv 0) (pa_cons (pe_callB (call_len_seqK (K := K) rfl) (by rfl) T.b_len (by decide +kernel) (pa_cons (pv 2) pa_nil)) pa_nil))))
      (pss_one (ps_ret (pe_and (pe_cmpR op_notN (pv 3) pe_non (nomark _)) (pe_one (pe_callB (cr_allK (K := K) rfl rfl) (by rfl) T.b_all (by decide +kernel) (pa_cons (pe_lc (own := [("word", 4), ("part", 5)]) (g := (gTup K 2 (gCons (gName 4) (gCons (gName 5) gNil)))) (tt := tYes) rfl sc_does_fit.nd (pi_zipK (K := K) rfl (by rfl) T.b_zip (pa_cons (pv 3) (pa_cons (pv 2) pa_nil))) (blkOk_by (by kernel_rfl)) (fun _ _ _ _ _ => (pg_tupK (K := K) rfl rfl (pgs_cons (pg_name (i := 4) sc_does_fit.nd rfl (Or.inl rfl)) (pgs_cons (pg_name (i := 5) sc_does_fit.nd rfl (Or.inl rfl)) pgs_nil)))) (fun _ _ _ _ _ => pts_nil) (fun _ _ _ _ _ => (pe_cmpR (op_in_seqK (K := K) rfl) (pv 4) (pe_tup (pa_cons (pe_gs T.c_ANY (by rfl)) (pa_cons (pv 5) pa_nil))) (by rfl)))) pa_nil)))))))), ?_⟩
    simp only [tRet, tRetN, tAndV, tOrV, tNotV, tChain, rI, rI0, rU, tC, tCB, tCons, tNil, tVar, tOp, tUn, tTest, tB, tAnd, tOr, tNot, tIf, tIfS, tSeq, tAsg, tDrop, tNext, gName, gTup_ref, gCons_cons, gNil_nil, and_assoc, tYes, wipe, rEq, rNe, scal_ss, scal_ii, scal_bb, scal_ns, scal_sn, scal_nn, scal_in, scal_ni, tLc_eq, tFor_eq, iList, iTup, iStr, iRng1, iRng2, iZip, iEnum, gSub, tSl, rSetL_ref, rCat_ref, rRep_ref, rJoin_ref, rSlL_ref, rIxL_ref, rIxT_ref, rLenK_ref, rAll_ref, rIn_ref, tLst, tTup, tPar, tPar3, tAug, tPart, tNoPart, tCall, List.getElem?_cons_zero, List.getElem?_cons_succ, List.set_cons_zero, List.set_cons_succ, List.map_cons, List.map_nil, List.append_nil, List.nil_append, List.cons_append, Option.some.injEq, exists_eq_left', exists_eq_left, exists_eq_right, exists_eq_right', exists_eq', V.int.injEq, V.str.injEq, V.bl.injEq, V.ref.injEq, List.cons.injEq, tM0, tM1, rNewStrs, sgn_eq, split_dot, dot_len, sp_len, nl_len, cxOf_K, L2.start, List.length_cons, List.length_nil, List.replicate_succ, List.replicate_zero, Nat.reduceSub, Nat.zero_add, and_true, true_and, and_self, exists_and_left, exists_const, Bool.false_eq_true, if_false, if_true, ite_true, ite_false, reduceIte, decide_eq_true_eq, reduceCtorEq, Nat.reduceAdd, Nat.reduceLT]
    have hw := wds_len l
    refine ⟨small (by omega), fun p hp => ⟨_, .inl (.of upd_same), ?_⟩⟩
    have s1 : Same H (upd H p (HO.lst (List.map V.str (wds l)))) := same_put (Same.refl _) hp
    have el : (List.map V.str (wds l)).length = (wds l).length := by rw [List.length_map]
    rw [el]
    refine ⟨z, _, rfl, hz, by omega, by omega, fun e H' s2 => ?_, fun ws e H' r s2 hr hr' => ?_⟩
    · simp only [decide_true, Bool.not_true, Bool.false_eq_true, if_false]
      have e2 : doesFit z l = false := by unfold doesFit; rw [e]
      rw [← e2]
      exact q _ (s1.trans s2)
    · simp only [reduceCtorEq, decide_false, Bool.not_false, if_true]
      have e2 : doesFit z l = (ws.zip (wds l)).all fit1 := by unfold doesFit; rw [e]
      have hp' : H' p = some (.lst ((wds l).map V.str)) := s2 _ _ upd_same
      have hwl := ofLen_len e
      simp only [tRet, tRetN, tAndV, tOrV, tNotV, tChain, rI, rI0, rU, tC, tCB, tCons, tNil, tVar, tOp, tUn, tTest, tB, tAnd, tOr, tNot, tIf, tIfS, tSeq, tAsg, tDrop, tNext, gName, gTup_ref, gCons_cons, gNil_nil, and_assoc, tYes, wipe, rEq, rNe, scal_ss, scal_ii, scal_bb, scal_ns, scal_sn, scal_nn, scal_in, scal_ni, tLc_eq, tFor_eq, iList, iTup, iStr, iRng1, iRng2, iZip, iEnum, gSub, tSl, rSetL_ref, rCat_ref, rRep_ref, rJoin_ref, rSlL_ref, rIxL_ref, rIxT_ref, rLenK_ref, rAll_ref, rIn_ref, tLst, tTup, tPar, tPar3, tAug, tPart, tNoPart, tCall, List.getElem?_cons_zero, List.getElem?_cons_succ, List.set_cons_zero, List.set_cons_succ, List.map_cons, List.map_nil, List.append_nil, List.nil_append, List.cons_append, Option.some.injEq, exists_eq_left', exists_eq_left, exists_eq_right, exists_eq_right', exists_eq', V.int.injEq, V.str.injEq, V.bl.injEq, V.ref.injEq, List.cons.injEq, tM0, tM1, rNewStrs, sgn_eq, split_dot, dot_len, sp_len, nl_len, cxOf_K, L2.start, List.length_cons, List.length_nil, List.replicate_succ, List.replicate_zero, Nat.reduceSub, Nat.zero_add, and_true, true_and, and_self, exists_and_left, exists_const, Bool.false_eq_true, if_false, if_true, ite_true, ite_false, reduceIte, decide_eq_true_eq, reduceCtorEq, Nat.reduceAdd, Nat.reduceLT]
      refine ⟨_, .of hr', _, .of hp', lc_map (ws.zip (wds l)) (fun q => V.bl (fit1 q)) (walk_zipm ws (wds l) V.str V.str) (by rw [List.length_zip]; omega) (fun H2 s3 => ⟨s3.seq (.of hr'), s3.seq (.of hp')⟩) (fun i a x H1 H3 R hx s3 hy r => ?_) (fun D H1 nD s3 hD => ?_)⟩
      · obtain ⟨t, y, rfl, ht, rfl, hy⟩ := hy
        cases Option.some.inj (hx.symm.trans hy)
        refine ⟨t, _, rfl, .of upd_same, rfl, ?_⟩
        simp only [tRet, tRetN, tAndV, tOrV, tNotV, tChain, rI, rI0, rU, tC, tCB, tCons, tNil, tVar, tOp, tUn, tTest, tB, tAnd, tOr, tNot, tIf, tIfS, tSeq, tAsg, tDrop, tNext, gName, gTup_ref, gCons_cons, gNil_nil, and_assoc, tYes, wipe, rEq, rNe, scal_ss, scal_ii, scal_bb, scal_ns, scal_sn, scal_nn, scal_in, scal_ni, tLc_eq, tFor_eq, iList, iTup, iStr, iRng1, iRng2, iZip, iEnum, gSub, tSl, rSetL_ref, rCat_ref, rRep_ref, rJoin_ref, rSlL_ref, rIxL_ref, rIxT_ref, rLenK_ref, rAll_ref, rIn_ref, tLst, tTup, tPar, tPar3, tAug, tPart, tNoPart, tCall, List.getElem?_cons_zero, List.getElem?_cons_succ, List.set_cons_zero, List.set_cons_succ, List.map_cons, List.map_nil, List.append_nil, List.nil_append, List.cons_append, Option.some.injEq, exists_eq_left', exists_eq_left, exists_eq_right, exists_eq_right', exists_eq', V.int.injEq, V.str.injEq, V.bl.injEq, V.ref.injEq, List.cons.injEq, tM0, tM1, rNewStrs, sgn_eq, split_dot, dot_len, sp_len, nl_len, cxOf_K, L2.start, List.length_cons, List.length_nil, List.replicate_succ, List.replicate_zero, Nat.reduceSub, Nat.zero_add, and_true, true_and, and_self, exists_and_left, exists_const, Bool.false_eq_true, if_false, if_true, ite_true, ite_false, reduceIte, decide_eq_true_eq, reduceCtorEq, Nat.reduceAdd, Nat.reduceLT]
        refine ⟨by decide, fun u hu => ⟨_, .inr (.of upd_same), rfl, rfl, ?_⟩⟩
        have e3 : inV (V.str a.1) [V.str (Str.ofString "*"), V.str a.2] = fit1 a := by
          unfold inV fit1 eqV
          simp only [List.any_cons, List.any_nil, Bool.or_false]
          rw [beq_dec, beq_dec]
        rw [e3]
        exact r _ (same_new (same_new (Same.refl _) ht) hu)
      · refine ⟨D, (ws.zip (wds l)).map fit1, rfl, .of (by rw [hD, List.map_map]; rfl), ?_⟩
        have e4 : doesFit z l = List.all ((ws.zip (wds l)).map fit1) id := by
          rw [e2, List.all_map]; rfl
        rw [← e4]
        exact q _ ((s1.trans s2).trans s3)
/-! ### fits -/
def sp_fits (K : PySem.W.Frag) : Sp := fun vs H Q E => ∃ (z l : Str), vs = [.str z, .str l] ∧ z.length ≤ 10000 ∧ l.length ≤ 5000 ∧ (isPat z = true → isLine l = true → ∀ H', Same H H' → Q (.bl (doesFit z l)) H') ∧
  (isPat z = false → ∀ H', Same H H' → E (.ref (He.ga K "BadPattern")) none H') ∧ (isPat z = true → isLine l = false → ∀ H', Same H H' → E (.ref (He.ga K "BadLine")) none H')
theorem G_fits (T : Tx K mg) : Glob P w K mg base (L2.CX P w) 4 "fits" p_fits [] (sp_fits K) := by
  obtain ⟨fd, F⟩ := T.f_fits
  refine ⟨_, fd, [], F.ok sc_fits (fun vs H Q E h => ?_) (fun cdv A outer s H vs Q E hr h => ?_), T.g_fits, F.kp, .nil, F.bindsN fun _ _ _ _ _ _ us hl => match us, hl with | [_, _], _ => rfl⟩
  · obtain ⟨z, l, rfl, _⟩ := h; rfl
  · obtain ⟨z, l, rfl, hz, hl, q1, q2, q3⟩ := h
    refine ⟨_, (pss_cons (ps_expr (pe_callG (G_need_pattern T) (hr.mono (by decide)) (by rfl) (passes_call (takes_of rfl rfl rfl rfl) (fun _ _ _ _ h => h)) (pa_cons (pv 0) pa_nil)))
      (pss_cons (ps_expr (pe_callG (G_need_line T) (hr.mono (by decide)) (by rfl) (passes_call (takes_of rfl rfl rfl rfl) (fun _ _ _ _ h => h)) (pa_cons (pv 1) pa_nil)))
      (pss_one (ps_ret (pe_callG (G_does_fit T) (hr.mono (by decide)) (by rfl) pass0 (pa_cons (pv 0) (pa_cons (pv 1) pa_nil))))))), ?_⟩
    simp only [tRet, tRetN, tAndV, tOrV, tNotV, tChain, rI, rI0, rU, tC, tCB, tCons, tNil, tVar, tOp, tUn, tTest, tB, tAnd, tOr, tNot, tIf, tIfS, tSeq, tAsg, tDrop, tNext, gName, gTup_ref, gCons_cons, gNil_nil, and_assoc, tYes, wipe, rEq, rNe, scal_ss, scal_ii, scal_bb, scal_ns, scal_sn, scal_nn, scal_in, scal_ni, tLc_eq, tFor_eq, iList, iTup, iStr, iRng1, iRng2, iZip, iEnum, gSub, tSl, rSetL_ref, rCat_ref, rRep_ref, rJoin_ref, rSlL_ref, rIxL_ref, rIxT_ref, rLenK_ref, rAll_ref, rIn_ref, tLst, tTup, tPar, tPar3, tAug, tPart, tNoPart, tCall, List.getElem?_cons_zero, List.getElem?_cons_succ, List.set_cons_zero, List.set_cons_succ, List.map_cons, List.map_nil, List.append_nil, List.nil_append, List.cons_append, Option.some.injEq, exists_eq_left', exists_eq_left, exists_eq_right, exists_eq_right', exists_eq', V.int.injEq, V.str.injEq, V.bl.injEq, V.ref.injEq, List.cons.injEq, tM0, tM1, rNewStrs, sgn_eq, split_dot, dot_len, sp_len, nl_len, cxOf_K, L2.start, List.length_cons, List.length_nil, List.replicate_succ, List.replicate_zero, Nat.reduceSub, Nat.zero_add, and_true, true_and, and_self, exists_and_left, exists_const, Bool.false_eq_true, if_false, if_true, ite_true, ite_false, reduceIte, decide_eq_true_eq, reduceCtorEq, Nat.reduceAdd, Nat.reduceLT]
    refine ⟨z, rfl, hz, fun e H1 s1 => ⟨l, rfl, by omega, fun e2 H2 s2 => ⟨z, l, rfl, hz, hl, fun H3 s3 => q1 e e2 _ ((s1.trans s2).trans s3)⟩, fun e2 H2 s2 => q3 e e2 _ (s1.trans s2)⟩, fun e H1 s1 => q2 e _ s1⟩
end
end Hk

set_option Elab.async false
set_option linter.all false
set_option maxRecDepth 100000
set_option maxHeartbeats 4000000
namespace Hk
open PySem PySem.Spec PyProof.Rows L2
section
variable {P : Program} {w : World} {K : PySem.W.Frag} {mg : Str → Option Value} {base : Heap}
/-! ### what is drawn from: a list of a number, the cells and a place -/
def SrcOk (H : Hp) (h l : Addr) : Prop := ∃ (m p : Int) (cs : List Int), H h = some (.lst [.int m, .ref l, .int p]) ∧ H l = some (.lst (cs.map V.int)) ∧ 0 ≤ m ∧ m < 2147483647 ∧ 0 ≤ p ∧ cs.length ≤ 63
abbrev DrS (h l : Addr) : Addr → Prop := fun b => b = h ∨ b = l
theorem SrcOk.ne {H : Hp} {h l : Addr} (s : SrcOk H h l) : h ≠ l := by
  obtain ⟨m, p, cs, e1, e2, _⟩ := s
  intro e; subst e
  rw [e1] at e2
  cases cs with
  | nil => cases e2
  | cons a r =>
    cases r with
    | nil => cases e2
    | cons b r => cases e2
def sp_law_mix (K : PySem.W.Frag) : Sp := fun vs H Q _ => ∃ (a : Addr) (ns : List Int) (sd : Int), vs = [.ref a, .int sd] ∧ SqL K H a (ns.map V.int) ∧ ns.length ≤ 63 ∧ 0 ≤ sd ∧ sd < 2147483647 ∧
  ∀ H' h l, Same H H' → H h = none → H l = none → SrcOk H' h l → Q (.ref h) H'
theorem G_law_mix (T : Tx K mg) : Glob P w K mg base (CX0) 1 "_law_mix" p_law_mix [] (sp_law_mix K) := by
  obtain ⟨fd, F⟩ := T.f_law_mix
  refine ⟨_, fd, [], F.ok sc_law_mix (fun vs H Q E h => ?_) (fun cdv A outer s H vs Q E hr h => ?_), T.g__law_mix, F.kp, .nil, F.bindsN fun _ _ _ _ _ _ us hl => match us, hl with | [_, _], _ => rfl⟩
  · obtain ⟨a, ns, sd, rfl, _⟩ := h; rfl
  · obtain ⟨a, ns, sd, rfl, hS, hn, h0, h1, q⟩ := h
    refine ⟨_, PSs.nox (pss_cons (ps_set (i := 2) sc_law_mix.nd rfl (Or.inl rfl) (pv 1))
      (pss_cons (ps_for PassesOwn.never rfl (pi_listK (K := K) rfl (pv 0)) (pg_name (i := 3) sc_law_mix.nd rfl (Or.inl rfl))
      (pss_one (ps_set (i := 2) sc_law_mix.nd rfl (Or.inl rfl) (pe_op op_mod (pe_op op_add (pe_op op_add (pe_op op_mul (pv 2) pe_int) (pe_op op_mod (pv 3) pe_int)) pe_int) pe_int))))
      (pss_one (ps_ret (pe_lst (pa_cons (pv 2) (pa_cons (pe_callTy (call_list_ofK (K := K) rfl) (by rfl) T.b_list (by decide +kernel) (pa_cons (pv 0) pa_nil)) (pa_cons pe_int pa_nil)))))))), ?_⟩
    simp only [tRet, tRetN, tAndV, tOrV, tNotV, tChain, rI, rI0, rU, tC, tCB, tCons, tNil, tVar, tOp, tUn, tTest, tB, tAnd, tOr, tNot, tIf, tIfS, tSeq, tAsg, tDrop, tNext, gName, gTup_ref, gCons_cons, gNil_nil, and_assoc, tYes, wipe, rEq, rNe, scal_ss, scal_ii, scal_bb, scal_ns, scal_sn, scal_nn, scal_in, scal_ni, tLc_eq, tFor_eq, iList, iTup, iStr, iRng1, iRng2, iZip, iEnum, gSub, tSl, rSetL_ref, rCat_ref, rRep_ref, rJoin_ref, rSlL_ref, rIxL_ref, rIxT_ref, rLenK_ref, rAll_ref, rIn_ref, tLst, tTup, tPar, tPar3, tAug, tPart, tNoPart, tCall, List.getElem?_cons_zero, List.getElem?_cons_succ, List.set_cons_zero, List.set_cons_succ, List.map_cons, List.map_nil, List.append_nil, List.nil_append, List.cons_append, Option.some.injEq, exists_eq_left', exists_eq_left, exists_eq_right, exists_eq_right', exists_eq', V.int.injEq, V.str.injEq, V.bl.injEq, V.ref.injEq, List.cons.injEq, tM0, tM1, rNewStrs, sgn_eq, split_dot, dot_len, sp_len, nl_len, cxOf_K, L2.start, List.length_cons, List.length_nil, List.replicate_succ, List.replicate_zero, Nat.reduceSub, Nat.zero_add, and_true, true_and, and_self, exists_and_left, exists_const, Bool.false_eq_true, if_false, if_true, ite_true, ite_false, reduceIte, decide_eq_true_eq, reduceCtorEq, Nat.reduceAdd, Nat.reduceLT]
    refine ⟨⟨_, hS⟩, forG (walk_listm ns V.int) (fun i σ H' => ∃ m c, σ = [some (.ref a), some (.int sd), some (.int m), c] ∧ 0 ≤ m ∧ m < 2147483647 ∧ H' = H) ⟨sd, none, rfl, h0, h1, rfl⟩ (fun i σ H' _ ⟨m, c, _, _, _, e⟩ => by rw [e]; exact hS) (fun i x σ H1 H2 hi hP hy => ?_) (fun σ H1 hP => ?_)⟩
    · obtain ⟨m, c, rfl, hm0, hm1, rfl⟩ := hP
      obtain ⟨rfl, y, hy, rfl⟩ := hy
      simp only [tRet, tRetN, tAndV, tOrV, tNotV, tChain, rI, rI0, rU, tC, tCB, tCons, tNil, tVar, tOp, tUn, tTest, tB, tAnd, tOr, tNot, tIf, tIfS, tSeq, tAsg, tDrop, tNext, gName, gTup_ref, gCons_cons, gNil_nil, and_assoc, tYes, wipe, rEq, rNe, scal_ss, scal_ii, scal_bb, scal_ns, scal_sn, scal_nn, scal_in, scal_ni, tLc_eq, tFor_eq, iList, iTup, iStr, iRng1, iRng2, iZip, iEnum, gSub, tSl, rSetL_ref, rCat_ref, rRep_ref, rJoin_ref, rSlL_ref, rIxL_ref, rIxT_ref, rLenK_ref, rAll_ref, rIn_ref, tLst, tTup, tPar, tPar3, tAug, tPart, tNoPart, tCall, List.getElem?_cons_zero, List.getElem?_cons_succ, List.set_cons_zero, List.set_cons_succ, List.map_cons, List.map_nil, List.append_nil, List.nil_append, List.cons_append, Option.some.injEq, exists_eq_left', exists_eq_left, exists_eq_right, exists_eq_right', exists_eq', V.int.injEq, V.str.injEq, V.bl.injEq, V.ref.injEq, List.cons.injEq, tM0, tM1, rNewStrs, sgn_eq, split_dot, dot_len, sp_len, nl_len, cxOf_K, L2.start, List.length_cons, List.length_nil, List.replicate_succ, List.replicate_zero, Nat.reduceSub, Nat.zero_add, and_true, true_and, and_self, exists_and_left, exists_const, Bool.false_eq_true, if_false, if_true, ite_true, ite_false, reduceIte, decide_eq_true_eq, reduceCtorEq, Nat.reduceAdd, Nat.reduceLT]
      refine ⟨.inr ⟨by omega, by omega⟩, by omega, by omega, ?_, ?_⟩
      · exact Int.emod_nonneg _ (by omega)
      · exact Int.emod_lt_of_pos _ (by omega)
    · obtain ⟨m, c, rfl, hm0, hm1, rfl⟩ := hP
      simp only [tRet, tRetN, tAndV, tOrV, tNotV, tChain, rI, rI0, rU, tC, tCB, tCons, tNil, tVar, tOp, tUn, tTest, tB, tAnd, tOr, tNot, tIf, tIfS, tSeq, tAsg, tDrop, tNext, gName, gTup_ref, gCons_cons, gNil_nil, and_assoc, tYes, wipe, rEq, rNe, scal_ss, scal_ii, scal_bb, scal_ns, scal_sn, scal_nn, scal_in, scal_ni, tLc_eq, tFor_eq, iList, iTup, iStr, iRng1, iRng2, iZip, iEnum, gSub, tSl, rSetL_ref, rCat_ref, rRep_ref, rJoin_ref, rSlL_ref, rIxL_ref, rIxT_ref, rLenK_ref, rAll_ref, rIn_ref, tLst, tTup, tPar, tPar3, tAug, tPart, tNoPart, tCall, List.getElem?_cons_zero, List.getElem?_cons_succ, List.set_cons_zero, List.set_cons_succ, List.map_cons, List.map_nil, List.append_nil, List.nil_append, List.cons_append, Option.some.injEq, exists_eq_left', exists_eq_left, exists_eq_right, exists_eq_right', exists_eq', V.int.injEq, V.str.injEq, V.bl.injEq, V.ref.injEq, List.cons.injEq, tM0, tM1, rNewStrs, sgn_eq, split_dot, dot_len, sp_len, nl_len, cxOf_K, L2.start, List.length_cons, List.length_nil, List.replicate_succ, List.replicate_zero, Nat.reduceSub, Nat.zero_add, and_true, true_and, and_self, exists_and_left, exists_const, Bool.false_eq_true, if_false, if_true, ite_true, ite_false, reduceIte, decide_eq_true_eq, reduceCtorEq, Nat.reduceAdd, Nat.reduceLT]
      refine ⟨a, _, rfl, .inl hS, fun l hl => ?_⟩
      simp only [tRet, tRetN, tAndV, tOrV, tNotV, tChain, rI, rI0, rU, tC, tCB, tCons, tNil, tVar, tOp, tUn, tTest, tB, tAnd, tOr, tNot, tIf, tIfS, tSeq, tAsg, tDrop, tNext, gName, gTup_ref, gCons_cons, gNil_nil, and_assoc, tYes, wipe, rEq, rNe, scal_ss, scal_ii, scal_bb, scal_ns, scal_sn, scal_nn, scal_in, scal_ni, tLc_eq, tFor_eq, iList, iTup, iStr, iRng1, iRng2, iZip, iEnum, gSub, tSl, rSetL_ref, rCat_ref, rRep_ref, rJoin_ref, rSlL_ref, rIxL_ref, rIxT_ref, rLenK_ref, rAll_ref, rIn_ref, tLst, tTup, tPar, tPar3, tAug, tPart, tNoPart, tCall, List.getElem?_cons_zero, List.getElem?_cons_succ, List.set_cons_zero, List.set_cons_succ, List.map_cons, List.map_nil, List.append_nil, List.nil_append, List.cons_append, Option.some.injEq, exists_eq_left', exists_eq_left, exists_eq_right, exists_eq_right', exists_eq', V.int.injEq, V.str.injEq, V.bl.injEq, V.ref.injEq, List.cons.injEq, tM0, tM1, rNewStrs, sgn_eq, split_dot, dot_len, sp_len, nl_len, cxOf_K, L2.start, List.length_cons, List.length_nil, List.replicate_succ, List.replicate_zero, Nat.reduceSub, Nat.zero_add, and_true, true_and, and_self, exists_and_left, exists_const, Bool.false_eq_true, if_false, if_true, ite_true, ite_false, reduceIte, decide_eq_true_eq, reduceCtorEq, Nat.reduceAdd, Nat.reduceLT]
      refine ⟨by decide, fun h hh => ?_⟩
      have nlh : l ≠ h := by
        intro e; subst e
        rw [upd_same] at hh; cases hh
      rw [upd_ne nlh.symm] at hh
      exact q _ h l (same_put (same_put (Same.refl _) hl) hh) hh hl ⟨m, 0, ns, upd_same, by rw [upd_ne nlh, upd_same], hm0, hm1, Int.le_refl _, hn⟩
def sp_law_next : Sp := fun vs H Q _ => ∃ (h l : Addr) (n : Int), vs = [.ref h, .int n] ∧ SrcOk H h l ∧ 0 < n ∧ n < 1073741824 ∧
  ∀ H' r, Ext (DrS h l) H H' → SrcOk H' h l → 0 ≤ r → r < n → Q (.int r) H'
theorem G_law_next (T : Tx K mg) : Glob P w K mg base (CX0) 1 "_law_next" p_law_next [] sp_law_next := by
  obtain ⟨fd, F⟩ := T.f_law_next
  refine ⟨_, fd, [], F.ok sc_law_next (fun vs H Q E h => ?_) (fun cdv A outer s H vs Q E hr h => ?_), T.g__law_next, F.kp, .nil, F.bindsN fun _ _ _ _ _ _ us hl => match us, hl with | [_, _], _ => rfl⟩
  · obtain ⟨h, l, n, rfl, _⟩ := h; rfl
  · obtain ⟨h, l, n, rfl, hS, h0, h1, q⟩ := h
    have hne := hS.ne
    obtain ⟨m, p, cs, e1, e2, hm0, hm1, hp, hc⟩ := hS
    refine ⟨_, PSs.nox (pss_cons (ps_set (i := 2) sc_law_next.nd rfl (Or.inl rfl) (pe_ix (ix_listK (K := K) rfl) (pe_op op_cat (pe_ix (ix_listK (K := K) rfl) (pv 0) pe_int (fun _ _ => rfl)) (pe_lst (pa_cons pe_int pa_nil))) (pe_op op_mod (pe_ix (ix_listK (K := K) rfl) (pv 0) pe_int (fun _ _ => rfl)) (pe_callB (call_max2 rfl) (by rfl) T.b_max (by decide +kernel) (pa_cons pe_int (pa_cons (pe_callB (call_len_seqK (K := K) rfl) (by rfl) T.b_len (by decide +kernel) (pa_cons (pe_ix (ix_listK (K := K) rfl) (pv 0) pe_int (fun _ _ => rfl)) pa_nil)) pa_nil)))) (fun _ _ => rfl)))
      (pss_cons (ps_if (pt_cmpR op_ge (pv 2) (pe_op op_pow pe_int pe_int) (nomark _))
      (pss_cons (ps_asg (pe_op op_fdiv (pv 2) (pv 1)) (pg_sub (pe_ix (ix_listK (K := K) rfl) (pv 0) pe_int (fun _ _ => rfl)) (pe_op op_mod (pe_ix (ix_listK (K := K) rfl) (pv 0) pe_int (fun _ _ => rfl)) (pe_callB (call_len_seqK (K := K) rfl) (by rfl) T.b_len (by decide +kernel) (pa_cons (pe_ix (ix_listK (K := K) rfl) (pv 0) pe_int (fun _ _ => rfl)) pa_nil))) set_list))
      (pss_one (ps_ret (pe_op op_mod (pv 2) (pv 1)))))
      pss_nil)
      (pss_cons (ps_asg (pe_op op_mod (pe_op op_add (pe_op op_add (pe_op op_mul (pe_ix (ix_listK (K := K) rfl) (pv 0) pe_int (fun _ _ => rfl)) pe_int) (pe_op op_mul (pv 2) pe_int)) pe_int) pe_int) (pg_sub (pv 0) pe_int set_list))
      (pss_cons (ps_asg (pe_op op_add (pe_ix (ix_listK (K := K) rfl) (pv 0) pe_int (fun _ _ => rfl)) pe_int) (pg_sub (pv 0) pe_int set_list))
      (pss_one (ps_ret (pe_op op_mod (pe_op op_fdiv (pe_ix (ix_listK (K := K) rfl) (pv 0) pe_int (fun _ _ => rfl)) pe_int) (pv 1)))))))), ?_⟩
    simp only [tRet, tRetN, tAndV, tOrV, tNotV, tChain, rI, rI0, rU, tC, tCB, tCons, tNil, tVar, tOp, tUn, tTest, tB, tAnd, tOr, tNot, tIf, tIfS, tSeq, tAsg, tDrop, tNext, gName, gTup_ref, gCons_cons, gNil_nil, and_assoc, tYes, wipe, rEq, rNe, scal_ss, scal_ii, scal_bb, scal_ns, scal_sn, scal_nn, scal_in, scal_ni, tLc_eq, tFor_eq, iList, iTup, iStr, iRng1, iRng2, iZip, iEnum, gSub, tSl, rSetL_ref, rCat_ref, rRep_ref, rJoin_ref, rSlL_ref, rIxL_ref, rIxT_ref, rLenK_ref, rAll_ref, rIn_ref, tLst, tTup, tPar, tPar3, tAug, tPart, tNoPart, tCall, List.getElem?_cons_zero, List.getElem?_cons_succ, List.set_cons_zero, List.set_cons_succ, List.map_cons, List.map_nil, List.append_nil, List.nil_append, List.cons_append, Option.some.injEq, exists_eq_left', exists_eq_left, exists_eq_right, exists_eq_right', exists_eq', V.int.injEq, V.str.injEq, V.bl.injEq, V.ref.injEq, List.cons.injEq, tM0, tM1, rNewStrs, sgn_eq, split_dot, dot_len, sp_len, nl_len, cxOf_K, L2.start, List.length_cons, List.length_nil, List.replicate_succ, List.replicate_zero, Nat.reduceSub, Nat.zero_add, and_true, true_and, and_self, exists_and_left, exists_const, Bool.false_eq_true, if_false, if_true, ite_true, ite_false, reduceIte, decide_eq_true_eq, reduceCtorEq, Nat.reduceAdd, Nat.reduceLT]
    refine ⟨_, .of e1, _, rfl, by decide, fun b hb => ?_⟩
    have nhb : h ≠ b := ne_of_none e1 hb
    have nlb : l ≠ b := ne_of_none e2 hb
    refine ⟨l, b, _, _, rfl, rfl, by rw [upd_ne nlb]; exact e2, upd_same, by rw [List.length_map]; exact small (by simp; omega), fun c hc2 => ?_⟩
    have nbc : b ≠ c := by
      intro e; subst e
      rw [upd_same] at hc2; cases hc2
    have nhc : h ≠ c := by
      intro e; subst e
      rw [upd_ne nhb, e1] at hc2; cases hc2
    have nlc : l ≠ c := by
      intro e; subst e
      rw [upd_ne nlb, e2] at hc2; cases hc2
    have s1 : Ext (DrS h l) H (upd (upd H b (HO.lst [V.int 0])) c (HO.lst (List.map V.int cs ++ [V.int 0]))) := .of_same (same_new (same_put (Same.refl _) hb) hc2)
    have f1 : (upd (upd H b (HO.lst [V.int 0])) c (HO.lst (List.map V.int cs ++ [V.int 0]))) h = some (.lst [.int m, .ref l, .int p]) := by rw [upd_ne nhc, upd_ne nhb]; exact e1
    have f2 : (upd (upd H b (HO.lst [V.int 0])) c (HO.lst (List.map V.int cs ++ [V.int 0]))) l = some (.lst (cs.map V.int)) := by rw [upd_ne nlc, upd_ne nlb]; exact e2
    have f3 : (upd (upd H b (HO.lst [V.int 0])) c (HO.lst (List.map V.int cs ++ [V.int 0]))) c = some (.lst ((cs ++ [0]).map V.int)) := by rw [upd_same, List.map_append]; rfl
    generalize upd (upd H b (HO.lst [V.int 0])) c (HO.lst (List.map V.int cs ++ [V.int 0])) = H1 at s1 f1 f2 f3
    refine ⟨_, .of f1, _, rfl, _, .of f1, _, rfl, ?_⟩
    simp only [tRet, tRetN, tAndV, tOrV, tNotV, tChain, rI, rI0, rU, tC, tCB, tCons, tNil, tVar, tOp, tUn, tTest, tB, tAnd, tOr, tNot, tIf, tIfS, tSeq, tAsg, tDrop, tNext, gName, gTup_ref, gCons_cons, gNil_nil, and_assoc, tYes, wipe, rEq, rNe, scal_ss, scal_ii, scal_bb, scal_ns, scal_sn, scal_nn, scal_in, scal_ni, tLc_eq, tFor_eq, iList, iTup, iStr, iRng1, iRng2, iZip, iEnum, gSub, tSl, rSetL_ref, rCat_ref, rRep_ref, rJoin_ref, rSlL_ref, rIxL_ref, rIxT_ref, rLenK_ref, rAll_ref, rIn_ref, tLst, tTup, tPar, tPar3, tAug, tPart, tNoPart, tCall, List.getElem?_cons_zero, List.getElem?_cons_succ, List.set_cons_zero, List.set_cons_succ, List.map_cons, List.map_nil, List.append_nil, List.nil_append, List.cons_append, Option.some.injEq, exists_eq_left', exists_eq_left, exists_eq_right, exists_eq_right', exists_eq', V.int.injEq, V.str.injEq, V.bl.injEq, V.ref.injEq, List.cons.injEq, tM0, tM1, rNewStrs, sgn_eq, split_dot, dot_len, sp_len, nl_len, cxOf_K, L2.start, List.length_cons, List.length_nil, List.replicate_succ, List.replicate_zero, Nat.reduceSub, Nat.zero_add, and_true, true_and, and_self, exists_and_left, exists_const, Bool.false_eq_true, if_false, if_true, ite_true, ite_false, reduceIte, decide_eq_true_eq, reduceCtorEq, Nat.reduceAdd, Nat.reduceLT]
    refine ⟨_, .inl (.of f2), ?_⟩
    rw [List.length_map]
    have hd : (0 : Int) < if (cs.length : Int) > 1 then (cs.length : Int) else 1 := by split <;> omega
    refine ⟨hd, ?_⟩
    have hd1 : (if (cs.length : Int) > 1 then (cs.length : Int) else 1) ≤ (cs ++ [0]).length := by rw [List.length_append]; simp only [List.length_singleton]; split <;> omega
    have hi0 := Int.emod_nonneg p (b := if (cs.length : Int) > 1 then (cs.length : Int) else 1) (by omega)
    have hi1 := Int.emod_lt_of_pos p hd
    generalize hD : (if (cs.length : Int) > 1 then (cs.length : Int) else 1) = D at hd hd1 hi0 hi1
    have hix : ((p % D).toNat : Nat) < (cs ++ [0]).length := by omega
    have hci : (cs ++ [(0 : Int)])[(p % D).toNat]? = some ((cs ++ [0])[(p % D).toNat]) := List.getElem?_eq_getElem hix
    generalize (cs ++ [(0 : Int)])[(p % D).toNat] = cell at hci
    have hat : atI ((cs ++ [0]).map V.int) (p % D) = some (.int cell) := by
      have e : (p % D) = (((p % D).toNat : Nat) : Int) := by omega
      rw [e]
      refine atI_nat ?_
      rw [List.getElem?_map, hci]; rfl
    refine ⟨_, .of f3, _, hat, ⟨by decide, by decide, by decide⟩, _, rfl, ?_⟩
    split
    · rename_i hbig
      have hcs : 0 < cs.length := by
        rcases Nat.eq_zero_or_pos cs.length with e | e
        · exfalso
          have ec : cs = [] := List.eq_nil_of_length_eq_zero e
          subst ec
          have ex : (p % D).toNat = 0 := by simp at hix; omega
          rw [ex] at hci
          have := Option.some.inj hci
          subst this
          exact absurd hbig (by decide)
        · exact e
      simp only [tRet, tRetN, tAndV, tOrV, tNotV, tChain, rI, rI0, rU, tC, tCB, tCons, tNil, tVar, tOp, tUn, tTest, tB, tAnd, tOr, tNot, tIf, tIfS, tSeq, tAsg, tDrop, tNext, gName, gTup_ref, gCons_cons, gNil_nil, and_assoc, tYes, wipe, rEq, rNe, scal_ss, scal_ii, scal_bb, scal_ns, scal_sn, scal_nn, scal_in, scal_ni, tLc_eq, tFor_eq, iList, iTup, iStr, iRng1, iRng2, iZip, iEnum, gSub, tSl, rSetL_ref, rCat_ref, rRep_ref, rJoin_ref, rSlL_ref, rIxL_ref, rIxT_ref, rLenK_ref, rAll_ref, rIn_ref, tLst, tTup, tPar, tPar3, tAug, tPart, tNoPart, tCall, List.getElem?_cons_zero, List.getElem?_cons_succ, List.set_cons_zero, List.set_cons_succ, List.map_cons, List.map_nil, List.append_nil, List.nil_append, List.cons_append, Option.some.injEq, exists_eq_left', exists_eq_left, exists_eq_right, exists_eq_right', exists_eq', V.int.injEq, V.str.injEq, V.bl.injEq, V.ref.injEq, List.cons.injEq, tM0, tM1, rNewStrs, sgn_eq, split_dot, dot_len, sp_len, nl_len, cxOf_K, L2.start, List.length_cons, List.length_nil, List.replicate_succ, List.replicate_zero, Nat.reduceSub, Nat.zero_add, and_true, true_and, and_self, exists_and_left, exists_const, Bool.false_eq_true, if_false, if_true, ite_true, ite_false, reduceIte, decide_eq_true_eq, reduceCtorEq, Nat.reduceAdd, Nat.reduceLT]
      refine ⟨⟨h0, h1⟩, _, .of f1, _, rfl, _, .of f1, _, rfl, _, .of f1, _, rfl, ?_⟩
      simp only [tRet, tRetN, tAndV, tOrV, tNotV, tChain, rI, rI0, rU, tC, tCB, tCons, tNil, tVar, tOp, tUn, tTest, tB, tAnd, tOr, tNot, tIf, tIfS, tSeq, tAsg, tDrop, tNext, gName, gTup_ref, gCons_cons, gNil_nil, and_assoc, tYes, wipe, rEq, rNe, scal_ss, scal_ii, scal_bb, scal_ns, scal_sn, scal_nn, scal_in, scal_ni, tLc_eq, tFor_eq, iList, iTup, iStr, iRng1, iRng2, iZip, iEnum, gSub, tSl, rSetL_ref, rCat_ref, rRep_ref, rJoin_ref, rSlL_ref, rIxL_ref, rIxT_ref, rLenK_ref, rAll_ref, rIn_ref, tLst, tTup, tPar, tPar3, tAug, tPart, tNoPart, tCall, List.getElem?_cons_zero, List.getElem?_cons_succ, List.set_cons_zero, List.set_cons_succ, List.map_cons, List.map_nil, List.append_nil, List.nil_append, List.cons_append, Option.some.injEq, exists_eq_left', exists_eq_left, exists_eq_right, exists_eq_right', exists_eq', V.int.injEq, V.str.injEq, V.bl.injEq, V.ref.injEq, List.cons.injEq, tM0, tM1, rNewStrs, sgn_eq, split_dot, dot_len, sp_len, nl_len, cxOf_K, L2.start, List.length_cons, List.length_nil, List.replicate_succ, List.replicate_zero, Nat.reduceSub, Nat.zero_add, and_true, true_and, and_self, exists_and_left, exists_const, Bool.false_eq_true, if_false, if_true, ite_true, ite_false, reduceIte, decide_eq_true_eq, reduceCtorEq, Nat.reduceAdd, Nat.reduceLT]
      refine ⟨_, .inl (.of f2), ?_⟩
      rw [List.length_map]
      have hr0 := Int.emod_nonneg p (b := (cs.length : Int)) (by omega)
      have hr1 := Int.emod_lt_of_pos p (b := (cs.length : Int)) (by omega)
      refine ⟨by omega, _, f2, _, ixN_in hr0 (by rw [List.length_map]; exact hr1), h0, ?_⟩
      refine q _ _ (s1.trans ((Ext.refl _ _).put (.inr (.inr rfl)))) ⟨m, p, cs.set (p % (cs.length : Int)).toNat (cell / n), by rw [upd_ne hne]; exact f1, by rw [upd_same, List.map_set], hm0, hm1, hp, by rw [List.length_set]; exact hc⟩ (Int.emod_nonneg _ (by omega)) (Int.emod_lt_of_pos _ h0)
    · rename_i hsm
      simp only [tRet, tRetN, tAndV, tOrV, tNotV, tChain, rI, rI0, rU, tC, tCB, tCons, tNil, tVar, tOp, tUn, tTest, tB, tAnd, tOr, tNot, tIf, tIfS, tSeq, tAsg, tDrop, tNext, gName, gTup_ref, gCons_cons, gNil_nil, and_assoc, tYes, wipe, rEq, rNe, scal_ss, scal_ii, scal_bb, scal_ns, scal_sn, scal_nn, scal_in, scal_ni, tLc_eq, tFor_eq, iList, iTup, iStr, iRng1, iRng2, iZip, iEnum, gSub, tSl, rSetL_ref, rCat_ref, rRep_ref, rJoin_ref, rSlL_ref, rIxL_ref, rIxT_ref, rLenK_ref, rAll_ref, rIn_ref, tLst, tTup, tPar, tPar3, tAug, tPart, tNoPart, tCall, List.getElem?_cons_zero, List.getElem?_cons_succ, List.set_cons_zero, List.set_cons_succ, List.map_cons, List.map_nil, List.append_nil, List.nil_append, List.cons_append, Option.some.injEq, exists_eq_left', exists_eq_left, exists_eq_right, exists_eq_right', exists_eq', V.int.injEq, V.str.injEq, V.bl.injEq, V.ref.injEq, List.cons.injEq, tM0, tM1, rNewStrs, sgn_eq, split_dot, dot_len, sp_len, nl_len, cxOf_K, L2.start, List.length_cons, List.length_nil, List.replicate_succ, List.replicate_zero, Nat.reduceSub, Nat.zero_add, and_true, true_and, and_self, exists_and_left, exists_const, Bool.false_eq_true, if_false, if_true, ite_true, ite_false, reduceIte, decide_eq_true_eq, reduceCtorEq, Nat.reduceAdd, Nat.reduceLT]
      refine ⟨_, .of f1, _, rfl, _, rfl, .inr ⟨by decide, by decide⟩, .inr ⟨by decide, by decide⟩, by decide, _, f1, 0, rfl, _, .of upd_same, _, rfl, _, rfl, _, upd_same, 2, rfl, _, .of upd_same, _, rfl, _, rfl, ⟨by decide, by decide⟩, h0, ?_⟩
      refine q _ _ (s1.trans (((Ext.refl _ _).put (.inr (.inl rfl))).put (.inr (.inl rfl)))) ⟨_, _, cs, upd_same, by rw [upd_ne hne.symm, upd_ne hne.symm]; exact f2, Int.emod_nonneg _ (by decide), Int.emod_lt_of_pos _ (by decide), by omega, hc⟩ (Int.emod_nonneg _ (by omega)) (Int.emod_lt_of_pos _ h0)
end
end Hk

set_option Elab.async false
set_option linter.all false
set_option maxRecDepth 100000
set_option maxHeartbeats 4000000
namespace Hk
open PySem PySem.Spec PyProof.Rows L2
open TL
section
variable {P : Program} {w : World} {K : PySem.W.Frag} {mg : Str → Option Value} {base : Heap}
/-! ### _law_parts -/
theorem G_law_parts (T : Tx K mg) : Glob P w K mg base (CX0) 1 "_law_parts" p_law_parts [] sp_of_length := by
  obtain ⟨fd, F⟩ := T.f_law_parts
  refine ⟨_, fd, [], F.ok sc_law_parts (fun vs H Q E h => ?_) (fun cdv A outer s H vs Q E hr h => ?_), T.g__law_parts, F.kp, .nil, F.bindsN fun _ _ _ _ _ _ us hl => match us, hl with | [_, _], _ => rfl⟩
  · obtain ⟨z, n, rfl, _⟩ := h; rfl
  · obtain ⟨z, n, rfl, hz, hn0, hn, q1, q2⟩ := h
    refine ⟨_, PSs.nox (pss_cons (ps_set (i := 2) sc_law_parts.nd rfl (Or.inl rfl) (pe_split (pv 0) pe_str))
      (pss_cons (ps_if (pt_cmpR op_eq (pe_ix (ix_listK (K := K) rfl) (pv 2) (pe_un un_neg pe_int) (fun _ _ => rfl)) pe_str (nomark _))
      (pss_one (ps_set (i := 2) sc_law_parts.nd rfl (Or.inl rfl) (pe_op op_cat (pe_slice (sl_listK (K := K) rfl) (pv 2) po_none (po_some (pe_un un_neg pe_int))) (pe_op op_rep (pe_lst (pa_cons pe_str pa_nil)) (pe_op op_add (pe_op op_sub (pv 1) (pe_callB (call_len_seqK (K := K) rfl) (by rfl) T.b_len (by decide +kernel) (pa_cons (pv 2) pa_nil))) pe_int)))))
      pss_nil)
      (pss_one (ps_ret (pe_ifExp (pt_cmpR op_eq (pe_callB (call_len_seqK (K := K) rfl) (by rfl) T.b_len (by decide +kernel) (pa_cons (pv 2) pa_nil)) (pv 1) (nomark _)) (pv 2) pe_non))))), ?_⟩
    simp only [tRet, tRetN, tAndV, tOrV, tNotV, tChain, rI, rI0, rU, tC, tCB, tCons, tNil, tVar, tOp, tUn, tTest, tB, tAnd, tOr, tNot, tIf, tIfS, tSeq, tAsg, tDrop, tNext, gName, gTup_ref, gCons_cons, gNil_nil, and_assoc, tYes, wipe, rEq, rNe, scal_ss, scal_ii, scal_bb, scal_ns, scal_sn, scal_nn, scal_in, scal_ni, tLc_eq, tFor_eq, iList, iTup, iStr, iRng1, iRng2, iZip, iEnum, gSub, tSl, rSetL_ref, rCat_ref, rRep_ref, rJoin_ref, rSlL_ref, rIxL_ref, rIxT_ref, rLenK_ref, rAll_ref, rIn_ref, tLst, tTup, tPar, tPar3, tAug, tPart, tNoPart, tCall, List.getElem?_cons_zero, List.getElem?_cons_succ, List.set_cons_zero, List.set_cons_succ, List.map_cons, List.map_nil, List.append_nil, List.nil_append, List.cons_append, Option.some.injEq, exists_eq_left', exists_eq_left, exists_eq_right, exists_eq_right', exists_eq', V.int.injEq, V.str.injEq, V.bl.injEq, V.ref.injEq, List.cons.injEq, tM0, tM1, rNewStrs, sgn_eq, split_dot, dot_len, sp_len, nl_len, cxOf_K, L2.start, List.length_cons, List.length_nil, List.replicate_succ, List.replicate_zero, Nat.reduceSub, Nat.zero_add, and_true, true_and, and_self, exists_and_left, exists_const, Bool.false_eq_true, if_false, if_true, ite_true, ite_false, reduceIte, decide_eq_true_eq, reduceCtorEq, Nat.reduceAdd, Nat.reduceLT]
    have hl := wds_len z
    have hne := wds_ne z
    have hl0 : 0 < (wds z).length := by
      cases e : wds z with
      | nil => exact absurd e hne
      | cons a r => simp
    refine ⟨small (by omega), fun p hp => ⟨_, .of upd_same, ?_⟩⟩
    have s1 : Same H (upd H p (HO.lst (List.map V.str (wds z)))) := same_put (Same.refl _) hp
    obtain ⟨x, e1, e2⟩ := last_str hne
    refine ⟨.str x, (atI_neg1 (by simpa using hne)).trans e1, rfl, ?_⟩
    have hdl : (wds z).dropLast.length = (wds z).length - 1 := List.length_dropLast
    split
    · rename_i e
      cases e
      refine ⟨_, .of upd_same, fun c hc => ⟨by decide, fun r hr => ?_⟩⟩
      rw [cut_last]
      have npc : p ≠ c := ne_of_none upd_same hc
      have ncr : c ≠ r := ne_of_none upd_same hr
      have npr : p ≠ r := by
        intro e; subst e
        rw [upd_ne npc, upd_same] at hr; cases hr
      have s2 : Same H (upd (upd (upd H p (HO.lst (List.map V.str (wds z)))) c (HO.lst (List.map V.str (wds z)).dropLast)) r (HO.lst [V.str (Str.ofString "*")])) := by
        refine same_new (same_new s1 hc) ?_
        rw [← cut_last]; exact hr
      refine ⟨_, .inl (.of (by rw [upd_ne npr, upd_ne npc, upd_same])), _, upd_same, ?_, ?_, ?_, fun t ht => ?_⟩
      · rw [List.length_map]; omega
      · rw [List.length_map]; omega
      · simp only [List.length_singleton, List.length_map]; exact small (by omega)
      have nct : c ≠ t := by
        intro e; subst e
        rw [upd_ne ncr, upd_same] at ht; cases ht
      refine ⟨_, by rw [upd_ne nct, upd_ne ncr, upd_same], _, upd_same, ?_, fun u hu => ?_⟩
      · rw [← List.map_dropLast, List.length_map, List.length_flatten, List.map_replicate, List.sum_replicate_nat]; simp only [List.length_singleton, List.length_map]; exact small (by omega)
      have eo : (List.map V.str (wds z)).dropLast ++ (List.replicate (n - ((List.map V.str (wds z)).length : Int) + 1).toNat [V.str (Str.ofString "*")]).flatten = ((wds z).dropLast ++ List.replicate (n - (wds z).dropLast.length).toNat ("*" : Str)).map V.str := by
        rw [List.map_append, List.map_replicate, List.length_map, List.flatten_replicate_singleton, ← List.map_dropLast, show (n - ((wds z).length : Int) + 1) = n - ((wds z).dropLast.length : Int) by omega]
      have s3 := same_new (o := HO.lst (((wds z).dropLast ++ List.replicate (n - (wds z).dropLast.length).toNat ("*" : Str)).map V.str)) (same_new s2 ht) hu
      have nu : H u = none := (same_new s2 ht).free hu
      rw [eo]
      refine ⟨_, .inl (.of upd_same), ?_⟩
      rw [List.length_map]
      have eq : ofLen z n = if ((((wds z).dropLast ++ List.replicate (n - (wds z).dropLast.length).toNat ("*" : Str)).length : Int) = n) then some ((wds z).dropLast ++ List.replicate (n - (wds z).dropLast.length).toNat ("*" : Str)) else none := by
        unfold ofLen
        simp only [if_pos e2]
      split
      · rename_i h1
        rw [if_pos h1] at eq
        exact q2 _ eq _ u s3 nu upd_same
      · rename_i h1
        rw [if_neg h1] at eq
        exact q1 eq _ s3
    · rename_i e
      refine ⟨_, .inl (.of upd_same), ?_⟩
      rw [List.length_map]
      have e3 : ¬ (wds z).getLast? = some ("#" : Str) := fun z => e (by rw [e2] at z; exact congrArg V.str (Option.some.inj z))
      have eq : ofLen z n = if ((wds z).length : Int) = n then some (wds z) else none := by
        unfold ofLen
        simp only [if_neg e3]
      split
      · rename_i h1
        rw [if_pos h1] at eq
        exact q2 _ eq _ p s1 hp upd_same
      · rename_i h1
        rw [if_neg h1] at eq
        exact q1 eq _ s1
/-! ### _law_fits -/
/-- the places at which it does not fit -/
def misfits (ws ps : List Str) : List Nat := (List.range ps.length).filter fun i => !fit1 (ws.getD i "", ps.getD i "")
theorem misfits_nil {ws ps : List Str} (h : ws.length = ps.length) : (misfits ws ps).isEmpty = (ws.zip ps).all fit1 := by
  rw [Bool.eq_iff_iff, List.isEmpty_iff, List.all_eq_true]
  unfold misfits
  rw [List.filter_eq_nil_iff]
  constructor
  · intro hh x hx
    obtain ⟨i, hi, e⟩ := List.mem_iff_getElem.mp hx
    have hi' : i < ps.length := by rw [List.length_zip] at hi; omega
    have := hh i (List.mem_range.mpr hi')
    rw [List.getElem_zip] at e
    rw [List.getD_eq_getElem?_getD, List.getD_eq_getElem?_getD, List.getElem?_eq_getElem (by omega), List.getElem?_eq_getElem hi'] at this
    simp only [Option.getD_some, e] at this
    simpa using this
  · intro hh i hi
    have hi' := List.mem_range.mp hi
    have hz : i < (ws.zip ps).length := by rw [List.length_zip]; omega
    have := hh _ (List.getElem_mem hz)
    rw [List.getElem_zip] at this
    rw [List.getD_eq_getElem?_getD, List.getD_eq_getElem?_getD, List.getElem?_eq_getElem (by omega), List.getElem?_eq_getElem hi']
    simp only [Option.getD_some]
    simp [this]
theorem G_law_fits (T : Tx K mg) : Glob P w K mg base (CX0) 2 "_law_fits" p_law_fits [] sp_does_fit := by
  obtain ⟨fd, F⟩ := T.f_law_fits
  refine ⟨_, fd, [], F.ok sc_law_fits (fun vs H Q E h => ?_) (fun cdv A outer s H vs Q E hr h => ?_), T.g__law_fits, F.kp, .nil, F.bindsN fun _ _ _ _ _ _ us hl => match us, hl with | [_, _], _ => rfl⟩
  · obtain ⟨z, l, rfl, _⟩ := h; rfl
  · obtain ⟨z, l, rfl, hz, hl, q⟩ := h
    refine ⟨_, PSs.nox (pss_cons (ps_set (i := 2) sc_law_fits.nd rfl (Or.inr rfl) (pe_split (pv 1) pe_str))
      (pss_cons (ps_set (i := 3) sc_law_fits.nd rfl (Or.inr rfl) (pe_callG (G_law_parts T) (hr.mono (by decide)) (by rfl) pass0 (pa_cons (pv 0) (pa_cons (pe_callB (call_len_seqK (K := K) rfl) (by rfl) T.b_len (by decide +kernel) (pa_cons (pv 2) pa_nil)) pa_nil))))
      (pss_cons (ps_if (pt_cmpR op_isN (pv 3) pe_non (nomark _))
      (pss_one (ps_ret pe_bl))
      pss_nil)
      (pss_one (ps_ret (pe_cmpR (op_eqDK (K := K) rfl hr.units) (pe_lc (own := [("_law_k", 4)]) (g := (gName 4)) rfl sc_law_fits.nd (pi_range1 (by rfl) T.b_range (pa_cons (pe_callB (call_len_seqK (K := K) rfl) (by rfl) T.b_len (by decide +kernel) (pa_cons (pv 2) pa_nil)) pa_nil)) (blkOk_by (by kernel_rfl)) (fun _ _ _ _ _ => (pg_name (i := 4) sc_law_fits.nd rfl (Or.inl rfl))) (fun _ _ _ _ _ => (pts_one (PW.pt (pw_and (pt_cmpR op_ne (pe_ix (ix_listK (K := K) rfl) (pv 3) (pv 4) (fun _ _ => rfl)) pe_str (nomark _)) (pw_and1 (pt_cmpR op_ne (pe_ix (ix_listK (K := K) rfl) (pv 3) (pv 4) (fun _ _ => rfl)) (pe_ix (ix_listK (K := K) rfl) (pv 2) (pv 4) (fun _ _ => rfl)) (nomark _))))))) (fun _ _ _ _ _ => (pv 4))) (pe_lst pa_nil) (nomark _))))))), ?_⟩
    simp only [tRet, tRetN, tAndV, tOrV, tNotV, tChain, rI, rI0, rU, tC, tCB, tCons, tNil, tVar, tOp, tUn, tTest, tB, tAnd, tOr, tNot, tIf, tIfS, tSeq, tAsg, tDrop, tNext, gName, gTup_ref, gCons_cons, gNil_nil, and_assoc, tYes, wipe, rEq, rNe, scal_ss, scal_ii, scal_bb, scal_ns, scal_sn, scal_nn, scal_in, scal_ni, tLc_eq, tFor_eq, iList, iTup, iStr, iRng1, iRng2, iZip, iEnum, gSub, tSl, rSetL_ref, rCat_ref, rRep_ref, rJoin_ref, rSlL_ref, rIxL_ref, rIxT_ref, rLenK_ref, rAll_ref, rIn_ref, tLst, tTup, tPar, tPar3, tAug, tPart, tNoPart, tCall, List.getElem?_cons_zero, List.getElem?_cons_succ, List.set_cons_zero, List.set_cons_succ, List.map_cons, List.map_nil, List.append_nil, List.nil_append, List.cons_append, Option.some.injEq, exists_eq_left', exists_eq_left, exists_eq_right, exists_eq_right', exists_eq', V.int.injEq, V.str.injEq, V.bl.injEq, V.ref.injEq, List.cons.injEq, tM0, tM1, rNewStrs, sgn_eq, split_dot, dot_len, sp_len, nl_len, cxOf_K, L2.start, List.length_cons, List.length_nil, List.replicate_succ, List.replicate_zero, Nat.reduceSub, Nat.zero_add, and_true, true_and, and_self, exists_and_left, exists_const, Bool.false_eq_true, if_false, if_true, ite_true, ite_false, reduceIte, decide_eq_true_eq, reduceCtorEq, Nat.reduceAdd, Nat.reduceLT]
    have hw := wds_len l
    refine ⟨small (by omega), fun p hp => ⟨_, .inl (.of upd_same), ?_⟩⟩
    have s1 : Same H (upd H p (HO.lst (List.map V.str (wds l)))) := same_put (Same.refl _) hp
    have el : (List.map V.str (wds l)).length = (wds l).length := by rw [List.length_map]
    rw [el]
    refine ⟨z, _, rfl, hz, by omega, by omega, fun e H' s2 => ?_, fun ws e H' r s2 hr hr' => ?_⟩
    · refine ifP rfl ?_
      have e2 : doesFit z l = false := by unfold doesFit; rw [e]
      rw [← e2]
      exact q _ (s1.trans s2)
    · refine ifN (by intro e; cases e) ?_
      have hp' : H' p = some (.lst ((wds l).map V.str)) := s2 _ _ upd_same
      have hwl := ofLen_len e
      have hwn : ws.length = (wds l).length := by omega
      have e2 : doesFit z l = (misfits ws (wds l)).isEmpty := by unfold doesFit; rw [e, misfits_nil hwn]
      refine ⟨_, .inl (.of hp'), by rw [el]; omega, by rw [el]; omega, ?_⟩
      rw [el, Int.toNat_natCast]
      have wk : Walk (Itr 0 (wds l).length) (List.range (wds l).length).length (fun _ => True) (YFn fun i => .int (0 + i)) := by
        rw [List.length_range]; exact walk_range
      refine lc_fil (List.range (wds l).length) (fun i => if !fit1 (ws.getD i "", (wds l).getD i "") then some (.int (i : Nat)) else none) wk (by rw [List.length_range]; omega) (fun _ _ => trivial) (fun i a x H1 H2 R hx s3 hy r0 => ?_) (fun D H1 nD s3 hD => ?_)
      · obtain ⟨rfl, rfl⟩ := hy
        have hi : i < (wds l).length := by
          have := (List.getElem?_eq_some_iff.mp hx).1
          rwa [List.length_range] at this
        have ea : a = i := by rw [List.getElem?_range hi] at hx; exact (Option.some.inj hx).symm
        subst ea
        simp only [tRet, tRetN, tAndV, tOrV, tNotV, tChain, rI, rI0, rU, tC, tCB, tCons, tNil, tVar, tOp, tUn, tTest, tB, tAnd, tOr, tNot, tIf, tIfS, tSeq, tAsg, tDrop, tNext, gName, gTup_ref, gCons_cons, gNil_nil, and_assoc, tYes, wipe, rEq, rNe, scal_ss, scal_ii, scal_bb, scal_ns, scal_sn, scal_nn, scal_in, scal_ni, tLc_eq, tFor_eq, iList, iTup, iStr, iRng1, iRng2, iZip, iEnum, gSub, tSl, rSetL_ref, rCat_ref, rRep_ref, rJoin_ref, rSlL_ref, rIxL_ref, rIxT_ref, rLenK_ref, rAll_ref, rIn_ref, tLst, tTup, tPar, tPar3, tAug, tPart, tNoPart, tCall, List.getElem?_cons_zero, List.getElem?_cons_succ, List.set_cons_zero, List.set_cons_succ, List.map_cons, List.map_nil, List.append_nil, List.nil_append, List.cons_append, Option.some.injEq, exists_eq_left', exists_eq_left, exists_eq_right, exists_eq_right', exists_eq', V.int.injEq, V.str.injEq, V.bl.injEq, V.ref.injEq, List.cons.injEq, tM0, tM1, rNewStrs, sgn_eq, split_dot, dot_len, sp_len, nl_len, cxOf_K, L2.start, List.length_cons, List.length_nil, List.replicate_succ, List.replicate_zero, Nat.reduceSub, Nat.zero_add, and_true, true_and, and_self, exists_and_left, exists_const, Bool.false_eq_true, if_false, if_true, ite_true, ite_false, reduceIte, decide_eq_true_eq, reduceCtorEq, Nat.reduceAdd, Nat.reduceLT]
        have hiw : a < ws.length := by omega
        have g1 : atI (ws.map V.str) (0 + (a : Int)) = some (.str ws[a]) := by
          rw [Int.zero_add]
          refine atI_nat ?_
          rw [List.getElem?_map, List.getElem?_eq_getElem hiw]; rfl
        have g2 : atI ((wds l).map V.str) (0 + (a : Int)) = some (.str (wds l)[a]) := by
          rw [Int.zero_add]
          refine atI_nat ?_
          rw [List.getElem?_map, List.getElem?_eq_getElem hi]; rfl
        have hft : fit1 (ws.getD a "", (wds l).getD a "") = (decide (ws[a] = ("*" : Str)) || decide (ws[a] = (wds l)[a])) := by
          rw [List.getD_eq_getElem?_getD, List.getD_eq_getElem?_getD, List.getElem?_eq_getElem hiw, List.getElem?_eq_getElem hi]
          rfl
        refine ⟨_, .of (s3 _ _ hr'), _, g1, rfl, ?_⟩
        split
        · rename_i hd
          have d1 : ws[a] ≠ ("*" : Str) := fun z => by rw [z] at hd; simp at hd
          rw [decide_eq_false d1, Bool.false_or] at hft
          refine ⟨_, .of (s3 _ _ hr'), _, g1, _, .of (s3 _ _ hp'), _, g2, rfl, ?_⟩
          split
          · rename_i hd2
            have d2 : ws[a] ≠ (wds l)[a] := fun z => by rw [z] at hd2; simp at hd2
            rw [decide_eq_false d2] at hft
            simp only [hft, Bool.not_false, if_true] at r0
            rw [Int.zero_add]
            exact r0 _ (Same.refl _)
          · rename_i hd2
            have d2 : ws[a] = (wds l)[a] := by simpa using hd2
            rw [decide_eq_true d2] at hft
            simp only [hft, Bool.not_true, Bool.false_eq_true, if_false] at r0
            exact r0 _ (Same.refl _)
        · rename_i hd
          have d1 : ws[a] = ("*" : Str) := by simpa using hd
          rw [decide_eq_true d1, Bool.true_or] at hft
          simp only [hft, Bool.not_true, Bool.false_eq_true, if_false] at r0
          exact r0 _ (Same.refl _)
      · refine ⟨by decide, fun t ht => ?_⟩
        have hf : (List.range (wds l).length).filterMap (fun i => if !fit1 (ws.getD i "", (wds l).getD i "") then some (V.int (i : Nat)) else none) = (misfits ws (wds l)).map fun i => V.int (i : Nat) := by
          unfold misfits
          rw [← List.filterMap_eq_map, List.filterMap_filter]
          rfl
        rw [hf] at hD
        have nDt : D ≠ t := ne_of_none hD ht
        refine ⟨.list ((misfits ws (wds l)).map fun i => PyData.int (i : Nat)), .list [], .lst (.of (by rw [upd_ne nDt]; exact hD)) (dpAll_map fun a _ => .int _), .lst (.of upd_same) .nil, ?_, by decide, ?_⟩
        · have := shaped_ints ((misfits ws (wds l)).map fun (i : Nat) => (i : Int))
          rwa [List.map_map] at this
        · rw [eqv_nil, List.isEmpty_map, ← e2]
          exact q _ (same_new ((s1.trans s2).trans s3) ht)
end
end Hk

set_option Elab.async false
set_option linter.all false
set_option maxRecDepth 100000
set_option maxHeartbeats 4000000
namespace Hk
open PySem PySem.Spec PyProof.Rows L2
open TL
section
variable {P : Program} {w : World} {K : PySem.W.Frag} {mg : Str → Option Value} {base : Heap}
theorem SrcOk.put {H : Hp} {h l D : Addr} {o : HO} (s : SrcOk H h l) (n1 : D ≠ h) (n2 : D ≠ l) : SrcOk (upd H D o) h l := by
  obtain ⟨m, p, cs, e1, e2, r⟩ := s
  exact ⟨m, p, cs, by rw [upd_ne n1.symm]; exact e1, by rw [upd_ne n2.symm]; exact e2, r⟩
theorem SrcOk.neD {H : Hp} {h l D : Addr} (s : SrcOk H h l) (n : H D = none) : D ≠ h ∧ D ≠ l := by
  obtain ⟨m, p, cs, e1, e2, r⟩ := s
  exact ⟨(ne_of_none e1 n).symm, (ne_of_none e2 n).symm⟩
theorem SrcOk.new {H : Hp} {h l D : Addr} {o : HO} (s : SrcOk H h l) (n : H D = none) : SrcOk (upd H D o) h l := s.put (s.neD n).1 (s.neD n).2
theorem Ext.new {S : Addr → Prop} {H H1 : Hp} {p : Addr} {o : HO} (s : Ext S H H1) (n : H1 p = none) (hS : ¬ S p) : Ext S H (upd H1 p o) := s.put (.inl (s.free hS n))
theorem SrcOk.nD {H : Hp} {h l D : Addr} (s : SrcOk H h l) (n : H D = none) : ¬ DrS h l D := fun z => z.elim (s.neD n).1 (s.neD n).2
/-! ### _law_line -/
def sp_law_line : Sp := fun vs H Q _ => ∃ (h l : Addr) (n f : Int), vs = [.ref h, .int n, .int f] ∧ SrcOk H h l ∧ 1 ≤ n ∧ n ≤ 6 ∧ 1 ≤ f ∧ f ≤ 3 ∧
  ∀ H' (ws : List Str), Ext (DrS h l) H H' → SrcOk H' h l → ws ≠ [] → (ws.length : Int) ≤ n → (∀ w ∈ ws, fewWord w) → Q (.str (Txt.join "." ws)) H'
theorem G_law_line (T : Tx K mg) : Glob P w K mg base (CX0) 2 "_law_line" p_law_line [] sp_law_line := by
  obtain ⟨fd, F⟩ := T.f_law_line
  refine ⟨_, fd, [], F.ok sc_law_line (fun vs H Q E h => ?_) (fun cdv A outer s H vs Q E hr h => ?_), T.g__law_line, F.kp, .nil, F.bindsN fun _ _ _ _ _ _ us hl => match us, hl with | [_, _, _], _ => rfl⟩
  · obtain ⟨h, l, n, f, rfl, _⟩ := h; rfl
  · obtain ⟨h, l, n, f, rfl, hS, hn1, hn6, hf1, hf3, q⟩ := h
    refine ⟨_, PSs.nox (pss_one (ps_ret (pe_joinK (K := K) rfl pe_str (pe_lc (own := [("_law_k", 4)]) (g := (gName 4)) (tt := tYes) rfl sc_law_line.nd (pi_range1 (by rfl) T.b_range (pa_cons (pe_op op_add pe_int (pe_callG (G_law_next T) (hr.mono (by decide)) (by rfl) pass0 (pa_cons (pv 0) (pa_cons (pv 1) pa_nil)))) pa_nil)) (blkOk_by (by kernel_rfl)) (fun _ _ _ _ _ => (pg_name (i := 4) sc_law_line.nd rfl (Or.inl rfl))) (fun _ _ _ _ _ => pts_nil) (fun _ _ _ _ _ => (pe_joinK (K := K) rfl pe_str (pe_lc (own := [("_law_j", 3)]) (g := (gName 3)) (tt := tYes) rfl sc_law_line.nd (pi_range1 (by rfl) T.b_range (pa_cons (pe_op op_add pe_int (pe_callG (G_law_next T) (hr.mono (by decide)) (by rfl) pass0 (pa_cons (pv 0) (pa_cons (pe_ix (ix_listK (K := K) rfl) (pe_lst (pa_cons pe_int (pa_cons pe_int pa_nil))) (pe_op op_fdiv (pe_callG (G_law_next T) (hr.mono (by decide)) (by rfl) pass0 (pa_cons (pv 0) (pa_cons pe_int pa_nil))) pe_int) (fun _ _ => rfl)) pa_nil)))) pa_nil)) (blkOk_by (by kernel_rfl)) (fun _ _ _ _ _ => (pg_name (i := 3) sc_law_line.nd rfl (Or.inl rfl))) (fun _ _ _ _ _ => pts_nil) (fun _ _ _ _ _ => (pe_item_str pe_str (pe_callG (G_law_next T) (hr.mono (by decide)) (by rfl) pass0 (pa_cons (pv 0) (pa_cons (pv 2) pa_nil))) (fun _ _ => rfl)))))))))), ?_⟩
    simp only [tRet, tRetN, tAndV, tOrV, tNotV, tChain, rI, rI0, rU, tC, tCB, tCons, tNil, tVar, tOp, tUn, tTest, tB, tAnd, tOr, tNot, tIf, tIfS, tSeq, tAsg, tDrop, tNext, gName, gTup_ref, gCons_cons, gNil_nil, and_assoc, tYes, wipe, rEq, rNe, scal_ss, scal_ii, scal_bb, scal_ns, scal_sn, scal_nn, scal_in, scal_ni, tLc_eq, tFor_eq, iList, iTup, iStr, iRng1, iRng2, iZip, iEnum, gSub, tSl, rSetL_ref, rCat_ref, rRep_ref, rJoin_ref, rSlL_ref, rIxL_ref, rIxT_ref, rLenK_ref, rAll_ref, rIn_ref, tLst, tTup, tPar, tPar3, tAug, tPart, tNoPart, tCall, List.getElem?_cons_zero, List.getElem?_cons_succ, List.set_cons_zero, List.set_cons_succ, List.map_cons, List.map_nil, List.append_nil, List.nil_append, List.cons_append, Option.some.injEq, exists_eq_left', exists_eq_left, exists_eq_right, exists_eq_right', exists_eq', V.int.injEq, V.str.injEq, V.bl.injEq, V.ref.injEq, List.cons.injEq, tM0, tM1, rNewStrs, sgn_eq, split_dot, dot_len, sp_len, nl_len, cxOf_K, L2.start, List.length_cons, List.length_nil, List.replicate_succ, List.replicate_zero, Nat.reduceSub, Nat.zero_add, and_true, true_and, and_self, exists_and_left, exists_const, Bool.false_eq_true, if_false, if_true, ite_true, ite_false, reduceIte, decide_eq_true_eq, reduceCtorEq, Nat.reduceAdd, Nat.reduceLT]
    refine ⟨h, l, n, rfl, hS, by omega, by omega, fun H1 r1 x1 S1 hr0 hr1 => ?_⟩
    simp only [tRet, tRetN, tAndV, tOrV, tNotV, tChain, rI, rI0, rU, tC, tCB, tCons, tNil, tVar, tOp, tUn, tTest, tB, tAnd, tOr, tNot, tIf, tIfS, tSeq, tAsg, tDrop, tNext, gName, gTup_ref, gCons_cons, gNil_nil, and_assoc, tYes, wipe, rEq, rNe, scal_ss, scal_ii, scal_bb, scal_ns, scal_sn, scal_nn, scal_in, scal_ni, tLc_eq, tFor_eq, iList, iTup, iStr, iRng1, iRng2, iZip, iEnum, gSub, tSl, rSetL_ref, rCat_ref, rRep_ref, rJoin_ref, rSlL_ref, rIxL_ref, rIxT_ref, rLenK_ref, rAll_ref, rIn_ref, tLst, tTup, tPar, tPar3, tAug, tPart, tNoPart, tCall, List.getElem?_cons_zero, List.getElem?_cons_succ, List.set_cons_zero, List.set_cons_succ, List.map_cons, List.map_nil, List.append_nil, List.nil_append, List.cons_append, Option.some.injEq, exists_eq_left', exists_eq_left, exists_eq_right, exists_eq_right', exists_eq', V.int.injEq, V.str.injEq, V.bl.injEq, V.ref.injEq, List.cons.injEq, tM0, tM1, rNewStrs, sgn_eq, split_dot, dot_len, sp_len, nl_len, cxOf_K, L2.start, List.length_cons, List.length_nil, List.replicate_succ, List.replicate_zero, Nat.reduceSub, Nat.zero_add, and_true, true_and, and_self, exists_and_left, exists_const, Bool.false_eq_true, if_false, if_true, ite_true, ite_false, reduceIte, decide_eq_true_eq, reduceCtorEq, Nat.reduceAdd, Nat.reduceLT]
    refine ⟨by omega, by omega, ?_⟩
    refine lc_acc walk_range (DrS h l) (fun H => SrcOk H h l) (fun i acc => ∃ ws : List Str, acc = ws.map V.str ∧ ws.length = i ∧ ∀ w ∈ ws, fewWord w) (smallLt (by omega)) (fun D nD => S1.nD nD) ⟨[], rfl, rfl, fun _ h => nomatch h⟩ S1 (fun D H o nD s => s.put (S1.neD nD).1 (S1.neD nD).2) (fun _ _ _ => trivial) (fun i x Ha Hb acc R hi xa Sa pa hy r0 r1 => ?_) (fun D acc Ha nD pa la xa Sa hD => ?_)
    · obtain ⟨rfl, rfl⟩ := hy
      obtain ⟨ws, rfl, hw, hws⟩ := pa
      simp only [tRet, tRetN, tAndV, tOrV, tNotV, tChain, rI, rI0, rU, tC, tCB, tCons, tNil, tVar, tOp, tUn, tTest, tB, tAnd, tOr, tNot, tIf, tIfS, tSeq, tAsg, tDrop, tNext, gName, gTup_ref, gCons_cons, gNil_nil, and_assoc, tYes, wipe, rEq, rNe, scal_ss, scal_ii, scal_bb, scal_ns, scal_sn, scal_nn, scal_in, scal_ni, tLc_eq, tFor_eq, iList, iTup, iStr, iRng1, iRng2, iZip, iEnum, gSub, tSl, rSetL_ref, rCat_ref, rRep_ref, rJoin_ref, rSlL_ref, rIxL_ref, rIxT_ref, rLenK_ref, rAll_ref, rIn_ref, tLst, tTup, tPar, tPar3, tAug, tPart, tNoPart, tCall, List.getElem?_cons_zero, List.getElem?_cons_succ, List.set_cons_zero, List.set_cons_succ, List.map_cons, List.map_nil, List.append_nil, List.nil_append, List.cons_append, Option.some.injEq, exists_eq_left', exists_eq_left, exists_eq_right, exists_eq_right', exists_eq', V.int.injEq, V.str.injEq, V.bl.injEq, V.ref.injEq, List.cons.injEq, tM0, tM1, rNewStrs, sgn_eq, split_dot, dot_len, sp_len, nl_len, cxOf_K, L2.start, List.length_cons, List.length_nil, List.replicate_succ, List.replicate_zero, Nat.reduceSub, Nat.zero_add, and_true, true_and, and_self, exists_and_left, exists_const, Bool.false_eq_true, if_false, if_true, ite_true, ite_false, reduceIte, decide_eq_true_eq, reduceCtorEq, Nat.reduceAdd, Nat.reduceLT]
      refine ⟨by decide, fun t ht => ?_⟩
      have St := Sa.new (o := .lst [.int 1, .int 4]) ht
      have xt : Ext (DrS h l) Hb (upd Hb t (.lst [.int 1, .int 4])) := (Ext.refl _ _).new ht (Sa.nD ht)
      refine ⟨h, l, 4, rfl, St, by decide, by decide, fun H2 r2 x2 S2 h20 h21 => ⟨_, rfl, ⟨by decide, by decide⟩, _, .of (x2 _ _ (Sa.nD ht) upd_same), ?_⟩⟩
      have hk : ∃ k : Int, (k = 1 ∨ k = 4) ∧ atI [V.int 1, V.int 4] (r2 / 3) = some (.int k) := by
        rcases (show r2 / 3 = 0 ∨ r2 / 3 = 1 by omega) with e | e
        · rw [e]; exact ⟨1, .inl rfl, rfl⟩
        · rw [e]; exact ⟨4, .inr rfl, rfl⟩
      obtain ⟨k, hk1, hk2⟩ := hk
      refine ⟨_, hk2, h, l, k, rfl, S2, by omega, by omega, fun H3 r3 x3 S3 h30 h31 => ?_⟩
      simp only [tRet, tRetN, tAndV, tOrV, tNotV, tChain, rI, rI0, rU, tC, tCB, tCons, tNil, tVar, tOp, tUn, tTest, tB, tAnd, tOr, tNot, tIf, tIfS, tSeq, tAsg, tDrop, tNext, gName, gTup_ref, gCons_cons, gNil_nil, and_assoc, tYes, wipe, rEq, rNe, scal_ss, scal_ii, scal_bb, scal_ns, scal_sn, scal_nn, scal_in, scal_ni, tLc_eq, tFor_eq, iList, iTup, iStr, iRng1, iRng2, iZip, iEnum, gSub, tSl, rSetL_ref, rCat_ref, rRep_ref, rJoin_ref, rSlL_ref, rIxL_ref, rIxT_ref, rLenK_ref, rAll_ref, rIn_ref, tLst, tTup, tPar, tPar3, tAug, tPart, tNoPart, tCall, List.getElem?_cons_zero, List.getElem?_cons_succ, List.set_cons_zero, List.set_cons_succ, List.map_cons, List.map_nil, List.append_nil, List.nil_append, List.cons_append, Option.some.injEq, exists_eq_left', exists_eq_left, exists_eq_right, exists_eq_right', exists_eq', V.int.injEq, V.str.injEq, V.bl.injEq, V.ref.injEq, List.cons.injEq, tM0, tM1, rNewStrs, sgn_eq, split_dot, dot_len, sp_len, nl_len, cxOf_K, L2.start, List.length_cons, List.length_nil, List.replicate_succ, List.replicate_zero, Nat.reduceSub, Nat.zero_add, and_true, true_and, and_self, exists_and_left, exists_const, Bool.false_eq_true, if_false, if_true, ite_true, ite_false, reduceIte, decide_eq_true_eq, reduceCtorEq, Nat.reduceAdd, Nat.reduceLT]
      refine ⟨by omega, by omega, ?_⟩
      refine lc_acc walk_range (DrS h l) (fun H => SrcOk H h l) (fun i acc => ∃ cs : List Nat, acc = cs.map (fun c => V.str ⟨#[c]⟩) ∧ cs.length = i ∧ ∀ c ∈ cs, c = 97 ∨ c = 98 ∨ c = 122) (smallLt (by omega)) (fun D nD => S3.nD nD) ⟨[], rfl, rfl, fun _ h => nomatch h⟩ S3 (fun D H o nD s => s.put (S3.neD nD).1 (S3.neD nD).2) (fun _ _ _ => trivial) (fun j y Hc Hd acc2 R2 hj xc Sc pc hy q0 q1 => ?_) (fun D acc2 Hc nD pc lc xc Sc hD => ?_)
      · obtain ⟨rfl, rfl⟩ := hy
        obtain ⟨cs, rfl, hcl, hcs⟩ := pc
        simp only [tRet, tRetN, tAndV, tOrV, tNotV, tChain, rI, rI0, rU, tC, tCB, tCons, tNil, tVar, tOp, tUn, tTest, tB, tAnd, tOr, tNot, tIf, tIfS, tSeq, tAsg, tDrop, tNext, gName, gTup_ref, gCons_cons, gNil_nil, and_assoc, tYes, wipe, rEq, rNe, scal_ss, scal_ii, scal_bb, scal_ns, scal_sn, scal_nn, scal_in, scal_ni, tLc_eq, tFor_eq, iList, iTup, iStr, iRng1, iRng2, iZip, iEnum, gSub, tSl, rSetL_ref, rCat_ref, rRep_ref, rJoin_ref, rSlL_ref, rIxL_ref, rIxT_ref, rLenK_ref, rAll_ref, rIn_ref, tLst, tTup, tPar, tPar3, tAug, tPart, tNoPart, tCall, List.getElem?_cons_zero, List.getElem?_cons_succ, List.set_cons_zero, List.set_cons_succ, List.map_cons, List.map_nil, List.append_nil, List.nil_append, List.cons_append, Option.some.injEq, exists_eq_left', exists_eq_left, exists_eq_right, exists_eq_right', exists_eq', V.int.injEq, V.str.injEq, V.bl.injEq, V.ref.injEq, List.cons.injEq, tM0, tM1, rNewStrs, sgn_eq, split_dot, dot_len, sp_len, nl_len, cxOf_K, L2.start, List.length_cons, List.length_nil, List.replicate_succ, List.replicate_zero, Nat.reduceSub, Nat.zero_add, and_true, true_and, and_self, exists_and_left, exists_const, Bool.false_eq_true, if_false, if_true, ite_true, ite_false, reduceIte, decide_eq_true_eq, reduceCtorEq, Nat.reduceAdd, Nat.reduceLT]
        refine ⟨h, l, f, rfl, Sc, by omega, by omega, fun H4 r4 x4 S4 h40 h41 => ⟨_, rfl, h40, by omega, ?_, ?_⟩⟩
        · have : (Str.ofString "abz").length = 3 := by decide +kernel
          rw [this]; omega
        · have hz : ∃ c, (Str.ofString "abz").cps[r4.toNat]? = some c ∧ (c = 97 ∨ c = 98 ∨ c = 122) := by
            rcases (show r4 = 0 ∨ r4 = 1 ∨ r4 = 2 by omega) with e | e | e
            · rw [e]; exact ⟨97, by decide +kernel, .inl rfl⟩
            · rw [e]; exact ⟨98, by decide +kernel, .inr (.inl rfl)⟩
            · rw [e]; exact ⟨122, by decide +kernel, .inr (.inr rfl)⟩
          obtain ⟨c, hc1, hc2⟩ := hz
          refine ⟨c, hc1, q1 _ _ x4 S4 ⟨cs ++ [c], by rw [List.map_append]; rfl, by rw [List.length_append, hcl]; rfl, fun d hd => ?_⟩⟩
          rcases List.mem_append.mp hd with hd | hd
          · exact hcs d hd
          · rw [List.mem_singleton.mp hd]; exact hc2
      · obtain ⟨cs, rfl, hcl, hcs⟩ := pc
        simp only [tRet, tRetN, tAndV, tOrV, tNotV, tChain, rI, rI0, rU, tC, tCB, tCons, tNil, tVar, tOp, tUn, tTest, tB, tAnd, tOr, tNot, tIf, tIfS, tSeq, tAsg, tDrop, tNext, gName, gTup_ref, gCons_cons, gNil_nil, and_assoc, tYes, wipe, rEq, rNe, scal_ss, scal_ii, scal_bb, scal_ns, scal_sn, scal_nn, scal_in, scal_ni, tLc_eq, tFor_eq, iList, iTup, iStr, iRng1, iRng2, iZip, iEnum, gSub, tSl, rSetL_ref, rCat_ref, rRep_ref, rJoin_ref, rSlL_ref, rIxL_ref, rIxT_ref, rLenK_ref, rAll_ref, rIn_ref, tLst, tTup, tPar, tPar3, tAug, tPart, tNoPart, tCall, List.getElem?_cons_zero, List.getElem?_cons_succ, List.set_cons_zero, List.set_cons_succ, List.map_cons, List.map_nil, List.append_nil, List.nil_append, List.cons_append, Option.some.injEq, exists_eq_left', exists_eq_left, exists_eq_right, exists_eq_right', exists_eq', V.int.injEq, V.str.injEq, V.bl.injEq, V.ref.injEq, List.cons.injEq, tM0, tM1, rNewStrs, sgn_eq, split_dot, dot_len, sp_len, nl_len, cxOf_K, L2.start, List.length_cons, List.length_nil, List.replicate_succ, List.replicate_zero, Nat.reduceSub, Nat.zero_add, and_true, true_and, and_self, exists_and_left, exists_const, Bool.false_eq_true, if_false, if_true, ite_true, ite_false, reduceIte, decide_eq_true_eq, reduceCtorEq, Nat.reduceAdd, Nat.reduceLT]
        refine ⟨cs.map fun c => (⟨#[c]⟩ : Str), .inl (.of (by rw [hD, List.map_map]; rfl)), ?_, ?_⟩
        · rw [sum_one, List.length_map]
          have : (Str.ofString "").length = 0 := by decide +kernel
          rw [this]; omega
        · refine r1 _ _ (((xt.trans x2).trans x3).trans xc) Sc ⟨ws ++ [Txt.join (Str.ofString "") (cs.map fun c => (⟨#[c]⟩ : Str))], by rw [List.map_append]; rfl, by rw [List.length_append, hw]; rfl, fun w hw2 => ?_⟩
          rcases List.mem_append.mp hw2 with hw2 | hw2
          · exact hws w hw2
          · rw [List.mem_singleton.mp hw2]
            have et := tl_signs cs
            refine ⟨?_, ?_, ?_⟩
            · rw [len_tl, et]; omega
            · rw [len_tl, et]; omega
            · rw [et]; exact hcs
    · obtain ⟨ws, rfl, hw, hws⟩ := pa
      simp only [tRet, tRetN, tAndV, tOrV, tNotV, tChain, rI, rI0, rU, tC, tCB, tCons, tNil, tVar, tOp, tUn, tTest, tB, tAnd, tOr, tNot, tIf, tIfS, tSeq, tAsg, tDrop, tNext, gName, gTup_ref, gCons_cons, gNil_nil, and_assoc, tYes, wipe, rEq, rNe, scal_ss, scal_ii, scal_bb, scal_ns, scal_sn, scal_nn, scal_in, scal_ni, tLc_eq, tFor_eq, iList, iTup, iStr, iRng1, iRng2, iZip, iEnum, gSub, tSl, rSetL_ref, rCat_ref, rRep_ref, rJoin_ref, rSlL_ref, rIxL_ref, rIxT_ref, rLenK_ref, rAll_ref, rIn_ref, tLst, tTup, tPar, tPar3, tAug, tPart, tNoPart, tCall, List.getElem?_cons_zero, List.getElem?_cons_succ, List.set_cons_zero, List.set_cons_succ, List.map_cons, List.map_nil, List.append_nil, List.nil_append, List.cons_append, Option.some.injEq, exists_eq_left', exists_eq_left, exists_eq_right, exists_eq_right', exists_eq', V.int.injEq, V.str.injEq, V.bl.injEq, V.ref.injEq, List.cons.injEq, tM0, tM1, rNewStrs, sgn_eq, split_dot, dot_len, sp_len, nl_len, cxOf_K, L2.start, List.length_cons, List.length_nil, List.replicate_succ, List.replicate_zero, Nat.reduceSub, Nat.zero_add, and_true, true_and, and_self, exists_and_left, exists_const, Bool.false_eq_true, if_false, if_true, ite_true, ite_false, reduceIte, decide_eq_true_eq, reduceCtorEq, Nat.reduceAdd, Nat.reduceLT]
      have hsum := sum_le (k := 4) fun w hw => (hws w hw).2.1
      refine ⟨ws, .inl (.of hD), ?_, q _ ws (x1.trans xa) Sa ?_ (by omega) hws⟩
      · have : (Str.ofString ".").length = 1 := by decide +kernel
        rw [this]; omega
      · intro e; subst e
        simp at hw; omega
/-! ### _law_pattern -/
def sp_law_pattern : Sp := fun vs H Q _ => ∃ (h l : Addr) (n f : Int), vs = [.ref h, .int n, .int f] ∧ SrcOk H h l ∧ 1 ≤ n ∧ n ≤ 6 ∧ 1 ≤ f ∧ f ≤ 3 ∧
  ∀ H' (p : Str), Ext (DrS h l) H H' → SrcOk H' h l → isPat p = true → p.length ≤ 100 → Q (.str p) H'
theorem G_law_pattern (T : Tx K mg) : Glob P w K mg base (CX0) 3 "_law_pattern" p_law_pattern [] sp_law_pattern := by
  obtain ⟨fd, F⟩ := T.f_law_pattern
  refine ⟨_, fd, [], F.ok sc_law_pattern (fun vs H Q E h => ?_) (fun cdv A outer s H vs Q E hr h => ?_), T.g__law_pattern, F.kp, .nil, F.bindsN fun _ _ _ _ _ _ us hl => match us, hl with | [_, _, _], _ => rfl⟩
  · obtain ⟨h, l, n, f, rfl, _⟩ := h; rfl
  · obtain ⟨h, l, n, f, rfl, hS, hn1, hn6, hf1, hf3, q⟩ := h
    refine ⟨_, PSs.nox (pss_cons (ps_set (i := 3) sc_law_pattern.nd rfl (Or.inl rfl) (pe_split (pe_callG (G_law_line T) (hr.mono (by decide)) (by rfl) pass0 (pa_cons (pv 0) (pa_cons (pv 1) (pa_cons (pv 2) pa_nil)))) pe_str))
      (pss_cons (ps_setLc (i := 3) (own := [("_law_word", 4)]) (g := (gName 4)) (tt := tYes) rfl sc_law_pattern.nd rfl rfl (sw_true rfl rfl rfl (by kernel_rfl)) (pi_listK (K := K) rfl (pv 3)) (blkOk_by (by kernel_rfl)) (fun _ _ _ _ _ => (pg_name (i := 4) sc_law_pattern.nd rfl (Or.inl rfl))) (fun _ _ _ _ _ => pts_nil) (fun _ _ _ _ _ => (pe_ix (ix_listK (K := K) rfl) (pe_lst (pa_cons pe_str (pa_cons (pv 4) (pa_cons (pv 4) pa_nil)))) (pe_callG (G_law_next T) (hr.mono (by decide)) (by rfl) pass0 (pa_cons (pv 0) (pa_cons pe_int pa_nil))) (fun _ _ => rfl))))
      (pss_cons (ps_set (i := 5) sc_law_pattern.nd rfl (Or.inl rfl) (pe_callG (G_law_next T) (hr.mono (by decide)) (by rfl) pass0 (pa_cons (pv 0) (pa_cons pe_int pa_nil))))
      (pss_one (ps_ret (pe_ifExp (pt_cmpR op_eq (pv 5) pe_int (nomark _)) (pe_joinK (K := K) rfl pe_str (pe_op op_cat (pv 3) (pe_lst (pa_cons pe_str pa_nil)))) (pe_ifExp (PW.pt (pw_and (pt_cmpR op_eq (pv 5) pe_int (nomark _)) (pw_and1 (pt_cmpR op_eq (pe_callG (G_law_next T) (hr.mono (by decide)) (by rfl) pass0 (pa_cons (pv 0) (pa_cons pe_int pa_nil))) pe_int (nomark _))))) pe_str (pe_joinK (K := K) rfl pe_str (pv 3))))))))), ?_⟩
    simp only [tRet, tRetN, tAndV, tOrV, tNotV, tChain, rI, rI0, rU, tC, tCB, tCons, tNil, tVar, tOp, tUn, tTest, tB, tAnd, tOr, tNot, tIf, tIfS, tSeq, tAsg, tDrop, tNext, gName, gTup_ref, gCons_cons, gNil_nil, and_assoc, tYes, wipe, rEq, rNe, scal_ss, scal_ii, scal_bb, scal_ns, scal_sn, scal_nn, scal_in, scal_ni, tLc_eq, tFor_eq, iList, iTup, iStr, iRng1, iRng2, iZip, iEnum, gSub, tSl, rSetL_ref, rCat_ref, rRep_ref, rJoin_ref, rSlL_ref, rIxL_ref, rIxT_ref, rLenK_ref, rAll_ref, rIn_ref, tLst, tTup, tPar, tPar3, tAug, tPart, tNoPart, tCall, List.getElem?_cons_zero, List.getElem?_cons_succ, List.set_cons_zero, List.set_cons_succ, List.map_cons, List.map_nil, List.append_nil, List.nil_append, List.cons_append, Option.some.injEq, exists_eq_left', exists_eq_left, exists_eq_right, exists_eq_right', exists_eq', V.int.injEq, V.str.injEq, V.bl.injEq, V.ref.injEq, List.cons.injEq, tM0, tM1, rNewStrs, sgn_eq, split_dot, dot_len, sp_len, nl_len, cxOf_K, L2.start, List.length_cons, List.length_nil, List.replicate_succ, List.replicate_zero, Nat.reduceSub, Nat.zero_add, and_true, true_and, and_self, exists_and_left, exists_const, Bool.false_eq_true, if_false, if_true, ite_true, ite_false, reduceIte, decide_eq_true_eq, reduceCtorEq, Nat.reduceAdd, Nat.reduceLT]
    refine ⟨h, l, n, f, rfl, hS, hn1, hn6, hf1, hf3, fun H1 ws x1 S1 hne hwl hws => ?_⟩
    have hjl := joinD_len (k := 4) fun w hw => (hws w hw).2.1
    simp only [tRet, tRetN, tAndV, tOrV, tNotV, tChain, rI, rI0, rU, tC, tCB, tCons, tNil, tVar, tOp, tUn, tTest, tB, tAnd, tOr, tNot, tIf, tIfS, tSeq, tAsg, tDrop, tNext, gName, gTup_ref, gCons_cons, gNil_nil, and_assoc, tYes, wipe, rEq, rNe, scal_ss, scal_ii, scal_bb, scal_ns, scal_sn, scal_nn, scal_in, scal_ni, tLc_eq, tFor_eq, iList, iTup, iStr, iRng1, iRng2, iZip, iEnum, gSub, tSl, rSetL_ref, rCat_ref, rRep_ref, rJoin_ref, rSlL_ref, rIxL_ref, rIxT_ref, rLenK_ref, rAll_ref, rIn_ref, tLst, tTup, tPar, tPar3, tAug, tPart, tNoPart, tCall, List.getElem?_cons_zero, List.getElem?_cons_succ, List.set_cons_zero, List.set_cons_succ, List.map_cons, List.map_nil, List.append_nil, List.nil_append, List.cons_append, Option.some.injEq, exists_eq_left', exists_eq_left, exists_eq_right, exists_eq_right', exists_eq', V.int.injEq, V.str.injEq, V.bl.injEq, V.ref.injEq, List.cons.injEq, tM0, tM1, rNewStrs, sgn_eq, split_dot, dot_len, sp_len, nl_len, cxOf_K, L2.start, List.length_cons, List.length_nil, List.replicate_succ, List.replicate_zero, Nat.reduceSub, Nat.zero_add, and_true, true_and, and_self, exists_and_left, exists_const, Bool.false_eq_true, if_false, if_true, ite_true, ite_false, reduceIte, decide_eq_true_eq, reduceCtorEq, Nat.reduceAdd, Nat.reduceLT]
    refine ⟨small (by omega), fun p hp => ?_⟩
    have ew : wds (Txt.join "." ws) = ws := wds_join hne fun p hp => star_nodot (word_star (few_word (hws p hp)))
    rw [ew]
    have S2 := S1.new (o := .lst (ws.map V.str)) hp
    have x2 : Ext (DrS h l) H (upd H1 p (.lst (ws.map V.str))) := x1.new hp (S1.nD hp)
    have np := S1.nD hp
    have hp2 : upd H1 p (.lst (ws.map V.str)) p = some (.lst (ws.map V.str)) := upd_same
    generalize upd H1 p (.lst (ws.map V.str)) = H2 at S2 x2 hp2
    refine ⟨⟨_, .of hp2⟩, ?_⟩
    refine lc_acc (walk_listm ws V.str) (DrS h l) (fun H => SrcOk H h l) (fun i acc => ∃ us : List Str, acc = us.map V.str ∧ us.length = i ∧ ∀ u ∈ us, starOr u = true) (smallLt (by omega)) (fun D nD => S2.nD nD) ⟨[], rfl, rfl, fun _ h => nomatch h⟩ S2 (fun D H o nD s => s.put (S2.neD nD).1 (S2.neD nD).2) (fun Ha xa _ => .of (xa _ _ np hp2)) (fun i x Ha Hb acc R hi xa Sa pa hy r0 r1 => ?_) (fun D acc Ha nD pa la xa Sa hD => ?_)
    · obtain ⟨rfl, y, hy, rfl⟩ := hy
      obtain ⟨us, rfl, hul, hus⟩ := pa
      simp only [tRet, tRetN, tAndV, tOrV, tNotV, tChain, rI, rI0, rU, tC, tCB, tCons, tNil, tVar, tOp, tUn, tTest, tB, tAnd, tOr, tNot, tIf, tIfS, tSeq, tAsg, tDrop, tNext, gName, gTup_ref, gCons_cons, gNil_nil, and_assoc, tYes, wipe, rEq, rNe, scal_ss, scal_ii, scal_bb, scal_ns, scal_sn, scal_nn, scal_in, scal_ni, tLc_eq, tFor_eq, iList, iTup, iStr, iRng1, iRng2, iZip, iEnum, gSub, tSl, rSetL_ref, rCat_ref, rRep_ref, rJoin_ref, rSlL_ref, rIxL_ref, rIxT_ref, rLenK_ref, rAll_ref, rIn_ref, tLst, tTup, tPar, tPar3, tAug, tPart, tNoPart, tCall, List.getElem?_cons_zero, List.getElem?_cons_succ, List.set_cons_zero, List.set_cons_succ, List.map_cons, List.map_nil, List.append_nil, List.nil_append, List.cons_append, Option.some.injEq, exists_eq_left', exists_eq_left, exists_eq_right, exists_eq_right', exists_eq', V.int.injEq, V.str.injEq, V.bl.injEq, V.ref.injEq, List.cons.injEq, tM0, tM1, rNewStrs, sgn_eq, split_dot, dot_len, sp_len, nl_len, cxOf_K, L2.start, List.length_cons, List.length_nil, List.replicate_succ, List.replicate_zero, Nat.reduceSub, Nat.zero_add, and_true, true_and, and_self, exists_and_left, exists_const, Bool.false_eq_true, if_false, if_true, ite_true, ite_false, reduceIte, decide_eq_true_eq, reduceCtorEq, Nat.reduceAdd, Nat.reduceLT]
      refine ⟨by decide, fun t ht => ?_⟩
      have St := Sa.new (o := .lst [V.str (Str.ofString "*"), V.str y, V.str y]) ht
      have xt : Ext (DrS h l) Hb (upd Hb t (.lst [V.str (Str.ofString "*"), V.str y, V.str y])) := (Ext.refl _ _).new ht (Sa.nD ht)
      refine ⟨h, l, 3, rfl, St, by decide, by decide, fun H3 r3 x3 S3 h30 h31 => ?_⟩
      simp only [tRet, tRetN, tAndV, tOrV, tNotV, tChain, rI, rI0, rU, tC, tCB, tCons, tNil, tVar, tOp, tUn, tTest, tB, tAnd, tOr, tNot, tIf, tIfS, tSeq, tAsg, tDrop, tNext, gName, gTup_ref, gCons_cons, gNil_nil, and_assoc, tYes, wipe, rEq, rNe, scal_ss, scal_ii, scal_bb, scal_ns, scal_sn, scal_nn, scal_in, scal_ni, tLc_eq, tFor_eq, iList, iTup, iStr, iRng1, iRng2, iZip, iEnum, gSub, tSl, rSetL_ref, rCat_ref, rRep_ref, rJoin_ref, rSlL_ref, rIxL_ref, rIxT_ref, rLenK_ref, rAll_ref, rIn_ref, tLst, tTup, tPar, tPar3, tAug, tPart, tNoPart, tCall, List.getElem?_cons_zero, List.getElem?_cons_succ, List.set_cons_zero, List.set_cons_succ, List.map_cons, List.map_nil, List.append_nil, List.nil_append, List.cons_append, Option.some.injEq, exists_eq_left', exists_eq_left, exists_eq_right, exists_eq_right', exists_eq', V.int.injEq, V.str.injEq, V.bl.injEq, V.ref.injEq, List.cons.injEq, tM0, tM1, rNewStrs, sgn_eq, split_dot, dot_len, sp_len, nl_len, cxOf_K, L2.start, List.length_cons, List.length_nil, List.replicate_succ, List.replicate_zero, Nat.reduceSub, Nat.zero_add, and_true, true_and, and_self, exists_and_left, exists_const, Bool.false_eq_true, if_false, if_true, ite_true, ite_false, reduceIte, decide_eq_true_eq, reduceCtorEq, Nat.reduceAdd, Nat.reduceLT]
      refine ⟨_, .of (x3 _ _ (Sa.nD ht) upd_same), ?_⟩
      have hk : ∃ u : Str, starOr u = true ∧ atI [V.str (Str.ofString "*"), V.str y, V.str y] r3 = some (.str u) := by
        have hy2 := word_star (few_word (hws y (List.mem_of_getElem? hy)))
        rcases (show r3 = 0 ∨ r3 = 1 ∨ r3 = 2 by omega) with e | e | e
        · rw [e]; exact ⟨"*", by decide +kernel, rfl⟩
        · rw [e]; exact ⟨y, hy2, rfl⟩
        · rw [e]; exact ⟨y, hy2, rfl⟩
      obtain ⟨u, hu1, hu2⟩ := hk
      refine ⟨_, hu2, r1 _ _ (xt.trans x3) S3 ⟨us ++ [u], by rw [List.map_append]; rfl, by rw [List.length_append, hul]; rfl, fun w hw => ?_⟩⟩
      rcases List.mem_append.mp hw with hw | hw
      · exact hus w hw
      · rw [List.mem_singleton.mp hw]; exact hu1
    · obtain ⟨us, rfl, hul, hus⟩ := pa
      have hune : us ≠ [] := fun e => by
        subst e
        exact hne (List.eq_nil_of_length_eq_zero hul.symm)
      have hu6 : us.length ≤ 6 := by omega
      have husum := sum_le (k := 4) fun w hw => (star_signs (hus w hw)).1
      have hujl := joinD_len (k := 4) fun w hw => (star_signs (hus w hw)).1
      have hdot : (Str.ofString ".").length = 1 := by decide +kernel
      have fin : ∀ Hz, Ext (DrS h l) Ha Hz → SrcOk Hz h l → rJoin K (V.str (Str.ofString ".")) [V.ref D] Hz Q := fun Hz xz Sz => by
        rw [rJoin_ref]
        refine ⟨us, .inl (.of (xz _ _ (S2.nD nD) hD)), ?_, q _ _ ((x2.trans xa).trans xz) Sz (isPat_join hune hu6 hus) (by omega)⟩
        rw [hdot]; omega
      refine ⟨h, l, 4, rfl, Sa, by decide, by decide, fun H3 r3 x3 S3 h30 h31 => ?_⟩
      simp only [tRet, tRetN, tAndV, tOrV, tNotV, tChain, rI, rI0, rU, tC, tCB, tCons, tNil, tVar, tOp, tUn, tTest, tB, tAnd, tOr, tNot, tIf, tIfS, tSeq, tAsg, tDrop, tNext, gName, gTup_ref, gCons_cons, gNil_nil, and_assoc, tYes, wipe, rEq, rNe, scal_ss, scal_ii, scal_bb, scal_ns, scal_sn, scal_nn, scal_in, scal_ni, tLc_eq, tFor_eq, iList, iTup, iStr, iRng1, iRng2, iZip, iEnum, gSub, tSl, rSetL_ref, rCat_ref, rRep_ref, rJoin_ref, rSlL_ref, rIxL_ref, rIxT_ref, rLenK_ref, rAll_ref, rIn_ref, tLst, tTup, tPar, tPar3, tAug, tPart, tNoPart, tCall, List.getElem?_cons_zero, List.getElem?_cons_succ, List.set_cons_zero, List.set_cons_succ, List.map_cons, List.map_nil, List.append_nil, List.nil_append, List.cons_append, Option.some.injEq, exists_eq_left', exists_eq_left, exists_eq_right, exists_eq_right', exists_eq', V.int.injEq, V.str.injEq, V.bl.injEq, V.ref.injEq, List.cons.injEq, tM0, tM1, rNewStrs, sgn_eq, split_dot, dot_len, sp_len, nl_len, cxOf_K, L2.start, List.length_cons, List.length_nil, List.replicate_succ, List.replicate_zero, Nat.reduceSub, Nat.zero_add, and_true, true_and, and_self, exists_and_left, exists_const, Bool.false_eq_true, if_false, if_true, ite_true, ite_false, reduceIte, decide_eq_true_eq, reduceCtorEq, Nat.reduceAdd, Nat.reduceLT]
      split
      · refine ⟨by decide, fun t ht => ⟨_, by rw [upd_ne (ne_of_none (x3 _ _ (S2.nD nD) hD) ht)]; exact x3 _ _ (S2.nD nD) hD, _, upd_same, ?_, fun c hc => ?_⟩⟩
        · rw [List.length_map]; exact small (by simp; omega)
        have S4 := S3.new (o := .lst [V.str (Str.ofString "#")]) ht
        refine ⟨us ++ [("#" : Str)], .inl (.of (by rw [upd_same, List.map_append]; rfl)), ?_, q _ _ (((x2.trans xa).trans x3).trans (((Ext.refl _ _).new ht (S3.nD ht)).new hc (S4.nD hc))) (S4.new hc) (isPat_hash hu6 hus) ?_⟩
        · rw [hdot, List.map_append, List.sum_append, List.length_append]
          have : (("#" : Str)).length = 1 := by decide +kernel
          simp only [List.map_cons, List.map_nil, List.sum_cons, List.sum_nil, List.length_singleton, this]
          omega
        · have := joinD_len (ws := us ++ [("#" : Str)]) (k := 4) fun w hw => by
            rcases List.mem_append.mp hw with hw | hw
            · exact (star_signs (hus w hw)).1
            · rw [List.mem_singleton.mp hw]; decide +kernel
          rw [List.length_append] at this
          simp only [List.length_singleton] at this
          omega
      · split
        · refine ⟨h, l, 3, rfl, S3, by decide, by decide, fun H4 r4 x4 S4 h40 h41 => ?_⟩
          simp only [tRet, tRetN, tAndV, tOrV, tNotV, tChain, rI, rI0, rU, tC, tCB, tCons, tNil, tVar, tOp, tUn, tTest, tB, tAnd, tOr, tNot, tIf, tIfS, tSeq, tAsg, tDrop, tNext, gName, gTup_ref, gCons_cons, gNil_nil, and_assoc, tYes, wipe, rEq, rNe, scal_ss, scal_ii, scal_bb, scal_ns, scal_sn, scal_nn, scal_in, scal_ni, tLc_eq, tFor_eq, iList, iTup, iStr, iRng1, iRng2, iZip, iEnum, gSub, tSl, rSetL_ref, rCat_ref, rRep_ref, rJoin_ref, rSlL_ref, rIxL_ref, rIxT_ref, rLenK_ref, rAll_ref, rIn_ref, tLst, tTup, tPar, tPar3, tAug, tPart, tNoPart, tCall, List.getElem?_cons_zero, List.getElem?_cons_succ, List.set_cons_zero, List.set_cons_succ, List.map_cons, List.map_nil, List.append_nil, List.nil_append, List.cons_append, Option.some.injEq, exists_eq_left', exists_eq_left, exists_eq_right, exists_eq_right', exists_eq', V.int.injEq, V.str.injEq, V.bl.injEq, V.ref.injEq, List.cons.injEq, tM0, tM1, rNewStrs, sgn_eq, split_dot, dot_len, sp_len, nl_len, cxOf_K, L2.start, List.length_cons, List.length_nil, List.replicate_succ, List.replicate_zero, Nat.reduceSub, Nat.zero_add, and_true, true_and, and_self, exists_and_left, exists_const, Bool.false_eq_true, if_false, if_true, ite_true, ite_false, reduceIte, decide_eq_true_eq, reduceCtorEq, Nat.reduceAdd, Nat.reduceLT]
          split
          · exact q _ _ (((x2.trans xa).trans x3).trans x4) S4 (by decide +kernel) (by decide +kernel)
          · have := fin H4 (x3.trans x4) S4
            rw [rJoin_ref] at this; exact this
        · have := fin H3 x3 S3
          rw [rJoin_ref] at this; exact this
end
end Hk

set_option Elab.async false
set_option linter.all false
set_option maxRecDepth 100000
set_option maxHeartbeats 4000000
namespace Hk
open PySem PySem.Spec PyProof.Rows L2
open TL
section
variable {P : Program} {w : World} {K : PySem.W.Frag} {mg : Str → Option Value} {base : Heap}
def sp_law (K : PySem.W.Frag) : Sp := fun vs H Q _ => ∃ (a : Addr) (ns : List Int), vs = [.ref a] ∧ SqL K H a (ns.map V.int) ∧ ns.length ≤ 63 ∧ ∀ H', Q (.bl true) H'
theorem F_law_ok (T : Tx K mg) {f : Addr} {fd : FuncData} (F : F_law K f fd) : FnOk P w K mg base CX0 6 f fd p_law (sp_law K) := by
  refine F.ok sc_law (fun vs H Q E h => ?_) (fun cdv A outer s H vs Q E hr h => ?_)
  · obtain ⟨a, ns, rfl, _⟩ := h; rfl
  · obtain ⟨a, ns, rfl, hS, hn, q⟩ := h
    refine ⟨_, PSs.nox (pss_cons (ps_set (i := 1) sc_law.nd rfl (Or.inl rfl) (pe_callG (G_law_mix T) (hr.mono (by decide)) (by rfl) pass0 (pa_cons (pv 0) (pa_cons pe_int pa_nil))))
      (pss_cons (ps_for PassesOwn.never rfl (pi_range1 (by rfl) T.b_range (pa_cons pe_int pa_nil)) (pg_name (i := 2) sc_law.nd rfl (Or.inl rfl))
      (pss_cons (ps_par (i := 3) (j := 4) rfl sc_law.nd rfl rfl (by decide) rfl rfl (pa_cons (pe_callG (G_law_pattern T) (hr.mono (by decide)) (by rfl) pass0 (pa_cons (pv 1) (pa_cons pe_int (pa_cons (pe_op op_add pe_int (pe_callG (G_law_next T) (hr.mono (by decide)) (by rfl) pass0 (pa_cons (pv 1) (pa_cons pe_int pa_nil)))) pa_nil)))) (pa_cons (pe_callG (G_law_line T) (hr.mono (by decide)) (by rfl) pass0 (pa_cons (pv 1) (pa_cons pe_int (pa_cons (pe_op op_add pe_int (pe_callG (G_law_next T) (hr.mono (by decide)) (by rfl) pass0 (pa_cons (pv 1) (pa_cons pe_int pa_nil)))) pa_nil)))) pa_nil)) (by rfl))
      (pss_one (ps_if (pt_cmpR op_ne (pe_callG (G_fits T) (hr.mono (by decide)) (by rfl) passN (pa_cons (pv 3) (pa_cons (pv 4) pa_nil))) (pe_callG (G_law_fits T) (hr.mono (by decide)) (by rfl) pass0 (pa_cons (pv 3) (pa_cons (pv 4) pa_nil))) (nomark _))
      (pss_one (ps_ret pe_bl))
      pss_nil))))
      (pss_one (ps_ret pe_bl)))), ?_⟩
    simp only [tRet, tRetN, tAndV, tOrV, tNotV, tChain, rI, rI0, rU, tC, tCB, tCons, tNil, tVar, tOp, tUn, tTest, tB, tAnd, tOr, tNot, tIf, tIfS, tSeq, tAsg, tDrop, tNext, gName, gTup_ref, gCons_cons, gNil_nil, and_assoc, tYes, wipe, rEq, rNe, scal_ss, scal_ii, scal_bb, scal_ns, scal_sn, scal_nn, scal_in, scal_ni, tLc_eq, tFor_eq, iList, iTup, iStr, iRng1, iRng2, iZip, iEnum, gSub, tSl, rSetL_ref, rCat_ref, rRep_ref, rJoin_ref, rSlL_ref, rIxL_ref, rIxT_ref, rLenK_ref, rAll_ref, rIn_ref, tLst, tTup, tPar, tPar3, tAug, tPart, tNoPart, tCall, List.getElem?_cons_zero, List.getElem?_cons_succ, List.set_cons_zero, List.set_cons_succ, List.map_cons, List.map_nil, List.append_nil, List.nil_append, List.cons_append, Option.some.injEq, exists_eq_left', exists_eq_left, exists_eq_right, exists_eq_right', exists_eq', V.int.injEq, V.str.injEq, V.bl.injEq, V.ref.injEq, List.cons.injEq, tM0, tM1, rNewStrs, sgn_eq, split_dot, dot_len, sp_len, nl_len, cxOf_K, L2.start, List.length_cons, List.length_nil, List.replicate_succ, List.replicate_zero, Nat.reduceSub, Nat.zero_add, and_true, true_and, and_self, exists_and_left, exists_const, Bool.false_eq_true, if_false, if_true, ite_true, ite_false, reduceIte, decide_eq_true_eq, reduceCtorEq, Nat.reduceAdd, Nat.reduceLT]
    refine ⟨a, ns, 5, rfl, hS, hn, by decide, by decide, fun H1 h l s1 hh hl S1 => ?_⟩
    simp only [tRet, tRetN, tAndV, tOrV, tNotV, tChain, rI, rI0, rU, tC, tCB, tCons, tNil, tVar, tOp, tUn, tTest, tB, tAnd, tOr, tNot, tIf, tIfS, tSeq, tAsg, tDrop, tNext, gName, gTup_ref, gCons_cons, gNil_nil, and_assoc, tYes, wipe, rEq, rNe, scal_ss, scal_ii, scal_bb, scal_ns, scal_sn, scal_nn, scal_in, scal_ni, tLc_eq, tFor_eq, iList, iTup, iStr, iRng1, iRng2, iZip, iEnum, gSub, tSl, rSetL_ref, rCat_ref, rRep_ref, rJoin_ref, rSlL_ref, rIxL_ref, rIxT_ref, rLenK_ref, rAll_ref, rIn_ref, tLst, tTup, tPar, tPar3, tAug, tPart, tNoPart, tCall, List.getElem?_cons_zero, List.getElem?_cons_succ, List.set_cons_zero, List.set_cons_succ, List.map_cons, List.map_nil, List.append_nil, List.nil_append, List.cons_append, Option.some.injEq, exists_eq_left', exists_eq_left, exists_eq_right, exists_eq_right', exists_eq', V.int.injEq, V.str.injEq, V.bl.injEq, V.ref.injEq, List.cons.injEq, tM0, tM1, rNewStrs, sgn_eq, split_dot, dot_len, sp_len, nl_len, cxOf_K, L2.start, List.length_cons, List.length_nil, List.replicate_succ, List.replicate_zero, Nat.reduceSub, Nat.zero_add, and_true, true_and, and_self, exists_and_left, exists_const, Bool.false_eq_true, if_false, if_true, ite_true, ite_false, reduceIte, decide_eq_true_eq, reduceCtorEq, Nat.reduceAdd, Nat.reduceLT]
    refine ⟨by decide, by decide, forG walk_range (fun i σ H' => ∃ c d e, σ = [some (.ref a), some (.ref h), c, d, e] ∧ SrcOk H' h l) ⟨none, none, none, rfl, S1⟩ (fun _ _ _ _ _ => trivial) (fun i x σ Ha Hb hi hP hy => ?_) (fun σ Ha hP => ?_)⟩
    · obtain ⟨rfl, rfl⟩ := hy
      obtain ⟨c, d, e, rfl, Sa⟩ := hP
      simp only [tRet, tRetN, tAndV, tOrV, tNotV, tChain, rI, rI0, rU, tC, tCB, tCons, tNil, tVar, tOp, tUn, tTest, tB, tAnd, tOr, tNot, tIf, tIfS, tSeq, tAsg, tDrop, tNext, gName, gTup_ref, gCons_cons, gNil_nil, and_assoc, tYes, wipe, rEq, rNe, scal_ss, scal_ii, scal_bb, scal_ns, scal_sn, scal_nn, scal_in, scal_ni, tLc_eq, tFor_eq, iList, iTup, iStr, iRng1, iRng2, iZip, iEnum, gSub, tSl, rSetL_ref, rCat_ref, rRep_ref, rJoin_ref, rSlL_ref, rIxL_ref, rIxT_ref, rLenK_ref, rAll_ref, rIn_ref, tLst, tTup, tPar, tPar3, tAug, tPart, tNoPart, tCall, List.getElem?_cons_zero, List.getElem?_cons_succ, List.set_cons_zero, List.set_cons_succ, List.map_cons, List.map_nil, List.append_nil, List.nil_append, List.cons_append, Option.some.injEq, exists_eq_left', exists_eq_left, exists_eq_right, exists_eq_right', exists_eq', V.int.injEq, V.str.injEq, V.bl.injEq, V.ref.injEq, List.cons.injEq, tM0, tM1, rNewStrs, sgn_eq, split_dot, dot_len, sp_len, nl_len, cxOf_K, L2.start, List.length_cons, List.length_nil, List.replicate_succ, List.replicate_zero, Nat.reduceSub, Nat.zero_add, and_true, true_and, and_self, exists_and_left, exists_const, Bool.false_eq_true, if_false, if_true, ite_true, ite_false, reduceIte, decide_eq_true_eq, reduceCtorEq, Nat.reduceAdd, Nat.reduceLT]
      refine ⟨h, l, 3, rfl, Sa, by decide, by decide, fun H2 r2 x2 S2 h20 h21 => ?_⟩
      simp only [tRet, tRetN, tAndV, tOrV, tNotV, tChain, rI, rI0, rU, tC, tCB, tCons, tNil, tVar, tOp, tUn, tTest, tB, tAnd, tOr, tNot, tIf, tIfS, tSeq, tAsg, tDrop, tNext, gName, gTup_ref, gCons_cons, gNil_nil, and_assoc, tYes, wipe, rEq, rNe, scal_ss, scal_ii, scal_bb, scal_ns, scal_sn, scal_nn, scal_in, scal_ni, tLc_eq, tFor_eq, iList, iTup, iStr, iRng1, iRng2, iZip, iEnum, gSub, tSl, rSetL_ref, rCat_ref, rRep_ref, rJoin_ref, rSlL_ref, rIxL_ref, rIxT_ref, rLenK_ref, rAll_ref, rIn_ref, tLst, tTup, tPar, tPar3, tAug, tPart, tNoPart, tCall, List.getElem?_cons_zero, List.getElem?_cons_succ, List.set_cons_zero, List.set_cons_succ, List.map_cons, List.map_nil, List.append_nil, List.nil_append, List.cons_append, Option.some.injEq, exists_eq_left', exists_eq_left, exists_eq_right, exists_eq_right', exists_eq', V.int.injEq, V.str.injEq, V.bl.injEq, V.ref.injEq, List.cons.injEq, tM0, tM1, rNewStrs, sgn_eq, split_dot, dot_len, sp_len, nl_len, cxOf_K, L2.start, List.length_cons, List.length_nil, List.replicate_succ, List.replicate_zero, Nat.reduceSub, Nat.zero_add, and_true, true_and, and_self, exists_and_left, exists_const, Bool.false_eq_true, if_false, if_true, ite_true, ite_false, reduceIte, decide_eq_true_eq, reduceCtorEq, Nat.reduceAdd, Nat.reduceLT]
      refine ⟨h, l, 6, 1 + r2, rfl, S2, by decide, by decide, by omega, by omega, fun H3 p x3 S3 hp hpl => ?_⟩
      simp only [tRet, tRetN, tAndV, tOrV, tNotV, tChain, rI, rI0, rU, tC, tCB, tCons, tNil, tVar, tOp, tUn, tTest, tB, tAnd, tOr, tNot, tIf, tIfS, tSeq, tAsg, tDrop, tNext, gName, gTup_ref, gCons_cons, gNil_nil, and_assoc, tYes, wipe, rEq, rNe, scal_ss, scal_ii, scal_bb, scal_ns, scal_sn, scal_nn, scal_in, scal_ni, tLc_eq, tFor_eq, iList, iTup, iStr, iRng1, iRng2, iZip, iEnum, gSub, tSl, rSetL_ref, rCat_ref, rRep_ref, rJoin_ref, rSlL_ref, rIxL_ref, rIxT_ref, rLenK_ref, rAll_ref, rIn_ref, tLst, tTup, tPar, tPar3, tAug, tPart, tNoPart, tCall, List.getElem?_cons_zero, List.getElem?_cons_succ, List.set_cons_zero, List.set_cons_succ, List.map_cons, List.map_nil, List.append_nil, List.nil_append, List.cons_append, Option.some.injEq, exists_eq_left', exists_eq_left, exists_eq_right, exists_eq_right', exists_eq', V.int.injEq, V.str.injEq, V.bl.injEq, V.ref.injEq, List.cons.injEq, tM0, tM1, rNewStrs, sgn_eq, split_dot, dot_len, sp_len, nl_len, cxOf_K, L2.start, List.length_cons, List.length_nil, List.replicate_succ, List.replicate_zero, Nat.reduceSub, Nat.zero_add, and_true, true_and, and_self, exists_and_left, exists_const, Bool.false_eq_true, if_false, if_true, ite_true, ite_false, reduceIte, decide_eq_true_eq, reduceCtorEq, Nat.reduceAdd, Nat.reduceLT]
      refine ⟨h, l, 3, rfl, S3, by decide, by decide, fun H4 r4 x4 S4 h40 h41 => ?_⟩
      simp only [tRet, tRetN, tAndV, tOrV, tNotV, tChain, rI, rI0, rU, tC, tCB, tCons, tNil, tVar, tOp, tUn, tTest, tB, tAnd, tOr, tNot, tIf, tIfS, tSeq, tAsg, tDrop, tNext, gName, gTup_ref, gCons_cons, gNil_nil, and_assoc, tYes, wipe, rEq, rNe, scal_ss, scal_ii, scal_bb, scal_ns, scal_sn, scal_nn, scal_in, scal_ni, tLc_eq, tFor_eq, iList, iTup, iStr, iRng1, iRng2, iZip, iEnum, gSub, tSl, rSetL_ref, rCat_ref, rRep_ref, rJoin_ref, rSlL_ref, rIxL_ref, rIxT_ref, rLenK_ref, rAll_ref, rIn_ref, tLst, tTup, tPar, tPar3, tAug, tPart, tNoPart, tCall, List.getElem?_cons_zero, List.getElem?_cons_succ, List.set_cons_zero, List.set_cons_succ, List.map_cons, List.map_nil, List.append_nil, List.nil_append, List.cons_append, Option.some.injEq, exists_eq_left', exists_eq_left, exists_eq_right, exists_eq_right', exists_eq', V.int.injEq, V.str.injEq, V.bl.injEq, V.ref.injEq, List.cons.injEq, tM0, tM1, rNewStrs, sgn_eq, split_dot, dot_len, sp_len, nl_len, cxOf_K, L2.start, List.length_cons, List.length_nil, List.replicate_succ, List.replicate_zero, Nat.reduceSub, Nat.zero_add, and_true, true_and, and_self, exists_and_left, exists_const, Bool.false_eq_true, if_false, if_true, ite_true, ite_false, reduceIte, decide_eq_true_eq, reduceCtorEq, Nat.reduceAdd, Nat.reduceLT]
      refine ⟨h, l, 6, 1 + r4, rfl, S4, by decide, by decide, by omega, by omega, fun H5 ws x5 S5 hne hwl hws => ?_⟩
      simp only [tRet, tRetN, tAndV, tOrV, tNotV, tChain, rI, rI0, rU, tC, tCB, tCons, tNil, tVar, tOp, tUn, tTest, tB, tAnd, tOr, tNot, tIf, tIfS, tSeq, tAsg, tDrop, tNext, gName, gTup_ref, gCons_cons, gNil_nil, and_assoc, tYes, wipe, rEq, rNe, scal_ss, scal_ii, scal_bb, scal_ns, scal_sn, scal_nn, scal_in, scal_ni, tLc_eq, tFor_eq, iList, iTup, iStr, iRng1, iRng2, iZip, iEnum, gSub, tSl, rSetL_ref, rCat_ref, rRep_ref, rJoin_ref, rSlL_ref, rIxL_ref, rIxT_ref, rLenK_ref, rAll_ref, rIn_ref, tLst, tTup, tPar, tPar3, tAug, tPart, tNoPart, tCall, List.getElem?_cons_zero, List.getElem?_cons_succ, List.set_cons_zero, List.set_cons_succ, List.map_cons, List.map_nil, List.append_nil, List.nil_append, List.cons_append, Option.some.injEq, exists_eq_left', exists_eq_left, exists_eq_right, exists_eq_right', exists_eq', V.int.injEq, V.str.injEq, V.bl.injEq, V.ref.injEq, List.cons.injEq, tM0, tM1, rNewStrs, sgn_eq, split_dot, dot_len, sp_len, nl_len, cxOf_K, L2.start, List.length_cons, List.length_nil, List.replicate_succ, List.replicate_zero, Nat.reduceSub, Nat.zero_add, and_true, true_and, and_self, exists_and_left, exists_const, Bool.false_eq_true, if_false, if_true, ite_true, ite_false, reduceIte, decide_eq_true_eq, reduceCtorEq, Nat.reduceAdd, Nat.reduceLT]
      have hjl := joinD_len (k := 4) fun w hw => (hws w hw).2.1
      have hli := isLine_join hne (by omega) fun w hw => few_word (hws w hw)
      refine ⟨p, _, rfl, by omega, by omega, fun _ _ H6 s6 => ⟨p, _, rfl, by omega, by omega, fun H7 s7 => ?_⟩, fun e => ?_, fun _ e => ?_⟩
      · simp only [tRet, tRetN, tAndV, tOrV, tNotV, tChain, rI, rI0, rU, tC, tCB, tCons, tNil, tVar, tOp, tUn, tTest, tB, tAnd, tOr, tNot, tIf, tIfS, tSeq, tAsg, tDrop, tNext, gName, gTup_ref, gCons_cons, gNil_nil, and_assoc, tYes, wipe, rEq, rNe, scal_ss, scal_ii, scal_bb, scal_ns, scal_sn, scal_nn, scal_in, scal_ni, tLc_eq, tFor_eq, iList, iTup, iStr, iRng1, iRng2, iZip, iEnum, gSub, tSl, rSetL_ref, rCat_ref, rRep_ref, rJoin_ref, rSlL_ref, rIxL_ref, rIxT_ref, rLenK_ref, rAll_ref, rIn_ref, tLst, tTup, tPar, tPar3, tAug, tPart, tNoPart, tCall, List.getElem?_cons_zero, List.getElem?_cons_succ, List.set_cons_zero, List.set_cons_succ, List.map_cons, List.map_nil, List.append_nil, List.nil_append, List.cons_append, Option.some.injEq, exists_eq_left', exists_eq_left, exists_eq_right, exists_eq_right', exists_eq', V.int.injEq, V.str.injEq, V.bl.injEq, V.ref.injEq, List.cons.injEq, tM0, tM1, rNewStrs, sgn_eq, split_dot, dot_len, sp_len, nl_len, cxOf_K, L2.start, List.length_cons, List.length_nil, List.replicate_succ, List.replicate_zero, Nat.reduceSub, Nat.zero_add, and_true, true_and, and_self, exists_and_left, exists_const, Bool.false_eq_true, if_false, if_true, ite_true, ite_false, reduceIte, decide_eq_true_eq, reduceCtorEq, Nat.reduceAdd, Nat.reduceLT]
        have S7 : SrcOk H7 h l := by
          obtain ⟨m, pp, cs, e1, e2, r⟩ := S5
          exact ⟨m, pp, cs, s7 _ _ (s6 _ _ e1), s7 _ _ (s6 _ _ e2), r⟩
        simp only [decide_true, Bool.not_true, Bool.false_eq_true, if_false]
        exact S7
      · rw [hp] at e; cases e
      · rw [hli] at e; cases e
    · obtain ⟨c, d, e, rfl, Sa⟩ := hP
      simp only [tRet, tRetN, tAndV, tOrV, tNotV, tChain, rI, rI0, rU, tC, tCB, tCons, tNil, tVar, tOp, tUn, tTest, tB, tAnd, tOr, tNot, tIf, tIfS, tSeq, tAsg, tDrop, tNext, gName, gTup_ref, gCons_cons, gNil_nil, and_assoc, tYes, wipe, rEq, rNe, scal_ss, scal_ii, scal_bb, scal_ns, scal_sn, scal_nn, scal_in, scal_ni, tLc_eq, tFor_eq, iList, iTup, iStr, iRng1, iRng2, iZip, iEnum, gSub, tSl, rSetL_ref, rCat_ref, rRep_ref, rJoin_ref, rSlL_ref, rIxL_ref, rIxT_ref, rLenK_ref, rAll_ref, rIn_ref, tLst, tTup, tPar, tPar3, tAug, tPart, tNoPart, tCall, List.getElem?_cons_zero, List.getElem?_cons_succ, List.set_cons_zero, List.set_cons_succ, List.map_cons, List.map_nil, List.append_nil, List.nil_append, List.cons_append, Option.some.injEq, exists_eq_left', exists_eq_left, exists_eq_right, exists_eq_right', exists_eq', V.int.injEq, V.str.injEq, V.bl.injEq, V.ref.injEq, List.cons.injEq, tM0, tM1, rNewStrs, sgn_eq, split_dot, dot_len, sp_len, nl_len, cxOf_K, L2.start, List.length_cons, List.length_nil, List.replicate_succ, List.replicate_zero, Nat.reduceSub, Nat.zero_add, and_true, true_and, and_self, exists_and_left, exists_const, Bool.false_eq_true, if_false, if_true, ite_true, ite_false, reduceIte, decide_eq_true_eq, reduceCtorEq, Nat.reduceAdd, Nat.reduceLT]
      exact q _
end
/-! ### the head -/
abbrev Rw : PySem.W.OpenRow := PySem.W.OpenLaw.row PySem.Challenge.rw_hearken_k02_which_lines_fit
abbrev hk : PySem.W.Hook := He.hookD 5 fa fn
def ob (s : PySem.W.SharedT) : He.AlD := He.obsDG 5 fa fn (HandSHeadRun.getT s)
theorem ob_eq (s : PySem.W.SharedT) : ob s = hk.obs s.abs := He.obsDG_eq (HandSHeadRun.getT_eq s)
def loose : List Str := ["HearError", "BadLine", "BadPattern", "LETTERS", "MOST_LETTERS", "MOST_WORDS", "ANY", "REST", "is_word", "is_line", "is_pattern", "need_line", "need_pattern", "of_length", "does_fit", "fits", "_law_mix", "_law_next", "_law_parts", "_law_fits", "_law_line", "_law_pattern"]
theorem run (w : World) : HandSHeadRun.RunEq Rw (PySem.W.view Rw.prog [25]) hk ob 4000 loose w := by
  intro os
  kernel_rfl
end Hk
open PySem PySem.W PySem.Calls PyProof.Rows
theorem PySem.Challenge.cw_hearken_k02_which_lines_fit_holds : PySem.Challenge.rw_hearken_k02_which_lines_fit.Holds := by
  w_on; o_law
  refine HandSHeadRun.head_any (r := OpenLaw.row PySem.Challenge.rw_hearken_k02_which_lines_fit) (q := view (OpenLaw.row PySem.Challenge.rw_hearken_k02_which_lines_fit).prog [25]) (H := Hk.hk) (ob := Hk.ob) (M := 4000) (loose := Hk.loose) (d := HandSHeadRun.topDef (OpenLaw.row PySem.Challenge.rw_hearken_k02_which_lines_fit).prog 25) (kwd := []) Hk.ob_eq
    (by kernel_rfl) (fun s => by kernel_rfl) Hk.run (by kernel_rfl) (by kernel_rfl) (by kernel_rfl) (by rfl) (by first | assumption | decide +kernel) (by decide +kernel) ⟨rfl, rfl, rfl, rfl, rfl, by decide +kernel⟩ ?hw ?hc
  case hw => w_witness2
  case hc =>
    refine L2.walk_ofE (l := PySem.Challenge.rw_hearken_k02_which_lines_fit) (n := 63) (k := 6) (x := "_law_script") (CX := L2.CX0) rfl (by decide) (by kernel_rfl) ⟨rfl, by decide, by decide⟩ ?F (fun _ _ _ _ z => z)
    intro w mg fa h Y G hmg0
    obtain ⟨K, KX, c⟩ := Y
    have hmg : mg ("law" : PySem.Str) = some (.ref fa) := by
      have e : (HandSHeadRun.topDef (OpenLaw.row PySem.Challenge.rw_hearken_k02_which_lines_fit).prog 25).name = ("law" : PySem.Str) := by kernel_rfl
      rw [← e]
      exact hmg0
    have T : Hk.Tx K mg := ⟨h, KX, G, c⟩
    obtain ⟨fd, F⟩ := T.f_law
    have ef := hmg.symm.trans T.g_law
    cases ef
    have b := L2.FunD.bindsA (ps := ["_law_script"]) F fun _ _ _ _ _ _ us hl => match us, hl with | [_], _ => rfl
    exact ⟨K, fd, Hk.sp_law K, KX, fun s v => b s [v] rfl, fun H a ns hl _ hS => ⟨a, ns, rfl, hS, hl, fun _ => rfl⟩, fun base _ _ => Hk.F_law_ok T F⟩

